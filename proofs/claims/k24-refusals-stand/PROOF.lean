import PyProof.Rows.All
import Wide.All
import OpenK.AllK
import Wide.FinOn
import HandS.ForMost
import HandS.ForExc
import HandS.Wide
import HandS.IsInst
import HandS.TryMany
import HandS.Zip
import HandS.ExcValue
import HandS.ExcInit
import HandS.Conv
import HandS.ExcOwn
import PyProof.ExcBaseAll.ValueError
import HandS.Comp
import PyProof.LongRange
import HandS.SortRule
import HandS.SortInts
import HandS.Iter
import HandS.TupLe
import HandS.More
import HandS.Text
import HandS.Style
import HandS.StrMore
import HandS.SetFor
import KE.OsHead
import HandS.Defaults
import HandS.Head0
import HandS.Head1
import HandS.Head2
import HandS.HeadEnd
import HandS.HeadHook1
import HandS.HeadHook2
import HandS.HeadHook3
import HandS.HeadHook4
import HandS.Deep
import HandS.ExcField
import HandS.ExcIs
import HandS.Remove
import PySem.Challenge.RW_inkroot_k24_refusals_stand
set_option Elab.async false
set_option linter.all false
set_option maxRecDepth 100000
set_option maxHeartbeats 0
namespace PV
open PySem L2
inductive Fl where | own | bor | fz
 deriving DecidableEq
inductive Kd where | lst (f : Fl) | tup | dct (f : Fl) (ks : List Key) | dtp (f : Fl) (ks : List (List Key)) | ins (f : Fl) (c : Str) (ns : List Str)
 deriving DecidableEq
inductive D where | un | non | bl (b : Bool) | int (i : Int) | str (s : Str) | scr (ns : List Int) | exc (c : Str) (w : Option (Str × List Int)) | nd (k : Kd) (xs : List D)
abbrev D.lst (f : Fl) (xs : List D) : D := .nd (.lst f) xs
abbrev D.tup (xs : List D) : D := .nd .tup xs
def Kd.fl : Kd → Option Fl
 | .lst f => some f
 | .tup => none
 | .dct f _ => some f
 | .dtp f _ => some f
 | .ins f _ _ => some f
def Kd.with (g : Fl) : Kd → Kd
 | .lst _ => .lst g
 | .tup => .tup
 | .dct _ ks => .dct g ks
 | .dtp _ ks => .dtp g ks
 | .ins _ c ns => .ins g c ns
abbrev Ct := Addr → Nat
def one (a : Addr) : Ct := fun b => if b = a then 1 else 0
theorem one_self (a : Addr) : one a a = 1 := if_pos rfl
theorem one_ne {a b : Addr} (h : b ≠ a) : one a b = 0 := if_neg h
structure Gd where
 K : PySem.W.Frag
 CA : Str → Option Addr
 H : Hp
 Z : Addr → Prop
 B : Addr → Prop
def HoK (CA : Str → Option Addr) (H : Hp) (a : Addr) (vs : List V) : Kd → Prop
 | .lst _ => H a = some (.lst vs)
 | .tup => H a = some (.tup vs)
 | .dct _ ks => ks.length = vs.length ∧ H a = some (.dK (ks.zip vs))
 | .dtp _ ks => ks.length = vs.length ∧ H a = some (.dT (ks.zip vs))
 | .ins _ c ns => ns.length = vs.length ∧ ∃ C dx, CA c = some C ∧ H a = some (.ins C dx (ns.zip vs))
def NdOk (G : Gd) (a : Addr) (os os' : Ct) : Option Fl → Prop
 | none => ¬ G.Z a ∧ ∀ b, os b = os' b
 | some .own => G.Z a ∧ ¬ G.B a ∧ ∀ b, os b = one a b + os' b
 | some .bor => ¬ G.Z a ∧ (∀ b, os' b = 0) ∧ ∀ b, os b = 0
 | some .fz => ¬ G.Z a ∧ ¬ G.B a ∧ (∀ b, os' b = 0) ∧ ∀ b, os b = 0
def ExcAt (G : Gd) (c : Str) (a : Addr) : Option (Str × List Int) → Prop
 | none => ∃ C, G.CA c = some C ∧ G.H a = some (ExO (.ref C) a) ∧ ¬ G.Z a ∧ ¬ G.B a
 | some (f, ns) => ∃ C d l, G.CA c = some C ∧ G.H a = some (exo a C (some d)) ∧ G.H d = some (exd d [(f, .ref l)]) ∧ G.H l = some (.lst (ns.map V.int)) ∧ (¬ G.Z a ∧ ¬ G.B a) ∧ (¬ G.Z d ∧ ¬ G.B d) ∧ ¬ G.Z l ∧ ¬ G.B l
theorem ExcAt.to {G G' : Gd} {c : Str} {a : Addr} {w : Option (Str × List Int)} (q : ExcAt G c a w) (ca : G'.CA = G.CA) (h : ∀ b o, G.H b = some o → ¬ G.Z b → ¬ G.B b → G'.H b = some o ∧ ¬ G'.Z b ∧ ¬ G'.B b) : ExcAt G' c a w := by
 cases w with
 | none =>
   obtain ⟨C, h1, h2, h3, h4⟩ := q
   obtain ⟨k1, k2, k3⟩ := h a _ h2 h3 h4
   exact ⟨C, by rw [ca]; exact h1, k1, k2, k3⟩
 | some p =>
   obtain ⟨f, ns⟩ := p
   obtain ⟨C, d, l, h1, h2, h3, h4, h5, h6, h7⟩ := q
   obtain ⟨k1, k2⟩ := h a _ h2 h5.1 h5.2
   obtain ⟨k3, k4⟩ := h d _ h3 h6.1 h6.2
   obtain ⟨k5, k6⟩ := h l _ h4 h7.1 h7.2
   exact ⟨C, d, l, by rw [ca]; exact h1, k1, k3, k5, k2, k4, k6⟩
mutual
inductive Rp (G : Gd) : D → V → Ct → Prop
 | un {v : V} {os : Ct} : (∀ b, os b = 0) → Rp G .un v os
 | non {os : Ct} : (∀ b, os b = 0) → Rp G .non .non os
 | bl {x : Bool} {os : Ct} : (∀ b, os b = 0) → Rp G (.bl x) (.bl x) os
 | int {i : Int} {os : Ct} : (∀ b, os b = 0) → Rp G (.int i) (.int i) os
 | str {s : Str} {os : Ct} : (∀ b, os b = 0) → Rp G (.str s) (.str s) os
 | scr {ns : List Int} {a : Addr} {os : Ct} : ((Rd G.H a (.lst (ns.map V.int)) ∧ ¬ G.Z a) ∨ ∀ H, SqL G.K H a (ns.map V.int)) → (∀ b, os b = 0) → Rp G (.scr ns) (.ref a) os
 | exc {c : Str} {w : Option (Str × List Int)} {a : Addr} {os : Ct} : ExcAt G c a w → (∀ b, os b = 0) → Rp G (.exc c w) (.ref a) os
 | nd {k : Kd} {xs : List D} {a : Addr} {vs : List V} {os os' : Ct} : HoK G.CA G.H a vs k → RpL G xs vs os' → NdOk G a os os' k.fl → Rp G (.nd k xs) (.ref a) os
inductive RpL (G : Gd) : List D → List V → Ct → Prop
 | nil {os : Ct} : (∀ b, os b = 0) → RpL G [] [] os
 | cons {d : D} {v : V} {xs : List D} {vs : List V} {os o1 o2 : Ct} : Rp G d v o1 → RpL G xs vs o2 → (∀ b, os b = o1 b + o2 b) → RpL G (d :: xs) (v :: vs) os
end
theorem Rp.ct {G : Gd} {d : D} {v : V} {os os' : Ct} (r : Rp G d v os) (h : ∀ b, os' b = os b) : Rp G d v os' := by
 have : os' = os := funext h
 rw [this]; exact r
theorem RpL.ct {G : Gd} {d : List D} {v : List V} {os os' : Ct} (r : RpL G d v os) (h : ∀ b, os' b = os b) : RpL G d v os' := by
 have : os' = os := funext h
 rw [this]; exact r
theorem RpL.len {G : Gd} : ∀ {xs : List D} {vs : List V} {os : Ct}, RpL G xs vs os → xs.length = vs.length
 | _, _, _, .nil _ => rfl
 | _, _, _, .cons _ r _ => by simp [RpL.len r]
theorem RpL.app {G : Gd} : ∀ {xs ys : List D} {vs ws : List V} {o1 o2 os : Ct}, RpL G xs vs o1 → RpL G ys ws o2 → (∀ b, os b = o1 b + o2 b) → RpL G (xs ++ ys) (vs ++ ws) os
 | _, _, _, _, o1, o2, os, .nil h0, r, h => r.ct fun b => by rw [h, h0]; (try dsimp only at *); omega
 | _, _, _, _, o1, o2, os, .cons (o1 := a) (o2 := c) r t h0, q, h => .cons (o2 := fun b => c b + o2 b) r (RpL.app t q fun _ => rfl) fun b => by rw [h, h0]; (try dsimp only at *); omega
theorem RpL.cut {G : Gd} : ∀ {xs ys : List D} {vs ws : List V} {os : Ct}, xs.length = vs.length → RpL G (xs ++ ys) (vs ++ ws) os → ∃ o1 o2, RpL G xs vs o1 ∧ RpL G ys ws o2 ∧ ∀ b, os b = o1 b + o2 b
 | [], _, [], _, os, _, r => ⟨fun _ => 0, os, .nil fun _ => rfl, r, fun b => by simp⟩
 | _ :: _, _, _ :: _, _, _, hl, .cons r t h => by
   obtain ⟨o1, o2, r1, r2, e⟩ := RpL.cut (by simpa using hl) t
   exact ⟨_, o2, .cons r r1 fun _ => rfl, r2, fun b => by rw [h, e]; (try dsimp only at *); omega⟩
theorem RpL.one {G : Gd} {d : D} {v : V} {os : Ct} (r : Rp G d v os) : RpL G [d] [v] os := .cons (o2 := fun _ => 0) r (.nil fun _ => rfl) fun b => by simp
theorem RpL.of1 {G : Gd} {d : D} {v : V} {os : Ct} (r : RpL G [d] [v] os) : Rp G d v os := by
 cases r with
 | cons r t h => cases t with | nil h0 => exact r.ct fun b => by rw [h, h0]; (try dsimp only at *); omega
theorem RpL.at {G : Gd} : ∀ {xs : List D} {vs : List V} {os : Ct} {j : Nat} {d : D}, RpL G xs vs os → xs[j]? = some d → ∃ (v : V) (od orr : Ct), vs[j]? = some v ∧ Rp G d v od ∧ (∀ b, os b = od b + orr b) ∧
   ∀ (d' : D) (v' : V) (od' os' : Ct), Rp G d' v' od' → (∀ b, os' b = od' b + orr b) → RpL G (xs.set j d') (vs.set j v') os'
 | _, _, _, 0, _, .cons (o2 := o2) r t h, e => by
   simp at e; subst e
   exact ⟨_, _, o2, rfl, r, h, fun d' v' od' os' r' h' => .cons r' t h'⟩
 | _, _, _, j + 1, _, .cons (o1 := o1) r t h, e => by
   obtain ⟨v, od, orr, e1, r1, h1, k⟩ := RpL.at (j := j) t (by simpa using e)
   refine ⟨v, od, fun b => o1 b + orr b, by simpa using e1, r1, fun b => by rw [h, h1]; (try dsimp only at *); omega, fun d' v' od' os' r' h' => ?_⟩
   exact .cons (o2 := fun b => od' b + orr b) r (k d' v' od' _ r' fun _ => rfl) fun b => by rw [h']; (try dsimp only at *); omega
theorem list_set_same {α : Type} : ∀ {l : List α} {i : Nat} {a : α}, l[i]? = some a → l.set i a = l
 | [], _, _, h => by simp at h
 | _ :: _, 0, _, h => by simp at h; subst h; rfl
 | _ :: _, i + 1, _, h => by simp at h; simp [list_set_same h]
structure Gd.To (G G' : Gd) (os : Ct) : Prop where
 k : G'.K = G.K
 ca : G'.CA = G.CA
 h : ∀ b o, G.H b = some o → (0 < os b ∨ ¬ G.Z b) → G'.H b = some o
 z : ∀ b o, G.H b = some o → ¬ G.Z b → ¬ G'.Z b
 o : ∀ b, 0 < os b → G'.Z b ∧ ¬ G'.B b
 b : ∀ b o, G.H b = some o → ¬ G.Z b → ¬ G.B b → ¬ G'.B b
theorem Gd.To.sub {G G' : Gd} {os os' : Ct} (t : Gd.To G G' os) (h : ∀ b, 0 < os' b → 0 < os b) : Gd.To G G' os' :=
 ⟨t.k, t.ca, fun b o e q => t.h b o e (q.imp (h b) id), t.z, fun b q => t.o b (h b q), t.b⟩
theorem HoK.dom {CA : Str → Option Addr} {H : Hp} {a : Addr} {vs : List V} {k : Kd} (h : HoK CA H a vs k) : ∃ o, H a = some o := by
 cases k with
 | lst f => exact ⟨_, h⟩
 | tup => exact ⟨_, h⟩
 | dct f ks => exact ⟨_, h.2⟩
 | dtp f ks => exact ⟨_, h.2⟩
 | ins f c ns => obtain ⟨_, _, _, _, e⟩ := h; exact ⟨_, e⟩
theorem HoK.to {CA : Str → Option Addr} {H H' : Hp} {a : Addr} {vs : List V} {k : Kd} (h : HoK CA H a vs k) (e : ∀ o, H a = some o → H' a = some o) : HoK CA H' a vs k := by
 cases k with
 | lst f => exact e _ h
 | tup => exact e _ h
 | dct f ks => exact ⟨h.1, e _ h.2⟩
 | dtp f ks => exact ⟨h.1, e _ h.2⟩
 | ins f c ns => obtain ⟨l, C, dx, hc, q⟩ := h; exact ⟨l, C, dx, hc, e _ q⟩
mutual
theorem Rp.mono {G G' : Gd} : ∀ {d : D} {v : V} {os : Ct}, Rp G d v os → Gd.To G G' os → Rp G' d v os
 | _, _, _, .un h, _ => .un h
 | _, _, _, .non h, _ => .non h
 | _, _, _, .bl h, _ => .bl h
 | _, _, _, .int h, _ => .int h
 | _, _, _, .str h, _ => .str h
 | _, _, _, .exc (a := a) q h, t => .exc (q.to t.ca fun b o e z n => ⟨t.h b o e (.inr z), t.z b o e z, t.b b o e z n⟩) h
 | _, _, _, .scr (a := a) q h, t => by
   refine .scr ?_ h
   rcases q with ⟨q, z⟩ | q
   · refine .inl ⟨?_, ?_⟩
     · rcases q with q | ⟨o, q⟩
       · exact .inl (t.h a _ q (.inr z))
       · exact .inr ⟨o, t.h a _ q (.inr z)⟩
     · rcases q with q | ⟨o, q⟩
       · exact t.z a _ q z
       · exact t.z a _ q z
   · exact .inr fun H => by rw [t.k]; exact q H
 | _, _, _, .nd (k := k) (a := a) (os := os) (os' := os') hk r n, t => by
   obtain ⟨o, ho⟩ := hk.dom
   revert n
   generalize hfl : k.fl = f
   intro n
   match f, n with
   | none, n =>
     refine .nd (os' := os') (by rw [t.ca]; exact hk.to fun o e => t.h a o e (.inr n.1)) (RpL.mono r (t.sub fun b hb => by rw [n.2]; exact hb)) ?_
     rw [hfl]; exact ⟨t.z a o ho n.1, n.2⟩
   | some .own, n =>
     have p : 0 < os a := by rw [n.2.2, one_self]; (try dsimp only at *); omega
     refine .nd (os' := os') (by rw [t.ca]; exact hk.to fun o e => t.h a o e (.inl p)) (RpL.mono r (t.sub fun b hb => by rw [n.2.2]; (try dsimp only at *); omega)) ?_
     rw [hfl]; exact ⟨(t.o a p).1, (t.o a p).2, n.2.2⟩
   | some .bor, n =>
     refine .nd (os' := os') (by rw [t.ca]; exact hk.to fun o e => t.h a o e (.inr n.1)) (RpL.mono r (t.sub fun b hb => by have := n.2.1 b; (try dsimp only at *); omega)) ?_
     rw [hfl]; exact ⟨t.z a o ho n.1, n.2⟩
   | some .fz, n =>
     refine .nd (os' := os') (by rw [t.ca]; exact hk.to fun o e => t.h a o e (.inr n.1)) (RpL.mono r (t.sub fun b hb => by have := n.2.2.1 b; (try dsimp only at *); omega)) ?_
     rw [hfl]; exact ⟨t.z a o ho n.1, t.b a o ho n.1 n.2.1, n.2.2⟩
theorem RpL.mono {G G' : Gd} : ∀ {xs : List D} {vs : List V} {os : Ct}, RpL G xs vs os → Gd.To G G' os → RpL G' xs vs os
 | _, _, _, .nil h, _ => .nil h
 | _, _, _, .cons (o1 := o1) (o2 := o2) r t h, g => .cons (Rp.mono r (g.sub fun b hb => by rw [h]; (try dsimp only at *); omega)) (RpL.mono t (g.sub fun b hb => by rw [h]; (try dsimp only at *); omega)) h
end
mutual
theorem Rp.dom {G : Gd} : ∀ {d : D} {v : V} {os : Ct}, Rp G d v os → ∀ b, 0 < os b → (∃ o, G.H b = some o) ∧ G.Z b ∧ ¬ G.B b
 | _, _, _, .un h, b, p | _, _, _, .non h, b, p | _, _, _, .bl h, b, p | _, _, _, .int h, b, p | _, _, _, .str h, b, p | _, _, _, .scr _ h, b, p | _, _, _, .exc _ h, b, p => by rw [h] at p; (try dsimp only at *); omega
 | _, _, _, .nd (k := k) (a := a) (os := os) (os' := os') hk r n, b, p => by
   revert n
   generalize k.fl = f
   intro n
   match f, n with
   | none, n => exact RpL.dom r b (by rw [← n.2]; exact p)
   | some .own, n =>
     by_cases hb : b = a
     · subst hb; exact ⟨hk.dom, n.1, n.2.1⟩
     · exact RpL.dom r b (by have := n.2.2 b; rw [one_ne hb] at this; (try dsimp only at *); omega)
   | some .bor, n => have := n.2.2 b; (try dsimp only at *); omega
   | some .fz, n => have := n.2.2.2 b; (try dsimp only at *); omega
theorem RpL.dom {G : Gd} : ∀ {xs : List D} {vs : List V} {os : Ct}, RpL G xs vs os → ∀ b, 0 < os b → (∃ o, G.H b = some o) ∧ G.Z b ∧ ¬ G.B b
 | _, _, _, .nil h, b, p => by rw [h] at p; (try dsimp only at *); omega
 | _, _, _, .cons (o1 := o1) r t h, b, p => by
   by_cases q : 0 < o1 b
   · exact Rp.dom r b q
   · exact RpL.dom t b (by rw [h] at p; (try dsimp only at *); omega)
end
mutual
def D.set (g : Fl) : D → D
 | .nd k xs => .nd (if k.fl = some .own then k.with g else k) (D.setL g xs)
 | d => d
def D.setL (g : Fl) : List D → List D
 | [] => []
 | d :: r => D.set g d :: D.setL g r
end
abbrev D.frz : D → D := D.set .fz
abbrev D.len : D → D := D.set .bor
theorem D.setL_map (g : Fl) : ∀ xs : List D, D.setL g xs = xs.map (D.set g)
 | [] => rfl
 | d :: r => by simp [D.setL, D.setL_map g r]
theorem HoK.with {CA : Str → Option Addr} {H : Hp} {a : Addr} {vs : List V} {k : Kd} {g : Fl} (h : HoK CA H a vs k) : HoK CA H a vs (k.with g) := by
 cases k <;> exact h
theorem Kd.fl_with {k : Kd} {f g : Fl} (h : k.fl = some f) : (k.with g).fl = some g := by
 cases k <;> first | rfl | cases h
structure Gd.Fr (G G' : Gd) (g : Fl) (os : Ct) : Prop where
 k : G'.K = G.K
 ca : G'.CA = G.CA
 h : ∀ b o, G.H b = some o → (0 < os b ∨ ¬ G.Z b) → G'.H b = some o
 z : ∀ b o, G.H b = some o → ¬ G.Z b → ¬ G'.Z b
 o : ∀ b, 0 < os b → ¬ G'.Z b ∧ (g = .fz → ¬ G'.B b)
 b : ∀ b o, G.H b = some o → ¬ G.Z b → ¬ G.B b → ¬ G'.B b
 n : g ≠ .own
theorem Gd.Fr.sub {G G' : Gd} {g : Fl} {os os' : Ct} (t : Gd.Fr G G' g os) (h : ∀ b, 0 < os' b → 0 < os b) : Gd.Fr G G' g os' :=
 ⟨t.k, t.ca, fun b o e q => t.h b o e (q.imp (h b) id), t.z, fun b q => t.o b (h b q), t.b, t.n⟩
mutual
theorem Rp.frz {G G' : Gd} {g : Fl} : ∀ {d : D} {v : V} {os : Ct}, Rp G d v os → Gd.Fr G G' g os → Rp G' (D.set g d) v (fun _ => 0)
 | _, _, _, .un h, _ => by simp only [D.set]; exact .un fun _ => rfl
 | _, _, _, .non h, _ => by simp only [D.set]; exact .non fun _ => rfl
 | _, _, _, .bl h, _ => by simp only [D.set]; exact .bl fun _ => rfl
 | _, _, _, .int h, _ => by simp only [D.set]; exact .int fun _ => rfl
 | _, _, _, .str h, _ => by simp only [D.set]; exact .str fun _ => rfl
 | _, _, _, .exc (a := a) q h, t => by
   simp only [D.set]
   exact .exc (q.to t.ca fun b o e z n => ⟨t.h b o e (.inr z), t.z b o e z, t.b b o e z n⟩) fun _ => rfl
 | _, _, _, .scr (a := a) q h, t => by
   simp only [D.set]
   refine .scr ?_ fun _ => rfl
   rcases q with ⟨q, z⟩ | q
   · refine .inl ⟨?_, ?_⟩
     · rcases q with q | ⟨o, q⟩
       · exact .inl (t.h a _ q (.inr z))
       · exact .inr ⟨o, t.h a _ q (.inr z)⟩
     · rcases q with q | ⟨o, q⟩
       · exact t.z a _ q z
       · exact t.z a _ q z
   · exact .inr fun H => by rw [t.k]; exact q H
 | _, _, _, .nd (k := k) (a := a) (os := os) (os' := os') hk r n, t => by
   obtain ⟨o, ho⟩ := hk.dom
   simp only [D.set]
   revert n
   generalize hfl : k.fl = f
   intro n
   match f, n with
   | none, n =>
     rw [if_neg (by simp)]
     refine .nd (os' := fun _ => 0) (by rw [t.ca]; exact hk.to fun o e => t.h a o e (.inr n.1)) (RpL.frz r (t.sub fun b hb => by rw [n.2]; exact hb)) ?_
     rw [hfl]; exact ⟨t.z a o ho n.1, fun _ => rfl⟩
   | some .own, n =>
     have p : 0 < os a := by rw [n.2.2, one_self]; (try dsimp only at *); omega
     rw [if_pos rfl]
     refine .nd (os' := fun _ => 0) (by rw [t.ca]; exact (hk.to fun o e => t.h a o e (.inl p)).with) (RpL.frz r (t.sub fun b hb => by rw [n.2.2]; (try dsimp only at *); omega)) ?_
     rw [Kd.fl_with hfl]
     match g, t with
     | .own, t => exact absurd rfl t.n
     | .bor, t => exact ⟨(t.o a p).1, fun _ => rfl, fun _ => rfl⟩
     | .fz, t => exact ⟨(t.o a p).1, (t.o a p).2 rfl, fun _ => rfl, fun _ => rfl⟩
   | some .bor, n =>
     rw [if_neg (by simp)]
     refine .nd (os' := fun _ => 0) (by rw [t.ca]; exact hk.to fun o e => t.h a o e (.inr n.1)) (RpL.frz r (t.sub fun b hb => by have := n.2.1 b; (try dsimp only at *); omega)) ?_
     rw [hfl]; exact ⟨t.z a o ho n.1, fun _ => rfl, fun _ => rfl⟩
   | some .fz, n =>
     rw [if_neg (by simp)]
     refine .nd (os' := fun _ => 0) (by rw [t.ca]; exact hk.to fun o e => t.h a o e (.inr n.1)) (RpL.frz r (t.sub fun b hb => by have := n.2.2.1 b; (try dsimp only at *); omega)) ?_
     rw [hfl]; exact ⟨t.z a o ho n.1, t.b a o ho n.1 n.2.1, fun _ => rfl, fun _ => rfl⟩
theorem RpL.frz {G G' : Gd} {g : Fl} : ∀ {xs : List D} {vs : List V} {os : Ct}, RpL G xs vs os → Gd.Fr G G' g os → RpL G' (D.setL g xs) vs (fun _ => 0)
 | _, _, _, .nil h, _ => by simp only [D.setL]; exact .nil fun _ => rfl
 | _, _, _, .cons (o1 := o1) (o2 := o2) r t h, q => by
   simp only [D.setL]
   exact .cons (Rp.frz r (q.sub fun b hb => by rw [h]; (try dsimp only at *); omega)) (RpL.frz t (q.sub fun b hb => by rw [h]; (try dsimp only at *); omega)) fun _ => rfl
end
abbrev Pth := List Nat
def getP : D → Pth → Option D
 | d, [] => some d
 | .nd _ xs, j :: p => match xs[j]? with
   | some x => getP x p
   | none => none
 | _, _ :: _ => none
def setP : D → Pth → D → D
 | _, [], e => e
 | .nd k xs, j :: p, e => match xs[j]? with
   | some x => .nd k (xs.set j (setP x p e))
   | none => .nd k xs
 | d, _ :: _, _ => d
def hoVals : HO → List V
 | .lst xs => xs
 | .tup xs => xs
 | .dK kvs => kvs.map (·.2)
 | .dT kvs => kvs.map (·.2)
 | .ins _ _ fs => fs.map (·.2)
 | _ => []
def HPt (H : Hp) : V → Pth → V → Prop
 | v, [], u => v = u
 | v, j :: p, u => ∃ a o w, v = .ref a ∧ H a = some o ∧ (hoVals o)[j]? = some w ∧ HPt H w p u
theorem HPt.fn {H : Hp} : ∀ {p : Pth} {v u u' : V}, HPt H v p u → HPt H v p u' → u = u'
 | [], _, _, _, h, h' => h.symm.trans h'
 | j :: p, _, _, _, ⟨a, o, w, e, ho, hw, h⟩, ⟨a', o', w', e', ho', hw', h'⟩ => by
   subst e; cases e'
   rw [ho] at ho'; cases ho'
   rw [hw] at hw'; cases hw'
   exact HPt.fn h h'
theorem HPt.same {H H' : Hp} (s : Same H H') : ∀ {p : Pth} {v u : V}, HPt H v p u → HPt H' v p u
 | [], _, _, h => h
 | j :: p, _, _, ⟨a, o, w, e, ho, hw, h⟩ => ⟨a, o, w, e, s _ _ ho, hw, HPt.same s h⟩
theorem HPt.snoc {H : Hp} {j : Nat} {u : V} {a : Addr} {o : HO} (ho : H a = some o) (hj : (hoVals o)[j]? = some u) : ∀ {p : Pth} {v : V}, HPt H v p (.ref a) → HPt H v (p ++ [j]) u
 | [], _, h => ⟨a, o, u, h, ho, hj, rfl⟩
 | _ :: p, _, ⟨a', o', w, e, ho', hw, h⟩ => ⟨a', o', w, e, ho', hw, HPt.snoc ho hj h⟩
theorem HoK.vals {CA : Str → Option Addr} {H : Hp} {a : Addr} {vs : List V} {k : Kd} (h : HoK CA H a vs k) : ∃ o, H a = some o ∧ hoVals o = vs := by
 cases k with
 | lst f => exact ⟨_, h, rfl⟩
 | tup => exact ⟨_, h, rfl⟩
 | dct f ks => exact ⟨_, h.2, by simp [hoVals, List.map_snd_zip, h.1]⟩
 | dtp f ks => exact ⟨_, h.2, by simp [hoVals, List.map_snd_zip, h.1]⟩
 | ins f c ns => obtain ⟨l, C, dx, _, q⟩ := h; exact ⟨_, q, by simp [hoVals, List.map_snd_zip, l]⟩
def spOk : D → Pth → Bool
 | _, [] => true
 | .nd k xs, j :: p => (k.fl == none || k.fl == some .own) && match xs[j]? with
   | some x => spOk x p
   | none => false
 | _, _ :: _ => false
theorem Rp.path {G : Gd} : ∀ {p : Pth} {d e : D} {v : V} {os : Ct}, Rp G d v os → getP d p = some e → ∃ (u : V) (oe orr : Ct), HPt G.H v p u ∧ Rp G e u oe ∧ (∀ b, os b = oe b + orr b) ∧ ((∃ b, 0 < oe b) → spOk d p = true) ∧
   ∀ (e' : D) (oe' os' : Ct), Rp G e' u oe' → ((∀ b, oe' b = 0) ∨ spOk d p = true) → (∀ b, os' b = oe' b + orr b) → Rp G (setP d p e') v os'
 | [], d, e, v, os, r, h => by
   simp [getP] at h; subst h
   exact ⟨v, os, fun _ => 0, rfl, r, fun b => by simp, fun _ => by simp [spOk], fun e' oe' os' r' _ h' => by simp only [setP]; exact r'.ct fun b => by rw [h']; (try dsimp only at *); omega⟩
 | j :: p, d, e, v, os, r, h => by
   cases r with
   | un => simp [getP] at h
   | non => simp [getP] at h
   | bl => simp [getP] at h
   | int => simp [getP] at h
   | str => simp [getP] at h
   | scr => simp [getP] at h
   | exc => simp [getP] at h
   | nd hk rl n =>
     rename_i k xs a vs os'
     simp only [getP] at h
     cases q : xs[j]? with
     | none => rw [q] at h; simp at h
     | some x =>
       rw [q] at h; simp only at h
       obtain ⟨w, ox, oxr, hw, rx, hx, kx⟩ := rl.at q
       obtain ⟨u, oe, orr, hp, re, hoe, hsp, ke⟩ := Rp.path rx h
       obtain ⟨o, ho, hv⟩ := hk.vals
       have hp' : HPt G.H (.ref a) (j :: p) u := ⟨a, o, w, rfl, ho, by rw [hv]; exact hw, hp⟩
       have back : ∀ (e' : D) (oe' : Ct), Rp G e' u oe' → ((∀ b, oe' b = 0) ∨ spOk x p = true) → RpL G (xs.set j (setP x p e')) vs (fun b => oe' b + orr b + oxr b) := fun e' oe' re' c => by
         have rs := ke e' oe' (fun b => oe' b + orr b) re' c fun _ => rfl
         have := kx (setP x p e') w _ (fun b => oe' b + orr b + oxr b) rs fun b => rfl
         rwa [list_set_same hw] at this
       revert n
       generalize hfl : k.fl = f
       intro n
       match f, n with
       | none, n =>
         refine ⟨u, oe, fun b => orr b + oxr b, hp', re, fun b => by rw [n.2, hx, hoe]; (try dsimp only at *); omega, fun z => by simp [spOk, q, hfl, hsp z], fun e' oe' os'' re' c h' => ?_⟩
         simp only [setP, q]
         exact .nd hk (back e' oe' re' (c.imp id fun z => by simpa [spOk, q, hfl] using z)) (by rw [hfl]; exact ⟨n.1, fun b => by rw [h']; (try dsimp only at *); omega⟩)
       | some .own, n =>
         refine ⟨u, oe, fun b => one a b + orr b + oxr b, hp', re, fun b => by rw [n.2.2, hx, hoe]; (try dsimp only at *); omega, fun z => by simp [spOk, q, hfl, hsp z], fun e' oe' os'' re' c h' => ?_⟩
         simp only [setP, q]
         exact .nd hk (back e' oe' re' (c.imp id fun z => by simpa [spOk, q, hfl] using z)) (by rw [hfl]; exact ⟨n.1, n.2.1, fun b => by rw [h']; (try dsimp only at *); omega⟩)
       | some .bor, n =>
         have z : ∀ b, oe b = 0 ∧ orr b = 0 ∧ oxr b = 0 := fun b => by have := n.2.1 b; rw [hx, hoe] at this; (try dsimp only at *); omega
         refine ⟨u, oe, orr, hp', re, fun b => by rw [n.2.2, (z b).1, (z b).2.1], fun ⟨b, hb⟩ => by have := (z b).1; omega, fun e' oe' os'' re' c h' => ?_⟩
         have c0 : ∀ b, oe' b = 0 := c.elim id fun z => by simp [spOk, q, hfl] at z
         simp only [setP, q]
         exact .nd hk (back e' oe' re' (.inl c0)) (by rw [hfl]; exact ⟨n.1, fun b => by show oe' b + orr b + oxr b = 0; rw [c0, (z b).2.1, (z b).2.2], fun b => by rw [h', c0, (z b).2.1]⟩)
       | some .fz, n =>
         have z : ∀ b, oe b = 0 ∧ orr b = 0 ∧ oxr b = 0 := fun b => by have := n.2.2.1 b; rw [hx, hoe] at this; (try dsimp only at *); omega
         refine ⟨u, oe, orr, hp', re, fun b => by rw [n.2.2.2, (z b).1, (z b).2.1], fun ⟨b, hb⟩ => by have := (z b).1; omega, fun e' oe' os'' re' c h' => ?_⟩
         have c0 : ∀ b, oe' b = 0 := c.elim id fun z => by simp [spOk, q, hfl] at z
         simp only [setP, q]
         exact .nd hk (back e' oe' re' (.inl c0)) (by rw [hfl]; exact ⟨n.1, n.2.1, fun b => by show oe' b + orr b + oxr b = 0; rw [c0, (z b).2.1, (z b).2.2], fun b => by rw [h', c0, (z b).2.1]⟩)
end PV
namespace PV
open PySem L2
structure Cc where
 K : PySem.W.Frag
 CA : Str → Option Addr
 H0 : Hp
 os0 : Ct
 B : Addr → Prop
 W : WX
 fx : Nat → Option V
 n : Nat
def Cc.G (C : Cc) (Z : Addr → Prop) (H : Hp) : Gd := ⟨C.K, C.CA, H, Z, C.B⟩
abbrev gd : Option V → V := fun o => o.getD .non
structure SR (C : Cc) (Z : Addr → Prop) (st ds : List D) (σ : St) (vs : List V) (H : Hp) (os : Ct) : Prop where
 rp : RpL (C.G Z H) (st ++ ds) (σ.map gd ++ vs) os
 nd : ∀ b, os b ≤ 1
 ln : st.length = σ.length
 sl : ∀ (i : Nat) (d : D), st[i]? = some d → d ≠ .un → ∃ v, σ[i]? = some (some v)
 kp : ∀ a o, C.H0 a = some o → C.os0 a = 0 → H a = some o
 fr : ∀ a, Z a → 0 < C.os0 a ∨ C.H0 a = none
 al : ∀ a, Z a → ∃ o, H a = some o ∧ ∀ xs, o ≠ .tup xs
 bb : ∀ a, C.B a → (∃ o, C.H0 a = some o) ∧ C.os0 a = 0
 fx : (∀ i v, C.fx i = some v → σ[i]? = some (some v)) ∧ σ.length = C.n
def SX (C : Cc) (st ds : List D) (σ : St) (vs : List V) (H : Hp) : Prop := ∃ Z os, SR C Z st ds σ vs H os
def getS (st : List D) (r : Nat) (p : Pth) : Option D := match st[r]? with
 | some d => getP d p
 | none => none
def setS (st : List D) (r : Nat) (p : Pth) (e : D) : List D := match st[r]? with
 | some d => st.set r (setP d p e)
 | none => st
def spS (st : List D) (r : Nat) (p : Pth) : Bool := match st[r]? with
 | some d => spOk d p
 | none => false
def HPs (H : Hp) (σ : St) (r : Nat) (p : Pth) (u : V) : Prop := ∃ v, σ[r]? = some (some v) ∧ HPt H v p u
mutual
def D.noOwn : D → Bool
 | .nd k xs => (k.fl != some .own) && D.noOwnL xs
 | _ => true
def D.noOwnL : List D → Bool
 | [] => true
 | d :: r => D.noOwn d && D.noOwnL r
end
mutual
theorem D.noOwn_set {g : Fl} (hg : g ≠ .own) : ∀ d : D, D.noOwn (D.set g d) = true
 | .un => rfl
 | .non => rfl
 | .bl _ => rfl
 | .int _ => rfl
 | .str _ => rfl
 | .scr _ => rfl
 | .exc _ _ => rfl
 | .nd k xs => by
   simp only [D.set, D.noOwn, D.noOwnL_set hg xs, Bool.and_true]
   by_cases h : k.fl = some .own
   · rw [if_pos h, Kd.fl_with h]; simpa using hg
   · rw [if_neg h]; simpa using h
theorem D.noOwnL_set {g : Fl} (hg : g ≠ .own) : ∀ xs : List D, D.noOwnL (D.setL g xs) = true
 | [] => rfl
 | d :: r => by simp only [D.setL, D.noOwnL, D.noOwn_set hg d, D.noOwnL_set hg r, Bool.and_self]
end
mutual
theorem Rp.zero {G : Gd} : ∀ {d : D} {v : V} {os : Ct}, Rp G d v os → D.noOwn d = true → ∀ b, os b = 0
 | _, _, _, .un h, _, b | _, _, _, .non h, _, b | _, _, _, .bl h, _, b | _, _, _, .int h, _, b | _, _, _, .str h, _, b | _, _, _, .scr _ h, _, b | _, _, _, .exc _ h, _, b => h b
 | _, _, _, .nd (k := k) (a := a) (os := os) (os' := os') hk r n, h0, b => by
   simp only [D.noOwn, Bool.and_eq_true, bne_iff_ne] at h0
   have z := RpL.zero r h0.2 b
   revert n
   generalize hfl : k.fl = f
   intro n
   match f, n with
   | none, n => have := n.2 b; (try dsimp only at *); omega
   | some .own, n => exact absurd hfl h0.1
   | some .bor, n => exact n.2.2 b
   | some .fz, n => exact n.2.2.2 b
theorem RpL.zero {G : Gd} : ∀ {xs : List D} {vs : List V} {os : Ct}, RpL G xs vs os → D.noOwnL xs = true → ∀ b, os b = 0
 | _, _, _, .nil h, _, b => h b
 | _, _, _, .cons (o1 := o1) r t h, h0, b => by
   simp only [D.noOwnL, Bool.and_eq_true] at h0
   have := Rp.zero r h0.1 b
   have := RpL.zero t h0.2 b
   have := h b
   omega
end
def vOf : D → Option V
 | .non => some .non
 | .bl b => some (.bl b)
 | .int i => some (.int i)
 | .str s => some (.str s)
 | _ => none
theorem rp_sc {G : Gd} {d : D} {v : V} (h : vOf d = some v) : Rp G d v (fun _ => 0) := by
 cases d <;> simp [vOf] at h <;> subst h
 · exact .non fun _ => rfl
 · exact .bl fun _ => rfl
 · exact .int fun _ => rfl
 · exact .str fun _ => rfl
theorem sc_of {G : Gd} {d : D} {v w : V} {os : Ct} (r : Rp G d v os) (h : vOf d = some w) : v = w := by
 cases d <;> simp [vOf] at h <;> subst h <;> cases r <;> rfl
theorem vOf_un {d : D} {v : V} (h : vOf d = some v) : d ≠ .un := by rintro rfl; simp [vOf] at h
theorem HPs.fn {H : Hp} {σ : St} {r : Nat} {p : Pth} {u u' : V} (h : HPs H σ r p u) (h' : HPs H σ r p u') : u = u' := by
 obtain ⟨v, e, h⟩ := h
 obtain ⟨v', e', h'⟩ := h'
 rw [e] at e'; cases e'
 exact h.fn h'
theorem HPs.same {H H' : Hp} {σ : St} {r : Nat} {p : Pth} {u : V} (s : Same H H') (h : HPs H σ r p u) : HPs H' σ r p u := by
 obtain ⟨v, e, h⟩ := h
 exact ⟨v, e, h.same s⟩
theorem getP_un {p : Pth} {e : D} (h : getP .un p = some e) : p = [] ∧ e = .un := by
 cases p with
 | nil => simp [getP] at h; exact ⟨rfl, h.symm⟩
 | cons j p => simp [getP] at h
section
variable {C : Cc} {Z Z' : Addr → Prop} {st ds : List D} {σ : St} {vs : List V} {H H' : Hp} {os os' : Ct}
theorem SR.sx (s : SR C Z st ds σ vs H os) : SX C st ds σ vs H := ⟨Z, os, s⟩
theorem SR.dn (s : SR C Z st ds σ vs H os) : ds.length = vs.length := by
 have := s.rp.len
 simp [s.ln] at this; exact this
theorem SR.cut (s : SR C Z st ds σ vs H os) : ∃ o1 o2, RpL (C.G Z H) st (σ.map gd) o1 ∧ RpL (C.G Z H) ds vs o2 ∧ ∀ b, os b = o1 b + o2 b :=
 RpL.cut (by simp [s.ln]) s.rp
theorem SR.mk2 (s : SR C Z st ds σ vs H os) {st' ds' : List D} {vs' : List V} {o1 o2 os' : Ct} (r1 : RpL (C.G Z H) st' (σ.map gd) o1) (r2 : RpL (C.G Z H) ds' vs' o2) (h : ∀ b, os' b = o1 b + o2 b) (hl : ∀ b, os' b ≤ os b)
   (sl : ∀ (i : Nat) (d : D), st'[i]? = some d → d ≠ .un → ∃ v, σ[i]? = some (some v)) : SR C Z st' ds' σ vs' H os' :=
 ⟨r1.app r2 h, fun b => Nat.le_trans (hl b) (s.nd b), by have := r1.len; simpa using this, sl, s.kp, s.fr, s.al, s.bb, s.fx⟩
theorem SX.pushc {d : D} {v : V} (s : SX C st ds σ vs H) (h : vOf d = some v) : SX C st (ds ++ [d]) σ (vs ++ [v]) H := by
 obtain ⟨Z, os, s⟩ := s
 obtain ⟨o1, o2, r1, r2, e⟩ := s.cut
 exact (s.mk2 r1 (r2.app (os := o2) (RpL.one (rp_sc h)) fun b => by simp) e (fun b => Nat.le_refl _) s.sl).sx
theorem SR.ext (s : SR C Z st ds σ vs H os) (e : Same H H') : SR C Z st ds σ vs H' os :=
 ⟨s.rp.mono ⟨rfl, rfl, fun b o q _ => e b o q, fun _ _ _ z => z, fun b p => (s.rp.dom b p).2, fun _ _ _ _ z => z⟩, s.nd, s.ln, s.sl, fun a o q z => e a o (s.kp a o q z), s.fr, fun a z => let ⟨o, q, w⟩ := s.al a z; ⟨o, e a o q, w⟩, s.bb, s.fx⟩
theorem SX.ext (s : SX C st ds σ vs H) (e : Same H H') : SX C st ds σ vs H' := let ⟨Z, os, s⟩ := s; (s.ext e).sx
theorem SX.drop {ds' : List D} {vs' : List V} (s : SX C st (ds ++ ds') σ (vs ++ vs') H) (hl : ds.length = vs.length) : SX C st ds σ vs H := by
 obtain ⟨Z, os, s⟩ := s
 obtain ⟨o1, o2, r1, r2, e⟩ := s.cut
 obtain ⟨o3, o4, r3, r4, e'⟩ := RpL.cut hl r2
 exact (s.mk2 (os' := fun b => o1 b + o3 b) r1 r3 (fun _ => rfl) (fun b => by (try dsimp only); rw [e, e']; (try dsimp only at *); omega) s.sl).sx
theorem SX.pop {d : D} {v : V} (s : SX C st (ds ++ [d]) σ (vs ++ [v]) H) : SX C st ds σ vs H := by
 obtain ⟨Z, os, t⟩ := id s
 exact s.drop (by have := t.dn; simp at this; exact this)
theorem SR.top {d : D} {v : V} (s : SR C Z st (ds ++ [d]) σ (vs ++ [v]) H os) : ∃ o1 o2 o3, RpL (C.G Z H) st (σ.map gd) o1 ∧ RpL (C.G Z H) ds vs o2 ∧ Rp (C.G Z H) d v o3 ∧ ∀ b, os b = o1 b + o2 b + o3 b := by
 obtain ⟨o1, o2, r1, r2, e⟩ := s.cut
 obtain ⟨o3, o4, r3, r4, e'⟩ := RpL.cut (by have := s.dn; simp at this; exact this) r2
 exact ⟨o1, o3, o4, r1, r3, r4.of1, fun b => by rw [e, e']; (try dsimp only at *); omega⟩
theorem map_set_gd (σ : St) (i : Nat) (v : V) : (σ.set i (some v)).map gd = (σ.map gd).set i v := by
 rw [List.map_set]; rfl
theorem SX.toSlot {d : D} {v : V} {i : Nat} (s : SX C st (ds ++ [d]) σ (vs ++ [v]) H) (hi : i < st.length) (hx : C.fx i = none) : SX C (st.set i d) ds (σ.set i (some v)) vs H := by
 obtain ⟨Z, os, s⟩ := s
 obtain ⟨o1, o2, o3, r1, r2, r3, e⟩ := s.top
 obtain ⟨d0, h0⟩ : ∃ d0, st[i]? = some d0 := ⟨st[i], by simp [hi]⟩
 obtain ⟨w, od, orr, hw, rd, hod, k⟩ := r1.at h0
 have r1' := k d v o3 (fun b => o3 b + orr b) r3 fun _ => rfl
 refine ⟨Z, fun b => o3 b + orr b + o2 b, (r1'.app r2 fun _ => rfl : RpL _ _ _ _) |> fun z => ?_, ?_, by simp [s.ln], ?_, s.kp, s.fr, s.al, s.bb, ⟨fun j x hj => by
     have : j ≠ i := fun z => by subst z; rw [hx] at hj; cases hj
     rw [List.getElem?_set_ne (Ne.symm this)]; exact s.fx.1 j x hj, by rw [List.length_set]; exact s.fx.2⟩⟩
 · rw [map_set_gd]; exact z
 · intro b; have := s.nd b; rw [e, hod] at this; (try dsimp only); (try dsimp only at *); omega
 · intro j x hj hx
   by_cases q : j = i
   · subst q
     exact ⟨v, by rw [List.getElem?_set_self (by rw [← s.ln]; exact hi)]⟩
   · rw [List.getElem?_set_ne (Ne.symm q)] at hj
     rw [List.getElem?_set_ne (Ne.symm q)]
     exact s.sl j x hj hx
theorem SX.unSlot {i : Nat} (s : SX C st ds σ vs H) : SX C (st.set i .un) ds σ vs H := by
 obtain ⟨Z, os, s⟩ := s
 obtain ⟨o1, o2, r1, r2, e⟩ := s.cut
 by_cases hi : i < st.length
 · obtain ⟨d0, h0⟩ : ∃ d0, st[i]? = some d0 := ⟨st[i], by simp [hi]⟩
   obtain ⟨w, od, orr, hw, rd, hod, k⟩ := r1.at h0
   have r1' := k .un w (fun _ => 0) orr (.un fun _ => rfl) fun b => by simp
   rw [list_set_same hw] at r1'
   refine (s.mk2 (os' := fun b => orr b + o2 b) r1' r2 (fun _ => rfl) (fun b => by (try dsimp only); rw [e, hod]; (try dsimp only at *); omega) fun j x hj hx => ?_).sx
   by_cases q : j = i
   · subst q
     rw [List.getElem?_set_self hi] at hj; cases hj; exact absurd rfl hx
   · rw [List.getElem?_set_ne (Ne.symm q)] at hj
     exact s.sl j x hj hx
 · rw [List.set_eq_of_length_le (Nat.le_of_not_lt hi)]; exact s.sx
theorem SX.move {i : Nat} {d : D} {v : V} (s : SX C st ds σ vs H) (h : st[i]? = some d) (hv : σ[i]? = some (some v)) : SX C (st.set i .un) (ds ++ [d]) σ (vs ++ [v]) H := by
 obtain ⟨Z, os, s⟩ := s
 obtain ⟨o1, o2, r1, r2, e⟩ := s.cut
 obtain ⟨w, od, orr, hw, rd, hod, k⟩ := r1.at h
 have ew : w = v := by simp [hv] at hw; exact hw.symm
 subst ew
 have r1' := k .un w (fun _ => 0) orr (.un fun _ => rfl) fun b => by simp
 rw [list_set_same hw] at r1'
 refine (s.mk2 (os' := os) (o2 := fun b => o2 b + od b) r1' (r2.app (RpL.one rd) fun _ => rfl) (fun b => by rw [e, hod]; (try dsimp only at *); omega) (fun _ => Nat.le_refl _) fun j x hj hx => ?_).sx
 by_cases q : j = i
 · subst q; exact ⟨w, hv⟩
 · rw [List.getElem?_set_ne (Ne.symm q)] at hj
   exact s.sl j x hj hx
theorem SR.hv {r : Nat} {p : Pth} {e : D} (s : SR C Z st ds σ vs H os) (h : getS st r p = some e) (hu : e ≠ .un) : ∃ v, σ[r]? = some (some v) := by
 unfold getS at h
 cases h0 : st[r]? with
 | none => rw [h0] at h; simp at h
 | some d =>
   rw [h0] at h; simp only at h
   exact s.sl r d h0 fun z => hu (by subst z; exact (getP_un h).2)
theorem SR.path {r : Nat} {p : Pth} {e : D} (s : SR C Z st ds σ vs H os) (h : getS st r p = some e) (hv : ∃ v, σ[r]? = some (some v)) : ∃ (u : V) (oe orr o2 : Ct), HPs H σ r p u ∧ Rp (C.G Z H) e u oe ∧ RpL (C.G Z H) ds vs o2 ∧ (∀ b, os b = oe b + orr b + o2 b) ∧ ((∃ b, 0 < oe b) → spS st r p = true) ∧
   ∀ (e' : D) (oe' o1' : Ct), Rp (C.G Z H) e' u oe' → ((∀ b, oe' b = 0) ∨ spS st r p = true) → (∀ b, o1' b = oe' b + orr b) → RpL (C.G Z H) (setS st r p e') (σ.map gd) o1' := by
 obtain ⟨o1, o2, r1, r2, e1⟩ := s.cut
 unfold getS at h
 cases h0 : st[r]? with
 | none => rw [h0] at h; simp at h
 | some d =>
   rw [h0] at h; simp only at h
   obtain ⟨w, od, orr, hw, rd, hod, k⟩ := r1.at h0
   obtain ⟨u, oe, or2, hp, re, hoe, hsp, ke⟩ := rd.path h
   obtain ⟨v, hv⟩ := hv
   have ew : w = v := by simp [hv] at hw; exact hw.symm
   subst ew
   have es : spS st r p = spOk d p := by unfold spS; rw [h0]
   refine ⟨u, oe, fun b => or2 b + orr b, o2, ⟨w, hv, hp⟩, re, r2, fun b => by rw [e1, hod, hoe]; (try dsimp only at *); omega, fun z => by rw [es]; exact hsp z, fun e' oe' o1' r' c h' => ?_⟩
   have := k (setP d p e') w _ o1' (ke e' oe' (fun b => oe' b + or2 b) r' (by rw [← es]; exact c) fun _ => rfl) fun b => by have := h' b; (try dsimp only at *); omega
   rw [list_set_same hw] at this
   unfold setS; rw [h0]; exact this
theorem SR.slS {r : Nat} {p : Pth} {e : D} (s : SR C Z st ds σ vs H os) (hv : ∃ v, σ[r]? = some (some v)) : ∀ (i : Nat) (d : D), (setS st r p e)[i]? = some d → d ≠ .un → ∃ v, σ[i]? = some (some v) := by
 intro i d hd hn
 unfold setS at hd
 cases h0 : st[r]? with
 | none => rw [h0] at hd; exact s.sl i d hd hn
 | some x =>
   rw [h0] at hd; simp only at hd
   by_cases q : i = r
   · subst q; exact hv
   · rw [List.getElem?_set_ne (Ne.symm q)] at hd
     exact s.sl i d hd hn
theorem getP_set : ∀ {p : Pth} {d e e' : D}, getP d p = some e → getP (setP d p e') p = some e'
 | [], d, e, e', h => by simp [setP, getP]
 | j :: p, d, e, e', h => by
   cases d with
   | nd k xs =>
     simp only [getP] at h
     cases q : xs[j]? with
     | none => rw [q] at h; simp at h
     | some x =>
       rw [q] at h; simp only at h
       have hj : j < xs.length := (List.getElem?_eq_some_iff.mp q).1
       simp only [setP, q, getP, List.getElem?_set_self hj]
       exact getP_set h
   | _ => simp [getP] at h
theorem getS_set {r : Nat} {p : Pth} {e e' : D} (h : getS st r p = some e) : getS (setS st r p e') r p = some e' := by
 unfold getS setS at *
 cases h0 : st[r]? with
 | none => rw [h0] at h; simp at h
 | some d =>
   rw [h0] at h; simp only at h ⊢
   rw [List.getElem?_set_self (List.getElem?_eq_some_iff.mp h0).1]
   exact getP_set h
theorem setP_set : ∀ {p : Pth} {d e e' e'' : D}, getP d p = some e → setP (setP d p e') p e'' = setP d p e''
 | [], d, e, e', e'', h => by simp [setP]
 | j :: p, d, e, e', e'', h => by
   cases d with
   | nd k xs =>
     simp only [getP] at h
     cases q : xs[j]? with
     | none => rw [q] at h; simp at h
     | some x =>
       rw [q] at h; simp only at h
       have hj : j < xs.length := (List.getElem?_eq_some_iff.mp q).1
       simp only [setP, q, List.getElem?_set_self hj, List.set_set]
       rw [setP_set h]
   | _ => simp [getP] at h
theorem setS_set {r : Nat} {p : Pth} {e e' e'' : D} (h : getS st r p = some e) : setS (setS st r p e') r p e'' = setS st r p e'' := by
 unfold getS at h
 unfold setS
 cases h0 : st[r]? with
 | none => rw [h0] at h; simp at h
 | some d =>
   rw [h0] at h; simp only at h ⊢
   simp only [List.getElem?_set_self (List.getElem?_eq_some_iff.mp h0).1, List.set_set]
   rw [setP_set h]
theorem spP_set : ∀ {p : Pth} {d e e' : D}, getP d p = some e → spOk (setP d p e') p = spOk d p
 | [], d, e, e', h => by simp [spOk]
 | j :: p, d, e, e', h => by
   cases d with
   | nd k xs =>
     simp only [getP] at h
     cases q : xs[j]? with
     | none => rw [q] at h; simp at h
     | some x =>
       rw [q] at h; simp only at h
       have hj : j < xs.length := (List.getElem?_eq_some_iff.mp q).1
       simp only [setP, q, spOk, List.getElem?_set_self hj, spP_set h]
   | _ => simp [getP] at h
theorem spS_set {r : Nat} {p : Pth} {e e' : D} (h : getS st r p = some e) : spS (setS st r p e') r p = spS st r p := by
 unfold getS at h
 unfold setS spS
 cases h0 : st[r]? with
 | none => rw [h0] at h; simp at h
 | some d =>
   rw [h0] at h; simp only at h ⊢
   simp only [List.getElem?_set_self (List.getElem?_eq_some_iff.mp h0).1]
   exact spP_set h
theorem SR.lessZ (s : SR C Z st ds σ vs H os) (hz : ∀ a, Z' a → Z a) (ho : ∀ b, 0 < os b → Z' b) : SR C Z' st ds σ vs H os :=
 ⟨s.rp.mono ⟨rfl, rfl, fun _ _ q _ => q, fun _ _ _ z => fun q => z (hz _ q), fun b p => ⟨ho b p, (s.rp.dom b p).2.2⟩, fun _ _ _ _ z => z⟩, s.nd, s.ln, s.sl, s.kp, fun a z => s.fr a (hz a z), fun a z => s.al a (hz a z), s.bb, s.fx⟩
theorem SR.take {r : Nat} {p : Pth} {e : D} {u : V} (s : SR C Z st ds σ vs H os) (h : getS st r p = some e) (hp : HPs H σ r p u) : SR C Z (setS st r p .un) (ds ++ [e]) σ (vs ++ [u]) H os := by
 have hv : ∃ v, σ[r]? = some (some v) := let ⟨v, e, _⟩ := hp; ⟨v, e⟩
 obtain ⟨u', oe, orr, o2, hp', re, r2, ho, hsp, k⟩ := s.path h hv
 have eu := hp.fn hp'
 subst eu
 exact s.mk2 (os' := os) (o2 := fun b => o2 b + oe b) (k .un (fun _ => 0) orr (.un fun _ => rfl) (.inl fun _ => rfl) fun b => by simp) (r2.app (RpL.one re) fun _ => rfl) (fun b => by rw [ho]; (try dsimp only at *); omega) (fun _ => Nat.le_refl _) (s.slS hv)
theorem SR.lay {r : Nat} {p : Pth} {e : D} {u : V} (s : SR C Z st (ds ++ [e]) σ (vs ++ [u]) H os) (h : getS st r p = some .un) (hp : HPs H σ r p u) (hs : D.noOwn e = true ∨ spS st r p = true) : SR C Z (setS st r p e) ds σ vs H os := by
 have hv : ∃ v, σ[r]? = some (some v) := let ⟨v, e, _⟩ := hp; ⟨v, e⟩
 obtain ⟨u', oe, orr, o2, hp', re, r2, ho, hsp, k⟩ := s.path h hv
 have eu := hp.fn hp'
 subst eu
 have z : ∀ b, oe b = 0 := by cases re with | un z => exact z
 obtain ⟨o3, o4, r3, r4, e'⟩ := RpL.cut (by have := s.dn; simp at this; exact this) r2
 refine s.mk2 (os' := os) (o1 := fun b => o4 b + orr b) (k e o4 _ r4.of1 (hs.imp (fun q => r4.of1.zero q) id) fun _ => rfl) r3 (fun b => by rw [ho, z, e']; (try dsimp only at *); omega) (fun _ => Nat.le_refl _) (s.slS hv)
theorem SX.share {r : Nat} {p : Pth} {e : D} {u : V} (s : SX C st ds σ vs H) (h : getS st r p = some e) (hp : HPs H σ r p u) : SX C (setS st r p e.frz) (ds ++ [e.frz]) σ (vs ++ [u]) H := by
 obtain ⟨Z, os, s⟩ := s
 have t := s.take h hp
 obtain ⟨o1, o2, o3, r1, r2, r3, e1⟩ := t.top
 have hz : ∀ b, 0 < o1 b + o2 b → Z b ∧ o3 b = 0 := fun b q => ⟨(t.rp.dom b (by rw [e1]; (try dsimp only at *); omega)).2.1, by have := t.nd b; rw [e1] at this; (try dsimp only at *); omega⟩
 have F : Gd.Fr (C.G Z H) (C.G (fun a => Z a ∧ o3 a = 0) H) .fz o3 := ⟨rfl, rfl, fun _ _ q _ => q, fun _ _ _ z => fun q => z q.1, fun b p => ⟨fun q => by have := q.2; (try dsimp only at *); omega, fun _ => (r3.dom b p).2.2⟩, fun _ _ _ _ z => z, by decide⟩
 have rf : Rp (C.G (fun a => Z a ∧ o3 a = 0) H) e.frz u (fun _ => 0) := r3.frz F
 have t0 : SR C Z (setS st r p .un) ds σ vs H (fun b => o1 b + o2 b) := t.mk2 r1 r2 (fun _ => rfl) (fun b => by rw [e1]; (try dsimp only at *); omega) t.sl
 have t1 := t0.lessZ (Z' := fun a => Z a ∧ o3 a = 0) (fun _ q => q.1) hz
 obtain ⟨p1, p2, q1, q2, q3⟩ := t1.cut
 have t2 : SR C (fun a => Z a ∧ o3 a = 0) (setS st r p .un) ((ds ++ [e.frz]) ++ [e.frz]) σ ((vs ++ [u]) ++ [u]) H (fun b => o1 b + o2 b) :=
   t1.mk2 (o2 := p2) q1 ((q2.app (os := p2) (RpL.one rf) fun b => by simp).app (RpL.one rf) fun b => by simp) q3 (fun _ => Nat.le_refl _) t1.sl
 have := t2.lay (getS_set h) hp (.inl (D.noOwn_set (by decide) e))
 rw [setS_set h] at this; exact this.sx
end
end PV
namespace PV
open PySem L2
theorem Rp.hpt {G G' : Gd} : ∀ {p : Pth} {d e : D} {v u : V} {os : Ct}, Rp G d v os → getP d p = some e → HPt G.H v p u → Gd.To G G' os → HPt G'.H v p u
 | [], _, _, _, _, _, _, _, h, _ => h
 | j :: p, d, e, v, u, os, r, h, hp, t => by
   cases r with
   | un => simp [getP] at h
   | non => simp [getP] at h
   | bl => simp [getP] at h
   | int => simp [getP] at h
   | str => simp [getP] at h
   | scr => simp [getP] at h
   | exc => simp [getP] at h
   | nd hk rl n =>
     rename_i k xs a vs os'
     simp only [getP] at h
     cases q : xs[j]? with
     | none => rw [q] at h; simp at h
     | some x =>
       rw [q] at h; simp only at h
       obtain ⟨a', o, w, e1, ho, hw, hp⟩ := hp
       cases e1
       obtain ⟨w', ox, oxr, hw', rx, hx, _⟩ := rl.at q
       obtain ⟨o', ho', hv⟩ := hk.vals
       rw [ho] at ho'; cases ho'
       rw [hv] at hw; rw [hw] at hw'; cases hw'
       have sub : ∀ b, 0 < ox b → 0 < os b := fun b hb => by
         revert n
         generalize k.fl = f
         intro n
         match f, n with
         | none, n => have := n.2 b; have := hx b; (try dsimp only at *); omega
         | some .own, n => have := n.2.2 b; have := hx b; (try dsimp only at *); omega
         | some .bor, n => have := n.2.1 b; have := hx b; (try dsimp only at *); omega
         | some .fz, n => have := n.2.2.1 b; have := hx b; (try dsimp only at *); omega
       have st : 0 < os a ∨ ¬ G.Z a := by
         revert n
         generalize k.fl = f
         intro n
         match f, n with
         | none, n => exact .inr n.1
         | some .own, n => exact .inl (by have := n.2.2 a; rw [one_self] at this; (try dsimp only at *); omega)
         | some .bor, n => exact .inr n.1
         | some .fz, n => exact .inr n.1
       exact ⟨a, o, w, rfl, t.h a o ho st, by rw [hv]; exact hw, Rp.hpt rx h hp (t.sub sub)⟩
theorem HoK.notup {CA : Str → Option Addr} {H : Hp} {a : Addr} {vs : List V} {k : Kd} {o : HO} (h : HoK CA H a vs k) (hf : k.fl = some .own) (e : H a = some o) : ∀ xs, o ≠ .tup xs := by
 intro xs z
 subst z
 cases k with
 | lst f => rw [show H a = some (.lst vs) from h] at e; cases e
 | tup => cases hf
 | dct f ks => rw [h.2] at e; cases e
 | dtp f ks => rw [h.2] at e; cases e
 | ins f c ns => obtain ⟨_, _, _, _, q⟩ := h; rw [q] at e; cases e
section
variable {C : Cc} {Z Z' : Addr → Prop} {st ds : List D} {σ : St} {vs : List V} {H H' : Hp} {os os' : Ct}
theorem SR.to (s : SR C Z st ds σ vs H os) {G' : Gd} (k : G'.K = C.K) (ca : G'.CA = C.CA) (h : ∀ b o, H b = some o → (0 < os b ∨ ¬ Z b) → G'.H b = some o) (z : ∀ b o, H b = some o → ¬ Z b → ¬ G'.Z b) (o : ∀ b, 0 < os b → G'.Z b) (b : G'.B = C.B) : Gd.To (C.G Z H) G' os :=
 ⟨k, ca, h, z, fun x p => ⟨o x p, by rw [b]; exact (s.rp.dom x p).2.2⟩, fun _ _ _ _ q => by rw [b]; exact q⟩
theorem SX.alloc {k : Kd} {xs : List D} {ws : List V} {p : Addr} {o : HO} (s : SX C st (ds ++ xs) σ (vs ++ ws) H) (hl : ds.length = vs.length) (hp : H p = none) (hk : HoK C.CA (upd H p o) p ws k) (hf : k.fl = none ∨ k.fl = some .own) :
   SX C st (ds ++ [.nd k xs]) σ (vs ++ [.ref p]) (upd H p o) := by
 obtain ⟨Z, os, s⟩ := s
 have hne : ∀ b u, H b = some u → b ≠ p := fun b u e z => by rw [z, hp] at e; cases e
 have nz : ¬ Z p := fun z => by obtain ⟨u, e, _⟩ := s.al p z; exact hne p u e rfl
 have np : ∀ b, 0 < os b → b ≠ p := fun b q => by obtain ⟨u, e⟩ := (s.rp.dom b q).1; exact hne b u e
 obtain ⟨o1, o2, r1, r2, e⟩ := s.cut
 obtain ⟨o3, o4, r3, r4, e'⟩ := RpL.cut hl r2
 have nB : ¬ C.B p := fun z => by
   obtain ⟨⟨u, q⟩, q2⟩ := s.bb p z
   exact hne p u (s.kp p u q q2) rfl
 have keep : ∀ b u, H b = some u → upd H p o b = some u := fun b u q => by rw [upd_ne (hne b u q)]; exact q
 rcases hf with hf | hf
 · have T : Gd.To (C.G Z H) (C.G Z (upd H p o)) os := s.to rfl rfl (fun b u q _ => keep b u q) (fun _ _ _ z => z) (fun b q => (s.rp.dom b q).2.1) rfl
   refine ⟨Z, os, (r1.mono (T.sub fun b q => by rw [e]; omega)).app (o2 := fun b => o3 b + o4 b) ((r3.mono (T.sub fun b q => by rw [e, e']; omega)).app (RpL.one (.nd hk (r4.mono (T.sub fun b q => by rw [e, e']; omega)) (by rw [hf]; exact ⟨nz, fun _ => rfl⟩))) fun _ => rfl) (fun b => by rw [e, e']), s.nd, s.ln, s.sl, fun a u q z => keep a u (s.kp a u q z), s.fr, fun a z => let ⟨u, q, w⟩ := s.al a z; ⟨u, keep a u q, w⟩, s.bb, s.fx⟩
 · have T : Gd.To (C.G Z H) (C.G (fun b => Z b ∨ b = p) (upd H p o)) os := s.to rfl rfl (fun b u q _ => keep b u q) (fun b u q z => fun w => w.elim z (hne b u q)) (fun b q => .inl (s.rp.dom b q).2.1) rfl
   refine ⟨fun b => Z b ∨ b = p, fun b => os b + one p b, (r1.mono (T.sub fun b q => by rw [e]; omega)).app (o2 := fun b => o3 b + (one p b + o4 b)) ((r3.mono (T.sub fun b q => by rw [e, e']; omega)).app (RpL.one (.nd hk (r4.mono (T.sub fun b q => by rw [e, e']; omega)) (by rw [hf]; exact ⟨.inr rfl, nB, fun _ => rfl⟩))) fun _ => rfl) (fun b => by rw [e, e']; (try dsimp only); omega), ?_, s.ln, s.sl, fun a u q z => keep a u (s.kp a u q z), ?_, ?_, s.bb, s.fx⟩
   · intro b
     by_cases q : b = p
     · subst q
       have : os b = 0 := Nat.eq_zero_of_not_pos fun z => np b z rfl
       rw [this, one_self]; omega
     · rw [one_ne q]; exact s.nd b
   · rintro a (z | rfl)
     · exact s.fr a z
     · by_cases q2 : C.os0 a = 0
       · right
         cases q : C.H0 a with
         | none => rfl
         | some u => exact absurd rfl (hne a u (s.kp a u q q2))
       · left; omega
   · rintro a (z | rfl)
     · let ⟨u, q, w⟩ := s.al a z; exact ⟨u, keep a u q, w⟩
     · exact ⟨o, upd_same, hk.notup hf upd_same⟩
theorem SR.hps {G' : Gd} {r : Nat} {p : Pth} {e : D} {u : V} (s : SR C Z st ds σ vs H os) (h : getS st r p = some e) (hp : HPs H σ r p u) (t : Gd.To (C.G Z H) G' os) : HPs G'.H σ r p u := by
 obtain ⟨v, hv, hp⟩ := hp
 refine ⟨v, hv, ?_⟩
 obtain ⟨o1, o2, r1, r2, e1⟩ := s.cut
 unfold getS at h
 cases h0 : st[r]? with
 | none => rw [h0] at h; simp at h
 | some d =>
   rw [h0] at h; simp only at h
   obtain ⟨w, od, orr, hw, rd, hod, k⟩ := r1.at h0
   have ew : w = v := by simp [hv] at hw; exact hw.symm
   subst ew
   exact rd.hpt h hp (t.sub fun b q => by rw [e1, hod]; omega)
theorem SX.mut {k k' : Kd} {xs xs' new : List D} {ws ws' nw : List V} {r : Nat} {p : Pth} {a : Addr} {o' : HO} (s : SX C st (ds ++ new) σ (vs ++ nw) H) (hl : ds.length = vs.length) (h : getS st r p = some (.nd k xs)) (hf : k.fl = some .own) (hp : HPs H σ r p (.ref a)) (hk : HoK C.CA H a ws k)
   (hk' : HoK C.CA (upd H a o') a ws' k') (hf' : k'.fl = some .own)
   (build : ∀ (G : Gd) (ox on : Ct), RpL G xs ws ox → RpL G new nw on → ∃ ox', RpL G xs' ws' ox' ∧ ∀ b, ox' b ≤ ox b + on b) : SX C (setS st r p (.nd k' xs')) ds σ vs (upd H a o') := by
 obtain ⟨Z, os, s⟩ := s
 have hsp : spS st r p = true := by
   obtain ⟨u', oe, orr, o2, hp', re, r2, ho, hsp, _⟩ := s.path h (let ⟨v, e, _⟩ := hp; ⟨v, e⟩)
   have := hp.fn hp'; subst this
   cases re with
   | nd hk2 rl n =>
     rw [hf] at n
     exact hsp ⟨a, by have := n.2.2 a; rw [one_self] at this; omega⟩
 have t := s.take h hp
 obtain ⟨o1, o2, o3, r1, r2, r3, e⟩ := t.top
 obtain ⟨o4, o5, r4, r5, e'⟩ := RpL.cut hl r2
 cases r3 with
 | nd hk2 rl n =>
   rename_i ws2 ox
   have ew : ws2 = ws := by
     obtain ⟨q1, q2, q3⟩ := hk2.vals
     obtain ⟨q4, q5, q6⟩ := hk.vals
     have q2' : H a = some q1 := q2
     rw [q2'] at q5; cases q5; exact q3.symm.trans q6
   subst ew
   rw [hf] at n
   obtain ⟨nz, nb, on⟩ := n
   have eq : ∀ b, os b = o1 b + o4 b + o5 b + one a b + ox b := fun b => by rw [e, e', on]; omega
   have za : o1 a + o4 a + o5 a + ox a = 0 := by have := s.nd a; rw [eq, one_self] at this; omega
   have keep : ∀ b u, b ≠ a → H b = some u → upd H a o' b = some u := fun b u q z => by rw [upd_ne q]; exact z
   have T : Gd.To (C.G Z H) (C.G Z (upd H a o')) (fun b => o1 b + o4 b + o5 b + ox b) :=
     ⟨rfl, rfl, fun b u q z => keep b u (fun y => by
       subst y
       rcases z with z | z
       · (try dsimp only at z); omega
       · exact z nz) q, fun b u q z => z, fun b q => (s.rp.dom b (by rw [eq]; (try dsimp only at *); omega)).2, fun _ _ _ _ q => q⟩
   obtain ⟨ox', rx', hx'⟩ := build _ _ _ (rl.mono (T.sub fun b q => by (try dsimp only); omega)) (r5.mono (T.sub fun b q => by (try dsimp only); omega))
   have node : Rp (C.G Z (upd H a o')) (.nd k' xs') (.ref a) (fun b => one a b + ox' b) := .nd hk' rx' (by rw [hf']; exact ⟨nz, nb, fun _ => rfl⟩)
   have t2 : SR C Z (setS st r p .un) (ds ++ [.nd k' xs']) σ (vs ++ [.ref a]) (upd H a o') (fun b => o1 b + o4 b + (one a b + ox' b)) :=
     ⟨(r1.mono (T.sub fun b q => by (try dsimp only); omega)).app (o2 := fun b => o4 b + (one a b + ox' b)) ((r4.mono (T.sub fun b q => by (try dsimp only); omega)).app (RpL.one node) fun _ => rfl) (fun b => by (try dsimp only); omega),
       fun b => by have := s.nd b; rw [eq] at this; have := hx' b; (try dsimp only); omega, t.ln, t.sl, fun b u q z => keep b u (fun y => by
         subst y
         rcases s.fr b nz with w | w
         · omega
         · rw [q] at w; cases w) (s.kp b u q z), s.fr, fun b z => by
           by_cases q : b = a
           · subst q; exact ⟨o', upd_same, hk'.notup hf' upd_same⟩
           · obtain ⟨u, w, w2⟩ := s.al b z; exact ⟨u, keep b u q w, w2⟩, s.bb, s.fx⟩
   have t0 : SR C Z (setS st r p .un) ds σ vs H (fun b => o1 b + o4 b) := t.mk2 r1 r4 (fun _ => rfl) (fun b => by rw [eq]; (try dsimp only); omega) t.sl
   have hp2 : HPs (upd H a o') σ r p (.ref a) := t0.hps (G' := C.G Z (upd H a o')) (getS_set h) hp (T.sub fun b q => by (try dsimp only at *); omega)
   have := t2.lay (getS_set h) hp2 (.inr (by rw [spS_set h]; exact hsp))
   rw [setS_set h] at this; exact this.sx
theorem SX.shareK {k : Kd} {xs : List D} {ws : List V} {r : Nat} {p : Pth} {a : Addr} (s : SX C st ds σ vs H) (h : getS st r p = some (.nd k xs)) (hp : HPs H σ r p (.ref a)) (hk : HoK C.CA H a ws k) :
   SX C (setS st r p (.nd k (D.setL .fz xs))) (ds ++ D.setL .fz xs) σ (vs ++ ws) H := by
 obtain ⟨Z, os, s⟩ := s
 obtain ⟨u', oe, orr, oq, hp', re, rq, ho, hsp, kk⟩ := s.path h (let ⟨v, e, _⟩ := hp; ⟨v, e⟩)
 have := hp.fn hp'; subst this
 cases re with
 | nd hk2 rl n =>
   rename_i ws2 ox
   have ew : ws2 = ws := by
     obtain ⟨q1, q2, q3⟩ := hk2.vals
     obtain ⟨q4, q5, q6⟩ := hk.vals
     have q2' : H a = some q1 := q2
     rw [q2'] at q5; cases q5; exact q3.symm.trans q6
   subst ew
   -- what the node itself owns
   have sub : ∀ b, ox b ≤ oe b := fun b => by
     revert n
     generalize k.fl = f
     intro n
     match f, n with
     | none, n => have := n.2 b; omega
     | some .own, n => have := n.2.2 b; omega
     | some .bor, n => have := n.2.1 b; omega
     | some .fz, n => have := n.2.2.1 b; omega
   have t0 : SR C Z (setS st r p .un) ds σ vs H (fun b => orr b + oq b) := s.mk2 (kk .un (fun _ => 0) orr (.un fun _ => rfl) (.inl fun _ => rfl) fun b => by simp) rq (fun _ => rfl) (fun b => by rw [ho]; (try dsimp only); omega) (s.slS (let ⟨v, e, _⟩ := hp; ⟨v, e⟩))
   have hz : ∀ b, 0 < orr b + oq b → Z b ∧ ox b = 0 := fun b q => ⟨(s.rp.dom b (by rw [ho]; omega)).2.1, by have := s.nd b; rw [ho] at this; have := sub b; omega⟩
   have t1 := t0.lessZ (Z' := fun b => Z b ∧ ox b = 0) (fun _ q => q.1) hz
   have F : Gd.Fr (C.G Z H) (C.G (fun b => Z b ∧ ox b = 0) H) .fz ox := ⟨rfl, rfl, fun _ _ q _ => q, fun _ _ _ z => fun q => z q.1, fun b p => ⟨fun q => by have := q.2; omega, fun _ => (rl.dom b p).2.2⟩, fun _ _ _ _ z => z, by decide⟩
   have rf : RpL (C.G (fun b => Z b ∧ ox b = 0) H) (D.setL .fz xs) ws2 (fun _ => 0) := rl.frz F
   have node : ∃ on, Rp (C.G (fun b => Z b ∧ ox b = 0) H) (.nd k (D.setL .fz xs)) (.ref a) on ∧ (∀ b, on b ≤ oe b) ∧ (D.noOwn (.nd k (D.setL .fz xs)) = true ∨ spS st r p = true) := by
     revert n
     generalize hfl : k.fl = f
     intro n
     have nz := D.noOwnL_set (g := .fz) (by decide) xs
     match f, n with
     | none, n => exact ⟨fun _ => 0, .nd hk2 rf (by rw [hfl]; exact ⟨fun q => n.1 q.1, fun _ => rfl⟩), fun _ => Nat.zero_le _, .inl (by simp [D.noOwn, hfl, nz])⟩
     | some .own, n => exact ⟨one a, .nd hk2 rf (by rw [hfl]; exact ⟨⟨n.1, by have h1 := s.nd a; have h2 := n.2.2 a; have h3 := ho a; rw [one_self] at h2; omega⟩, n.2.1, fun b => by simp⟩), fun b => by have := n.2.2 b; omega, .inr (hsp ⟨a, by have := n.2.2 a; rw [one_self] at this; omega⟩)⟩
     | some .bor, n => exact ⟨fun _ => 0, .nd hk2 rf (by rw [hfl]; exact ⟨fun q => n.1 q.1, fun _ => rfl, fun _ => rfl⟩), fun _ => Nat.zero_le _, .inl (by simp [D.noOwn, hfl, nz])⟩
     | some .fz, n => exact ⟨fun _ => 0, .nd hk2 rf (by rw [hfl]; exact ⟨fun q => n.1 q.1, n.2.1, fun _ => rfl, fun _ => rfl⟩), fun _ => Nat.zero_le _, .inl (by simp [D.noOwn, hfl, nz])⟩
   obtain ⟨on, rn, hn, hs⟩ := node
   obtain ⟨p1, p2, q1, q2, q3⟩ := t1.cut
   have t2 : SR C (fun b => Z b ∧ ox b = 0) (setS st r p .un) ((ds ++ D.setL .fz xs) ++ [.nd k (D.setL .fz xs)]) σ ((vs ++ ws2) ++ [.ref a]) H (fun b => orr b + oq b + on b) :=
     ⟨q1.app (o2 := fun b => p2 b + on b) ((q2.app (os := p2) rf fun b => by simp).app (RpL.one rn) fun _ => rfl) (fun b => by have := q3 b; (try dsimp only at *); omega), fun b => by have := s.nd b; rw [ho] at this; have := hn b; (try dsimp only); omega, t1.ln, t1.sl, t1.kp, t1.fr, t1.al, t1.bb, t1.fx⟩
   have := t2.lay (getS_set h) hp (hs.imp id fun q => by rw [spS_set h]; exact q)
   rw [setS_set h] at this; exact this.sx
end
end PV
namespace PV
open PySem L2
structure Ex where
 c : Str
 f : Str := ""
 p : Option D := none
def Ex.ds (e : Ex) : List D := match e.p with
 | some d => [d]
 | none => []
inductive R (α : Type) where | ok (a : α) (st : List D) | ex (e : Ex) (st : List D) | stuck
inductive Md where | io | bo | fz
 deriving DecidableEq
inductive AD where | val (d : D) | lnd (r : Nat) (p : Pth)
def AD.d : AD → D
 | .val d => d
 | .lnd _ _ => .un
inductive FR where | ok (d : D) (outs : List D) | ex (e : Ex) (outs : List D) | stuck
def takeA : List Md → List AD → List D → Option (List D × List D)
 | [], [], st => some (st, [])
 | m :: ms, .val d :: as, st => match takeA ms as st with
   | some (st', bs) => some (st', (if m = .fz then d.frz else d) :: bs)
   | none => none
 | .io :: ms, .lnd r p :: as, st => match getS st r p with
   | some e => match takeA ms as (setS st r p .un) with
     | some (st', bs) => some (st', e :: bs)
     | none => none
   | none => none
 | .fz :: ms, .lnd r p :: as, st => match getS st r p with
   | some e => match takeA ms as (setS st r p e.frz) with
     | some (st', bs) => some (st', e.frz :: bs)
     | none => none
   | none => none
 | .bo :: ms, .lnd r p :: as, st => match takeA ms as st with
   | some (st', bs) => some (st', .un :: bs)
   | none => none
 | _, _, _ => none
def argsOf : List Md → List AD → List D → List D → Option (List D)
 | [], [], [], _ => some []
 | .bo :: ms, .val _ :: as, b :: bs, st => match argsOf ms as bs st with
   | some l => some (b.len :: l)
   | none => none
 | .bo :: ms, .lnd r p :: as, b :: bs, st => match getS st r p with
   | some e => match argsOf ms as bs st with
     | some l => some (e.len :: l)
     | none => none
   | none => none
 | .io :: ms, .val _ :: as, b :: bs, st => match argsOf ms as bs st with
   | some l => some (b :: l)
   | none => none
 | .io :: ms, .lnd r p :: as, b :: bs, st => match getS st r p with
   | some _ => match argsOf ms as bs st with
     | some l => some (b :: l)
     | none => none
   | none => none
 | .fz :: ms, _ :: as, b :: bs, st => match argsOf ms as bs st with
   | some l => some (b :: l)
   | none => none
 | _, _, _, _ => none
def isUn : Option D → Bool
 | some .un => true
 | _ => false
def putA : List Md → List AD → List D → List D → Option (List D)
 | [], [], [], st => some st
 | .io :: ms, .lnd r p :: as, o :: os, st => match putA ms as os st with
   | some st' => if (isUn (getS st' r p) && (D.noOwn o || spS st' r p)) = true then some (setS st' r p o) else none
   | none => none
 | _ :: ms, _ :: as, _ :: os, st => putA ms as os st
 | _, _, _, _ => none
mutual
def D.noBor : D → Bool
 | .nd k xs => (k.fl != some .bor) && D.noBorL xs
 | .scr _ => false
 | _ => true
def D.noBorL : List D → Bool
 | [] => true
 | d :: r => D.noBor d && D.noBorL r
end
abbrev Fn := List D → FR
def callR (ms : List Md) (F : Fn) (as : List AD) (st : List D) : R D := match takeA ms as st with
 | none => .stuck
 | some (st1, bs) => match argsOf ms as bs st1 with
   | none => .stuck
   | some args => match F args with
     | .ok d outs => if D.noBorL (d :: outs) = true then match putA ms as outs st1 with
         | some st2 => .ok d st2
         | none => .stuck
       else .stuck
     | .ex e outs => if D.noBorL (e.ds ++ outs) = true then match putA ms as outs st1 with
         | some st2 => .ex e st2
         | none => .stuck
       else .stuck
     | .stuck => .stuck
inductive Lnd (H : Hp) (σ : St) : List AD → List V → Prop
 | nil : Lnd H σ [] []
 | val {d : D} {u : V} {as : List AD} {us : List V} : Lnd H σ as us → Lnd H σ (.val d :: as) (u :: us)
 | lnd {r : Nat} {p : Pth} {u : V} {as : List AD} {us : List V} : HPs H σ r p u → Lnd H σ as us → Lnd H σ (.lnd r p :: as) (u :: us)
theorem Lnd.len {H : Hp} {σ : St} : ∀ {as : List AD} {us : List V}, Lnd H σ as us → as.length = us.length
 | _, _, .nil => rfl
 | _, _, .val t => by simp [t.len]
 | _, _, .lnd _ t => by simp [t.len]
theorem Lnd.same {H H' : Hp} {σ : St} (s : Same H H') : ∀ {as : List AD} {us : List V}, Lnd H σ as us → Lnd H' σ as us
 | _, _, .nil => .nil
 | _, _, .val t => .val (t.same s)
 | _, _, .lnd h t => .lnd (h.same s) (t.same s)
section
variable {C : Cc} {Z Z' : Addr → Prop} {st ds : List D} {σ : St} {vs : List V} {H H' : Hp} {os os' : Ct}
theorem SX.rot {x : D} {v : V} {B : List D} {vB : List V} (s : SX C st (ds ++ (x :: B)) σ (vs ++ (v :: vB)) H) (hl : ds.length = vs.length) : SX C st (ds ++ (B ++ [x])) σ (vs ++ (vB ++ [v])) H := by
 obtain ⟨Z, os, s⟩ := s
 obtain ⟨o1, o2, r1, r2, e⟩ := s.cut
 obtain ⟨o3, o4, r3, r4, e'⟩ := RpL.cut hl r2
 cases r4 with
 | cons rx rB e2 =>
   rename_i o5 o6
   exact (s.mk2 (os' := os) (o2 := fun b => o3 b + (o6 b + o5 b)) r1 (r3.app (rB.app (RpL.one rx) fun _ => rfl) fun _ => rfl) (fun b => by rw [e, e', e2]; omega) (fun _ => Nat.le_refl _) s.sl).sx
theorem SX.drop1 {x : D} {v : V} {B : List D} {vB : List V} (s : SX C st (ds ++ (x :: B)) σ (vs ++ (v :: vB)) H) (hl : ds.length = vs.length) : SX C st (ds ++ B) σ (vs ++ vB) H := by
 have := s.rot hl
 rw [← List.append_assoc, ← List.append_assoc] at this
 exact this.pop
theorem SX.frzTop {x : D} {v : V} (s : SX C st (ds ++ [x]) σ (vs ++ [v]) H) : SX C st (ds ++ [x.frz]) σ (vs ++ [v]) H := by
 obtain ⟨Z, os, s⟩ := s
 obtain ⟨o1, o2, o3, r1, r2, r3, e⟩ := s.top
 have hz : ∀ b, 0 < o1 b + o2 b → Z b ∧ o3 b = 0 := fun b q => ⟨(s.rp.dom b (by rw [e]; omega)).2.1, by have := s.nd b; rw [e] at this; omega⟩
 have F : Gd.Fr (C.G Z H) (C.G (fun a => Z a ∧ o3 a = 0) H) .fz o3 := ⟨rfl, rfl, fun _ _ q _ => q, fun _ _ _ z => fun q => z q.1, fun b p => ⟨fun q => by have := q.2; omega, fun _ => (r3.dom b p).2.2⟩, fun _ _ _ _ z => z, by decide⟩
 have t0 : SR C Z st ds σ vs H (fun b => o1 b + o2 b) := s.mk2 r1 r2 (fun _ => rfl) (fun b => by rw [e]; omega) s.sl
 have t1 := t0.lessZ (Z' := fun a => Z a ∧ o3 a = 0) (fun _ q => q.1) hz
 obtain ⟨p1, p2, q1, q2, q3⟩ := t1.cut
 exact (t1.mk2 (o2 := p2) (os' := fun b => o1 b + o2 b) q1 (q2.app (os := p2) (RpL.one (r3.frz F)) fun b => by simp) q3 (fun _ => Nat.le_refl _) t1.sl).sx
theorem SX.takeA : ∀ {ms : List Md} {as : List AD} {us : List V} {st st1 bs done : List D} {dvs : List V}, SX C st (ds ++ (as.map AD.d ++ done)) σ (vs ++ (us ++ dvs)) H → ds.length = vs.length → Lnd H σ as us → PV.takeA ms as st = some (st1, bs) → SX C st1 (ds ++ (done ++ bs)) σ (vs ++ (dvs ++ us)) H
 | [], [], [], st, st1, bs, done, dvs, s, hl, hL, h => by
   simp [PV.takeA] at h
   obtain ⟨rfl, rfl⟩ := h
   simpa using s
 | m :: ms, .val d :: as, u :: us, st, st1, bs, done, dvs, s, hl, hL, h => by
   cases hL with
   | val hL =>
     simp only [PV.takeA] at h
     cases q : PV.takeA ms as st with
     | none => rw [q] at h; simp at h
     | some z =>
       obtain ⟨st', bs'⟩ := z
       rw [q] at h; simp at h
       obtain ⟨rfl, rfl⟩ := h
       have t := SX.rot (x := d) (v := u) (B := as.map AD.d ++ done) (vB := us ++ dvs) s hl
       have t2 : SX C st (ds ++ (as.map AD.d ++ (done ++ [if m = .fz then d.frz else d]))) σ (vs ++ (us ++ (dvs ++ [u]))) H := by
         by_cases hm : m = .fz
         · rw [if_pos hm]
           rw [← List.append_assoc ds, ← List.append_assoc vs] at t
           have := t.frzTop
           simpa [List.append_assoc] using this
         · rw [if_neg hm]; simpa [List.append_assoc] using t
       have := SX.takeA t2 hl hL q
       simpa [List.append_assoc] using this
 | .io :: ms, .lnd r p :: as, u :: us, st, st1, bs, done, dvs, s, hl, hL, h => by
   cases hL with
   | lnd hp hL =>
     simp only [PV.takeA] at h
     cases q0 : getS st r p with
     | none => rw [q0] at h; simp at h
     | some e =>
       rw [q0] at h; simp only at h
       cases q : PV.takeA ms as (setS st r p .un) with
       | none => rw [q] at h; simp at h
       | some z =>
         obtain ⟨st', bs'⟩ := z
         rw [q] at h; simp at h
         obtain ⟨rfl, rfl⟩ := h
         have t := SX.drop1 (x := .un) (v := u) (B := as.map AD.d ++ done) (vB := us ++ dvs) s hl
         obtain ⟨Z, os, t⟩ := t
         have t2 := (t.take q0 hp).sx
         have := SX.takeA (done := done ++ [e]) (dvs := dvs ++ [u]) (by simpa [List.append_assoc] using t2) hl hL q
         simpa [List.append_assoc] using this
 | .fz :: ms, .lnd r p :: as, u :: us, st, st1, bs, done, dvs, s, hl, hL, h => by
   cases hL with
   | lnd hp hL =>
     simp only [PV.takeA] at h
     cases q0 : getS st r p with
     | none => rw [q0] at h; simp at h
     | some e =>
       rw [q0] at h; simp only at h
       cases q : PV.takeA ms as (setS st r p e.frz) with
       | none => rw [q] at h; simp at h
       | some z =>
         obtain ⟨st', bs'⟩ := z
         rw [q] at h; simp at h
         obtain ⟨rfl, rfl⟩ := h
         have t := SX.drop1 (x := .un) (v := u) (B := as.map AD.d ++ done) (vB := us ++ dvs) s hl
         have t2 := t.share q0 hp
         have := SX.takeA (done := done ++ [e.frz]) (dvs := dvs ++ [u]) (by simpa [List.append_assoc] using t2) hl hL q
         simpa [List.append_assoc] using this
 | .bo :: ms, .lnd r p :: as, u :: us, st, st1, bs, done, dvs, s, hl, hL, h => by
   cases hL with
   | lnd hp hL =>
     simp only [PV.takeA] at h
     cases q : PV.takeA ms as st with
     | none => rw [q] at h; simp at h
     | some z =>
       obtain ⟨st', bs'⟩ := z
       rw [q] at h; simp at h
       obtain ⟨rfl, rfl⟩ := h
       have t := SX.rot (x := .un) (v := u) (B := as.map AD.d ++ done) (vB := us ++ dvs) s hl
       have := SX.takeA (done := done ++ [.un]) (dvs := dvs ++ [u]) (by simpa [List.append_assoc] using t) hl hL q
       simpa [List.append_assoc] using this
 | [], _ :: _, _, _, _, _, _, _, _, _, _, h => by simp [PV.takeA] at h
 | _ :: _, [], _, _, _, _, _, _, _, _, _, h => by simp [PV.takeA] at h
 | [], [], _ :: _, _, _, _, _, _, _, _, hL, _ => by cases hL
 | _ :: _, _ :: _, [], _, _, _, _, _, _, _, hL, _ => by cases hL
structure Gd.In (G G' : Gd) (oI oR : Ct) : Prop where
 k : G'.K = G.K
 ca : G'.CA = G.CA
 h : G'.H = G.H
 z : ∀ b o, G.H b = some o → ¬ G.Z b → ¬ G'.Z b ∧ (¬ G.B b → ¬ G'.B b)
 i : ∀ b, 0 < oI b → G'.Z b ∧ ¬ G'.B b
 r : ∀ b, 0 < oR b → ¬ G'.Z b
theorem Gd.In.sub {G G' : Gd} {oI oR oI' oR' : Ct} (t : Gd.In G G' oI oR) (h1 : ∀ b, 0 < oI' b → 0 < oI b) (h2 : ∀ b, 0 < oR' b → 0 < oR b) : Gd.In G G' oI' oR' :=
 ⟨t.k, t.ca, t.h, t.z, fun b q => t.i b (h1 b q), fun b q => t.r b (h2 b q)⟩
theorem Gd.In.to {G G' : Gd} {oI oR : Ct} (t : Gd.In G G' oI oR) : Gd.To G G' oI :=
 ⟨t.k, t.ca, fun b o q _ => by rw [t.h]; exact q, fun b o q z => (t.z b o q z).1, t.i, fun b o q z => (t.z b o q z).2⟩
theorem Gd.In.fr {G G' : Gd} {oI oR : Ct} (t : Gd.In G G' oI oR) : Gd.Fr G G' .bor oR :=
 ⟨t.k, t.ca, fun b o q _ => by rw [t.h]; exact q, fun b o q z => (t.z b o q z).1, fun b q => ⟨t.r b q, fun z => by cases z⟩, fun b o q z => (t.z b o q z).2, by decide⟩
theorem args_to {G : Gd} {oS : Ct} : ∀ {ms : List Md} {as : List AD} {bs args : List D} {us : List V} {st : List D} {oB : Ct}, RpL G bs us oB →
   (∀ r p e u, getS st r p = some e → HPs G.H σ r p u → ∃ oe, Rp G e u oe ∧ ∀ b, 0 < oe b → 0 < oS b) → Lnd G.H σ as us → argsOf ms as bs st = some args →
   ∃ oI oR : Ct, (∀ b, oB b = oI b + oR b) ∧ ∀ G' : Gd, Gd.In G G' oI (fun b => oR b + oS b) → RpL G' args us oI
 | [], [], [], args, us, st, oB, r, hS, hL, h => by
   simp [argsOf] at h; subst h
   cases r with
   | nil z => exact ⟨fun _ => 0, fun _ => 0, fun b => by simp [z], fun G' _ => .nil fun _ => rfl⟩
 | .bo :: ms, .val d :: as, b :: bs, args, _, st, oB, .cons (o1 := o1) (o2 := o2) r t e, hS, .val hL, h => by
   simp only [argsOf] at h
   cases q : argsOf ms as bs st with
   | none => rw [q] at h; simp at h
   | some l =>
     rw [q] at h; simp at h; subst h
     obtain ⟨oI, oR, e2, k⟩ := args_to t hS hL q
     refine ⟨oI, fun b => o1 b + oR b, fun b => by rw [e, e2]; (try dsimp only); omega, fun G' c => ?_⟩
     exact .cons (o1 := fun _ => 0) (o2 := oI) (r.frz (c.sub (oI' := oI) (oR' := o1) (fun _ q => q) fun b q => by (try dsimp only); omega).fr) (k G' (c.sub (fun _ q => q) fun b q => by (try dsimp only at *); omega)) fun b => by simp
 | .bo :: ms, .lnd rr p :: as, b :: bs, args, _, st, oB, .cons (o1 := o1) (o2 := o2) r t e, hS, .lnd hp hL, h => by
   simp only [argsOf] at h
   cases q0 : getS st rr p with
   | none => rw [q0] at h; simp at h
   | some x =>
     rw [q0] at h; simp only at h
     cases q : argsOf ms as bs st with
     | none => rw [q] at h; simp at h
     | some l =>
       rw [q] at h; simp at h; subst h
       obtain ⟨oI, oR, e2, k⟩ := args_to t hS hL q
       obtain ⟨oe, re, he⟩ := hS _ _ _ _ q0 hp
       refine ⟨oI, fun b => o1 b + oR b, fun b => by rw [e, e2]; (try dsimp only); omega, fun G' c => ?_⟩
       exact .cons (o1 := fun _ => 0) (o2 := oI) (re.frz (c.sub (oI' := oI) (oR' := oe) (fun _ q => q) fun b q => by have := he b q; (try dsimp only); omega).fr) (k G' (c.sub (fun _ q => q) fun b q => by (try dsimp only at *); omega)) fun b => by simp
 | .io :: ms, .val d :: as, b :: bs, args, _, st, oB, .cons (o1 := o1) (o2 := o2) r t e, hS, .val hL, h => by
   simp only [argsOf] at h
   cases q : argsOf ms as bs st with
   | none => rw [q] at h; simp at h
   | some l =>
     rw [q] at h; simp at h; subst h
     obtain ⟨oI, oR, e2, k⟩ := args_to t hS hL q
     refine ⟨fun b => o1 b + oI b, oR, fun b => by rw [e, e2]; (try dsimp only); omega, fun G' c => ?_⟩
     exact .cons (o1 := o1) (o2 := oI) (r.mono (c.to.sub fun b q => by (try dsimp only); omega)) (k G' (c.sub (fun b q => by (try dsimp only at *); omega) fun b q => q)) fun b => rfl
 | .io :: ms, .lnd rr p :: as, b :: bs, args, _, st, oB, .cons (o1 := o1) (o2 := o2) r t e, hS, .lnd hp hL, h => by
   simp only [argsOf] at h
   cases q0 : getS st rr p with
   | none => rw [q0] at h; simp at h
   | some x =>
     rw [q0] at h; simp only at h
     cases q : argsOf ms as bs st with
     | none => rw [q] at h; simp at h
     | some l =>
       rw [q] at h; simp at h; subst h
       obtain ⟨oI, oR, e2, k⟩ := args_to t hS hL q
       refine ⟨fun b => o1 b + oI b, oR, fun b => by rw [e, e2]; (try dsimp only); omega, fun G' c => ?_⟩
       exact .cons (o1 := o1) (o2 := oI) (r.mono (c.to.sub fun b q => by (try dsimp only); omega)) (k G' (c.sub (fun b q => by (try dsimp only at *); omega) fun b q => q)) fun b => rfl
 | .fz :: ms, .val d :: as, b :: bs, args, _, st, oB, .cons (o1 := o1) (o2 := o2) r t e, hS, .val hL, h => by
   simp only [argsOf] at h
   cases q : argsOf ms as bs st with
   | none => rw [q] at h; simp at h
   | some l =>
     rw [q] at h; simp at h; subst h
     obtain ⟨oI, oR, e2, k⟩ := args_to t hS hL q
     refine ⟨fun b => o1 b + oI b, oR, fun b => by rw [e, e2]; (try dsimp only); omega, fun G' c => ?_⟩
     exact .cons (o1 := o1) (o2 := oI) (r.mono (c.to.sub fun b q => by (try dsimp only); omega)) (k G' (c.sub (fun b q => by (try dsimp only at *); omega) fun b q => q)) fun b => rfl
 | .fz :: ms, .lnd rr p :: as, b :: bs, args, _, st, oB, .cons (o1 := o1) (o2 := o2) r t e, hS, .lnd hp hL, h => by
   simp only [argsOf] at h
   cases q : argsOf ms as bs st with
   | none => rw [q] at h; simp at h
   | some l =>
     rw [q] at h; simp at h; subst h
     obtain ⟨oI, oR, e2, k⟩ := args_to t hS hL q
     refine ⟨fun b => o1 b + oI b, oR, fun b => by rw [e, e2]; (try dsimp only); omega, fun G' c => ?_⟩
     exact .cons (o1 := o1) (o2 := oI) (r.mono (c.to.sub fun b q => by (try dsimp only); omega)) (k G' (c.sub (fun b q => by (try dsimp only at *); omega) fun b q => q)) fun b => rfl
 | [], [], _ :: _, _, _, _, _, _, _, _, h => by simp [argsOf] at h
 | [], _ :: _, _, _, _, _, _, _, _, _, h => by simp [argsOf] at h
 | .bo :: _, [], _, _, _, _, _, _, _, _, h => by simp [argsOf] at h
 | .io :: _, [], _, _, _, _, _, _, _, _, h => by simp [argsOf] at h
 | .fz :: _, [], _, _, _, _, _, _, _, _, h => by simp [argsOf] at h
 | .bo :: _, .val _ :: _, [], _, _, _, _, _, _, _, h => by simp [argsOf] at h
 | .bo :: _, .lnd _ _ :: _, [], _, _, _, _, _, _, _, h => by simp [argsOf] at h
 | .io :: _, .val _ :: _, [], _, _, _, _, _, _, _, h => by simp [argsOf] at h
 | .io :: _, .lnd _ _ :: _, [], _, _, _, _, _, _, _, h => by simp [argsOf] at h
 | .fz :: _, _ :: _, [], _, _, _, _, _, _, _, h => by simp [argsOf] at h
structure Gd.Bk (G G' : Gd) (os : Ct) : Prop where
 k : G'.K = G.K
 ca : G'.CA = G.CA
 h : G'.H = G.H
 o : ∀ b, 0 < os b → G'.Z b ∧ ¬ G'.B b
 f : ∀ b, ¬ G.Z b → ¬ G.B b → ¬ G'.Z b ∧ ¬ G'.B b
 t : ∀ b xs, G.H b = some (.tup xs) → ¬ G.Z b → ¬ G'.Z b
theorem Gd.Bk.sub {G G' : Gd} {os os' : Ct} (t : Gd.Bk G G' os) (h : ∀ b, 0 < os' b → 0 < os b) : Gd.Bk G G' os' := ⟨t.k, t.ca, t.h, fun b q => t.o b (h b q), t.f, t.t⟩
mutual
theorem Rp.back {G G' : Gd} : ∀ {d : D} {v : V} {os : Ct}, Rp G d v os → D.noBor d = true → Gd.Bk G G' os → Rp G' d v os
 | _, _, _, .un h, _, _ => .un h
 | _, _, _, .non h, _, _ => .non h
 | _, _, _, .bl h, _, _ => .bl h
 | _, _, _, .int h, _, _ => .int h
 | _, _, _, .str h, _, _ => .str h
 | _, _, _, .scr _ _, n, _ => by simp [D.noBor] at n
 | _, _, _, .exc q h, _, t => .exc (q.to t.ca fun b o e z n => ⟨by rw [t.h]; exact e, (t.f b z n).1, (t.f b z n).2⟩) h
 | _, _, _, .nd (k := k) (a := a) (vs := ws) (os := os) (os' := os') hk r n, nb, t => by
   simp only [D.noBor, Bool.and_eq_true, bne_iff_ne] at nb
   have hk' : HoK G'.CA G'.H a ws k := by rw [t.ca, t.h]; exact hk
   revert n
   generalize hfl : k.fl = f
   intro n
   match f, n with
   | none, n =>
     refine .nd (os' := os') hk' (RpL.back r nb.2 (t.sub fun b hb => by rw [n.2]; exact hb)) ?_
     rw [hfl]
     refine ⟨?_, n.2⟩
     cases k with
     | tup => exact t.t a _ hk n.1
     | lst f => cases hfl
     | dct f ks => cases hfl
     | dtp f ks => cases hfl
     | ins f c ns => cases hfl
   | some .own, n =>
     have p : 0 < os a := by rw [n.2.2, one_self]; omega
     refine .nd (os' := os') hk' (RpL.back r nb.2 (t.sub fun b hb => by rw [n.2.2]; omega)) ?_
     rw [hfl]; exact ⟨(t.o a p).1, (t.o a p).2, n.2.2⟩
   | some .bor, n => exact absurd hfl nb.1
   | some .fz, n =>
     refine .nd (os' := os') hk' (RpL.back r nb.2 (t.sub fun b hb => by have := n.2.2.1 b; omega)) ?_
     rw [hfl]; exact ⟨(t.f a n.1 n.2.1).1, (t.f a n.1 n.2.1).2, n.2.2⟩
theorem RpL.back {G G' : Gd} : ∀ {xs : List D} {vs : List V} {os : Ct}, RpL G xs vs os → D.noBorL xs = true → Gd.Bk G G' os → RpL G' xs vs os
 | _, _, _, .nil h, _, _ => .nil h
 | _, _, _, .cons (o1 := o1) (o2 := o2) r t h, n, g => by
   simp only [D.noBorL, Bool.and_eq_true] at n
   exact .cons (Rp.back r n.1 (g.sub fun b hb => by rw [h]; omega)) (RpL.back t n.2 (g.sub fun b hb => by rw [h]; omega)) h
end
theorem isUn_eq {o : Option D} (h : isUn o = true) : o = some .un := by
 unfold isUn at h
 split at h
 · rfl
 · cases h
def LndI (H : Hp) (σ : St) : List Md → List AD → List V → Prop
 | .io :: ms, .lnd r p :: as, u :: us => HPs H σ r p u ∧ LndI H σ ms as us
 | _ :: ms, _ :: as, _ :: us => LndI H σ ms as us
 | _, _, _ => True
theorem LndI.of {st : List D} (k : ∀ r p u e, getS st r p = some e → HPs H σ r p u → HPs H' σ r p u) : ∀ {ms : List Md} {as : List AD} {bs args : List D} {us : List V}, Lnd H σ as us → argsOf ms as bs st = some args → LndI H' σ ms as us
 | [], _, _, _, _, _, _ => by simp [LndI]
 | .io :: ms, .lnd r p :: as, b :: bs, args, u :: us, .lnd hp hL, h => by
   simp only [argsOf] at h
   cases q0 : getS st r p with
   | none => rw [q0] at h; simp at h
   | some x =>
     rw [q0] at h; simp only at h
     cases q : argsOf ms as bs st with
     | none => rw [q] at h; simp at h
     | some l => exact ⟨k _ _ _ _ q0 hp, LndI.of k hL q⟩
 | .io :: ms, .val d :: as, b :: bs, args, u :: us, .val hL, h => by
   simp only [argsOf] at h
   cases q : argsOf ms as bs st with
   | none => rw [q] at h; simp at h
   | some l => simp only [LndI]; exact LndI.of k hL q
 | .bo :: ms, .val d :: as, b :: bs, args, u :: us, .val hL, h => by
   simp only [argsOf] at h
   cases q : argsOf ms as bs st with
   | none => rw [q] at h; simp at h
   | some l => simp only [LndI]; exact LndI.of k hL q
 | .bo :: ms, .lnd r p :: as, b :: bs, args, u :: us, .lnd hp hL, h => by
   simp only [argsOf] at h
   cases q0 : getS st r p with
   | none => rw [q0] at h; simp at h
   | some x =>
     rw [q0] at h; simp only at h
     cases q : argsOf ms as bs st with
     | none => rw [q] at h; simp at h
     | some l => simp only [LndI]; exact LndI.of k hL q
 | .fz :: ms, .val d :: as, b :: bs, args, u :: us, .val hL, h => by
   simp only [argsOf] at h
   cases q : argsOf ms as bs st with
   | none => rw [q] at h; simp at h
   | some l => simp only [LndI]; exact LndI.of k hL q
 | .fz :: ms, .lnd r p :: as, b :: bs, args, u :: us, .lnd hp hL, h => by
   simp only [argsOf] at h
   cases q : argsOf ms as bs st with
   | none => rw [q] at h; simp at h
   | some l => simp only [LndI]; exact LndI.of k hL q
 | _ :: _, [], _, _, _, _, _ => by simp [LndI]
 | _ :: _, _ :: _, [], _, _, _, h => by
   rename_i m _ a _ _ _ _
   cases m <;> cases a <;> simp [argsOf] at h
theorem SX.putA : ∀ {ms : List Md} {as : List AD} {outs : List D} {us : List V} {st st2 : List D} {ds : List D} {vs : List V}, SX C st (ds ++ outs) σ (vs ++ us) H → ds.length = vs.length → LndI H σ ms as us → PV.putA ms as outs st = some st2 → SX C st2 ds σ vs H
 | [], [], [], us, st, st2, ds, vs, s, hl, _, h => by
   simp [PV.putA] at h; subst h
   obtain ⟨Z, os, z⟩ := id s
   have hd := z.dn
   simp at hd
   have : us = [] := List.length_eq_zero_iff.mp (by omega)
   subst this
   simpa using s
 | .io :: ms, .lnd r p :: as, o :: os, u :: us, st, st2, ds, vs, s, hl, ⟨hp, hL⟩, h => by
   simp only [PV.putA] at h
   cases q : PV.putA ms as os st with
   | none => rw [q] at h; simp at h
   | some st' =>
     rw [q] at h; simp only at h
     have s' : SX C st ((ds ++ [o]) ++ os) σ ((vs ++ [u]) ++ us) H := by simpa [List.append_assoc] using s
     have t := SX.putA s' (by simp [hl]) hL q
     split at h
     · rename_i c
       simp only [Option.some.injEq] at h; subst h
       simp only [Bool.and_eq_true, Bool.or_eq_true] at c
       obtain ⟨Z, o1, t⟩ := t
       exact (t.lay (isUn_eq c.1) hp c.2).sx
     · cases h
 | .io :: ms, .val d :: as, o :: os, u :: us, st, st2, ds, vs, s, hl, hL, h => by
   simp only [PV.putA] at h
   have s' : SX C st ((ds ++ [o]) ++ os) σ ((vs ++ [u]) ++ us) H := by simpa [List.append_assoc] using s
   exact (SX.putA s' (by simp [hl]) hL h).pop
 | .bo :: ms, a :: as, o :: os, u :: us, st, st2, ds, vs, s, hl, hL, h => by
   have hL' : LndI H σ ms as us := hL
   simp only [PV.putA] at h
   have s' : SX C st ((ds ++ [o]) ++ os) σ ((vs ++ [u]) ++ us) H := by simpa [List.append_assoc] using s
   exact (SX.putA s' (by simp [hl]) hL' h).pop
 | .fz :: ms, a :: as, o :: os, u :: us, st, st2, ds, vs, s, hl, hL, h => by
   have hL' : LndI H σ ms as us := hL
   simp only [PV.putA] at h
   have s' : SX C st ((ds ++ [o]) ++ os) σ ((vs ++ [u]) ++ us) H := by simpa [List.append_assoc] using s
   exact (SX.putA s' (by simp [hl]) hL' h).pop
 | [], [], _ :: _, _, _, _, _, _, _, _, _, h => by simp [PV.putA] at h
 | [], _ :: _, _, _, _, _, _, _, _, _, _, h => by simp [PV.putA] at h
 | .io :: _, [], _, _, _, _, _, _, _, _, _, h => by simp [PV.putA] at h
 | .bo :: _, [], _, _, _, _, _, _, _, _, _, h => by simp [PV.putA] at h
 | .fz :: _, [], _, _, _, _, _, _, _, _, _, h => by simp [PV.putA] at h
 | .io :: _, .lnd _ _ :: _, [], _, _, _, _, _, _, _, _, h => by simp [PV.putA] at h
 | .io :: _, .val _ :: _, [], _, _, _, _, _, _, _, _, h => by simp [PV.putA] at h
 | .bo :: _, _ :: _, [], _, _, _, _, _, _, _, _, h => by simp [PV.putA] at h
 | .fz :: _, _ :: _, [], _, _, _, _, _, _, _, _, h => by simp [PV.putA] at h
 | _ :: _, _ :: _, _ :: _, [], _, _, _, _, s, hl, _, _ => by
   obtain ⟨Z, os, z⟩ := s
   have := z.dn
   simp at this; omega
structure Pre (K : PySem.W.Frag) (CA : Str → Option Addr) (H : Hp) (args : List D) (us : List V) (os : Ct) (B : Addr → Prop) : Prop where
 rp : RpL ⟨K, CA, H, fun a => 0 < os a, B⟩ args us os
 nd : ∀ b, os b ≤ 1
 al : ∀ a, 0 < os a → ∃ o, H a = some o ∧ ∀ xs, o ≠ .tup xs
 bb : ∀ a, B a → (∃ o, H a = some o) ∧ os a = 0
structure Post (K : PySem.W.Frag) (CA : Str → Option Addr) (H : Hp) (os : Ct) (B : Addr → Prop) (outs : List D) (us : List V) (H' : Hp) (Z' : Addr → Prop) (os' : Ct) : Prop where
 rp : RpL ⟨K, CA, H', Z', B⟩ outs us os'
 nd : ∀ b, os' b ≤ 1
 kp : ∀ a o, H a = some o → os a = 0 → H' a = some o
 fr : ∀ a, Z' a → 0 < os a ∨ H a = none
 al : ∀ a, Z' a → ∃ o, H' a = some o ∧ ∀ xs, o ≠ .tup xs
theorem SX.call0 {ms : List Md} {as : List AD} {us : List V} {st1 bs args : List D} (s : SX C st (ds ++ as.map AD.d) σ (vs ++ us) H) (hl : ds.length = vs.length) (hL : Lnd H σ as us) (h1 : PV.takeA ms as st = some (st1, bs)) (h2 : argsOf ms as bs st1 = some args) :
   ∃ (os : Ct) (B : Addr → Prop), Pre C.K C.CA H args us os B ∧ (∃ (Z : Addr → Prop) (oD : Ct), RpL (C.G Z H) ds vs oD ∧ ∀ b, 0 < oD b → os b = 0) ∧
     ∀ (xs : List D) (ws : List V) (outs : List D) (H' : Hp) (Z' : Addr → Prop) (os' : Ct), xs.length = ws.length → Post C.K C.CA H os B (xs ++ outs) (ws ++ us) H' Z' os' → D.noBorL (xs ++ outs) = true → SX C st1 (ds ++ (xs ++ outs)) σ (vs ++ (ws ++ us)) H' ∧ LndI H' σ ms as us := by
 have t := SX.takeA (done := []) (dvs := []) (by simpa using s) hl hL h1
 obtain ⟨Z, ot, t⟩ := t
 rw [List.nil_append, List.nil_append] at t
 obtain ⟨oS, o2, rS, r2, e⟩ := t.cut
 obtain ⟨oD, oB, rD, rB, e'⟩ := RpL.cut hl r2
 have hS : ∀ r p x u, getS st1 r p = some x → HPs (C.G Z H).H σ r p u → ∃ oe, Rp (C.G Z H) x u oe ∧ ∀ b, 0 < oe b → 0 < oS b := fun r p x u q hp => by
   have t0 : SR C Z st1 [] σ [] H oS := t.mk2 (o2 := fun _ => 0) rS (.nil fun _ => rfl) (fun _ => rfl) (fun b => by rw [e]; omega) t.sl
   obtain ⟨u', oe, orr, oq, hp', re, rq, ho, _, _⟩ := t0.path q (let ⟨v, w, _⟩ := hp; ⟨v, w⟩)
   have hp0 : HPs H σ r p u := hp
   have := hp0.fn hp'; subst this
   exact ⟨oe, re, fun b z => by rw [ho]; omega⟩
 obtain ⟨oI, oR, eB, k⟩ := args_to (oS := oS) rB hS hL h2
 have eT : ∀ b, ot b = oS b + oD b + oI b + oR b := fun b => by rw [e, e', eB]; omega
 have zI : ∀ b, 0 < oI b → Z b := fun b q => (t.rp.dom b (by rw [eT]; omega)).2.1
 have bI : ∀ b, 0 < oI b → ¬ C.B b := fun b q => (t.rp.dom b (by rw [eT]; omega)).2.2
 have bAl : ∀ a, C.B a → ∃ o, H a = some o := fun a z => by obtain ⟨⟨o, q⟩, w⟩ := t.bb a z; exact ⟨o, t.kp a o q w⟩
 refine ⟨oI, fun a => C.B a ∨ (Z a ∧ oI a = 0), ⟨k ⟨C.K, C.CA, H, fun a => 0 < oI a, fun a => C.B a ∨ (Z a ∧ oI a = 0)⟩ ⟨rfl, rfl, rfl, fun b o q z => ⟨fun w => z (zI b w), fun w => fun w2 => w2.elim w fun w3 => z w3.1⟩, fun b q => ⟨q, fun w => w.elim (bI b q) fun w3 => by omega⟩, fun b q => fun w => ?_⟩, ?_, ?_, ?_⟩, ⟨Z, oD, rD, fun b q => by have := t.nd b; rw [eT] at this; omega⟩, ?_⟩
 · have := t.nd b; rw [eT] at this; (try dsimp only at *); omega
 · intro b; have := t.nd b; rw [eT] at this; omega
 · intro a q; exact t.al a (zI a q)
 · rintro a (z | z)
   · exact ⟨bAl a z, Nat.eq_zero_of_not_pos fun q => bI a q z⟩
   · obtain ⟨o, q, _⟩ := t.al a z.1; exact ⟨⟨o, q⟩, z.2⟩
 · intro xs ws outs H' Z' os' hxs P nb
   have nI : ∀ b, 0 < oS b + oD b → oI b = 0 := fun b q => by have := t.nd b; rw [eT] at this; omega
   have T : Gd.To (C.G Z H) (C.G (fun a => (Z a ∧ oI a = 0) ∨ Z' a) H') (fun b => oS b + oD b) := by
     refine ⟨rfl, rfl, fun b o q w => P.kp b o q ?_, fun b o q z => ?_, fun b q => ⟨.inl ⟨(t.rp.dom b (by rw [eT]; (try dsimp only at *); omega)).2.1, nI b q⟩, (t.rp.dom b (by rw [eT]; (try dsimp only at *); omega)).2.2⟩, fun _ _ _ _ z => z⟩
     · rcases w with w | w
       · exact nI b w
       · exact Nat.eq_zero_of_not_pos fun z => w (zI b z)
     · rintro (w | w)
       · exact z w.1
       · rcases P.fr b w with w | w
         · exact z (zI b w)
         · have q' : H b = some o := q
           rw [w] at q'; cases q'
   have K : Gd.Bk ⟨C.K, C.CA, H', Z', fun a => C.B a ∨ (Z a ∧ oI a = 0)⟩ (C.G (fun a => (Z a ∧ oI a = 0) ∨ Z' a) H') os' := by
     refine ⟨rfl, rfl, rfl, fun b q => ?_, fun b z w => ?_, fun b ys q z => ?_⟩
     · obtain ⟨_, z, w⟩ := P.rp.dom b q
       exact ⟨.inr z, fun q => w (.inl q)⟩
     · exact ⟨fun y => y.elim (fun y => w (.inr y)) z, fun y => w (.inl y)⟩
     · rintro (w | w)
       · obtain ⟨o, h3, h4⟩ := t.al b w.1
         have h5 : H' b = some o := P.kp b o h3 w.2
         have h6 : H' b = some (.tup ys) := q
         rw [h5] at h6; cases h6
         exact h4 ys rfl
       · exact z w
   have rB' := P.rp.back nb K
   have S2 : SR C (fun a => (Z a ∧ oI a = 0) ∨ Z' a) st1 (ds ++ (xs ++ outs)) σ (vs ++ (ws ++ us)) H' (fun b => oS b + oD b + os' b) := by
     refine ⟨(rS.mono (T.sub fun b q => by (try dsimp only); omega)).app (o2 := fun b => oD b + os' b) ((rD.mono (T.sub fun b q => by (try dsimp only); omega)).app rB' fun _ => rfl) (fun b => by (try dsimp only); omega), fun b => ?_, t.ln, t.sl, fun a o q z => ?_, ?_, ?_, t.bb, t.fx⟩
     · have h1 := t.nd b; rw [eT] at h1
       have h2 := P.nd b
       by_cases q : 0 < os' b
       · have z := (P.rp.dom b q).2.1
         rcases P.fr b z with w | w
         · (try dsimp only); omega
         · have : ot b = 0 := Nat.eq_zero_of_not_pos fun y => by
             obtain ⟨⟨o, h3⟩, _⟩ := t.rp.dom b y
             have h4 : H b = some o := h3
             rw [w] at h4; cases h4
           rw [eT] at this; (try dsimp only); omega
       · (try dsimp only); omega
     · refine P.kp a o (t.kp a o q z) (Nat.eq_zero_of_not_pos fun w => ?_)
       rcases t.fr a (zI a w) with y | y
       · omega
       · rw [q] at y; cases y
     · rintro a (w | w)
       · exact t.fr a w.1
       · rcases P.fr a w with y | y
         · exact t.fr a (zI a y)
         · by_cases q2 : C.os0 a = 0
           · right
             cases q : C.H0 a with
             | none => rfl
             | some o => have := t.kp a o q q2; rw [y] at this; cases this
           · left; omega
     · rintro a (w | w)
       · obtain ⟨o, h3, h4⟩ := t.al a w.1; exact ⟨o, P.kp a o h3 w.2, h4⟩
       · exact P.al a w
   have hL' : LndI H' σ ms as us := by
     have t0 : SR C Z st1 ds σ vs H (fun b => oS b + oD b) := t.mk2 rS rD (fun _ => rfl) (fun b => by rw [eT]; (try dsimp only); omega) t.sl
     exact LndI.of (fun r p u e q hp => t0.hps (G' := C.G (fun a => (Z a ∧ oI a = 0) ∨ Z' a) H') q hp T) hL h2
   exact ⟨S2.sx, hL'⟩
theorem SX.call {ms : List Md} {as : List AD} {us : List V} {st1 bs args : List D} (s : SX C st (ds ++ as.map AD.d) σ (vs ++ us) H) (hl : ds.length = vs.length) (hL : Lnd H σ as us) (h1 : PV.takeA ms as st = some (st1, bs)) (h2 : argsOf ms as bs st1 = some args) :
   ∃ (os : Ct) (B : Addr → Prop), Pre C.K C.CA H args us os B ∧
     ∀ (xs : List D) (ws : List V) (outs st2 : List D) (H' : Hp) (Z' : Addr → Prop) (os' : Ct), xs.length = ws.length → Post C.K C.CA H os B (xs ++ outs) (ws ++ us) H' Z' os' → D.noBorL (xs ++ outs) = true → PV.putA ms as outs st1 = some st2 → SX C st2 (ds ++ xs) σ (vs ++ ws) H' := by
 obtain ⟨os, B, P, _, k⟩ := s.call0 hl hL h1 h2
 exact ⟨os, B, P, fun xs ws outs st2 H' Z' os' hxs Po nb hput => by
   obtain ⟨S2, hL'⟩ := k xs ws outs H' Z' os' hxs Po nb
   exact SX.putA (ds := ds ++ xs) (vs := vs ++ ws) (by simpa [List.append_assoc] using S2) (by simp [hl, hxs]) hL' hput⟩
end
end PV
namespace L2
open PySem PySem.Spec PyProof.Rows
theorem PE.impV {X : Cx} {e : Expr} {t t' : TE} (h : PE X e t) (k : ∀ σ H Q, t' σ H Q → t σ H Q) : PE X e t' := ⟨fun pins s σ H Q I h' => h.run pins s σ H Q I (k _ _ _ h')⟩
theorem PT.impV {X : Cx} {e : Expr} {t t' : TT} (h : PT X e t) (k : ∀ σ H Q, t' σ H Q → t σ H Q) : PT X e t' := ⟨fun pins s σ H Q I h' => h.run pins s σ H Q I (k _ _ _ h')⟩
theorem PW.impV {X : Cx} {e : Expr} {t t' : TT} (h : PW X e t) (k : ∀ σ H Q, t' σ H Q → t σ H Q) : PW X e t' := ⟨fun wh pins s σ H Q I h' => h.run wh pins s σ H Q I (k _ _ _ h')⟩
theorem PA.impV {X : Cx} {e : List Expr} {t t' : TA} (h : PA X e t) (k : ∀ σ H Q, t' σ H Q → t σ H Q) : PA X e t' := ⟨fun pos pins s σ H Q I h' => h.run pos pins s σ H Q I (k _ _ _ h')⟩
theorem PS.impV {X : Cx} {e : Stmt} {t t' : TS} (h : PS X e t) (k : ∀ D σ H, t' D σ H → t D σ H) : PS X e t' := ⟨fun pins s σ H Q I h' => h.run pins s σ H Q I (k _ _ _ h')⟩
theorem PSs.impV {X : Cx} {e : List Stmt} {t t' : TS} (h : PSs X e t) (k : ∀ D σ H, t' D σ H → t D σ H) : PSs X e t' := ⟨fun pins s σ H Q I h' => h.run pins s σ H Q I (k _ _ _ h')⟩
end L2
namespace PV
open PySem L2
structure COk (X : Cx) (C : Cc) : Prop where
 k : C.K = X.K
 tk : Takes X C.W
def ExOk (C : Cc) (e : Ex) (cls : Value) (dx : Option Addr) (H : Hp) (us : List V) : Prop := ∃ a, C.CA e.c = some a ∧ cls = .ref a ∧ match e.p with
 | none => dx = none ∧ us = []
 | some _ => ∃ x v, dx = some x ∧ H x = some (.xd [(e.f, v)]) ∧ us = [v]
def rX (C : Cc) (ds : List D) (vs : List V) (σ : St) (e : Ex) (st : List D) : Prop := ∀ cls dx us H', SX C st (ds ++ e.ds) σ (vs ++ us) H' → ExOk C e cls dx H' us → C.W cls dx σ H'
def rE (C : Cc) (sm : Bool) (ds : List D) (vs : List V) (σ : St) (H : Hp) (Q : VK) : R D → Prop
 | .ok d st => ∀ v H', (sm = true → Same H H') → SX C st (ds ++ [d]) σ (vs ++ [v]) H' → Q v H'
 | .ex e st => rX C ds vs σ e st
 | .stuck => False
def trE (C : Cc) (sm : Bool) (m : List D → R D) : TE := fun σ H Q => ∃ st ds vs, SX C st ds σ vs H ∧ ds.length = vs.length ∧ rE C sm ds vs σ H Q (m st)
def VE (X : Cx) (C : Cc) (sm : Bool) (e : Expr) (m : List D → R D) : Prop := PE X e (trE C sm m)
inductive PL where | pth (r : Nat) (p : Pth) | sc (d : D)
def rQ (σ : St) (H : Hp) (Q : VK) : Option PL → Prop
 | some (.pth r p) => ∀ u, HPs H σ r p u → Q u H
 | some (.sc d) => ∀ v, vOf d = some v → Q v H
 | none => False
def PLok (C : Cc) (st : List D) : PL → Prop
 | .pth r p => ∃ k xs, getS st r p = some (.nd k xs)
 | .sc d => ∃ v, vOf d = some v
def trQ (C : Cc) (q : List D → Option PL) : TE := fun σ H Q => ∃ st ds vs, SX C st ds σ vs H ∧ rQ σ H Q (q st)
structure VQ (X : Cx) (C : Cc) (e : Expr) (q : List D → Option PL) : Prop where
 pe : PE X e (trQ C q)
 ok : ∀ st pl, q st = some pl → PLok C st pl
def rT (C : Cc) (ds : List D) (vs : List V) (σ : St) (Q : Bool → Hp → Prop) : R Bool → Prop
 | .ok b st => ∀ H', SX C st ds σ vs H' → Q b H'
 | .ex e st => rX C ds vs σ e st
 | .stuck => False
def trT (C : Cc) (m : List D → R Bool) : TT := fun σ H Q => ∃ st ds vs, SX C st ds σ vs H ∧ ds.length = vs.length ∧ rT C ds vs σ Q (m st)
def VT (X : Cx) (C : Cc) (e : Expr) (m : List D → R Bool) : Prop := PT X e (trT C m)
def VW (X : Cx) (C : Cc) (e : Expr) (m : List D → R Bool) : Prop := PW X e (trT C m)
def rA (C : Cc) (sm : Bool) (ds : List D) (vs : List V) (σ : St) (H : Hp) (Q : List V → Hp → Prop) : R (List AD) → Prop
 | .ok as st => ∀ us H', (sm = true → Same H H') → SX C st (ds ++ as.map AD.d) σ (vs ++ us) H' → Lnd H' σ as us → Q us H'
 | .ex e st => rX C ds vs σ e st
 | .stuck => False
def trA (C : Cc) (sm : Bool) (m : List D → R (List AD)) : TA := fun σ H Q => ∃ st ds vs, SX C st ds σ vs H ∧ ds.length = vs.length ∧ rA C sm ds vs σ H Q (m st)
def VA (X : Cx) (C : Cc) (sm : Bool) (es : List Expr) (m : List D → R (List AD)) : Prop := PA X es (trA C sm m)
def R.bind {α β : Type} (m : R α) (f : α → List D → R β) : R β := match m with
 | .ok a st => f a st
 | .ex e st => .ex e st
 | .stuck => .stuck
@[simp] theorem R.bind_ok {α β : Type} (a : α) (st : List D) (f : α → List D → R β) : (R.ok a st).bind f = f a st := rfl
@[simp] theorem R.bind_ex {α β : Type} (e : Ex) (st : List D) (f : α → List D → R β) : (R.ex e st : R α).bind f = .ex e st := rfl
@[simp] theorem R.bind_stuck {α β : Type} (f : α → List D → R β) : (R.stuck : R α).bind f = .stuck := rfl
section
variable {X : Cx} {C : Cc} {st ds : List D} {σ : St} {vs : List V} {H H' : Hp}
theorem SX.dn (s : SX C st ds σ vs H) : ds.length = vs.length := let ⟨_, _, s⟩ := s; s.dn
theorem SX.sln (s : SX C st ds σ vs H) : st.length = σ.length := let ⟨_, _, s⟩ := s; s.ln
theorem SX.dropMid {d' tl : List D} {v' tlv : List V} (s : SX C st ((ds ++ d') ++ tl) σ ((vs ++ v') ++ tlv) H) (hl : ds.length = vs.length) (hl' : d'.length = v'.length) : SX C st (ds ++ tl) σ (vs ++ tlv) H := by
 obtain ⟨Z, os, s⟩ := s
 obtain ⟨o1, o2, r1, r2, e⟩ := s.cut
 obtain ⟨o3, o4, r3, r4, e3⟩ := RpL.cut (by simp [hl, hl']) r2
 obtain ⟨o5, o6, r5, r6, e5⟩ := RpL.cut hl r3
 exact (s.mk2 (os' := fun b => o1 b + (o5 b + o4 b)) (o2 := fun b => o5 b + o4 b) r1 (r5.app r4 fun _ => rfl) (fun _ => rfl) (fun b => by rw [e, e3, e5]; (try dsimp only); omega) s.sl).sx
theorem rX.up {d' : List D} {v' : List V} {e : Ex} {st : List D} (h : rX C ds vs σ e st) (hl : ds.length = vs.length) (hl' : d'.length = v'.length) : rX C (ds ++ d') (vs ++ v') σ e st :=
 fun cls dx us H' s k => h cls dx us H' (s.dropMid hl hl') k
theorem SX.place {r : Nat} {p : Pth} {e : D} (s : SX C st ds σ vs H) (h : getS st r p = some e) (hu : e ≠ .un) : ∃ u, HPs H σ r p u := by
 obtain ⟨Z, os, s⟩ := s
 obtain ⟨u, _, _, _, hp, _⟩ := s.path h (s.hv h hu)
 exact ⟨u, hp⟩
theorem SX.node {r : Nat} {p : Pth} {k : Kd} {xs : List D} {u : V} (s : SX C st ds σ vs H) (h : getS st r p = some (.nd k xs)) (hp : HPs H σ r p u) :
   ∃ (a : Addr) (ws : List V) (Z : Addr → Prop) (os : Ct), u = .ref a ∧ HoK C.CA H a ws k ∧ RpL (C.G Z H) xs ws os := by
 obtain ⟨Z, os, s⟩ := s
 obtain ⟨u', oe, _, _, hp', re, _⟩ := s.path h (let ⟨v, e, _⟩ := hp; ⟨v, e⟩)
 have := hp.fn hp'; subst this
 cases re with
 | nd hk rl n => exact ⟨_, _, Z, _, rfl, hk, rl⟩
theorem SX.scal {r : Nat} {p : Pth} {d : D} {u v : V} (s : SX C st ds σ vs H) (h : getS st r p = some d) (hv : vOf d = some v) (hp : HPs H σ r p u) : u = v := by
 obtain ⟨Z, os, s⟩ := s
 obtain ⟨u', oe, _, _, hp', re, _⟩ := s.path h (let ⟨v, e, _⟩ := hp; ⟨v, e⟩)
 have := hp.fn hp'; subst this
 exact sc_of re hv
theorem SX.scTop {d : D} {u v : V} (s : SX C st (ds ++ [d]) σ (vs ++ [u]) H) (hv : vOf d = some v) : u = v := by
 obtain ⟨Z, os, s⟩ := s
 obtain ⟨_, _, _, _, _, r, _⟩ := s.top
 exact sc_of r hv
theorem SX.ndTop {k : Kd} {xs : List D} {u : V} (s : SX C st (ds ++ [.nd k xs]) σ (vs ++ [u]) H) : ∃ (a : Addr) (ws : List V) (Z : Addr → Prop) (os : Ct), u = .ref a ∧ HoK C.CA H a ws k ∧ RpL (C.G Z H) xs ws os := by
 obtain ⟨Z, os, s⟩ := s
 obtain ⟨_, _, _, _, _, r, _⟩ := s.top
 cases r with
 | nd hk rl n => exact ⟨_, _, Z, _, rfl, hk, rl⟩
def plOf (st : List D) (r : Nat) (p : Pth) : Option PL := match getS st r p with
 | some d => match vOf d with
   | some _ => some (.sc d)
   | none => match d with
     | .nd _ _ => some (.pth r p)
     | _ => none
 | none => none
theorem plOf_ok {r : Nat} {p : Pth} {pl : PL} (h : plOf st r p = some pl) : PLok C st pl := by
 unfold plOf at h
 cases q : getS st r p with
 | none => rw [q] at h; simp at h
 | some d =>
   rw [q] at h; simp only at h
   cases w : vOf d with
   | some v => rw [w] at h; simp at h; subst h; exact ⟨v, w⟩
   | none =>
     rw [w] at h
     cases d <;> simp at h
     subst h; exact ⟨_, _, q⟩
theorem rQ_pl {r : Nat} {p : Pth} {Q : VK} {u : V} (s : SX C st ds σ vs H) (hp : HPs H σ r p u) (h : rQ σ H Q (plOf st r p)) : Q u H := by
 unfold plOf at h
 cases q : getS st r p with
 | none => rw [q] at h; exact h.elim
 | some d =>
   rw [q] at h; simp only at h
   cases w : vOf d with
   | some v =>
     rw [w] at h
     rw [s.scal q w hp]; exact h v w
   | none =>
     rw [w] at h
     cases d <;> first | exact h u hp | exact h.elim
def qV (i : Nat) : List D → Option PL := fun st => plOf st i []
theorem vq_v (i : Nat) {x : Str} {pos : Pos} (hN : X.N[i]? = some x := by rfl) (hv : Vis X.env.scope x := by first | exact Or.inl rfl | exact Or.inr (Or.inl rfl) | exact Or.inr (Or.inr rfl)) (hd : (x == ("__debug__" : Str)) = false := by decide)
   (hcd : (x == ("__classdict__" : Str)) = false := by decide) : VQ X C (.Name x pos) (qV i) := by
 refine ⟨(pv i hN hv hd hcd).impV ?_, fun st pl h => plOf_ok h⟩
 rintro σ H Q ⟨st, ds, vs, s, h⟩
 unfold qV at h
 cases q : getS st i [] with
 | none => unfold plOf at h; rw [q] at h; exact h.elim
 | some d =>
   have hu : d ≠ .un := by
     rintro rfl
     unfold plOf at h; rw [q] at h; exact h.elim
   obtain ⟨u, hp⟩ := s.place q hu
   obtain ⟨v, e, e2⟩ := id hp
   have e2 : v = u := e2
   subst e2
   exact ⟨v, e, rQ_pl s hp h⟩
def qC (d : D) : List D → Option PL := fun _ => some (.sc d)
theorem vq_int {i : Int} {j : Nat} {pos : Pos} : VQ X C (.Constant (.int i) j pos) (qC (.int i)) := ⟨pe_int.impV (by rintro σ H Q ⟨st, ds, vs, s, h⟩; exact h _ rfl), by rintro st pl h; simp [qC] at h; subst h; exact ⟨_, rfl⟩⟩
theorem vq_bl {b : Bool} {j : Nat} {pos : Pos} : VQ X C (.Constant (.bool b) j pos) (qC (.bl b)) := ⟨pe_bl.impV (by rintro σ H Q ⟨st, ds, vs, s, h⟩; exact h _ rfl), by rintro st pl h; simp [qC] at h; subst h; exact ⟨_, rfl⟩⟩
theorem vq_str {x : Str} {j : Nat} {pos : Pos} : VQ X C (.Constant (.str x) j pos) (qC (.str x)) := ⟨pe_str.impV (by rintro σ H Q ⟨st, ds, vs, s, h⟩; exact h _ rfl), by rintro st pl h; simp [qC] at h; subst h; exact ⟨_, rfl⟩⟩
theorem rQ_next {r : Nat} {p : Pth} {k : Kd} {xs : List D} {j : Nat} {a : Addr} {ws : List V} {w : V} {Q : VK} (s : SX C st ds σ vs H) (h : getS st r p = some (.nd k xs)) (hp : HPs H σ r p (.ref a)) (hk : HoK C.CA H a ws k) (hw : ws[j]? = some w) (q : rQ σ H Q (plOf st r (p ++ [j]))) : Q w H := by
 obtain ⟨o, ho, hv⟩ := hk.vals
 obtain ⟨v, e, hp⟩ := hp
 exact rQ_pl s ⟨v, e, hp.snoc ho (by rw [hv]; exact hw)⟩ q
theorem getS_len {r : Nat} {p : Pth} {k : Kd} {xs : List D} {j : Nat} {Q : VK} (h : getS st r p = some (.nd k xs)) (q : rQ σ H Q (plOf st r (p ++ [j]))) : j < xs.length := by
 unfold plOf at q
 cases e : getS st r (p ++ [j]) with
 | none => rw [e] at q; exact q.elim
 | some d =>
   unfold getS at h e
   cases h0 : st[r]? with
   | none => rw [h0] at h; simp at h
   | some x =>
     rw [h0] at h e; simp only at h e
     clear q h0
     induction p generalizing x with
     | nil =>
       simp [getP] at h; subst h
       simp only [List.nil_append, getP] at e
       cases q : xs[j]? with
       | none => rw [q] at e; simp at e
       | some y => exact (List.getElem?_eq_some_iff.mp q).1
     | cons i p ih =>
       cases x with
       | nd k' ys =>
         simp only [getP, List.cons_append] at h e
         cases q : ys[i]? with
         | none => rw [q] at h; simp at h
         | some y => rw [q] at h e; exact ih y (by simpa using e) (by simpa using h)
       | _ => simp [getP] at h
def qIx (qa qb : List D → Option PL) : List D → Option PL := fun st => match qa st, qb st with
 | some (.pth r p), some (.sc (.int i)) => match getS st r p with
   | some (.nd (.lst _) xs) => match ixN xs.length i with
     | some j => plOf st r (p ++ [j])
     | none => none
   | some (.nd .tup xs) => match ixN xs.length i with
     | some j => plOf st r (p ++ [j])
     | none => none
   | _ => none
 | some (.sc (.str z)), some (.sc (.int i)) => if z.length ≤ sizeLine then match atI z.cps.toList i with
     | some c => some (.sc (.str ⟨#[c]⟩))
     | none => none
   else none
 | _, _ => none
theorem atI_of {α : Type} {xs : List α} {i : Int} {j : Nat} {v : α} (h : ixN xs.length i = some j) (hv : xs[j]? = some v) : atI xs i = some v := by
 unfold atI; rw [h]; exact hv
theorem vq_ix {a b : Expr} {pos : Pos} {qa qb : List D → Option PL} (O : COk X C) (ha : VQ X C a qa) (hb : VQ X C b qb) (hs : PlainIx b := by exact fun _ _ => rfl) : VQ X C (.Subscript a b pos) (qIx qa qb) := by
 refine ⟨(pe_ix ix_seq ha.pe hb.pe hs).impV ?_, fun st pl h => ?_⟩
 · rintro σ H Q ⟨st, ds, vs, s, h⟩
   refine ⟨st, ds, vs, s, ?_⟩
   unfold qIx at h
   cases q : qa st with
   | none => rw [q] at h; exact h.elim
   | some pl =>
     cases q2 : qb st with
     | none => rw [q, q2] at h; cases pl with
       | pth r p => exact h.elim
       | sc d => cases d <;> exact h.elim
     | some pl2 =>
       rw [q, q2] at h
       cases pl2 with
       | pth r2 p2 =>
         cases pl with
         | pth r p => exact h.elim
         | sc d => cases d <;> exact h.elim
       | sc d2 =>
         cases d2 with
         | int i =>
           cases pl with
           | pth r p =>
             simp only at h
             obtain ⟨k, xs, hg⟩ := ha.ok _ _ q
             rw [hg] at h
             intro u hp
             refine ⟨st, ds, vs, s, ?_⟩
             rw [q2]
             rintro v2 hv2
             simp [vOf] at hv2; subst hv2
             obtain ⟨a', ws, Z, os, rfl, hk, rl⟩ := s.node hg hp
             have hl := rl.len
             cases k with
             | lst f =>
               simp only at h
               cases w : ixN xs.length i with
               | none => rw [w] at h; exact h.elim
               | some j =>
                 rw [w] at h
                 have hj := getS_len hg h
                 obtain ⟨v, hv⟩ : ∃ v, ws[j]? = some v := ⟨ws[j], by simp [← hl, hj]⟩
                 exact .inl ⟨a', ws, i, v, rfl, rfl, SqL.of hk, atI_of (by rw [← hl]; exact w) hv, rQ_next s hg hp hk hv h⟩
             | tup =>
               simp only at h
               cases w : ixN xs.length i with
               | none => rw [w] at h; exact h.elim
               | some j =>
                 rw [w] at h
                 have hj := getS_len hg h
                 obtain ⟨v, hv⟩ : ∃ v, ws[j]? = some v := ⟨ws[j], by simp [← hl, hj]⟩
                 exact .inr (.inl ⟨a', ws, i, v, rfl, rfl, SqT.of hk, atI_of (by rw [← hl]; exact w) hv, rQ_next s hg hp hk hv h⟩)
             | _ => exact h.elim
           | sc d =>
             cases d with
             | str z =>
               simp only at h
               rintro v1 hv1
               simp [vOf] at hv1; subst hv1
               refine ⟨st, ds, vs, s, ?_⟩
               rw [q2]
               rintro v2 hv2
               simp [vOf] at hv2; subst hv2
               split at h
               · rename_i hz
                 cases w : atI z.cps.toList i with
                 | none => rw [w] at h; exact h.elim
                 | some c =>
                   rw [w] at h
                   exact .inr (.inr ⟨z, i, c, rfl, rfl, hz, w, h _ rfl⟩)
               · exact h.elim
             | _ => exact h.elim
         | _ => cases pl with
           | pth r p => exact h.elim
           | sc d => cases d <;> exact h.elim
 · unfold qIx at h
   split at h
   · split at h
     · split at h
       · exact plOf_ok h
       · cases h
     · split at h
       · exact plOf_ok h
       · cases h
     · cases h
   · split at h
     · split at h
       · simp at h; subst h; exact ⟨_, rfl⟩
       · cases h
     · cases h
   · cases h
end
end PV
namespace PV
open PySem L2
abbrev G2 := D → D → Option D
def rS (g : G2) : R2 := fun v u H Q => ∃ x y d w, vOf x = some v ∧ vOf y = some u ∧ g x y = some d ∧ vOf d = some w ∧ Q w H
def ScG (g : G2) : Prop := ∀ x y d, g x y = some d → (∃ v, vOf x = some v) ∧ (∃ v, vOf y = some v) ∧ ∃ w, vOf d = some w
def qOp (g : G2) (qa qb : List D → Option PL) : List D → Option PL := fun st => match qa st, qb st with
 | some (.sc x), some (.sc y) => match g x y with
   | some d => some (.sc d)
   | none => none
 | _, _ => none
section
variable {X : Cx} {C : Cc} {st ds : List D} {σ : St} {vs : List V} {H H' : Hp} {a b : Expr} {pos : Pos} {qa qb : List D → Option PL} {ma mb : List D → R D} {sa sb : Bool}
theorem q_two {g : G2} (hg : ScG g) (ha : VQ X C a qa) (hb : VQ X C b qb) {r : R2} (hr : ∀ x y d v u w H Q, vOf x = some v → vOf y = some u → g x y = some d → vOf d = some w → Q w H → r v u H Q) :
   ∀ σ H Q, trQ C (qOp g qa qb) σ H Q → tOp r (trQ C qa) (trQ C qb) σ H Q := by
 rintro σ H Q ⟨st, ds, vs, s, h⟩
 refine ⟨st, ds, vs, s, ?_⟩
 unfold qOp at h
 cases q : qa st with
 | none => rw [q] at h; exact h.elim
 | some pl =>
   cases q2 : qb st with
   | none => rw [q, q2] at h; cases pl <;> exact h.elim
   | some pl2 =>
     rw [q, q2] at h
     cases pl with
     | pth r p => exact h.elim
     | sc x =>
       cases pl2 with
       | pth r p => exact h.elim
       | sc y =>
         simp only at h
         cases e : g x y with
         | none => rw [e] at h; exact h.elim
         | some d =>
           rw [e] at h
           obtain ⟨_, _, w, hw⟩ := hg _ _ _ e
           intro v hv
           refine ⟨st, ds, vs, s, ?_⟩
           rw [q2]
           intro u hu
           exact hr x y d v u w H Q hv hu e hw (h w hw)
theorem qOp_ok {g : G2} (hg : ScG g) : ∀ st pl, qOp g qa qb st = some pl → PLok C st pl := by
 intro st pl h
 unfold qOp at h
 split at h
 · split at h
   · rename_i e
     simp at h; subst h
     exact (hg _ _ _ e).2.2
   · cases h
 · cases h
theorem seq2 {f : D → D → List D → R D} {sm : Bool} {R' : V → V → Hp → Prop} {Q : VK} (s : SX C st ds σ vs H) (hl : ds.length = vs.length)
   (hM : rE C sm ds vs σ H Q ((ma st).bind fun x st1 => (mb st1).bind fun y st2 => f x y st2))
   (hf : ∀ x y st2 v u H2, ((sa && sb) = true → Same H H2) → SX C st2 ((ds ++ [x]) ++ [y]) σ ((vs ++ [v]) ++ [u]) H2 → rE C sm ds vs σ H Q (f x y st2) → R' v u H2) :
   trE C sa ma σ H fun v H1 => trE C sb mb σ H1 (R' v) := by
 refine ⟨st, ds, vs, s, hl, ?_⟩
 cases e : ma st with
 | stuck => rw [e] at hM; exact hM.elim
 | ex x st' => rw [e] at hM; exact hM
 | ok x st1 =>
   rw [e] at hM
   intro v H1 sm1 s1
   refine ⟨st1, ds ++ [x], vs ++ [v], s1, by simp [hl], ?_⟩
   simp only [R.bind_ok] at hM
   cases e2 : mb st1 with
   | stuck => rw [e2] at hM; exact hM.elim
   | ex y st' => rw [e2] at hM; exact rX.up hM hl rfl
   | ok y st2 =>
     rw [e2] at hM
     intro u H2 sm2 s2
     refine hf x y st2 v u H2 (fun z => ?_) s2 hM
     simp only [Bool.and_eq_true] at z
     exact (sm1 z.1).trans (sm2 z.2)
theorem seq1 {f : D → List D → R D} {sm : Bool} {R' : V → Hp → Prop} {Q : VK} (s : SX C st ds σ vs H) (hl : ds.length = vs.length)
   (hM : rE C sm ds vs σ H Q ((ma st).bind f)) (hf : ∀ x st1 v H1, (sa = true → Same H H1) → SX C st1 (ds ++ [x]) σ (vs ++ [v]) H1 → rE C sm ds vs σ H Q (f x st1) → R' v H1) : trE C sa ma σ H R' := by
 refine ⟨st, ds, vs, s, hl, ?_⟩
 cases e : ma st with
 | stuck => rw [e] at hM; exact hM.elim
 | ex x st' => rw [e] at hM; exact hM
 | ok x st1 =>
   rw [e] at hM
   intro v H1 sm1 s1
   exact hf x st1 v H1 sm1 s1 hM
theorem vq_bin {op : Operator} {r : R2} {g : G2} (ho : OpR X (binaryOp op) r) (hg : ScG g) (hr : ∀ x y d v u w H Q, vOf x = some v → vOf y = some u → g x y = some d → vOf d = some w → Q w H → r v u H Q) (ha : VQ X C a qa) (hb : VQ X C b qb) : VQ X C (.BinOp a op b pos) (qOp g qa qb) :=
 ⟨(pe_op ho ha.pe hb.pe).impV (q_two hg ha hb hr), qOp_ok hg⟩
theorem vq_cmp {op : CmpOp} {r : R2} {g : G2} (ho : OpR X (compareOp op) r) (hn : behindInMarks op b = false) (hg : ScG g) (hr : ∀ x y d v u w H Q, vOf x = some v → vOf y = some u → g x y = some d → vOf d = some w → Q w H → r v u H Q) (ha : VQ X C a qa) (hb : VQ X C b qb) : VQ X C (.Compare a [op] [b] pos) (qOp g qa qb) :=
 ⟨(pe_cmpR ho ha.pe hb.pe hn).impV (q_two hg ha hb hr), qOp_ok hg⟩
end
def gAdd : G2
 | .int i, .int j => some (.int (i + j))
 | .str x, .str y => if x.length + y.length ≤ sizeLine then some (.str (x ++ y)) else none
 | _, _ => none
def gI (f : Int → Int → D) (c : Int → Int → Bool) : G2
 | .int i, .int j => if c i j = true then some (f i j) else none
 | _, _ => none
instance (i j : Int) : Decidable (CMul i j) := by unfold CMul; infer_instance
abbrev gSub : G2 := gI (fun i j => .int (i - j)) fun _ _ => true
abbrev gMul : G2 := gI (fun i j => .int (i * j)) fun i j => decide (CMul i j)
abbrev gDiv : G2 := gI (fun i j => .int (i / j)) fun i j => decide (0 < j ∧ j.natAbs.log2 < 9000)
abbrev gMod : G2 := gI (fun i j => .int (i % j)) fun _ j => decide (0 < j)
abbrev gPow : G2 := gI (fun i j => .int (i ^ j.toNat)) fun i j => decide (0 ≤ j ∧ j ≤ 1000000 ∧ i.natAbs < 2 ^ 64)
abbrev gLt : G2 := gI (fun i j => .bl (decide (i < j))) fun _ _ => true
abbrev gLe : G2 := gI (fun i j => .bl (decide (i ≤ j))) fun _ _ => true
abbrev gGt : G2 := gI (fun i j => .bl (decide (j < i))) fun _ _ => true
abbrev gGe : G2 := gI (fun i j => .bl (decide (j ≤ i))) fun _ _ => true
theorem scg_I {f : Int → Int → D} {c : Int → Int → Bool} (h : ∀ i j, ∃ w, vOf (f i j) = some w) : ScG (gI f c) := by
 intro x y d e
 unfold gI at e
 split at e
 · split at e
   · simp at e; subst e; exact ⟨⟨_, rfl⟩, ⟨_, rfl⟩, h _ _⟩
   · cases e
 · cases e
theorem scg_add : ScG gAdd := by
 intro x y d e
 unfold gAdd at e
 split at e
 · simp at e; subst e; exact ⟨⟨_, rfl⟩, ⟨_, rfl⟩, ⟨_, rfl⟩⟩
 · split at e
   · simp at e; subst e; exact ⟨⟨_, rfl⟩, ⟨_, rfl⟩, ⟨_, rfl⟩⟩
   · cases e
 · cases e
theorem r_I {f : Int → Int → D} {c : Int → Int → Bool} {x y d : D} {v u w : V} (hv : vOf x = some v) (hu : vOf y = some u) (e : gI f c x y = some d) (hw : vOf d = some w) : ∃ i j, v = .int i ∧ u = .int j ∧ c i j = true ∧ vOf (f i j) = some w := by
 unfold gI at e
 split at e
 · rename_i i j
   split at e
   · rename_i hc
     simp at e; subst e
     simp [vOf] at hv hu; subst hv; subst hu
     exact ⟨i, j, rfl, rfl, hc, hw⟩
   · cases e
 · cases e
theorem OpR.or {X : Cx} {f : Value → Value → Sem Value} {r r' : R2} (h : OpR X f r) (h' : OpR X f r') : OpR X f (fun x y H Q => r x y H Q ∨ r' x y H Q) := by
 intro pins s σ H x y v u Q I rx ry q
 rcases q with q | q
 · exact h pins s σ H x y v u Q I rx ry q
 · exact h' pins s σ H x y v u Q I rx ry q
section
variable {X : Cx} {C : Cc} {a b : Expr} {pos : Pos} {qa qb : List D → Option PL} {ma mb : List D → R D} {sa sb : Bool}
theorem add_r : ∀ x y d v u w (H : Hp) (Q : VK), vOf x = some v → vOf y = some u → gAdd x y = some d → vOf d = some w → Q w H →
   ((rI0 fun i j => .int (i + j)) v u H Q ∨ ∃ i j, v = .str i ∧ u = .str j ∧ i.length + j.length ≤ sizeLine ∧ Q (.str (i ++ j)) H) := by
 intro x y d v u w H Q hv hu e hw q
 unfold gAdd at e
 split at e
 · simp at e; subst e
   simp [vOf] at hv hu hw; subst hv; subst hu; subst hw
   exact .inl ⟨_, _, rfl, rfl, q⟩
 · split at e
   · rename_i hz
     simp at e; subst e
     simp [vOf] at hv hu hw; subst hv; subst hu; subst hw
     exact .inr ⟨_, _, rfl, rfl, hz, q⟩
   · cases e
 · cases e
theorem vq_add (ha : VQ X C a qa) (hb : VQ X C b qb) : VQ X C (.BinOp a .Add b pos) (qOp gAdd qa qb) := vq_bin (OpR.or op_add op_add_str) scg_add add_r ha hb
theorem rI0_r {f : Int → Int → D} {g : Int → Int → V} (hg : ∀ i j, vOf (f i j) = some (g i j)) : ∀ x y d v u w (H : Hp) (Q : VK), vOf x = some v → vOf y = some u → gI f (fun _ _ => true) x y = some d → vOf d = some w → Q w H → rI0 g v u H Q := by
 intro x y d v u w H Q hv hu e hw q
 obtain ⟨i, j, rfl, rfl, _, h⟩ := r_I hv hu e hw
 rw [hg] at h; cases h
 exact ⟨i, j, rfl, rfl, q⟩
theorem rI_r {f : Int → Int → D} {g : Int → Int → V} {c : Int → Int → Bool} {P : Int → Int → Prop} (hg : ∀ i j, vOf (f i j) = some (g i j)) (hc : ∀ i j, c i j = true → P i j) : ∀ x y d v u w (H : Hp) (Q : VK), vOf x = some v → vOf y = some u → gI f c x y = some d → vOf d = some w → Q w H → rI P g v u H Q := by
 intro x y d v u w H Q hv hu e hw q
 obtain ⟨i, j, rfl, rfl, h1, h⟩ := r_I hv hu e hw
 rw [hg] at h; cases h
 exact ⟨i, j, rfl, rfl, hc i j h1, q⟩
theorem vq_sub (ha : VQ X C a qa) (hb : VQ X C b qb) : VQ X C (.BinOp a .Sub b pos) (qOp gSub qa qb) := vq_bin op_sub (scg_I fun _ _ => ⟨_, rfl⟩) (rI0_r fun _ _ => rfl) ha hb
theorem vq_mul (ha : VQ X C a qa) (hb : VQ X C b qb) : VQ X C (.BinOp a .Mult b pos) (qOp gMul qa qb) := vq_bin op_mul (scg_I fun _ _ => ⟨_, rfl⟩) (rI_r (fun _ _ => rfl) fun _ _ h => of_decide_eq_true h) ha hb
theorem vq_div (ha : VQ X C a qa) (hb : VQ X C b qb) : VQ X C (.BinOp a .FloorDiv b pos) (qOp gDiv qa qb) := vq_bin op_fdivW (scg_I fun _ _ => ⟨_, rfl⟩) (rI_r (fun _ _ => rfl) fun i j h => of_decide_eq_true (p := 0 < j ∧ j.natAbs.log2 < 9000) h) ha hb
theorem vq_mod (ha : VQ X C a qa) (hb : VQ X C b qb) : VQ X C (.BinOp a .Mod b pos) (qOp gMod qa qb) := vq_bin op_mod (scg_I fun _ _ => ⟨_, rfl⟩) (rI_r (fun _ _ => rfl) fun _ _ h => of_decide_eq_true h) ha hb
theorem vq_pow (ha : VQ X C a qa) (hb : VQ X C b qb) : VQ X C (.BinOp a .Pow b pos) (qOp gPow qa qb) := vq_bin op_pow (scg_I fun _ _ => ⟨_, rfl⟩) (rI_r (fun _ _ => rfl) fun i j h => of_decide_eq_true (p := 0 ≤ j ∧ j ≤ 1000000 ∧ i.natAbs < 2 ^ 64) h) ha hb
theorem vq_lt (ha : VQ X C a qa) (hb : VQ X C b qb) : VQ X C (.Compare a [.Lt] [b] pos) (qOp gLt qa qb) := vq_cmp op_lt (nomark _) (scg_I fun _ _ => ⟨_, rfl⟩) (rI0_r fun _ _ => rfl) ha hb
theorem vq_le (ha : VQ X C a qa) (hb : VQ X C b qb) : VQ X C (.Compare a [.LtE] [b] pos) (qOp gLe qa qb) := vq_cmp op_le (nomark _) (scg_I fun _ _ => ⟨_, rfl⟩) (rI0_r fun _ _ => rfl) ha hb
theorem vq_gt (ha : VQ X C a qa) (hb : VQ X C b qb) : VQ X C (.Compare a [.Gt] [b] pos) (qOp gGt qa qb) := vq_cmp op_gt (nomark _) (scg_I fun _ _ => ⟨_, rfl⟩) (rI0_r fun _ _ => rfl) ha hb
theorem vq_ge (ha : VQ X C a qa) (hb : VQ X C b qb) : VQ X C (.Compare a [.GtE] [b] pos) (qOp gGe qa qb) := vq_cmp op_ge (nomark _) (scg_I fun _ _ => ⟨_, rfl⟩) (rI0_r fun _ _ => rfl) ha hb
def mQ (q : List D → Option PL) : List D → R D := fun st => match q st with
 | some (.sc d) => .ok d st
 | some (.pth r p) => match getS st r p with
   | some e => .ok e.frz (setS st r p e.frz)
   | none => .stuck
 | none => .stuck
theorem VQ.e (ha : VQ X C a qa) : VE X C true a (mQ qa) := by
 refine ha.pe.impV ?_
 rintro σ H Q ⟨st, ds, vs, s, hl, h⟩
 refine ⟨st, ds, vs, s, ?_⟩
 unfold mQ at h
 cases q : qa st with
 | none => rw [q] at h; exact h.elim
 | some pl =>
   rw [q] at h
   cases pl with
   | sc d =>
     intro v hv
     exact h v H (fun _ => Same.refl H) (s.pushc hv)
   | pth r p =>
     simp only at h
     intro u hp
     cases e : getS st r p with
     | none => rw [e] at h; exact h.elim
     | some d =>
       rw [e] at h
       exact h u H (fun _ => Same.refl H) (s.share e hp)
def mMove (i : Nat) : List D → R D := fun st => match st[i]? with
 | some .un => .stuck
 | some d => .ok d (st.set i .un)
 | none => .stuck
theorem ve_move (i : Nat) {x : Str} {pos : Pos} (hN : X.N[i]? = some x := by rfl) (hv : Vis X.env.scope x := by first | exact Or.inl rfl | exact Or.inr (Or.inl rfl) | exact Or.inr (Or.inr rfl)) (hd : (x == ("__debug__" : Str)) = false := by decide)
   (hcd : (x == ("__classdict__" : Str)) = false := by decide) : VE X C true (.Name x pos) (mMove i) := by
 refine (pv i hN hv hd hcd).impV ?_
 rintro σ H Q ⟨st, ds, vs, s, hl, h⟩
 unfold mMove at h
 cases q : st[i]? with
 | none => rw [q] at h; exact h.elim
 | some d =>
   have hu : d ≠ .un := by rintro rfl; rw [q] at h; exact h.elim
   have h : rE C true ds vs σ H Q (.ok d (st.set i .un)) := by
     rw [q] at h
     cases d <;> first | exact h | exact absurd rfl hu
   obtain ⟨v, hv⟩ : ∃ v, σ[i]? = some (some v) := by
     obtain ⟨Z, os, t⟩ := id s
     exact t.sl i d q hu
   exact ⟨v, hv, h v H (fun _ => Same.refl H) (s.move q hv)⟩
def mTQ (q : List D → Option PL) : List D → R Bool := fun st => match q st with
 | some (.sc (.bl b)) => .ok b st
 | _ => .stuck
def mTE (m : List D → R D) : List D → R Bool := fun st => (m st).bind fun d st' => match d with
 | .bl b => .ok b st'
 | _ => .stuck
theorem VQ.t (ha : VQ X C a qa) (he : ∀ whole, isTrue a X.env whole = (do let v ← whole; standAt a.pos; holding [v] (truthy v)) := by intro _; rfl) : VT X C a (mTQ qa) := by
 refine (pt_val ha.pe he).impV ?_
 rintro σ H Q ⟨st, ds, vs, s, hl, h⟩
 refine ⟨st, ds, vs, s, ?_⟩
 unfold mTQ at h
 cases q : qa st with
 | none => rw [q] at h; exact h.elim
 | some pl =>
   rw [q] at h
   cases pl with
   | pth r p => exact h.elim
   | sc d =>
     cases d with
     | bl b =>
       intro v hv
       simp [vOf] at hv; subst hv
       exact ⟨b, rfl, h H s⟩
     | _ => exact h.elim
theorem VE.t (ha : VE X C sa a ma) (he : ∀ whole, isTrue a X.env whole = (do let v ← whole; standAt a.pos; holding [v] (truthy v)) := by intro _; rfl) : VT X C a (mTE ma) := by
 refine (pt_val ha he).impV ?_
 rintro σ H Q ⟨st, ds, vs, s, hl, h⟩
 refine ⟨st, ds, vs, s, hl, ?_⟩
 unfold mTE at h
 cases q : ma st with
 | stuck => rw [q] at h; exact h.elim
 | ex e st' => rw [q] at h; exact h
 | ok d st' =>
   rw [q] at h
   cases d with
   | bl b =>
     intro v H1 _ s1
     have : v = .bl b := s1.scTop rfl
     subst this
     exact ⟨b, rfl, h H1 s1.pop⟩
   | _ => exact h.elim
theorem isTrue_cmp1 {M : Model} {A : Around} {l r : Expr} {op : CmpOp} {env : Env} {s : Shared} {whole : Sem Value} {Q : Bool → Shared → Prop} {E : Value → Shared → Prop}
   (h : wpAny M A (eval (.Compare l [op] [r] pos) env) (fun v s₂ => wpAny M A (truthy v) Q E s₂) E s) : wpAny M A (isTrue (.Compare l [op] [r] pos) env whole) Q E s := fun Γ p hΓ => by
 have h' := h Γ p hΓ
 simp only [eval_Compare1, isTrue_Compare1, Sem.wp_bind', Sem.wp_holding, Sem.wp_cmd_standAt, Sem.wp_operate] at h' ⊢
 exact Sem.wp_mono M Γ _ (fun a p₁ s₁ h₁ => Sem.wp_mono M Γ _ (fun b _ s₂ h₂ => Sem.wp_mono M Γ _ (fun c p₃ s₃ h₃ => h₃ Γ p₃ hΓ) (fun _ _ _ h' => h') _ _ h₂) (fun _ _ _ h' => h') _ _ h₁) (fun _ _ _ h' => h') _ _ h'
theorem pt_cmpV {op : CmpOp} {t : TE} (h : PE X (.Compare a [op] [b] pos) t) : PT X (.Compare a [op] [b] pos) (tB t) := by
 refine ⟨fun pins s σ H Q I hw => ?_⟩
 refine isTrue_cmp1 (thn (h.run pins s σ H _ I hw) fun v s1 ⟨x, H1, I1, r1, q1⟩ => ?_)
 obtain ⟨d, rfl, q⟩ := q1
 cases r1
 exact wpAny_truthy_bool ⟨H1, I1, q⟩
theorem VQ.t_red : ∀ σ H Q, trT C (mTQ qa) σ H Q → tB (trQ C qa) σ H Q := by
 rintro σ H Q ⟨st, ds, vs, s, hl, h⟩
 refine ⟨st, ds, vs, s, ?_⟩
 unfold mTQ at h
 cases q : qa st with
 | none => rw [q] at h; exact h.elim
 | some pl =>
   rw [q] at h
   cases pl with
   | pth r p => exact h.elim
   | sc d =>
     cases d with
     | bl b =>
       intro v hv
       simp [vOf] at hv; subst hv
       exact ⟨b, rfl, h H s⟩
     | _ => exact h.elim
theorem VE.t_red : ∀ σ H Q, trT C (mTE ma) σ H Q → tB (trE C sa ma) σ H Q := by
 rintro σ H Q ⟨st, ds, vs, s, hl, h⟩
 refine ⟨st, ds, vs, s, hl, ?_⟩
 unfold mTE at h
 cases q : ma st with
 | stuck => rw [q] at h; exact h.elim
 | ex e st' => rw [q] at h; exact h
 | ok d st' =>
   rw [q] at h
   cases d with
   | bl b =>
     intro v H1 _ s1
     have : v = .bl b := s1.scTop rfl
     subst this
     exact ⟨b, rfl, h H1 s1.pop⟩
   | _ => exact h.elim
theorem VQ.tc {op : CmpOp} (ha : VQ X C (.Compare a [op] [b] pos) qa) : VT X C (.Compare a [op] [b] pos) (mTQ qa) := (pt_cmpV ha.pe).impV VQ.t_red
theorem VE.tc {op : CmpOp} (ha : VE X C sa (.Compare a [op] [b] pos) ma) : VT X C (.Compare a [op] [b] pos) (mTE ma) := (pt_cmpV ha).impV VE.t_red
end
end PV
namespace PV
open PySem L2
section
variable {X : Cx} {C : Cc} {st ds : List D} {σ : St} {vs : List V} {H H' : Hp} {a b : Expr} {pos : Pos} {qa qb : List D → Option PL} {ma mb : List D → R D} {ta tb : List D → R Bool} {sa sb : Bool} {rest : List Expr}
def mNotT (t : List D → R Bool) : List D → R Bool := fun st => (t st).bind fun b st' => .ok (!b) st'
def mOrT (t u : List D → R Bool) : List D → R Bool := fun st => (t st).bind fun b st' => if b = true then .ok true st' else u st'
theorem VT.not (ha : VT X C a ta) : VT X C (.UnaryOp .Not a pos) (mNotT ta) := by
 refine (pt_not ha).impV ?_
 rintro σ H Q ⟨st, ds, vs, s, hl, h⟩
 refine ⟨st, ds, vs, s, hl, ?_⟩
 unfold mNotT at h
 cases q : ta st with
 | stuck => rw [q] at h; exact h.elim
 | ex e st' => rw [q] at h; exact h
 | ok c st' => rw [q] at h; intro H1 s1; exact h H1 s1
theorem VT.or1 (ha : VT X C a ta) : VW X C (.BoolOp .Or [a] pos) ta := pw_or1 ha
theorem VT.or (ha : VT X C a ta) (hb : VW X C (.BoolOp .Or (b :: rest) pos) tb) : VW X C (.BoolOp .Or (a :: b :: rest) pos) (mOrT ta tb) := by
 refine (pw_or ha hb).impV ?_
 rintro σ H Q ⟨st, ds, vs, s, hl, h⟩
 refine ⟨st, ds, vs, s, hl, ?_⟩
 unfold mOrT at h
 cases q : ta st with
 | stuck => rw [q] at h; exact h.elim
 | ex e st' => rw [q] at h; exact h
 | ok c st' =>
   rw [q] at h
   intro H1 s1
   cases c with
   | true => rw [if_pos rfl]; exact h H1 s1
   | false => rw [if_neg (by decide)]; exact ⟨st', ds, vs, s1, hl, h⟩
theorem VW.t (ha : VW X C a ta) : VT X C a ta := ha.pt
def mNotV (m : List D → R D) : List D → R D := fun st => (m st).bind fun d st' => match d with
 | .bl b => .ok (.bl (!b)) st'
 | _ => .stuck
def mAndV (m n : List D → R D) : List D → R D := fun st => (m st).bind fun d st' => match d with
 | .bl true => n st'
 | .bl false => .ok (.bl false) st'
 | _ => .stuck
theorem rE.sm {Q : VK} : ∀ {r : R D}, rE C sa ds vs σ H Q r → (sb = true → sa = true) → rE C sb ds vs σ H Q r → True := fun _ _ _ => trivial
theorem rE.weak {Q : VK} {H1 : Hp} (s : sa = true → Same H H1) : ∀ {r : R D}, rE C (sa && sb) ds vs σ H Q r → rE C sb ds vs σ H1 Q r
 | .ok d st, h => fun v H' e k => h v H' (fun z => by simp only [Bool.and_eq_true] at z; exact (s z.1).trans (e z.2)) k
 | .ex _ _, h => h
 | .stuck, h => h
theorem ve_not (ha : VE X C sa a ma) : VE X C sa (.UnaryOp .Not a pos) (mNotV ma) := by
 refine (pe_not ha).impV ?_
 rintro σ H Q ⟨st, ds, vs, s, hl, h⟩
 refine seq1 (sm := sa) s hl h fun x st1 v H1 sm s1 h1 => ?_
 cases x with
 | bl b =>
   have : v = .bl b := s1.scTop rfl
   subst this
   exact ⟨b, rfl, h1 _ H1 sm (s1.pop.pushc rfl)⟩
 | _ => exact h1.elim
theorem ve_one {op : BoolOp} (ha : VE X C sa a ma) : VE X C sa (.BoolOp op [a] pos) ma := pe_one ha
theorem ve_and (ha : VE X C sa a ma) (hb : VE X C sb (.BoolOp .And (b :: rest) pos) mb) : VE X C (sa && sb) (.BoolOp .And (a :: b :: rest) pos) (mAndV ma mb) := by
 refine (pe_and ha hb).impV ?_
 rintro σ H Q ⟨st, ds, vs, s, hl, h⟩
 refine seq1 (sm := sa && sb) s hl h fun x st1 v H1 sm s1 h1 => ?_
 cases x with
 | bl c =>
   have : v = .bl c := s1.scTop rfl
   subst this
   refine ⟨c, rfl, ?_⟩
   cases c with
   | true => rw [if_pos rfl]; exact ⟨st1, ds, vs, s1.pop, hl, h1.weak sm⟩
   | false => rw [if_neg (by decide)]; exact h1 _ H1 (fun z => by simp only [Bool.and_eq_true] at z; exact sm z.1) (s1.pop.pushc rfl)
 | _ => exact h1.elim
mutual
def toPy : D → Option PyData
 | .non => some .none
 | .bl b => some (.bool b)
 | .int i => some (.int i)
 | .str s => some (.str s)
 | .nd (.lst _) xs => match toPyL xs with
   | some l => some (.list l)
   | none => none
 | .nd .tup xs => match toPyL xs with
   | some l => some (.tuple l)
   | none => none
 | _ => none
def toPyL : List D → Option (List PyData)
 | [] => some []
 | d :: r => match toPy d, toPyL r with
   | some x, some l => some (x :: l)
   | _, _ => none
end
mutual
theorem Rp.dp {G : Gd} : ∀ {d : D} {v : V} {os : Ct} {p : PyData}, Rp G d v os → toPy d = some p → Dp G.K G.H v p
 | _, _, _, _, .non _, e => by simp [toPy] at e; subst e; exact .non
 | _, _, _, _, .bl _, e => by simp [toPy] at e; subst e; exact .bl _
 | _, _, _, _, .int _, e => by simp [toPy] at e; subst e; exact .int _
 | _, _, _, _, .str _, e => by simp [toPy] at e; subst e; exact .str _
 | _, _, _, _, .un _, e => by simp [toPy] at e
 | _, _, _, _, .scr _ _, e => by simp [toPy] at e
 | _, _, _, _, .exc _ _, e => by simp [toPy] at e
 | _, _, _, _, .nd (k := k) (xs := xs) hk r n, e => by
   cases k with
   | lst f =>
     simp only [toPy] at e
     cases q : toPyL xs with
     | none => rw [q] at e; simp at e
     | some l => rw [q] at e; simp at e; subst e; exact .lst (SqL.of hk) (RpL.dp r q)
   | tup =>
     simp only [toPy] at e
     cases q : toPyL xs with
     | none => rw [q] at e; simp at e
     | some l => rw [q] at e; simp at e; subst e; exact .tup (SqT.of hk) (RpL.dp r q)
   | dct f ks => simp [toPy] at e
   | ins f c ns => simp [toPy] at e
   | dtp f ks => simp [toPy] at e
theorem RpL.dp {G : Gd} : ∀ {xs : List D} {vs : List V} {os : Ct} {l : List PyData}, RpL G xs vs os → toPyL xs = some l → DpAll G.K G.H vs l
 | _, _, _, _, .nil _, e => by simp [toPyL] at e; subst e; exact .nil
 | _, _, _, _, .cons (d := d) (xs := xs) r t h, e => by
   simp only [toPyL] at e
   cases q : toPy d with
   | none => rw [q] at e; simp at e
   | some x =>
     cases q2 : toPyL xs with
     | none => rw [q, q2] at e; simp at e
     | some l => rw [q, q2] at e; simp at e; subst e; exact .cons (Rp.dp r q) (RpL.dp t q2)
end
def isTx : PyData → Bool
 | .str _ => true
 | _ => false
def eqb (p q : PyData) : Bool := (SeqAt.shaped p && SeqAt.shaped q) || (isTx p && isTx q)
def eqD (x y : D) : Option Bool := match toPy x, toPy y with
 | some p, some q => if eqb p q = true then some (PyData.eqv p q) else none
 | _, _ => none
def rEqE (K : PySem.W.Frag) : R2 := fun x y H Q => ∃ d e, Dp K H x d ∧ Dp K H y e ∧ eqb d e = true ∧ Q (.bl (PyData.eqv d e)) H
def rNeE (K : PySem.W.Frag) : R2 := fun x y H Q => ∃ d e, Dp K H x d ∧ Dp K H y e ∧ eqb d e = true ∧ Q (.bl (!PyData.eqv d e)) H
theorem isTx_of {p : PyData} (h : isTx p = true) : ∃ s, p = .str s := by
 cases p <;> first | exact ⟨_, rfl⟩ | simp [isTx] at h
theorem op_eqE {X : Cx} (hu : X.A.units + 64 < cLine) : OpR X (compareOp .Eq) (rEqE X.K) := by
 intro pins s σ H x y v u Q I rx ry h
 obtain ⟨d, e, h1, h2, h3, q⟩ := h
 by_cases c : (SeqAt.shaped d && SeqAt.shaped e) = true
 · rw [Bool.and_eq_true] at c
   exact op_eqD hu pins s σ H x y v u Q I rx ry ⟨d, e, h1, h2, c.1, c.2, q⟩
 · have h4 : (isTx d && isTx e) = true := by
     unfold eqb at h3
     rw [Bool.or_eq_true] at h3
     exact h3.resolve_left c
   rw [Bool.and_eq_true] at h4
   obtain ⟨a, rfl⟩ := isTx_of h4.1
   obtain ⟨b, rfl⟩ := isTx_of h4.2
   cases h1
   cases h2
   refine op_eq pins s σ H _ _ v u Q I rx ry ⟨rfl, ?_⟩
   rw [dec_str]
   simpa [PyData.eqv] using q
theorem op_neE {X : Cx} (hu : X.A.units + 64 < cLine) : OpR X (compareOp .NotEq) (rNeE X.K) := by
 intro pins s σ H x y v u Q I rx ry h
 obtain ⟨d, e, h1, h2, h3, q⟩ := h
 by_cases c : (SeqAt.shaped d && SeqAt.shaped e) = true
 · rw [Bool.and_eq_true] at c
   exact op_neD hu pins s σ H x y v u Q I rx ry ⟨d, e, h1, h2, c.1, c.2, q⟩
 · have h4 : (isTx d && isTx e) = true := by
     unfold eqb at h3
     rw [Bool.or_eq_true] at h3
     exact h3.resolve_left c
   rw [Bool.and_eq_true] at h4
   obtain ⟨a, rfl⟩ := isTx_of h4.1
   obtain ⟨b, rfl⟩ := isTx_of h4.2
   cases h1
   cases h2
   refine op_ne pins s σ H _ _ v u Q I rx ry ⟨rfl, ?_⟩
   rw [dec_str]
   simpa [PyData.eqv] using q
def plD (st : List D) : PL → Option D
 | .sc d => some d
 | .pth r p => getS st r p
theorem SX.pl {Q : VK} {pl : PL} {d : D} (s : SX C st ds σ vs H) (hd : plD st pl = some d) (h : ∀ v (Z : Addr → Prop) (os : Ct), Rp (C.G Z H) d v os → Q v H) : rQ σ H Q (some pl) := by
 cases pl with
 | sc x =>
   simp [plD] at hd; subst hd
   intro v hv
   exact h v (fun _ => True) _ (rp_sc hv)
 | pth r p =>
   intro u hp
   obtain ⟨Z, os, s⟩ := s
   obtain ⟨u', oe, _, _, hp', re, _⟩ := s.path hd (let ⟨v, e, _⟩ := hp; ⟨v, e⟩)
   have := hp.fn hp'; subst this
   exact h u Z oe re
def qEq (neg : Bool) (qa qb : List D → Option PL) : List D → Option PL := fun st => match qa st, qb st with
 | some p, some q => match plD st p, plD st q with
   | some x, some y => match eqD x y with
     | some b => some (.sc (.bl (if neg = true then !b else b)))
     | none => none
   | _, _ => none
 | _, _ => none
def mEq (neg : Bool) (ma mb : List D → R D) : List D → R D := fun st => (ma st).bind fun x st1 => (mb st1).bind fun y st2 => match eqD x y with
 | some b => .ok (.bl (if neg = true then !b else b)) st2
 | none => .stuck
theorem eqD_dp {x y : D} {b : Bool} (h : eqD x y = some b) : ∃ p q, toPy x = some p ∧ toPy y = some q ∧ eqb p q = true ∧ b = PyData.eqv p q := by
 unfold eqD at h
 split at h
 · rename_i p q h1 h2
   split at h
   · rename_i hs
     exact ⟨p, q, h1, h2, hs, (Option.some.inj h).symm⟩
   · cases h
 · cases h
theorem qEq_red {Q : VK} {neg : Bool} {r : R2} (O : COk X C) (hr : ∀ v u p q (H : Hp) (Q : VK), Dp X.K H v p → Dp X.K H u q → eqb p q = true → Q (.bl (if neg = true then !(PyData.eqv p q) else PyData.eqv p q)) H → r v u H Q) :
   ∀ σ H Q, trQ C (qEq neg qa qb) σ H Q → tOp r (trQ C qa) (trQ C qb) σ H Q := by
 rintro σ H Q ⟨st, ds, vs, s, h⟩
 refine ⟨st, ds, vs, s, ?_⟩
 unfold qEq at h
 cases q : qa st with
 | none => rw [q] at h; exact h.elim
 | some pl =>
   cases q2 : qb st with
   | none => rw [q, q2] at h; exact h.elim
   | some pl2 =>
     rw [q, q2] at h
     simp only at h
     cases w : plD st pl with
     | none => rw [w] at h; exact h.elim
     | some x =>
       cases w2 : plD st pl2 with
       | none => rw [w, w2] at h; exact h.elim
       | some y =>
         rw [w, w2] at h
         simp only at h
         cases e : eqD x y with
         | none => rw [e] at h; exact h.elim
         | some b =>
           rw [e] at h
           obtain ⟨p, p2, e1, e2, s1, rfl⟩ := eqD_dp e
           refine SX.pl s w fun v Z os rv => ⟨st, ds, vs, s, ?_⟩
           rw [q2]
           refine SX.pl s w2 fun u Z2 os2 ru => ?_
           exact hr v u p p2 H Q (by rw [← O.k]; exact rv.dp e1) (by rw [← O.k]; exact ru.dp e2) s1 (h _ rfl)
theorem qEq_ok {neg : Bool} : ∀ st pl, qEq neg qa qb st = some pl → PLok C st pl := by
 intro st pl h
 unfold qEq at h
 split at h
 · split at h
   · split at h
     · simp at h; subst h; exact ⟨_, rfl⟩
     · cases h
   · cases h
 · cases h
theorem vq_eq (O : COk X C) (hu : X.A.units + 64 < cLine) (ha : VQ X C a qa) (hb : VQ X C b qb) : VQ X C (.Compare a [.Eq] [b] pos) (qEq false qa qb) :=
 ⟨(pe_cmpR (op_eqE hu) ha.pe hb.pe (nomark _)).impV (qEq_red (Q := fun _ _ => True) O fun v u p q H Q h1 h2 h3 k => ⟨p, q, h1, h2, h3, k⟩), qEq_ok⟩
theorem vq_ne (O : COk X C) (hu : X.A.units + 64 < cLine) (ha : VQ X C a qa) (hb : VQ X C b qb) : VQ X C (.Compare a [.NotEq] [b] pos) (qEq true qa qb) :=
 ⟨(pe_cmpR (op_neE hu) ha.pe hb.pe (nomark _)).impV (qEq_red (Q := fun _ _ => True) O fun v u p q H Q h1 h2 h3 k => ⟨p, q, h1, h2, h3, k⟩), qEq_ok⟩
theorem SX.topR {d : D} {v : V} (s : SX C st (ds ++ [d]) σ (vs ++ [v]) H) : ∃ (Z : Addr → Prop) (os : Ct), Rp (C.G Z H) d v os := by
 obtain ⟨Z, os, s⟩ := s
 obtain ⟨_, _, o3, _, _, r, _⟩ := s.top
 exact ⟨Z, o3, r⟩
theorem mEq_red {neg : Bool} {r : R2} (O : COk X C) (hr : ∀ v u p q (H : Hp) (Q : VK), Dp X.K H v p → Dp X.K H u q → eqb p q = true → Q (.bl (if neg = true then !(PyData.eqv p q) else PyData.eqv p q)) H → r v u H Q) :
   ∀ σ H Q, trE C (sa && sb) (mEq neg ma mb) σ H Q → tOp r (trE C sa ma) (trE C sb mb) σ H Q := by
 rintro σ H Q ⟨st, ds, vs, s, hl, h⟩
 refine seq2 (sm := sa && sb) s hl h fun x y st2 v u H2 sm s2 h2 => ?_
 cases e : eqD x y with
 | none => rw [e] at h2; exact h2.elim
 | some b =>
   rw [e] at h2
   obtain ⟨p, q, e1, e2, h3, rfl⟩ := eqD_dp e
   obtain ⟨Z, os, ru⟩ := s2.topR
   obtain ⟨Z', os', rv⟩ := s2.pop.topR
   exact hr v u p q H2 Q (by rw [← O.k]; exact rv.dp e1) (by rw [← O.k]; exact ru.dp e2) h3 (h2 _ H2 sm (s2.pop.pop.pushc rfl))
theorem ve_ne (O : COk X C) (hu : X.A.units + 64 < cLine) (ha : VE X C sa a ma) (hb : VE X C sb b mb) : VE X C (sa && sb) (.Compare a [.NotEq] [b] pos) (mEq true ma mb) :=
 (pe_cmpR (op_neE hu) ha hb (nomark _)).impV (mEq_red O fun v u p q H Q h1 h2 h3 k => ⟨p, q, h1, h2, h3, k⟩)
def isNonD : D → Bool
 | .non => true
 | _ => false
def qIsN (neg : Bool) (qa : List D → Option PL) : List D → Option PL := fun st => match qa st with
 | some (.sc d) => some (.sc (.bl (if neg = true then !(isNonD d) else isNonD d)))
 | some (.pth _ _) => some (.sc (.bl neg))
 | none => none
theorem isNon_of {G : Gd} {d : D} {v : V} {os : Ct} (r : Rp G d v os) (h : d ≠ .un) : decide (v = .non) = isNonD d := by
 cases r <;> first | rfl | exact absurd rfl h | simp [isNonD]
theorem qIsN_ok {neg : Bool} : ∀ st pl, qIsN neg qa st = some pl → PLok C st pl := by
 intro st pl h
 unfold qIsN at h
 split at h
 · simp at h; subst h; exact ⟨_, rfl⟩
 · simp at h; subst h; exact ⟨_, rfl⟩
 · cases h
theorem qIsN_red {neg : Bool} (ha : VQ X C a qa) : ∀ σ H Q, trQ C (qIsN neg qa) σ H Q → trQ C qa σ H fun x H1 => Q (.bl (if neg = true then !decide (x = .non) else decide (x = .non))) H1 := by
 rintro σ H Q ⟨st, ds, vs, s, h⟩
 refine ⟨st, ds, vs, s, ?_⟩
 unfold qIsN at h
 cases q : qa st with
 | none => rw [q] at h; exact h.elim
 | some pl =>
   rw [q] at h
   cases pl with
   | sc d =>
     intro v hv
     simp only at h
     rw [isNon_of (G := C.G (fun _ => True) H) (rp_sc hv) (vOf_un hv)]
     exact h _ rfl
   | pth r p =>
     intro u hp
     obtain ⟨k, xs, hg⟩ := ha.ok _ _ q
     obtain ⟨a', ws, Z, os, rfl, _⟩ := s.node hg hp
     have := h _ rfl
     cases neg <;> simpa using this
theorem vq_isN {j : Nat} {p' : Pos} (ha : VQ X C a qa) : VQ X C (.Compare a [.Is] [.Constant .none j p'] pos) (qIsN false qa) :=
 ⟨(pe_cmp (pc_isN ha.pe) rfl).impV (by intro σ H Q h; exact qIsN_red ha σ H Q h), qIsN_ok⟩
end
end PV
namespace PV
open PySem L2
section
variable {X : Cx} {C : Cc} {st ds : List D} {σ : St} {vs : List V} {H H' : Hp} {a b e : Expr} {es : List Expr} {pos : Pos} {qa qb : List D → Option PL} {ma mb : List D → R D} {sa sb : Bool}
def rL (C : Cc) (sm : Bool) (ds : List D) (vs : List V) (σ : St) (H : Hp) (Q : List V → Hp → Prop) : R (List D) → Prop
 | .ok xs st => ∀ us H', (sm = true → Same H H') → SX C st (ds ++ xs) σ (vs ++ us) H' → xs.length = us.length → Q us H'
 | .ex e st => rX C ds vs σ e st
 | .stuck => False
def trL (C : Cc) (sm : Bool) (m : List D → R (List D)) : TA := fun σ H Q => ∃ st ds vs, SX C st ds σ vs H ∧ ds.length = vs.length ∧ rL C sm ds vs σ H Q (m st)
def VL (X : Cx) (C : Cc) (sm : Bool) (es : List Expr) (m : List D → R (List D)) : Prop := PA X es (trL C sm m)
def mNil : List D → R (List D) := fun st => .ok [] st
def mCons (m : List D → R D) (ms : List D → R (List D)) : List D → R (List D) := fun st => (m st).bind fun d st1 => (ms st1).bind fun xs st2 => .ok (d :: xs) st2
theorem vl_nil : VL X C true [] mNil := by
 refine pa_nil.impV ?_
 rintro σ H Q ⟨st, ds, vs, s, hl, h⟩
 exact h [] H (fun _ => Same.refl H) (by simpa using s) rfl
theorem vl_cons {ms : List D → R (List D)} (ha : VE X C sa e ma) (hr : VL X C sb es ms) (hs : starEach (e :: es) X.env = (false, eval e X.env) :: starEach es X.env := by rfl) : VL X C (sa && sb) (e :: es) (mCons ma ms) := by
 refine (pa_cons ha hr hs).impV ?_
 rintro σ H Q ⟨st, ds, vs, s, hl, h⟩
 refine ⟨st, ds, vs, s, hl, ?_⟩
 unfold mCons at h
 cases q : ma st with
 | stuck => rw [q] at h; exact h.elim
 | ex x st' => rw [q] at h; exact h
 | ok x st1 =>
   rw [q] at h
   intro v H1 sm1 s1
   refine ⟨st1, ds ++ [x], vs ++ [v], s1, by simp [hl], ?_⟩
   simp only [R.bind_ok] at h
   cases q2 : ms st1 with
   | stuck => rw [q2] at h; exact h.elim
   | ex y st' => rw [q2] at h; exact rX.up h hl rfl
   | ok xs st2 =>
     rw [q2] at h
     intro us H2 sm2 s2 l2
     exact h (v :: us) H2 (fun z => by simp only [Bool.and_eq_true] at z; exact (sm1 z.1).trans (sm2 z.2)) (by simpa [List.append_assoc] using s2) (by simp [l2])
def mLst (ml : List D → R (List D)) : List D → R D := fun st => (ml st).bind fun xs st1 => if xs.length ≤ sizeLine then .ok (.nd (.lst .own) xs) st1 else .stuck
theorem same_new {H : Hp} {p : Addr} {o : HO} (hp : H p = none) : Same H (upd H p o) := fun b u q => by rw [upd_ne (ne_of_none q hp)]; exact q
theorem ve_lst {ml : List D → R (List D)} (h : VL X C sa es ml) : VE X C sa (.List es pos) (mLst ml) := by
 refine (pe_lst h).impV ?_
 rintro σ H Q ⟨st, ds, vs, s, hl, h⟩
 refine ⟨st, ds, vs, s, hl, ?_⟩
 unfold mLst at h
 cases q : ml st with
 | stuck => rw [q] at h; exact h.elim
 | ex x st' => rw [q] at h; exact h
 | ok xs st1 =>
   rw [q] at h
   intro us H1 sm s1 hxs
   simp only [R.bind_ok] at h
   split at h
   · rename_i hz
     refine ⟨by rw [← hxs]; exact hz, fun p hp => h _ _ (fun z => (sm z).trans (same_new hp)) (s1.alloc hl hp (show (upd H1 p (.lst us)) p = some (.lst us) from upd_same) (.inr rfl))⟩
   · exact h.elim
def aNil : List D → R (List AD) := fun st => .ok [] st
def aVal (m : List D → R D) (ms : List D → R (List AD)) : List D → R (List AD) := fun st => (m st).bind fun d st1 => (ms st1).bind fun xs st2 => .ok (.val d :: xs) st2
def aPth (q : List D → Option PL) (ms : List D → R (List AD)) : List D → R (List AD) := fun st => match q st with
 | some (.sc d) => (ms st).bind fun xs st2 => .ok (.val d :: xs) st2
 | some (.pth r p) => (ms st).bind fun xs st2 => .ok (.lnd r p :: xs) st2
 | none => .stuck
theorem va_nil : VA X C true [] aNil := by
 refine pa_nil.impV ?_
 rintro σ H Q ⟨st, ds, vs, s, hl, h⟩
 exact h [] H (fun _ => Same.refl H) (by simpa using s) .nil
theorem va_val {ms : List D → R (List AD)} (ha : VE X C sa e ma) (hr : VA X C sb es ms) (hs : starEach (e :: es) X.env = (false, eval e X.env) :: starEach es X.env := by rfl) : VA X C (sa && sb) (e :: es) (aVal ma ms) := by
 refine (pa_cons ha hr hs).impV ?_
 rintro σ H Q ⟨st, ds, vs, s, hl, h⟩
 refine ⟨st, ds, vs, s, hl, ?_⟩
 unfold aVal at h
 cases q : ma st with
 | stuck => rw [q] at h; exact h.elim
 | ex x st' => rw [q] at h; exact h
 | ok x st1 =>
   rw [q] at h
   intro v H1 sm1 s1
   refine ⟨st1, ds ++ [x], vs ++ [v], s1, by simp [hl], ?_⟩
   simp only [R.bind_ok] at h
   cases q2 : ms st1 with
   | stuck => rw [q2] at h; exact h.elim
   | ex y st' => rw [q2] at h; exact rX.up h hl rfl
   | ok xs st2 =>
     rw [q2] at h
     intro us H2 sm2 s2 l2
     exact h (v :: us) H2 (fun z => by simp only [Bool.and_eq_true] at z; exact (sm1 z.1).trans (sm2 z.2)) (by simpa [List.append_assoc, AD.d] using s2) (.val l2)
theorem va_plc {ms : List D → R (List AD)} {q : List D → Option PL} (ha : VQ X C e q) (hr : VA X C sb es ms) (hk : sb = true ∨ ∀ st r p, q st = some (.pth r p) → p = []) (hs : starEach (e :: es) X.env = (false, eval e X.env) :: starEach es X.env := by rfl) : VA X C sb (e :: es) (aPth q ms) := by
 refine (pa_cons ha.pe hr hs).impV ?_
 rintro σ H Q ⟨st, ds, vs, s, hl, h⟩
 refine ⟨st, ds, vs, s, ?_⟩
 unfold aPth at h
 cases w : q st with
 | none => rw [w] at h; exact h.elim
 | some pl =>
   rw [w] at h
   cases pl with
   | sc d =>
     intro v hv
     refine ⟨st, ds ++ [d], vs ++ [v], s.pushc hv, by simp [hl], ?_⟩
     simp only at h
     cases q2 : ms st with
     | stuck => rw [q2] at h; exact h.elim
     | ex y st' => rw [q2] at h; exact rX.up h hl rfl
     | ok xs st2 =>
       rw [q2] at h
       intro us H2 sm2 s2 l2
       exact h (v :: us) H2 sm2 (by simpa [List.append_assoc, AD.d] using s2) (.val l2)
   | pth r p =>
     intro u hp
     have s1 : SX C st (ds ++ [.un]) σ (vs ++ [u]) H := by
       obtain ⟨Z, os, t⟩ := id s
       obtain ⟨o1, o2, r1, r2, e⟩ := t.cut
       exact (t.mk2 r1 (r2.app (os := o2) (RpL.one (.un fun _ => rfl)) fun b => by simp) e (fun b => Nat.le_refl _) t.sl).sx
     refine ⟨st, ds ++ [.un], vs ++ [u], s1, by simp [hl], ?_⟩
     simp only at h
     cases q2 : ms st with
     | stuck => rw [q2] at h; exact h.elim
     | ex y st' => rw [q2] at h; exact rX.up h hl rfl
     | ok xs st2 =>
       rw [q2] at h
       intro us H2 sm2 s2 l2
       refine h (u :: us) H2 sm2 (by simpa [List.append_assoc, AD.d] using s2) (.lnd ?_ l2)
       rcases hk with hk | hk
       · exact hp.same (sm2 hk)
       · have := hk _ _ _ w
         subst this
         obtain ⟨v, e1, e2⟩ := hp
         exact ⟨v, e1, e2⟩
theorem qV_pth {i : Nat} : ∀ st r p, qV i st = some (.pth r p) → p = [] := by
 intro st r p h
 unfold qV plOf at h
 split at h
 · split at h
   · simp at h
   · split at h
     · simp at h; exact h.2
     · cases h
 · cases h
theorem va_var (i : Nat) {x : Str} {p : Pos} {ms : List D → R (List AD)} (hr : VA X C sb es ms) (hN : X.N[i]? = some x := by rfl) (hv : Vis X.env.scope x := by first | exact Or.inl rfl | exact Or.inr (Or.inl rfl) | exact Or.inr (Or.inr rfl)) (hd : (x == ("__debug__" : Str)) = false := by decide)
   (hcd : (x == ("__classdict__" : Str)) = false := by decide) (hs : starEach (.Name x p :: es) X.env = (false, eval (.Name x p) X.env) :: starEach es X.env := by rfl) : VA X C sb (.Name x p :: es) (aPth (qV i) ms) :=
 va_plc (vq_v i hN hv hd hcd) hr (.inr qV_pth) hs
def spF (K : PySem.W.Frag) (CA : Str → Option Addr) (n : Nat) (F : Fn) : Sp := fun us H Q E => us.length = n ∧ ∃ (args : List D) (os : Ct) (B : Addr → Prop), Pre K CA H args us os B ∧ match F args with
 | .ok d outs => ∀ v H' Z' os', Post K CA H os B (d :: outs) (v :: us) H' Z' os' → Q v H'
 | .ex e outs => ∀ cls dx ws H' Z' os', Post K CA H os B (e.ds ++ outs) (ws ++ us) H' Z' os' → e.ds.length = ws.length → (∃ a, CA e.c = some a ∧ cls = .ref a ∧ match e.p with
     | none => dx = none ∧ ws = []
     | some _ => ∃ x v, dx = some x ∧ H' x = some (.xd [(e.f, v)]) ∧ ws = [v]) → E cls dx H'
 | .stuck => False
def noIo (ms : List Md) : Bool := ms.all (· != .io)
theorem pre_noIo : ∀ {ms : List Md} {as : List AD} {bs args : List D} {st : List D}, noIo ms = true → argsOf ms as bs st = some args → (∀ (i : Nat) (d : D), bs[i]? = some d → ms[i]? = some Md.fz → D.noOwn d = true) → D.noOwnL args = true := by
 intro ms
 induction ms with
 | nil =>
   intro as bs args st hn h hz
   cases as <;> cases bs <;> simp [argsOf] at h
   subst h; rfl
 | cons m ms ih =>
   intro as bs args st hn h hz
   simp [noIo] at hn
   have hn' : noIo ms = true := by simp [noIo]; exact hn.2
   cases m with
   | io => exact absurd rfl hn.1
   | bo =>
     cases as with
     | nil => cases bs <;> simp [argsOf] at h
     | cons a as =>
       cases bs with
       | nil => cases a <;> simp [argsOf] at h
       | cons b bs =>
         have ih' := fun l (q : argsOf ms as bs st = some l) => ih hn' q fun i d h1 h2 => hz (i + 1) d (by simpa using h1) (by simpa using h2)
         cases a with
         | val d =>
           simp only [argsOf] at h
           cases q : argsOf ms as bs st with
           | none => rw [q] at h; simp at h
           | some l => rw [q] at h; simp at h; subst h; simp [D.noOwnL, D.noOwn_set (g := .bor) (by decide), ih' l q]
         | lnd r p =>
           simp only [argsOf] at h
           cases q0 : getS st r p with
           | none => rw [q0] at h; simp at h
           | some x =>
             rw [q0] at h; simp only at h
             cases q : argsOf ms as bs st with
             | none => rw [q] at h; simp at h
             | some l => rw [q] at h; simp at h; subst h; simp [D.noOwnL, D.noOwn_set (g := .bor) (by decide), ih' l q]
   | fz =>
     cases as with
     | nil => cases bs <;> simp [argsOf] at h
     | cons a as =>
       cases bs with
       | nil => simp [argsOf] at h
       | cons b bs =>
         have ih' := fun l (q : argsOf ms as bs st = some l) => ih hn' q fun i d h1 h2 => hz (i + 1) d (by simpa using h1) (by simpa using h2)
         simp only [argsOf] at h
         cases q : argsOf ms as bs st with
         | none => rw [q] at h; simp at h
         | some l => rw [q] at h; simp at h; subst h; simp [D.noOwnL, hz 0 b rfl rfl, ih' l q]
theorem takeA_fz : ∀ {ms : List Md} {as : List AD} {st st1 bs : List D}, takeA ms as st = some (st1, bs) → ∀ (i : Nat) (d : D), bs[i]? = some d → ms[i]? = some Md.fz → D.noOwn d = true := by
 intro ms
 induction ms with
 | nil =>
   intro as st st1 bs h i d hb hm
   simp at hm
 | cons m ms ih =>
   intro as st st1 bs h i d hb hm
   cases as with
   | nil => simp [takeA] at h
   | cons a as =>
     cases a with
     | val x =>
       simp only [takeA] at h
       cases q : takeA ms as st with
       | none => rw [q] at h; simp at h
       | some z =>
         obtain ⟨st', bs'⟩ := z
         rw [q] at h; simp at h
         obtain ⟨_, rfl⟩ := h
         cases i with
         | zero =>
           simp at hb hm
           subst hm; subst hb
           simp; exact D.noOwn_set (by decide) x
         | succ i => exact ih q i d (by simpa using hb) (by simpa using hm)
     | lnd r p =>
       cases m with
       | io =>
         simp only [takeA] at h
         cases q0 : getS st r p with
         | none => rw [q0] at h; simp at h
         | some x =>
           rw [q0] at h; simp only at h
           cases q : takeA ms as (setS st r p .un) with
           | none => rw [q] at h; simp at h
           | some z =>
             obtain ⟨st', bs'⟩ := z
             rw [q] at h; simp at h
             obtain ⟨_, rfl⟩ := h
             cases i with
             | zero => simp at hm
             | succ i => exact ih q i d (by simpa using hb) (by simpa using hm)
       | fz =>
         simp only [takeA] at h
         cases q0 : getS st r p with
         | none => rw [q0] at h; simp at h
         | some x =>
           rw [q0] at h; simp only at h
           cases q : takeA ms as (setS st r p x.frz) with
           | none => rw [q] at h; simp at h
           | some z =>
             obtain ⟨st', bs'⟩ := z
             rw [q] at h; simp at h
             obtain ⟨_, rfl⟩ := h
             cases i with
             | zero =>
               simp at hb; subst hb
               exact D.noOwn_set (by decide) x
             | succ i => exact ih q i d (by simpa using hb) (by simpa using hm)
       | bo =>
         simp only [takeA] at h
         cases q : takeA ms as st with
         | none => rw [q] at h; simp at h
         | some z =>
           obtain ⟨st', bs'⟩ := z
           rw [q] at h; simp at h
           obtain ⟨_, rfl⟩ := h
           cases i with
           | zero => simp at hm
           | succ i => exact ih q i d (by simpa using hb) (by simpa using hm)
theorem call_red {ms : List Md} {F : Fn} {as : List AD} {us : List V} {Q : VK} {n : Nat} (hn : ms.length = n) (O : COk X C) (s : SX C st (ds ++ as.map AD.d) σ (vs ++ us) H) (hl : ds.length = vs.length) (hL : Lnd H σ as us) (h : rE C (noIo ms) ds vs σ H Q (callR ms F as st)) :
   spF X.K C.CA n F us H Q (fun cls d H' => C.W cls d σ H') := by
 unfold callR at h
 cases h1 : takeA ms as st with
 | none => rw [h1] at h; exact h.elim
 | some z =>
   obtain ⟨st1, bs⟩ := z
   rw [h1] at h
   simp only at h
   cases h2 : argsOf ms as bs st1 with
   | none => rw [h2] at h; exact h.elim
   | some args =>
     rw [h2] at h
     simp only at h
     obtain ⟨os, B, P, K⟩ := s.call hl hL h1 h2
     have hK : C.K = X.K := O.k
     have hlen : us.length = n := by
       have e1 : ∀ {ms : List Md} {as : List AD} {st st1 bs : List D}, takeA ms as st = some (st1, bs) → as.length = ms.length := by
         intro ms
         induction ms with
         | nil => intro as st st1 bs h; cases as with
           | nil => rfl
           | cons a as => simp [takeA] at h
         | cons m ms ih =>
           intro as st st1 bs h
           cases as with
           | nil => simp [takeA] at h
           | cons a as =>
             cases a with
             | val x =>
               simp only [takeA] at h
               cases q : takeA ms as st with
               | none => rw [q] at h; simp at h
               | some z => simp [ih q]
             | lnd r p =>
               cases m <;> simp only [takeA] at h
               · cases q0 : getS st r p with
                 | none => rw [q0] at h; simp at h
                 | some x =>
                   rw [q0] at h; simp only at h
                   cases q : takeA ms as (setS st r p .un) with
                   | none => rw [q] at h; simp at h
                   | some z => simp [ih q]
               · cases q : takeA ms as st with
                 | none => rw [q] at h; simp at h
                 | some z => simp [ih q]
               · cases q0 : getS st r p with
                 | none => rw [q0] at h; simp at h
                 | some x =>
                   rw [q0] at h; simp only at h
                   cases q : takeA ms as (setS st r p x.frz) with
                   | none => rw [q] at h; simp at h
                   | some z => simp [ih q]
       rw [← hL.len, e1 h1, hn]
     have hio : noIo ms = true → ∀ b, os b = 0 := fun z => P.rp.zero (pre_noIo z h2 (takeA_fz h1))
     refine ⟨hlen, args, os, B, hK ▸ P, ?_⟩
     cases hF : F args with
     | stuck => rw [hF] at h; exact h.elim
     | ok d outs =>
       rw [hF] at h
       simp only at h ⊢
       intro v H' Z' os' Po
       split at h
       · rename_i nb
         cases h3 : putA ms as outs st1 with
         | none => rw [h3] at h; exact h.elim
         | some st2 =>
           rw [h3] at h
           exact h v H' (fun z b o q => Po.kp b o q (hio z b)) (K [d] [v] outs st2 H' Z' os' rfl (hK ▸ Po) nb h3)
       · exact h.elim
     | ex e outs =>
       rw [hF] at h
       simp only at h ⊢
       intro cls dx ws H' Z' os' Po hw hx
       split at h
       · rename_i nb
         cases h3 : putA ms as outs st1 with
         | none => rw [h3] at h; exact h.elim
         | some st2 =>
           rw [h3] at h
           exact h cls dx ws H' (K e.ds ws outs st2 H' Z' os' hw (hK ▸ Po) nb h3) hx
       · exact h.elim
def mCall (ms : List Md) (F : Fn) (ma : List D → R (List AD)) : List D → R D := fun st => (ma st).bind fun as st1 => callR ms F as st1
variable {k : Nat} {f : Addr} {fd : FuncData} {ps : List Str} {x m : Str} {p apos : Pos} {ms : List Md} {F : Fn} {am : List D → R (List AD)}
theorem args_red {n : Nat} (hn : ms.length = n) (O : COk X C) : ∀ σ H Q, trE C (sa && noIo ms) (mCall ms F am) σ H Q → tCallS (spF X.K C.CA n F) (WE C.W) (trA C sa am) σ H Q := by
 rintro σ H Q ⟨st, ds, vs, s, hl, h⟩
 refine ⟨st, ds, vs, s, hl, ?_⟩
 unfold mCall at h
 cases q : am st with
 | stuck => rw [q] at h; exact h.elim
 | ex x st' => rw [q] at h; exact h
 | ok as st1 =>
   rw [q] at h
   intro us H1 sm s1 hL
   exact call_red hn O s1 hl hL (h.weak sm)
theorem ve_call (O : COk X C) (G : FnOk X.prog X.w X.K X.mg X.base (L2.CX X.prog X.w) k f fd ps (spF X.K C.CA ps.length F)) (hn : ms.length = ps.length) (hr : Room k X.A) (hg : Gl X x) (hm : X.mg x = some (.ref f)) (hk : PySem.W.keepIn X.K (.ref f) = true) (hb : Binds X.K fd ps [])
   (ha : VA X C sa (e :: es) am) (hdb : (x == ("__debug__" : Str)) = false := by decide) (he : starEach (e :: es) X.env = (false, eval e X.env) :: starEach es X.env := by rfl) (hpl : (backTo pos (starEach es X.env)).any (·.1) = false := by rfl) :
   VE X C (sa && noIo ms) (.Call (.Name x p) (e :: es) [] pos) (mCall ms F am) :=
 (pe_callS G hr hg hm hk hb (fun σ => passAt O.tk σ) ha hdb he hpl).impV (args_red hn O)
end
end PV
namespace L2
open PySem PySem.Spec
theorem PG.impV {X : Cx} {e : Expr} {t t' : TG} (h : PG X e t) (k : ∀ v σ H Q, t' v σ H Q → t v σ H Q) : PG X e t' := ⟨fun pins s σ H v u Q I r h' => h.run pins s σ H v u Q I r (k _ _ _ _ h')⟩
theorem PGs.impV {X : Cx} {e : List Expr} {t t' : TGs} (h : PGs X e t) (k : ∀ v σ H Q, t' v σ H Q → t v σ H Q) : PGs X e t' := ⟨fun pins s σ H v u Q I r h' => h.run pins s σ H v u Q I r (k _ _ _ _ h')⟩
end L2
namespace PV
open PySem L2
inductive RS where | nx (st : List D) | rt (d : D) (st : List D) | bk (st : List D) | ct (st : List D) | ex (e : Ex) (st : List D) | stuck
def rZ (C : Cc) (ds : List D) (vs : List V) (Dn : Ends) : RS → Prop
 | .nx st => ∀ σ' H', SX C st ds σ' vs H' → Dn.nx σ' H'
 | .rt d st => ∀ v σ' H', SX C st (ds ++ [d]) σ' (vs ++ [v]) H' → Dn.rt v H'
 | .bk st => ∀ σ' H', SX C st ds σ' vs H' → Dn.bk σ' H'
 | .ct st => ∀ σ' H', SX C st ds σ' vs H' → Dn.ct σ' H'
 | .ex e st => ∀ σ', rX C ds vs σ' e st
 | .stuck => False
abbrev MS := List D → RS
def trS (C : Cc) (m : MS) : TS := fun Dn σ H => ∃ st ds vs, SX C st ds σ vs H ∧ ds.length = vs.length ∧ rZ C ds vs Dn (m st)
def VS (X : Cx) (C : Cc) (s : Stmt) (m : MS) : Prop := PS X s (trS C m)
def VB (X : Cx) (C : Cc) (s : List Stmt) (m : MS) : Prop := PSs X s (trS C m)
abbrev MG := D → List D → Option (List D)
def trG (C : Cc) (g : MG) : TG := fun v σ H Q => ∃ st ds vs d, SX C st (ds ++ [d]) σ (vs ++ [v]) H ∧ ds.length = vs.length ∧ match g d st with
 | some st' => ∀ σ' H', SX C st' ds σ' vs H' → Q σ' H'
 | none => False
def VG (X : Cx) (C : Cc) (t : Expr) (g : MG) : Prop := PG X t (trG C g)
abbrev MGs := List D → List D → Option (List D)
def trGs (C : Cc) (g : MGs) : TGs := fun us σ H Q => ∃ st ds vs xs, SX C st (ds ++ xs) σ (vs ++ us) H ∧ ds.length = vs.length ∧ match g xs st with
 | some st' => ∀ σ' H', SX C st' ds σ' vs H' → Q σ' H'
 | none => False
def VGs (X : Cx) (C : Cc) (t : List Expr) (g : MGs) : Prop := PGs X t (trGs C g)
section
variable {X : Cx} {C : Cc} {st ds : List D} {σ : St} {vs : List V} {H H' : Hp} {a b e tg : Expr} {es : List Expr} {pos : Pos} {qa qb : List D → Option PL} {ma mb : List D → R D} {sa sb : Bool} {s1 : Stmt} {ss ss' : List Stmt} {m n : MS} {Dn : Ends}
def mSkip : MS := fun st => .nx st
def mSeq (m n : MS) : MS := fun st => match m st with
 | .nx st' => n st'
 | r => r
theorem vb_nil : VB X C [] mSkip := pss_nil.impV (by rintro Dn σ H ⟨st, ds, vs, s, hl, h⟩; exact h σ H s)
theorem vb_cons (h1 : VS X C s1 m) (h2 : VB X C ss n) : VB X C (s1 :: ss) (mSeq m n) := by
 refine (pss_cons h1 h2).impV ?_
 rintro Dn σ H ⟨st, ds, vs, s, hl, h⟩
 refine ⟨st, ds, vs, s, hl, ?_⟩
 unfold mSeq at h
 cases q : m st with
 | nx st' => rw [q] at h; intro σ' H' s'; exact ⟨st', ds, vs, s', hl, h⟩
 | rt d st' => rw [q] at h; exact h
 | bk st' => rw [q] at h; exact h
 | ct st' => rw [q] at h; exact h
 | ex e st' => rw [q] at h; exact h
 | stuck => rw [q] at h; exact h.elim
def R.s {α : Type} (r : R α) (f : α → List D → RS) : RS := match r with
 | .ok a st => f a st
 | .ex e st => .ex e st
 | .stuck => .stuck
@[simp] theorem R.s_ok {α : Type} (a : α) (st : List D) (f : α → List D → RS) : (R.ok a st).s f = f a st := rfl
@[simp] theorem R.s_ex {α : Type} (e : Ex) (st : List D) (f : α → List D → RS) : (R.ex e st : R α).s f = .ex e st := rfl
@[simp] theorem R.s_stuck {α : Type} (f : α → List D → RS) : (R.stuck : R α).s f = .stuck := rfl
theorem seqS {f : D → List D → RS} {R' : V → Hp → Prop} (s : SX C st ds σ vs H) (hl : ds.length = vs.length) (hM : rZ C ds vs Dn ((ma st).s f))
   (hf : ∀ x st1 v H1, SX C st1 (ds ++ [x]) σ (vs ++ [v]) H1 → rZ C ds vs Dn (f x st1) → R' v H1) : trE C sa ma σ H R' := by
 refine ⟨st, ds, vs, s, hl, ?_⟩
 cases e : ma st with
 | stuck => rw [e] at hM; exact hM.elim
 | ex x st' => rw [e] at hM; exact hM σ
 | ok x st1 =>
   rw [e] at hM
   intro v H1 sm1 s1
   exact hf x st1 v H1 s1 hM
def mExpr (ma : List D → R D) : MS := fun st => (ma st).s fun _ st' => .nx st'
theorem vs_expr (ha : VE X C sa e ma) (hs : swapsWith e none pos.line X.env = pure false := by rfl) : VS X C (.Expr e pos) (mExpr ma) := by
 refine (ps_expr ha hs).impV ?_
 rintro Dn σ H ⟨st, ds, vs, s, hl, h⟩
 exact seqS s hl h fun x st1 v H1 s1 h1 => h1 σ H1 s1.pop
def mRet (ma : List D → R D) : MS := fun st => (ma st).s fun d st' => .rt d st'
theorem vs_ret (ha : VE X C sa e ma) : VS X C (.Return (some e) pos) (mRet ma) := by
 refine (ps_ret ha).impV ?_
 rintro Dn σ H ⟨st, ds, vs, s, hl, h⟩
 exact seqS s hl h fun x st1 v H1 s1 h1 => h1 v σ H1 s1
def mIf (t : List D → R Bool) (m n : MS) : MS := fun st => (t st).s fun b st' => if b = true then m st' else n st'
theorem vs_if {tc : List D → R Bool} (hc : VT X C e tc) (ha : VB X C ss m) (hb : VB X C ss' n) : VS X C (.If e ss ss' pos) (mIf tc m n) := by
 refine (ps_if hc ha hb).impV ?_
 rintro Dn σ H ⟨st, ds, vs, s, hl, h⟩
 refine ⟨st, ds, vs, s, hl, ?_⟩
 unfold mIf at h
 cases q : tc st with
 | stuck => rw [q] at h; exact h.elim
 | ex e st' => rw [q] at h; exact h σ
 | ok c st' =>
   rw [q] at h
   intro H1 s1
   simp only [R.s_ok] at h
   cases c with
   | true => exact ⟨st', ds, vs, s1, hl, h⟩
   | false => exact ⟨st', ds, vs, s1, hl, h⟩
def gNm (i : Nat) : MG := fun d st => if i < st.length then some (st.set i d) else none
theorem vg_name {i : Nat} {x : Str} {p : Pos} (hN : X.N.Nodup) (hfx : C.fx i = none := by rfl) (hi : X.N[i]? = some x := by rfl) (hx : Loc X.env.scope x := by first | exact Or.inl rfl | exact Or.inr rfl) (hf : X.fn x = true ∨ X.env.scope.names.lookup x = some .local := by first | exact .inl rfl | exact .inr rfl | assumption) : VG X C (.Name x p) (gNm i) := by
 refine (pg_name hN hi hx hf).impV ?_
 rintro v σ H Q ⟨st, ds, vs, d, s, hl, h⟩
 unfold gNm at h
 split at h
 · rename_i st' e
   split at e
   · rename_i hlt
     simp at e; subst e
     exact h _ H (s.toSlot hlt hfx)
   · cases e
 · exact h.elim
def gN0 : MGs := fun xs st => match xs with
 | [] => some st
 | _ => none
def gC1 (g : MG) (gs : MGs) : MGs := fun xs st => match xs with
 | x :: r => match g x st with
   | some st1 => gs r st1
   | none => none
 | [] => none
theorem vgs_nil : VGs X C [] gN0 := by
 refine pgs_nil.impV ?_
 rintro us σ H Q ⟨st, ds, vs, xs, s, hl, h⟩
 cases xs with
 | nil =>
   have hd := s.dn
   simp at hd
   have : us = [] := List.length_eq_zero_iff.mp (by omega)
   subst this
   exact ⟨rfl, h σ H (by simpa using s)⟩
 | cons x xs => exact h.elim
theorem vgs_cons {g : MG} {gs : MGs} (h1 : VG X C e g) (h2 : VGs X C es gs) (hs : (assignEach (e :: es) X.env).map (·.2) = assign e X.env :: (assignEach es X.env).map (·.2) := by rfl) : VGs X C (e :: es) (gC1 g gs) := by
 refine (pgs_cons h1 h2 hs).impV ?_
 rintro us σ H Q ⟨st, ds, vs, xs, s, hl, h⟩
 cases xs with
 | nil => exact h.elim
 | cons x xs =>
   have hd := s.dn
   cases us with
   | nil => simp at hd; omega
   | cons u us =>
     refine ⟨u, us, rfl, st, ds ++ xs, vs ++ us, x, ?_, by simp at hd ⊢; omega, ?_⟩
     · have := s.rot hl; simpa [List.append_assoc] using this
     · unfold gC1 at h
       simp only at h
       cases q : g x st with
       | none => rw [q] at h; exact h.elim
       | some st1 =>
         rw [q] at h
         intro σ' H' s'
         exact ⟨st1, ds, vs, xs, s', hl, h⟩
theorem SX.open {k : Kd} {xs : List D} {u : V} (s : SX C st (ds ++ [.nd k xs]) σ (vs ++ [u]) H) : ∃ (a : Addr) (ws : List V), u = .ref a ∧ HoK C.CA H a ws k ∧ xs.length = ws.length ∧ SX C st (ds ++ xs) σ (vs ++ ws) H := by
 obtain ⟨Z, os, s⟩ := s
 obtain ⟨o1, o2, o3, r1, r2, r3, e⟩ := s.top
 cases r3 with
 | nd hk rl n =>
   rename_i a ws ox
   have sub : ∀ b, ox b ≤ o3 b := fun b => by
     revert n
     generalize k.fl = f
     intro n
     match f, n with
     | none, n => have := n.2 b; omega
     | some .own, n => have := n.2.2 b; omega
     | some .bor, n => have := n.2.1 b; omega
     | some .fz, n => have := n.2.2.1 b; omega
   exact ⟨a, ws, rfl, hk, rl.len, (s.mk2 (os' := fun b => o1 b + (o2 b + ox b)) (o2 := fun b => o2 b + ox b) r1 (r2.app rl fun _ => rfl) (fun _ => rfl) (fun b => by rw [e]; have := sub b; (try dsimp only); omega) s.sl).sx⟩
def gTu (n : Nat) (gs : MGs) : MG := fun d st => match d with
 | .nd .tup xs => if xs.length = n then gs xs st else none
 | _ => none
theorem vg_tup {gs : MGs} {j n : Nat} (O : COk X C) (hc : X.calm = true) (h : VGs X C es gs) (hn : (assignEach es X.env).length = n := by rfl) (hst : (assignEach es X.env).findIdx? (·.1) = none := by rfl) : VG X C (.Tuple es j pos) (gTu n gs) := by
 refine (pg_tup hc h hn hst).impV ?_
 rintro v σ H Q ⟨st, ds, vs, d, s, hl, h⟩
 unfold gTu at h
 cases d with
 | nd k xs =>
   cases k with
   | tup =>
     simp only at h
     split at h
     · rename_i st' hq
       split at hq
       · rename_i hlen
         obtain ⟨a, ws, rfl, hk, hw, s2⟩ := s.open
         refine ⟨a, ws, rfl, SqT.of hk, by rw [← hw]; exact hlen, st, ds, vs, xs, s2, hl, ?_⟩
         rw [hq]; exact h
       · cases hq
     · exact h.elim
   | _ => exact h.elim
 | _ => exact h.elim
def mAsg (ma : List D → R D) (g : MG) : MS := fun st => (ma st).s fun d st' => match g d st' with
 | some st2 => .nx st2
 | none => .stuck
theorem vs_asg {g : MG} (he : VE X C sa e ma) (hg : VG X C tg g) (hs : swapsWithSole [tg] e pos.line X.env = pure false := by rfl) (hw : swappedStores [tg] e X.env = pure none := by rfl)
   (h1 : (assignEach [tg] X.env).map (·.2) = [assign tg X.env] := by rfl) : VS X C (.Assign [tg] e pos) (mAsg ma g) := by
 refine (ps_asg he hg hs hw h1).impV ?_
 rintro Dn σ H ⟨st, ds, vs, s, hl, h⟩
 refine seqS s hl h fun x st1 v H1 s1 h1 => ⟨st1, ds, vs, x, s1, hl, ?_⟩
 cases q : g x st1 with
 | none => rw [q] at h1; exact h1.elim
 | some st2 => rw [q] at h1; exact h1
theorem asg_red {i : Nat} {te : TE} (hfx : C.fx i = none) (k : ∀ σ H Q, trE C sa ma σ H Q → te σ H Q) : ∀ Dn σ H, trS C (mAsg ma (gNm i)) Dn σ H → tAsg te (gName i) Dn σ H := by
 rintro Dn σ H ⟨st, ds, vs, s, hl, h⟩
 refine k σ H _ (seqS s hl h fun x st1 v H1 s1 h1 => ?_)
 unfold gNm at h1
 by_cases q : i < st1.length
 · rw [if_pos q] at h1
   exact h1 _ H1 (s1.toSlot q hfx)
 · rw [if_neg q] at h1; exact h1.elim
theorem vs_set {i : Nat} {x : Str} {p : Pos} (hN : X.N.Nodup) (he : VE X C sa e ma) (hfx : C.fx i = none := by rfl) (hi : X.N[i]? = some x := by rfl) (hx : Loc X.env.scope x := by first | exact Or.inl rfl | exact Or.inr rfl) (hs : swapsWith e (some (.Name x p)) pos.line X.env = pure false := by rfl)
   (hf : X.fn x = true ∨ X.env.scope.names.lookup x = some .local := by first | exact .inl rfl | exact .inr rfl | assumption) : VS X C (.Assign [.Name x p] e pos) (mAsg ma (gNm i)) :=
 (ps_set hN hi hx he hs hf).impV (asg_red hfx fun _ _ _ h => h)
def forL (g : MG) (body : MS) : List D → List D → RS
 | [], st => .nx st
 | x :: r, st => match g x st with
   | some st1 => match body st1 with
     | .nx st2 => forL g body r st2
     | .ct st2 => forL g body r st2
     | .bk st2 => .nx st2
     | .rt d st2 => .rt d st2
     | .ex e st2 => .ex e st2
     | .stuck => .stuck
   | none => .stuck
theorem rZ.up {d' : List D} {v' : List V} (hl : ds.length = vs.length) (hl' : d'.length = v'.length) : ∀ {r : RS}, rZ C ds vs Dn r → rZ C (ds ++ d') (vs ++ v') Dn r
 | .nx _, h => fun σ' H' s => h σ' H' (s.drop hl)
 | .bk _, h => fun σ' H' s => h σ' H' (s.drop hl)
 | .ct _, h => fun σ' H' s => h σ' H' (s.drop hl)
 | .rt _ _, h => fun v σ' H' s => h v σ' H' (s.dropMid hl hl')
 | .ex _ _, h => fun σ' => (h σ').up hl hl'
 | .stuck, h => h
theorem rZ.turn {r : RS} {f : List D → RS} {Dn' : Ends} (hn : ∀ st σ H, SX C st ds σ vs H → rZ C ds vs Dn (f st) → Dn'.nx σ H) (hc : ∀ st σ H, SX C st ds σ vs H → rZ C ds vs Dn (f st) → Dn'.ct σ H) (hb : ∀ σ H, Dn.nx σ H → Dn'.bk σ H) (hr : Dn'.rt = Dn.rt)
   (h : rZ C ds vs Dn (match r with
     | .nx st2 => f st2
     | .ct st2 => f st2
     | .bk st2 => .nx st2
     | .rt d st2 => .rt d st2
     | .ex e st2 => .ex e st2
     | .stuck => .stuck)) : rZ C ds vs Dn' r := by
 cases r with
 | nx st => exact fun σ' H' s => hn st σ' H' s h
 | ct st => exact fun σ' H' s => hc st σ' H' s h
 | bk st => exact fun σ' H' s => hb σ' H' (h σ' H' s)
 | rt d st => exact fun v σ' H' s => by rw [hr]; exact h v σ' H' s
 | ex e st => exact h
 | stuck => exact h
end
end PV
namespace PV
open PySem L2
def outsOf : List Md → List D → List D
 | [], _ => []
 | _ :: _, [] => []
 | m :: ms, d :: st => (if m = .io then d else .un) :: outsOf ms st
def runF (ms : List Md) (n : Nat) (m : MS) : Fn := fun args => match m (args ++ List.replicate (n - args.length) .un) with
 | .nx st => .ok .non (outsOf ms st)
 | .rt d st => .ok d (outsOf ms st)
 | .ex e st => .ex e (outsOf ms st)
 | _ => .stuck
def fxOf : List Md → List V → Nat → Option V
 | .io :: _, u :: _, 0 => some u
 | _ :: ms, _ :: us, i + 1 => fxOf ms us i
 | _, _, _ => none
def noFx : List Md → Nat → Bool
 | .io :: _, 0 => false
 | _ :: ms, i + 1 => noFx ms i
 | _, _ => true
theorem fx_none : ∀ {ms : List Md} {us : List V} {i : Nat}, noFx ms i = true → fxOf ms us i = none
 | [], us, i, _ => by simp [fxOf]
 | m :: ms, [], i, _ => by cases m <;> simp [fxOf]
 | m :: ms, u :: us, 0, h => by cases m <;> simp [noFx] at h <;> simp [fxOf]
 | m :: ms, u :: us, i + 1, h => by
   have : noFx ms i = true := by cases m <;> simpa [noFx] using h
   cases m <;> simpa [fxOf] using fx_none this
theorem outs_rp {G : Gd} : ∀ {ms : List Md} {st : List D} {ws us : List V} {o : Ct}, RpL G st ws o → us.length = ms.length → ms.length ≤ st.length → (∀ i v, fxOf ms us i = some v → ws[i]? = some v) → ∃ o', RpL G (outsOf ms st) us o' ∧ ∀ b, o' b ≤ o b
 | [], st, ws, us, o, r, h1, h2, h3 => by
   have : us = [] := List.length_eq_zero_iff.mp (by simpa using h1)
   subst this
   exact ⟨fun _ => 0, by simp only [outsOf]; exact .nil fun _ => rfl, fun _ => Nat.zero_le _⟩
 | m :: ms, [], _, _, _, _, _, h2, _ => by simp at h2
 | m :: ms, d :: st, _, [], _, _, h1, _, _ => by simp at h1
 | m :: ms, d :: st, _, u :: us, _, .cons (v := w) (vs := ws) (o1 := o1) (o2 := o2) r t e, h1, h2, h3 => by
   obtain ⟨o', q, l⟩ := outs_rp (us := us) t (by simpa using h1) (by simpa using h2) fun i v hi => by
     have := h3 (i + 1) v (by cases m <;> simpa [fxOf] using hi)
     simpa using this
   by_cases hm : m = .io
   · subst hm
     have := h3 0 u rfl
     simp at this; subst this
     exact ⟨fun b => o1 b + o' b, by simp only [outsOf, if_pos]; exact .cons r q fun _ => rfl, fun b => by have := l b; rw [e]; (try dsimp only); omega⟩
   · exact ⟨o', by simp only [outsOf, if_neg hm]; exact .cons (o1 := fun _ => 0) (.un fun _ => rfl) q fun b => by simp, fun b => by have := l b; rw [e]; omega⟩
theorem rp_uns {G : Gd} : ∀ n : Nat, RpL G (List.replicate n .un) (List.replicate n V.non) (fun _ => 0)
 | 0 => .nil fun _ => rfl
 | n + 1 => .cons (o1 := fun _ => 0) (.un fun _ => rfl) (rp_uns n) fun b => by simp
section
variable {P : Program} {w : World} {K : PySem.W.Frag} {mg : Str → Option Value} {base : Heap} {CA : Str → Option Addr}
theorem start_gd (N : List Str) (us : List V) : (L2.start N us).map gd = us ++ List.replicate (N.length - us.length) V.non := by
 unfold L2.start
 rw [List.map_append, List.map_map, List.map_replicate]
 congr 1
 induction us with
 | nil => rfl
 | cons u us ih => simp; exact ih
theorem run_sp {ms : List Md} {N : List Str} {n : Nat} {m : MS} {us : List V} {H : Hp} {Q : VK} {E : XK} (hN : n ≤ N.length) (hn : ms.length = n) (h : spF K CA n (runF ms N.length m) us H Q E) :
   ∃ (os : Ct) (B : Addr → Prop), trS ⟨K, CA, H, os, B, fun cls d _ H' => E cls d H', fxOf ms us, N.length⟩ m { nx := fun _ H' => Q .non H', rt := Q } (L2.start N us) H := by
 obtain ⟨hl, args, os, B, P, h⟩ := h
 refine ⟨os, B, args ++ List.replicate (N.length - args.length) .un, [], [], ?_, rfl, ?_⟩
 · have hlen := P.rp.len
   refine ⟨fun a => 0 < os a, os, ?_, P.nd, ?_, ?_, fun a o q _ => q, fun a z => .inl z, P.al, P.bb, ?_⟩
   · rw [List.append_nil, List.append_nil, start_gd, ← hlen]
     exact P.rp.app (rp_uns _) fun b => by simp
   · unfold L2.start
     simp [hlen]
   · intro i d hd hu
     have hi : i < args.length := by
       by_cases q : i < args.length
       · exact q
       · rw [List.getElem?_append_right (by omega), List.getElem?_replicate] at hd
         split at hd
         · simp at hd; exact absurd hd.symm hu
         · cases hd
     unfold L2.start
     rw [List.getElem?_append_left (by simp; omega)]
     exact ⟨us[i]'(by omega), by simp⟩
   · refine ⟨fun i v hf => ?_, by unfold L2.start; simp; omega⟩
     have : us[i]? = some v := by
       clear hlen P h hl hn hN
       induction ms generalizing us i with
       | nil => simp [fxOf] at hf
       | cons m ms ih =>
         cases us with
         | nil => cases m <;> simp [fxOf] at hf
         | cons u us =>
           cases i with
           | zero => cases m <;> simp [fxOf] at hf; simp [hf]
           | succ i => have := ih (us := us) (i := i) (by cases m <;> simpa [fxOf] using hf); simpa using this
     unfold L2.start
     have hi : i < us.length := (List.getElem?_eq_some_iff.mp this).1
     rw [List.getElem?_append_left (by simpa using hi)]
     simp [this]
 · have fin : ∀ {st : List D} {ds : List D} {vs : List V} {σ' : L2.St} {H' : Hp}, SX ⟨K, CA, H, os, B, fun cls d _ H' => E cls d H', fxOf ms us, N.length⟩ st ds σ' vs H' → ∃ Z' os', Post K CA H os B (ds ++ outsOf ms st) (vs ++ us) H' Z' os' := by
     rintro st ds vs σ' H' ⟨Z, o, s⟩
     obtain ⟨o1, o2, r1, r2, e⟩ := s.cut
     have hst : n ≤ st.length := by
       rw [s.ln, s.fx.2]; exact hN
     obtain ⟨o3, r3, l3⟩ := outs_rp (us := us) r1 (by rw [hl, hn]) (by rw [hn]; exact hst) fun i v q => by
       have := s.fx.1 i v q
       simp [this]
     exact ⟨Z, fun b => o2 b + o3 b, r2.app r3 fun _ => rfl, fun b => by have := s.nd b; rw [e] at this; have := l3 b; (try dsimp only); omega, s.kp, s.fr, s.al⟩
   unfold runF at h
   cases q : m (args ++ List.replicate (N.length - args.length) .un) with
   | nx st =>
     rw [q] at h
     intro σ' H' s'
     obtain ⟨Z', os', P'⟩ := fin (s'.pushc (d := .non) rfl)
     exact h _ _ _ _ P'
   | rt d st =>
     rw [q] at h
     intro v σ' H' s'
     obtain ⟨Z', os', P'⟩ := fin s'
     exact h _ _ _ _ P'
   | ex e st =>
     rw [q] at h
     intro σ' cls dx ws H' s' hx
     obtain ⟨Z', os', P'⟩ := fin s'
     exact h _ _ _ _ _ _ P' (by have := s'.dn; simpa using this) hx
   | bk st => rw [q] at h; exact h.elim
   | ct st => rw [q] at h; exact h.elim
   | stuck => rw [q] at h; exact h.elim
theorem fn_ok {x qual : Str} {sd : Stmt} {f : Addr} {fd : FuncData} {N ps : List Str} {k : Nat} {ms : List Md} {m : MS} (F : L2.Fun K x qual sd f fd) (S : FnScope N ps (defScope sd)) (hn : ms.length = ps.length)
   (hb : ∀ (cdv : Value) (A : Around) (outer : List Env) (s : Shared) (H : Hp) (E : XK) (H0 : Hp) (os0 : Ct) (B : Addr → Prop) (fx : Nat → Option V), (∀ i, noFx ms i = true → fx i = none) → Room k (A.deeper (PyProof.Rows.envOfC qual (defScope sd) s.heap.objs.size f cdv)) →
     VB (cxOf (L2.CX P w) P w K mg base N qual (defScope sd) f cdv A outer s H E) ⟨K, CA, H0, os0, B, fun cls d _ H' => E cls d H', fx, N.length⟩ (defBody sd) m) :
   FnOk P w K mg base (L2.CX P w) (k + 1) f fd ps (spF K CA ps.length (runF ms N.length m)) := by
 refine F.okX S (fun vs H Q E h => h.1) (fun cdv A outer s H vs Q E hr h => ?_)
 obtain ⟨os, B, h⟩ := run_sp (ms := ms) (N := N) (by have := congrArg List.length S.pre; rw [List.length_take] at this; omega) hn h
 exact ⟨_, hb cdv A outer s H E _ _ _ _ (fun i z => fx_none z) hr, h⟩
end
section
variable {X : Cx} {C : Cc} {st ds : List D} {σ : L2.St} {vs : List V} {H H' : Hp} {a b e tg : Expr} {es : List Expr} {pos p : Pos} {qa qb : List D → Option PL} {ma mb : List D → R D} {sa sb : Bool} {ss : List Stmt} {m : MS} {Dn : Ends}
theorem ca1 {r : List V → Hp → VK → Prop} {q' : List D → Option PL} (k : ∀ st ds vs σ H Q pl v, SX C st ds σ vs H → qa st = some pl → (∀ d, pl = .sc d → vOf d = some v) → (∀ r p, pl = .pth r p → HPs H σ r p v) → rQ σ H Q (q' st) → r [v] H Q) (hq : ∀ st, qa st = none → q' st = none) :
   ∀ σ H Q, trQ C q' σ H Q → tCB r (tCons (trQ C qa) tNil) σ H Q := by
 rintro σ H Q ⟨st, ds, vs, s, h⟩
 refine ⟨st, ds, vs, s, ?_⟩
 cases q : qa st with
 | none => rw [hq st q] at h; exact h.elim
 | some pl =>
   cases pl with
   | sc d => exact fun v hv => k st ds vs σ H Q _ v s q (fun d' e => by cases e; exact hv) (fun r p e => by cases e) h
   | pth r p => exact fun u hp => k st ds vs σ H Q _ u s q (fun d e => by cases e) (fun r' p' e => by cases e; exact hp) h
def qLen (qa : List D → Option PL) : List D → Option PL := fun st => match qa st with
 | some (.pth r p) => match getS st r p with
   | some (.nd (.lst _) xs) => some (.sc (.int xs.length))
   | some (.nd .tup xs) => some (.sc (.int xs.length))
   | _ => none
 | some (.sc (.str z)) => if z.length ≤ sizeLine then some (.sc (.int z.length)) else none
 | _ => none
theorem vq_len (O : COk X C) (ha : VQ X C a qa) (hg : Gl X "len") (hm : X.mg "len" = none) (he : starEach [a] X.env = (false, eval a X.env) :: starEach [] X.env := by rfl) : VQ X C (.Call (.Name "len" p) [a] [] pos) (qLen qa) := by
 refine ⟨(pe_callB (CallR.or call_len_seq call_len_str) hg hm PySem.boot_len (pa_cons ha.pe pa_nil he) (by decide) (by decide) he).impV (ca1 (fun st ds vs σ H Q pl v s q h1 h2 h => ?_) fun st q => by unfold qLen; rw [q]), fun st pl h => ?_⟩
 · unfold qLen at h
   rw [q] at h
   cases pl with
   | pth r p =>
     simp only at h
     obtain ⟨k, xs, hk⟩ := ha.ok _ _ q
     rw [hk] at h
     obtain ⟨a', ws, Z, os, rfl, hn, rl⟩ := s.node hk (h2 _ _ rfl)
     cases k with
     | lst f => exact .inl ⟨a', ws, rfl, .inl (SqL.of hn), by rw [← rl.len]; exact h _ rfl⟩
     | tup => exact .inl ⟨a', ws, rfl, .inr (SqT.of hn), by rw [← rl.len]; exact h _ rfl⟩
     | _ => exact h.elim
   | sc d =>
     have hv := h1 d rfl
     cases d with
     | str z =>
       simp [vOf] at hv; subst hv
       simp only at h
       split at h
       · rename_i hz; exact .inr ⟨z, rfl, hz, h _ rfl⟩
       · exact h.elim
     | _ => exact h.elim
 · unfold qLen at h
   split at h
   · split at h
     · simp at h; subst h; exact ⟨_, rfl⟩
     · simp at h; subst h; exact ⟨_, rfl⟩
     · cases h
   · split at h
     · simp at h; subst h; exact ⟨_, rfl⟩
     · cases h
   · cases h
def rangeD (lo hi : Int) : List D := (List.range (hi - lo).toNat).map fun i => D.int (lo + (i : Nat))
theorem rangeD_len (lo hi : Int) : (rangeD lo hi).length = (hi - lo).toNat := by simp [rangeD]
theorem rangeD_get {lo hi : Int} {j : Nat} (h : j < (hi - lo).toNat) : (rangeD lo hi)[j]? = some (.int (lo + (j : Nat))) := by simp [rangeD, h]
def mK (d : D) : List D → R D := fun st => .ok d st
end
end PV
namespace PV
open PySem L2
section
variable {X : Cx} {C : Cc} {st ds : List D} {σ : L2.St} {vs : List V} {H H' : Hp} {a b e o tg : Expr} {es : List Expr} {pos p apos : Pos} {qa qb qo : List D → Option PL} {ma mb : List D → R D} {sa sb : Bool} {ss : List Stmt} {m : MS} {Dn : Ends}
def qPin (q : List D → Option PL) : Prop := ∀ st r p, q st = some (.pth r p) → p = []
def mAppend (qo : List D → Option PL) (mb : List D → R D) : List D → R D := fun st => match qo st with
 | some (.pth r p) => match getS st r p with
   | some (.nd (.lst _) _) => (mb st).bind fun d st1 => match getS st1 r p with
     | some (.nd (.lst .own) xs) => if xs.length < sizeLine then .ok .non (setS st1 r p (.nd (.lst .own) (xs ++ [d]))) else .stuck
     | _ => .stuck
   | _ => .stuck
 | _ => .stuck
theorem HPs.keep {q : List D → Option PL} {r : Nat} {pp : Pth} {u : V} (hk : sb = true ∨ qPin q) (h : q st = some (.pth r pp)) (sm : sb = true → Same H H') (hp : HPs H σ r pp u) : HPs H' σ r pp u := by
 rcases hk with hk | hk
 · exact hp.same (sm hk)
 · have := hk _ _ _ h
   subst this
   obtain ⟨v, e1, e2⟩ := hp
   exact ⟨v, e1, e2⟩
theorem ve_append (O : COk X C) (ho : VQ X C o qo) (hb : VE X C sb e mb) (hk : sb = true ∨ qPin qo)
   (hbase : attributeBase o "append" X.env (eval o X.env) = eval o X.env := by rfl)
   (hfew : ((backTo pos (starEach [e] X.env)).all (fun x => !x.1) && (backToKw pos (keywordEach [] X.env)).all (fun x => x.1.isSome)
     && decide ([e].length + ([] : List Keyword).length + (if ([] : List Keyword).isEmpty then 0 else 1) < 30)) = true := by rfl)
   (hline : (apos.endLine == pos.line) = true := by rfl) (hs : starEach [e] X.env = (false, eval e X.env) :: starEach [] X.env := by rfl) (hplain : (backTo pos (starEach [] X.env)).any (·.1) = false := by rfl) :
   VE X C false (.Call (.Attribute o "append" apos) [e] [] pos) (mAppend qo mb) := by
 refine (pe_bm PySem.F.plainAttrs_list PySem.F.slot_list_append PySem.F.type_list_append mt_append ho.pe (pa_cons hb pa_nil hs) hbase hfew hline hs hplain).impV ?_
 rintro σ H Q ⟨st, ds, vs, s, hl, h⟩
 refine ⟨st, ds, vs, s, ?_⟩
 unfold mAppend at h
 cases q : qo st with
 | none => rw [q] at h; exact h.elim
 | some pl =>
   rw [q] at h
   cases pl with
   | sc d => exact h.elim
   | pth r pp =>
     simp only at h
     intro u hp
     obtain ⟨k, xs0, hg⟩ := ho.ok _ _ q
     rw [hg] at h
     obtain ⟨a', ws, Z, os, rfl, hn, rl⟩ := s.node hg hp
     cases k with
     | lst f =>
       simp only at h
       refine ⟨.inl ⟨rfl, _, SqL.of hn⟩, st, ds, vs, s, hl, ?_⟩
       cases q2 : mb st with
       | stuck => rw [q2] at h; exact h.elim
       | ex x st' => rw [q2] at h; exact h
       | ok d st1 =>
         rw [q2] at h
         intro v H1 sm s1
         have hp1 := HPs.keep hk q sm hp
         simp only [R.bind_ok] at h
         cases hg1 : getS st1 r pp with
         | none => rw [hg1] at h; exact h.elim
         | some x =>
           rw [hg1] at h
           match x, h with
           | .nd (.lst .own) xs, h =>
             simp only at h
             split at h
             · rename_i hz
               obtain ⟨a2, ws2, Z2, os2, e2, hn2, rl2⟩ := s1.node hg1 hp1
               cases e2
               refine ⟨a', ws2, v, rfl, rfl, hn2, by rw [← rl2.len]; exact hz, h .non _ (fun z => nomatch z) (SX.pushc ?_ rfl)⟩
               exact s1.mut hl hg1 rfl hp1 hn2 (show (upd H1 a' (.lst (ws2 ++ [v]))) a' = some (.lst (ws2 ++ [v])) from upd_same) rfl fun G ox on r1 r2 => ⟨fun b => ox b + on b, r1.app r2 fun _ => rfl, fun _ => Nat.le_refl _⟩
             · exact h.elim
     | _ => exact h.elim
theorem Rp.kids {G : Gd} {k : Kd} {xs : List D} {a : Addr} {ws : List V} {os : Ct} (r : Rp G (.nd k xs) (.ref a) os) (hk : HoK G.CA G.H a ws k) : ∃ ox, RpL G xs ws ox ∧ ∀ b, ox b ≤ os b := by
 cases r with
 | nd hk' rl n =>
   rename_i ws' ox
   obtain ⟨q1, q2, q3⟩ := hk'.vals
   obtain ⟨q4, q5, q6⟩ := hk.vals
   rw [q2] at q5; cases q5
   have ew : ws' = ws := q3.symm.trans q6
   subst ew
   refine ⟨ox, rl, fun b => ?_⟩
   revert n
   generalize k.fl = f
   intro n
   match f, n with
   | none, n => have := n.2 b; omega
   | some .own, n => have := n.2.2 b; omega
   | some .bor, n => have := n.2.1 b; omega
   | some .fz, n => have := n.2.2.1 b; omega
def gIx (qo qi : List D → Option PL) : MG := fun d st => match qo st, qi st with
 | some (.pth r p), some (.sc (.int i)) => match getS st r p with
   | some (.nd (.lst .own) xs) => match ixN xs.length i with
     | some j => some (setS st r p (.nd (.lst .own) (xs.set j d)))
     | none => none
   | _ => none
 | _, _ => none
theorem vg_ix {i : Expr} {qi : List D → Option PL} (ho : VQ X C o qo) (hi : VQ X C i qi) (ha : ∀ v, assign (.Subscript o i pos) X.env v = (do
     let ov ← holding [v] (eval o X.env)
     let iv ← holding [v, ov] (eval i X.env)
     standAt pos
     holding [v, ov, iv] (setItem ov iv v)
     release [v, ov, iv] []) := by intro _; rfl) : VG X C (.Subscript o i pos) (gIx qo qi) := by
 refine (pg_sub ho.pe hi.pe set_list ha).impV ?_
 rintro v σ H Q ⟨st, ds, vs, d, s, hl, h⟩
 refine ⟨st, ds ++ [d], vs ++ [v], s, ?_⟩
 unfold gIx at h
 cases q : qo st with
 | none => rw [q] at h; exact h.elim
 | some pl =>
   cases q2 : qi st with
   | none => rw [q, q2] at h; cases pl <;> exact h.elim
   | some pl2 =>
     rw [q, q2] at h
     match pl, pl2, q, q2, h with
     | .pth r pp, .sc (.int k), q, q2, h =>
       simp only at h
       intro u hp
       refine ⟨st, ds ++ [d], vs ++ [v], s, ?_⟩
       rw [q2]
       intro w hw
       simp [vOf] at hw; subst hw
       cases hg : getS st r pp with
       | none => rw [hg] at h; exact h.elim
       | some x =>
         rw [hg] at h
         match x, h with
         | .nd (.lst .own) xs, h =>
           simp only at h
           cases hj : ixN xs.length k with
           | none => rw [hj] at h; exact h.elim
           | some j =>
             rw [hj] at h
             obtain ⟨a', ws, Z, os, rfl, hn, rl⟩ := s.node hg hp
             refine ⟨a', ws, k, j, rfl, rfl, hn, by rw [← rl.len]; exact hj, h σ _ ?_⟩
             refine s.mut hl hg rfl hp hn (show (upd H a' (.lst (ws.set j v))) a' = some (.lst (ws.set j v)) from upd_same) rfl fun G ox on r1 r2 => ?_
             have rd := r2.of1
             by_cases hlt : j < xs.length
             · obtain ⟨w, od, orr, hw, _, ho, k'⟩ := r1.at (j := j) (d := xs[j]) (by simp [hlt])
               exact ⟨fun b => on b + orr b, k' d v on _ rd fun _ => rfl, fun b => by rw [ho]; (try dsimp only); omega⟩
             · rw [List.set_eq_of_length_le (by omega), List.set_eq_of_length_le (by rw [← r1.len]; omega)]
               exact ⟨ox, r1, fun b => by omega⟩
     | .pth _ _, .pth _ _, _, _, h => exact h.elim
     | .pth _ _, .sc .un, _, _, h => exact h.elim
     | .pth _ _, .sc .non, _, _, h => exact h.elim
     | .pth _ _, .sc (.bl _), _, _, h => exact h.elim
     | .pth _ _, .sc (.str _), _, _, h => exact h.elim
     | .pth _ _, .sc (.scr _), _, _, h => exact h.elim
     | .pth _ _, .sc (.exc _ _), _, _, h => exact h.elim
     | .pth _ _, .sc (.nd _ _), _, _, h => exact h.elim
     | .sc _, _, _, _, h => exact h.elim
def mListQ (qa : List D → Option PL) : List D → R D := fun st => match qa st with
 | some (.pth r p) => match getS st r p with
   | some (.nd (.lst f) xs) => .ok (.nd (.lst .own) (D.setL .fz xs)) (setS st r p (.nd (.lst f) (D.setL .fz xs)))
   | some (.nd .tup xs) => .ok (.nd (.lst .own) (D.setL .fz xs)) (setS st r p (.nd .tup (D.setL .fz xs)))
   | _ => .stuck
 | _ => .stuck
theorem ve_listQ (O : COk X C) (ha : VQ X C a qa) (hg : Gl X "list") (hm : X.mg "list" = none) (he : starEach [a] X.env = (false, eval a X.env) :: starEach [] X.env := by rfl) : VE X C true (.Call (.Name "list" p) [a] [] pos) (mListQ qa) := by
 refine (pe_callTy call_list_of hg hm PyProof.Rows.boot_list (pa_cons ha.pe pa_nil he) (by decide) (by decide) he).impV ?_
 rintro σ H Q ⟨st, ds, vs, s, hl, h⟩
 refine ⟨st, ds, vs, s, ?_⟩
 unfold mListQ at h
 cases q : qa st with
 | none => rw [q] at h; exact h.elim
 | some pl =>
   rw [q] at h
   cases pl with
   | sc d => exact h.elim
   | pth r pp =>
     simp only at h
     intro u hp
     obtain ⟨k, xs, hk⟩ := ha.ok _ _ q
     rw [hk] at h
     obtain ⟨a', ws, Z, os, rfl, hn, rl⟩ := s.node hk hp
     have s2 := s.shareK hk hp hn
     cases k with
     | lst f => exact ⟨a', ws, rfl, .inl (SqL.of hn), fun l hl' => h _ _ (fun _ => same_new hl') (s2.alloc hl hl' (show (upd H l (.lst ws)) l = some (.lst ws) from upd_same) (.inr rfl))⟩
     | tup => exact ⟨a', ws, rfl, .inr (SqT.of hn), fun l hl' => h _ _ (fun _ => same_new hl') (s2.alloc hl hl' (show (upd H l (.lst ws)) l = some (.lst ws) from upd_same) (.inr rfl))⟩
     | _ => exact h.elim
def mListE (ma : List D → R D) : List D → R D := fun st => (ma st).bind fun d st1 => match d with
 | .nd (.lst _) xs => .ok (.nd (.lst .own) xs) st1
 | .nd .tup xs => .ok (.nd (.lst .own) xs) st1
 | _ => .stuck
theorem ve_listE (O : COk X C) (ha : VE X C sa a ma) (hg : Gl X "list") (hm : X.mg "list" = none) (he : starEach [a] X.env = (false, eval a X.env) :: starEach [] X.env := by rfl) : VE X C sa (.Call (.Name "list" p) [a] [] pos) (mListE ma) := by
 refine (pe_callTy call_list_of hg hm PyProof.Rows.boot_list (pa_cons ha pa_nil he) (by decide) (by decide) he).impV ?_
 rintro σ H Q ⟨st, ds, vs, s, hl, h⟩
 refine seq1 (sm := sa) s hl h fun x st1 v H1 sm s1 h1 => ?_
 cases x with
 | nd k xs =>
   obtain ⟨a', ws, rfl, hn, hlen, s2⟩ := s1.open
   cases k with
   | lst f => exact ⟨a', ws, rfl, .inl (SqL.of hn), fun l hl' => h1 _ _ (fun z => (sm z).trans (same_new hl')) (s2.alloc hl hl' (show (upd H1 l (.lst ws)) l = some (.lst ws) from upd_same) (.inr rfl))⟩
   | tup => exact ⟨a', ws, rfl, .inr (SqT.of hn), fun l hl' => h1 _ _ (fun z => (sm z).trans (same_new hl')) (s2.alloc hl hl' (show (upd H1 l (.lst ws)) l = some (.lst ws) from upd_same) (.inr rfl))⟩
   | _ => exact h1.elim
 | _ => exact h1.elim
theorem SX.pushL {xs : List D} {ws : List V} (s : SX C st ds σ vs H) (h : ∀ G, RpL G xs ws (fun _ => 0)) : SX C st (ds ++ xs) σ (vs ++ ws) H := by
 obtain ⟨Z, os, s⟩ := s
 obtain ⟨o1, o2, r1, r2, e⟩ := s.cut
 exact (s.mk2 r1 (r2.app (os := o2) (h _) fun b => by simp) e (fun b => Nat.le_refl _) s.sl).sx
instance (a b : Int) : Decidable (RgOk a b) := by unfold RgOk; infer_instance
def cutL {α : Type} (xs : List α) (lo hi : Option Int) : List α := (xs.drop (HT.sIx xs.length 0 lo)).take (HT.sIx xs.length xs.length hi - HT.sIx xs.length 0 lo)
def trO (C : Cc) (q : List D → Option (Option Int)) : TO := fun σ H Q => ∃ st ds vs, SX C st ds σ vs H ∧ match q st with
 | some i => Q i H
 | none => False
def VO (X : Cx) (C : Cc) (e : Option Expr) (q : List D → Option (Option Int)) : Prop := PO X e (trO C q)
def oNo : List D → Option (Option Int) := fun _ => some none
def oQ (qa : List D → Option PL) : List D → Option (Option Int) := fun st => match qa st with
 | some (.sc (.int i)) => some (some i)
 | _ => none
theorem _root_.L2.PO.impV {X : Cx} {e : Option Expr} {t t' : TO} (h : PO X e t) (k : ∀ σ H Q, t' σ H Q → t σ H Q) : PO X e t' := ⟨fun pins s σ H Q I h' => h.run pins s σ H Q I (k _ _ _ h')⟩
theorem vo_no : VO X C none oNo := po_none.impV (by rintro σ H Q ⟨st, ds, vs, s, h⟩; exact h)
theorem vo_q (ha : VQ X C a qa) : VO X C (some a) (oQ qa) := by
 refine (po_some ha.pe).impV ?_
 rintro σ H Q ⟨st, ds, vs, s, h⟩
 refine ⟨st, ds, vs, s, ?_⟩
 unfold oQ at h
 cases q : qa st with
 | none => rw [q] at h; exact h.elim
 | some pl =>
   rw [q] at h
   match pl, h with
   | .sc (.int i), h => intro v hv; simp [vOf] at hv; subst hv; exact ⟨i, rfl, h⟩
theorem RpL.drop {G : Gd} : ∀ {xs : List D} {ws : List V} {o : Ct} (n : Nat), RpL G xs ws o → ∃ o', RpL G (xs.drop n) (ws.drop n) o' ∧ ∀ b, o' b ≤ o b
 | _, _, o, 0, r => ⟨o, by simpa using r, fun _ => Nat.le_refl _⟩
 | _, _, o, n + 1, .nil h => ⟨o, by simpa using .nil h, fun _ => Nat.le_refl _⟩
 | _, _, o, n + 1, .cons r t e => by
   obtain ⟨o', q, l⟩ := RpL.drop n t
   exact ⟨o', by simpa using q, fun b => by have := l b; rw [e]; omega⟩
theorem RpL.take {G : Gd} : ∀ {xs : List D} {ws : List V} {o : Ct} (n : Nat), RpL G xs ws o → ∃ o', RpL G (xs.take n) (ws.take n) o' ∧ ∀ b, o' b ≤ o b
 | _, _, o, 0, r => ⟨fun _ => 0, by simpa using .nil fun _ => rfl, fun _ => Nat.zero_le _⟩
 | _, _, o, n + 1, .nil h => ⟨o, by simpa using .nil h, fun _ => Nat.le_refl _⟩
 | _, _, o, n + 1, .cons (o1 := o1) r t e => by
   obtain ⟨o', q, l⟩ := RpL.take n t
   exact ⟨fun b => o1 b + o' b, by simpa using .cons r q fun _ => rfl, fun b => by have := l b; rw [e]; (try dsimp only); omega⟩
theorem RpL.cutL {G : Gd} {xs : List D} {ws : List V} {o : Ct} (lo hi : Option Int) (r : RpL G xs ws o) : ∃ o', RpL G (PV.cutL xs lo hi) (cutV ws lo hi) o' ∧ ∀ b, o' b ≤ o b := by
 have hl := r.len
 unfold PV.cutL cutV
 rw [hl]
 obtain ⟨o1, r1, l1⟩ := r.drop (HT.sIx ws.length 0 lo)
 obtain ⟨o2, r2, l2⟩ := r1.take (HT.sIx ws.length ws.length hi - HT.sIx ws.length 0 lo)
 exact ⟨o2, r2, fun b => Nat.le_trans (l2 b) (l1 b)⟩
theorem SX.thin {xs xs' : List D} {ws ws' : List V} (s : SX C st (ds ++ xs) σ (vs ++ ws) H) (hl : ds.length = vs.length) (k : ∀ G o, RpL G xs ws o → ∃ o', RpL G xs' ws' o' ∧ ∀ b, o' b ≤ o b) : SX C st (ds ++ xs') σ (vs ++ ws') H := by
 obtain ⟨Z, os, s⟩ := s
 obtain ⟨o1, o2, r1, r2, e⟩ := s.cut
 obtain ⟨o3, o4, r3, r4, e'⟩ := RpL.cut hl r2
 obtain ⟨o5, r5, l5⟩ := k _ _ r4
 exact (s.mk2 (os' := fun b => o1 b + (o3 b + o5 b)) (o2 := fun b => o3 b + o5 b) r1 (r3.app r5 fun _ => rfl) (fun _ => rfl) (fun b => by rw [e, e']; have := l5 b; (try dsimp only); omega) s.sl).sx
def mAddR (x y : D) (st : List D) : R D := match x, y with
 | .nd (.lst _) xs, .nd (.lst _) ys => if xs.length + ys.length ≤ sizeLine then .ok (.nd (.lst .own) (xs ++ ys)) st else .stuck
 | .nd .tup xs, .nd .tup ys => if xs.length + ys.length ≤ sizeLine ∧ xs ≠ [] ∧ ys ≠ [] then .ok (.nd .tup (xs ++ ys)) st else .stuck
 | x, y => match gAdd x y with
   | some d => .ok d st
   | none => .stuck
def mAdd (ma mb : List D → R D) : List D → R D := fun st => (ma st).bind fun x st1 => (mb st1).bind fun y st2 => mAddR x y st2
theorem ve_add (O : COk X C) (ha : VE X C sa a ma) (hb : VE X C sb b mb) : VE X C (sa && sb) (.BinOp a .Add b pos) (mAdd ma mb) := by
 refine (pe_op (OpR.or (OpR.or op_add op_add_str) (OpR.or op_cat op_catT)) ha hb).impV ?_
 rintro σ H Q ⟨st, ds, vs, s, hl, h⟩
 refine seq2 (sm := sa && sb) s hl h fun x y st2 v u H2 sm s2 h2 => ?_
 have sc : rE C (sa && sb) ds vs σ H Q (match gAdd x y with
     | some d => .ok d st2
     | none => .stuck) → (((rI0 fun i j => .int (i + j)) v u H2 Q ∨ ∃ i j, v = .str i ∧ u = .str j ∧ i.length + j.length ≤ sizeLine ∧ Q (.str (i ++ j)) H2)) := fun h3 => by
   cases e : gAdd x y with
   | none => rw [e] at h3; exact h3.elim
   | some d =>
     rw [e] at h3
     obtain ⟨⟨v', hv⟩, ⟨u', hu⟩, w, hw⟩ := scg_add _ _ _ e
     have e2 : u = u' := s2.scTop hu
     subst e2
     have e1 : v = v' := s2.pop.scTop hv
     subst e1
     exact add_r x y d v u w H2 Q hv hu e hw (h3 w H2 sm (s2.pop.pop.pushc hw))
 cases x with
 | nd k xs =>
   cases y with
   | nd k2 ys =>
     obtain ⟨b', zs, rfl, hn2, hl2, s3⟩ := s2.open
     have s4 := s2.pop
     obtain ⟨a', ws, rfl, hn1, hl1, _⟩ := s4.open
     -- the items of both as temporaries
     have s5 : SX C st2 (ds ++ (xs ++ ys)) σ (vs ++ (ws ++ zs)) H2 := by
       obtain ⟨Z, os, t⟩ := id s3
       obtain ⟨o1, o2, r1, r2, e⟩ := t.cut
       obtain ⟨o3, o4, r3, r4, e'⟩ := RpL.cut (by simp [hl]) r2
       obtain ⟨o5, o6, r5, r6, e6⟩ := RpL.cut hl r3
       obtain ⟨ox, rx, lx⟩ := r6.of1.kids (ws := ws) hn1
       exact (t.mk2 (os' := fun b => o1 b + (o5 b + (ox b + o4 b))) (o2 := fun b => o5 b + (ox b + o4 b)) r1 (r5.app (o2 := fun b => ox b + o4 b) (rx.app r4 fun _ => rfl) fun _ => rfl) (fun _ => rfl) (fun b => by rw [e, e', e6]; have := lx b; (try dsimp only); omega) t.sl).sx
     cases k with
     | lst f =>
       cases k2 with
       | lst g =>
         simp only [mAddR] at h2
         split at h2
         · rename_i hz
           exact .inr (.inl ⟨a', b', ws, zs, rfl, rfl, hn1, hn2, by rw [← hl1, ← hl2]; exact hz, fun q hq => h2 _ _ (fun z => (sm z).trans (same_new hq)) (s5.alloc hl hq (show (upd H2 q (.lst (ws ++ zs))) q = some (.lst (ws ++ zs)) from upd_same) (.inr rfl))⟩)
         · exact h2.elim
       | _ => simp [mAddR, gAdd] at h2; exact h2.elim
     | tup =>
       cases k2 with
       | tup =>
         simp only [mAddR] at h2
         split at h2
         · rename_i hz
           have hx : ws ≠ [] := by intro z; subst z; exact hz.2.1 (List.length_eq_zero_iff.mp (by simpa using hl1))
           have hy : zs ≠ [] := by intro z; subst z; exact hz.2.2 (List.length_eq_zero_iff.mp (by simpa using hl2))
           exact .inr (.inr ⟨a', b', ws, zs, rfl, rfl, SqT.of hn1, SqT.of hn2, hx, by rw [← hl1, ← hl2]; exact hz.1, fun z => absurd z hy, fun _ q hq => h2 _ _ (fun z => (sm z).trans (same_new hq)) (s5.alloc hl hq (show (upd H2 q (.tup (ws ++ zs))) q = some (.tup (ws ++ zs)) from upd_same) (.inl rfl))⟩)
         · exact h2.elim
       | _ => simp [mAddR, gAdd] at h2; exact h2.elim
     | dct f ks => cases k2 <;> (simp [mAddR, gAdd] at h2; exact h2.elim)
     | ins f c ns => cases k2 <;> (simp [mAddR, gAdd] at h2; exact h2.elim)
     | dtp f ks => cases k2 <;> (simp [mAddR, gAdd] at h2; exact h2.elim)
   | _ => cases k <;> (simp [mAddR, gAdd] at h2; exact h2.elim)
 | _ => cases y with
   | nd k ys => cases k <;> exact .inl (sc (by simpa [mAddR] using h2))
   | _ => exact .inl (sc (by simpa [mAddR] using h2))
def tyD : D → Option String
 | .non => some "NoneType"
 | .bl _ => some "bool"
 | .int _ => some "int"
 | .str _ => some "str"
 | .nd (.lst _) _ => some "list"
 | .nd .tup _ => some "tuple"
 | .nd (.dct _ _) _ => some "dict"
 | _ => none
def isiD (n : String) (d : D) : Option Bool := match tyD d with
 | some t => kitB t n
 | none => none
theorem tyD_of {G : Gd} {d : D} {v : V} {os : Ct} {t : String} (r : Rp G d v os) (h : tyD d = some t) : TyX G.K G.H v (.type t) := by
 cases r with
 | un _ => simp [tyD] at h
 | non _ => simp [tyD] at h; subst h; exact .base .non
 | bl _ => simp [tyD] at h; subst h; exact .base (.bl _)
 | int _ => simp [tyD] at h; subst h; exact .base (.int _)
 | str _ => simp [tyD] at h; subst h; exact .base (.str _)
 | scr _ _ => simp [tyD] at h
 | exc _ _ => simp [tyD] at h
 | nd hk rl n =>
   rename_i k xs a vs os'
   cases k with
   | lst f => simp [tyD] at h; subst h; exact .base (.lst hk)
   | tup => simp [tyD] at h; subst h; exact .base (.tup hk)
   | dct f ks => simp [tyD] at h; subst h; exact .base (.dK hk.2)
   | ins f c ns => simp [tyD] at h
   | dtp f ks => simp [tyD] at h
def qIsi (n : String) (qa : List D → Option PL) : List D → Option PL := fun st => match qa st with
 | some pl => match plD st pl with
   | some d => match isiD n d with
     | some b => some (.sc (.bl b))
     | none => none
   | none => none
 | none => none
theorem vq_isi (O : COk X C) (n : String) {x : Str} {px : Pos} (ha : VQ X C a qa) (hx : bootBuiltins x = some (.type n)) (hgx : Gl X x) (hmx : X.mg x = none) (hg : Gl X "isinstance") (hm : X.mg "isinstance" = none)
   (he : starEach [a, .Name x px] X.env = (false, eval a X.env) :: starEach [.Name x px] X.env := by rfl) (he2 : starEach [.Name x px] X.env = (false, eval (.Name x px) X.env) :: starEach [] X.env := by rfl) (hpl : (backTo pos (starEach [.Name x px] X.env)).any (·.1) = false := by rfl)
   (hn : x ≠ "__name__" := by decide) (hd : (x == ("__debug__" : Str)) = false := by decide) : VQ X C (.Call (.Name "isinstance" p) [a, .Name x px] [] pos) (qIsi n qa) := by
 refine ⟨(pe_callB call_isi hg hm (by decide +kernel) (pa_cons ha.pe (pa_cons (pe_bltn (v := .ty n) hgx hmx hx rfl hn hd) pa_nil he2) he) (by decide) (by decide) he hpl).impV ?_, fun st pl h => ?_⟩
 · rintro σ H Q ⟨st, ds, vs, s, h⟩
   refine ⟨st, ds, vs, s, ?_⟩
   unfold qIsi at h
   cases q : qa st with
   | none => rw [q] at h; exact h.elim
   | some pl =>
     rw [q] at h
     simp only at h
     cases w : plD st pl with
     | none => rw [w] at h; exact h.elim
     | some d =>
       rw [w] at h
       simp only at h
       unfold isiD at h
       cases t : tyD d with
       | none => rw [t] at h; exact h.elim
       | some tn =>
         rw [t] at h
         simp only at h
         cases kb : kitB tn n with
         | none => rw [kb] at h; exact h.elim
         | some b =>
           rw [kb] at h
           refine SX.pl s w fun v Z os rv => ?_
           have ty := tyD_of rv t
           rw [show (C.G Z H).K = X.K from O.k] at ty
           exact ⟨v, .ty n, .type tn, .type n, b, rfl, .ty n, ty, kit_ty kb, h _ rfl⟩
 · unfold qIsi at h
   split at h
   · split at h
     · split at h
       · simp at h; subst h; exact ⟨_, rfl⟩
       · cases h
     · cases h
   · cases h
end
end PV
namespace PV
open PySem L2
theorem for_zipVL {K : PySem.W.Frag} {a b : Addr} {n : Nat} {g : TG} {tb : TS} {D : Ends} {σ : L2.St} {H : Hp} (Pv : Nat → L2.St → Hp → Prop) (h0 : Pv 0 σ H) (hl : ∀ i σ H, i ≤ n → Pv i σ H → ∃ ws zs, ws.length = n ∧ zs.length = n ∧ H a = some (.lst ws) ∧ H b = some (.lst zs))
   (hs : ∀ i x y T ws zs σ H, H a = some (.lst ws) → H b = some (.lst zs) → ws[i]? = some x → zs[i]? = some y → i < n → Pv i σ H → H T = none → g (.ref T) σ (upd H T (.tup [x, y])) fun σ2 H2 => tb { D with nx := Pv (i + 1), ct := Pv (i + 1), bk := D.nx } σ2 H2) (hd : ∀ σ H, Pv n σ H → D.nx σ H) :
   ∃ W : Nat → Nat → L2.St → Hp → Prop, (∃ m, W 0 m σ H) ∧ ∀ i m σ H, W i m σ H →
     ((Itz K a b).stop i H ∧ D.nx σ H) ∨ ((Itz K a b).go i H ∧ ∃ N : L2.St → Hp → Prop, (∀ σ' H', N σ' H' → ∃ m', m' < m ∧ W (i + 1) m' σ' H') ∧ ∀ x H', (Itz K a b).yld i H x H' → g x σ H' fun σ2 H2 => tb { D with nx := N, ct := N, bk := D.nx } σ2 H2) := by
 refine ⟨fun i m σ H => m = n - i ∧ i ≤ n ∧ Pv i σ H, ⟨n, by simp, Nat.zero_le _, h0⟩, ?_⟩
 rintro i m σ H ⟨rfl, hi, p⟩
 obtain ⟨ws, zs, hw, hz, qa, qb⟩ := hl i σ H hi p
 by_cases hlt : i < n
 · refine .inr ⟨⟨ws, zs, ws[i], zs[i], SqL.of qa, SqL.of qb, by simp [hw, hlt], by simp [hz, hlt]⟩, Pv (i + 1), fun σ' H' p' => ⟨n - (i + 1), by omega, rfl, hlt, p'⟩, fun v H' y => ?_⟩
   obtain ⟨T, x', y', rfl, hT, rfl, f1, f2⟩ := y
   exact hs i x' y' T ws zs σ H qa qb (f1 ws (SqL.of qa)) (f2 zs (SqL.of qb)) hlt p hT
 · have e : i = n := by omega
   subst e
   exact .inl ⟨⟨ws, zs, SqL.of qa, SqL.of qb, .inl (by omega)⟩, hd σ H p⟩
theorem for_zipVT {K : PySem.W.Frag} {a b : Addr} {n : Nat} {g : TG} {tb : TS} {D : Ends} {σ : L2.St} {H : Hp} (Pv : Nat → L2.St → Hp → Prop) (h0 : Pv 0 σ H) (hl : ∀ i σ H, i ≤ n → Pv i σ H → ∃ ws zs, ws.length = n ∧ zs.length = n ∧ H a = some (.tup ws) ∧ H b = some (.tup zs))
   (hs : ∀ i x y T ws zs σ H, H a = some (.tup ws) → H b = some (.tup zs) → ws[i]? = some x → zs[i]? = some y → i < n → Pv i σ H → H T = none → g (.ref T) σ (upd H T (.tup [x, y])) fun σ2 H2 => tb { D with nx := Pv (i + 1), ct := Pv (i + 1), bk := D.nx } σ2 H2) (hd : ∀ σ H, Pv n σ H → D.nx σ H) :
   ∃ W : Nat → Nat → L2.St → Hp → Prop, (∃ m, W 0 m σ H) ∧ ∀ i m σ H, W i m σ H →
     ((RZ.ItzT K a b).stop i H ∧ D.nx σ H) ∨ ((RZ.ItzT K a b).go i H ∧ ∃ N : L2.St → Hp → Prop, (∀ σ' H', N σ' H' → ∃ m', m' < m ∧ W (i + 1) m' σ' H') ∧ ∀ x H', (RZ.ItzT K a b).yld i H x H' → g x σ H' fun σ2 H2 => tb { D with nx := N, ct := N, bk := D.nx } σ2 H2) := by
 refine ⟨fun i m σ H => m = n - i ∧ i ≤ n ∧ Pv i σ H, ⟨n, by simp, Nat.zero_le _, h0⟩, ?_⟩
 rintro i m σ H ⟨rfl, hi, p⟩
 obtain ⟨ws, zs, hw, hz, qa, qb⟩ := hl i σ H hi p
 by_cases hlt : i < n
 · refine .inr ⟨⟨ws, zs, ws[i], zs[i], SqT.of qa, SqT.of qb, by simp [hw, hlt], by simp [hz, hlt]⟩, Pv (i + 1), fun σ' H' p' => ⟨n - (i + 1), by omega, rfl, hlt, p'⟩, fun v H' y => ?_⟩
   obtain ⟨T, x', y', rfl, hT, rfl, f1, f2⟩ := y
   exact hs i x' y' T ws zs σ H qa qb (f1 ws (SqT.of qa)) (f2 zs (SqT.of qb)) hlt p hT
 · have e : i = n := by omega
   subst e
   exact .inl ⟨⟨ws, zs, SqT.of qa, SqT.of qb, .inl (by omega)⟩, hd σ H p⟩
section
variable {X : Cx} {C : Cc} {st ds : List D} {σ : L2.St} {vs : List V} {H H' : Hp} {a b e o tg : Expr} {es : List Expr} {pos p apos : Pos} {qa qb qo : List D → Option PL} {ma mb : List D → R D} {sa sb : Bool} {ss : List Stmt} {m : MS} {Dn : Ends}
theorem SX.item2 {kA kB : Kd} {xs ys : List D} {a b : Addr} {j : Nat} {x y : D} {w z : V} {ws zs : List V} (nA : D.noOwn (.nd kA xs) = true) (nB : D.noOwn (.nd kB ys) = true) (s : SX C st (ds ++ [.nd kA xs] ++ [.nd kB ys]) σ (vs ++ [.ref a] ++ [.ref b]) H) (hl : ds.length = vs.length)
   (hx : xs[j]? = some x) (hy : ys[j]? = some y) (hkA : HoK C.CA H a ws kA) (hkB : HoK C.CA H b zs kB) (hw : ws[j]? = some w) (hz : zs[j]? = some z) :
   SX C st (ds ++ [.nd kA xs] ++ [.nd kB ys] ++ [x, y]) σ (vs ++ [.ref a] ++ [.ref b] ++ [w, z]) H := by
 obtain ⟨Z, os, s⟩ := s
 obtain ⟨o1, o2, o3, r1, r2, r3, e⟩ := s.top
 obtain ⟨o4, o5, r4, r5, e'⟩ := RpL.cut hl r2
 have rA := r5.of1
 have zA := rA.zero nA
 have zB := r3.zero nB
 obtain ⟨ox, rx, lx⟩ := rA.kids hkA
 obtain ⟨oy, ry, ly⟩ := r3.kids hkB
 obtain ⟨w', od, orr, hw', rd, hod, _⟩ := rx.at hx
 rw [hw] at hw'; cases hw'
 obtain ⟨z', od2, orr2, hz', rd2, hod2, _⟩ := ry.at hy
 rw [hz] at hz'; cases hz'
 have z1 : ∀ b, od b = 0 := fun b => by have := hod b; have := lx b; have := zA b; omega
 have z2 : ∀ b, od2 b = 0 := fun b => by have := hod2 b; have := ly b; have := zB b; omega
 have two : RpL (C.G Z H) [x, y] [w, z] (fun _ => 0) := .cons rd (RpL.one rd2) fun b => by rw [z1, z2]
 exact (s.mk2 (os' := os) (o2 := fun b => o2 b + o3 b) r1 (((r4.app r5 e').app (RpL.one r3) fun _ => rfl).app (os := fun b => o2 b + o3 b) two fun b => by simp) (fun b => by rw [e]; omega) (fun _ => Nat.le_refl _) s.sl).sx
def zipD : List D → List D → List D
 | x :: xs, y :: ys => .nd .tup [x, y] :: zipD xs ys
 | _, _ => []
def mForZ (ma mb : List D → R D) (g : MG) (body : MS) : MS := fun st => (ma st).s fun x st1 => (mb st1).s fun y st2 => match x.frz, y.frz with
 | .nd (.lst _) xs, .nd (.lst _) ys => if xs.length = ys.length then forL g body (zipD xs ys) st2 else .stuck
 | .nd .tup xs, .nd .tup ys => if xs.length = ys.length then forL g body (zipD xs ys) st2 else .stuck
 | _, _ => .stuck
theorem zip_drop : ∀ {xs ys : List D} {j : Nat} (h1 : j < xs.length) (h2 : j < ys.length), (zipD xs ys).drop j = .nd .tup [xs[j], ys[j]] :: (zipD xs ys).drop (j + 1)
 | x :: xs, y :: ys, 0, _, _ => rfl
 | x :: xs, y :: ys, j + 1, h1, h2 => by simpa [zipD] using zip_drop (xs := xs) (ys := ys) (j := j) (by simpa using h1) (by simpa using h2)
theorem zip_end : ∀ {xs ys : List D}, xs.length = ys.length → (zipD xs ys).drop xs.length = []
 | [], [], _ => rfl
 | x :: xs, y :: ys, h => by simpa [zipD] using zip_end (xs := xs) (ys := ys) (by simpa using h)
 | [], y :: ys, h => by simp at h
 | x :: xs, [], h => by simp at h
theorem forZ_turn {g : MG} {kA kB : Kd} {xs ys : List D} {a b : Addr} {j : Nat} {σ' : L2.St} {H' : Hp} {st' : List D} {T : Addr} {x y : V} {ws zs : List V} {Dn' : Ends} (hl : ds.length = vs.length) (nA : D.noOwn (.nd kA xs) = true) (nB : D.noOwn (.nd kB ys) = true) (s' : SX C st' (ds ++ [.nd kA xs] ++ [.nd kB ys]) σ' (vs ++ [.ref a] ++ [.ref b]) H')
   (h' : rZ C (ds ++ [.nd kA xs] ++ [.nd kB ys]) (vs ++ [.ref a] ++ [.ref b]) Dn (forL g m ((zipD xs ys).drop j) st')) (hjx : j < xs.length) (hjy : j < ys.length) (hkA : HoK C.CA H' a ws kA) (hkB : HoK C.CA H' b zs kB) (hw : ws[j]? = some x) (hz : zs[j]? = some y) (hT : H' T = none)
   (hn : ∀ σ'' H'', (∃ st'', SX C st'' (ds ++ [.nd kA xs] ++ [.nd kB ys]) σ'' (vs ++ [.ref a] ++ [.ref b]) H'' ∧ rZ C (ds ++ [.nd kA xs] ++ [.nd kB ys]) (vs ++ [.ref a] ++ [.ref b]) Dn (forL g m ((zipD xs ys).drop (j + 1)) st'')) → Dn'.nx σ'' H'' ∧ Dn'.ct σ'' H'') (hb : ∀ σ H, Dn.nx σ H → Dn'.bk σ H) (hr : Dn'.rt = Dn.rt) :
   trG C g (.ref T) σ' (upd H' T (.tup [x, y])) fun σ2 H2 => trS C m Dn' σ2 H2 := by
 have s3 := s'.item2 nA nB hl (x := xs[j]) (y := ys[j]) (by simp [hjx]) (by simp [hjy]) hkA hkB hw hz
 have s4 := SX.alloc s3 (by simp [hl]) hT (show (upd H' T (.tup [x, y])) T = some (.tup [x, y]) from upd_same) (k := .tup) (.inl rfl)
 refine ⟨st', ds ++ [.nd kA xs] ++ [.nd kB ys], vs ++ [.ref a] ++ [.ref b], _, s4, by simp [hl], ?_⟩
 rw [zip_drop hjx hjy] at h'
 simp only [forL] at h'
 cases q : g (.nd .tup [xs[j], ys[j]]) st' with
 | none => rw [q] at h'; exact h'.elim
 | some st2 =>
   rw [q] at h'
   intro σ2 H2 s5
   refine ⟨st2, ds ++ [.nd kA xs] ++ [.nd kB ys], vs ++ [.ref a] ++ [.ref b], s5, by simp [hl], ?_⟩
   exact rZ.turn (f := forL g m ((zipD xs ys).drop (j + 1))) (fun st'' σ'' H'' s'' q => (hn _ _ ⟨st'', s'', q⟩).1) (fun st'' σ'' H'' s'' q => (hn _ _ ⟨st'', s'', q⟩).2) hb hr h'
theorem frz_no (d : D) : D.noOwn d.frz = true := D.noOwn_set (by decide) d
theorem SX.frzTop2 {x y : D} {v u : V} (s : SX C st (ds ++ [x] ++ [y]) σ (vs ++ [v] ++ [u]) H) (hl : ds.length = vs.length) : SX C st (ds ++ [x.frz] ++ [y.frz]) σ (vs ++ [v] ++ [u]) H := by
 have s1 := SX.rot (x := x) (v := v) (B := [y]) (vB := [u]) (by simpa [List.append_assoc] using s) hl
 have s2 : SX C st (ds ++ [y] ++ [x.frz]) σ (vs ++ [u] ++ [v]) H := SX.frzTop (by simpa [List.append_assoc] using s1)
 have s3 := SX.rot (x := y) (v := u) (B := [x.frz]) (vB := [v]) (by simpa [List.append_assoc] using s2) hl
 have s4 : SX C st (ds ++ [x.frz] ++ [y.frz]) σ (vs ++ [v] ++ [u]) H := SX.frzTop (by simpa [List.append_assoc] using s3)
 exact s4
theorem SX.nd2 {kA kB : Kd} {xs ys : List D} {v u : V} (s : SX C st (ds ++ [.nd kA xs] ++ [.nd kB ys]) σ (vs ++ [v] ++ [u]) H) (hl : ds.length = vs.length) : ∃ (a b : Addr) (ws zs : List V), v = .ref a ∧ u = .ref b ∧ HoK C.CA H a ws kA ∧ HoK C.CA H b zs kB ∧ xs.length = ws.length ∧ ys.length = zs.length := by
 obtain ⟨b, zs, Z, os, e1, h1, r1⟩ := s.ndTop
 obtain ⟨a, ws, Z', os', e2, h2, r2⟩ := s.pop.ndTop
 exact ⟨a, b, ws, zs, e2, e1, h2, h1, r2.len, r1.len⟩
theorem vs_forZ {g : MG} {elts : List Expr} {kk : Nat} {tpos fpos : Pos} (O : COk X C) (hp : PassesOwn (model X.prog X.w) X.A X.env X.xe) (hc : X.calm = true) (ha : VE X C sa a ma) (hb' : VE X C sb b mb) (hg : VG X C (.Tuple elts kk tpos) g) (hb : VB X C ss m) (hgz : Gl X "zip") (hmz : X.mg "zip" = none)
   (hs1 : starEach [a, b] X.env = (false, eval a X.env) :: starEach [b] X.env := by rfl) (hs2 : starEach [b] X.env = (false, eval b X.env) :: starEach [] X.env := by rfl) (hpl : (backTo pos (starEach [b] X.env)).any (·.1) = false := by rfl)
   (hs : ∀ x, foldedSetIterable (.Call (.Name "zip" p) [a, b] [] pos) X.env x = pure x := by intro _; rfl) : VS X C (.For (.Tuple elts kk tpos) (.Call (.Name "zip" p) [a, b] [] pos) ss [] fpos) (mForZ ma mb g m) := by
 refine (ps_for hp hc (RZ.pi_zipA hgz hmz (pa_cons ha (pa_cons hb' pa_nil hs2) hs1) hs1 hpl) hg hb hs).impV ?_
 rintro Dn σ H ⟨st, ds, vs, s, hl, h⟩
 refine seqS s hl h fun x st1 v H1 s1 h1 => ?_
 refine ⟨st1, ds ++ [x], vs ++ [v], s1, by simp [hl], ?_⟩
 cases q : mb st1 with
 | stuck => rw [q] at h1; exact h1.elim
 | ex y st' => rw [q] at h1; exact (h1 σ).up hl rfl
 | ok y st2 =>
   rw [q] at h1
   intro u H2 _ s2
   simp only [R.s_ok] at h1
   have s3 := s2.frzTop2 hl
   have nA := frz_no x
   have nB := frz_no y
   generalize x.frz = fx at h1 s3 nA
   generalize y.frz = fy at h1 s3 nB
   match fx, fy, h1 with
   | .nd (.lst f) xs, .nd (.lst f2) ys, h1 =>
     simp only at h1
     split at h1
     · rename_i hlen
       obtain ⟨a', b', ws, zs, rfl, rfl, hA, hB, l1, l2⟩ := s3.nd2 hl
       refine ⟨a', b', ws, zs, rfl, .inl ⟨SqL.of hA, SqL.of hB, for_zipVL (K := X.K) (a := a') (b := b') (n := xs.length) (fun j σ' H' => ∃ st', SX C st' (ds ++ [.nd (.lst f) xs] ++ [.nd (.lst f2) ys]) σ' (vs ++ [.ref a'] ++ [.ref b']) H' ∧ rZ C (ds ++ [.nd (.lst f) xs] ++ [.nd (.lst f2) ys]) (vs ++ [.ref a'] ++ [.ref b']) Dn (forL g m ((zipD xs ys).drop j) st')) ⟨st2, s3, rZ.up (by simp [hl]) rfl (rZ.up hl rfl h1)⟩ (fun j σ' H' _ ⟨_, s', _⟩ => ?_) ?_ ?_⟩⟩
       · obtain ⟨a2, b2, ws', zs', e1, e2, h3, h4, l3, l4⟩ := s'.nd2 hl
         cases e1; cases e2
         exact ⟨ws', zs', l3.symm, by rw [← l4, hlen], h3, h4⟩
       · rintro j x' y' T ws' zs' σ' H' hq hq2 hw hz hj ⟨st', s', h'⟩ hT
         exact forZ_turn hl nA nB s' h' hj (by omega) hq hq2 hw hz hT (fun σ'' H'' z => ⟨z, z⟩) (fun _ _ q => q) rfl
       · rintro σ' H' ⟨st', s', h'⟩
         rw [zip_end hlen] at h'
         exact h' σ' H' s'
     · exact h1.elim
   | .nd .tup xs, .nd .tup ys, h1 =>
     simp only at h1
     split at h1
     · rename_i hlen
       obtain ⟨a', b', ws, zs, rfl, rfl, hA, hB, l1, l2⟩ := s3.nd2 hl
       refine ⟨a', b', ws, zs, rfl, .inr ⟨SqT.of hA, SqT.of hB, for_zipVT (K := X.K) (a := a') (b := b') (n := xs.length) (fun j σ' H' => ∃ st', SX C st' (ds ++ [.nd .tup xs] ++ [.nd .tup ys]) σ' (vs ++ [.ref a'] ++ [.ref b']) H' ∧ rZ C (ds ++ [.nd .tup xs] ++ [.nd .tup ys]) (vs ++ [.ref a'] ++ [.ref b']) Dn (forL g m ((zipD xs ys).drop j) st')) ⟨st2, s3, rZ.up (by simp [hl]) rfl (rZ.up hl rfl h1)⟩ (fun j σ' H' _ ⟨_, s', _⟩ => ?_) ?_ ?_⟩⟩
       · obtain ⟨a2, b2, ws', zs', e1, e2, h3, h4, l3, l4⟩ := s'.nd2 hl
         cases e1; cases e2
         exact ⟨ws', zs', l3.symm, by rw [← l4, hlen], h3, h4⟩
       · rintro j x' y' T ws' zs' σ' H' hq hq2 hw hz hj ⟨st', s', h'⟩ hT
         exact forZ_turn hl nA nB s' h' hj (by omega) hq hq2 hw hz hT (fun σ'' H'' z => ⟨z, z⟩) (fun _ _ q => q) rfl
       · rintro σ' H' ⟨st', s', h'⟩
         rw [zip_end hlen] at h'
         exact h' σ' H' s'
     · exact h1.elim
end
end PV
namespace PV
open PySem L2
section
variable {X : Cx} {C : Cc} {st ds : List D} {σ : L2.St} {vs : List V} {H H' : Hp} {a b e o tg : Expr} {es : List Expr} {pos p apos : Pos} {qa qb qo : List D → Option PL} {ma mb : List D → R D} {sa sb : Bool} {ss : List Stmt} {m : MS} {Dn : Ends}
def mScr (i : Nat) : List D → R D := fun st => match st[i]? with
 | some (.scr ns) => .ok (.scr ns) st
 | _ => .stuck
theorem SX.scrAt {i : Nat} {ns : List Int} (s : SX C st ds σ vs H) (h : st[i]? = some (.scr ns)) : ∃ a, σ[i]? = some (some (.ref a)) ∧ SqL C.K H a (ns.map V.int) ∧ SX C st (ds ++ [.scr ns]) σ (vs ++ [.ref a]) H := by
 obtain ⟨Z, os, s⟩ := s
 obtain ⟨o1, o2, r1, r2, e⟩ := s.cut
 obtain ⟨w, od, orr, hw, rd, hod, k⟩ := r1.at h
 obtain ⟨v, hv⟩ := s.sl i _ h (by simp)
 have ew : w = v := by simp [hv] at hw; exact hw.symm
 subst ew
 have z : ∀ b, od b = 0 := rd.zero rfl
 have s' := (s.mk2 (os' := os) (o2 := fun b => o2 b + od b) r1 (r2.app (RpL.one rd) fun _ => rfl) (fun b => by rw [e, z]; omega) (fun _ => Nat.le_refl _) s.sl).sx
 cases rd with
 | scr q hz =>
   rename_i a
   refine ⟨a, hv, ?_, s'⟩
   rcases q with ⟨q, _⟩ | q
   · exact .inl q
   · exact q H
theorem ve_scr (i : Nat) {x : Str} {pos : Pos} (hN : X.N[i]? = some x := by rfl) (hv : Vis X.env.scope x := by first | exact Or.inl rfl | exact Or.inr (Or.inl rfl) | exact Or.inr (Or.inr rfl)) (hd : (x == ("__debug__" : Str)) = false := by decide)
   (hcd : (x == ("__classdict__" : Str)) = false := by decide) : VE X C true (.Name x pos) (mScr i) := by
 refine (pv i hN hv hd hcd).impV ?_
 rintro σ H Q ⟨st, ds, vs, s, hl, h⟩
 unfold mScr at h
 cases q : st[i]? with
 | none => rw [q] at h; exact h.elim
 | some d =>
   rw [q] at h
   match d, q, h with
   | .scr ns, q, h =>
     obtain ⟨a, hv, _, s'⟩ := s.scrAt q
     exact ⟨.ref a, hv, h _ H (fun _ => Same.refl H) s'⟩
theorem SX.scrTop {ns : List Int} {v : V} (s : SX C st (ds ++ [.scr ns]) σ (vs ++ [v]) H) : ∃ a : Addr, v = .ref a ∧ SqL C.K H a (ns.map V.int) := by
 obtain ⟨Z, os, r⟩ := s.topR
 cases r with
 | scr q hz =>
   refine ⟨_, rfl, ?_⟩
   rcases q with ⟨q, _⟩ | q
   · exact .inl q
   · exact q H
def mSlScr (ma : List D → R D) (ql qh : List D → Option (Option Int)) : List D → R D := fun st => (ma st).bind fun d st1 => match d, ql st1, qh st1 with
 | .scr ns, some lo, some hi => .ok (.nd (.lst .own) (cutL (ns.map D.int) lo hi)) st1
 | _, _, _ => .stuck
theorem ints_rp {G : Gd} : ∀ ns : List Int, RpL G (ns.map D.int) (ns.map V.int) (fun _ => 0)
 | [] => .nil fun _ => rfl
 | n :: ns => .cons (o1 := fun _ => 0) (.int fun _ => rfl) (ints_rp ns) fun b => by simp
theorem ve_slScr {p2 : Pos} {lo hi : Option Expr} {ql qh : List D → Option (Option Int)} (O : COk X C) (ha : VE X C sa a ma) (hlo : VO X C lo ql) (hhi : VO X C hi qh) : VE X C sa (.Subscript a (.Slice lo hi none p2) pos) (mSlScr ma ql qh) := by
 refine (pe_slice sl_list ha hlo hhi).impV ?_
 rintro σ H Q ⟨st, ds, vs, s, hl, h⟩
 refine seq1 (sm := sa) s hl h fun x st1 v H1 sm s1 h1 => ?_
 match x, s1, h1 with
 | .scr ns, s1, h1 =>
   cases e1 : ql st1 with
   | none => rw [e1] at h1; exact h1.elim
   | some l =>
     cases e2 : qh st1 with
     | none => rw [e1, e2] at h1; exact h1.elim
     | some u =>
       rw [e1, e2] at h1
       refine ⟨st1, _, _, s1, ?_⟩
       rw [e1]
       refine ⟨st1, _, _, s1, ?_⟩
       rw [e2]
       obtain ⟨l0, rfl, sq⟩ := s1.scrTop
       rw [O.k] at sq
       refine ⟨l0, _, rfl, sq, fun q hq => h1 _ _ (fun z => (sm z).trans (same_new hq)) ?_⟩
       exact ((s1.pop.pushL fun G => ints_rp ns).thin hl (xs' := cutL (ns.map D.int) l u) (ws' := cutV (ns.map V.int) l u) fun G o r => r.cutL l u).alloc hl hq (show (upd H1 q (.lst (cutV (ns.map V.int) l u))) q = some (.lst (cutV (ns.map V.int) l u)) from upd_same) (.inr rfl)
 | .un, _, h1 => exact h1.elim
 | .non, _, h1 => exact h1.elim
 | .bl _, _, h1 => exact h1.elim
 | .int _, _, h1 => exact h1.elim
 | .str _, _, h1 => exact h1.elim
 | .nd _ _, _, h1 => exact h1.elim
def mIxE (ma mb : List D → R D) : List D → R D := fun st => (ma st).bind fun x st1 => (mb st1).bind fun y st2 => match x, y with
 | .nd (.lst _) xs, .int i => match atI xs i with
   | some d => .ok d st2
   | none => .stuck
 | .nd .tup xs, .int i => match atI xs i with
   | some d => .ok d st2
   | none => .stuck
 | .str z, .int i => if z.length ≤ sizeLine then match atI z.cps.toList i with
     | some c => .ok (.str ⟨#[c]⟩) st2
     | none => .stuck
   else .stuck
 | _, _ => .stuck
theorem atI_ix {α : Type} {xs : List α} {i : Int} {d : α} (h : atI xs i = some d) : ∃ j, ixN xs.length i = some j ∧ xs[j]? = some d := by
 unfold atI at h
 cases q : ixN xs.length i with
 | none => rw [q] at h; cases h
 | some j => rw [q] at h; exact ⟨j, rfl, h⟩
theorem ve_ixE (O : COk X C) (ha : VE X C sa a ma) (hb : VE X C sb b mb) (hs : PlainIx b := by exact fun _ _ => rfl) : VE X C (sa && sb) (.Subscript a b pos) (mIxE ma mb) := by
 refine (pe_ix ix_seq ha hb hs).impV ?_
 rintro σ H Q ⟨st, ds, vs, s, hl, h⟩
 refine seq2 (sm := sa && sb) s hl h fun x y st2 v u H2 sm s2 h2 => ?_
 have key : ∀ (k : Kd) (xs : List D) (i : Int) (d : D), x = .nd k xs → y = .int i → atI xs i = some d → (rE C (sa && sb) ds vs σ H Q (.ok d st2)) → ∃ (a' : Addr) (ws : List V) (w : V), v = .ref a' ∧ u = .int i ∧ HoK C.CA H2 a' ws k ∧ atI ws i = some w ∧ Q w H2 := by
   rintro k xs i d rfl rfl he hr
   have eu : u = .int i := s2.scTop rfl
   subst eu
   obtain ⟨a', ws, rfl, hk, hlen, s3⟩ := s2.pop.open
   obtain ⟨j, h1, h3⟩ := atI_ix he
   have hj : j < xs.length := (List.getElem?_eq_some_iff.mp h3).1
   obtain ⟨w, hw⟩ : ∃ w, ws[j]? = some w := ⟨ws[j]'(by omega), by simp⟩
   refine ⟨a', ws, w, rfl, rfl, hk, atI_of (by rw [← hlen]; exact h1) hw, hr w H2 sm ?_⟩
   refine s3.thin hl fun G o r => ?_
   obtain ⟨w', od, orr, hw', rd, hod, _⟩ := r.at h3
   rw [hw] at hw'; cases hw'
   exact ⟨od, RpL.one rd, fun b => by rw [hod]; omega⟩
 match x, y, s2, h2, key with
 | .nd (.lst f) xs, .int i, s2, h2, key =>
   simp only at h2
   cases he : atI xs i with
   | none => rw [he] at h2; exact h2.elim
   | some d =>
     rw [he] at h2
     obtain ⟨a', ws, w, rfl, rfl, hk, hw, q⟩ := key _ _ _ _ rfl rfl he h2
     exact .inl ⟨a', ws, i, w, rfl, rfl, SqL.of hk, hw, q⟩
 | .nd .tup xs, .int i, s2, h2, key =>
   simp only at h2
   cases he : atI xs i with
   | none => rw [he] at h2; exact h2.elim
   | some d =>
     rw [he] at h2
     obtain ⟨a', ws, w, rfl, rfl, hk, hw, q⟩ := key _ _ _ _ rfl rfl he h2
     exact .inr (.inl ⟨a', ws, i, w, rfl, rfl, SqT.of hk, hw, q⟩)
 | .str z, .int i, s2, h2, key =>
   simp only at h2
   split at h2
   · rename_i hz
     cases he : atI z.cps.toList i with
     | none => rw [he] at h2; exact h2.elim
     | some c =>
       rw [he] at h2
       have eu : u = .int i := s2.scTop rfl
       subst eu
       have ev : v = .str z := s2.pop.scTop rfl
       subst ev
       exact .inr (.inr ⟨z, i, c, rfl, rfl, hz, he, h2 _ H2 sm (s2.pop.pop.pushc rfl)⟩)
   · exact h2.elim
 | .nd (.dct _ _) _, .int _, _, h2, _ => exact h2.elim
 | .nd (.ins _ _ _) _, .int _, _, h2, _ => exact h2.elim
 | .nd (.dtp _ _) _, .int _, _, h2, _ => exact h2.elim
 | .un, _, _, h2, _ => exact h2.elim
 | .non, _, _, h2, _ => exact h2.elim
 | .bl _, _, _, h2, _ => exact h2.elim
 | .int _, _, _, h2, _ => exact h2.elim
 | .scr _, _, _, h2, _ => exact h2.elim
 | .exc _ _, _, _, h2, _ => exact h2.elim
theorem fn_stuck {P : Program} {w : World} {K : PySem.W.Frag} {mg : Str → Option Value} {base : Heap} {CX : CXT} {k : Nat} {f : Addr} {fd : FuncData} {ps : List Str} {CA : Str → Option Addr} : FnOk P w K mg base CX k f fd ps (spF K CA ps.length fun _ => .stuck) :=
 ⟨fun vs H Q E h => h.1, fun A outer s H args us vs Q E _ _ _ _ h => by obtain ⟨_, _, _, _, _, h⟩ := h; exact h.elim⟩
end
def spLaw (K : PySem.W.Frag) : Sp := fun vs H Q _ => ∃ (a : Addr) (ns : List Int), vs = [.ref a] ∧ SqL K H a (ns.map V.int) ∧ ns.length ≤ 63 ∧ ∀ H', Q (.bl true) H'
theorem spF_law {K : PySem.W.Frag} {CA : Str → Option Addr} {F : Fn} (h : ∀ ns : List Int, ns.length ≤ 63 → F [.scr ns] = .ok (.bl true) [.un]) (vs : List V) (H : Hp) (Q : VK) (E : XK) (hs : spLaw K vs H Q E) : spF K CA 1 F vs H Q E := by
 obtain ⟨a, ns, rfl, hS, hl, k⟩ := hs
 refine ⟨rfl, [.scr ns], fun _ => 0, fun _ => False, ⟨RpL.one (.scr ?_ fun _ => rfl), fun _ => Nat.zero_le _, fun a z => absurd z (Nat.lt_irrefl 0), fun a z => z.elim⟩, ?_⟩
 · rcases hS with q | q
   · exact .inl ⟨q, Nat.lt_irrefl 0⟩
   · exact .inr fun _ => .inr q
 · rw [h ns hl]
   intro v H' Z' os' P
   cases P.rp with
   | cons r _ _ => cases r; exact k H'
end PV
namespace PV
open PySem L2
@[simp] theorem size_line : sizeLine = 16777216 := rfl
def obn {α β : Type} (o : Option α) (f : α → Option β) : Option β := match o with
 | some a => f a
 | none => none
@[simp] theorem obn_some {α β : Type} (a : α) (f : α → Option β) : obn (some a) f = f a := rfl
@[simp] theorem obn_none {α β : Type} (f : α → Option β) : obn none f = none := rfl
def R.of {α β : Type} (o : Option α) (f : α → R β) : R β := match o with
 | some a => f a
 | none => .stuck
@[simp] theorem R.of_some {α β : Type} (a : α) (f : α → R β) : R.of (some a) f = f a := rfl
@[simp] theorem R.of_none {α β : Type} (f : α → R β) : R.of none f = .stuck := rfl
def RS.sq (r : RS) (n : MS) : RS := match r with
 | .nx st => n st
 | r => r
@[simp] theorem sq_nx (st : List D) (n : MS) : (RS.nx st).sq n = n st := rfl
@[simp] theorem sq_rt (d : D) (st : List D) (n : MS) : (RS.rt d st).sq n = .rt d st := rfl
@[simp] theorem sq_bk (st : List D) (n : MS) : (RS.bk st).sq n = .bk st := rfl
@[simp] theorem sq_ct (st : List D) (n : MS) : (RS.ct st).sq n = .ct st := rfl
@[simp] theorem sq_ex (e : Ex) (st : List D) (n : MS) : (RS.ex e st).sq n = .ex e st := rfl
@[simp] theorem sq_stuck (n : MS) : RS.stuck.sq n = .stuck := rfl
def chk {α : Type} (c : Prop) [Decidable c] (r : R α) : R α := if c then r else .stuck
theorem chk_of {α : Type} {c : Prop} [Decidable c] {r : R α} (h : c) : chk c r = r := if_pos h
def chkO {α : Type} (c : Prop) [Decidable c] (r : Option α) : Option α := if c then r else none
theorem chkO_of {α : Type} {c : Prop} [Decidable c] {r : Option α} (h : c) : chkO c r = r := if_pos h
def RS.br (b : Bool) (m n : MS) (st : List D) : RS := if b = true then m st else n st
@[simp] theorem br_true (m n : MS) (st : List D) : RS.br true m n st = m st := rfl
@[simp] theorem br_false (m n : MS) (st : List D) : RS.br false m n st = n st := rfl
def R.br {α : Type} (b : Bool) (m n : List D → R α) (st : List D) : R α := if b = true then m st else n st
@[simp] theorem rbr_true {α : Type} (m n : List D → R α) (st : List D) : R.br true m n st = m st := rfl
@[simp] theorem rbr_false {α : Type} (m n : List D → R α) (st : List D) : R.br false m n st = n st := rfl
@[simp] theorem mSeq_eq (m n : MS) (st : List D) : mSeq m n st = (m st).sq n := by
 unfold mSeq RS.sq
 cases m st <;> rfl
@[simp] theorem mSkip_eq (st : List D) : mSkip st = .nx st := rfl
@[simp] theorem mExpr_eq (ma : List D → R D) (st : List D) : mExpr ma st = (ma st).s fun _ st' => .nx st' := rfl
@[simp] theorem mRet_eq (ma : List D → R D) (st : List D) : mRet ma st = (ma st).s fun d st' => .rt d st' := rfl
@[simp] theorem mIf_eq (t : List D → R Bool) (m n : MS) (st : List D) : mIf t m n st = (t st).s fun b st' => RS.br b m n st' := rfl
def asg (r : Option (List D)) : RS := match r with
 | some st => .nx st
 | none => .stuck
@[simp] theorem asg_some (st : List D) : asg (some st) = .nx st := rfl
@[simp] theorem mAsg_eq (ma : List D → R D) (g : MG) (st : List D) : mAsg ma g st = (ma st).s fun d st' => asg (g d st') := by
 unfold mAsg
 rfl
@[simp] theorem gNm_eq (i : Nat) (d : D) (st : List D) : gNm i d st = chkO (i < st.length) (some (st.set i d)) := rfl
@[simp] theorem gTu_tup (n : Nat) (gs : MGs) (xs st : List D) : gTu n gs (.nd .tup xs) st = chkO (xs.length = n) (gs xs st) := rfl
@[simp] theorem gC1_cons (g : MG) (gs : MGs) (x : D) (r st : List D) : gC1 g gs (x :: r) st = obn (g x st) (gs r) := by
 simp only [gC1, obn]
 cases g x st <;> rfl
@[simp] theorem gN0_nil (st : List D) : gN0 [] st = some st := rfl
@[simp] theorem qC_eq (d : D) (st : List D) : qC d st = some (.sc d) := rfl
@[simp] theorem getS0 (st : List D) (r : Nat) : getS st r [] = st[r]? := by
 unfold getS
 cases st[r]? <;> simp [getP]
@[simp] theorem getSc (st : List D) (r : Nat) (j : Nat) (p : Pth) : getS st r (j :: p) = obn st[r]? fun d => getP d (j :: p) := by
 unfold getS obn
 cases st[r]? <;> rfl
@[simp] theorem getP0 (d : D) : getP d [] = some d := by simp [getP]
@[simp] theorem getPc (k : Kd) (xs : List D) (j : Nat) (p : Pth) : getP (.nd k xs) (j :: p) = obn xs[j]? fun d => getP d p := by
 simp only [getP, obn]
 cases xs[j]? <;> rfl
@[simp] theorem setS0 (st : List D) (r : Nat) (e : D) : setS st r [] e = st.set r e := by
 unfold setS
 cases q : st[r]? with
 | some d => simp [setP]
 | none => simp at q; simp [List.set_eq_of_length_le q]
def setAt (st : List D) (r : Nat) (p : Pth) (e : D) : Option D → List D
 | some d => st.set r (setP d p e)
 | none => st
@[simp] theorem setAt_some (st : List D) (r : Nat) (p : Pth) (e d : D) : setAt st r p e (some d) = st.set r (setP d p e) := rfl
@[simp] theorem setSc (st : List D) (r j : Nat) (p : Pth) (e : D) : setS st r (j :: p) e = setAt st r (j :: p) e st[r]? := by
 unfold setS setAt
 cases st[r]? <;> rfl
@[simp] theorem setP0 (d e : D) : setP d [] e = e := by simp [setP]
def setPk (k : Kd) (xs : List D) (j : Nat) (p : Pth) (e : D) : Option D → D
 | some x => .nd k (xs.set j (setP x p e))
 | none => .nd k xs
@[simp] theorem setPk_some (k : Kd) (xs : List D) (j : Nat) (p : Pth) (e x : D) : setPk k xs j p e (some x) = .nd k (xs.set j (setP x p e)) := rfl
@[simp] theorem setPc (k : Kd) (xs : List D) (j : Nat) (p : Pth) (e : D) : setP (.nd k xs) (j :: p) e = setPk k xs j p e xs[j]? := by
 first
   | (simp only [setP, setPk]; done)
   | (simp only [setP, setPk]; cases xs[j]? <;> rfl)
def plD0 (r : Nat) (p : Pth) (d : D) : Option PL := match d with
 | .nd _ _ => some (.pth r p)
 | .un => none
 | .scr _ => none
 | .exc _ _ => none
 | d => some (.sc d)
@[simp] theorem plOf_eq (st : List D) (r : Nat) (p : Pth) : plOf st r p = obn (getS st r p) (plD0 r p) := by
 unfold plOf obn
 cases getS st r p with
 | none => rfl
 | some d => cases d <;> rfl
@[simp] theorem plD0_nd (r : Nat) (p : Pth) (k : Kd) (xs : List D) : plD0 r p (.nd k xs) = some (.pth r p) := rfl
@[simp] theorem plD0_int (r : Nat) (p : Pth) (i : Int) : plD0 r p (.int i) = some (.sc (.int i)) := rfl
@[simp] theorem plD0_bl (r : Nat) (p : Pth) (i : Bool) : plD0 r p (.bl i) = some (.sc (.bl i)) := rfl
@[simp] theorem plD0_str (r : Nat) (p : Pth) (i : Str) : plD0 r p (.str i) = some (.sc (.str i)) := rfl
@[simp] theorem plD0_non (r : Nat) (p : Pth) : plD0 r p .non = some (.sc .non) := rfl
@[simp] theorem qV_eq (i : Nat) (st : List D) : qV i st = obn st[i]? (plD0 i []) := by
 unfold qV
 rw [plOf_eq, getS0]
def q2 (a b : Option PL) (f : PL → PL → Option PL) : Option PL := match a, b with
 | some p, some q => f p q
 | _, _ => none
@[simp] theorem q2_some (p q : PL) (f : PL → PL → Option PL) : q2 (some p) (some q) f = f p q := rfl
def ixAt (st : List D) (r : Nat) (p : Pth) (i : Int) (d : D) : Option PL := match d with
 | .nd (.lst _) xs => obn (ixN xs.length i) fun j => plOf st r (p ++ [j])
 | .nd .tup xs => obn (ixN xs.length i) fun j => plOf st r (p ++ [j])
 | _ => none
@[simp] theorem ixAt_lst (st : List D) (r : Nat) (p : Pth) (i : Int) (f : Fl) (xs : List D) : ixAt st r p i (.nd (.lst f) xs) = obn (ixN xs.length i) fun j => plOf st r (p ++ [j]) := rfl
@[simp] theorem ixAt_tup (st : List D) (r : Nat) (p : Pth) (i : Int) (xs : List D) : ixAt st r p i (.nd .tup xs) = obn (ixN xs.length i) fun j => plOf st r (p ++ [j]) := rfl
def ixQ (st : List D) (a b : PL) : Option PL := match a, b with
 | .pth r p, .sc (.int i) => obn (getS st r p) (ixAt st r p i)
 | .sc (.str z), .sc (.int i) => chkO (z.length ≤ sizeLine) (obn (atI z.cps.toList i) fun c => some (.sc (.str ⟨#[c]⟩)))
 | _, _ => none
@[simp] theorem ixQ_pth (st : List D) (r : Nat) (p : Pth) (i : Int) : ixQ st (.pth r p) (.sc (.int i)) = obn (getS st r p) (ixAt st r p i) := rfl
@[simp] theorem ixQ_str (st : List D) (z : Str) (i : Int) : ixQ st (.sc (.str z)) (.sc (.int i)) = chkO (z.length ≤ sizeLine) (obn (atI z.cps.toList i) fun c => some (.sc (.str ⟨#[c]⟩))) := rfl
@[simp] theorem qIx_eq (qa qb : List D → Option PL) (st : List D) : qIx qa qb st = q2 (qa st) (qb st) (ixQ st) := by
 unfold qIx q2
 cases qa st with
 | none => rfl
 | some a =>
   cases qb st with
   | none => cases a with
     | pth r p => rfl
     | sc d => cases d <;> rfl
   | some b =>
     cases a with
     | pth r p =>
       cases b with
       | pth r' p' => rfl
       | sc d =>
         cases d with
         | int i =>
           simp only [ixQ]
           cases getS st r p with
           | none => rfl
           | some d =>
             cases d with
             | nd k xs => cases k <;> simp only [obn, ixAt] <;> cases ixN xs.length i <;> rfl
             | _ => rfl
         | _ => rfl
     | sc d =>
       cases d with
       | str z =>
         cases b with
         | pth r' p' => rfl
         | sc d =>
           cases d with
           | int i =>
             simp only [ixQ, chkO, obn]
             split
             · cases atI z.cps.toList i <;> rfl
             · rfl
           | _ => rfl
       | _ => cases b with
         | pth r' p' => rfl
         | sc d => cases d <;> rfl
def opQ (g : G2) (a b : PL) : Option PL := match a, b with
 | .sc x, .sc y => obn (g x y) fun d => some (.sc d)
 | _, _ => none
@[simp] theorem opQ_sc (g : G2) (x y : D) : opQ g (.sc x) (.sc y) = obn (g x y) fun d => some (.sc d) := rfl
@[simp] theorem qOp_eq (g : G2) (qa qb : List D → Option PL) (st : List D) : qOp g qa qb st = q2 (qa st) (qb st) (opQ g) := by
 unfold qOp q2
 cases qa st with
 | none => rfl
 | some a =>
   cases qb st with
   | none => cases a <;> rfl
   | some b =>
     cases a <;> cases b <;> try rfl
     simp only [opQ, obn]
     split <;> simp_all
@[simp] theorem gAdd_int (i j : Int) : gAdd (.int i) (.int j) = some (.int (i + j)) := rfl
@[simp] theorem gAdd_str (x y : Str) : gAdd (.str x) (.str y) = chkO (x.length + y.length ≤ sizeLine) (some (.str (x ++ y))) := rfl
@[simp] theorem gSub_int (i j : Int) : gSub (.int i) (.int j) = some (.int (i - j)) := rfl
@[simp] theorem gLt_int (i j : Int) : gLt (.int i) (.int j) = some (.bl (decide (i < j))) := rfl
@[simp] theorem gLe_int (i j : Int) : gLe (.int i) (.int j) = some (.bl (decide (i ≤ j))) := rfl
@[simp] theorem gGt_int (i j : Int) : gGt (.int i) (.int j) = some (.bl (decide (j < i))) := rfl
@[simp] theorem gGe_int (i j : Int) : gGe (.int i) (.int j) = some (.bl (decide (j ≤ i))) := rfl
theorem gI_chk (f : Int → Int → D) (c : Int → Int → Prop) [∀ i j, Decidable (c i j)] (i j : Int) : gI f (fun i j => decide (c i j)) (.int i) (.int j) = chkO (c i j) (some (f i j)) := by
 unfold gI chkO
 simp only [decide_eq_true_eq]
@[simp] theorem gMul_int (i j : Int) : gMul (.int i) (.int j) = chkO (CMul i j) (some (.int (i * j))) := gI_chk _ _ _ _
@[simp] theorem gDiv_int (i j : Int) : gDiv (.int i) (.int j) = chkO (0 < j ∧ j.natAbs.log2 < 9000) (some (.int (i / j))) := gI_chk _ (fun _ j => 0 < j ∧ j.natAbs.log2 < 9000) _ _
@[simp] theorem gMod_int (i j : Int) : gMod (.int i) (.int j) = chkO (0 < j) (some (.int (i % j))) := gI_chk _ (fun _ j => 0 < j) _ _
@[simp] theorem gPow_int (i j : Int) : gPow (.int i) (.int j) = chkO (0 ≤ j ∧ j ≤ 1000000 ∧ i.natAbs < 2 ^ 64) (some (.int (i ^ j.toNat))) := gI_chk _ (fun i j => 0 ≤ j ∧ j ≤ 1000000 ∧ i.natAbs < 2 ^ 64) _ _
def lenQ (st : List D) (p : PL) : Option PL := match p with
 | .pth r p => obn (getS st r p) fun d => match d with
   | .nd (.lst _) xs => some (.sc (.int xs.length))
   | .nd .tup xs => some (.sc (.int xs.length))
   | _ => none
 | .sc (.str z) => chkO (z.length ≤ sizeLine) (some (.sc (.int z.length)))
 | _ => none
@[simp] theorem lenQ_pth (st : List D) (r : Nat) (p : Pth) : lenQ st (.pth r p) = obn (getS st r p) fun d => match d with
   | .nd (.lst _) xs => some (.sc (.int xs.length))
   | .nd .tup xs => some (.sc (.int xs.length))
   | _ => none := rfl
@[simp] theorem lenQ_str (st : List D) (z : Str) : lenQ st (.sc (.str z)) = chkO (z.length ≤ sizeLine) (some (.sc (.int z.length))) := rfl
@[simp] theorem qLen_eq (qa : List D → Option PL) (st : List D) : qLen qa st = obn (qa st) (lenQ st) := by
 unfold qLen obn
 cases qa st with
 | none => rfl
 | some a =>
   cases a with
   | pth r p =>
     simp only [lenQ, obn]
     cases getS st r p with
     | none => rfl
     | some d => cases d with
       | nd k xs => cases k <;> rfl
       | _ => rfl
   | sc d => cases d <;> rfl
@[simp] theorem plD_sc (st : List D) (d : D) : plD st (.sc d) = some d := rfl
@[simp] theorem plD_pth (st : List D) (r : Nat) (p : Pth) : plD st (.pth r p) = getS st r p := rfl
@[simp] theorem qEq_eq (neg : Bool) (qa qb : List D → Option PL) (st : List D) : qEq neg qa qb st = q2 (qa st) (qb st) fun p q => obn (plD st p) fun x => obn (plD st q) fun y => obn (eqD x y) fun b => some (.sc (.bl (neg ^^ b))) := by
 unfold qEq q2
 cases qa st with
 | none => rfl
 | some a =>
   cases qb st with
   | none => rfl
   | some b =>
     simp only [obn]
     cases plD st a with
     | none => rfl
     | some x =>
       cases plD st b with
       | none => rfl
       | some y =>
         simp only
         cases eqD x y with
         | none => rfl
         | some b => cases neg <;> cases b <;> rfl
@[simp] theorem mEq_eq (neg : Bool) (ma mb : List D → R D) (st : List D) : mEq neg ma mb st = (ma st).bind fun x st1 => (mb st1).bind fun y st2 => R.of (eqD x y) fun b => .ok (.bl (neg ^^ b)) st2 := by
 unfold mEq
 congr 1; funext x st1; congr 1; funext y st2
 cases eqD x y with
 | none => rfl
 | some b => cases neg <;> cases b <;> rfl
@[simp] theorem qIsN_eq (neg : Bool) (qa : List D → Option PL) (st : List D) : qIsN neg qa st = obn (qa st) fun p => match p with
   | .sc d => some (.sc (.bl (neg ^^ isNonD d)))
   | .pth _ _ => some (.sc (.bl neg)) := by
 unfold qIsN obn
 cases qa st with
 | none => rfl
 | some a => cases a <;> cases neg <;> simp
@[simp] theorem qIsi_eq (n : String) (qa : List D → Option PL) (st : List D) : qIsi n qa st = obn (qa st) fun p => obn (plD st p) fun d => obn (isiD n d) fun b => some (.sc (.bl b)) := by
 unfold qIsi obn
 cases qa st with
 | none => rfl
 | some a =>
   simp only
   cases plD st a with
   | none => rfl
   | some d => simp only; cases isiD n d <;> rfl
def quR (st : List D) (p : PL) : R D := match p with
 | .sc d => .ok d st
 | .pth r p => R.of (getS st r p) fun e => .ok e.frz (setS st r p e.frz)
@[simp] theorem quR_sc (st : List D) (d : D) : quR st (.sc d) = .ok d st := rfl
@[simp] theorem quR_pth (st : List D) (r : Nat) (p : Pth) : quR st (.pth r p) = R.of (getS st r p) fun e => .ok e.frz (setS st r p e.frz) := rfl
@[simp] theorem mQ_eq (q : List D → Option PL) (st : List D) : mQ q st = R.of (q st) (quR st) := by
 unfold mQ R.of
 cases q st with
 | none => rfl
 | some a =>
   cases a with
   | sc d => rfl
   | pth r p => simp only [quR, R.of]; cases getS st r p <;> rfl
def mvR (i : Nat) (st : List D) (d : D) : R D := match d with
 | .un => .stuck
 | d => .ok d (st.set i .un)
@[simp] theorem mvR_nd (i : Nat) (st : List D) (k : Kd) (xs : List D) : mvR i st (.nd k xs) = .ok (.nd k xs) (st.set i .un) := rfl
@[simp] theorem mvR_int (i : Nat) (st : List D) (z : Int) : mvR i st (.int z) = .ok (.int z) (st.set i .un) := rfl
@[simp] theorem mvR_bl (i : Nat) (st : List D) (z : Bool) : mvR i st (.bl z) = .ok (.bl z) (st.set i .un) := rfl
@[simp] theorem mvR_str (i : Nat) (st : List D) (z : Str) : mvR i st (.str z) = .ok (.str z) (st.set i .un) := rfl
@[simp] theorem mvR_non (i : Nat) (st : List D) : mvR i st .non = .ok .non (st.set i .un) := rfl
@[simp] theorem mMove_eq (i : Nat) (st : List D) : mMove i st = R.of st[i]? (mvR i st) := by
 unfold mMove R.of
 cases st[i]? with
 | none => rfl
 | some d => cases d <;> rfl
def tQ (st : List D) (p : PL) : R Bool := match p with
 | .sc (.bl b) => .ok b st
 | _ => .stuck
@[simp] theorem tQ_bl (st : List D) (b : Bool) : tQ st (.sc (.bl b)) = .ok b st := rfl
@[simp] theorem mTQ_eq (q : List D → Option PL) (st : List D) : mTQ q st = R.of (q st) (tQ st) := by
 unfold mTQ R.of
 cases q st with
 | none => rfl
 | some a =>
   cases a with
   | pth r p => rfl
   | sc d => cases d <;> rfl
def tD (d : D) (st : List D) : R Bool := match d with
 | .bl b => .ok b st
 | _ => .stuck
@[simp] theorem tD_bl (st : List D) (b : Bool) : tD (.bl b) st = .ok b st := rfl
@[simp] theorem mTE_eq (m : List D → R D) (st : List D) : mTE m st = (m st).bind tD := rfl
@[simp] theorem mNotT_eq (t : List D → R Bool) (st : List D) : mNotT t st = (t st).bind fun b st' => .ok (!b) st' := rfl
@[simp] theorem mOrT_eq (t u : List D → R Bool) (st : List D) : mOrT t u st = (t st).bind fun b st' => R.br b (fun st' => .ok true st') u st' := rfl
@[simp] theorem mNotV_eq (m : List D → R D) (st : List D) : mNotV m st = (m st).bind fun d st' => (tD d st').bind fun b st' => .ok (.bl (!b)) st' := by
 unfold mNotV
 congr 1; funext d st'
 cases d <;> rfl
@[simp] theorem mAndV_eq (m n : List D → R D) (st : List D) : mAndV m n st = (m st).bind fun d st' => (tD d st').bind fun b st' => R.br b n (fun st' => .ok (.bl false) st') st' := by
 unfold mAndV
 congr 1; funext d st'
 cases d with
 | bl b => cases b <;> rfl
 | _ => rfl
@[simp] theorem mNil_eq (st : List D) : mNil st = .ok [] st := rfl
@[simp] theorem mCons_eq (m : List D → R D) (ms : List D → R (List D)) (st : List D) : mCons m ms st = (m st).bind fun d st1 => (ms st1).bind fun xs st2 => .ok (d :: xs) st2 := rfl
@[simp] theorem mLst_eq (ml : List D → R (List D)) (st : List D) : mLst ml st = (ml st).bind fun xs st1 => chk (xs.length ≤ sizeLine) (.ok (.nd (.lst .own) xs) st1) := rfl
@[simp] theorem aNil_eq (st : List D) : aNil st = .ok [] st := rfl
@[simp] theorem aVal_eq (m : List D → R D) (ms : List D → R (List AD)) (st : List D) : aVal m ms st = (m st).bind fun d st1 => (ms st1).bind fun xs st2 => .ok (.val d :: xs) st2 := rfl
def adOf : PL → AD
 | .sc d => .val d
 | .pth r p => .lnd r p
@[simp] theorem adOf_sc (d : D) : adOf (.sc d) = .val d := rfl
@[simp] theorem adOf_pth (r : Nat) (p : Pth) : adOf (.pth r p) = .lnd r p := rfl
@[simp] theorem aPth_eq (q : List D → Option PL) (ms : List D → R (List AD)) (st : List D) : aPth q ms st = R.of (q st) fun p => (ms st).bind fun xs st2 => .ok (adOf p :: xs) st2 := by
 unfold aPth R.of
 cases q st with
 | none => rfl
 | some a => cases a <;> rfl
@[simp] theorem mCall_eq (ms : List Md) (F : Fn) (ma : List D → R (List AD)) (st : List D) : mCall ms F ma st = (ma st).bind fun as st1 => callR ms F as st1 := rfl
def FR.k (r : FR) (f : D → List D → R D) (g : Ex → List D → R D) : R D := match r with
 | .ok d outs => f d outs
 | .ex e outs => g e outs
 | .stuck => .stuck
@[simp] theorem FR.k_ok (d : D) (outs : List D) (f : D → List D → R D) (g : Ex → List D → R D) : (FR.ok d outs).k f g = f d outs := rfl
@[simp] theorem FR.k_ex (d : Ex) (outs : List D) (f : D → List D → R D) (g : Ex → List D → R D) : (FR.ex d outs).k f g = g d outs := rfl
@[simp] theorem callR_eq (ms : List Md) (F : Fn) (as : List AD) (st : List D) : callR ms F as st = R.of (takeA ms as st) fun z => R.of (argsOf ms as z.2 z.1) fun args =>
   (F args).k (fun d outs => chk (D.noBorL (d :: outs) = true) (R.of (putA ms as outs z.1) fun st2 => .ok d st2)) (fun e outs => chk (D.noBorL (e.ds ++ outs) = true) (R.of (putA ms as outs z.1) fun st2 => .ex e st2)) := by
 unfold callR R.of chk
 cases takeA ms as st with
 | none => rfl
 | some z =>
   obtain ⟨st1, bs⟩ := z
   simp only
   cases argsOf ms as bs st1 with
   | none => rfl
   | some args =>
     simp only [FR.k]
     cases F args with
     | stuck => rfl
     | ok d outs =>
       simp only
       split
       · cases putA ms as outs st1 <;> rfl
       · rfl
     | ex d outs =>
       simp only
       split
       · cases putA ms as outs st1 <;> rfl
       · rfl
@[simp] theorem takeA_nil (st : List D) : takeA [] [] st = some (st, []) := rfl
@[simp] theorem takeA_bov (d : D) (ms : List Md) (as : List AD) (st : List D) : takeA (.bo :: ms) (.val d :: as) st = obn (takeA ms as st) fun z => some (z.1, d :: z.2) := by
 simp only [takeA, obn]; cases takeA ms as st <;> simp
@[simp] theorem takeA_iov (d : D) (ms : List Md) (as : List AD) (st : List D) : takeA (.io :: ms) (.val d :: as) st = obn (takeA ms as st) fun z => some (z.1, d :: z.2) := by
 simp only [takeA, obn]; cases takeA ms as st <;> simp
@[simp] theorem takeA_fzv (d : D) (ms : List Md) (as : List AD) (st : List D) : takeA (.fz :: ms) (.val d :: as) st = obn (takeA ms as st) fun z => some (z.1, d.frz :: z.2) := by
 simp only [takeA, obn]; cases takeA ms as st <;> simp
@[simp] theorem takeA_iol (r : Nat) (p : Pth) (ms : List Md) (as : List AD) (st : List D) : takeA (.io :: ms) (.lnd r p :: as) st = obn (getS st r p) fun e => obn (takeA ms as (setS st r p .un)) fun z => some (z.1, e :: z.2) := by
 simp only [takeA, obn]
 cases getS st r p with
 | none => rfl
 | some e => simp only; cases takeA ms as (setS st r p .un) <;> rfl
@[simp] theorem takeA_fzl (r : Nat) (p : Pth) (ms : List Md) (as : List AD) (st : List D) : takeA (.fz :: ms) (.lnd r p :: as) st = obn (getS st r p) fun e => obn (takeA ms as (setS st r p e.frz)) fun z => some (z.1, e.frz :: z.2) := by
 simp only [takeA, obn]
 cases getS st r p with
 | none => rfl
 | some e => simp only; cases takeA ms as (setS st r p e.frz) <;> rfl
@[simp] theorem takeA_bol (r : Nat) (p : Pth) (ms : List Md) (as : List AD) (st : List D) : takeA (.bo :: ms) (.lnd r p :: as) st = obn (takeA ms as st) fun z => some (z.1, .un :: z.2) := by
 simp only [takeA, obn]
 cases takeA ms as st <;> rfl
@[simp] theorem argsOf_nil (st : List D) : argsOf [] [] [] st = some [] := rfl
@[simp] theorem argsOf_bov (d b : D) (ms : List Md) (as : List AD) (bs st : List D) : argsOf (.bo :: ms) (.val d :: as) (b :: bs) st = obn (argsOf ms as bs st) fun l => some (b.len :: l) := by
 simp only [argsOf, obn]; cases argsOf ms as bs st <;> rfl
@[simp] theorem argsOf_bo (r : Nat) (p : Pth) (b : D) (ms : List Md) (as : List AD) (bs st : List D) : argsOf (.bo :: ms) (.lnd r p :: as) (b :: bs) st = obn (getS st r p) fun e => obn (argsOf ms as bs st) fun l => some (e.len :: l) := by
 simp only [argsOf, obn]
 cases getS st r p with
 | none => rfl
 | some e => simp only; cases argsOf ms as bs st <;> rfl
@[simp] theorem argsOf_iov (d b : D) (ms : List Md) (as : List AD) (bs st : List D) : argsOf (.io :: ms) (.val d :: as) (b :: bs) st = obn (argsOf ms as bs st) fun l => some (b :: l) := by
 simp only [argsOf, obn]; cases argsOf ms as bs st <;> rfl
@[simp] theorem argsOf_io (r : Nat) (p : Pth) (b : D) (ms : List Md) (as : List AD) (bs st : List D) : argsOf (.io :: ms) (.lnd r p :: as) (b :: bs) st = obn (getS st r p) fun e => obn (argsOf ms as bs st) fun l => some (b :: l) := by
 simp only [argsOf, obn]
 cases getS st r p with
 | none => rfl
 | some e => simp only; cases argsOf ms as bs st <;> rfl
@[simp] theorem argsOf_fz (a : AD) (b : D) (ms : List Md) (as : List AD) (bs st : List D) : argsOf (.fz :: ms) (a :: as) (b :: bs) st = obn (argsOf ms as bs st) fun l => some (b :: l) := by
 simp only [argsOf, obn]; cases argsOf ms as bs st <;> rfl
@[simp] theorem putA_nil (st : List D) : putA [] [] [] st = some st := rfl
@[simp] theorem putA_io (r : Nat) (p : Pth) (ms : List Md) (as : List AD) (o : D) (os st : List D) : putA (.io :: ms) (.lnd r p :: as) (o :: os) st = obn (putA ms as os st) fun st' => chkO ((isUn (getS st' r p) && (D.noOwn o || spS st' r p)) = true) (some (setS st' r p o)) := by
 simp only [putA, obn]
 cases putA ms as os st <;> rfl
@[simp] theorem putA_bo (a : AD) (ms : List Md) (as : List AD) (o : D) (os st : List D) : putA (.bo :: ms) (a :: as) (o :: os) st = putA ms as os st := by
 cases a <;> simp [putA]
@[simp] theorem putA_fz (a : AD) (ms : List Md) (as : List AD) (o : D) (os st : List D) : putA (.fz :: ms) (a :: as) (o :: os) st = putA ms as os st := by
 cases a <;> simp [putA]
@[simp] theorem putA_iov (d : D) (ms : List Md) (as : List AD) (o : D) (os st : List D) : putA (.io :: ms) (.val d :: as) (o :: os) st = putA ms as os st := by
 simp [putA]
@[simp] theorem isUn_un : isUn (some .un) = true := rfl
@[simp] theorem spS0 (st : List D) (r : Nat) (d : D) (h : st[r]? = some d) : spS st r [] = true := by
 unfold spS; rw [h]; simp [spOk]
def appR (st : List D) (d : D) (r : Nat) (p : Pth) (x : D) : R D := match x with
 | .nd (.lst .own) xs => chk (xs.length < 16777216) (.ok .non (setS st r p (.nd (.lst .own) (xs ++ [d]))))
 | _ => .stuck
@[simp] theorem appR_own (st : List D) (d : D) (r : Nat) (p : Pth) (xs : List D) : appR st d r p (.nd (.lst .own) xs) = chk (xs.length < 16777216) (.ok .non (setS st r p (.nd (.lst .own) (xs ++ [d])))) := rfl
def lstK {α : Type} (d : D) (k : R α) : R α := match d with
 | .nd (.lst _) _ => k
 | _ => .stuck
@[simp] theorem lstK_lst {α : Type} (f : Fl) (xs : List D) (k : R α) : lstK (.nd (.lst f) xs) k = k := rfl
def pthK {α : Type} (pl : PL) (f : Nat → Pth → R α) : R α := match pl with
 | .pth r p => f r p
 | .sc _ => .stuck
@[simp] theorem pthK_pth {α : Type} (r : Nat) (p : Pth) (f : Nat → Pth → R α) : pthK (.pth r p) f = f r p := rfl
@[simp] theorem mAppend_eq (qo : List D → Option PL) (mb : List D → R D) (st : List D) : mAppend qo mb st = R.of (qo st) fun pl => pthK pl fun r p => R.of (getS st r p) fun x => lstK x ((mb st).bind fun d st1 => R.of (getS st1 r p) (appR st1 d r p)) := by
 unfold mAppend R.of
 cases qo st with
 | none => rfl
 | some pl =>
   cases pl with
   | sc d => rfl
   | pth r p =>
     simp only [pthK]
     cases getS st r p with
     | none => rfl
     | some x =>
       cases x with
       | nd k xs =>
         cases k with
         | lst f =>
           simp only [lstK]
           congr 1; funext d st1
           cases getS st1 r p with
           | none => rfl
           | some y =>
             cases y with
             | nd k ys =>
               cases k with
               | lst g => cases g <;> rfl
               | _ => rfl
             | _ => rfl
         | _ => rfl
       | _ => rfl
def ixS (st : List D) (d : D) (r : Nat) (p : Pth) (i : Int) (x : D) : Option (List D) := match x with
 | .nd (.lst .own) xs => obn (ixN xs.length i) fun j => some (setS st r p (.nd (.lst .own) (xs.set j d)))
 | _ => none
@[simp] theorem ixS_own (st : List D) (d : D) (r : Nat) (p : Pth) (i : Int) (xs : List D) : ixS st d r p i (.nd (.lst .own) xs) = obn (ixN xs.length i) fun j => some (setS st r p (.nd (.lst .own) (xs.set j d))) := rfl
def ixG (st : List D) (d : D) (a b : PL) : Option (List D) := match a, b with
 | .pth r p, .sc (.int i) => obn (getS st r p) (ixS st d r p i)
 | _, _ => none
@[simp] theorem ixG_pth (st : List D) (d : D) (r : Nat) (p : Pth) (i : Int) : ixG st d (.pth r p) (.sc (.int i)) = obn (getS st r p) (ixS st d r p i) := rfl
@[simp] theorem gIx_eq (qo qi : List D → Option PL) (d : D) (st : List D) : gIx qo qi d st = obn (qo st) fun a => obn (qi st) fun b => ixG st d a b := by
 unfold gIx obn
 cases qo st with
 | none => rfl
 | some a =>
   cases qi st with
   | none => cases a <;> rfl
   | some b =>
     cases a with
     | sc x => rfl
     | pth r p =>
       cases b with
       | pth r' p' => rfl
       | sc x =>
         cases x with
         | int i =>
           simp only [ixG, obn]
           cases getS st r p with
           | none => rfl
           | some y =>
             cases y with
             | nd k xs =>
               cases k with
               | lst f =>
                 cases f with
                 | own => simp only [ixS, obn]; cases ixN xs.length i <;> rfl
                 | _ => rfl
               | _ => rfl
             | _ => rfl
         | _ => rfl
def lisR (st : List D) (r : Nat) (p : Pth) (x : D) : R D := match x with
 | .nd (.lst f) xs => .ok (.nd (.lst .own) (D.setL .fz xs)) (setS st r p (.nd (.lst f) (D.setL .fz xs)))
 | .nd .tup xs => .ok (.nd (.lst .own) (D.setL .fz xs)) (setS st r p (.nd .tup (D.setL .fz xs)))
 | _ => .stuck
@[simp] theorem lisR_lst (st : List D) (r : Nat) (p : Pth) (f : Fl) (xs : List D) : lisR st r p (.nd (.lst f) xs) = .ok (.nd (.lst .own) (D.setL .fz xs)) (setS st r p (.nd (.lst f) (D.setL .fz xs))) := rfl
@[simp] theorem lisR_tup (st : List D) (r : Nat) (p : Pth) (xs : List D) : lisR st r p (.nd .tup xs) = .ok (.nd (.lst .own) (D.setL .fz xs)) (setS st r p (.nd .tup (D.setL .fz xs))) := rfl
@[simp] theorem mListQ_eq (qa : List D → Option PL) (st : List D) : mListQ qa st = R.of (qa st) fun pl => pthK pl fun r p => R.of (getS st r p) (lisR st r p) := by
 unfold mListQ R.of
 cases qa st with
 | none => rfl
 | some pl =>
   cases pl with
   | sc d => rfl
   | pth r p =>
     simp only [pthK]
     cases getS st r p with
     | none => rfl
     | some x => cases x with
       | nd k xs => cases k <;> rfl
       | _ => rfl
def sqD {α : Type} (d : D) (k : List D → R α) : R α := match d with
 | .nd (.lst _) xs => k xs
 | .nd .tup xs => k xs
 | _ => .stuck
@[simp] theorem sqD_lst {α : Type} (f : Fl) (xs : List D) (k : List D → R α) : sqD (.nd (.lst f) xs) k = k xs := rfl
@[simp] theorem sqD_tup {α : Type} (xs : List D) (k : List D → R α) : sqD (.nd .tup xs) k = k xs := rfl
@[simp] theorem mListE_eq (ma : List D → R D) (st : List D) : mListE ma st = (ma st).bind fun d st1 => sqD d fun xs => .ok (.nd (.lst .own) xs) st1 := by
 unfold mListE
 rfl
def int2 {α : Type} (x y : D) (k : Int → Int → R α) : R α := match x, y with
 | .int i, .int j => k i j
 | _, _ => .stuck
@[simp] theorem int2_int {α : Type} (i j : Int) (k : Int → Int → R α) : int2 (.int i) (.int j) k = k i j := rfl
@[simp] theorem mK_eq (d : D) (st : List D) : mK d st = .ok d st := rfl
@[simp] theorem oNo_eq (st : List D) : oNo st = some none := rfl
@[simp] theorem oQ_eq (qa : List D → Option PL) (st : List D) : oQ qa st = obn (qa st) fun p => match p with
   | .sc (.int i) => some (some i)
   | _ => none := by
 unfold oQ obn
 cases qa st with
 | none => rfl
 | some a =>
   cases a with
   | pth r p => rfl
   | sc d => cases d <;> rfl
@[simp] theorem mAdd_eq (ma mb : List D → R D) (st : List D) : mAdd ma mb st = (ma st).bind fun x st1 => (mb st1).bind fun y st2 => mAddR x y st2 := rfl
@[simp] theorem mAddR_lst (f g : Fl) (xs ys st : List D) : mAddR (.nd (.lst f) xs) (.nd (.lst g) ys) st = chk (xs.length + ys.length ≤ sizeLine) (.ok (.nd (.lst .own) (xs ++ ys)) st) := rfl
@[simp] theorem mAddR_tup (xs ys st : List D) : mAddR (.nd .tup xs) (.nd .tup ys) st = chk (xs.length + ys.length ≤ sizeLine ∧ xs ≠ [] ∧ ys ≠ []) (.ok (.nd .tup (xs ++ ys)) st) := rfl
@[simp] theorem mAddR_int (i j : Int) (st : List D) : mAddR (.int i) (.int j) st = .ok (.int (i + j)) st := rfl
@[simp] theorem mAddR_str (x y : Str) (st : List D) : mAddR (.str x) (.str y) st = chk (x.length + y.length ≤ sizeLine) (.ok (.str (x ++ y)) st) := by
 by_cases h : x.length + y.length ≤ sizeLine
 · simp only [mAddR, gAdd, chk, if_pos h]
 · simp only [mAddR, gAdd, chk, if_neg h]
def scrK (st : List D) (d : D) : R D := match d with
 | .scr ns => .ok (.scr ns) st
 | _ => .stuck
@[simp] theorem scrK_scr (st : List D) (ns : List Int) : scrK st (.scr ns) = .ok (.scr ns) st := rfl
@[simp] theorem mScr_eq (i : Nat) (st : List D) : mScr i st = R.of st[i]? (scrK st) := by
 unfold mScr R.of
 cases st[i]? with
 | none => rfl
 | some d => cases d <;> rfl
def slS (st : List D) (lo hi : Option Int) (d : D) : R D := match d with
 | .scr ns => .ok (.nd (.lst .own) ((cutL ns lo hi).map D.int)) st
 | _ => .stuck
@[simp] theorem slS_scr (st : List D) (lo hi : Option Int) (ns : List Int) : slS st lo hi (.scr ns) = .ok (.nd (.lst .own) ((cutL ns lo hi).map D.int)) st := rfl
theorem cutL_map {α β : Type} (f : α → β) (xs : List α) (lo hi : Option Int) : cutL (xs.map f) lo hi = (cutL xs lo hi).map f := by
 simp [cutL, List.map_take, List.map_drop]
@[simp] theorem mSlScr_eq (ma : List D → R D) (ql qh : List D → Option (Option Int)) (st : List D) : mSlScr ma ql qh st = (ma st).bind fun d st1 => R.of (ql st1) fun lo => R.of (qh st1) fun hi => slS st1 lo hi d := by
 unfold mSlScr
 congr 1; funext d st1
 simp only [R.of]
 cases d <;> cases ql st1 <;> cases qh st1 <;> simp [slS, cutL_map]
def ixR (st : List D) (x y : D) : R D := match x, y with
 | .nd (.lst _) xs, .int i => R.of (atI xs i) fun d => .ok d st
 | .nd .tup xs, .int i => R.of (atI xs i) fun d => .ok d st
 | .str z, .int i => chk (z.length ≤ sizeLine) (R.of (atI z.cps.toList i) fun c => .ok (.str ⟨#[c]⟩) st)
 | _, _ => .stuck
@[simp] theorem ixR_lst (st : List D) (f : Fl) (xs : List D) (i : Int) : ixR st (.nd (.lst f) xs) (.int i) = R.of (atI xs i) fun d => .ok d st := rfl
@[simp] theorem ixR_tup (st : List D) (xs : List D) (i : Int) : ixR st (.nd .tup xs) (.int i) = R.of (atI xs i) fun d => .ok d st := rfl
@[simp] theorem ixR_str (st : List D) (z : Str) (i : Int) : ixR st (.str z) (.int i) = chk (z.length ≤ sizeLine) (R.of (atI z.cps.toList i) fun c => .ok (.str ⟨#[c]⟩) st) := rfl
@[simp] theorem mIxE_eq (ma mb : List D → R D) (st : List D) : mIxE ma mb st = (ma st).bind fun x st1 => (mb st1).bind fun y st2 => ixR st2 x y := by
 unfold mIxE
 congr 1; funext x st1; congr 1; funext y st2
 cases x with
 | nd k xs =>
   cases k <;> cases y <;> simp only [ixR, R.of] <;> cases atI xs _ <;> rfl
 | str z =>
   cases y <;> simp only [ixR, R.of, chk]
   split
   · cases atI z.cps.toList _ <;> rfl
   · rfl
 | _ => cases y <;> rfl
def chkS (c : Prop) [Decidable c] (r : RS) : RS := if c then r else .stuck
theorem chkS_of {c : Prop} [Decidable c] {r : RS} (h : c) : chkS c r = r := if_pos h
def zipS (x y : D) (k : List D → List D → RS) : RS := match x, y with
 | .nd (.lst _) xs, .nd (.lst _) ys => chkS (xs.length = ys.length) (k xs ys)
 | .nd .tup xs, .nd .tup ys => chkS (xs.length = ys.length) (k xs ys)
 | _, _ => .stuck
@[simp] theorem zipS_lst (f g : Fl) (xs ys : List D) (k : List D → List D → RS) : zipS (.nd (.lst f) xs) (.nd (.lst g) ys) k = chkS (xs.length = ys.length) (k xs ys) := rfl
@[simp] theorem zipS_tup (xs ys : List D) (k : List D → List D → RS) : zipS (.nd .tup xs) (.nd .tup ys) k = chkS (xs.length = ys.length) (k xs ys) := rfl
@[simp] theorem mForZ_eq (ma mb : List D → R D) (g : MG) (b : MS) (st : List D) : mForZ ma mb g b st = (ma st).s fun x st1 => (mb st1).s fun y st2 => zipS x.frz y.frz fun xs ys => forL g b (zipD xs ys) st2 := rfl
def turn (g : MG) (b : MS) (d : D) (st : List D) : RS := match g d st with
 | some st1 => match b st1 with
   | .ct st2 => .nx st2
   | r => r
 | none => .stuck
def RS.lp (r : RS) (f : List D → RS) : RS := match r with
 | .nx st => f st
 | .ct st => f st
 | .bk st => .nx st
 | r => r
@[simp] theorem lp_nx (st : List D) (f : List D → RS) : (RS.nx st).lp f = f st := rfl
@[simp] theorem lp_ct (st : List D) (f : List D → RS) : (RS.ct st).lp f = f st := rfl
@[simp] theorem lp_bk (st : List D) (f : List D → RS) : (RS.bk st).lp f = .nx st := rfl
@[simp] theorem lp_rt (d : D) (st : List D) (f : List D → RS) : (RS.rt d st).lp f = .rt d st := rfl
@[simp] theorem lp_ex (e : Ex) (st : List D) (f : List D → RS) : (RS.ex e st).lp f = .ex e st := rfl
def tgR (o : Option (List D)) (b : MS) : RS := match o with
 | some st => b st
 | none => .stuck
@[simp] theorem tgR_some (st : List D) (b : MS) : tgR (some st) b = b st := rfl
@[simp] theorem forL_nil (g : MG) (b : MS) (st : List D) : forL g b [] st = .nx st := rfl
theorem forL_cons (g : MG) (b : MS) (x : D) (xs st : List D) : forL g b (x :: xs) st = (tgR (g x st) b).lp (forL g b xs) := by
 simp only [forL, tgR, RS.lp]
 cases g x st with
 | none => rfl
 | some st1 => simp only; cases b st1 <;> rfl
def RS.fr (r : RS) (ms : List Md) : FR := match r with
 | .nx st => .ok .non (outsOf ms st)
 | .rt d st => .ok d (outsOf ms st)
 | .ex e st => .ex e (outsOf ms st)
 | _ => .stuck
@[simp] theorem fr_nx (ms : List Md) (st : List D) : (RS.nx st).fr ms = .ok .non (outsOf ms st) := rfl
@[simp] theorem fr_rt (ms : List Md) (d : D) (st : List D) : (RS.rt d st).fr ms = .ok d (outsOf ms st) := rfl
@[simp] theorem fr_ex (ms : List Md) (e : Ex) (st : List D) : (RS.ex e st).fr ms = .ex e (outsOf ms st) := rfl
theorem runF_eq (ms : List Md) (n : Nat) (m : MS) (args : List D) : runF ms n m args = (m (args ++ List.replicate (n - args.length) .un)).fr ms := by
 unfold runF RS.fr
 cases m (args ++ List.replicate (n - args.length) .un) <;> rfl
@[simp] theorem outsOf_nil (st : List D) : outsOf [] st = [] := by simp [outsOf]
@[simp] theorem outsOf_io (ms : List Md) (d : D) (st : List D) : outsOf (.io :: ms) (d :: st) = d :: outsOf ms st := by simp [outsOf]
@[simp] theorem outsOf_bo (ms : List Md) (d : D) (st : List D) : outsOf (.bo :: ms) (d :: st) = .un :: outsOf ms st := by simp [outsOf]
@[simp] theorem outsOf_fz (ms : List Md) (d : D) (st : List D) : outsOf (.fz :: ms) (d :: st) = .un :: outsOf ms st := by simp [outsOf]
@[simp] theorem set_lst_own (g : Fl) (xs : List D) : D.set g (.nd (.lst .own) xs) = .nd (.lst g) (D.setL g xs) := by simp [D.set, Kd.fl, Kd.with]
@[simp] theorem set_lst_bor (g : Fl) (xs : List D) : D.set g (.nd (.lst .bor) xs) = .nd (.lst .bor) (D.setL g xs) := by simp [D.set, Kd.fl]
@[simp] theorem set_lst_fz (g : Fl) (xs : List D) : D.set g (.nd (.lst .fz) xs) = .nd (.lst .fz) (D.setL g xs) := by simp [D.set, Kd.fl]
@[simp] theorem set_tup (g : Fl) (xs : List D) : D.set g (.nd .tup xs) = .nd .tup (D.setL g xs) := by simp [D.set, Kd.fl]
@[simp] theorem set_int (g : Fl) (i : Int) : D.set g (.int i) = .int i := by simp [D.set]
@[simp] theorem set_bl (g : Fl) (i : Bool) : D.set g (.bl i) = .bl i := by simp [D.set]
@[simp] theorem set_str (g : Fl) (i : Str) : D.set g (.str i) = .str i := by simp [D.set]
@[simp] theorem set_non (g : Fl) : D.set g .non = .non := by simp [D.set]
@[simp] theorem set_un (g : Fl) : D.set g .un = .un := by simp [D.set]
@[simp] theorem set_exc (g : Fl) (c : Str) (w : Option (Str × List Int)) : D.set g (.exc c w) = .exc c w := by simp [D.set]
@[simp] theorem noBor_exc (c : Str) (w : Option (Str × List Int)) : D.noBor (.exc c w) = true := by simp [D.noBor]
@[simp] theorem set_scr (g : Fl) (ns : List Int) : D.set g (.scr ns) = .scr ns := by simp [D.set]
@[simp] theorem setL_nil (g : Fl) : D.setL g [] = [] := by simp [D.setL]
@[simp] theorem setL_cons (g : Fl) (d : D) (r : List D) : D.setL g (d :: r) = D.set g d :: D.setL g r := by simp [D.setL]
@[simp] theorem setL_app (g : Fl) (xs ys : List D) : D.setL g (xs ++ ys) = D.setL g xs ++ D.setL g ys := by simp [D.setL_map]
@[simp] theorem setL_ints (g : Fl) (xs : List Int) : D.setL g (xs.map D.int) = xs.map D.int := by
 rw [D.setL_map, List.map_map]
 exact List.map_congr_left fun x _ => by simp
@[simp] theorem setL_length (g : Fl) (xs : List D) : (D.setL g xs).length = xs.length := by simp [D.setL_map]
@[simp] theorem noBor_int (i : Int) : D.noBor (.int i) = true := by simp [D.noBor]
@[simp] theorem noBor_bl (i : Bool) : D.noBor (.bl i) = true := by simp [D.noBor]
@[simp] theorem noBor_str (i : Str) : D.noBor (.str i) = true := by simp [D.noBor]
@[simp] theorem noBor_non : D.noBor .non = true := by simp [D.noBor]
@[simp] theorem noBor_un : D.noBor .un = true := by simp [D.noBor]
@[simp] theorem noBor_own (xs : List D) : D.noBor (.nd (.lst .own) xs) = D.noBorL xs := by simp [D.noBor, Kd.fl]
@[simp] theorem noBor_fz (xs : List D) : D.noBor (.nd (.lst .fz) xs) = D.noBorL xs := by simp [D.noBor, Kd.fl]
@[simp] theorem noBor_tup (xs : List D) : D.noBor (.nd .tup xs) = D.noBorL xs := by simp [D.noBor, Kd.fl]
@[simp] theorem noBorL_nil : D.noBorL [] = true := by simp [D.noBorL]
@[simp] theorem noBorL_cons (d : D) (r : List D) : D.noBorL (d :: r) = (D.noBor d && D.noBorL r) := by simp [D.noBorL]
@[simp] theorem noBorL_app : ∀ (xs ys : List D), D.noBorL (xs ++ ys) = (D.noBorL xs && D.noBorL ys)
 | [], ys => by simp
 | x :: xs, ys => by simp [noBorL_app xs ys, Bool.and_assoc]
theorem noBorL_all : ∀ (xs : List D), D.noBorL xs = xs.all D.noBor
 | [] => by simp
 | x :: xs => by simp [noBorL_all xs]
@[simp] theorem noBorL_ints (xs : List Int) : D.noBorL (xs.map D.int) = true := by simp [noBorL_all]
theorem ixN_int {n : Nat} {i : Int} (h0 : 0 ≤ i) (h : i < n) : ixN n i = some i.toNat := by
 unfold ixN
 rw [if_pos h0, if_pos h]
theorem ixN_neg {n : Nat} {i : Int} (h0 : i < 0) (h : -(n : Int) ≤ i) : ixN n i = some (i + n).toNat := by
 unfold ixN
 rw [if_neg (by omega), if_pos h]
@[simp] theorem CMul_eq (i j : Int) : CMul i j ↔ ((-18446744073709551616 < i ∧ i < 18446744073709551616) ∨ (-18446744073709551616 < j ∧ j < 18446744073709551616)) := Iff.rfl
@[simp] theorem RgOk_eq (a b : Int) : RgOk a b ↔ (-4611686018427387904 ≤ a ∧ a < 4611686018427387904 ∧ -4611686018427387904 ≤ b ∧ b < 4611686018427387904 ∧ (b - a).toNat ≤ 16777216) := Iff.rfl
theorem log2_ok {n : Nat} (h : n < 10000000000000000000000000000000000000000000000000000000000000000000000) : n.log2 < 9000 := by
 by_cases h0 : n = 0
 · subst h0; decide
 · rw [Nat.log2_lt h0]
   exact Nat.lt_trans h (by decide +kernel)
@[simp] theorem log2_okT {n : Nat} (h : n < 10000000000000000000000000000000000000000000000000000000000000000000000) : (n.log2 < 9000) = True := eq_true (log2_ok h)
def FR.sat (r : FR) (P : D → List D → Prop) : Prop := ∃ d o, r = .ok d o ∧ P d o
theorem seq_cut {m n : MS} {st : List D} {ms : List Md} {P0 : D → List D → Prop} (P : List D → Prop) (h1 : ∃ st1, m st = .nx st1 ∧ P st1) (h2 : ∀ st1, P st1 → ((n st1).fr ms).sat P0) : ((mSeq m n st).fr ms).sat P0 := by
 obtain ⟨st1, e, h⟩ := h1
 rw [mSeq_eq, e, sq_nx]
 exact h2 st1 h
def RS.tn (r : RS) : RS := match r with
 | .ct st => .nx st
 | r => r
@[simp] theorem tn_nx (st : List D) : (RS.nx st).tn = .nx st := rfl
@[simp] theorem tn_ct (st : List D) : (RS.ct st).tn = .nx st := rfl
@[simp] theorem tn_bk (st : List D) : (RS.bk st).tn = .bk st := rfl
@[simp] theorem tn_rt (d : D) (st : List D) : (RS.rt d st).tn = .rt d st := rfl
@[simp] theorem tn_ex (d : Ex) (st : List D) : (RS.ex d st).tn = .ex d st := rfl
end PV
namespace PV
open PySem L2
@[simp] theorem ixN_last (n : Nat) : ixN (n + 1) (-1) = some n := by
 rw [ixN_neg (by decide) (by omega)]
 congr 1
 omega
@[simp] theorem ixN_zero (n : Nat) : ixN (n + 1) 0 = some 0 := by rw [ixN_int (by decide) (by omega)]; rfl
@[simp] theorem ixN_21 : ixN 2 1 = some 1 := rfl
@[simp] theorem ixN_31 : ixN 3 1 = some 1 := rfl
@[simp] theorem ixN_32 : ixN 3 2 = some 2 := rfl
@[simp] theorem ixN_41 : ixN 4 1 = some 1 := rfl
@[simp] theorem ixN_42 : ixN 4 2 = some 2 := rfl
@[simp] theorem ixN_43 : ixN 4 3 = some 3 := rfl
@[simp] theorem set_last {α : Type} (xs : List α) (x y : α) : (xs ++ [x]).set xs.length y = xs ++ [y] := by
 simp [List.set_append_right]
@[simp] theorem set_last_map {α β : Type} (f : α → β) (xs : List α) (x y : β) : (xs.map f ++ [x]).set xs.length y = xs.map f ++ [y] := by
 have := set_last (xs.map f) x y
 rwa [List.length_map] at this
@[simp] theorem get_last {α : Type} (xs : List α) (x : α) : (xs ++ [x])[xs.length]? = some x := by simp
@[simp] theorem get_last_map {α β : Type} (f : α → β) (xs : List α) (x : β) : (xs.map f ++ [x])[xs.length]? = some x := by
 have := get_last (xs.map f) x
 rwa [List.length_map] at this
mutual
def D.ok : D → Nat → Bool
 | .non, _ => true
 | .bl _, _ => true
 | .int _, _ => true
 | .str s, _ => PySem.PyData.strOk s
 | .nd (.lst _) xs, n + 1 => D.okL xs n
 | .nd .tup xs, n + 1 => D.okL xs n
 | _, _ => false
def D.okL : List D → Nat → Bool
 | [], _ => true
 | x :: xs, n => D.ok x n && D.okL xs n
end
mutual
def D.eqv : D → D → Bool
 | .non, .non => true
 | .bl a, .bl b => a == b
 | .bl a, .int j => (if a then 1 else 0) == j
 | .int i, .bl b => i == (if b then 1 else 0)
 | .int i, .int j => i == j
 | .str x, .str y => x == y
 | .nd (.lst _) xs, .nd (.lst _) ys => D.eqvL xs ys
 | .nd .tup xs, .nd .tup ys => D.eqvL xs ys
 | _, _ => false
def D.eqvL : List D → List D → Bool
 | [], [] => true
 | x :: xs, y :: ys => D.eqv x y && D.eqvL xs ys
 | _, _ => false
end
mutual
theorem ok_py : ∀ (x : D) (n : Nat), D.ok x n = true → ∃ p, toPy x = some p ∧ p.canLay0 = true ∧ p.depth ≤ n
 | .non, n, _ => ⟨.none, rfl, rfl, by simp [PyData.depth]⟩
 | .bl b, n, _ => ⟨.bool b, rfl, rfl, by simp [PyData.depth]⟩
 | .int b, n, _ => ⟨.int b, rfl, rfl, by simp [PyData.depth]⟩
 | .str s, n, h => ⟨.str s, rfl, by simpa [D.ok, PyData.canLay0] using h, by simp [PyData.depth]⟩
 | .nd (.lst _) xs, n + 1, h => by
   simp only [D.ok] at h
   obtain ⟨l, e, c, d⟩ := ok_pyL xs n h
   exact ⟨.list l, by simp [toPy, e], by simpa [PyData.canLay0] using c, by simpa [PyData.depth] using d⟩
 | .nd .tup xs, n + 1, h => by
   simp only [D.ok] at h
   obtain ⟨l, e, c, d⟩ := ok_pyL xs n h
   exact ⟨.tuple l, by simp [toPy, e], by simpa [PyData.canLay0] using c, by simpa [PyData.depth] using d⟩
 | .nd (.lst _) xs, 0, h => by simp [D.ok] at h
 | .nd .tup xs, 0, h => by simp [D.ok] at h
 | .nd (.dct _ _) xs, n, h => by simp [D.ok] at h
 | .nd (.ins _ _ _) xs, n, h => by simp [D.ok] at h
 | .nd (.dtp _ _) xs, n, h => by simp [D.ok] at h
 | .un, n, h => by simp [D.ok] at h
 | .scr _, n, h => by simp [D.ok] at h
 | .exc _ _, n, h => by simp [D.ok] at h
theorem ok_pyL : ∀ (xs : List D) (n : Nat), D.okL xs n = true → ∃ l, toPyL xs = some l ∧ PyData.canLayAll0 l = true ∧ PyData.depthAll l ≤ n
 | [], n, _ => ⟨[], rfl, rfl, by simp [PyData.depthAll]⟩
 | x :: xs, n, h => by
   simp only [D.okL, Bool.and_eq_true] at h
   obtain ⟨p, e1, c1, d1⟩ := ok_py x n h.1
   obtain ⟨l, e2, c2, d2⟩ := ok_pyL xs n h.2
   exact ⟨p :: l, by simp [toPyL, e1, e2], by simp [PyData.canLayAll0, c1, c2], by simp only [PyData.depthAll]; omega⟩
end
mutual
theorem eqv_py : ∀ (x y : D) (p q : PyData), toPy x = some p → toPy y = some q → PyData.eqv p q = D.eqv x y
 | .un, _, _, _, hp, _ => by simp [toPy] at hp
 | .scr _, _, _, _, hp, _ => by simp [toPy] at hp
 | .exc _ _, _, _, _, hp, _ => by simp [toPy] at hp
 | .nd (.dct _ _) _, _, _, _, hp, _ => by simp [toPy] at hp
 | .nd (.ins _ _ _) _, _, _, _, hp, _ => by simp [toPy] at hp
 | .nd (.dtp _ _) _, _, _, _, hp, _ => by simp [toPy] at hp
 | .non, y, p, q, hp, hq => by
   simp only [toPy] at hp; cases hp
   cases y with
   | nd k xs => cases k <;> simp only [toPy] at hq <;> first | cases hq | (cases e : toPyL xs <;> rw [e] at hq <;> cases hq; simp [PyData.eqv, D.eqv])
   | _ => simp only [toPy] at hq <;> cases hq <;> simp [PyData.eqv, D.eqv]
 | .bl b, y, p, q, hp, hq => by
   simp only [toPy] at hp; cases hp
   cases y with
   | nd k xs => cases k <;> simp only [toPy] at hq <;> first | cases hq | (cases e : toPyL xs <;> rw [e] at hq <;> cases hq; simp [PyData.eqv, D.eqv])
   | _ => simp only [toPy] at hq <;> cases hq <;> simp [PyData.eqv, D.eqv]
 | .int b, y, p, q, hp, hq => by
   simp only [toPy] at hp; cases hp
   cases y with
   | nd k xs => cases k <;> simp only [toPy] at hq <;> first | cases hq | (cases e : toPyL xs <;> rw [e] at hq <;> cases hq; simp [PyData.eqv, D.eqv])
   | _ => simp only [toPy] at hq <;> cases hq <;> simp [PyData.eqv, D.eqv]
 | .str b, y, p, q, hp, hq => by
   simp only [toPy] at hp; cases hp
   cases y with
   | nd k xs => cases k <;> simp only [toPy] at hq <;> first | cases hq | (cases e : toPyL xs <;> rw [e] at hq <;> cases hq; simp [PyData.eqv, D.eqv])
   | _ => simp only [toPy] at hq <;> cases hq <;> simp [PyData.eqv, D.eqv]
 | .nd (.lst _) xs, y, p, q, hp, hq => by
   simp only [toPy] at hp
   cases e1 : toPyL xs with
   | none => rw [e1] at hp; cases hp
   | some l =>
     rw [e1] at hp; cases hp
     cases y with
     | nd k ys =>
       cases k with
       | lst g =>
         simp only [toPy] at hq
         cases e2 : toPyL ys with
         | none => rw [e2] at hq; cases hq
         | some m =>
           rw [e2] at hq; cases hq
           simp only [PyData.eqv, D.eqv]
           exact eqv_pyL xs ys l m e1 e2
       | tup =>
         simp only [toPy] at hq
         cases e2 : toPyL ys with
         | none => rw [e2] at hq; cases hq
         | some m =>
           rw [e2] at hq; cases hq
           simp [PyData.eqv, D.eqv]
       | dct g ks => simp [toPy] at hq
       | ins g c ns => simp [toPy] at hq
       | dtp g ks => simp [toPy] at hq
     | _ => simp only [toPy] at hq <;> cases hq <;> simp [PyData.eqv, D.eqv]
 | .nd .tup xs, y, p, q, hp, hq => by
   simp only [toPy] at hp
   cases e1 : toPyL xs with
   | none => rw [e1] at hp; cases hp
   | some l =>
     rw [e1] at hp; cases hp
     cases y with
     | nd k ys =>
       cases k with
       | lst g =>
         simp only [toPy] at hq
         cases e2 : toPyL ys with
         | none => rw [e2] at hq; cases hq
         | some m =>
           rw [e2] at hq; cases hq
           simp [PyData.eqv, D.eqv]
       | tup =>
         simp only [toPy] at hq
         cases e2 : toPyL ys with
         | none => rw [e2] at hq; cases hq
         | some m =>
           rw [e2] at hq; cases hq
           simp only [PyData.eqv, D.eqv]
           exact eqv_pyL xs ys l m e1 e2
       | dct g ks => simp [toPy] at hq
       | ins g c ns => simp [toPy] at hq
       | dtp g ks => simp [toPy] at hq
     | _ => simp only [toPy] at hq <;> cases hq <;> simp [PyData.eqv, D.eqv]
theorem eqv_pyL : ∀ (xs ys : List D) (p q : List PyData), toPyL xs = some p → toPyL ys = some q → PyData.eqvAll p q = D.eqvL xs ys
 | [], [], p, q, hp, hq => by simp only [toPyL] at hp hq; cases hp; cases hq; simp [PyData.eqvAll, D.eqvL]
 | x :: xs, y :: ys, p, q, hp, hq => by
   simp only [toPyL] at hp hq
   cases a1 : toPy x <;> cases a2 : toPyL xs <;> rw [a1, a2] at hp <;> simp only at hp <;> cases hp
   cases b1 : toPy y <;> cases b2 : toPyL ys <;> rw [b1, b2] at hq <;> simp only at hq <;> cases hq
   simp only [PyData.eqvAll, D.eqvL]
   rw [eqv_py x y _ _ a1 b1, eqv_pyL xs ys _ _ a2 b2]
 | [], y :: ys, p, q, hp, hq => by
   simp only [toPyL] at hp hq; cases hp
   cases b1 : toPy y <;> cases b2 : toPyL ys <;> rw [b1, b2] at hq <;> simp only at hq <;> cases hq
   simp [PyData.eqvAll, D.eqvL]
 | x :: xs, [], p, q, hp, hq => by
   simp only [toPyL] at hp hq; cases hq
   cases a1 : toPy x <;> cases a2 : toPyL xs <;> rw [a1, a2] at hp <;> simp only at hp <;> cases hp
   simp [PyData.eqvAll, D.eqvL]
end
theorem eqD_ok {x y : D} (hx : D.ok x 60 = true) (hy : D.ok y 60 = true) : eqD x y = some (D.eqv x y) := by
 obtain ⟨p, e1, c1, d1⟩ := ok_py x 60 hx
 obtain ⟨q, e2, c2, d2⟩ := ok_py y 60 hy
 unfold eqD
 rw [e1, e2]
 simp only
 have s1 : SeqAt.shaped p = true := by simp [SeqAt.shaped, c1]; omega
 have s2 : SeqAt.shaped q = true := by simp [SeqAt.shaped, c2]; omega
 have s3 : eqb p q = true := by unfold eqb; rw [s1, s2]; rfl
 rw [if_pos s3]
 simp [eqv_py x y p q e1 e2]
@[simp] theorem ok_non (n : Nat) : D.ok .non n = true := by simp [D.ok]
@[simp] theorem ok_bl (b : Bool) (n : Nat) : D.ok (.bl b) n = true := by simp [D.ok]
@[simp] theorem ok_int (b : Int) (n : Nat) : D.ok (.int b) n = true := by simp [D.ok]
@[simp] theorem ok_str (b : Str) (n : Nat) : D.ok (.str b) n = PySem.PyData.strOk b := by simp [D.ok]
@[simp] theorem ok_lst (f : Fl) (xs : List D) (n : Nat) : D.ok (.nd (.lst f) xs) (n + 1) = D.okL xs n := by simp [D.ok]
@[simp] theorem ok_tup (xs : List D) (n : Nat) : D.ok (.nd .tup xs) (n + 1) = D.okL xs n := by simp [D.ok]
@[simp] theorem okL_nil (n : Nat) : D.okL [] n = true := by simp [D.okL]
@[simp] theorem okL_cons (x : D) (xs : List D) (n : Nat) : D.okL (x :: xs) n = (D.ok x n && D.okL xs n) := by simp [D.okL]
theorem okL_all (n : Nat) : ∀ xs : List D, D.okL xs n = xs.all fun x => D.ok x n
 | [] => by simp
 | x :: xs => by simp [okL_all n xs]
@[simp] theorem okL_app (n : Nat) (xs ys : List D) : D.okL (xs ++ ys) n = (D.okL xs n && D.okL ys n) := by simp [okL_all]
@[simp] theorem okL_ints (n : Nat) (xs : List Int) : D.okL (xs.map D.int) n = true := by simp [okL_all]
@[simp] theorem eqv_int (i j : Int) : D.eqv (.int i) (.int j) = decide (i = j) := by simp only [D.eqv]; by_cases h : i = j <;> simp [h]
@[simp] theorem eqv_lst (f g : Fl) (xs ys : List D) : D.eqv (.nd (.lst f) xs) (.nd (.lst g) ys) = D.eqvL xs ys := by simp only [D.eqv]
@[simp] theorem eqv_tup (xs ys : List D) : D.eqv (.nd .tup xs) (.nd .tup ys) = D.eqvL xs ys := by simp only [D.eqv]
@[simp] theorem eqv_bl (i j : Bool) : D.eqv (.bl i) (.bl j) = (i == j) := by simp only [D.eqv]
@[simp] theorem eqv_str (i j : Str) : D.eqv (.str i) (.str j) = (i == j) := by simp only [D.eqv]
@[simp] theorem eqvL_nil : D.eqvL [] [] = true := by simp only [D.eqvL]
@[simp] theorem eqvL_cons (x y : D) (xs ys : List D) : D.eqvL (x :: xs) (y :: ys) = (D.eqv x y && D.eqvL xs ys) := by simp only [D.eqvL]
@[simp] theorem eqvL_nc (y : D) (ys : List D) : D.eqvL [] (y :: ys) = false := by simp only [D.eqvL]
@[simp] theorem eqvL_cn (y : D) (ys : List D) : D.eqvL (y :: ys) [] = false := by simp only [D.eqvL]
theorem eqvL_map {α : Type} [DecidableEq α] {f g : α → D} (h : ∀ x y, D.eqv (f x) (g y) = decide (x = y)) : ∀ xs ys : List α, D.eqvL (xs.map f) (ys.map g) = decide (xs = ys)
 | [], [] => by simp
 | [], y :: ys => by simp
 | x :: xs, [] => by simp
 | x :: xs, y :: ys => by
   simp only [List.map_cons, eqvL_cons, h, eqvL_map h xs ys, List.cons.injEq]
   by_cases a : x = y <;> simp [a]
@[simp] theorem eqvL_ints (xs ys : List Int) : D.eqvL (xs.map D.int) (ys.map D.int) = decide (xs = ys) := eqvL_map (by simp) xs ys
@[simp] theorem eqD_ints (i j : Int) : eqD (.int i) (.int j) = some (decide (i = j)) := by rw [eqD_ok (by simp) (by simp)]; simp
@[simp] theorem eqD_bls (i j : Bool) : eqD (.bl i) (.bl j) = some (i == j) := by rw [eqD_ok (by simp) (by simp)]; simp
mutual
def D.same : D → D → Bool
 | .non, .non => true
 | .bl a, .bl b => a == b
 | .int i, .int j => i == j
 | .str x, .str y => x == y
 | .nd (.lst _) xs, .nd (.lst _) ys => D.sameL xs ys
 | .nd .tup xs, .nd .tup ys => D.sameL xs ys
 | _, _ => false
def D.sameL : List D → List D → Bool
 | [], [] => true
 | x :: xs, y :: ys => D.same x y && D.sameL xs ys
 | _, _ => false
end
@[simp] theorem same_int (i j : Int) : D.same (.int i) (.int j) = decide (i = j) := by simp only [D.same]; by_cases h : i = j <;> simp [h]
@[simp] theorem same_lst (f g : Fl) (xs ys : List D) : D.same (.nd (.lst f) xs) (.nd (.lst g) ys) = D.sameL xs ys := by simp only [D.same]
@[simp] theorem same_tup (xs ys : List D) : D.same (.nd .tup xs) (.nd .tup ys) = D.sameL xs ys := by simp only [D.same]
@[simp] theorem same_bl (i j : Bool) : D.same (.bl i) (.bl j) = (i == j) := by simp only [D.same]
@[simp] theorem same_str (i j : Str) : D.same (.str i) (.str j) = (i == j) := by simp only [D.same]
@[simp] theorem same_non : D.same .non .non = true := by simp only [D.same]
@[simp] theorem sameL_nil : D.sameL [] [] = true := by simp only [D.sameL]
@[simp] theorem sameL_cons (x y : D) (xs ys : List D) : D.sameL (x :: xs) (y :: ys) = (D.same x y && D.sameL xs ys) := by simp only [D.sameL]
@[simp] theorem sameL_nc (y : D) (ys : List D) : D.sameL [] (y :: ys) = false := by simp only [D.sameL]
@[simp] theorem sameL_cn (y : D) (ys : List D) : D.sameL (y :: ys) [] = false := by simp only [D.sameL]
@[simp] theorem same_nl (f : Fl) (xs : List D) : D.same .non (.nd (.lst f) xs) = false := by simp [D.same]
theorem sameL_map {α : Type} [DecidableEq α] {f g : α → D} (h : ∀ x y, D.same (f x) (g y) = decide (x = y)) : ∀ xs ys : List α, D.sameL (xs.map f) (ys.map g) = decide (xs = ys)
 | [], [] => by simp
 | [], y :: ys => by simp
 | x :: xs, [] => by simp
 | x :: xs, y :: ys => by
   simp only [List.map_cons, sameL_cons, h, sameL_map h xs ys, List.cons.injEq]
   by_cases a : x = y <;> simp [a]
@[simp] theorem sameL_ints (xs ys : List Int) : D.sameL (xs.map D.int) (ys.map D.int) = decide (xs = ys) := sameL_map (by simp) xs ys
@[simp] theorem isi_int_non : isiD "int" .non = some false := by rfl
@[simp] theorem isi_int_bl (b : Bool) : isiD "int" (.bl b) = some true := by rfl
@[simp] theorem isi_int_int (i : Int) : isiD "int" (.int i) = some true := by rfl
@[simp] theorem isi_int_str (z : Str) : isiD "int" (.str z) = some false := by rfl
@[simp] theorem isi_int_lst (f : Fl) (xs : List D) : isiD "int" (.nd (.lst f) xs) = some false := by rfl
@[simp] theorem isi_int_tup (xs : List D) : isiD "int" (.nd .tup xs) = some false := by rfl
@[simp] theorem isi_str_non : isiD "str" .non = some false := by rfl
@[simp] theorem isi_str_bl (b : Bool) : isiD "str" (.bl b) = some false := by rfl
@[simp] theorem isi_str_int (i : Int) : isiD "str" (.int i) = some false := by rfl
@[simp] theorem isi_str_str (z : Str) : isiD "str" (.str z) = some true := by rfl
@[simp] theorem isi_str_lst (f : Fl) (xs : List D) : isiD "str" (.nd (.lst f) xs) = some false := by rfl
@[simp] theorem isi_str_tup (xs : List D) : isiD "str" (.nd .tup xs) = some false := by rfl
@[simp] theorem isi_bool_non : isiD "bool" .non = some false := by rfl
@[simp] theorem isi_bool_bl (b : Bool) : isiD "bool" (.bl b) = some true := by rfl
@[simp] theorem isi_bool_int (i : Int) : isiD "bool" (.int i) = some false := by rfl
@[simp] theorem isi_bool_str (z : Str) : isiD "bool" (.str z) = some false := by rfl
@[simp] theorem isi_bool_lst (f : Fl) (xs : List D) : isiD "bool" (.nd (.lst f) xs) = some false := by rfl
@[simp] theorem isi_bool_tup (xs : List D) : isiD "bool" (.nd .tup xs) = some false := by rfl
@[simp] theorem isi_list_non : isiD "list" .non = some false := by rfl
@[simp] theorem isi_list_bl (b : Bool) : isiD "list" (.bl b) = some false := by rfl
@[simp] theorem isi_list_int (i : Int) : isiD "list" (.int i) = some false := by rfl
@[simp] theorem isi_list_str (z : Str) : isiD "list" (.str z) = some false := by rfl
@[simp] theorem isi_list_lst (f : Fl) (xs : List D) : isiD "list" (.nd (.lst f) xs) = some true := by rfl
@[simp] theorem isi_list_tup (xs : List D) : isiD "list" (.nd .tup xs) = some false := by rfl
@[simp] theorem isi_tuple_non : isiD "tuple" .non = some false := by rfl
@[simp] theorem isi_tuple_bl (b : Bool) : isiD "tuple" (.bl b) = some false := by rfl
@[simp] theorem isi_tuple_int (i : Int) : isiD "tuple" (.int i) = some false := by rfl
@[simp] theorem isi_tuple_str (z : Str) : isiD "tuple" (.str z) = some false := by rfl
@[simp] theorem isi_tuple_lst (f : Fl) (xs : List D) : isiD "tuple" (.nd (.lst f) xs) = some false := by rfl
@[simp] theorem isi_tuple_tup (xs : List D) : isiD "tuple" (.nd .tup xs) = some true := by rfl
@[simp] theorem isNonD_non : isNonD .non = true := rfl
@[simp] theorem isNonD_bl (b : Bool) : isNonD (.bl b) = false := rfl
@[simp] theorem isNonD_int (b : Int) : isNonD (.int b) = false := rfl
@[simp] theorem isNonD_str (b : Str) : isNonD (.str b) = false := rfl
@[simp] theorem isNonD_nd (k : Kd) (xs : List D) : isNonD (.nd k xs) = false := rfl
@[simp] theorem set_dct (g f : Fl) (ks : List Key) (xs : List D) : D.set g (.nd (.dct f ks) xs) = .nd (.dct (if f = .own then g else f) ks) (D.setL g xs) := by cases f <;> simp [D.set, Kd.fl, Kd.with]
@[simp] theorem set_dtp (g f : Fl) (ks : List (List Key)) (xs : List D) : D.set g (.nd (.dtp f ks) xs) = .nd (.dtp (if f = .own then g else f) ks) (D.setL g xs) := by cases f <;> simp [D.set, Kd.fl, Kd.with]
@[simp] theorem set_ins (g f : Fl) (c : Str) (ns : List Str) (xs : List D) : D.set g (.nd (.ins f c ns) xs) = .nd (.ins (if f = .own then g else f) c ns) (D.setL g xs) := by cases f <;> simp [D.set, Kd.fl, Kd.with]
mutual
@[simp] theorem set_after_fz (g : Fl) : ∀ (x : D), D.set g (D.set .fz x) = D.set .fz x
 | .nd (.lst f) xs => by cases f <;> simp [setL_after_fz g xs]
 | .nd .tup xs => by simp [setL_after_fz g xs]
 | .nd (.dct f ks) xs => by cases f <;> simp [setL_after_fz g xs]
 | .nd (.ins f c ns) xs => by cases f <;> simp [setL_after_fz g xs]
 | .nd (.dtp f ks) xs => by cases f <;> simp [setL_after_fz g xs]
 | .non => by simp
 | .un => by simp
 | .bl b => by simp
 | .int b => by simp
 | .str b => by simp
 | .scr b => by simp
 | .exc _ _ => by simp
@[simp] theorem setL_after_fz (g : Fl) : ∀ (xs : List D), D.setL g (D.setL .fz xs) = D.setL .fz xs
 | [] => by simp
 | x :: xs => by simp [set_after_fz g x, setL_after_fz g xs]
end
mutual
@[simp] theorem set_after_bor (g : Fl) : ∀ (x : D), D.set g (D.set .bor x) = D.set .bor x
 | .nd (.lst f) xs => by cases f <;> simp [setL_after_bor g xs]
 | .nd .tup xs => by simp [setL_after_bor g xs]
 | .nd (.dct f ks) xs => by cases f <;> simp [setL_after_bor g xs]
 | .nd (.ins f c ns) xs => by cases f <;> simp [setL_after_bor g xs]
 | .nd (.dtp f ks) xs => by cases f <;> simp [setL_after_bor g xs]
 | .non => by simp
 | .un => by simp
 | .bl b => by simp
 | .int b => by simp
 | .str b => by simp
 | .scr b => by simp
 | .exc _ _ => by simp
@[simp] theorem setL_after_bor (g : Fl) : ∀ (xs : List D), D.setL g (D.setL .bor xs) = D.setL .bor xs
 | [] => by simp
 | x :: xs => by simp [set_after_bor g x, setL_after_bor g xs]
end
mutual
theorem ok_set (g : Fl) : ∀ (x : D) (n : Nat), D.ok (D.set g x) n = D.ok x n
 | .nd (.lst f) xs, 0 => by cases f <;> simp [D.ok]
 | .nd (.lst f) xs, n + 1 => by cases f <;> simp [ok_setL g xs n]
 | .nd .tup xs, 0 => by simp [D.ok]
 | .nd .tup xs, n + 1 => by simp [ok_setL g xs n]
 | .nd (.dct f ks) xs, n => by cases f <;> simp [D.set, Kd.fl, Kd.with, D.ok]
 | .nd (.ins f c ns) xs, n => by cases f <;> simp [D.set, Kd.fl, Kd.with, D.ok]
 | .nd (.dtp f ks) xs, n => by cases f <;> simp [D.set, Kd.fl, Kd.with, D.ok]
 | .non, n => by simp
 | .un, n => by simp
 | .bl b, n => by simp
 | .int b, n => by simp
 | .str b, n => by simp
 | .scr b, n => by simp
 | .exc _ _, n => by simp
theorem ok_setL (g : Fl) : ∀ (xs : List D) (n : Nat), D.okL (D.setL g xs) n = D.okL xs n
 | [], n => by simp
 | x :: xs, n => by simp [ok_set g x n, ok_setL g xs n]
end
mutual
theorem same_set (g g' : Fl) : ∀ (x y : D), D.same (D.set g x) (D.set g' y) = D.same x y
 | .nd (.lst f) xs, .nd (.lst f') ys => by cases f <;> cases f' <;> simp [same_setL g g' xs ys]
 | .nd .tup xs, .nd .tup ys => by simp [same_setL g g' xs ys]
 | .nd (.dct f ks) xs, y => by simp [D.same]
 | .nd (.ins f c ns) xs, y => by simp [D.same]
 | .nd (.dtp f ks) xs, y => by simp [D.same]
 | .nd (.lst f) xs, .nd .tup ys => by cases f <;> simp [D.same]
 | .nd (.lst f) xs, .nd (.dct f' ks) ys => by cases f <;> simp [D.same]
 | .nd (.lst f) xs, .nd (.ins f' c ns) ys => by cases f <;> simp [D.same]
 | .nd (.lst f) xs, .nd (.dtp f' ks) ys => by cases f <;> simp [D.same]
 | .nd (.lst f) xs, .non => by cases f <;> simp [D.same]
 | .nd (.lst f) xs, .un => by cases f <;> simp [D.same]
 | .nd (.lst f) xs, .bl _ => by cases f <;> simp [D.same]
 | .nd (.lst f) xs, .int _ => by cases f <;> simp [D.same]
 | .nd (.lst f) xs, .str _ => by cases f <;> simp [D.same]
 | .nd (.lst f) xs, .scr _ => by cases f <;> simp [D.same]
 | .nd (.lst f) xs, .exc _ _ => by cases f <;> simp [D.same]
 | .nd .tup xs, .nd (.lst f) ys => by cases f <;> simp [D.same]
 | .nd .tup xs, .nd (.dct f' ks) ys => by simp [D.same]
 | .nd .tup xs, .nd (.ins f' c ns) ys => by simp [D.same]
 | .nd .tup xs, .nd (.dtp f' ks) ys => by simp [D.same]
 | .nd .tup xs, .non => by simp [D.same]
 | .nd .tup xs, .un => by simp [D.same]
 | .nd .tup xs, .bl _ => by simp [D.same]
 | .nd .tup xs, .int _ => by simp [D.same]
 | .nd .tup xs, .str _ => by simp [D.same]
 | .nd .tup xs, .scr _ => by simp [D.same]
 | .nd .tup xs, .exc _ _ => by simp [D.same]
 | .non, y => by
   cases y with
   | nd k ys => cases k with
     | lst f => cases f <;> simp [D.same]
     | _ => simp [D.same]
   | _ => simp [D.same]
 | .un, y => by
   cases y with
   | nd k ys => cases k with
     | lst f => cases f <;> simp [D.same]
     | _ => simp [D.same]
   | _ => simp [D.same]
 | .bl b, y => by
   cases y with
   | nd k ys => cases k with
     | lst f => cases f <;> simp [D.same]
     | _ => simp [D.same]
   | _ => simp [D.same]
 | .int b, y => by
   cases y with
   | nd k ys => cases k with
     | lst f => cases f <;> simp [D.same]
     | _ => simp [D.same]
   | int j => simp
   | _ => simp [D.same]
 | .str b, y => by
   cases y with
   | nd k ys => cases k with
     | lst f => cases f <;> simp [D.same]
     | _ => simp [D.same]
   | _ => simp [D.same]
 | .scr b, y => by
   cases y with
   | nd k ys => cases k with
     | lst f => cases f <;> simp [D.same]
     | _ => simp [D.same]
   | _ => simp [D.same]
 | .exc _ _, y => by
   cases y with
   | nd k ys => cases k with
     | lst f => cases f <;> simp [D.same]
     | _ => simp [D.same]
   | _ => simp [D.same]
theorem same_setL (g g' : Fl) : ∀ (xs ys : List D), D.sameL (D.setL g xs) (D.setL g' ys) = D.sameL xs ys
 | [], [] => by simp
 | x :: xs, y :: ys => by simp [same_set g g' x y, same_setL g g' xs ys]
 | [], y :: ys => by simp
 | x :: xs, [] => by simp
end
theorem ok_cases {x : D} {n : Nat} (h : D.ok x n = true) : x = .non ∨ (∃ b, x = .bl b) ∨ (∃ i, x = .int i) ∨ (∃ s, x = .str s ∧ PySem.PyData.strOk s = true) ∨ (∃ f xs m, x = .nd (.lst f) xs ∧ n = m + 1 ∧ D.okL xs m = true) ∨ (∃ xs m, x = .nd .tup xs ∧ n = m + 1 ∧ D.okL xs m = true) := by
 match x, n, h with
 | .non, _, _ => exact .inl rfl
 | .bl b, _, _ => exact .inr (.inl ⟨b, rfl⟩)
 | .int b, _, _ => exact .inr (.inr (.inl ⟨b, rfl⟩))
 | .str b, _, h => exact .inr (.inr (.inr (.inl ⟨b, rfl, by simpa using h⟩)))
 | .nd (.lst f) xs, n + 1, h => exact .inr (.inr (.inr (.inr (.inl ⟨f, xs, n, rfl, rfl, by simpa using h⟩))))
 | .nd .tup xs, n + 1, h => exact .inr (.inr (.inr (.inr (.inr ⟨xs, n, rfl, rfl, by simpa using h⟩))))
 | .nd (.lst f) xs, 0, h => simp [D.ok] at h
 | .nd .tup xs, 0, h => simp [D.ok] at h
 | .nd (.dct _ _) xs, _, h => simp [D.ok] at h
 | .nd (.ins _ _ _) xs, _, h => simp [D.ok] at h
 | .nd (.dtp _ _) xs, _, h => simp [D.ok] at h
 | .un, _, h => simp [D.ok] at h
 | .scr _, _, h => simp [D.ok] at h
 | .exc _ _, _, h => simp [D.ok] at h
theorem plD0_ok {x : D} {n : Nat} (h : D.ok x n = true) (r : Nat) (p : Pth) : plD0 r p x = some (.sc x) ∨ plD0 r p x = some (.pth r p) := by
 rcases ok_cases h with rfl | ⟨b, rfl⟩ | ⟨b, rfl⟩ | ⟨b, rfl, _⟩ | ⟨f, xs, m, rfl, _, _⟩ | ⟨xs, m, rfl, _, _⟩ <;> simp
theorem sameL_len : ∀ {xs ys : List D}, D.sameL xs ys = true → xs.length = ys.length
 | [], [], _ => rfl
 | x :: xs, y :: ys, h => by simp at h; simp [sameL_len h.2]
 | [], y :: ys, h => by simp at h
 | x :: xs, [], h => by simp at h
@[simp] theorem noOwn_un : D.noOwn .un = true := by simp [D.noOwn]
end PV
namespace PV
open PySem L2
section
variable {X : Cx} {C : Cc} {st ds : List D} {σ : L2.St} {vs : List V} {H H' : Hp} {a b e : Expr} {pos pos' p p2 : Pos} {ss : List Stmt} {m : MS} {Dn : Ends}
structure ExcC (X : Cx) (C : Cc) (x : Str) : Prop where
 at_ : ∃ a, C.CA x = some a ∧ X.mg x = some (.ref a) ∧ PySem.W.excIn X.K a [.type "ValueError", .type "Exception", .type "BaseException", .type "object"] "ValueError.__new__" = true ∧ PySem.W.keepIn X.K (.ref a) = true ∧ PySem.W.subIn X.K (.ref a) (.type "BaseException") = some true ∧ PySem.W.typeIn X.K (.ref a) = some (.type "type")
def Hier (K : PySem.W.Frag) (CA : Str → Option Addr) (hi : Str → Str → Option Bool) : Prop := ∀ x y b, hi x y = some b → ∀ a, CA x = some a → ∃ c, CA y = some c ∧ PySem.W.exmOne K (.ref a) (.ref c) = some b
def hdl (hi : Str → Str → Option Bool) (e : Ex) (st : List D) : List (Str × MS) → RS
 | [] => .ex e st
 | (y, m) :: r => match hi e.c y with
   | some true => m st
   | some false => hdl hi e st r
   | none => .stuck
inductive VHs (X : Cx) (C : Cc) : List ExceptHandler → List (Str × MS) → Prop
 | nil : VHs X C [] []
 | cons {x : Str} {b₀ : Stmt} {suite : List Stmt} {np pos' : Pos} {hds : List ExceptHandler} {m : MS} {l : List (Str × MS)} (hg : Gl X x) (hd : (x == ("__debug__" : Str)) = false) (hm : ∃ a, C.CA x = some a ∧ X.mg x = some (.ref a))
     (hb : ∀ (a : Addr) (oe : Obj) (pn : List (Addr × Obj)), VB (X.suite a ((a, oe) :: pn)) C (b₀ :: suite) m) (r : VHs X C hds l) :
     VHs X C (.ExceptHandler (some (.Name x np)) none (b₀ :: suite) pos' :: hds) ((x, m) :: l)
theorem VHs.ok {hds : List ExceptHandler} {l : List (Str × MS)} (h : VHs X C hds l) : ∃ l', HdsOk X hds l' ∧ ∀ (O : COk X C) (hi : Str → Str → Option Bool) (Hi : Hier C.K C.CA hi) (Dn : Ends) (ds : List D) (vs : List V) (hl : ds.length = vs.length) (e : Ex) (st : List D) (cls : Value) (dx : Option Addr) (us : List V) (σ' : L2.St) (H' : Hp),
   rZ C ds vs Dn (hdl hi e st l) → SX C st (ds ++ e.ds) σ' (vs ++ us) H' → ExOk C e cls dx H' us → wMany X.K C.W Dn l' cls dx σ' H' := by
 induction h with
 | nil => exact ⟨[], .nil, fun O hi Hi Dn ds vs hl e st cls dx us σ' H' hr s k => hr σ' cls dx us H' s k⟩
 | @cons x b₀ suite np pos' hds m l hg hd hm hb r ih =>
   obtain ⟨l', h1, h2⟩ := ih
   obtain ⟨a, ca, gm⟩ := hm
   refine ⟨(.ref a, fun _ _ _ => trS C m) :: l', .cons ⟨hg, hd, .inl gm⟩ (fun a' oe cls d pn _ _ => hb a' oe pn) h1, fun O hi Hi Dn ds vs hl e st cls dx us σ' H' hr s k => ?_⟩
   obtain ⟨ae, hae, rfl, kp⟩ := id k
   unfold hdl at hr
   cases q : hi e.c x with
   | none => rw [q] at hr; exact hr.elim
   | some b =>
     rw [q] at hr
     obtain ⟨c, hc, hx⟩ := Hi _ _ _ q ae hae
     rw [ca] at hc; cases hc
     refine ⟨b, by rw [← O.k]; exact hx, fun hb' a' na => ?_, fun hb' => ?_⟩
     · subst hb'
       exact ⟨st, ds, vs, s.drop hl, hl, hr⟩
     · subst hb'
       exact h2 O hi Hi Dn ds vs hl e st _ dx us σ' H' hr s k
theorem SR.setW {Z : Addr → Prop} {os : Ct} {W : WX} (s : SR C Z st ds σ vs H os) : SR { C with W := W } Z st ds σ vs H os := ⟨s.rp, s.nd, s.ln, s.sl, s.kp, s.fr, s.al, s.bb, s.fx⟩
theorem SX.setW {W : WX} (s : SX C st ds σ vs H) : SX { C with W := W } st ds σ vs H := let ⟨Z, os, s⟩ := s; ⟨Z, os, s.setW⟩
theorem SR.getW {Z : Addr → Prop} {os : Ct} {W : WX} (s : SR { C with W := W } Z st ds σ vs H os) : SR C Z st ds σ vs H os := ⟨s.rp, s.nd, s.ln, s.sl, s.kp, s.fr, s.al, s.bb, s.fx⟩
theorem SX.getW {W : WX} (s : SX { C with W := W } st ds σ vs H) : SX C st ds σ vs H := let ⟨Z, os, s⟩ := s; ⟨Z, os, s.getW⟩
def hiOf (t : List (Str × Str × Bool)) (x y : Str) : Option Bool := match t with
 | [] => none
 | (a, b, c) :: r => if a = x ∧ b = y then some c else hiOf r x y
def RS.hd (r : RS) (hi : Str → Str → Option Bool) (hs : List (Str × MS)) : RS := match r with
 | .ex e st => hdl hi e st hs
 | r => r
@[simp] theorem hd_nx (st : List D) (hi : Str → Str → Option Bool) (hs : List (Str × MS)) : (RS.nx st).hd hi hs = .nx st := rfl
@[simp] theorem hd_rt (d : D) (st : List D) (hi : Str → Str → Option Bool) (hs : List (Str × MS)) : (RS.rt d st).hd hi hs = .rt d st := rfl
@[simp] theorem hd_bk (st : List D) (hi : Str → Str → Option Bool) (hs : List (Str × MS)) : (RS.bk st).hd hi hs = .bk st := rfl
@[simp] theorem hd_ct (st : List D) (hi : Str → Str → Option Bool) (hs : List (Str × MS)) : (RS.ct st).hd hi hs = .ct st := rfl
@[simp] theorem hd_ex (e : Ex) (st : List D) (hi : Str → Str → Option Bool) (hs : List (Str × MS)) : (RS.ex e st).hd hi hs = hdl hi e st hs := rfl
@[simp] theorem hdl_nil (hi : Str → Str → Option Bool) (e : Ex) (st : List D) : hdl hi e st [] = .ex e st := rfl
def hdlK (b : Option Bool) (m : MS) (e : Ex) (st : List D) (hi : Str → Str → Option Bool) (r : List (Str × MS)) : RS := match b with
 | some true => m st
 | some false => hdl hi e st r
 | none => .stuck
@[simp] theorem hdl_cons (hi : Str → Str → Option Bool) (e : Ex) (st : List D) (y : Str) (m : MS) (r : List (Str × MS)) : hdl hi e st ((y, m) :: r) = hdlK (hi e.c y) m e st hi r := by
 rw [hdl]
 rfl
@[simp] theorem hdlK_yes (m : MS) (e : Ex) (st : List D) (hi : Str → Str → Option Bool) (r : List (Str × MS)) : hdlK (some true) m e st hi r = m st := rfl
@[simp] theorem hdlK_no (m : MS) (e : Ex) (st : List D) (hi : Str → Str → Option Bool) (r : List (Str × MS)) : hdlK (some false) m e st hi r = hdl hi e st r := rfl
end
end PV
namespace PV
open PySem L2
section
variable {X : Cx} {C : Cc} {st ds : List D} {σ : L2.St} {vs : List V} {H H' : Hp} {a b e : Expr} {pos pos' p p2 : Pos}
theorem SX.mutT {k k' : Kd} {xs xs' new : List D} {ws ws' nw : List V} {a : Addr} {o' : HO} (s : SX C st (ds ++ (.nd k xs :: new)) σ (vs ++ (.ref a :: nw)) H) (hl : ds.length = vs.length) (hf : k.fl = some .own) (hk : HoK C.CA H a ws k)
   (hk' : HoK C.CA (upd H a o') a ws' k') (hf' : k'.fl = some .own)
   (build : ∀ (G : Gd) (ox on : Ct), RpL G xs ws ox → RpL G new nw on → ∃ ox', RpL G xs' ws' ox' ∧ ∀ b, ox' b ≤ ox b + on b) : SX C st (ds ++ [.nd k' xs']) σ (vs ++ [.ref a]) (upd H a o') := by
 have t := s.rot hl
 obtain ⟨Z, os, t⟩ := t
 rw [← List.append_assoc, ← List.append_assoc] at t
 obtain ⟨o1, o2, o3, r1, r2, r3, e⟩ := t.top
 obtain ⟨o4, o5, r4, r5, e'⟩ := RpL.cut hl r2
 cases r3 with
 | nd hk2 rl n =>
   rename_i ws2 ox
   have ew : ws2 = ws := by
     obtain ⟨q1, q2, q3⟩ := hk2.vals
     obtain ⟨q4, q5, q6⟩ := hk.vals
     have q2' : H a = some q1 := q2
     rw [q2'] at q5; cases q5; exact q3.symm.trans q6
   subst ew
   rw [hf] at n
   obtain ⟨nz, nb, on⟩ := n
   have eq : ∀ b, os b = o1 b + o4 b + o5 b + one a b + ox b := fun b => by rw [e, e', on]; omega
   have za : o1 a + o4 a + o5 a + ox a = 0 := by have := t.nd a; rw [eq, one_self] at this; omega
   have keep : ∀ b u, b ≠ a → H b = some u → upd H a o' b = some u := fun b u q z => by rw [upd_ne q]; exact z
   have T : Gd.To (C.G Z H) (C.G Z (upd H a o')) (fun b => o1 b + o4 b + o5 b + ox b) :=
     ⟨rfl, rfl, fun b u q z => keep b u (fun y => by
       subst y
       rcases z with z | z
       · (try dsimp only at z); omega
       · exact z nz) q, fun b u q z => z, fun b q => (t.rp.dom b (by rw [eq]; (try dsimp only at *); omega)).2, fun _ _ _ _ q => q⟩
   obtain ⟨ox', rx', hx'⟩ := build _ _ _ (rl.mono (T.sub fun b q => by (try dsimp only); omega)) (r5.mono (T.sub fun b q => by (try dsimp only); omega))
   have node : Rp (C.G Z (upd H a o')) (.nd k' xs') (.ref a) (fun b => one a b + ox' b) := .nd hk' rx' (by rw [hf']; exact ⟨nz, nb, fun _ => rfl⟩)
   have t2 : SR C Z st (ds ++ [.nd k' xs']) σ (vs ++ [.ref a]) (upd H a o') (fun b => o1 b + o4 b + (one a b + ox' b)) :=
     ⟨(r1.mono (T.sub fun b q => by (try dsimp only); omega)).app (o2 := fun b => o4 b + (one a b + ox' b)) ((r4.mono (T.sub fun b q => by (try dsimp only); omega)).app (RpL.one node) fun _ => rfl) (fun b => by (try dsimp only); omega),
       fun b => by have := t.nd b; rw [eq] at this; have := hx' b; (try dsimp only); omega, t.ln, t.sl, fun b u q z => keep b u (fun y => by
         subst y
         rcases t.fr b nz with w | w
         · omega
         · rw [q] at w; cases w) (t.kp b u q z), t.fr, fun b z => by
           by_cases q : b = a
           · subst q; exact ⟨o', upd_same, hk'.notup hf' upd_same⟩
           · obtain ⟨u, w, w2⟩ := t.al b z; exact ⟨u, keep b u q w, w2⟩, t.bb, t.fx⟩
   exact t2.sx
def wipeD (st : List D) : List Nat → List D
 | [] => st
 | v :: vs => (wipeD st vs).set v .un
theorem wipeD_len (st : List D) : ∀ ws : List Nat, (wipeD st ws).length = st.length
 | [] => rfl
 | v :: ws => by unfold wipeD; rw [List.length_set, wipeD_len st ws]
theorem wipeD_in {st : List D} {i : Nat} : ∀ {ws : List Nat}, i ∈ ws → i < st.length → (wipeD st ws)[i]? = some .un
 | v :: ws, h, hl => by
   unfold wipeD
   by_cases e : v = i
   · subst e
     rw [List.getElem?_set_self (by rw [wipeD_len]; exact hl)]
   · rw [List.getElem?_set_ne e]
     simp at h
     exact wipeD_in (h.resolve_left (Ne.symm e)) hl
theorem wipe_out {σ : L2.St} {i : Nat} : ∀ {ws : List Nat}, i ∉ ws → (wipe σ ws)[i]? = σ[i]?
 | [], _ => rfl
 | v :: ws, h => by
   unfold wipe
   simp at h
   rw [List.getElem?_set_ne (Ne.symm h.1)]
   exact wipe_out h.2
theorem wipe_in {σ : L2.St} {i : Nat} : ∀ {ws : List Nat}, i ∈ ws → i < σ.length → (wipe σ ws)[i]? = some none
 | v :: ws, h, hl => by
   unfold wipe
   by_cases e : v = i
   · subst e
     rw [List.getElem?_set_self (by rw [wipe_length]; exact hl)]
   · rw [List.getElem?_set_ne e]
     simp at h
     exact wipe_in (h.resolve_left (Ne.symm e)) hl
theorem wipe_ext {σ σ2 : L2.St} {ws : List Nat} (hl : σ2.length = σ.length) (h : ∀ i, i ∉ ws → σ2[i]? = σ[i]?) : wipe σ2 ws = wipe σ ws := by
 apply List.ext_getElem?
 intro i
 by_cases q : i ∈ ws
 · by_cases l : i < σ.length
   · rw [wipe_in q l, wipe_in q (by omega)]
   · rw [List.getElem?_eq_none (by rw [wipe_length]; omega), List.getElem?_eq_none (by rw [wipe_length]; omega)]
 · rw [wipe_out q, wipe_out q, h i q]
theorem wipe_set {σ : L2.St} {i : Nat} {v : Option V} {ws : List Nat} (hi : i ∈ ws) : wipe (σ.set i v) ws = wipe σ ws :=
 wipe_ext (by simp) fun j hj => by have e : i ≠ j := fun e => hj (by rw [← e]; exact hi); rw [List.getElem?_set_ne e]
theorem RpL.other {G : Gd} : ∀ {xs : List D} {ws ws' : List V} {os : Ct}, RpL G xs ws os → ws'.length = ws.length → (∀ i : Nat, xs[i]? = some D.un ∨ ws'[i]? = ws[i]?) → RpL G xs ws' os
 | _, _, [], _, .nil h, _, _ => .nil h
 | _, _, [], _, .cons _ _ _, h, _ => by simp at h
 | _, _, w' :: ws', _, .nil _, h, _ => by simp at h
 | d :: xs, w :: ws, w' :: ws', os, .cons r t h, hl, k => by
   refine .cons ?_ (RpL.other t (by simpa using hl) fun i => by simpa using k (i + 1)) h
   rcases k 0 with q | q
   · simp at q; subst q
     cases r with | un z => exact .un z
   · simp at q; subst q; exact r
theorem SX.unSlots (s : SX C st ds σ vs H) : ∀ ws : List Nat, SX C (wipeD st ws) ds σ vs H
 | [] => s
 | _ :: ws => (s.unSlots ws).unSlot
theorem SX.rewipe {σ2 : L2.St} {ws : List Nat} (s : SX C st ds σ2 vs H) (hl : σ.length = σ2.length) (h : ∀ i, i ∉ ws → σ2[i]? = σ[i]?) (hf : ∀ i ∈ ws, C.fx i = none) : SX C (wipeD st ws) ds σ vs H := by
 obtain ⟨Z, os, t⟩ := s.unSlots ws
 obtain ⟨o1, o2, r1, r2, e⟩ := t.cut
 have ln := t.ln
 have key : ∀ i : Nat, (wipeD st ws)[i]? = some D.un ∨ σ[i]? = σ2[i]? := fun i => by
   by_cases q : i ∈ ws
   · by_cases l : i < st.length
     · exact .inl (wipeD_in q l)
     · rw [wipeD_len] at ln
       exact .inr (by rw [List.getElem?_eq_none (by omega), List.getElem?_eq_none (by omega)])
   · exact .inr (h i q).symm
 refine ⟨Z, os, (r1.other (ws' := σ.map gd) (by simp [hl]) fun i => (key i).imp id fun q => by simp [q]).app r2 e, t.nd, by rw [ln, hl], fun i d hd hn => ?_, t.kp, t.fr, t.al, t.bb, fun i v hv => ?_, by rw [hl]; exact t.fx.2⟩
 · rcases key i with q | q
   · rw [hd] at q; cases q; exact absurd rfl hn
   · rw [q]; exact t.sl i d hd hn
 · have q : i ∉ ws := fun z => by rw [hf i z] at hv; cases hv
   rw [← h i q]; exact t.fx.1 i v hv
theorem SX.rewipe1 {σ2 : L2.St} {ws : List Nat} (s : SX C st ds σ2 vs H) (hw : wipe σ2 ws = wipe σ ws) (hf : ∀ i ∈ ws, C.fx i = none) : SX C (wipeD st ws) ds σ vs H :=
 s.rewipe (by have := congrArg List.length hw; rw [wipe_length, wipe_length] at this; exact this.symm) (fun i q => by rw [← wipe_out (σ := σ2) q, hw, wipe_out q]) hf
theorem SX.towipe {ws : List Nat} (s : SX C st ds σ vs H) (hf : ∀ i ∈ ws, C.fx i = none) : SX C (wipeD st ws) ds (wipe σ ws) vs H :=
 s.rewipe (wipe_length σ ws) (fun i q => (wipe_out q).symm) hf
def trGo (C : Cc) (ws : List Nat) (g : MG) : TG := fun v σ H Q => ∃ st ds vs d, SX C st (ds ++ [d]) σ (vs ++ [v]) H ∧ ds.length = vs.length ∧ match g d st with
 | some st' => ∀ σ' H', wipe σ' ws = wipe σ ws → SX C st' ds σ' vs H' → Q σ' H'
 | none => False
def VGo (X : Cx) (C : Cc) (ws : List Nat) (t : Expr) (g : MG) : Prop := PG X t (trGo C ws g)
theorem vgo_name {ws : List Nat} {i : Nat} {x : Str} {p : Pos} (hN : X.N.Nodup) (hw : i ∈ ws) (hfx : C.fx i = none) (hi : X.N[i]? = some x := by rfl) (hx : Loc X.env.scope x := by first | exact Or.inl rfl | exact Or.inr rfl) (hf : X.fn x = true ∨ X.env.scope.names.lookup x = some .local := by first | exact .inl rfl | exact .inr rfl | assumption) : VGo X C ws (.Name x p) (gNm i) := by
 refine (pg_name hN hi hx hf).impV ?_
 rintro v σ H Q ⟨st, ds, vs, d, s, hl, h⟩
 unfold gNm at h
 split at h
 · rename_i st' e
   split at e
   · rename_i hlt
     simp at e; subst e
     exact h _ H (wipe_set hw) (s.toSlot hlt hfx)
   · cases e
 · exact h.elim
def VTs (X : Cx) (C : Cc) (ifs : List Expr) (m : List D → R Bool) : Prop := PTs X ifs (trT C m)
def mYes : List D → R Bool := fun st => .ok true st
theorem vts_nil : VTs X C [] mYes := ⟨fun pins s σ H Q I ⟨st, ds, vs, q, hl, h⟩ => pts_nil.run pins s σ H Q I (h H q)⟩
def lcT (ws : List Nat) (g : MG) (mt : List D → R Bool) (me : List D → R D) (x : D) (st : List D) : R (Option D) := match g x (wipeD st ws) with
 | some st1 => (mt st1).bind fun b st2 => if b = true then (me st2).bind fun y st3 => .ok (some y) (wipeD st3 ws) else .ok none (wipeD st2 ws)
 | none => .stuck
def lcL (T : D → List D → R (Option D)) : List D → List D → List D → R (List D)
 | [], acc, st => .ok acc st
 | x :: r, acc, st => match T x st with
   | .ok (some y) st' => if acc.length < sizeLine then lcL T r (acc ++ [y]) st' else .stuck
   | .ok none st' => lcL T r acc st'
   | _ => .stuck
def lcE : R (List D) → R D
 | .ok acc st => .ok (.nd (.lst .own) acc) st
 | _ => .stuck
def LcP (C : Cc) (T : D → List D → R (Option D)) (ds ls : List D) (σ : L2.St) (vs lv : List V) (Da : Addr) (accE stE xs : List D) (H : Hp) : Prop :=
 ∃ st acc, SX C st (ds ++ ls ++ [.nd (.lst .own) acc]) σ (vs ++ lv ++ [.ref Da]) H ∧ lcL T xs acc st = .ok accE stE
theorem COk.noX (O : COk X C) : COk X { C with W := fun _ _ _ _ => False } := ⟨O.k, fun u s' ⟨a, B, sI, pins, σ, H, cls, d, e, I, nb, up, sky, na, os, ag, w⟩ => w.elim⟩
abbrev Cc.noX (C : Cc) : Cc := { C with W := fun _ _ _ _ => False }
theorem lc_step {ws : List Nat} {g : MG} {mt : List D → R Bool} {me : List D → R D} {se : Bool} {ls : List D} {lv : List V} {Da : Addr} {accE stE r acc : List D} {x : D} {w : V} (hf : ∀ i ∈ ws, C.fx i = none) (hl : ds.length = vs.length) (hll : ls.length = lv.length)
   (s : SX C st (ds ++ [.nd (.lst .own) acc] ++ ls ++ [x]) σ (vs ++ [.ref Da] ++ lv ++ [w]) H) (h : lcL (lcT ws g mt me) (x :: r) acc st = .ok accE stE) :
   trGo C.noX ws g w (wipe σ ws) H fun σ2 H2 => wipe σ2 ws = wipe σ ws ∧ trT C.noX mt σ2 H2 fun b H3 =>
     if b = true then trE C.noX se me σ2 H3 fun y H4 => ∃ acc, H4 Da = some (.lst acc) ∧ acc.length < sizeLine ∧ LcP C (lcT ws g mt me) ds ls σ vs lv Da accE stE r (upd H4 Da (.lst (acc ++ [y]))) else LcP C (lcT ws g mt me) ds ls σ vs lv Da accE stE r H3 := by
 refine ⟨wipeD st ws, ds ++ [.nd (.lst .own) acc] ++ ls, vs ++ [.ref Da] ++ lv, x, (s.towipe hf).setW, by simp [hl, hll], ?_⟩
 simp only [lcL] at h
 cases qT : lcT ws g mt me x st with
 | stuck => rw [qT] at h; cases h
 | ex _ _ => rw [qT] at h; cases h
 | ok o st' =>
   rw [qT] at h
   unfold lcT at qT
   cases qg : g x (wipeD st ws) with
   | none => rw [qg] at qT; cases qT
   | some st1 =>
     rw [qg] at qT
     simp only at qT
     intro σ2 H2 hw s2
     have hw2 : wipe σ2 ws = wipe σ ws := hw.trans (wipe_ext (wipe_length σ ws) fun i q => wipe_out q)
     refine ⟨hw2, st1, _, _, s2, by simp [hl, hll], ?_⟩
     cases qt : mt st1 with
     | stuck => rw [qt] at qT; cases qT
     | ex _ _ => rw [qt] at qT; cases qT
     | ok b st2 =>
       rw [qt] at qT
       simp only [R.bind_ok] at qT
       intro H3 s3
       cases b with
       | false =>
         simp only [Bool.false_eq_true, if_false] at qT ⊢
         cases qT
         refine ⟨wipeD st2 ws, acc, ?_, h⟩
         have s4 := (s3.getW.rewipe1 hw2 hf)
         have s5 := SX.rot (x := .nd (.lst .own) acc) (v := .ref Da) (B := ls) (vB := lv) (by simpa [List.append_assoc] using s4) hl
         simpa [List.append_assoc] using s5
       | true =>
         simp only [if_true] at qT ⊢
         refine ⟨st2, _, _, s3, by simp [hl, hll], ?_⟩
         cases qe : me st2 with
         | stuck => rw [qe] at qT; cases qT
         | ex _ _ => rw [qe] at qT; cases qT
         | ok y st3 =>
           rw [qe] at qT
           simp only [R.bind_ok] at qT
           cases qT
           intro v H4 _ s4
           have s5 := s4.getW.rewipe1 hw2 hf
           have s6 := SX.rot (x := .nd (.lst .own) acc) (v := .ref Da) (B := ls ++ [y]) (vB := lv ++ [v]) (by simpa [List.append_assoc] using s5) hl
           have s7 := SX.rot (ds := ds ++ ls) (vs := vs ++ lv) (x := y) (v := v) (B := [.nd (.lst .own) acc]) (vB := [.ref Da]) (by simpa [List.append_assoc] using s6) (by simp [hl, hll])
           have s8 : SX C (wipeD st3 ws) ((ds ++ ls) ++ (.nd (.lst .own) acc :: [y])) σ ((vs ++ lv) ++ (.ref Da :: [v])) H4 := by simpa [List.append_assoc] using s7
           have s9 : SX C (wipeD st3 ws) ((ds ++ ls) ++ [.nd (.lst .own) acc]) σ ((vs ++ lv) ++ [.ref Da]) H4 := SX.drop (ds' := [y]) (vs' := [v]) (by simpa [List.append_assoc] using s8) (by simp [hl, hll])
           obtain ⟨a', us, Z, os, e', hk, rl⟩ := s9.ndTop
           cases e'
           have hk1 : H4 Da = some (.lst us) := hk
           simp only at h
           split at h
           · rename_i hz
             refine ⟨us, hk1, by rw [← rl.len]; exact hz, wipeD st3 ws, acc ++ [y], ?_, h⟩
             exact s8.mutT (k' := .lst .own) (xs' := acc ++ [y]) (ws' := us ++ [v]) (by simp [hl, hll]) rfl hk1 (show (upd H4 Da (.lst (us ++ [v]))) Da = some (.lst (us ++ [v])) from upd_same) rfl fun G ox on r1 r2 => ⟨fun b => ox b + on b, r1.app r2 fun _ => rfl, fun _ => Nat.le_refl _⟩
           · cases h
end
end PV
namespace PV
open PySem L2
section
variable {X : Cx} {C : Cc} {st ds : List D} {σ : L2.St} {vs : List V} {H H' : Hp} {a b e elt tg iter : Expr} {pos pos' spos p p2 py : Pos} {ma mb : List D → R D} {sa sb se : Bool} {ws : List Nat} {g : MG} {mt : List D → R Bool} {me : List D → R D} {ifs : List Expr} {scope : Scope} {own : List (Str × Nat)}
theorem rg_red (hf : ∀ i ∈ ws, C.fx i = none) {i j : Int} {Q : VK} {H0 : Hp} (hl : ds.length = vs.length) (s : SX C st ds σ vs H) (h : rE C false ds vs σ H0 Q (lcE (lcL (lcT ws g mt me) (rangeD i j) [] st))) {Da : Addr} (hD : H Da = none) :
   ∃ W : Nat → Nat → Hp → Prop, (∃ m, W 0 m (upd H Da (.lst []))) ∧ ∀ k m H, W k m H →
     ((Itr i (j - i).toNat).stop k H ∧ Q (.ref Da) H) ∨ ((Itr i (j - i).toNat).go k H ∧ ∃ Nx : Hp → Prop, (∀ H', Nx H' → ∃ m', m' < m ∧ W (k + 1) m' H') ∧ ∀ x H', (Itr i (j - i).toNat).yld k H x H' → trGo C.noX ws g x (wipe σ ws) H' fun σ2 H2 => wipe σ2 ws = wipe σ ws ∧ trT C.noX mt σ2 H2 fun b H3 =>
       if b = true then trE C.noX se me σ2 H3 fun y H4 => ∃ acc, H4 Da = some (.lst acc) ∧ acc.length < sizeLine ∧ Nx (upd H4 Da (.lst (acc ++ [y]))) else Nx H3) := by
 cases qL : lcL (lcT ws g mt me) (rangeD i j) [] st with
 | stuck => rw [qL] at h; exact h.elim
 | ex _ _ => rw [qL] at h; exact h.elim
 | ok accE stE =>
   rw [qL] at h
   have h : rE C false ds vs σ H0 Q (.ok (.nd (.lst .own) accE) stE) := h
   have s3 : SX C st (ds ++ [.nd (.lst .own) []]) σ (vs ++ [.ref Da]) (upd H Da (.lst [])) :=
     SX.alloc (xs := []) (ws := []) (by simpa using s) hl hD (show (upd H Da (.lst [])) Da = some (.lst []) from upd_same) (.inr rfl)
   refine lc_range (lo := i) (n := (j - i).toNat) (fun k H => LcP C (lcT ws g mt me) ds [] σ vs [] Da accE stE ((rangeD i j).drop k) H) ⟨st, [], by simpa using s3, by simpa using qL⟩ (fun k H hk p => ?_) (fun H p => ?_)
   · obtain ⟨st', acc, s4, h4⟩ := p
     have hk' : k < (rangeD i j).length := by rw [rangeD_len]; exact hk
     have hx : (rangeD i j)[k] = .int (i + (k : Nat)) := by
       have := rangeD_get hk
       rw [List.getElem?_eq_getElem hk'] at this
       exact Option.some.inj this
     rw [List.drop_eq_getElem_cons hk', hx] at h4
     exact lc_step (ls := []) (lv := []) hf hl rfl (by simpa using s4.pushc (d := .int (i + (k : Nat))) rfl) h4
   · obtain ⟨st', acc, s4, h4⟩ := p
     rw [← rangeD_len i j, List.drop_length] at h4
     simp only [lcL] at h4
     cases h4
     exact h _ _ (fun z => by cases z) (by simpa using s4)
def mLcR (ma mb : List D → R D) (ws : List Nat) (g : MG) (mt : List D → R Bool) (me : List D → R D) : List D → R D := fun st => (ma st).bind fun x st1 => (mb st1).bind fun y st2 => match x, y with
 | .int i, .int j => if -(2 ^ 62) ≤ i ∧ i < 2 ^ 62 ∧ -(2 ^ 62) ≤ j ∧ j < 2 ^ 62 then lcE (lcL (lcT ws g mt me) (rangeD i j) [] st2) else .stuck
 | _, _ => .stuck
def mLcR1 (ma : List D → R D) (ws : List Nat) (g : MG) (mt : List D → R Bool) (me : List D → R D) : List D → R D := mLcR (mK (.int 0)) ma ws g mt me
structure Blk (X : Cx) (C : Cc) (scope : Scope) (own : List (Str × Nat)) (tg elt : Expr) (ifs : List Expr) (g : MG) (mt : List D → R Bool) (se : Bool) (me : List D → R D) : Prop where
 ok : blkC X.N X.env.scope scope own = true
 hg : ∀ (s : Shared) (H : Hp) (c : Addr) (cl : List (Str × Addr)) (fp : List Addr), COk (X.blk s H scope (compEnvC scope cl c X.env) fp) C.noX → VGo (X.blk s H scope (compEnvC scope cl c X.env) fp) C.noX (own.map (·.2)) tg g
 ht : ∀ (s : Shared) (H : Hp) (c : Addr) (cl : List (Str × Addr)) (fp : List Addr), COk (X.blk s H scope (compEnvC scope cl c X.env) fp) C.noX → VTs (X.blk s H scope (compEnvC scope cl c X.env) fp) C.noX ifs mt
 he : ∀ (s : Shared) (H : Hp) (c : Addr) (cl : List (Str × Addr)) (fp : List Addr), COk (X.blk s H scope (compEnvC scope cl c X.env) fp) C.noX → VE (X.blk s H scope (compEnvC scope cl c X.env) fp) C.noX se elt me
theorem blkC_by {N Nn : List Str} {sc scn scope : Scope} {own : List (Str × Nat)} (h1 : N = Nn) (h2 : sc = scn) (h : blkC Nn scn scope own = true) : blkC N sc scope own = true := by rw [h1, h2]; exact h
theorem fxs_nil {fx : Nat → Option V} : ∀ i ∈ ([] : List Nat), fx i = none := fun i h => by simp at h
theorem fxs_cons {fx : Nat → Option V} {i : Nat} {l : List Nat} (h : fx i = none) (t : ∀ j ∈ l, fx j = none) : ∀ j ∈ i :: l, fx j = none := fun j hj => by
 rcases List.mem_cons.mp hj with rfl | hj
 · exact h
 · exact t j hj
theorem COk.blk (O : COk X C) {s : Shared} {H : Hp} {scope : Scope} {ce : Env} {fp : List Addr} : COk (X.blk s H scope ce fp) C.noX := ⟨O.k, fun u s' ⟨a, B, sI, pins, σ, H, cls, d, e, I, nb, up, sky, na, os, ag, w⟩ => w.elim⟩
theorem lcR1_red (hf : ∀ i ∈ ws, C.fx i = none) : ∀ σ H Q, trE C false (mLcR1 ma ws g mt me) σ H Q → tLc (iRng1 (tCons (trE C sa ma) tNil)) (trGo C.noX ws g) (trT C.noX mt) (trE C.noX se me) ws σ H Q := by
 rintro σ H Q ⟨st, ds, vs, s, hl, h⟩
 show trE C sa ma σ H _
 unfold mLcR1 mLcR mK at h
 simp only [R.bind_ok] at h
 refine seq1 (sm := false) s hl h fun y st2 u H2 _ s2 h1 => ?_
 cases y with
 | int j =>
   simp only at h1
   split at h1
   · rename_i hz
     have e2 : u = .int j := s2.scTop rfl
     subst e2
     refine ⟨j, rfl, hz.2.2.1, hz.2.2.2, fun Da hD => ?_⟩
     have := rg_red (se := se) hf hl s2.pop h1 hD
     rw [Int.sub_zero] at this
     exact this
   · exact h1.elim
 | _ => exact h1.elim
theorem ve_lcR1 (O : COk X C) (hc : X.calm = true) (hN : X.N.Nodup) (hf : ∀ i ∈ own.map (·.2), C.fx i = none) (ha : VE X C sa a ma) (B : Blk X C scope own tg elt ifs g mt se me) (hgr : Gl X "range") (hm : X.mg "range" = none)
   (hs1 : starEach [a] X.env = [(false, eval a X.env)] := by rfl) (hs : ∀ x, foldedSetIterable (.Call (.Name "range" p) [a] [] pos') X.env x = pure x := by intro _; rfl) :
   VE X C false (.ListComp elt [⟨tg, .Call (.Name "range" p) [a] [] pos', ifs, 0⟩] scope pos) (mLcR1 ma (own.map (·.2)) g mt me) :=
 (pe_lc hc hN (pi_range1 hgr hm (pa_cons ha pa_nil hs1) hs1) (blkOk_by B.ok) (fun s H c cl fp => B.hg s H c cl fp O.blk) (fun s H c cl fp => B.ht s H c cl fp O.blk) (fun s H c cl fp => B.he s H c cl fp O.blk) hs).impV (lcR1_red hf)
theorem vs_setLcR1 {i : Nat} {y : Str} (O : COk X C) (hc : X.calm = true) (hN : X.N.Nodup) (hf : ∀ i ∈ own.map (·.2), C.fx i = none) (ha : VE X C sa a ma) (B : Blk X C scope own tg elt ifs g mt se me) (hfx : C.fx i = none) (hgr : Gl X "range") (hm : X.mg "range" = none)
   (hy : X.N[i]? = some y := by rfl) (hyl : X.env.scope.names.lookup y = some .local := by rfl)
   (hk : X.env.scope.kind = .function := by rfl) (hline : (py.line == pos.line) = true := by rfl) (hany : (scope.names.any fun (n, k) => n == y && (k == .local || k == .cell)) = false := by rfl)
   (hs1 : starEach [a] X.env = [(false, eval a X.env)] := by rfl) (hs : ∀ x, foldedSetIterable (.Call (.Name "range" p) [a] [] pos') X.env x = pure x := by intro _; rfl) :
   VS X C (.Assign [.Name y py] (.ListComp elt [⟨tg, .Call (.Name "range" p) [a] [] pos', ifs, 0⟩] scope pos) spos) (mAsg (mLcR1 ma (own.map (·.2)) g mt me) (gNm i)) :=
 (ps_setLc hc hN hy hyl (sw_true hk hyl hline hany) (pi_range1 hgr hm (pa_cons ha pa_nil hs1) hs1) (blkOk_by B.ok) (fun s H c cl fp => B.hg s H c cl fp O.blk) (fun s H c cl fp => B.ht s H c cl fp O.blk) (fun s H c cl fp => B.he s H c cl fp O.blk) hs).impV (asg_red hfx (lcR1_red hf))
end
@[simp] theorem mYes_eq (st : List D) : mYes st = .ok true st := rfl
@[simp] theorem wipeD_nil (st : List D) : wipeD st [] = st := rfl
@[simp] theorem wipeD_cons (st : List D) (v : Nat) (vs : List Nat) : wipeD st (v :: vs) = (wipeD st vs).set v .un := rfl
@[simp] theorem lcE_ok (acc st : List D) : lcE (.ok acc st) = .ok (.nd (.lst .own) acc) st := rfl
def lcB (ws : List Nat) (me : List D → R D) (b : Bool) (st2 : List D) : R (Option D) := if b = true then (me st2).bind fun y st3 => .ok (some y) (wipeD st3 ws) else .ok none (wipeD st2 ws)
@[simp] theorem lcB_true (ws : List Nat) (me : List D → R D) (st2 : List D) : lcB ws me true st2 = (me st2).bind fun y st3 => .ok (some y) (wipeD st3 ws) := rfl
@[simp] theorem lcB_false (ws : List Nat) (me : List D → R D) (st2 : List D) : lcB ws me false st2 = .ok none (wipeD st2 ws) := rfl
@[simp] theorem lcT_eq (ws : List Nat) (g : MG) (mt : List D → R Bool) (me : List D → R D) (x : D) (st : List D) : lcT ws g mt me x st = R.of (g x (wipeD st ws)) fun st1 => (mt st1).bind fun b st2 => lcB ws me b st2 := by
 unfold lcT R.of
 cases g x (wipeD st ws) <;> rfl
@[simp] theorem mLcR_eq (ma mb : List D → R D) (ws : List Nat) (g : MG) (mt : List D → R Bool) (me : List D → R D) (st : List D) : mLcR ma mb ws g mt me st = (ma st).bind fun x st1 => (mb st1).bind fun y st2 => int2 x y fun i j => chk (-4611686018427387904 ≤ i ∧ i < 4611686018427387904 ∧ -4611686018427387904 ≤ j ∧ j < 4611686018427387904) (lcE (lcL (lcT ws g mt me) (rangeD i j) [] st2)) := rfl
@[simp] theorem mLcR1_eq (ma : List D → R D) (ws : List Nat) (g : MG) (mt : List D → R Bool) (me : List D → R D) (st : List D) : mLcR1 ma ws g mt me st = (ma st).bind fun y st2 => int2 (.int 0) y fun i j => chk (-4611686018427387904 ≤ i ∧ i < 4611686018427387904 ∧ -4611686018427387904 ≤ j ∧ j < 4611686018427387904) (lcE (lcL (lcT ws g mt me) (rangeD i j) [] st2)) := rfl
theorem lcL_pure {α : Type} {T : D → List D → R (Option D)} {f : α → D} (h : α → Option D) {st : List D} : ∀ (xs : List α) (acc : List D), acc.length + xs.length ≤ 16777216 → (∀ x ∈ xs, T (f x) st = .ok (h x) st) → lcL T (xs.map f) acc st = .ok (acc ++ xs.filterMap h) st
 | [], acc, _, _ => by simp [lcL]
 | x :: xs, acc, hl, k => by
   have k1 := k x (by simp)
   simp at hl
   simp only [List.map_cons, lcL, k1]
   cases q : h x with
   | none =>
     simp only
     rw [lcL_pure h xs acc (by omega) fun y hy => k y (by simp [hy])]
     simp [q]
   | some y =>
     have : acc.length < sizeLine := by show acc.length < 16777216; omega
     simp only [if_pos this]
     rw [lcL_pure h xs (acc ++ [y]) (by simp; omega) fun y hy => k y (by simp [hy])]
     simp [q]
theorem lcL_inv {α : Type} {T : D → List D → R (Option D)} {f : α → D} (P : List α → List α → List D → List D → Prop)
   (h : ∀ pre x post acc st, P pre (x :: post) acc st → ∃ o st', T (f x) st = .ok o st' ∧ acc.length < 16777216 ∧ P (pre ++ [x]) post (acc ++ o.toList) st') : ∀ (xs pre : List α) (acc st : List D), P pre xs acc st → ∃ acc' st', lcL T (xs.map f) acc st = .ok acc' st' ∧ P (pre ++ xs) [] acc' st'
 | [], pre, acc, st, p => ⟨acc, st, by simp [lcL], by simpa using p⟩
 | x :: xs, pre, acc, st, p => by
   obtain ⟨o, st1, e, hz, p1⟩ := h pre x xs acc st p
   obtain ⟨acc', st', e', p'⟩ := lcL_inv P h xs (pre ++ [x]) (acc ++ o.toList) st1 p1
   refine ⟨acc', st', ?_, by simpa using p'⟩
   simp only [List.map_cons, lcL, e]
   have hz : acc.length < sizeLine := hz
   cases o with
   | none => simpa using e'
   | some y => simp only [if_pos hz]; simpa using e'
end PV
namespace PV.Long
open PySem
open Sem (wp)
section
variable {prog : Program} {w : World} {A : Around} {E : Value → Shared → Prop} {s : Shared}
theorem extend {R : Result → Shared → Prop} {r : Addr} {a b c : Int} {t u v : Tok} {n : Nat} (hh : A.handled = none) (hr : IsRange s.heap r a b c t u v) (hbig : Builtin.Range.small a b c = false)
   (hn : Builtin.Range.rangeSize a b c = n) (hlen : n ≤ 2 ^ 24) (S : Addr) (res : Value) (c₀ : Nat) (hS : s.heap.get? S = some { cls := .type "list", data := .seq #[] c₀ })
   (hR : ∀ h' tk acc' c', (∀ b o, b ≠ S → s.heap.get? b = some o → h'.get? b = some o) → h'.get? S = some { cls := .type "list", dict := none, data := .seq acc' c', slots := #[] } →
     ItemsOf (fun i v => ∃ t, v = .int (a + i * c) t) acc' n → R (.ok (.ret res)) { s with heap := h', toks := tk }) :
   wpAny (model prog w) A.in1 (Builtin.List.listExtendWith (.ref S) (.ref r) res)
     (fun fin s' => match fin with | .done f => R (.ok f) s' | .again c' => c'.quiet = true ∧ codeAny (model prog w) A c' R s') (fun e s' => R (.error e) s') s := by
 have hSr : S ≠ r := fun e => by rw [e, hr] at hS; simp at hS
 have hSlt : S < s.heap.objs.size := Heap.lt_size hS
 have hSI : S ≠ s.heap.objs.size := Nat.ne_of_lt hSlt
 have hSf : S ∉ [s.heap.objs.size] := fun hm => hSI (List.mem_singleton.mp hm)
 have W := (Walks.longrange (prog := prog) (w := w) (A := A.in1) hh s.heap.objs.size a c n).toS
 have key : ∀ (h : Heap) (c₁ tk : Nat), IsLongIter h s.heap.objs.size (a + ((0 : Nat) : Int) * c) ((n : Int) - ((0 : Nat) : Int)) c → (∀ b o, b ≠ S → s.heap.get? b = some o → h.get? b = some o) →
     h.get? S = some { cls := .type "list", data := .seq #[] c₁ } → codeAny (model prog w) A (.builtin "list.extend.loop" ⟨[.ref S, .ref s.heap.objs.size, res], []⟩) R { s with heap := h, toks := tk } := by
   intro h c₁ tk hit hk hS₁
   refine codeAny_extend_loopS W (by rw [sizeLine_eq]; omega) S hSf res n 0 _ #[] c₁ rfl (Nat.zero_le _) hit hS₁ (ItemsOf.nil _) fun s' acc' c' hm hS' hacc => ?_
   rw [Moved.eq_with hm]
   refine hR s'.heap s'.toks acc' c' (fun b o hb e => hm.heap b o (fun hmem => ?_) (hk b o hb e)) hS' hacc
   rcases List.mem_cons.mp hmem with e' | hmem
   · exact hb e'
   · exact absurd (Heap.lt_size e) (by rw [List.mem_singleton.mp hmem]; exact Nat.lt_irrefl _)
 unfold Builtin.List.listExtendWith
 refine wpAny_bind (wpAny_typeOf (T := "range") ⟨_, hr, rfl⟩ ?_)
 have h1 : Builtin.List.listSameRef (.ref S) (.ref r) = false := by simp [Builtin.List.listSameRef, hSr]
 have h2 : (Value.type "range" == Value.type "list") = false := by decide
 have h3 : (Value.type "range" == Value.type "tuple") = false := by decide
 simp only [h1, h2, h3, Bool.or_false, Bool.false_eq_true, if_false]
 refine wpAny_bind (wpAny_pyIter_longrange hr hbig ?_)
 refine wpAny_bind (wpAny_holding (wpAny_hint_range (n := n) (Heap.get?_push_of_some _ hr) hn hlen ?_))
 have hit₁ : IsLongIter (s.heap.push { cls := .type "longrange_iterator", data := .fields #[rawInt a, rawInt (Builtin.Range.rangeSize a b c), rawInt c] }) s.heap.objs.size (a + ((0 : Nat) : Int) * c) ((n : Int) - ((0 : Nat) : Int)) c := by
   show IsLongIter _ _ _ _ _; rw [hn]; simpa using Heap.get?_push_size _ rfl
 have hS₁ := Heap.get?_push_of_some { cls := .type "longrange_iterator", data := .fields #[rawInt a, rawInt (Builtin.Range.rangeSize a b c), rawInt c] } hS
 refine wpAny_ite_split (fun _ => ?_) (fun _ => wpAny_pure ⟨plainId_quiet F.plain_extend_loop _, key _ c₀ _ hit₁ (fun b o _ e => Heap.get?_push_of_some _ e) hS₁⟩)
 refine wpAny_bind (wpAny_rule ?_)
 refine wpAny_bind ?_
 show wpAny _ _ (updateSeq S (·.push .none) >>= fun _ => updateSeq S (·.pop)) _ _ _
 refine wpAny_bind (wpAny_updateSeq hS₁ rfl ?_)
 have hS₂ := Heap.get?_update_self (Obj.mapSeq (·.push Value.none)) hS₁ rfl
 refine wpAny_updateSeq (hz := by seq_fits) hS₂ rfl ?_
 have hS₃ := Heap.get?_update_self (Obj.mapSeq (·.pop)) hS₂ rfl
 refine wpAny_pure ⟨plainId_quiet F.plain_extend_loop _, key _ _ _ ?_ (fun b o hb e => ?_) hS₃⟩
 · exact (Heap.get?_update_other _ _ hSI).trans ((Heap.get?_update_other _ _ hSI).trans hit₁)
 · exact (Heap.get?_update_other _ _ (Ne.symm hb)).trans ((Heap.get?_update_other _ _ (Ne.symm hb)).trans (Heap.get?_push_of_some _ e))
theorem init {R : Result → Shared → Prop} {r : Addr} {a b c : Int} {t u v : Tok} {n : Nat} (hh : A.handled = none) (hr : IsRange s.heap r a b c t u v) (hbig : Builtin.Range.small a b c = false)
   (hn : Builtin.Range.rangeSize a b c = n) (hlen : n ≤ 2 ^ 24) (S : Addr) (hS : s.heap.get? S = some { cls := .type "list", data := .seq #[] })
   (hR : ∀ h' tk acc' c', (∀ b o, b ≠ S → s.heap.get? b = some o → h'.get? b = some o) → h'.get? S = some { cls := .type "list", dict := none, data := .seq acc' c', slots := #[] } →
     ItemsOf (fun i v => ∃ t, v = .int (a + i * c) t) acc' n → R (.ok (.ret .none)) { s with heap := h', toks := tk }) :
   wpAny (model prog w) A.in1 (Builtin.«list.__init__» ⟨[.ref S, .ref r], []⟩)
     (fun fin s' => match fin with | .done f => R (.ok f) s' | .again c' => c'.quiet = true ∧ codeAny (model prog w) A c' R s') (fun e s' => R (.error e) s') s := by
 have hSr : S ≠ r := fun e => by rw [e, hr] at hS; simp at hS
 show wpAny _ _ (do let old ← Builtin.List.listItems (.ref S); Builtin.List.listUpdate (.ref S) (fun _ => #[]); letGo old.toList.reverse; Builtin.List.listExtendWith (.ref S) (.ref r) .none) _ _ s
 refine wpAny_bind ?_
 unfold Builtin.List.listItems
 refine wpAny_bind (wpAny_seqItems hS rfl (wpAny_pure ?_))
 show wpAny _ _ (updateSeq S (fun _ => #[]) >>= fun _ => letGo (#[] : Array Value).toList.reverse >>= fun _ => Builtin.List.listExtendWith (.ref S) (.ref r) .none) _ _ s
 refine wpAny_bind (wpAny_updateSeq hS rfl ?_)
 have hS₂ := Heap.get?_update_self (Obj.mapSeq (fun _ => (#[] : Array Value))) hS rfl
 have oth : ∀ b o, b ≠ S → s.heap.get? b = some o → (s.heap.update S (Obj.mapSeq (fun _ => (#[] : Array Value)))).get? b = some o :=
   fun b o hb e => (Heap.get?_update_other _ _ (Ne.symm hb)).trans e
 refine wpAny_bind (wpAny_letGo ?_)
 refine extend hh (oth r _ (Ne.symm hSr) hr) hbig hn hlen S .none _ hS₂ fun h' tk acc' c' hk hS' hacc => ?_
 exact hR h' tk acc' c' (fun b o hb e => hk b o hb (oth b o hb e)) hS' hacc
theorem list {Q : Value → Shared → Prop} {r : Addr} {a b c : Int} {t u v : Tok} {n : Nat} (hh : A.handled = none) (hr : IsRange s.heap r a b c t u v)
   (hn : Builtin.Range.rangeSize a b c = n) (hlen : n ≤ 2 ^ 24)
   (hQ : ∀ h' tk acc' c', (∀ b o, s.heap.get? b = some o → h'.get? b = some o) →
     h'.get? s.heap.objs.size = some { cls := .type "list", dict := none, data := .seq acc' c', slots := #[] } → ItemsOf (fun i v => ∃ t, v = .int (a + i * c) t) acc' n → Q (.ref s.heap.objs.size) { s with heap := h', toks := tk }) :
   wpAny (model prog w) A (call (.type "list") [.ref r]) Q E s := by
 cases hb : Builtin.Range.small a b c with
 | true => exact call_list_range hh hr hb hn hlen hQ
 | false =>
   refine callType_codes (Q₁ := fun obj s₁ => obj = .ref s.heap.objs.size ∧ s₁ = { s with heap := s.heap.push { cls := .type "list", data := .seq #[] } }) F.called_list (F.typeCall_list_1 _) F.entry_list_init
     (code_list_new _ ⟨rfl, rfl⟩) fun obj s₁ h₁ => ?_
   obtain ⟨rfl, rfl⟩ := h₁
   have hS : (s.heap.push { cls := .type "list", data := .seq #[] }).get? s.heap.objs.size = some { cls := .type "list", data := .seq #[] } := Heap.get?_push_size _ rfl
   refine ⟨⟨_, hS, rfl⟩, F.args_list_init_2 _ _, init (A := A.in1) hh (Heap.get?_push_of_some _ hr) hb hn hlen _ hS fun h' tk acc' c' hk hS' hacc => ?_⟩
   exact ⟨rfl, hQ h' tk acc' c' (fun b o e => hk b o (Nat.ne_of_lt (Heap.lt_size e)) (Heap.get?_push_of_some _ e)) hS' hacc⟩
end
end PV.Long
namespace PV
open PySem L2 PySem.Spec PyProof.Rows
section
variable {X : Cx} {C : Cc} {st ds : List D} {σ : L2.St} {vs : List V} {H H' : Hp} {a b e : Expr} {te : L2.St → Hp → (Int → Int → Hp → Prop) → Prop} {ma mb : List D → R D} {sa sb : Bool} {p pos : Pos}
end
end PV
namespace PV
open PySem L2
section
variable {X : Cx} {C : Cc} {st ds : List D} {σ : L2.St} {vs : List V} {H H' : Hp} {a b e : Expr} {es : List Expr} {pos pos' p p2 px py pt : Pos} {ma mb : List D → R D} {sa sb : Bool} {qa qb : List D → Option PL}
def intsD : List D → Option (List Int)
 | [] => some []
 | .int i :: r => match intsD r with
   | some l => some (i :: l)
   | none => none
 | _ => none
theorem intsD_eq : ∀ {xs : List D} {ns : List Int}, intsD xs = some ns → xs = ns.map D.int
 | [], ns, h => by simp [intsD] at h; subst h; rfl
 | .int i :: r, ns, h => by
   simp only [intsD] at h
   cases q : intsD r with
   | none => rw [q] at h; simp at h
   | some l => rw [q] at h; simp at h; subst h; simp [intsD_eq q]
 | .un :: r, ns, h => by simp [intsD] at h
 | .non :: r, ns, h => by simp [intsD] at h
 | .bl _ :: r, ns, h => by simp [intsD] at h
 | .str _ :: r, ns, h => by simp [intsD] at h
 | .scr _ :: r, ns, h => by simp [intsD] at h
 | .exc _ _ :: r, ns, h => by simp [intsD] at h
 | .nd _ _ :: r, ns, h => by simp [intsD] at h
@[simp] theorem intsD_map : ∀ ns : List Int, intsD (ns.map D.int) = some ns
 | [] => rfl
 | n :: ns => by simp [intsD, intsD_map ns]
theorem rpl_ints {G : Gd} : ∀ {ns : List Int} {ws : List V} {os : Ct}, RpL G (ns.map D.int) ws os → ws = ns.map V.int
 | [], _, _, .nil _ => rfl
 | n :: ns, _, _, .cons r t _ => by cases r; simp [rpl_ints t]
theorem ints_rpl {G : Gd} : ∀ (ns : List Int), RpL G (ns.map D.int) (ns.map V.int) fun _ => 0
 | [] => .nil fun _ => rfl
 | n :: ns => .cons (o1 := fun _ => 0) (o2 := fun _ => 0) (.int fun _ => rfl) (ints_rpl ns) fun _ => rfl
end
end PV
namespace PV
open PySem L2 PySem.Spec PyProof.Rows
section
variable {X : Cx} {CX : CXT} {k : Nat} {f C0 : Addr} {fd : FuncData} {ps : List Str} {sp : Sp} {E : L2.St → XK} {x m : Str} {p pos apos : Pos} {e o : Expr} {es : List Expr} {ta : TE} {t : TA}
end
section
variable {X : Cx} {C : Cc} {st ds : List D} {σ : L2.St} {vs : List V} {H H' : Hp} {a b e o : Expr} {es : List Expr} {pos apos p : Pos} {ma : List D → R D} {sa sb : Bool} {qo : List D → Option PL}
variable {k : Nat} {f : Addr} {fd : FuncData} {ps : List Str} {x m c : Str} {ms : List Md} {F : Fn} {am : List D → R (List AD)}
end
end PV
namespace PV
open PySem L2
section
variable {X : Cx} {C : Cc} {st ds : List D} {σ : L2.St} {vs : List V} {H H' : Hp} {a b e o : Expr} {es : List Expr} {pos apos p : Pos} {ma : List D → R D} {sa sb : Bool} {qo : List D → Option PL}
variable {k : Nat} {f : Addr} {fd : FuncData} {ps : List Str} {x m c : Str} {ms : List Md} {F : Fn} {am : List D → R (List AD)} {ns : List Str}
end
@[simp] theorem noBor_insOwn (c : Str) (ns : List Str) (xs : List D) : D.noBor (.nd (.ins .own c ns) xs) = D.noBorL xs := by simp [D.noBor, Kd.fl]
@[simp] theorem noBor_insFz (c : Str) (ns : List Str) (xs : List D) : D.noBor (.nd (.ins .fz c ns) xs) = D.noBorL xs := by simp [D.noBor, Kd.fl]
@[simp] theorem noBor_dctOwn (ks : List Key) (xs : List D) : D.noBor (.nd (.dct .own ks) xs) = D.noBorL xs := by simp [D.noBor, Kd.fl]
@[simp] theorem noBor_dctFz (ks : List Key) (xs : List D) : D.noBor (.nd (.dct .fz ks) xs) = D.noBorL xs := by simp [D.noBor, Kd.fl]
def spAt (p : Pth) : Option D → Bool
 | some x => spOk x p
 | none => false
@[simp] theorem spAt_some (p : Pth) (x : D) : spAt p (some x) = spOk x p := rfl
@[simp] theorem spS_eq (st : List D) (r : Nat) (j : Nat) (p : Pth) : spS st r (j :: p) = spAt (j :: p) st[r]? := by
 unfold spS spAt
 cases st[r]? <;> rfl
@[simp] theorem spOk_nil (d : D) : spOk d [] = true := by cases d <;> rfl
@[simp] theorem spOk_lst (xs : List D) (j : Nat) (p : Pth) : spOk (.nd (.lst .own) xs) (j :: p) = spAt p xs[j]? := by
 unfold spAt
 simp only [spOk]
 cases xs[j]? <;> rfl
@[simp] theorem spOk_tup (xs : List D) (j : Nat) (p : Pth) : spOk (.nd .tup xs) (j :: p) = spAt p xs[j]? := by
 unfold spAt
 simp only [spOk]
 cases xs[j]? <;> rfl
@[simp] theorem spOk_ins (c : Str) (ns : List Str) (xs : List D) (j : Nat) (p : Pth) : spOk (.nd (.ins .own c ns) xs) (j :: p) = spAt p xs[j]? := by
 unfold spAt
 simp only [spOk]
 cases xs[j]? <;> rfl
end PV
namespace PV
open PySem L2
section
variable {X : Cx} {C : Cc} {st ds : List D} {σ : L2.St} {vs : List V} {H H' : Hp} {a b e tg elt : Expr} {pos p pos' spos py : Pos} {ma : List D → R D} {sa se : Bool} {ss : List Stmt} {m : MS} {Dn : Ends} {ws : List Nat} {mt : List D → R Bool} {me : List D → R D} {ifs : List Expr} {scope : Scope} {own : List (Str × Nat)}
end
end PV
namespace PV
open PySem L2
section
variable {X : Cx} {C : Cc} {st ds : List D} {σ : L2.St} {vs : List V} {H H' : Hp} {a b e tg elt : Expr} {pos p pos' spos py : Pos} {ma mb : List D → R D} {sa sb se : Bool} {ss : List Stmt} {m : MS} {ws : List Nat} {mt : List D → R Bool} {me : List D → R D} {ifs : List Expr} {scope : Scope} {own : List (Str × Nat)}
end
end PV
namespace PV
open PySem L2
section
variable {X : Cx} {C : Cc} {st ds : List D} {σ : L2.St} {vs : List V} {H H' : Hp} {a b e i o : Expr} {es : List Expr} {pos pos' p p2 px py pt apos : Pos} {ma mb : List D → R D} {sa sb : Bool} {qa qb qo : List D → Option PL}
end
end PV
namespace PV
open PySem L2
section
variable {X : Cx} {C : Cc} {st ds : List D} {σ : L2.St} {vs : List V} {H H' : Hp} {a b e o tg elt iter : Expr} {pos p pos' p2 spos py apos : Pos} {ma mb : List D → R D} {sa sb se : Bool} {ss : List Stmt} {m : MS} {ws : List Nat} {g : MG} {mt : List D → R Bool} {me : List D → R D} {ifs : List Expr} {scope : Scope} {own : List (Str × Nat)} {Dn : Ends} {qa qb qo : List D → Option PL}
def JoinOk (a : Str) (l : List Str) : Prop := (l.map (·.length)).sum + l.length * a.length ≤ 16777216
instance (a : Str) (l : List Str) : Decidable (JoinOk a l) := by unfold JoinOk; infer_instance
end
end PV
namespace PV
open PySem L2
section
variable {X : Cx} {C : Cc} {st ds : List D} {σ : L2.St} {vs : List V} {H H' : Hp} {a b e o tg : Expr} {es : List Expr} {pos p apos : Pos} {qa qb qo : List D → Option PL} {ma mb : List D → R D} {sa sb : Bool} {ss : List Stmt} {m : MS} {Dn : Ends}
end
end PV
namespace PV
open PySem L2
section
variable {X : Cx} {C : Cc} {st ds : List D} {σ : L2.St} {vs : List V} {H H' : Hp} {a b e o i tg value : Expr} {es : List Expr} {pos p apos pos' : Pos} {qa qb qo qi : List D → Option PL} {ma mb : List D → R D} {sa sb : Bool} {ss : List Stmt} {m : MS} {Dn : Ends}
end
end PV
namespace PV
open PySem L2
section
variable {X : Cx} {C : Cc} {st ds : List D} {σ : L2.St} {vs : List V} {H H' : Hp} {a b e o i tg value : Expr} {es : List Expr} {pos p apos pos' p1 p2 p3 : Pos} {qa qb qo qi : List D → Option PL} {ma mb : List D → R D} {sa sb : Bool} {ss : List Stmt} {m : MS} {Dn : Ends}
end
end PV
namespace PV
open PySem L2
section
variable {X : Cx} {C : Cc} {st ds : List D} {σ : L2.St} {vs : List V} {H H' : Hp} {a b e o i tg value : Expr} {es : List Expr} {pos p apos pos' p1 p2 p3 : Pos} {qa qb qo qi : List D → Option PL} {ma mb : List D → R D} {sa sb : Bool} {ss : List Stmt} {m : MS} {Dn : Ends}
end
end PV
namespace L2
open PySem PySem.Spec
end L2
namespace PV
open PySem L2
def onlyS (n q : Nat) (d : D) : List D := (List.replicate n D.un).set q d
structure Gr where
 H0 : Hp
 os0 : Ct
 B : Addr → Prop
def Cc.on (C : Cc) (g : Gr) : Cc := ⟨C.K, C.CA, g.H0, g.os0, g.B, C.W, C.fx, C.n⟩
theorem rp_uns' {G : Gd} : ∀ {n : Nat} {ws : List V}, ws.length = n → RpL G (List.replicate n .un) ws (fun _ => 0)
 | 0, [], _ => .nil fun _ => rfl
 | n + 1, w :: ws, h => .cons (o1 := fun _ => 0) (.un fun _ => rfl) (rp_uns' (by simpa using h)) fun b => by simp
 | 0, _ :: _, h => by simp at h
 | n + 1, [], h => by simp at h
section
variable {C : Cc} {Z Z' : Addr → Prop} {st ds : List D} {σ : L2.St} {vs : List V} {H H' : Hp} {os os' : Ct}
theorem SX.only {q : Nat} {dq : D} (s : SX C st ds σ vs H) (hl : ds.length = vs.length) (hq : st[q]? = some dq) (hu : dq ≠ .un) : ∃ g : Gr, SX (C.on g) (onlyS st.length q dq) [] σ [] H ∧
   ∀ (st1 ds1 : List D) (vs1 : List V) (H1 : Hp) (d1 : D), SX (C.on g) st1 ds1 σ vs1 H1 → st1[q]? = some d1 → D.noBorL (d1 :: ds1) = true →
     SX C (st.set q d1) (ds ++ ds1) σ (vs ++ vs1) H1 ∧ ∀ (r : Nat) (p : Pth) (u : V) (e : D), r ≠ q → getS st r p = some e → HPs H σ r p u → HPs H1 σ r p u := by
 classical
 obtain ⟨Z, os, s⟩ := s
 obtain ⟨o1, o2, r1, r2, e⟩ := s.cut
 obtain ⟨w, od, orr, hw, rd, hod, kset⟩ := r1.at hq
 have rest : RpL (C.G Z H) (st.set q .un) (σ.map gd) orr := by
   have := kset .un w (fun _ => 0) orr (.un fun _ => rfl) fun b => by simp
   rw [list_set_same hw] at this
   exact this
 have tot : ∀ b, os b = od b + (orr b + o2 b) := fun b => by rw [e, hod]; omega
 have zd : ∀ b, 0 < od b → Z b ∧ ¬ C.B b := fun b h => ⟨(s.rp.dom b (by rw [tot]; omega)).2.1, (s.rp.dom b (by rw [tot]; omega)).2.2⟩
 have za : ∀ b, 0 < orr b + o2 b → Z b ∧ ¬ C.B b := fun b h => ⟨(s.rp.dom b (by rw [tot]; omega)).2.1, (s.rp.dom b (by rw [tot]; omega)).2.2⟩
 have one1 : ∀ b, od b + (orr b + o2 b) ≤ 1 := fun b => by have := s.nd b; rw [tot] at this; exact this
 have hB : ∀ b, C.B b → ¬ Z b := fun b hb hz => by
   obtain ⟨⟨o, h1⟩, h2⟩ := s.bb b hb
   rcases s.fr b hz with h3 | h3
   · omega
   · rw [h1] at h3; cases h3
 let g : Gr := ⟨H, fun a => if Z a ∧ orr a + o2 a = 0 then 1 else 0, fun a => C.B a ∨ 0 < orr a + o2 a⟩
 have g0 : ∀ a, g.os0 a = 0 ↔ ¬ (Z a ∧ orr a + o2 a = 0) := fun a => by
   show (if Z a ∧ orr a + o2 a = 0 then 1 else 0) = 0 ↔ _
   by_cases c : Z a ∧ orr a + o2 a = 0
   · rw [if_pos c]; exact ⟨fun h => by omega, fun h => absurd c h⟩
   · rw [if_neg c]; exact ⟨fun _ => c, fun _ => rfl⟩
 have hsl : st.length = (σ.map gd).length := by simpa using s.ln
 have hql : q < st.length := (List.getElem?_eq_some_iff.mp hq).1
 obtain ⟨vq, hvq⟩ := s.sl q dq hq hu
 refine ⟨g, ⟨fun a => Z a ∧ orr a + o2 a = 0, od, ?_, ?_, ?_, ?_, ?_, ?_, ?_, ?_, s.fx⟩, ?_⟩
 · have t : Gd.To (C.G Z H) ((C.on g).G (fun a => Z a ∧ orr a + o2 a = 0) H) od := ⟨rfl, rfl, fun b o q _ => q, fun b o _ z y => z y.1, fun b h => ⟨⟨(zd b h).1, by have := one1 b; omega⟩, fun y => y.elim (zd b h).2 fun y => by have := one1 b; omega⟩, fun b o _ z y w => w.elim y fun w => z (za b w).1⟩
   have ru : RpL ((C.on g).G (fun a => Z a ∧ orr a + o2 a = 0) H) (List.replicate st.length .un) (σ.map gd) (fun _ => 0) := rp_uns' hsl.symm
   obtain ⟨w', od', orr', hw', rd', hod', kset'⟩ := ru.at (j := q) (d := .un) (by rw [List.getElem?_replicate, if_pos hql])
   rw [hw] at hw'; cases hw'
   have := kset' dq w od od (rd.mono t) fun b => by have := hod' b; omega
   rw [list_set_same hw] at this
   rw [List.append_nil, List.append_nil]
   exact this
 · intro b; have := one1 b; omega
 · unfold onlyS; simp [s.ln]
 · intro i d hi hd
   unfold onlyS at hi
   by_cases c : i = q
   · subst c; exact ⟨vq, hvq⟩
   · rw [List.getElem?_set_ne (Ne.symm c), List.getElem?_replicate] at hi
     split at hi
     · cases hi; exact absurd rfl hd
     · cases hi
 · intro a o h _; exact h
 · intro a ha
   left
   exact Nat.pos_of_ne_zero fun h => (g0 a).mp h ha
 · intro a ha; exact s.al a ha.1
 · rintro a (ha | ha)
   · obtain ⟨⟨o, h1⟩, h2⟩ := s.bb a ha
     exact ⟨⟨o, s.kp a o h1 h2⟩, (g0 a).mpr fun y => hB a ha y.1⟩
   · obtain ⟨⟨o, h1⟩, _⟩ := s.rp.dom a (by rw [tot]; omega)
     exact ⟨⟨o, h1⟩, (g0 a).mpr fun y => by omega⟩
 · rintro st1 ds1 vs1 H1 d1 ⟨Z1, os1, s1⟩ hd1 nb
   have kp1 : ∀ a o, H a = some o → ¬ (Z a ∧ orr a + o2 a = 0) → H1 a = some o := fun a o h c => s1.kp a o h ((g0 a).mpr c)
   have fr1 : ∀ a, Z1 a → (Z a ∧ orr a + o2 a = 0) ∨ H a = none := fun a h => by
     rcases s1.fr a h with y | y
     · left
       by_cases c : Z a ∧ orr a + o2 a = 0
       · exact c
       · have := (g0 a).mpr c
         have y : 0 < g.os0 a := y
         omega
     · exact .inr y
   have T : Gd.To (C.G Z H) (C.G (fun a => Z1 a ∨ 0 < orr a + o2 a) H1) (fun b => orr b + o2 b) := by
     refine ⟨rfl, rfl, fun b o h c => kp1 b o h fun y => ?_, fun b o h z y => ?_, fun b h => ⟨.inr h, (za b h).2⟩, fun b o _ _ z => z⟩
     · rcases c with c | c
       · have c : 0 < orr b + o2 b := c
         omega
       · exact c y.1
     · rcases y with y | y
       · rcases fr1 b y with w | w
         · exact z w.1
         · have h' : H b = some o := h
           rw [w] at h'; cases h'
       · exact z (za b y).1
   obtain ⟨p1, p2, q1, q2, e1⟩ := s1.cut
   obtain ⟨w1, od1, orr1, hw1, rd1, hod1, _⟩ := q1.at hd1
   rw [hw] at hw1; cases hw1
   have K : Gd.Bk ((C.on g).G Z1 H1) (C.G (fun a => Z1 a ∨ 0 < orr a + o2 a) H1) (fun b => od1 b + p2 b) := by
     refine ⟨rfl, rfl, rfl, fun b h => ?_, fun b z w => ?_, fun b ys h z y => ?_⟩
     · obtain ⟨_, h2, h3⟩ := s1.rp.dom b (by rw [e1, hod1]; (try dsimp only at h); omega)
       exact ⟨.inl h2, fun y => h3 (.inl y)⟩
     · exact ⟨fun y => y.elim z fun y => w (.inr y), fun y => w (.inl y)⟩
     · rcases y with y | y
       · exact z y
       · obtain ⟨o, h3, h4⟩ := s.al b (za b y).1
         have h5 : H1 b = some o := kp1 b o h3 fun c => by omega
         have h6 : H1 b = some (.tup ys) := h
         rw [h5] at h6; cases h6
         exact h4 ys rfl
   simp only [D.noBorL, Bool.and_eq_true] at nb
   have rd2 := rd1.back nb.1 (K.sub fun b h => by (try dsimp only); omega)
   have rs2 := q2.back nb.2 (K.sub fun b h => by (try dsimp only); omega)
   have restT := rest.mono (T.sub fun b h => by (try dsimp only); omega)
   have dsT := r2.mono (T.sub fun b h => by (try dsimp only); omega)
   obtain ⟨w3, od3, orr3, hw3, rd3, hod3, kset3⟩ := restT.at (j := q) (d := .un) (by rw [List.getElem?_set_self hql])
   rw [hw] at hw3; cases hw3
   have full := kset3 d1 w od1 (fun b => od1 b + orr3 b) rd2 fun _ => rfl
   rw [list_set_same hw, List.set_set] at full
   have one2 : ∀ b, 0 < od1 b + p2 b → orr b + o2 b = 0 := fun b h => by
     obtain ⟨_, h2, h3⟩ := s1.rp.dom b (by rw [e1, hod1]; omega)
     exact Nat.eq_zero_of_not_pos fun y => h3 (.inr y)
   refine ⟨⟨fun a => Z1 a ∨ 0 < orr a + o2 a, fun b => (od1 b + orr3 b) + (o2 b + p2 b), ?_, ?_, ?_, ?_, ?_, ?_, ?_, s.bb, s.fx⟩, fun r p u e' hr hg hp => ?_⟩
   · exact full.app (dsT.app rs2 fun _ => rfl) fun _ => rfl
   · intro b
     have h1 := one1 b
     have h2 := s1.nd b
     rw [e1, hod1] at h2
     have h3 := hod3 b
     by_cases c : 0 < od1 b + p2 b
     · have := one2 b c; (try dsimp only); omega
     · (try dsimp only); omega
   · simp [s.ln]
   · intro i d hi hd
     by_cases c : i = q
     · subst c; exact ⟨vq, hvq⟩
     · rw [List.getElem?_set_ne (Ne.symm c)] at hi
       exact s.sl i d hi hd
   · intro a o h1 h2
     refine kp1 a o (s.kp a o h1 h2) fun y => ?_
     rcases s.fr a y.1 with w | w
     · omega
     · rw [h1] at w; cases w
   · rintro a (h | h)
     · rcases fr1 a h with y | y
       · exact s.fr a y.1
       · by_cases c : C.os0 a = 0
         · right
           cases z : C.H0 a with
           | none => rfl
           | some o => have := s.kp a o z c; rw [y] at this; cases this
         · left; omega
     · exact s.fr a (za a h).1
   · rintro a (h | h)
     · exact s1.al a h
     · obtain ⟨o, h3, h4⟩ := s.al a (za a h).1
       exact ⟨o, kp1 a o h3 fun c => by omega, h4⟩
   · -- a path elsewhere
     obtain ⟨v, hv, hp⟩ := hp
     refine ⟨v, hv, ?_⟩
     unfold getS at hg
     cases h0 : st[r]? with
     | none => rw [h0] at hg; cases hg
     | some x =>
       rw [h0] at hg
       have h0' : (st.set q .un)[r]? = some x := by rw [List.getElem?_set_ne (Ne.symm hr)]; exact h0
       obtain ⟨w4, od4, orr4, hw4, rd4, hod4, _⟩ := rest.at h0'
       have : w4 = v := by rw [List.getElem?_map, hv] at hw4; simp at hw4; exact hw4.symm
       subst this
       exact rd4.hpt hg hp (T.sub fun b h => by (try dsimp only); have := hod4 b; omega)
end
theorem rE_of {C : Cc} {sm : Bool} {ds : List D} {vs : List V} {σ : L2.St} {H : Hp} {Q : VK} {α : Type} {a : Option α} {f : α → R D} (h : rE C sm ds vs σ H Q (R.of a f)) : ∃ x, a = some x ∧ rE C sm ds vs σ H Q (f x) := by
 cases a with
 | none => exact h.elim
 | some x => exact ⟨x, rfl, h⟩
theorem rE_chk {C : Cc} {sm : Bool} {ds : List D} {vs : List V} {σ : L2.St} {H : Hp} {Q : VK} {c : Prop} [Decidable c] {r : R D} (h : rE C sm ds vs σ H Q (chk c r)) : c ∧ rE C sm ds vs σ H Q r := by
 unfold chk at h
 split at h
 · rename_i hc; exact ⟨hc, h⟩
 · exact h.elim
section
variable {X : Cx} {C : Cc} {st ds : List D} {σ : L2.St} {vs : List V} {H H' : Hp} {a b e o i tg value : Expr} {es : List Expr} {pos p apos pos' p1 p2 p3 : Pos} {qa qb qo qi : List D → Option PL} {ma mb : List D → R D} {sa sb : Bool} {ss : List Stmt} {m : MS} {Dn : Ends}
@[simp] theorem isUn_nd (k : Kd) (xs : List D) : isUn (some (.nd k xs)) = false := rfl
end
end PV
namespace PV
open PySem L2
section
variable {X : Cx} {C : Cc} {st ds : List D} {σ : L2.St} {vs : List V} {H H' : Hp} {a b e tg elt : Expr} {pos p pos' spos py : Pos} {ma mb : List D → R D} {sa sb se : Bool} {ss : List Stmt} {m : MS}
end
end PV
namespace PV
open PySem L2
section
variable {X : Cx} {C : Cc} {st ds : List D} {σ : L2.St} {vs : List V} {H H' : Hp} {a b e tg elt : Expr} {pos p pos' spos py : Pos} {ma mb : List D → R D} {sa sb se : Bool} {ss : List Stmt} {m : MS}
end
end PV
namespace PV
open PySem L2
section
variable {X : Cx} {C : Cc} {st ds : List D} {σ : L2.St} {vs : List V} {H H' : Hp} {a b e o tg elt : Expr} {pos p apos pos' spos py : Pos} {ma mb : List D → R D} {sa sb se : Bool} {ss : List Stmt} {m : MS}
end
end PV
namespace PV
open PySem L2
section
variable {X : Cx} {C : Cc} {st ds : List D} {σ : L2.St} {vs : List V} {H H' : Hp} {a b e o tg elt : Expr} {pos p apos pos' spos py : Pos} {ma mb : List D → R D} {sa sb se : Bool} {ss : List Stmt} {m : MS} {qa qb : List D → Option PL}
end
end PV
namespace PV
open PySem L2
section
variable {X : Cx} {C : Cc} {st ds : List D} {σ : L2.St} {vs : List V} {H H' : Hp} {a b e o f tg elt : Expr} {pos p apos pos' cpos : Pos} {ma mb mc : List D → R D} {sa sb sc : Bool} {ss : List Stmt} {m : MS} {qa qb qo qi qv : List D → Option PL}
def q3 (a b c : Option PL) (f : PL → PL → PL → Option PL) : Option PL := match a, b, c with
 | some p, some q, some r => f p q r
 | _, _, _ => none
@[simp] theorem q3_some (p q r : PL) (f : PL → PL → PL → Option PL) : q3 (some p) (some q) (some r) f = f p q r := rfl
end
end PV
namespace PV
open PySem L2
section
variable {X : Cx} {C : Cc} {st ds : List D} {σ : L2.St} {vs : List V} {H H' : Hp} {a b e o : Expr} {pos p : Pos} {ma mb : List D → R D} {sa sb : Bool} {qa qb : List D → Option PL}
end
theorem fun_of {K : PySem.W.Frag} {x qual : Str} {st : Stmt} {f : Addr} {fd : FuncData} (F : FunD K x qual (defArgs st) (defBody st) (defScope st) [] [] f fd) : L2.Fun K x qual st f fd := by
 obtain ⟨oc, od, dV, kV, doc, pm, an, cdv, ct, osl, rfl, lk, hcd, hD, hK⟩ := F.ex
 rcases hD with ⟨_, rfl⟩ | ⟨e, _⟩
 · exact ⟨⟨oc, od, kV, doc, pm, an, cdv, ct, osl, rfl, lk, hcd⟩, F.kp⟩
 · exact absurd rfl e
end PV
namespace L2
open PySem PySem.Spec PyProof.Rows PV
theorem law_walkE {l : PySem.W.OpenLaw} {k : Nat} {q : Program} {loose : List Str} {XP : (Str → Option Value) → Heap → Prop} {YP : World → Heap → Prop} {d : DefRec} (hn : l.most = some 63) (hdf : d.params.defaults = []) (hr : Room k callerA)
   (F : ∀ (w : World) (mg : Str → Option Value) (fa : Addr) (h : Heap), YP w h → h.Ns mainGlobals mg → mg d.name = some (.ref fa) →
     ∃ (K : PySem.W.Frag) (fd : FuncData), K.In h ∧ (∀ (s : Shared) (u : Value), BindsTo s fd ⟨[u], []⟩ [("_law_script", u)]) ∧ ∀ base : Heap, K.In base → base.Ns mainGlobals mg → FnOk l.prog w K mg base (L2.CX l.prog w) k fa fd ["_law_script"] (spLaw K)) :
   PySem.W.WalkO q loose XP YP l.row.toRowW d [] (fun f vs => PySem.call f vs) := by
 refine Att.attach_call hn hdf fun w s₀ s₁ mg mb fa o pm cd doc a vs ns G Y ho hd hcd hmg hobj hints hlen hg => ?_
 obtain ⟨K, fd, KX, hb, hF⟩ := F w mg fa _ Y G.T.g hmg
 exact law_call KX G.T.g G.T.b G.T.builtins G.T.nolimit hg hobj hints (Nat.le_trans hlen (by decide)) hr hF hb (fun H hO hS => ⟨a, ns, rfl, hS, hlen, fun _ => rfl⟩) fun H e s' z => by
   obtain ⟨_, _, _, _, _, _, _, _, _, _, _, _, z⟩ := z
   exact z
end L2
namespace PV
open PySem L2
section
variable {X : Cx} {C : Cc} {st ds : List D} {σ : L2.St} {vs : List V} {H H' : Hp} {a b e o f k v tg elt : Expr} {pos p p2 apos pos' cpos : Pos} {ma mb mc : List D → R D} {sa sb sc : Bool} {ss : List Stmt} {m : MS} {qa qb qo qi qv : List D → Option PL}
end
end PV
namespace PV
open PySem PySem.Spec PyProof.Rows L2
def nsG (g : Addr → Option Obj) (ns : Addr) (x : Str) : Option Value := match g ns with
 | some ⟨_, _, .dict es _, _⟩ => (es.toList.find? (·.key.isStr x)).map (·.val)
 | _ => none
def codeG (g : Addr → Option Obj) (f : Addr) : List Addr := match g f with
 | some ⟨_, _, .func fd, _⟩ => He.refV fd.code
 | _ => []
def globG (g : Addr → Option Obj) (q : Str × List Str) : List Addr := match nsG g mainGlobals q.1 with
 | some (.ref a) => a :: (match g a with
   | some ⟨_, _, .func fd, _⟩ => He.refV fd.code
   | some ⟨_, _, .cls cd, _⟩ => cd.ns :: q.2.flatMap fun m => match nsG g cd.ns m with
     | some (.ref f) => f :: codeG g f
     | _ => []
   | _ => [])
 | _ => []
def asP (g : Addr → Option Obj) (gl : List (Str × List Str)) : List Addr := mainGlobals :: gl.flatMap (globG g)
def frK {α : Type} : PySem.W.Frag → (PySem.W.Frag → α) → α
 | [], k => k []
 | (a, o) :: r, k => frK r fun r' => HandSHeadRun.frNat a fun a' => k ((a', o) :: r')
theorem frK_eq {α : Type} : ∀ (l : PySem.W.Frag) (k : PySem.W.Frag → α), frK l k = k l
 | [], k => rfl
 | (a, o) :: r, k => by
   unfold frK
   rw [frK_eq r, HandSHeadRun.frNat_eq]
abbrev AlP : Type := He.AlT × Bool
def obsP (gl : List (Str × List Str)) (fa : List He.Fa) (fn : List He.DefD) (ts : List He.Tab) (ex : PySem.W.Frag → Bool) (g : Addr → Option Obj) : AlP := frK (He.frG g (asP g gl)) fun K => (He.obsT fa fn ts K, ex K)
def valP (fn : List He.DefD) (ts : List He.Tab) (w : World) : AlP := (He.valT fn ts w, true)
structure SaysP (fa : List He.Fa) (fn : List He.DefD) (ts : List He.Tab) (ex : PySem.W.Frag → Bool) (w : World) (K : PySem.W.Frag) : Prop where
 t : He.SaysT fa fn ts w K
 more : ex K = true
structure Pt where
 fn : List He.DefD
 fa : List He.Fa
 ts : List He.Tab
 ex : PySem.W.Frag → Bool
def obsL (gl : List (Str × List Str)) (ps : List Pt) (g : Addr → Option Obj) : List AlP := ps.map fun p => obsP gl p.fa p.fn p.ts p.ex g
theorem map_all {α β : Type} {f g : α → β} : ∀ {l : List α}, l.map f = l.map g → ∀ p ∈ l, f p = g p
 | [], _, p, hp => by simp at hp
 | a :: l, h, p, hp => by
   simp only [List.map_cons, List.cons.injEq] at h
   rcases List.mem_cons.mp hp with rfl | hp
   · exact h.1
   · exact map_all h.2 p hp
def hookL (gl : List (Str × List Str)) (ps : List Pt) : PySem.W.Hook where
 α := List AlP
 obs := fun s => obsL gl ps s.heap.get?
 val := fun w => ps.map fun p => valP p.fn p.ts w
 says := fun w h => ∃ K : PySem.W.Frag, K.In h ∧ ∀ p ∈ ps, SaysP p.fa p.fn p.ts p.ex w K
 of := fun w s e => ⟨_, He.frG_in, fun p hp => by
   have e := map_all (show (ps.map fun p => obsP gl p.fa p.fn p.ts p.ex s.heap.get?) = ps.map fun p => valP p.fn p.ts w from e) p hp
   unfold obsP at e
   rw [frK_eq] at e
   exact ⟨congrArg (fun z : AlP => z.1) e, congrArg (fun z : AlP => z.2) e⟩⟩
 keeps := fun _ _ _ ⟨K, hK, c⟩ k => ⟨K, PySem.W.Frag.In.keeps hK k, c⟩
def obL (gl : List (Str × List Str)) (ps : List Pt) (s : PySem.W.SharedT) : List AlP := obsL gl ps (HandSHeadRun.getT s)
theorem obL_eq {gl : List (Str × List Str)} {ps : List Pt} (s : PySem.W.SharedT) : obL gl ps s = (hookL gl ps).obs s.abs := by
 have e : HandSHeadRun.getT s = s.abs.heap.get? := funext (HandSHeadRun.getT_eq s)
 unfold obL
 rw [e] <;> rfl
def RunP (r : PySem.W.OpenRow) (gl : List (Str × List Str)) (p : Pt) (M : Nat) (w : World) : Prop :=
 ∀ os : OsState, (HandSHeadRun.endF (HandSHeadRun.stepQ (HandSHeadRun.denQ HandSHeadRun.tabQ) r.prog w) M r.prog w os).map (fun s => obsP gl p.fa p.fn p.ts p.ex (HandSHeadRun.getT s)) = some (valP p.fn p.ts w)
theorem run_add {r : PySem.W.OpenRow} {q : Program} {gl : List (Str × List Str)} {ps : List Pt} {p : Pt} {M : Nat} {loose : List Str} {w : World} (a : HandSHeadRun.RunEq r q (hookL gl ps) (obL gl ps) M loose w) (b : RunP r gl p M w) : HandSHeadRun.RunEq r q (hookL gl (ps ++ [p])) (obL gl (ps ++ [p])) M loose w := fun os => by
 have a := a os
 have b := b os
 revert a b
 generalize HandSHeadRun.endF (HandSHeadRun.stepQ (HandSHeadRun.denQ HandSHeadRun.tabQ) r.prog w) M r.prog w os = x
 intro a b
 cases x with
 | none => cases b
 | some s =>
   have a := Option.some.inj a
   have b : obsP gl p.fa p.fn p.ts p.ex (HandSHeadRun.getT s) = valP p.fn p.ts w := Option.some.inj b
   have a1 := congrArg Prod.fst a
   have a2 := congrArg (fun z => z.2.1) a
   have a3 : (ps.map fun p => obsP gl p.fa p.fn p.ts p.ex (HandSHeadRun.getT s)) = ps.map fun p => valP p.fn p.ts w := congrArg (fun z => z.2.2) a
   refine congrArg some (Prod.ext a1 (Prod.ext a2 ?_))
   show ((ps ++ [p]).map fun p => obsP gl p.fa p.fn p.ts p.ex (HandSHeadRun.getT s)) = (ps ++ [p]).map fun p => valP p.fn p.ts w
   rw [List.map_append, List.map_append, a3]
   simp only [List.map_cons, List.map_nil]
   rw [b]
end PV
namespace PV
open PySem L2
section
variable {X : Cx} {C : Cc} {st ds : List D} {σ : L2.St} {vs : List V} {H H' : Hp} {a b e o f k v tg elt : Expr} {pos p p2 apos pos' cpos : Pos} {ma mb mc : List D → R D} {sa sb sc : Bool} {ss : List Stmt} {m : MS} {qa qb qo qi qv : List D → Option PL}
end
end PV
namespace PV
open PySem L2
section
variable {X : Cx} {C : Cc} {st ds : List D} {σ : L2.St} {vs : List V} {H H' : Hp} {a b e o f k v tg elt : Expr} {pos p p2 apos pos' cpos : Pos} {ma mb mc : List D → R D} {sa sb sc : Bool} {ss : List Stmt} {m : MS} {qa qb qo qi qv : List D → Option PL}
end
end PV
namespace PV
open PySem L2
section
variable {X : Cx} {C : Cc} {st ds : List D} {σ : L2.St} {vs : List V} {H H' : Hp} {a b e o f k v tg elt : Expr} {pos p p2 apos pos' cpos : Pos} {ma mb mc : List D → R D} {sa sb sc : Bool} {ss : List Stmt} {m : MS} {qa qb qo qi qv : List D → Option PL}
end
end PV
namespace PV
open PySem L2
section
variable {X : Cx} {C : Cc} {st ds : List D} {σ : L2.St} {vs : List V} {H H' : Hp} {a b e elt tg iter : Expr} {pos pos' spos p p2 py : Pos} {ma mb : List D → R D} {sa sb se : Bool} {ws : List Nat} {g : MG} {mt : List D → R Bool} {me : List D → R D} {ifs : List Expr} {scope : Scope} {own : List (Str × Nat)}
end
end PV
namespace PV
open PySem L2
section
variable {X : Cx} {C : Cc} {st ds : List D} {σ : L2.St} {vs : List V} {H H' : Hp} {a b e elt tg iter : Expr} {pos pos' spos p p2 py : Pos} {ma mb : List D → R D} {sa sb se : Bool} {me : List D → R D} {scope : Scope}
end
end PV
namespace PV
open PySem L2
section
variable {X : Cx} {C : Cc} {st ds : List D} {σ : L2.St} {vs : List V} {H H' : Hp} {a b : Expr} {pos p2 : Pos}
end
end PV
namespace PV
open PySem L2
section
variable {X : Cx} {C : Cc} {st ds : List D} {σ : L2.St} {vs : List V} {H H' : Hp} {a b e o f k v tg elt : Expr} {pos p p2 apos pos' cpos : Pos} {ma mb mc : List D → R D} {sa sb sc : Bool} {ss : List Stmt} {m : MS} {qa qb qo qi qv : List D → Option PL}
end
end PV
namespace PV
open PySem PySem.Spec PyProof.Rows L2
section
variable {X : Cx} {e : Expr} {td : TE} {p pos apos cpos : Pos}
end
section
variable {X : Cx} {C : Cc} {st ds : List D} {σ : L2.St} {vs : List V} {H : Hp} {e : Expr} {p pos apos cpos : Pos} {qa : List D → Option PL}
end
end PV
namespace PV
open PySem PySem.Spec PyProof.Rows L2
section
variable {X : Cx} {e : Expr} {td : TE} {p pos apos cpos : Pos}
end
section
variable {X : Cx} {C : Cc} {st ds : List D} {σ : L2.St} {vs : List V} {H : Hp} {e : Expr} {p pos apos cpos : Pos} {qa : List D → Option PL}
end
end PV
namespace PV
open PySem L2
section
variable {C : Cc} {Z Z' : Addr → Prop} {st ds : List D} {σ : L2.St} {vs : List V} {H H' : Hp} {os os' : Ct}
end
section
variable {X : Cx} {C : Cc} {st ds : List D} {σ : L2.St} {vs : List V} {H H' : Hp} {a b e o i tg value : Expr} {es : List Expr} {pos p apos pos' p1 p2 p3 : Pos} {qa qb qo qi : List D → Option PL} {ma mb : List D → R D} {sa sb : Bool} {ss : List Stmt} {m : MS} {Dn : Ends}
end
end PV
namespace PV
open PySem L2
def spI (K : PySem.W.Frag) (fld : Str) : Sp := fun vs H Q E => vs.length = 2 ∧ ∃ (a l Cx : Addr) (ys : List V), vs = [.ref a, .ref l] ∧ OexC K Cx ∧ PySem.W.findIn K (.ref Cx) fld = some none ∧ H a = some (exo a Cx none) ∧ (SqL K H l ys ∨ SqT K H l ys) ∧
 ∀ l2 dx : Addr, H l2 = none → upd H l2 (.lst ys) dx = none → dx ≠ a → Q .non (upd (upd (upd H l2 (.lst ys)) dx (exd dx [(fld, .ref l2)])) a (exo a Cx (some dx)))
def rLs (K : PySem.W.Frag) : List V → Hp → VK → Prop := fun xs H Q => ∃ p ys, xs = [.ref p] ∧ (SqL K H p ys ∨ SqT K H p ys) ∧ ∀ l, H l = none → Q (.ref l) (upd H l (.lst ys))
theorem fn_init {P : Program} {w : World} {K : PySem.W.Frag} {mg : Str → Option Value} {base : Heap} {x qual : Str} {sd : Stmt} {f : Addr} {fd : FuncData} {fld s1 s2 : Str} {k : Nat} (F : L2.Fun K x qual sd f fd) (S : FnScope [s1, s2] [s1, s2] (defScope sd))
   (hb : ∀ (cdv : Value) (A : Around) (outer : List Env) (s : Shared) (H : Hp) (E : XK), PSs (cxOf (L2.CX P w) P w K mg base [s1, s2] qual (defScope sd) f cdv A outer s H E) (defBody sd) (tOst K fld (tVar 0) (tCB (rLs K) (tCons (tVar 1) tNil)))) :
   FnOk P w K mg base (L2.CX P w) (k + 1) f fd [s1, s2] (spI K fld) := by
 refine F.okX S (fun vs H Q E h => h.1) (fun cdv A outer s H vs Q E hr h => ⟨_, hb cdv A outer s H E, ?_⟩)
 obtain ⟨hl, a, l, C, ys, rfl, T, hno, ea, hq, q⟩ := h
 refine ⟨.ref l, rfl, l, ys, rfl, hq, fun l2 h2 => ⟨.ref a, rfl, a, C, rfl, T, hno, .inl ⟨?_, fun dx h3 h4 => q l2 dx h2 h3 h4⟩⟩⟩
 rw [upd_ne (fun z => by rw [z, h2] at ea; cases ea)]
 exact ea
structure OexF (K : PySem.W.Frag) (mg : Str → Option Value) (CA : Str → Option Addr) (x fld : Str) (fI : Addr) : Prop where
 at_ : ∃ a, CA x = some a ∧ mg x = some (.ref a) ∧ OexC K a ∧ PySem.W.findIn K (.ref a) "__init__" = some (some (.ref fI)) ∧ PySem.W.typeIn K (.ref fI) = some (.type "function") ∧ PySem.W.findIn K (.ref a) fld = some none
section
variable {X : Cx} {C : Cc} {st ds : List D} {σ : L2.St} {vs : List V} {H H' : Hp} {a b e : Expr} {pos pos' p p2 : Pos} {ma : List D → R D} {sa : Bool} {Dn : Ends}
end
def oexB (K : PySem.W.Frag) (C : Addr) : Bool := match K.lookup C with
 | some ⟨.type "type", _, .cls cd, sl⟩ => (match cd.mro, sl.toList with
   | .ref C' :: bm, [_, _, _, _, some (.builtin n), _] => C' == C && n == "ValueError.__new__" && !cd.hasDel && cd.hasDict && PySem.HandSPX.refsVE bm
   | _, _ => false)
 | _ => false
def oexA (K : PySem.W.Frag) (C : Addr) : Bool := oexB K C && (decide (PySem.W.findIn K (.ref C) "__setattr__" = some (some (.builtin "object.__setattr__"))) && (decide (PySem.W.subIn K (.ref C) (.type "BaseException") = some true) && (decide (PySem.W.typeIn K (.ref C) = some (.type "type")) && PySem.W.keepIn K (.ref C))))
theorem oexB_ok {K : PySem.W.Frag} {C : Addr} (q : oexB K C = true) : ∃ nm q N bs bm sn sub ab col dd k0 k1 k2 k3 k5, K.lookup C = some (excClassObj nm q C N bs bm true sn sub ab col dd k0 k1 k2 k3 k5 "ValueError.__new__") ∧ PySem.HandSPX.refsVE bm = true := by
 unfold oexB at q
 split at q
 · rename_i dd cd sl ho
   split at q
   · rename_i C' bm k0 k1 k2 k3 n k5 hm hs
     simp only [Bool.and_eq_true, beq_iff_eq, Bool.not_eq_true'] at q
     obtain ⟨⟨⟨⟨rfl, rfl⟩, hdel⟩, hdi⟩, ht⟩ := q
     obtain ⟨nm, bs, mro, ns, qn, hd, sn, sub, ab, col, del⟩ := cd
     dsimp only at hm hdel hdi
     subst hm hdel hdi
     have hsl : sl = #[k0, k1, k2, k3, some (.builtin "ValueError.__new__"), k5] := by
       obtain ⟨l⟩ := sl
       simp only at hs
       rw [hs]
     subst hsl
     exact ⟨nm, qn, ns, bs, bm, sn, sub, ab, col, dd, k0, k1, k2, k3, k5, ho, ht⟩
   · cases q
 · cases q
theorem oexA_ok {K : PySem.W.Frag} {C : Addr} (q : oexA K C = true) : OexC K C := by
 unfold oexA at q
 simp only [Bool.and_eq_true, decide_eq_true_eq] at q
 exact ⟨oexB_ok q.1, q.2.1, q.2.2.1, q.2.2.2.1, q.2.2.2.2⟩
end PV
namespace L2
open PySem PySem.Spec PyProof.Rows
abbrev ClA := Value × Option Nat × (Addr → Value → Option Addr → TS)
def Ends.drop (D : Ends) : Option Nat → Ends
 | none => D
 | some i => { nx := fun σ H => D.nx (σ.set i none) H, rt := D.rt, bk := fun σ H => D.bk (σ.set i none) H, ct := fun σ H => D.ct (σ.set i none) H }
def St.name (σ : L2.St) (a : Addr) : Option Nat → L2.St
 | none => σ
 | some i => σ.set i (some (.ref a))
def wManyA (K : PySem.W.Frag) (Wout : WX) (D : Ends) (l : List ClA) : WX := l.foldr (fun q w cls d σ H => ∃ b, PySem.W.exmOne K cls q.1 = some b ∧ if b then ∀ a, H a = none → q.2.2 a cls d (D.drop q.2.1) (St.name σ a q.2.1) H else w cls d σ H) Wout
def NameIn (X : Cx) : Option Str → Option Nat → Prop
 | none, none => True
 | some n, some i => X.N.Nodup ∧ X.N[i]? = some n ∧ X.env.kindOf n = some .local
 | _, _ => False
inductive HdsA (X : Cx) : List ExceptHandler → List ClA → Prop
 | nil : HdsA X [] []
 | cons {x : Str} {nm : Option Str} {c : Value} {oi : Option Nat} {ts : Addr → Value → Option Addr → TS} {b₀ : Stmt} {suite : List Stmt} {np pos' : Pos} {hds : List ExceptHandler} {l : List ClA} (hn : NameIn X nm oi) (hc : Names X x c)
     (hsu : ∀ (a : Addr) (oe : Obj) (cls : Value) (d : Option Addr) (pn : List (Addr × Obj)), Zc cls d oe → (∃ vs, oe.data = .fields vs) → PSs (X.suite a ((a, oe) :: pn)) (b₀ :: suite) (ts a cls d)) (r : HdsA X hds l) :
     HdsA X (.ExceptHandler (some (.Name x np)) nm (b₀ :: suite) pos' :: hds) ((c, oi, ts) :: l)
structure Cau (X : Cx) (pins : List (Addr × Obj)) (a : Addr) (cls : Value) (d : Option Addr) (σ : L2.St) (H : Hp) (B : Heap) (sI s : Shared) : Prop where
 I : Inv X pins σ H sI
 nb : ∀ b o, sI.heap.get? b = some o → b ∉ frs X.stack → B.get? b = some o
 up : sI.heap.UpToSlots s.heap
 fl : HandSPX.FlyingZ B (X.env :: X.outer) a (Zc cls d) s.heap
 na : H a = none
 os : s.os = sI.os
 ag : AllBare s.gens
section
variable {X : Cx} {pins : List (Addr × Obj)} {a : Addr} {cls : Value} {d : Option Addr} {σ : L2.St} {H : Hp} {B : Heap} {sI s : Shared} {D : Ends} {hds : List ExceptHandler} {Wout : WX}
theorem Cau.obj (c : Cau X pins a cls d σ H B sI s) (hf : X.env.frame = some X.env.locals) : ∃ oe vs, s.heap.get? a = some oe ∧ Zc cls d oe ∧ oe.data = .fields vs ∧ a ≠ X.env.locals ∧ a ∉ X.fs := by
 obtain ⟨oe, vs, he, hz, hd⟩ := c.fl.there
 have out : a ∉ frs (X.env :: X.outer) := fun m => by
   obtain ⟨_, o, e, k⟩ := c.fl.2.2.1.mem m
   rw [he] at e
   cases e
   exact k _ hd
 have inn : ∀ e ∈ X.env :: X.outer, e.frame = some a → False := fun e me q => out (List.mem_filterMap.mpr ⟨e, me, q⟩)
 refine ⟨oe, vs, he, hz, hd, fun z => inn X.env (by simp) (by rw [hf, z]), fun m => ?_⟩
 obtain ⟨e, me, q⟩ := List.mem_filterMap.mp m
 exact inn e (by simp [me]) q
theorem Cau.again (c : Cau X pins a cls d σ H B sI s) {M : Model} {A : Around} {E : Value → Shared → Prop} {Q : Unit → Shared → Prop} (h : ∀ s', Cau X pins a cls d σ H B sI s' → Q () s') : wpAny M A (setFlight (.ref a) none) Q E s :=
 HandSPX.lands_againZ c.fl fun _ fl u => h _ ⟨c.I, c.nb, c.up.trans u, fl, c.na, c.os, c.ag⟩
end
end L2
namespace PV
open PySem L2
inductive HM where | pl (m : MS) | way (fld c : Str) (i yi zi : Nat)
def wayK (fld c : Str) (i yi zi : Nat) (e : Ex) (st : List D) : RS := match e.p with
 | some d => if e.f = fld ∧ i < st.length ∧ yi < st.length ∧ zi < st.length then .nx (((st.set zi d).set yi (.str c)).set i .un) else .stuck
 | none => .stuck
def hdlA (hi : Str → Str → Option Bool) (e : Ex) (st : List D) : List (Str × HM) → RS
 | [] => .ex e st
 | (y, .pl m) :: r => match hi e.c y with
   | some true => m st
   | some false => hdlA hi e st r
   | none => .stuck
 | (y, .way fld c i yi zi) :: r => match hi e.c y with
   | some true => if e.c = y then wayK fld c i yi zi e st else .stuck
   | some false => hdlA hi e st r
   | none => .stuck
inductive VHA (X : Cx) (C : Cc) : List ExceptHandler → List (Str × HM) → Prop
 | nil : VHA X C [] []
 | cons {x : Str} {b₀ : Stmt} {suite : List Stmt} {np pos' : Pos} {hds : List ExceptHandler} {m : MS} {l : List (Str × HM)} (hg : Gl X x) (hd : (x == ("__debug__" : Str)) = false) (hm : ∃ a, C.CA x = some a ∧ X.mg x = some (.ref a))
     (hb : ∀ (a : Addr) (oe : Obj) (pn : List (Addr × Obj)), VB (X.suite a ((a, oe) :: pn)) C (b₀ :: suite) m) (r : VHA X C hds l) :
     VHA X C (.ExceptHandler (some (.Name x np)) none (b₀ :: suite) pos' :: hds) ((x, .pl m) :: l)
 | way {x n fld c : Str} {i yi zi : Nat} {b₀ : Stmt} {suite : List Stmt} {np pos' : Pos} {hds : List ExceptHandler} {l : List (Str × HM)} (hN : X.N.Nodup) (hi : X.N[i]? = some n) (hln : X.env.kindOf n = some .local) (ne : i ≠ yi ∧ i ≠ zi ∧ yi ≠ zi) (hf : C.fx i = none ∧ C.fx yi = none ∧ C.fx zi = none)
     (hg : Gl X x) (hd : (x == ("__debug__" : Str)) = false) (hm : ∃ Ca, C.CA x = some Ca ∧ X.mg x = some (.ref Ca) ∧ ∀ (a : Addr) (oe : Obj) (cls : Value) (d : Option Addr) (pn : List (Addr × Obj)), Zc cls d oe → (∃ vs, oe.data = .fields vs) →
       PSs (X.suite a ((a, oe) :: pn)) (b₀ :: suite) (tSeq (tAsg (tC (.str c)) (gName yi)) (tAsg (tXf a cls d Ca fld (tVar i)) (gName zi)))) (r : VHA X C hds l) :
     VHA X C (.ExceptHandler (some (.Name x np)) (some n) (b₀ :: suite) pos' :: hds) ((x, .way fld c i yi zi) :: l)
section
variable {X : Cx} {C : Cc} {st ds : List D} {σ : L2.St} {vs : List V} {H H' : Hp} {pos : Pos} {Dn : Ends}
theorem VHA.ok {hds : List ExceptHandler} {l : List (Str × HM)} (h : VHA X C hds l) : ∃ l', HdsA X hds l' ∧ ∀ (O : COk X C) (hi : Str → Str → Option Bool) (Hi : Hier C.K C.CA hi) (Dn : Ends) (ds : List D) (vs : List V) (hl : ds.length = vs.length) (e : Ex) (st : List D) (cls : Value) (dx : Option Addr) (us : List V) (σ' : L2.St) (H' : Hp),
   rZ C ds vs Dn (hdlA hi e st l) → SX C st (ds ++ e.ds) σ' (vs ++ us) H' → ExOk C e cls dx H' us → wManyA X.K C.W Dn l' cls dx σ' H' := by
 induction h with
 | nil => exact ⟨[], .nil, fun O hi Hi Dn ds vs hl e st cls dx us σ' H' hr s k => hr σ' cls dx us H' s k⟩
 | @cons x b₀ suite np pos' hds m l hg hd hm hb r ih =>
   obtain ⟨l', h1, h2⟩ := ih
   obtain ⟨a, ca, gm⟩ := hm
   refine ⟨(.ref a, none, fun _ _ _ => trS C m) :: l', .cons (nm := none) trivial ⟨hg, hd, .inl gm⟩ (fun a' oe cls d pn _ _ => hb a' oe pn) h1, fun O hi Hi Dn ds vs hl e st cls dx us σ' H' hr s k => ?_⟩
   obtain ⟨ae, hae, rfl, kp⟩ := id k
   unfold hdlA at hr
   cases q : hi e.c x with
   | none => rw [q] at hr; exact hr.elim
   | some b =>
     rw [q] at hr
     obtain ⟨c, hc, hx⟩ := Hi _ _ _ q ae hae
     rw [ca] at hc; cases hc
     refine ⟨b, by rw [← O.k]; exact hx, ?_⟩
     cases b with
     | true =>
       intro a' na
       exact ⟨st, ds, vs, s.drop hl, hl, hr⟩
     | false =>
       exact h2 O hi Hi Dn ds vs hl e st _ dx us σ' H' hr s k
 | @way x n fld c i yi zi b₀ suite np pos' hds l hN hin hln ne hf hg hd hm r ih =>
   obtain ⟨l', h1, h2⟩ := ih
   obtain ⟨Ca, ca, gm, hsu⟩ := hm
   refine ⟨(.ref Ca, some i, fun a cls d => tSeq (tAsg (tC (.str c)) (gName yi)) (tAsg (tXf a cls d Ca fld (tVar i)) (gName zi))) :: l', .cons (nm := some n) ⟨hN, hin, hln⟩ ⟨hg, hd, .inl gm⟩ hsu h1, fun O hi Hi Dn ds vs hl e st cls dx us σ' H' hr s k => ?_⟩
   obtain ⟨ae, hae, rfl, kp⟩ := id k
   unfold hdlA at hr
   cases q : hi e.c x with
   | none => rw [q] at hr; exact hr.elim
   | some b =>
     rw [q] at hr
     obtain ⟨c', hc, hx⟩ := Hi _ _ _ q ae hae
     rw [ca] at hc; cases hc
     refine ⟨b, by rw [← O.k]; exact hx, ?_⟩
     cases b with
     | true =>
       intro a' na
       have hr : rZ C ds vs Dn (if e.c = x then wayK fld c i yi zi e st else .stuck) := hr
       split at hr
       · rename_i ec
         rw [ec, ca] at hae; cases hae
         unfold wayK at hr
         cases ep : e.p with
         | none => rw [ep] at hr; exact hr.elim
         | some d =>
           rw [ep] at hr kp
           obtain ⟨x', v, rfl, hxd, rfl⟩ := kp
           by_cases hh : e.f = fld ∧ i < st.length ∧ yi < st.length ∧ zi < st.length
           · simp only [if_pos hh] at hr
             obtain ⟨hfld, l1, l2, l3⟩ := hh
             have eds : e.ds = [d] := by unfold Ex.ds; rw [ep]
             rw [eds] at s
             have ln : st.length = σ'.length := by obtain ⟨Z, os, t⟩ := s; exact t.ln
             refine ⟨.ref a', ?_, rfl, rfl, x', [(e.f, v)], v, rfl, hxd, ?_, ?_⟩
             · rw [List.getElem?_set_ne (Ne.symm ne.1)]
               show (σ'.set i (some (.ref a')))[i]? = _
               rw [List.getElem?_set_self (by omega)]
             · rw [hfld]; simp [List.lookup]
             · have s2 := s.toSlot l3 hf.2.2
               have s3 := (s2.pushc (d := .str c) (v := .str c) rfl).toSlot (i := yi) (by rw [List.length_set]; exact l2) hf.2.1
               refine hr _ H' ?_
               have s4 := s3.rewipe (σ := (((σ'.set i (some (.ref a'))).set yi (some (.str c))).set zi (some v)).set i none) (ws := [i]) (by simp) (fun j hj => ?_) (fun j hj => by simp at hj; subst hj; exact hf.1)
               · exact s4
               · have hji : i ≠ j := fun z => hj (by simp [z])
                 rw [List.getElem?_set_ne hji]
                 by_cases cz : zi = j
                 · subst cz
                   rw [List.getElem?_set_ne ne.2.2, List.getElem?_set_self (by omega), List.getElem?_set_self (by simp; omega)]
                 · rw [List.getElem?_set_ne cz]
                   by_cases cy : yi = j
                   · subst cy
                     rw [List.getElem?_set_self (by simp; omega), List.getElem?_set_self (by simp; omega)]
                   · rw [List.getElem?_set_ne cy, List.getElem?_set_ne cz, List.getElem?_set_ne cy, List.getElem?_set_ne hji]
           · simp only [if_neg hh] at hr
             exact hr.elim
       · exact hr.elim
     | false =>
       exact h2 O hi Hi Dn ds vs hl e st _ dx us σ' H' hr s k
end
@[simp] theorem hdlA_nil (hi : Str → Str → Option Bool) (e : Ex) (st : List D) : hdlA hi e st [] = .ex e st := rfl
def hdlAK (b : Option Bool) (m : RS) (n : RS) : RS := match b with
 | some true => m
 | some false => n
 | none => .stuck
@[simp] theorem hdlAK_yes (m n : RS) : hdlAK (some true) m n = m := rfl
@[simp] theorem hdlAK_no (m n : RS) : hdlAK (some false) m n = n := rfl
@[simp] theorem hdlA_pl (hi : Str → Str → Option Bool) (e : Ex) (st : List D) (y : Str) (m : MS) (r : List (Str × HM)) : hdlA hi e st ((y, .pl m) :: r) = hdlAK (hi e.c y) (m st) (hdlA hi e st r) := by
 rw [hdlA]; rfl
@[simp] theorem hdlA_way (hi : Str → Str → Option Bool) (e : Ex) (st : List D) (y : Str) (fld c : Str) (i yi zi : Nat) (r : List (Str × HM)) : hdlA hi e st ((y, .way fld c i yi zi) :: r) = hdlAK (hi e.c y) (if e.c = y then wayK fld c i yi zi e st else .stuck) (hdlA hi e st r) := by
 rw [hdlA]; rfl
end PV
namespace PV
open PySem L2
section
variable {X : Cx} {C : Cc} {st ds : List D} {σ : L2.St} {vs : List V} {H H' : Hp} {a b e o : Expr} {pos p : Pos} {ma mb : List D → R D} {sa sb : Bool} {qa qb : List D → Option PL}
end
end PV
namespace PV
open PySem L2
inductive BM | io | hd | al
 deriving DecidableEq
def bOut : List BM → List D → List D
 | .io :: ms, _ :: st => .un :: bOut ms st
 | .hd :: ms, d :: st => d :: bOut ms st
 | .al :: ms, _ :: st => .un :: bOut ms st
 | _, _ => []
def bAs (r : Nat) (p : Pth) : List BM → List D → List AD
 | .io :: ms, d :: st => .val d :: bAs r p ms st
 | .hd :: ms, _ :: st => .val .un :: bAs r p ms st
 | .al :: ms, _ :: st => .lnd r p :: bAs r p ms st
 | _, _ => []
def bVis (e : D) : List BM → List D → List D
 | .io :: ms, d :: st => d :: bVis e ms st
 | .hd :: ms, _ :: st => .un :: bVis e ms st
 | .al :: ms, _ :: st => e :: bVis e ms st
 | _, _ => []
def bIo : List BM → List D → List D
 | .io :: ms, d :: st => d :: bIo ms st
 | .hd :: ms, _ :: st => .un :: bIo ms st
 | .al :: ms, _ :: st => .un :: bIo ms st
 | _, _ => []
def bLn : List BM → List D → List D
 | .io :: ms, _ :: st => .un :: bLn ms st
 | .hd :: ms, _ :: st => .un :: bLn ms st
 | .al :: ms, d :: st => d :: bLn ms st
 | _, _ => []
def bMrg : List BM → List D → List D → List D
 | .io :: ms, _ :: o, d :: st => d :: bMrg ms o st
 | .hd :: ms, x :: o, _ :: st => x :: bMrg ms o st
 | .al :: ms, _ :: o, _ :: st => .un :: bMrg ms o st
 | _, _, _ => []
def bCt : List BM → Nat
 | .io :: ms => bCt ms
 | .hd :: ms => bCt ms
 | .al :: ms => bCt ms + 1
 | [] => 0
def bTree : List BM → List D → D
 | .io :: ms, _ :: st => bTree ms st
 | .hd :: ms, _ :: st => bTree ms st
 | .al :: _, d :: _ => d
 | _, _ => .un
def bMd (ms : List BM) : List Md := ms.map fun _ => .io
def bHp (H : Hp) (σ : St) (r : Nat) (p : Pth) : List BM → List V → Prop
 | .al :: ms, v :: vs => HPs H σ r p v ∧ bHp H σ r p ms vs
 | .io :: ms, _ :: vs => bHp H σ r p ms vs
 | .hd :: ms, _ :: vs => bHp H σ r p ms vs
 | _, _ => True
theorem bSplit {G : Gd} {r : Nat} {p : Pth} : ∀ {ms : List BM} {st : List D} {vs : List V} {os : Ct}, ms.length = st.length → RpL G st vs os → ∃ o1 o2, RpL G (bOut ms st) vs o1 ∧ RpL G ((bAs r p ms st).map AD.d) vs o2 ∧ ∀ b, o1 b + o2 b ≤ os b
 | [], _, _, _, _, .nil h => ⟨fun _ => 0, fun _ => 0, .nil fun _ => rfl, .nil fun _ => rfl, fun b => by simp⟩
 | .io :: ms, _, _, os, hl, .cons (o1 := a) (o2 := c) x t h => by
   obtain ⟨o1, o2, r1, r2, e⟩ := bSplit (r := r) (p := p) (ms := ms) (by simpa using hl) t
   exact ⟨o1, fun b => a b + o2 b, .cons (o1 := fun _ => 0) (.un fun _ => rfl) r1 (fun b => by simp), .cons x r2 (fun _ => rfl), fun b => by have := e b; rw [h]; (try dsimp only); omega⟩
 | .hd :: ms, _, _, os, hl, .cons (o1 := a) (o2 := c) x t h => by
   obtain ⟨o1, o2, r1, r2, e⟩ := bSplit (r := r) (p := p) (ms := ms) (by simpa using hl) t
   exact ⟨fun b => a b + o1 b, o2, .cons x r1 (fun _ => rfl), .cons (o1 := fun _ => 0) (.un fun _ => rfl) r2 (fun b => by simp), fun b => by have := e b; rw [h]; (try dsimp only); omega⟩
 | .al :: ms, _, _, os, hl, .cons (o1 := a) (o2 := c) x t h => by
   obtain ⟨o1, o2, r1, r2, e⟩ := bSplit (r := r) (p := p) (ms := ms) (by simpa using hl) t
   exact ⟨o1, o2, .cons (o1 := fun _ => 0) (.un fun _ => rfl) r1 (fun b => by simp), .cons (o1 := fun _ => 0) (.un fun _ => rfl) r2 (fun b => by simp), fun b => by have := e b; rw [h]; (try dsimp only); omega⟩
theorem bTake0 {r : Nat} {p : Pth} {e : D} {O : List D} : ∀ {ms : List BM} {st : List D}, ms.length = st.length → bCt ms = 0 → takeA (bMd ms) (bAs r p ms st) O = some (O, bVis e ms st)
 | [], [], _, _ => rfl
 | .io :: ms, d :: st, hl, hc => by
   have := bTake0 (r := r) (p := p) (e := e) (O := O) (ms := ms) (st := st) (by simpa using hl) (by simpa [bCt] using hc)
   simp only [bMd] at this
   simp [bMd, bAs, bVis, takeA, this]
 | .hd :: ms, d :: st, hl, hc => by
   have := bTake0 (r := r) (p := p) (e := e) (O := O) (ms := ms) (st := st) (by simpa using hl) (by simpa [bCt] using hc)
   simp only [bMd] at this
   simp [bMd, bAs, bVis, takeA, this]
 | .al :: ms, d :: st, hl, hc => by simp [bCt] at hc
 | [], _ :: _, hl, _ => by simp at hl
 | _ :: _, [], hl, _ => by simp at hl
theorem bTake {r : Nat} {p : Pth} {e : D} {O : List D} (he : getS O r p = some e) : ∀ {ms : List BM} {st : List D}, ms.length = st.length → bCt ms = 1 → takeA (bMd ms) (bAs r p ms st) O = some (setS O r p .un, bVis e ms st)
 | [], [], _, hc => by simp [bCt] at hc
 | .io :: ms, d :: st, hl, hc => by
   have := bTake he (ms := ms) (st := st) (by simpa using hl) (by simpa [bCt] using hc)
   simp only [bMd] at this
   simp [bMd, bAs, bVis, takeA, this]
 | .hd :: ms, d :: st, hl, hc => by
   have := bTake he (ms := ms) (st := st) (by simpa using hl) (by simpa [bCt] using hc)
   simp only [bMd] at this
   simp [bMd, bAs, bVis, takeA, this]
 | .al :: ms, d :: st, hl, hc => by
   have := bTake0 (r := r) (p := p) (e := e) (O := setS O r p .un) (ms := ms) (st := st) (by simpa using hl) (by simpa [bCt] using hc)
   simp only [bMd] at this
   simp [bMd, bAs, bVis, takeA, he, this]
 | [], _ :: _, hl, _ => by simp at hl
 | _ :: _, [], hl, _ => by simp at hl
theorem bArgs {r : Nat} {p : Pth} {e x : D} {O : List D} (he : getS O r p = some x) : ∀ {ms : List BM} {st : List D}, ms.length = st.length → argsOf (bMd ms) (bAs r p ms st) (bVis e ms st) O = some (bVis e ms st)
 | [], [], _ => rfl
 | .io :: ms, d :: st, hl => by
   have := bArgs (e := e) he (ms := ms) (st := st) (by simpa using hl)
   simp only [bMd] at this
   simp [bMd, bAs, bVis, argsOf, this]
 | .hd :: ms, d :: st, hl => by
   have := bArgs (e := e) he (ms := ms) (st := st) (by simpa using hl)
   simp only [bMd] at this
   simp [bMd, bAs, bVis, argsOf, this]
 | .al :: ms, d :: st, hl => by
   have := bArgs (e := e) he (ms := ms) (st := st) (by simpa using hl)
   simp only [bMd] at this
   simp [bMd, bAs, bVis, argsOf, he, this]
 | [], _ :: _, hl => by simp at hl
 | _ :: _, [], hl => by simp at hl
theorem bLnd {H : Hp} {σ : St} {r : Nat} {p : Pth} : ∀ {ms : List BM} {st : List D} {vs : List V}, ms.length = st.length → st.length = vs.length → bHp H σ r p ms vs → Lnd H σ (bAs r p ms st) vs
 | [], [], [], _, _, _ => .nil
 | .io :: ms, d :: st, v :: vs, hl, hv, h => .val (bLnd (by simpa using hl) (by simpa using hv) h)
 | .hd :: ms, d :: st, v :: vs, hl, hv, h => .val (bLnd (by simpa using hl) (by simpa using hv) h)
 | .al :: ms, d :: st, v :: vs, hl, hv, h => .lnd h.1 (bLnd (by simpa using hl) (by simpa using hv) h.2)
 | [], _ :: _, _, hl, _, _ => by simp at hl
 | _ :: _, [], _, hl, _, _ => by simp at hl
 | _, [], _ :: _, _, hv, _ => by simp at hv
 | _, _ :: _, [], _, hv, _ => by simp at hv
theorem bPut0 {r : Nat} {p : Pth} {O : List D} : ∀ {ms : List BM} {st st2 : List D}, ms.length = st.length → ms.length = st2.length → bCt ms = 0 → putA (bMd ms) (bAs r p ms st) (bLn ms st2) O = some O
 | [], [], [], _, _, _ => rfl
 | .io :: ms, d :: st, x :: st2, hl, h2, hc => by
   have := bPut0 (r := r) (p := p) (O := O) (ms := ms) (st := st) (st2 := st2) (by simpa using hl) (by simpa using h2) (by simpa [bCt] using hc)
   simp only [bMd] at this
   simp [bMd, bAs, bLn, putA, this]
 | .hd :: ms, d :: st, x :: st2, hl, h2, hc => by
   have := bPut0 (r := r) (p := p) (O := O) (ms := ms) (st := st) (st2 := st2) (by simpa using hl) (by simpa using h2) (by simpa [bCt] using hc)
   simp only [bMd] at this
   simp [bMd, bAs, bLn, putA, this]
 | .al :: ms, d :: st, x :: st2, hl, h2, hc => by simp [bCt] at hc
 | [], _ :: _, _, hl, _, _ => by simp at hl
 | _ :: _, [], _, hl, _, _ => by simp at hl
 | [], _, _ :: _, _, h2, _ => by simp at h2
 | _ :: _, _, [], _, h2, _ => by simp at h2
theorem bPut {r : Nat} {p : Pth} {O : List D} (hu : getS O r p = some .un) : ∀ {ms : List BM} {st st2 : List D}, ms.length = st.length → ms.length = st2.length → bCt ms = 1 → (D.noOwn (bTree ms st2) = true ∨ spS O r p = true) → putA (bMd ms) (bAs r p ms st) (bLn ms st2) O = some (setS O r p (bTree ms st2))
 | [], [], [], _, _, hc, _ => by simp [bCt] at hc
 | .io :: ms, d :: st, x :: st2, hl, h2, hc, hs => by
   have := bPut hu (ms := ms) (st := st) (st2 := st2) (by simpa using hl) (by simpa using h2) (by simpa [bCt] using hc) hs
   simp only [bMd] at this
   simp [bMd, bAs, bLn, putA, this, bTree]
 | .hd :: ms, d :: st, x :: st2, hl, h2, hc, hs => by
   have := bPut hu (ms := ms) (st := st) (st2 := st2) (by simpa using hl) (by simpa using h2) (by simpa [bCt] using hc) hs
   simp only [bMd] at this
   simp [bMd, bAs, bLn, putA, this, bTree]
 | .al :: ms, d :: st, x :: st2, hl, h2, hc, hs => by
   have := bPut0 (r := r) (p := p) (O := O) (ms := ms) (st := st) (st2 := st2) (by simpa using hl) (by simpa using h2) (by simpa [bCt] using hc)
   simp only [bMd] at this
   have hs : D.noOwn x = true ∨ spS O r p = true := hs
   simp [bMd, bAs, bLn, putA, this, bTree, hu, isUn, hs, chkO]
 | [], _ :: _, _, hl, _, _, _ => by simp at hl
 | _ :: _, [], _, hl, _, _, _ => by simp at hl
 | [], _, _ :: _, _, h2, _, _ => by simp at h2
 | _ :: _, _, [], _, h2, _, _ => by simp at h2
theorem bLndI {H : Hp} {σ : St} {r : Nat} {p : Pth} : ∀ {ms : List BM} {st : List D} {vs : List V}, ms.length = st.length → st.length = vs.length → LndI H σ (bMd ms) (bAs r p ms st) vs → ∀ (i : Nat) (v : V), ms[i]? = some .al → vs[i]? = some v → HPs H σ r p v
 | [], _, _, _, _, _, i, v, h, _ => by simp at h
 | .io :: ms, d :: st, u :: vs, hl, hv, h, i, v, h1, h2 => by
   cases i with
   | zero => simp at h1
   | succ i => exact bLndI (ms := ms) (st := st) (vs := vs) (by simpa using hl) (by simpa using hv) (by simpa [bMd, bAs, LndI] using h) i v (by simpa using h1) (by simpa using h2)
 | .hd :: ms, d :: st, u :: vs, hl, hv, h, i, v, h1, h2 => by
   cases i with
   | zero => simp at h1
   | succ i => exact bLndI (ms := ms) (st := st) (vs := vs) (by simpa using hl) (by simpa using hv) (by simpa [bMd, bAs, LndI] using h) i v (by simpa using h1) (by simpa using h2)
 | .al :: ms, d :: st, u :: vs, hl, hv, h, i, v, h1, h2 => by
   have h : HPs H σ r p u ∧ LndI H σ (bMd ms) (bAs r p ms st) vs := by simpa [bMd, bAs, LndI] using h
   cases i with
   | zero => simp at h2; subst h2; exact h.1
   | succ i => exact bLndI (ms := ms) (st := st) (vs := vs) (by simpa using hl) (by simpa using hv) h.2 i v (by simpa using h1) (by simpa using h2)
 | _ :: _, [], _, hl, _, _, _, _, _, _ => by simp at hl
 | _ :: _, _ :: _, [], _, hv, _, _, _, _, _ => by simp at hv
theorem bFin {G : Gd} : ∀ {ms : List BM} {st2 : List D} {us1 us2 : List V} {os : Ct}, ms.length = st2.length → us1.length = us2.length → (∀ (i : Nat) (v w : V), ms[i]? = some .al → us1[i]? = some v → us2[i]? = some w → v = w) → RpL G st2 us2 os → ∃ o1 o2, RpL G (bIo ms st2) us2 o1 ∧ RpL G (bLn ms st2) us1 o2 ∧ ∀ b, o1 b + o2 b ≤ os b
 | [], _, [], _, _, _, _, _, .nil h => ⟨fun _ => 0, fun _ => 0, .nil fun _ => rfl, .nil fun _ => rfl, fun b => by simp⟩
 | .io :: ms, _, v1 :: us1, _, os, hl, hu, h, .cons (o1 := a) (o2 := c) x t e0 => by
   obtain ⟨o1, o2, r1, r2, e⟩ := bFin (ms := ms) (us1 := us1) (by simpa using hl) (by simpa using hu) (fun i v w q1 q2 q3 => h (i + 1) v w (by simpa using q1) (by simpa using q2) (by simpa using q3)) t
   exact ⟨fun b => a b + o1 b, o2, .cons x r1 (fun _ => rfl), .cons (o1 := fun _ => 0) (.un fun _ => rfl) r2 (fun b => by simp), fun b => by have := e b; rw [e0]; (try dsimp only); omega⟩
 | .hd :: ms, _, v1 :: us1, _, os, hl, hu, h, .cons (o1 := a) (o2 := c) x t e0 => by
   obtain ⟨o1, o2, r1, r2, e⟩ := bFin (ms := ms) (us1 := us1) (by simpa using hl) (by simpa using hu) (fun i v w q1 q2 q3 => h (i + 1) v w (by simpa using q1) (by simpa using q2) (by simpa using q3)) t
   exact ⟨o1, o2, .cons (o1 := fun _ => 0) (.un fun _ => rfl) r1 (fun b => by simp), .cons (o1 := fun _ => 0) (.un fun _ => rfl) r2 (fun b => by simp), fun b => by have := e b; rw [e0]; (try dsimp only); omega⟩
 | .al :: ms, _, v1 :: us1, _, os, hl, hu, h, .cons (o1 := a) (o2 := c) x t e0 => by
   obtain ⟨o1, o2, r1, r2, e⟩ := bFin (ms := ms) (us1 := us1) (by simpa using hl) (by simpa using hu) (fun i v w q1 q2 q3 => h (i + 1) v w (by simpa using q1) (by simpa using q2) (by simpa using q3)) t
   have ev := h 0 v1 _ rfl rfl rfl
   subst ev
   exact ⟨o1, fun b => a b + o2 b, .cons (o1 := fun _ => 0) (.un fun _ => rfl) r1 (fun b => by simp), .cons x r2 (fun _ => rfl), fun b => by have := e b; rw [e0]; (try dsimp only); omega⟩
 | [], _, _ :: _, _, _, _, hu, _, .nil _ => by simp at hu
 | _ :: _, _, [], _, _, _, hu, _, .cons _ _ _ => by simp at hu
theorem bMerge {G : Gd} : ∀ {ms : List BM} {O st2 : List D} {us1 us2 : List V} {o1 o2 : Ct}, ms.length = st2.length → (∀ (i : Nat) (d : D) (v w : V), ms[i]? = some .hd → O[i]? = some d → us1[i]? = some v → us2[i]? = some w → d = .un ∨ v = w) → RpL G O us1 o1 → RpL G (bIo ms st2) us2 o2 → us1.length = us2.length → ∃ os, RpL G (bMrg ms O st2) us2 os ∧ ∀ b, os b ≤ o1 b + o2 b
 | [], _, [], _, _, o1, o2, _, _, _, .nil h, _ => ⟨fun _ => 0, by cases ‹List D› <;> exact .nil fun _ => rfl, fun b => by simp⟩
 | .io :: ms, _, y :: st2, _, _, o1, o2, hl, h, .cons (o1 := a1) (o2 := c1) x1 t1 e1, .cons (o1 := a2) (o2 := c2) x2 t2 e2, hu => by
   obtain ⟨os, r, e⟩ := bMerge (ms := ms) (st2 := st2) (by simpa using hl) (fun i d v w q1 q2 q3 q4 => h (i + 1) d v w (by simpa using q1) (by simpa using q2) (by simpa using q3) (by simpa using q4)) t1 t2 (by simpa using hu)
   exact ⟨fun b => a2 b + os b, .cons x2 r (fun _ => rfl), fun b => by have := e b; rw [e1, e2]; (try dsimp only); omega⟩
 | .hd :: ms, _, y :: st2, _, _, o1, o2, hl, h, .cons (o1 := a1) (o2 := c1) x1 t1 e1, .cons (o1 := a2) (o2 := c2) x2 t2 e2, hu => by
   obtain ⟨os, r, e⟩ := bMerge (ms := ms) (st2 := st2) (by simpa using hl) (fun i d v w q1 q2 q3 q4 => h (i + 1) d v w (by simpa using q1) (by simpa using q2) (by simpa using q3) (by simpa using q4)) t1 t2 (by simpa using hu)
   rcases h 0 _ _ _ rfl rfl rfl rfl with e0 | e0 <;> subst e0
   · exact ⟨os, .cons (o1 := fun _ => 0) (.un fun _ => rfl) r (fun b => by simp), fun b => by have := e b; rw [e1, e2]; (try dsimp only); omega⟩
   · exact ⟨fun b => a1 b + os b, .cons x1 r (fun _ => rfl), fun b => by have := e b; rw [e1, e2]; (try dsimp only); omega⟩
 | .al :: ms, _, y :: st2, _, _, o1, o2, hl, h, .cons (o1 := a1) (o2 := c1) x1 t1 e1, .cons (o1 := a2) (o2 := c2) x2 t2 e2, hu => by
   obtain ⟨os, r, e⟩ := bMerge (ms := ms) (st2 := st2) (by simpa using hl) (fun i d v w q1 q2 q3 q4 => h (i + 1) d v w (by simpa using q1) (by simpa using q2) (by simpa using q3) (by simpa using q4)) t1 t2 (by simpa using hu)
   exact ⟨os, .cons (o1 := fun _ => 0) (.un fun _ => rfl) r (fun b => by simp), fun b => by have := e b; rw [e1, e2]; (try dsimp only); omega⟩
 | _ :: _, _, [], _, _, _, _, hl, _, _, _, _ => by simp at hl
 | [], _, _ :: _, _, _, _, _, hl, _, _, _, _ => by simp at hl
 | .io :: _, _, _ :: _, _, _, _, _, _, _, .nil _, .cons _ _ _, hu => by simp at hu
 | .hd :: _, _, _ :: _, _, _, _, _, _, _, .nil _, .cons _ _ _, hu => by simp at hu
 | .al :: _, _, _ :: _, _, _, _, _, _, _, .nil _, .cons _ _ _, hu => by simp at hu
theorem bLen {r : Nat} {p : Pth} {e : D} : ∀ {ms : List BM} {st : List D}, ms.length = st.length → (bOut ms st).length = ms.length ∧ (bVis e ms st).length = ms.length ∧ (bAs r p ms st).length = ms.length ∧ (bIo ms st).length = ms.length ∧ (bLn ms st).length = ms.length
 | [], [], _ => ⟨rfl, rfl, rfl, rfl, rfl⟩
 | m :: ms, d :: st, h => by
   obtain ⟨a, b, c, f, g⟩ := bLen (r := r) (p := p) (e := e) (ms := ms) (st := st) (by simpa using h)
   cases m <;> simp [bOut, bVis, bAs, bIo, bLn, a, b, c, f, g]
 | [], _ :: _, h => by simp at h
 | _ :: _, [], h => by simp at h
theorem bOut_get : ∀ {ms : List BM} {st : List D} {i : Nat} {d : D}, (bOut ms st)[i]? = some d → d ≠ .un → st[i]? = some d ∧ ms[i]? = some .hd
 | [], st, i, d, h, _ => by cases st <;> simp [bOut] at h
 | m :: ms, [], i, d, h, _ => by cases m <;> simp [bOut] at h
 | m :: ms, x :: st, 0, d, h, hd => by
   cases m <;> simp [bOut] at h
   · exact absurd h.symm hd
   · exact ⟨by simp [h], rfl⟩
   · exact absurd h.symm hd
 | m :: ms, x :: st, i + 1, d, h, hd => by
   have : (bOut ms st)[i]? = some d := by cases m <;> simpa [bOut] using h
   obtain ⟨a, b⟩ := bOut_get this hd
   exact ⟨by simpa using a, by simpa using b⟩
theorem bVis_get {e : D} : ∀ {ms : List BM} {st : List D} {i : Nat} {d : D}, (bVis e ms st)[i]? = some d → d ≠ .un → (ms[i]? = some .io ∧ st[i]? = some d) ∨ ms[i]? = some .al
 | [], st, i, d, h, _ => by cases st <;> simp [bVis] at h
 | m :: ms, [], i, d, h, _ => by cases m <;> simp [bVis] at h
 | m :: ms, x :: st, 0, d, h, hd => by
   cases m <;> simp [bVis] at h
   · exact .inl ⟨rfl, by simp [h]⟩
   · exact absurd h.symm hd
   · exact .inr rfl
 | m :: ms, x :: st, i + 1, d, h, hd => by
   have : (bVis e ms st)[i]? = some d := by cases m <;> simpa [bVis] using h
   rcases bVis_get this hd with ⟨a, b⟩ | a
   · exact .inl ⟨by simpa using a, by simpa using b⟩
   · exact .inr (by simpa using a)
theorem bMrg_get : ∀ {ms : List BM} {O st : List D} {i : Nat} {d : D}, (bMrg ms O st)[i]? = some d → d ≠ .un → (ms[i]? = some .io ∧ st[i]? = some d) ∨ (ms[i]? = some .hd ∧ O[i]? = some d)
 | [], O, st, i, d, h, _ => by cases O <;> cases st <;> simp [bMrg] at h
 | m :: ms, [], st, i, d, h, _ => by cases m <;> simp [bMrg] at h
 | m :: ms, _ :: _, [], i, d, h, _ => by cases m <;> simp [bMrg] at h
 | m :: ms, y :: O, x :: st, 0, d, h, hd => by
   cases m <;> simp [bMrg] at h
   · exact .inl ⟨rfl, by simp [h]⟩
   · exact .inr ⟨rfl, by simp [h]⟩
   · exact absurd h.symm hd
 | m :: ms, y :: O, x :: st, i + 1, d, h, hd => by
   have : (bMrg ms O st)[i]? = some d := by cases m <;> simpa [bMrg] using h
   rcases bMrg_get this hd with ⟨a, b⟩ | ⟨a, b⟩
   · exact .inl ⟨by simpa using a, by simpa using b⟩
   · exact .inr ⟨by simpa using a, by simpa using b⟩
theorem noBorL_app2 : ∀ (xs ys : List D), D.noBorL (xs ++ ys) = (D.noBorL xs && D.noBorL ys)
 | [], ys => by simp [D.noBorL]
 | x :: xs, ys => by simp [D.noBorL, noBorL_app2 xs ys, Bool.and_assoc]
theorem bNb : ∀ {ms : List BM} {st : List D}, D.noBorL st = true → D.noBorL (bIo ms st) = true ∧ D.noBorL (bLn ms st) = true
 | [], st, _ => by cases st <;> exact ⟨rfl, rfl⟩
 | m :: ms, [], _ => by cases m <;> exact ⟨rfl, rfl⟩
 | m :: ms, x :: st, h => by
   simp only [D.noBorL, Bool.and_eq_true] at h
   obtain ⟨a, b⟩ := bNb (ms := ms) h.2
   cases m <;> simp [bIo, bLn, D.noBorL, D.noBor, a, b, h.1]
theorem HoK.noxd {CA : Str → Option Addr} {H : Hp} {a : Addr} {vs : List V} {k : Kd} (h : HoK CA H a vs k) (hf : k.fl = some .own) : ∃ o, H a = some o ∧ ∀ fs, o ≠ .xd fs := by
 cases k with
 | lst f => exact ⟨_, h, fun fs z => nomatch z⟩
 | tup => cases hf
 | dct f ks => exact ⟨_, h.2, fun fs z => nomatch z⟩
 | dtp f ks => exact ⟨_, h.2, fun fs z => nomatch z⟩
 | ins f c ns => obtain ⟨_, _, _, _, q⟩ := h; exact ⟨_, q, fun fs z => nomatch z⟩
mutual
theorem Rp.noxd {G : Gd} : ∀ {d : D} {v : V} {os : Ct}, Rp G d v os → ∀ b, 0 < os b → ∃ o, G.H b = some o ∧ ∀ fs, o ≠ .xd fs
 | _, _, _, .un h, b, p | _, _, _, .non h, b, p | _, _, _, .bl h, b, p | _, _, _, .int h, b, p | _, _, _, .str h, b, p | _, _, _, .scr _ h, b, p | _, _, _, .exc _ h, b, p => by rw [h] at p; (try dsimp only at *); omega
 | _, _, _, .nd (k := k) (a := a) (os := os) (os' := os') hk r n, b, p => by
   revert n
   generalize hfl : k.fl = f
   intro n
   match f, n with
   | none, n => exact RpL.noxd r b (by rw [← n.2]; exact p)
   | some .own, n =>
     by_cases hb : b = a
     · subst hb; exact hk.noxd hfl
     · exact RpL.noxd r b (by have := n.2.2 b; rw [one_ne hb] at this; (try dsimp only at *); omega)
   | some .bor, n => have := n.2.2 b; (try dsimp only at *); omega
   | some .fz, n => have := n.2.2.2 b; (try dsimp only at *); omega
theorem RpL.noxd {G : Gd} : ∀ {xs : List D} {vs : List V} {os : Ct}, RpL G xs vs os → ∀ b, 0 < os b → ∃ o, G.H b = some o ∧ ∀ fs, o ≠ .xd fs
 | _, _, _, .nil h, b, p => by rw [h] at p; (try dsimp only at *); omega
 | _, _, _, .cons (o1 := o1) r t h, b, p => by
   by_cases q : 0 < o1 b
   · exact Rp.noxd r b q
   · exact RpL.noxd t b (by rw [h] at p; (try dsimp only at *); omega)
end
section
variable {C : Cc} {st ds : List D} {σ : St} {vs : List V} {H : Hp}
theorem SX.blk {ms : List BM} {r : Nat} {p : Pth} {e : D} (s : SX C st ds σ vs H) (hl : ds.length = vs.length) (lm : ms.length = st.length) (hc : bCt ms = 1) (he : getS (bOut ms st) r p = some e) (hp : bHp H σ r p ms (σ.map gd)) (ha : ∀ i : Nat, ms[i]? = some BM.al → ∃ v, σ[i]? = some (some v)) :
   ∃ (osv : Ct) (B : Addr → Prop) (fx : Nat → Option V), (∀ i : Nat, ms[i]? = some BM.io → fx i = C.fx i) ∧ ((∀ (i : Nat) (m : BM) (v : V), ms[i]? = some m → m ≠ .io → σ[i]? = some (some v) → fx i = some v) ∧ (∃ (Z : Addr → Prop) (oD : Ct), RpL (C.G Z H) ds vs oD ∧ ∀ b, 0 < oD b → osv b = 0) ∧ ∀ b, 0 < osv b → ∃ o, H b = some o ∧ ∀ fs, o ≠ .xd fs) ∧ SX ⟨C.K, C.CA, H, osv, B, C.W, fx, C.n⟩ (bVis e ms st) [] σ [] H ∧
     ∀ st2 ds2 σ2 vs2 H2, SX ⟨C.K, C.CA, H, osv, B, C.W, fx, C.n⟩ st2 ds2 σ2 vs2 H2 → ds2.length = vs2.length → D.noBorL (st2 ++ ds2) = true → (D.noOwn (bTree ms st2) = true ∨ spS (bOut ms st) r p = true) → SX C (bMrg ms (setS (bOut ms st) r p (bTree ms st2)) st2) (ds ++ ds2) σ2 (vs ++ vs2) H2 ∧
       (∀ (i : Nat) (v : V), ms[i]? = some BM.al → σ[i]? = some (some v) → HPs H2 σ r p v) ∧ ∀ (i : Nat) (m : BM) (v : V), ms[i]? = some m → m ≠ .io → σ[i]? = some (some v) → σ2[i]? = some (some v) := by
 obtain ⟨Z, os, s⟩ := s
 obtain ⟨o1, o2, r1, r2, e0⟩ := s.cut
 obtain ⟨oa, ob, ra, rb, eab⟩ := bSplit (r := r) (p := p) lm r1
 have lσ : st.length = (σ.map gd).length := by rw [List.length_map]; exact s.ln
 have t : SX C (bOut ms st) (ds ++ (bAs r p ms st).map AD.d) σ (vs ++ σ.map gd) H :=
   (s.mk2 (o2 := fun b => o2 b + ob b) (os' := fun b => oa b + (o2 b + ob b)) ra (r2.app rb fun _ => rfl) (fun _ => rfl) (fun b => by have := eab b; rw [e0]; (try dsimp only); omega) (fun i d h hd => s.sl i d (bOut_get h hd).1 hd)).sx
 have hx : getS (setS (bOut ms st) r p .un) r p = some .un := getS_set he
 obtain ⟨osv, B, P, hid, k⟩ := t.call0 hl (bLnd lm lσ hp) (bTake he lm hc) (bArgs (e := e) hx lm)
 obtain ⟨l1, l2, l3, l4, l5⟩ := bLen (r := r) (p := p) (e := e) lm
 refine ⟨osv, B, fun i => match ms[i]? with
   | some .io => C.fx i
   | some _ => (σ[i]?).join
   | none => C.fx i, fun i hi => by simp [hi], ⟨fun i m v h1 h2 h3 => by
     cases m with
     | io => exact absurd rfl h2
     | hd => simp [h1, h3]
     | al => simp [h1, h3], hid, fun b hb => P.rp.noxd b hb⟩, ⟨fun a => 0 < osv a, osv, ⟨by
   have h := P.rp
   show RpL ⟨C.K, C.CA, H, fun a => 0 < osv a, B⟩ (bVis e ms st ++ []) (σ.map gd ++ []) osv
   simpa using h, P.nd, by rw [l2, lm]; exact s.ln, fun i d h hd => ?_, fun a o q _ => q, fun a z => .inl z, P.al, P.bb, fun i v h => ?_, s.fx.2⟩⟩, fun st2 ds2 σ2 vs2 H2 s2 hl2 nb hq => ?_⟩
 · rcases bVis_get h hd with ⟨_, b⟩ | a
   · exact s.sl i d b hd
   · exact ha i a
 · have h : (match ms[i]? with
     | some .io => C.fx i
     | some _ => (σ[i]?).join
     | none => C.fx i) = some v := h
   split at h
   · exact s.fx.1 i v h
   · exact Option.join_eq_some_iff.mp h
   · exact s.fx.1 i v h
 · obtain ⟨Z2, os2, s2⟩ := s2
   have pin : ∀ (i : Nat) (m : BM) (v : V), ms[i]? = some m → m ≠ .io → σ[i]? = some (some v) → σ2[i]? = some (some v) := fun i m v h1 h2 h3 => s2.fx.1 i v (by
     show (match ms[i]? with
       | some .io => C.fx i
       | some _ => (σ[i]?).join
       | none => C.fx i) = some v
     rw [h1]
     cases m with
     | io => exact absurd rfl h2
     | hd => simp [h3]
     | al => simp [h3])
   obtain ⟨p1, p2, q1, q2, e2⟩ := s2.cut
   have ln2 : st2.length = σ2.length := s2.ln
   have n2 : σ2.length = σ.length := by have h1 := s2.fx.2; have h2 := s.fx.2; simp only at h1; omega
   have ln1 := s.ln
   have lm2 : ms.length = st2.length := by omega
   have hu : (σ.map gd).length = (σ2.map gd).length := by rw [List.length_map, List.length_map, n2]
   obtain ⟨p3, p4, q3, q4, e4⟩ := bFin (us1 := σ.map gd) lm2 hu (fun i v w h1 h2 h3 => by
     obtain ⟨x, hx⟩ := ha i h1
     have := pin i .al x h1 (by simp) hx
     rw [List.getElem?_map, hx] at h2
     rw [List.getElem?_map, this] at h3
     simp at h2 h3
     rw [← h2, ← h3]) q1
   obtain ⟨nb1, nb2⟩ : D.noBorL st2 = true ∧ D.noBorL ds2 = true := by rw [noBorL_app2, Bool.and_eq_true] at nb; exact nb
   obtain ⟨nb3, nb4⟩ := bNb (ms := ms) nb1
   obtain ⟨_, _, _, l6, l7⟩ := bLen (r := r) (p := p) (e := e) lm2
   have Po : Post C.K C.CA H osv B ((bIo ms st2 ++ ds2) ++ bLn ms st2) ((σ2.map gd ++ vs2) ++ σ.map gd) H2 Z2 (fun b => (p3 b + p2 b) + p4 b) :=
     ⟨(q3.app q2 fun _ => rfl).app q4 fun _ => rfl, fun b => by have := s2.nd b; have := e4 b; rw [e2] at *; (try dsimp only); omega, s2.kp, s2.fr, s2.al⟩
   have hq' : D.noOwn (bTree ms st2) = true ∨ spS (setS (bOut ms st) r p .un) r p = true := by rw [spS_set he]; exact hq
   have lx : (bIo ms st2 ++ ds2).length = (σ2.map gd ++ vs2).length := by simp [l6, lm2, ln2, hl2]
   obtain ⟨S', hL'⟩ := k (bIo ms st2 ++ ds2) (σ2.map gd ++ vs2) (bLn ms st2) H2 Z2 _ lx Po (by rw [noBorL_app2, noBorL_app2, nb3, nb2, nb4]; rfl)
   have S := SX.putA (ds := ds ++ (bIo ms st2 ++ ds2)) (vs := vs ++ (σ2.map gd ++ vs2)) (by simpa [List.append_assoc] using S') (by simp only [List.length_append] at lx ⊢; omega) hL' (bPut hx lm lm2 hc hq')
   refine ⟨?_, fun i v h1 h2 => bLndI lm lσ hL' i v h1 (by rw [List.getElem?_map, h2]; rfl), pin⟩
   rw [setS_set he] at S
   obtain ⟨Z3, os3, S⟩ := S
   obtain ⟨a1, a2, x1, x2, y1⟩ := S.cut
   obtain ⟨a3, a4, x3, x4, y2⟩ := RpL.cut hl x2
   obtain ⟨a5, a6, x5, x6, y3⟩ := RpL.cut (by rw [l6, lm2, ln2]; simp) x4
   obtain ⟨a7, x7, y4⟩ := bMerge lm2 (fun i d v w h1 h2 h3 h4 => by
     by_cases hd : d = .un
     · exact .inl hd
     · obtain ⟨x, hx⟩ := S.sl i d h2 hd
       have := pin i .hd x h1 (by simp) hx
       rw [List.getElem?_map, hx] at h3
       rw [List.getElem?_map, this] at h4
       simp at h3 h4
       exact .inr (by rw [← h3, ← h4])) x1 x5 hu
   refine ⟨Z3, fun b => a7 b + (a3 b + a6 b), ⟨x7.app (x3.app x6 fun _ => rfl) fun _ => rfl, fun b => by have := S.nd b; have := y4 b; rw [y1, y2, y3] at *; (try dsimp only); omega, ?_, fun i d h hd => ?_, S.kp, S.fr, S.al, S.bb, fun i v h => ?_, s2.fx.2⟩⟩
   · have := x7.len
     simpa using this
   · rcases bMrg_get h hd with ⟨_, b⟩ | ⟨a, b⟩
     · exact s2.sl i d b hd
     · obtain ⟨x, hx⟩ := S.sl i d b hd
       exact ⟨x, pin i .hd x a (by simp) hx⟩
   · have h3 := s.fx.1 i v h
     cases q : ms[i]? with
     | none =>
       exact s2.fx.1 i v (by
         show (match ms[i]? with
           | some .io => C.fx i
           | some _ => (σ[i]?).join
           | none => C.fx i) = some v
         rw [q]; exact h)
     | some m =>
       cases m with
       | io =>
         exact s2.fx.1 i v (by
           show (match ms[i]? with
             | some .io => C.fx i
             | some _ => (σ[i]?).join
             | none => C.fx i) = some v
           rw [q]; exact h)
       | hd => exact pin i .hd v q (by simp) h3
       | al => exact pin i .al v q (by simp) h3
end
end PV
namespace PV
open PySem L2
section
variable {X : Cx} {C : Cc} {st ds : List D} {σ : L2.St} {vs : List V} {H H' : Hp} {a b e o : Expr} {pos spos py : Pos} {ma mb : List D → R D} {sa sb : Bool} {qa qb : List D → Option PL} {s1 : Stmt} {ss : List Stmt} {m : MS} {Dn : Ends}
end
end PV
namespace PV
open PySem L2
section
variable {X : Cx} {C : Cc} {st ds : List D} {σ : L2.St} {vs : List V} {H H' : Hp} {a b e o tg : Expr} {pos spos py : Pos} {qa qb : List D → Option PL} {s1 : Stmt} {ss : List Stmt} {m : MS} {Dn : Ends} {ms : List BM}
theorem SX.pin {r : Nat} {v : V} (s : SX C st ds σ vs H) (h : σ[r]? = some (some v)) : SX ⟨C.K, C.CA, C.H0, C.os0, C.B, C.W, fun i => if i = r then some v else C.fx i, C.n⟩ st ds σ vs H := by
 obtain ⟨Z, os, s⟩ := s
 refine ⟨Z, os, s.rp, s.nd, s.ln, s.sl, s.kp, s.fr, s.al, s.bb, fun i w hi => ?_, s.fx.2⟩
 have hi : (if i = r then some v else C.fx i) = some w := hi
 by_cases q : i = r
 · subst q; rw [if_pos rfl] at hi; cases hi; exact h
 · rw [if_neg q] at hi; exact s.fx.1 i w hi
theorem SX.unpin {r : Nat} {v : V} (hr : C.fx r = none ∨ C.fx r = some v) (s : SX ⟨C.K, C.CA, C.H0, C.os0, C.B, C.W, fun i => if i = r then some v else C.fx i, C.n⟩ st ds σ vs H) : SX C st ds σ vs H ∧ σ[r]? = some (some v) := by
 obtain ⟨Z, os, s⟩ := s
 refine ⟨⟨Z, os, s.rp, s.nd, s.ln, s.sl, s.kp, s.fr, s.al, s.bb, fun i w hi => ?_, s.fx.2⟩, s.fx.1 r v (by simp)⟩
 by_cases q : i = r
 · subst q
   rcases hr with hr | hr
   · rw [hr] at hi; cases hi
   · rw [hr] at hi; cases hi; exact s.fx.1 i v (by simp)
 · exact s.fx.1 i w (by show (if i = r then some v else C.fx i) = some w; rw [if_neg q]; exact hi)
theorem rZ.pin {r : Nat} {v : V} (hr : C.fx r = none ∨ C.fx r = some v) : ∀ {rs : RS}, rZ C ds vs Dn rs → rZ ⟨C.K, C.CA, C.H0, C.os0, C.B, C.W, fun i => if i = r then some v else C.fx i, C.n⟩ ds vs Dn rs
 | .nx _, h => fun σ' H' s => h σ' H' (s.unpin hr).1
 | .bk _, h => fun σ' H' s => h σ' H' (s.unpin hr).1
 | .ct _, h => fun σ' H' s => h σ' H' (s.unpin hr).1
 | .rt _ _, h => fun v σ' H' s => h v σ' H' (s.unpin hr).1
 | .ex _ _, h => fun σ' cls dx us H' s k => h σ' cls dx us H' (s.unpin hr).1 k
 | .stuck, h => h
end
end PV
namespace PV
open PySem L2 PySem.Spec
section
variable {X : Cx} {C : Cc} {st ds : List D} {σ : L2.St} {vs : List V} {H H' : Hp} {a b e o f k v tg elt : Expr} {pos p p2 apos pos' cpos : Pos} {ma mb mc : List D → R D} {sa sb sc : Bool} {ss : List Stmt} {m : MS} {qa qb qo qi qv : List D → Option PL}
end
end PV
namespace PV
open PySem L2
section
variable {X : Cx} {C : Cc} {st ds : List D} {σ : L2.St} {vs : List V} {H H' : Hp} {a b e o : Expr} {pos : Pos} {ma mb : List D → R D} {sa sb : Bool}
end
end PV
namespace PV
open PySem L2
section
variable {X : Cx} {C : Cc} {st ds : List D} {σ : L2.St} {vs : List V} {H H' : Hp} {a b : Expr} {pos p2 : Pos}
end
end PV
namespace PV
open PySem L2
theorem al_one : ∀ {ms : List BM} {i j : Nat}, bCt ms = 1 → ms[i]? = some .al → ms[j]? = some .al → i = j
 | [], i, j, _, h, _ => by simp at h
 | .io :: ms, 0, _, _, h, _ => by simp at h
 | .hd :: ms, 0, _, _, h, _ => by simp at h
 | .io :: ms, _ + 1, 0, _, _, h => by simp at h
 | .hd :: ms, _ + 1, 0, _, _, h => by simp at h
 | .io :: ms, i + 1, j + 1, hc, h1, h2 => by rw [al_one (ms := ms) (i := i) (j := j) (by simpa [bCt] using hc) (by simpa using h1) (by simpa using h2)]
 | .hd :: ms, i + 1, j + 1, hc, h1, h2 => by rw [al_one (ms := ms) (i := i) (j := j) (by simpa [bCt] using hc) (by simpa using h1) (by simpa using h2)]
 | .al :: ms, i, j, hc, h1, h2 => by
   have key : ∀ {ms : List BM} {k : Nat}, bCt ms = 0 → ms[k]? ≠ some .al := fun {ms} => by
     induction ms with
     | nil => intro k _ h; simp at h
     | cons m ms ih =>
       intro k hz h
       cases m with
       | al => simp [bCt] at hz
       | io => cases k with
         | zero => simp at h
         | succ k => exact ih (k := k) (by simpa [bCt] using hz) (by simpa using h)
       | hd => cases k with
         | zero => simp at h
         | succ k => exact ih (k := k) (by simpa [bCt] using hz) (by simpa using h)
   have hz : bCt ms = 0 := by simpa [bCt] using hc
   cases i with
   | zero => cases j with
     | zero => rfl
     | succ j => exact absurd (by simpa using h2) (key (k := j) hz)
   | succ i => exact absurd (by simpa using h1) (key (k := i) hz)
theorem al_out : ∀ {ms : List BM} {st : List D} {i : Nat}, ms.length = st.length → ms[i]? = some .al → (bOut ms st)[i]? = some .un
 | [], _, i, _, h => by simp at h
 | m :: ms, [], i, h, _ => by simp at h
 | m :: ms, d :: st, 0, h, q => by
   obtain rfl : m = .al := by simpa using q
   simp [bOut]
 | m :: ms, d :: st, i + 1, h, q => by
   have := al_out (ms := ms) (st := st) (i := i) (by simpa using h) (by simpa using q)
   cases m <;> simpa [bOut] using this
theorem al_tree : ∀ {ms : List BM} {st : List D} {i : Nat} {d : D}, bCt ms = 1 → ms[i]? = some .al → st[i]? = some d → bTree ms st = d
 | [], _, i, _, _, h, _ => by simp at h
 | m :: ms, [], i, _, _, _, h => by simp at h
 | .al :: ms, x :: st, i, d, hc, q, h => by
   obtain rfl : 0 = i := al_one hc (by rfl) q
   simpa [bTree] using h
 | .io :: ms, x :: st, 0, d, hc, q, h => by simp at q
 | .hd :: ms, x :: st, 0, d, hc, q, h => by simp at q
 | .io :: ms, x :: st, i + 1, d, hc, q, h => by simpa [bTree] using al_tree (ms := ms) (st := st) (i := i) (by simpa [bCt] using hc) (by simpa using q) (by simpa using h)
 | .hd :: ms, x :: st, i + 1, d, hc, q, h => by simpa [bTree] using al_tree (ms := ms) (st := st) (i := i) (by simpa [bCt] using hc) (by simpa using q) (by simpa using h)
theorem al_hp {H : Hp} {σ : L2.St} {r : Nat} {p : Pth} : ∀ {ms : List BM} {vs : List V}, (∀ (j : Nat) (v : V), ms[j]? = some .al → vs[j]? = some v → HPs H σ r p v) → bHp H σ r p ms vs
 | [], vs, _ => by cases vs <;> exact True.intro
 | .al :: ms, [], _ => True.intro
 | .io :: ms, [], _ => True.intro
 | .hd :: ms, [], _ => True.intro
 | .al :: ms, v :: vs, h => ⟨h 0 v rfl rfl, al_hp fun j w q1 q2 => h (j + 1) w (by simpa using q1) (by simpa using q2)⟩
 | .io :: ms, v :: vs, h => al_hp (ms := ms) (vs := vs) fun j w q1 q2 => h (j + 1) w (by simpa using q1) (by simpa using q2)
 | .hd :: ms, v :: vs, h => al_hp (ms := ms) (vs := vs) fun j w q1 q2 => h (j + 1) w (by simpa using q1) (by simpa using q2)
theorem al_vis (e : D) : ∀ {ms : List BM} {st : List D} {i : Nat}, bCt ms = 1 → ms[i]? = some .al → bVis e ms (st.set i e) = bVis e ms st
 | [], _, i, _, h => by simp at h
 | m :: ms, [], i, _, _ => by simp
 | m :: ms, d :: st, 0, hc, q => by
   obtain rfl : m = .al := by simpa using q
   simp [bVis]
 | m :: ms, d :: st, i + 1, hc, q => by
   cases m with
   | al => exact absurd (al_one hc (show (BM.al :: ms)[0]? = some .al from rfl) q) (by omega)
   | io => simp [bVis, al_vis e (ms := ms) (st := st) (i := i) (by simpa [bCt] using hc) (by simpa using q)]
   | hd => simp [bVis, al_vis e (ms := ms) (st := st) (i := i) (by simpa [bCt] using hc) (by simpa using q)]
theorem al_outs : ∀ {ms : List BM} {st : List D} {i : Nat} {e : D}, ms[i]? = some .al → bOut ms (st.set i e) = bOut ms st
 | [], _, i, _, h => by simp at h
 | m :: ms, [], i, _, _ => by simp
 | m :: ms, d :: st, 0, e, q => by
   obtain rfl : m = .al := by simpa using q
   simp [bOut]
 | m :: ms, d :: st, i + 1, e, q => by
   have := al_outs (ms := ms) (st := st) (i := i) (e := e) (by simpa using q)
   cases m <;> simp [bOut, this]
structure ExIn (C C' : Cc) (a : Addr) (cls : Value) (d : Option Addr) (i : Nat) (e : Ex) : Prop where
 fx : C'.fx i = some (.ref a)
 c : ∃ Ce, C.CA e.c = some Ce ∧ cls = .ref Ce
 p : (e.p = none ∧ d = none) ∨ ∃ (dd l : Addr) (ns : List Int), d = some dd ∧ e.p = some (.nd (.lst .own) (ns.map D.int)) ∧ C'.H0 dd = some (.xd [(e.f, .ref l)]) ∧ C'.os0 dd = 0 ∧ C'.H0 l = some (.lst (ns.map V.int)) ∧ C'.os0 l = 0
def exOk (e : Ex) : Bool := match e.p with
 | none => true
 | some (.nd (.lst .own) xs) => (intsD xs).isSome
 | some _ => false
theorem exOk_is {e : Ex} (h : exOk e = true) : e.p = none ∨ ∃ ns : List Int, e.p = some (.nd (.lst .own) (ns.map D.int)) := by
 unfold exOk at h
 split at h
 · left; assumption
 · rename_i xs q
   obtain ⟨ns, hn⟩ := Option.isSome_iff_exists.mp h
   obtain rfl := intsD_eq hn
   exact .inr ⟨ns, q⟩
 · cases h
section
variable {C : Cc} {st ds : List D} {σ : L2.St} {vs : List V} {H H' : Hp}
theorem SX.pushu (s : SX C st ds σ vs H) (v : V) : SX C st (ds ++ [.un]) σ (vs ++ [v]) H := by
 obtain ⟨Z, os, s⟩ := s
 obtain ⟨o1, o2, r1, r2, e⟩ := s.cut
 exact (s.mk2 r1 (r2.app (os := o2) (RpL.one (os := fun _ => 0) (.un fun _ => rfl)) fun b => by simp) e (fun b => Nat.le_refl _) s.sl).sx
theorem SX.asX {ms : List BM} {i : Nat} {a : Addr} {e : Ex} {cls : Value} {dx : Option Addr} {us : List V} (s : SX C st (ds ++ e.ds) σ (vs ++ us) H) (hl : ds.length = vs.length) (k : ExOk C e cls dx H us) (lm : ms.length = st.length) (hc : bCt ms = 1) (hal : ms[i]? = some .al) (hf : C.fx i = none) (pl : exOk e = true) :
   ∃ C' : Cc, ExIn C C' a cls dx i e ∧ C'.K = C.K ∧ C'.CA = C.CA ∧ C'.W = (fun _ _ _ _ => False) ∧ (∀ j, ms[j]? = some .io → C'.fx j = C.fx j) ∧ SX C' (bVis .un ms st) [] (σ.set i (some (.ref a))) [] H ∧
     ∀ st2 σ2 H2, SX C' st2 [] σ2 [] H2 → st2[i]? = some .un → D.noBorL st2 = true → SX C (bMrg ms (bOut ms st) st2) ds (σ2.set i none) vs H2 := by
 have ln : st.length = σ.length := s.sln
 have hi : i < st.length := by rw [← lm]; exact (List.getElem?_eq_some_iff.mp hal).1
 have s0 := (s.pushu (.ref a)).toSlot hi hf
 have hg : (σ.set i (some (V.ref a)))[i]? = some (some (.ref a)) := by rw [List.getElem?_set_self (by omega)]
 have hlu : e.ds.length = us.length := by have := s.dn; simp at this; omega
 have ls : ms.length = (st.set i D.un).length := by simp [lm]
 obtain ⟨osv, B, fx, f1, ⟨f2, hid, nox⟩, sv, back⟩ := s0.blk (ms := ms) (r := i) (p := []) (e := .un) (by simp; omega) ls hc (by
     unfold getS
     rw [al_out ls hal]
     rfl) (al_hp fun j v hj hv => by
     obtain rfl := al_one hc hal hj
     rw [List.getElem?_map, hg] at hv
     simp at hv
     rw [← hv]
     exact ⟨.ref a, hg, rfl⟩) (fun j hj => by
     obtain rfl := al_one hc hal hj
     exact ⟨_, hg⟩)
 have fxi : fx i = some (.ref a) := f2 i .al _ hal (by simp) hg
 rw [al_vis _ hc hal] at sv
 refine ⟨⟨C.K, C.CA, H, osv, B, fun _ _ _ _ => False, fx, C.n⟩, ⟨fxi, ?_, ?_⟩, rfl, rfl, rfl, f1, sv.setW, fun st2 σ2 H2 s2 hu nb => ?_⟩
 · obtain ⟨Ce, h1, h2, _⟩ := k
   exact ⟨Ce, h1, h2⟩
 · obtain ⟨Ce, _, _, h3⟩ := k
   rcases exOk_is pl with pn | ⟨ns, pn⟩
   · rw [pn] at h3
     exact .inl ⟨pn, h3.1⟩
   · rw [pn] at h3
     obtain ⟨x, v, rfl, hx, rfl⟩ := h3
     have eds : e.ds = [.nd (.lst .own) (ns.map D.int)] := by unfold Ex.ds; rw [pn]
     obtain ⟨Z, oD, rD, hz⟩ := hid
     rw [eds] at rD
     obtain ⟨o1, o2, r1, r2, e1⟩ := RpL.cut hl rD
     have r3 := r2.of1
     cases r3 with
     | nd hk rl n =>
       rename_i l ws ox
       obtain rfl := rpl_ints rl
       have n : _ ∧ _ ∧ ∀ b, o2 b = one l b + ox b := n
       refine .inr ⟨x, l, ns, rfl, pn, hx, ?_, hk, hz l ?_⟩
       · refine Nat.eq_zero_of_not_pos fun z => ?_
         obtain ⟨o, h4, h5⟩ := nox x z
         have h4 : H x = some o := h4
         rw [hx] at h4
         cases h4
         exact h5 _ rfl
       · have := n.2.2 l
         rw [one_self] at this
         rw [e1]; omega
 · have s2' : SX ⟨C.K, C.CA, H, osv, B, C.W, fx, C.n⟩ st2 [] σ2 [] H2 := s2.setW
   obtain ⟨b1, _, b3⟩ := back st2 [] σ2 [] H2 s2' rfl (by simpa using nb) (.inl (by rw [al_tree hc hal hu]; rfl))
   rw [al_tree hc hal hu, al_outs hal, List.append_nil, List.append_nil] at b1
   have so : setS (bOut ms st) i [] .un = bOut ms st := by
     have q := al_out lm hal
     unfold setS
     rw [q]
     exact list_set_same q
   rw [so] at b1
   have b4 := b1.drop hl
   have ui : (bMrg ms (bOut ms st) st2)[i]? = some .un ∨ (bMrg ms (bOut ms st) st2)[i]? = none := by
     cases q : (bMrg ms (bOut ms st) st2)[i]? with
     | none => exact .inr rfl
     | some d =>
       by_cases hd : d = .un
       · subst hd; exact .inl rfl
       · rcases bMrg_get q hd with ⟨h, _⟩ | ⟨h, _⟩ <;> rw [hal] at h <;> cases h
   have b5 := b4.rewipe (σ := σ2.set i none) (ws := [i]) (by simp) (fun j hj => by
     have hij : i ≠ j := fun z => hj (by simp [z])
     rw [List.getElem?_set_ne hij]) (fun j hj => by simp at hj; subst hj; exact hf)
   have e5 : wipeD (bMrg ms (bOut ms st) st2) [i] = bMrg ms (bOut ms st) st2 := by
     rcases ui with ui | ui
     · exact list_set_same ui
     · exact List.set_eq_of_length_le (List.getElem?_eq_none_iff.mp ui)
   rw [e5] at b5
   exact b5
end
inductive HB where | pl (m : MS) | as (i : Nat) (ms : List BM) (m : Ex → MS)
def asEnd (i : Nat) (ms : List BM) (st : List D) : RS → RS
 | .nx st2 => chkS (isUn st2[i]? = true ∧ D.noBorL st2 = true) (.nx (bMrg ms (bOut ms st) st2))
 | _ => .stuck
@[simp] theorem asEnd_nx (i : Nat) (ms : List BM) (st st2 : List D) : asEnd i ms st (.nx st2) = chkS (isUn st2[i]? = true ∧ D.noBorL st2 = true) (.nx (bMrg ms (bOut ms st) st2)) := rfl
def asK (i : Nat) (ms : List BM) (e : Ex) (m : MS) (st : List D) : RS := chkS (exOk e = true ∧ ms.length = st.length ∧ bCt ms = 1 ∧ ms[i]? = some .al) (asEnd i ms st (m (bVis .un ms st)))
@[simp] theorem asK_eq (i : Nat) (ms : List BM) (e : Ex) (m : MS) (st : List D) : asK i ms e m st = chkS (exOk e = true ∧ ms.length = st.length ∧ bCt ms = 1 ∧ ms[i]? = some .al) (asEnd i ms st (m (bVis .un ms st))) := rfl
def hdlB (hi : Str → Str → Option Bool) (e : Ex) (st : List D) : List (Str × HB) → RS
 | [] => .ex e st
 | (y, .pl m) :: r => match hi e.c y with
   | some true => m st
   | some false => hdlB hi e st r
   | none => .stuck
 | (y, .as i ms m) :: r => match hi e.c y with
   | some true => asK i ms e (m e) st
   | some false => hdlB hi e st r
   | none => .stuck
inductive VHB (X : Cx) (C : Cc) : List ExceptHandler → List (Str × HB) → Prop
 | nil : VHB X C [] []
 | cons {x : Str} {b₀ : Stmt} {suite : List Stmt} {np pos' : Pos} {hds : List ExceptHandler} {m : MS} {l : List (Str × HB)} (hg : Gl X x) (hd : (x == ("__debug__" : Str)) = false) (hm : ∃ a, C.CA x = some a ∧ X.mg x = some (.ref a))
     (hb : ∀ (a : Addr) (oe : Obj) (pn : List (Addr × Obj)), VB (X.suite a ((a, oe) :: pn)) C (b₀ :: suite) m) (r : VHB X C hds l) :
     VHB X C (.ExceptHandler (some (.Name x np)) none (b₀ :: suite) pos' :: hds) ((x, .pl m) :: l)
 | as {x n : Str} {i : Nat} {ms : List BM} {b₀ : Stmt} {suite : List Stmt} {np pos' : Pos} {hds : List ExceptHandler} {m : Ex → MS} {l : List (Str × HB)} (hN : X.N.Nodup) (hi : X.N[i]? = some n) (hln : X.env.kindOf n = some .local) (hf : C.fx i = none)
     (hg : Gl X x) (hd : (x == ("__debug__" : Str)) = false) (hm : ∃ a, C.CA x = some a ∧ X.mg x = some (.ref a))
     (hb : ∀ (a : Addr) (oe : Obj) (cls : Value) (d : Option Addr) (pn : List (Addr × Obj)) (e : Ex) (C' : Cc), Zc cls d oe → (∃ vs, oe.data = .fields vs) → ExIn C C' a cls d i e → C'.CA = C.CA → (∀ j, ms[j]? = some .io → C'.fx j = C.fx j) → COk (X.suite a ((a, oe) :: pn)) C' → VB (X.suite a ((a, oe) :: pn)) C' (b₀ :: suite) (m e)) (r : VHB X C hds l) :
     VHB X C (.ExceptHandler (some (.Name x np)) (some n) (b₀ :: suite) pos' :: hds) ((x, .as i ms m) :: l)
section
variable {X : Cx} {C : Cc} {st ds : List D} {σ : L2.St} {vs : List V} {H H' : Hp} {pos : Pos} {Dn : Ends}
theorem VHB.ok (O : COk X C) {hds : List ExceptHandler} {l : List (Str × HB)} (h : VHB X C hds l) : ∃ l', HdsA X hds l' ∧ ∀ (hi : Str → Str → Option Bool) (Hi : Hier C.K C.CA hi) (Dn : Ends) (ds : List D) (vs : List V) (hl : ds.length = vs.length) (e : Ex) (st : List D) (cls : Value) (dx : Option Addr) (us : List V) (σ' : L2.St) (H' : Hp),
   rZ C ds vs Dn (hdlB hi e st l) → SX C st (ds ++ e.ds) σ' (vs ++ us) H' → ExOk C e cls dx H' us → wManyA X.K C.W Dn l' cls dx σ' H' := by
 induction h with
 | nil => exact ⟨[], .nil, fun hi Hi Dn ds vs hl e st cls dx us σ' H' hr s k => hr σ' cls dx us H' s k⟩
 | @cons x b₀ suite np pos' hds m l hg hd hm hb r ih =>
   obtain ⟨l', h1, h2⟩ := ih
   obtain ⟨a, ca, gm⟩ := hm
   refine ⟨(.ref a, none, fun _ _ _ => trS C m) :: l', .cons (nm := none) trivial ⟨hg, hd, .inl gm⟩ (fun a' oe cls d pn _ _ => hb a' oe pn) h1, fun hi Hi Dn ds vs hl e st cls dx us σ' H' hr s k => ?_⟩
   obtain ⟨ae, hae, rfl, kp⟩ := id k
   unfold hdlB at hr
   cases q : hi e.c x with
   | none => rw [q] at hr; exact hr.elim
   | some b =>
     rw [q] at hr
     obtain ⟨c, hc, hx⟩ := Hi _ _ _ q ae hae
     rw [ca] at hc; cases hc
     refine ⟨b, by rw [← O.k]; exact hx, ?_⟩
     cases b with
     | true =>
       intro a' na
       exact ⟨st, ds, vs, s.drop hl, hl, hr⟩
     | false =>
       exact h2 hi Hi Dn ds vs hl e st _ dx us σ' H' hr s k
 | @as x n i ms b₀ suite np pos' hds m l hN hin hln hf hg hd hm hb r ih =>
   obtain ⟨l', h1, h2⟩ := ih
   obtain ⟨a, ca, gm⟩ := hm
   refine ⟨(.ref a, some i, fun a cls d Dn σ H => ∃ (e : Ex) (C' : Cc), ExIn C C' a cls d i e ∧ C'.CA = C.CA ∧ (∀ j, ms[j]? = some .io → C'.fx j = C.fx j) ∧ C'.K = C.K ∧ C'.W = (fun _ _ _ _ => False) ∧ trS C' (m e) Dn σ H) :: l', .cons (nm := some n) ⟨hN, hin, hln⟩ ⟨hg, hd, .inl gm⟩ (fun a' oe cls d pn hz hfl => ⟨fun pins s σ H Dn I ⟨e, C', q1, q2, q3, q4, q5, q6⟩ => (hb a' oe cls d pn e C' hz hfl q1 q2 q3 ⟨q4.trans O.k, fun u s' ⟨a, B, sI, pins, σ, H, cls, d, e, I, nb, up, sky, na, os, ag, w⟩ => by rw [q5] at w; exact w.elim⟩).run pins s σ H Dn I q6⟩) h1, fun hi Hi Dn ds vs hl e st cls dx us σ' H' hr s k => ?_⟩
   obtain ⟨ae, hae, rfl, kp⟩ := id k
   unfold hdlB at hr
   cases q : hi e.c x with
   | none => rw [q] at hr; exact hr.elim
   | some b =>
     rw [q] at hr
     obtain ⟨c', hc, hx⟩ := Hi _ _ _ q ae hae
     rw [ca] at hc; cases hc
     refine ⟨b, by rw [← O.k]; exact hx, ?_⟩
     cases b with
     | true =>
       intro a' na
       have hr : rZ C ds vs Dn (asK i ms e (m e) st) := hr
       by_cases ha : exOk e = true ∧ ms.length = st.length ∧ bCt ms = 1 ∧ ms[i]? = some BM.al
       · rw [asK_eq, chkS_of ha] at hr
         obtain ⟨C', g1, g2, g3, g4, g5, g6, g7⟩ := s.asX (a := a') hl k ha.2.1 ha.2.2.1 ha.2.2.2 hf ha.1
         refine ⟨e, C', g1, g3, g5, g2, g4, bVis .un ms st, [], [], g6, rfl, ?_⟩
         cases qm : m e (bVis .un ms st) with
         | nx st2 =>
           rw [qm] at hr
           by_cases hb2 : isUn st2[i]? = true ∧ D.noBorL st2 = true
           · rw [asEnd_nx, chkS_of hb2] at hr
             intro σ2 H2 s2
             exact hr _ H2 (g7 st2 σ2 H2 s2 (isUn_eq hb2.1) hb2.2)
           · rw [asEnd_nx] at hr
             unfold chkS at hr
             rw [if_neg hb2] at hr
             exact hr.elim
         | rt d st2 => rw [qm] at hr; exact hr.elim
         | bk st2 => rw [qm] at hr; exact hr.elim
         | ct st2 => rw [qm] at hr; exact hr.elim
         | ex e2 st2 => rw [qm] at hr; exact hr.elim
         | stuck => rw [qm] at hr; exact hr.elim
       · unfold asK chkS at hr
         rw [if_neg ha] at hr
         exact hr.elim
     | false =>
       exact h2 hi Hi Dn ds vs hl e st _ dx us σ' H' hr s k
end
@[simp] theorem hdlB_nil (hi : Str → Str → Option Bool) (e : Ex) (st : List D) : hdlB hi e st [] = .ex e st := rfl
@[simp] theorem hdlB_pl (hi : Str → Str → Option Bool) (e : Ex) (st : List D) (y : Str) (m : MS) (r : List (Str × HB)) : hdlB hi e st ((y, .pl m) :: r) = hdlAK (hi e.c y) (m st) (hdlB hi e st r) := by
 rw [hdlB]; rfl
@[simp] theorem hdlB_as (hi : Str → Str → Option Bool) (e : Ex) (st : List D) (y : Str) (i : Nat) (ms : List BM) (m : Ex → MS) (r : List (Str × HB)) : hdlB hi e st ((y, .as i ms m) :: r) = hdlAK (hi e.c y) (asK i ms e (m e) st) (hdlB hi e st r) := by
 rw [hdlB]; rfl
end PV
namespace PySem.W
open PySem PySem.Spec PySem.Calls PyProof.Rows
section
variable {prog : Program} {w : World} {A : Around} {E : Value → Shared → Prop} {s : Shared} {K : Frag} {x D : Addr} {ox od : Obj}
theorem cls_of_exc (T : L2.ExcC K D) {Q : Option Value → Shared → Prop} (X : K.In s.heap) (I : InstAt s.heap x ox D (some od)) (h : Q (some (.ref D)) { s with toks := s.toks + 1 }) : wpAny (model prog w) A (getAttr? (.ref x) "__class__") Q E s := by
 have fo := findObj_data (K := K) (C := D) (od := od) (name := "__class__") (by obtain ⟨c, hc, _⟩ := any_some T.hd; rw [hc]; rfl) T.ha T.hn T.ht
 obtain ⟨hp, gs, dr, tk, os⟩ := s
 have la := I.type (M := model prog w); have lb := looks_findIn (M := model prog w) X T.hg
 have lc := looks_findIn (M := model prog w) X T.hk; have ld := looks_find (M := model prog w) X I fo
 have le : Looks (model prog w) hp (isInstance (.ref x) (.type "BaseException")) true := la.andThen (looks_subIn X T.hs)
 have no : (Value.builtin "BaseException.__getattribute__" == Value.builtin "object.__getattribute__") = false := by decide +kernel
 unfold getAttr? getAttrBy?; unfold getAttrBy
 refine wpAny_bind (wpAny_mkText ?_); refine wpAny_bind (wpAny_attempt (wpAny_holding ?_))
 refine wpAny_bind (la.at ?_); refine wpAny_bind (lb.at ?_)
 show wpAny (model prog w) A (if (onTheHeap (Value.ref D) && Value.builtin "BaseException.__getattribute__" == Value.builtin "object.__getattribute__") = true then _ else _) _ _ _
 rw [if_neg (by rw [no, Bool.and_false]; exact Bool.false_ne_true)]
 unfold getAttrByItsOwn; unfold hookBefore
 refine wpAny_bind ?_
 rw [if_pos (by rfl : onTheHeap (Value.ref D) = true)]
 refine lc.at (wpAny_bind ?_); refine wpAny_attempt ?_; refine wpAny_holding ?_
 unfold callGetattribute; rw [if_neg (by exact Bool.false_ne_true)]
 unfold boundAndCalled; rw [PySem.F.excAttr_ValueError.ga.bind (.ref x)]; refine wpAny_bind (wpAny_pure ?_)
 show wpAny (model prog w) _ (call (.builtin "BaseException.__getattribute__") [.ref x, .str "__class__" tk]) _ _ _
 refine wpAny_call ?_; refine codeAny_call_builtin PySem.F.excAttr_ValueError.ga.plain PySem.F.entry_bexc_ga ?_
 refine @check_slot (model prog w) _ _ ⟨hp, gs, dr, tk + 1, os⟩ "BaseException.__getattribute__" "BaseException" "__getattribute__" (.ref x) [.str "__class__" tk] [] _ (by decide +kernel) (by decide +kernel) le (PySem.F.args_bexc_ga (.ref x) (.str "__class__" tk)) ?_
 unfold Builtin.«object.__getattribute__»
 refine wpAny_bind ?_
 refine wpAny_of_eq (a := ((Value.ref x : Value), [Value.str "__class__" tk])) (by first | exact rfl | (simp only [slotArgs]; exact rfl)) ?_
 refine wpAny_bind (wpAny_pure ?_); refine wpAny_bind (la.at ?_); refine wpAny_bind (ld.at ?_)
 show wpAny (model prog w) _ (holding [Value.builtin "object.__class__"] (call (.builtin "getset_descriptor.__get__") [.builtin "object.__class__", .ref x, .ref D]) >>= ret) _ _ _
 refine wpAny_bind ?_; refine wpAny_holding ?_
 refine wpAny_call (class_get (s := ⟨hp, gs, dr, tk + 1, os⟩) (ox := ox) (od := some od) X I T.hm (wpAny_pure ?_))
 show wpAny (model prog w) _ (handedOut (.ref D)) _ _ _; rw [handedOut_of (v := .ref D) rfl]
 first | exact wpAny_pure (wpAny_pure h) | exact wpAny_pure h | exact wpAny_pure (wpAny_bind (wpAny_pure (wpAny_pure h)))
theorem cls_there (h : hasDictIn K D = true) : ∃ c d cd sl, K.lookup D = some ⟨c, d, .cls cd, sl⟩ := by
 obtain ⟨cd, hc, _⟩ := any_some h
 unfold clsIn at hc
 split at hc
 · rename_i c d cd sl ho; exact ⟨c, d, cd, sl, ho⟩
 · cases hc
theorem kit_exc (T : L2.ExcC K D) : KitX K (.ref x) (.ref D) (fun h => InstAt h x ox D (some od)) where
 ty := fun _ _ _ I => I.type
 it := fun _ _ X _ => by
   obtain ⟨c, d, cd, sl, ho⟩ := cls_there T.hd
   intro A1 Q1 E1 s1 k q
   unfold isType; unfold loadHead
   refine wpAny_bind ?_; exact wpAny_loadPart (k _ _ (X _ _ ho)) (wpAny_pure q)
 ne := fun h tp dd its n sl X htp => by
   obtain ⟨c, d, cd, sl, ho⟩ := cls_there T.hd
   cases q : (Value.ref D == Value.ref tp) with
   | false => rfl
   | true =>
     obtain rfl : D = tp := Value.ref.inj (beq_iff_eq.mp q)
     have z := (X _ _ ho).symm.trans htp
     cases z
 ca := fun X I k => cls_of_exc T X I k
end
end PySem.W
namespace PV
open PySem L2
end PV
namespace PV
open PySem L2
section
variable {X : Cx} {C0 C : Cc} {st ds : List D} {σ : L2.St} {vs : List V} {H H' : Hp} {pos p p1 p2 : Pos} {a : Addr} {oe : Obj} {cls : Value} {d : Option Addr} {pn : List (Addr × Obj)} {i : Nat} {e : Ex}
end
section
variable {X : Cx} {C : Cc} {st ds : List D} {σ : L2.St} {vs : List V} {H H' : Hp} {a : Expr} {pos p : Pos} {ma : List D → R D} {sa : Bool}
end
theorem xw_of {K : PySem.W.Frag} {mg : Str → Option Value} {CA : Str → Option Addr} {x fld : Str} {fI : Addr} (E : OexF K mg CA x fld fI) (xf : ∀ c, CA x = some c → XfC K c) : ∃ Ca, CA x = some Ca ∧ XfC K Ca ∧ PySem.W.findIn K (.ref Ca) fld = some none := by
 obtain ⟨Ca, h1, _, _, _, _, h3⟩ := E.at_
 exact ⟨Ca, h1, xf Ca h1, h3⟩
def excB (K : PySem.W.Frag) (D : Addr) : Bool := decide (PySem.W.findIn K (.ref D) "__getattribute__" = some (some (.builtin "BaseException.__getattribute__"))) && (decide (PySem.W.findIn K (.ref D) "__getattr__" = some none) && (decide (PySem.W.subIn K (.ref D) (.type "BaseException") = some true) && (PySem.W.hasDictIn K D && (decide (PySem.W.findIn K (.ref D) "__class__" = some (some (.builtin "object.__class__"))) &&
 (decide (PySem.W.specialIn K (.builtin "object.__class__") "__get__" = some (some (.builtin "getset_descriptor.__get__"))) && (decide (PySem.W.takesIn K (.builtin "object.__class__") = some true) && decide (PySem.W.mroIn K D (.type "object") = some true)))))))
theorem excB_ok {K : PySem.W.Frag} {D : Addr} (q : excB K D = true) : L2.ExcC K D := by
 unfold excB at q
 simp only [Bool.and_eq_true, decide_eq_true_eq] at q
 exact ⟨q.1, q.2.1, q.2.2.1, q.2.2.2.1, q.2.2.2.2.1, q.2.2.2.2.2.1, q.2.2.2.2.2.2.1, q.2.2.2.2.2.2.2⟩
end PV
namespace PV
open PySem L2
section
variable {P : Program} {w : World} {K : PySem.W.Frag} {mg : Str → Option Value} {base : Heap} {CA : Str → Option Addr}
theorem fn_okO {x qual : Str} {sd : Stmt} {f : Addr} {fd : FuncData} {N ps : List Str} {k : Nat} {ms : List Md} {m : MS} (F : L2.Fun K x qual sd f fd) (S : FnScope N ps (defScope sd)) (hn : ms.length = ps.length)
   (hb : ∀ (cdv : Value) (A : Around) (outer : List Env) (s : Shared) (H : Hp) (E : XK) (H0 : Hp) (os0 : Ct) (B : Addr → Prop) (fx : Nat → Option V), (∀ i, noFx ms i = true → fx i = none) → Room k (A.deeper (PyProof.Rows.envOfC qual (defScope sd) s.heap.objs.size f cdv)) →
     COk (cxOf (L2.CX P w) P w K mg base N qual (defScope sd) f cdv A outer s H E) ⟨K, CA, H0, os0, B, fun cls d _ H' => E cls d H', fx, N.length⟩ → (A.deeper (PyProof.Rows.envOfC qual (defScope sd) s.heap.objs.size f cdv)).units + 64 < cLine →
     VB (cxOf (L2.CX P w) P w K mg base N qual (defScope sd) f cdv A outer s H E) ⟨K, CA, H0, os0, B, fun cls d _ H' => E cls d H', fx, N.length⟩ (defBody sd) m) :
   FnOk P w K mg base (L2.CX P w) (k + 1) f fd ps (spF K CA ps.length (runF ms N.length m)) :=
 fn_ok F S hn fun cdv A outer s H E H0 os0 B fx hfx hr => hb cdv A outer s H E H0 os0 B fx hfx hr ⟨rfl, takes_of rfl rfl rfl rfl⟩ hr.units
end
end PV
namespace PV
open PySem L2
section
variable {X : Cx} {C : Cc} {st ds : List D} {σ : L2.St} {vs : List V} {H H' : Hp} {a b e o tg : Expr} {es : List Expr} {pos p apos : Pos} {qa qb qo : List D → Option PL} {ma mb : List D → R D} {sa sb : Bool} {ss : List Stmt} {m : MS} {Dn : Ends}
end
end PV
namespace PV
open PySem L2
section
variable {κ : Type} [DecidableEq κ]
end
@[simp] theorem noBor_dtpOwn (ks : List (List Key)) (xs : List D) : D.noBor (.nd (.dtp .own ks) xs) = D.noBorL xs := by simp [D.noBor, Kd.fl]
@[simp] theorem noBor_dtpFz (ks : List (List Key)) (xs : List D) : D.noBor (.nd (.dtp .fz ks) xs) = D.noBorL xs := by simp [D.noBor, Kd.fl]
section
variable {X : Cx} {C : Cc} {st ds : List D} {σ : L2.St} {vs : List V} {H H' : Hp} {a b c e f o i value : Expr} {pos p apos cpos pos' tpos : Pos} {kt : Nat} {qa qb qc qd qo qi qj : List D → Option PL} {ma : List D → R D} {sa : Bool} {Dn : Ends}
end
end PV
namespace PV
open PySem L2
end PV
namespace PV
open PySem L2
section
variable {X : Cx} {C : Cc} {st ds : List D} {σ : L2.St} {vs : List V} {H H' : Hp} {e1 e2 tg : Expr} {pos lpos : Pos} {ss : List Stmt} {Dn : Ends} {ms : List BM}
end
end PV
namespace PV
open PySem L2
section
variable {X : Cx} {C : Cc} {st ds : List D} {σ : L2.St} {vs : List V} {H H' : Hp} {a b c : Expr} {pos tpos : Pos} {kt : Nat} {qa qb qc : List D → Option PL}
end
end PV
namespace PV
open PySem L2
section
variable {X : Cx} {C : Cc} {st ds : List D} {σ : L2.St} {vs : List V} {H H' : Hp} {a : Expr} {pos p : Pos} {ma : List D → R D} {sa : Bool}
end
end PV
namespace L2
open PySem PySem.Spec PyProof.Rows
def tMkV (C : Addr) (sp : Sp) (dvs : List V) (ta : TA) : TE := fun σ H Q => ta σ H fun vs H1 => vs.length ≤ 1000 ∧ ∀ a, H1 a = none → sp (.ref a :: (vs ++ dvs)) (upd H1 a (exo a C none)) (fun v H2 => v = .non ∧ Q (.ref a) H2) (fun _ _ _ => False)
section
variable {X : Cx} {o e : Expr} {es : List Expr} {to te : TE} {ta : TA} {f : Str} {p p' p1 p2 pos : Pos}
theorem pe_oex {CX : CXT} {x : Str} {C fI : Addr} {k : Nat} {fd : FuncData} {ps : List Str} {sp : Sp} {dsv : List Value} {dvs : List V} (T : OexC X.K C) (iC : PySem.W.findIn X.K (.ref C) "__init__" = some (some (.ref fI))) (tI : PySem.W.typeIn X.K (.ref fI) = some (.type "function"))
   (F1 : FnOk X.prog X.w X.K X.mg X.base CX k fI fd ps sp) (hr : Room (k + 1) X.A) (hb : Binds X.K fd ps dsv) (hd : Vals dvs dsv) (hx : Passes CX X (fun _ _ _ => False)) (hg : Gl X x) (hm : X.mg x = some (.ref C)) (ha : PA X (e :: es) ta)
   (hdb : (x == ("__debug__" : Str)) = false := by decide) (he : starEach (e :: es) X.env = (false, eval e X.env) :: starEach es X.env := by rfl) (hpl : (backTo pos (starEach es X.env)).any (·.1) = false := by rfl) :
   PE X (.Call (.Name x p) (e :: es) [] pos) (tMkV C sp dvs ta) := by
 refine ⟨fun pins s σ H Q I h => ?_⟩
 obtain ⟨nm, q, N, bs, bm, sn, sub, ab, col, dd, k0, k1, k2, k3, k5, hC, hbm⟩ := T.cls
 refine wpAny_Call_Name_kw (ld_glob I hg hm ?_ hdb)
 refine PySem.W.callWith_K (h₀ := X.base) I.ok.mod.kin T.kC (thn (ha.run pos pins s σ H _ I h) fun us s1 ⟨vs, H1, I1, r1, hz, q1⟩ => ⟨I1.kIn, ?_⟩) he hpl
 show wpAny _ _ (call (.ref C) us) _ _ _
 obtain ⟨hp, g, dr, tk, os⟩ := s1
 have hsz : hp.objs.size ≤ hp.objs.size + 1 := Nat.le_succ _
 have hn : H1 (hp.objs.size + 1) = none := I1.hok.fresh hsz
 have hq := q1 (hp.objs.size + 1) hn
 have kk : ∀ b o, hp.get? b = some o → ((hp.push (PySem.W.kdv_tup us)).push (PySem.HandSPX.excO C hp.objs.size)).get? b = some o := fun b o e => Heap.get?_push_of_some _ (Heap.get?_push_of_some _ e)
 have hget : ((hp.push (PySem.W.kdv_tup us)).push (PySem.HandSPX.excO C hp.objs.size)).get? (hp.objs.size + 1) = some (PySem.HandSPX.excO C hp.objs.size) := by heap_get
 have I2 : Inv X pins σ (upd H1 (hp.objs.size + 1) (exo (hp.objs.size + 1) C none)) ⟨(hp.push (PySem.W.kdv_tup us)).push (PySem.HandSPX.excO C hp.objs.size), g, dr, tk, os⟩ :=
   I1.laid (t' := tk) (a := hp.objs.size + 1) (o := exo (hp.objs.size + 1) C none) (h' := (hp.push (PySem.W.kdv_tup us)).push (PySem.HandSPX.excO C hp.objs.size)) kk hsz (exo_ok hget)
 have r2 : Vals (V.ref (hp.objs.size + 1) :: (vs ++ dvs)) (Value.ref (hp.objs.size + 1) :: (us ++ dsv)) := .cons rfl (r1.append hd)
 have hl : (Value.ref (hp.objs.size + 1) :: us ++ dsv).length = ps.length := by
   have e := r2.length
   rw [F1.len _ _ _ _ hq] at e
   exact e.symm
 have hus : us.length ≤ sizeLine := by
   rw [← Paired.length r1, sizeLine_eq]
   omega
 refine wpAny_call (PySem.HandSPX.call_own F.excBase_ValueError (fun Y => PySem.HandSPX.refsVE_contains Y bm hbm) (I1.kIn _ _ hC) (PySem.W.looks_findIn I1.kIn iC) (fun self => PySem.W.bind_fn I1.kIn self tI) hus
   (codeAny_mono (F1.run _ X.stack _ _ ⟨Value.ref (hp.objs.size + 1) :: us, []⟩ (Value.ref (hp.objs.size + 1) :: (us ++ dsv)) _ _ (fun _ _ _ => False) (hr.make C us []) (I2.env0.make C us []) (hb _ (Value.ref (hp.objs.size + 1) :: us) I2.kIn hl) r2 hq) fun r s' hq' => ?_))
 cases r with
 | error er => exact hx pins σ _ _ er s' I2 hq'
 | ok fl =>
   cases fl with
   | ret u =>
     obtain ⟨v, H2, os2, bare2, un2, hok2, rv, ev, q2⟩ := hq'
     subst ev
     exact ⟨rv, .ref (hp.objs.size + 1), H2, I2.call' (ch := []) os2 un2 hok2 bare2 fun b z => absurd z (by simp), rfl, q2⟩
   | next => exact False.elim hq'
   | brk => exact False.elim hq'
   | cont => exact False.elim hq'
def tWayV (K : PySem.W.Frag) (n : Str) (te : TE) : TE := fun σ H Q => te σ H fun x H1 => ∃ (a C d : Addr) (fs : List (Str × V)) (v : V), x = .ref a ∧ XfC K C ∧ PySem.W.findIn K (.ref C) n = some none ∧ H1 a = some (exo a C (some d)) ∧ H1 d = some (exd d fs) ∧ fs.lookup n = some v ∧ Q v H1
theorem pe_way {n : Str} (he : PE X e te) (hb : attributeBase e n X.env (eval e X.env) = eval e X.env := by rfl) : PE X (.Attribute e n pos) (tWayV X.K n te) := by
 refine ⟨fun pins s σ H Q I h => ?_⟩
 refine attr_of hb (thn (he.run pins s σ H _ I h) fun u s1 hh => ?_)
 obtain ⟨x, H1, I1, rx, a, C, d, fs, v, ex, T, hno, ea, ed, l, q⟩ := hh
 subst ex
 obtain rfl : u = Value.ref a := rx
 obtain ⟨t1, ha⟩ := exo_at I1.hok ea
 obtain ⟨mA, hns, hr⟩ := exd_at I1.hok ed
 obtain ⟨od, ho, hl⟩ := lookIn_ns hns
 obtain ⟨u, hu, ru⟩ := RelO.some_of (v := v) (o := mA n) (by rw [← l]; exact hr n)
 have J : PySem.W.InstAt s1.heap a _ C (some od) := ⟨ha, rfl, rfl, ho⟩
 exact HandSPX.exc_get I1.kIn J T.ga T.gg T.exC (PySem.W.findObj_own T.hdC hno rfl (by rw [hl, hu])) (handed_of ru) ⟨v, H1, I1.tok _, ru, q⟩
def rIsO (K : PySem.W.Frag) : List V → Hp → VK → Prop := fun xs H Q => ∃ (D a : Addr) (c : V) (cv : Value) (b : Bool), xs = [.ref a, c] ∧ ExcC K D ∧ (H a = some (ExO (.ref D) a) ∨ ∃ d fs, H a = some (exo a D (some d)) ∧ H d = some (exd d fs)) ∧ (∀ u, RelV c u → u = cv) ∧ PySem.W.kitOne K (.ref D) cv = some b ∧ Q (.bl b) H
theorem call_isO : CallR X (.builtin "isinstance") (rIsO X.K) := by
 intro pins s σ H xs us Q I r h
 obtain ⟨D, a, c, cv, b, rfl, T, hd, hcv, e, q⟩ := h
 cases r with
 | cons rx rr =>
   cases rr with
   | cons rt rr =>
     cases rr
     cases rx
     obtain rfl := hcv _ rt
     rcases hd with ha | ⟨d, fs, ha, hd⟩
     · have z : ObjOk X.prog X.w H s.heap a (.ext fun h => ∃ (oe : Obj) (vs : Array Value), h.get? a = some oe ∧ Zc (.ref D) none oe ∧ oe.data = .fields vs ∧ vs[1]? = some .none ∧ vs[2]? = some .none ∧ 4 < vs.size) := I.hok a _ ha
       obtain ⟨oe, vs, ho, hz, hv, _⟩ := z.1
       have J : PySem.W.InstAt s.heap a oe D none := ⟨ho, hz.1, by unfold PySem.W.notCls; rw [hv] <;> rfl, by rw [hz.2]; exact trivial⟩
       exact PySem.W.kia_one (PySem.W.handS_kitx_exc T.hg T.hk T.hs T.hd T.ha T.hn T.ht T.hm) I.kIn J e (fun z => nomatch z) fun tk => ⟨.bl b, H, I.kept (t' := tk) fun _ _ z => z, rfl, q⟩
     · obtain ⟨t1, ho⟩ := exo_at I.hok ha
       obtain ⟨mA, hns, hr⟩ := exd_at I.hok hd
       obtain ⟨od, hod, hl⟩ := lookIn_ns hns
       have J : PySem.W.InstAt s.heap a _ D (some od) := ⟨ho, rfl, rfl, hod⟩
       exact PySem.W.kia_one (PySem.W.kit_exc T) I.kIn J e (fun z => nomatch z) fun tk => ⟨.bl b, H, I.kept (t' := tk) fun _ _ z => z, rfl, q⟩
end
end L2
namespace PV
open PySem L2
section
variable {X : Cx} {C : Cc} {st ds : List D} {σ : L2.St} {vs : List V} {H H' : Hp} {a b e : Expr} {pos pos' p p1 p2 : Pos} {ma : List D → R D} {sa : Bool} {Dn : Ends}
theorem SX.clean (s : SX C st ds σ vs H) : ∃ Z os, SR C Z st ds σ vs H os ∧ ∀ a, H a = none → ¬ Z a ∧ ¬ C.B a := by
 obtain ⟨Z, os, s⟩ := s
 refine ⟨Z, os, s, fun a ha => ⟨fun z => ?_, fun z => ?_⟩⟩
 · obtain ⟨o, e, _⟩ := s.al a z; rw [ha] at e; cases e
 · obtain ⟨⟨o, e⟩, e2⟩ := s.bb a z
   have := s.kp a o e e2
   rw [ha] at this; cases this
theorem SR.leaf {Z : Addr → Prop} {os : Ct} {d : D} {v : V} (s : SR C Z st ds σ vs H os) (r : Rp (C.G Z H) d v (fun _ => 0)) : SX C st (ds ++ [d]) σ (vs ++ [v]) H := by
 obtain ⟨o1, o2, r1, r2, e⟩ := s.cut
 exact (s.mk2 (os' := os) (o2 := o2) r1 (r2.app (os := o2) (RpL.one r) fun b => by simp) e (fun _ => Nat.le_refl _) s.sl).sx
theorem SX.pushE {c : Str} {a Ca : Addr} (s : SX C st ds σ vs H) (ha : H a = none) (hc : C.CA c = some Ca) : SX C st (ds ++ [.exc c none]) σ (vs ++ [.ref a]) (upd H a (ExO (.ref Ca) a)) := by
 obtain ⟨Z, os, s, k⟩ := s.clean
 have k' := k a ha
 have s2 := s.ext (H' := upd H a (ExO (.ref Ca) a)) fun b o e => by
   rw [upd_ne (fun z => by rw [z, ha] at e; cases e)]; exact e
 exact s2.leaf (.exc ⟨Ca, hc, upd_same, k'.1, k'.2⟩ fun _ => rfl)
theorem SX.pushX {c f : Str} {ns : List Int} {a d l Ca : Addr} (s : SX C st ds σ vs H) (k : ∀ b o, H b = some o → H' b = some o) (hc : C.CA c = some Ca) (e1 : H' a = some (exo a Ca (some d))) (e2 : H' d = some (exd d [(f, .ref l)])) (e3 : H' l = some (.lst (ns.map V.int)))
   (n1 : H a = none) (n2 : H d = none) (n3 : H l = none) : SX C st (ds ++ [.exc c (some (f, ns))]) σ (vs ++ [.ref a]) H' := by
 obtain ⟨Z, os, s, q⟩ := s.clean
 exact (s.ext k).leaf (.exc ⟨Ca, d, l, hc, e1, e2, e3, q a n1, q d n2, q l n3⟩ fun _ => rfl)
theorem SX.excAt {i : Nat} {c : Str} {w : Option (Str × List Int)} (s : SX C st ds σ vs H) (h : st[i]? = some (.exc c w)) : ∃ a Z os, σ[i]? = some (some (.ref a)) ∧ SR C Z st ds σ vs H os ∧ ExcAt (C.G Z H) c a w := by
 obtain ⟨Z, os, s⟩ := s
 obtain ⟨o1, o2, r1, r2, e⟩ := s.cut
 obtain ⟨u, od, orr, hw, rd, hod, k⟩ := r1.at h
 obtain ⟨v, hv⟩ := s.sl i _ h (by simp)
 have ew : u = v := by simp [hv] at hw; exact hw.symm
 subst ew
 cases rd with
 | exc q hz => exact ⟨_, Z, os, hv, s, q⟩
def excK (st : List D) : Option D → R D
 | some (.exc c w) => .ok (.exc c w) st
 | _ => .stuck
def mExc (i : Nat) : List D → R D := fun st => excK st st[i]?
@[simp] theorem excK_exc (st : List D) (c : Str) (w : Option (Str × List Int)) : excK st (some (.exc c w)) = .ok (.exc c w) st := rfl
@[simp] theorem mExc_eq (i : Nat) (st : List D) : mExc i st = excK st st[i]? := rfl
theorem excK_ok {st : List D} {o : Option D} {sm : Bool} {Q : VK} (h : rE C sm ds vs σ H Q (excK st o)) : ∃ c w, o = some (.exc c w) ∧ rE C sm ds vs σ H Q (.ok (.exc c w) st) := by
 match o, h with
 | some (.exc c w), h => exact ⟨c, w, rfl, h⟩
 | some .un, h | some .non, h | some (.bl _), h | some (.int _), h | some (.str _), h | some (.scr _), h | some (.nd _ _), h | none, h => exact h.elim
theorem ve_exc (i : Nat) {x : Str} {pos : Pos} (hN : X.N[i]? = some x := by rfl) (hv : Vis X.env.scope x := by first | exact Or.inl rfl | exact Or.inr (Or.inl rfl) | exact Or.inr (Or.inr rfl)) (hd : (x == ("__debug__" : Str)) = false := by decide)
   (hcd : (x == ("__classdict__" : Str)) = false := by decide) : VE X C true (.Name x pos) (mExc i) := by
 refine (pe_var hN hv hd hcd).impV ?_
 rintro σ H Q ⟨st, ds, vs, s, hl, h⟩
 obtain ⟨c, w, e, h⟩ := excK_ok h
 obtain ⟨a, Z, os, hv, s, q⟩ := s.excAt e
 exact ⟨.ref a, hv, h _ H (fun _ => Same.refl H) (s.leaf (.exc q fun _ => rfl))⟩
def mMkE (x : Str) (ma : List D → R D) : List D → R D := fun st => (ma st).bind fun _ st1 => .ok (.exc x none) st1
@[simp] theorem mMkE_eq (x : Str) (ma : List D → R D) (st : List D) : mMkE x ma st = (ma st).bind fun _ st1 => .ok (.exc x none) st1 := rfl
theorem ve_mkE {x : Str} (E : ExcC X C x) (hg : Gl X x) (ha : VE X C sa e ma) (hdb : (x == ("__debug__" : Str)) = false := by decide) (hs : starEach [e] X.env = (false, eval e X.env) :: starEach [] X.env := by rfl) : VE X C sa (.Call (.Name x p) [e] [] pos) (mMkE x ma) := by
 obtain ⟨Ca, hca, gC, q, kC, sb, ty⟩ := E.at_
 refine (pe_exc1 PySem.F.excBase_ValueError q gC kC hg ha hs hdb).impV ?_
 rintro σ H Q ⟨st, ds, vs, s, hl, h⟩
 refine seq1 (sm := sa) s hl h fun d st1 v H1 sm s1 h1 => fun a' ha' => ?_
 refine h1 (.ref a') _ (fun z => (sm z).trans fun b o e => ?_) (s1.pop.pushE ha' hca)
 rw [upd_ne (fun z => by rw [z, ha'] at e; cases e)]; exact e
def mkoK (x fld : Str) (st : List D) : D → R D
 | .nd (.lst _) xs => R.of (intsD xs) fun ns => .ok (.exc x (some (fld, ns))) st
 | _ => .stuck
@[simp] theorem mkoK_lst (x fld : Str) (st : List D) (f : Fl) (xs : List D) : mkoK x fld st (.nd (.lst f) xs) = R.of (intsD xs) fun ns => .ok (.exc x (some (fld, ns))) st := rfl
def mMkO (x fld : Str) (ma : List D → R D) : List D → R D := fun st => (ma st).bind fun d st1 => mkoK x fld st1 d
@[simp] theorem mMkO_eq (x fld : Str) (ma : List D → R D) (st : List D) : mMkO x fld ma st = (ma st).bind fun d st1 => mkoK x fld st1 d := rfl
theorem mko_done {x fld : Str} {ns : List Int} {a' Ca : Addr} {f : Fl} {H1 : Hp} {Q : VK} (hca : C.CA x = some Ca) (T : OexC X.K Ca) (noF : PySem.W.findIn X.K (.ref Ca) fld = some none) (s : SX C st ds σ vs H1) (hk : HoK C.CA H1 a' (ns.map V.int) (.lst f)) (h9 : rE C sa ds vs σ H Q (.ok (.exc x (some (fld, ns))) st)) (sm : sa = true → Same H H1) :
   ([V.ref a'] : List V).length ≤ 1000 ∧ ∀ a, H1 a = none → spI X.K fld (.ref a :: ([.ref a'] ++ [])) (upd H1 a (exo a Ca none)) (fun v H2 => v = .non ∧ Q (.ref a) H2) (fun _ _ _ => False) := by
 refine ⟨by simp, fun e0 he0 => ⟨rfl, e0, a', Ca, ns.map V.int, rfl, T, noF, upd_same, .inl (SqL.of (hk.to fun o ho => ?_)), fun l2 dx h2 h3 h4 => ⟨rfl, ?_⟩⟩⟩
 · rw [upd_ne (fun z => by
     have ho' : H1 a' = some o := ho
     rw [z, he0] at ho'; cases ho')]
   exact ho
 · have la : l2 ≠ e0 := fun z => by rw [z, upd_same] at h2; cases h2
   have hl2 : H1 l2 = none := by rw [upd_ne la] at h2; exact h2
   have ld : dx ≠ l2 := fun z => by rw [z, upd_same] at h3; cases h3
   have hdx : H1 dx = none := by rw [upd_ne ld, upd_ne h4] at h3; exact h3
   have keep : ∀ b o, H1 b = some o → upd (upd (upd (upd H1 e0 (exo e0 Ca none)) l2 (.lst (ns.map V.int))) dx (exd dx [(fld, .ref l2)])) e0 (exo e0 Ca (some dx)) b = some o := fun b o hb' => by
     have b1 : b ≠ e0 := fun z => by rw [z, he0] at hb'; cases hb'
     have b2 : b ≠ dx := fun z => by rw [z, hdx] at hb'; cases hb'
     have b3 : b ≠ l2 := fun z => by rw [z, hl2] at hb'; cases hb'
     rw [upd_ne b1, upd_ne b2, upd_ne b3, upd_ne b1]; exact hb'
   exact h9 (.ref e0) _ (fun z => (sm z).trans keep) (s.pushX keep hca upd_same (by rw [upd_ne h4]; exact upd_same) (by rw [upd_ne la, upd_ne (Ne.symm ld)]; exact upd_same) he0 hdx hl2)
theorem ve_mkO {x fld : Str} {fI : Addr} {fd : FuncData} {ps : List Str} {k : Nat} (E : OexF X.K X.mg C.CA x fld fI) (F1 : FnOk X.prog X.w X.K X.mg X.base (L2.CX X.prog X.w) k fI fd ps (spI X.K fld)) (hr : Room (k + 1) X.A) (hb : Binds X.K fd ps [])
   (hg : Gl X x) (ha : VE X C sa e ma) (hdb : (x == ("__debug__" : Str)) = false := by decide) (he : starEach [e] X.env = (false, eval e X.env) :: starEach [] X.env := by rfl) (hpl : (backTo pos (starEach [] X.env)).any (·.1) = false := by rfl) :
   VE X C sa (.Call (.Name x p) [e] [] pos) (mMkO x fld ma) := by
 obtain ⟨Ca, hca, gC, T, iC, tI, noF⟩ := E.at_
 have hx : Passes (L2.CX X.prog X.w) X (fun _ _ _ => False) := fun _ _ _ _ _ _ _ h => by
   obtain ⟨_, _, _, _, _, _, _, _, _, _, _, _, h⟩ := h
   exact h.elim
 refine (pe_oex (dsv := []) (dvs := []) T iC tI F1 hr hb .nil hx hg gC (pa_cons ha pa_nil he) hdb he hpl).impV ?_
 rintro σ H Q ⟨st, ds, vs, s, hl, h⟩
 refine seq1 (sm := sa) s hl h fun d st1 v H1 sm s1 h1 => ?_
 match d, s1, h1 with
 | .nd (.lst f) xs, s1, h1 =>
   have h1 : rE C sa ds vs σ H Q (R.of (intsD xs) fun ns => .ok (.exc x (some (fld, ns))) st1) := h1
   obtain ⟨ns, q, h9⟩ := rE_of h1
   clear h1
   obtain rfl := intsD_eq q
   obtain ⟨a', ws, Z, os, rfl, hk, rl⟩ := s1.ndTop
   obtain rfl := rpl_ints rl
   exact mko_done hca T noF s1.pop hk h9 sm
 | .un, _, h1 => exact h1.elim
 | .non, _, h1 => exact h1.elim
 | .bl _, _, h1 => exact h1.elim
 | .int _, _, h1 => exact h1.elim
 | .str _, _, h1 => exact h1.elim
 | .scr _, _, h1 => exact h1.elim
 | .exc _ _, _, h1 => exact h1.elim
 | .nd .tup _, _, h1 => exact h1.elim
 | .nd (.dct _ _) _, _, h1 => exact h1.elim
 | .nd (.ins _ _ _) _, _, h1 => exact h1.elim
 | .nd (.dtp _ _) _, _, h1 => exact h1.elim
def mMkOQ (x fld : Str) (qa : List D → Option PL) : List D → R D := fun st => R.of (qa st) fun pl => pthK pl fun r p => R.of (getS st r p) fun d => mkoK x fld st d
@[simp] theorem mMkOQ_eq (x fld : Str) (qa : List D → Option PL) (st : List D) : mMkOQ x fld qa st = R.of (qa st) fun pl => pthK pl fun r p => R.of (getS st r p) fun d => mkoK x fld st d := rfl
theorem ve_mkOQ {x fld : Str} {fI : Addr} {fd : FuncData} {ps : List Str} {k : Nat} {qa : List D → Option PL} (E : OexF X.K X.mg C.CA x fld fI) (F1 : FnOk X.prog X.w X.K X.mg X.base (L2.CX X.prog X.w) k fI fd ps (spI X.K fld)) (hr : Room (k + 1) X.A) (hb : Binds X.K fd ps [])
   (hg : Gl X x) (ha : VQ X C e qa) (hdb : (x == ("__debug__" : Str)) = false := by decide) (he : starEach [e] X.env = (false, eval e X.env) :: starEach [] X.env := by rfl) (hpl : (backTo pos (starEach [] X.env)).any (·.1) = false := by rfl) :
   VE X C true (.Call (.Name x p) [e] [] pos) (mMkOQ x fld qa) := by
 obtain ⟨Ca, hca, gC, T, iC, tI, noF⟩ := E.at_
 have hx : Passes (L2.CX X.prog X.w) X (fun _ _ _ => False) := fun _ _ _ _ _ _ _ h => by
   obtain ⟨_, _, _, _, _, _, _, _, _, _, _, _, h⟩ := h
   exact h.elim
 refine (pe_oex (dsv := []) (dvs := []) T iC tI F1 hr hb .nil hx hg gC (pa_cons ha.pe pa_nil he) hdb he hpl).impV ?_
 rintro σ H Q ⟨st, ds, vs, s, hl, h⟩
 rw [mMkOQ_eq] at h
 obtain ⟨pl, hpl', h⟩ := rE_of h
 match pl, hpl', h with
 | .sc d, _, h => exact h.elim
 | .pth r pp, hq, h =>
   have h : rE C true ds vs σ H Q (R.of (getS st r pp) fun d => mkoK x fld st d) := h
   obtain ⟨d, hd, h⟩ := rE_of h
   refine ⟨st, ds, vs, s, ?_⟩
   rw [hq]
   intro u hp
   match d, hd, h with
   | .nd (.lst f) xs, hd, h =>
     have h : rE C true ds vs σ H Q (R.of (intsD xs) fun ns => .ok (.exc x (some (fld, ns))) st) := h
     obtain ⟨ns, q, h9⟩ := rE_of h
     clear h
     obtain rfl := intsD_eq q
     obtain ⟨Z, os, s0⟩ := id s
     obtain ⟨u', oe, orr, o2, hp', re, _⟩ := s0.path hd (let ⟨v, e, _⟩ := hp; ⟨v, e⟩)
     have := hp.fn hp'; subst this
     cases re with
     | nd hk rl n =>
       obtain rfl := rpl_ints rl
       exact mko_done hca T noF s hk h9 (fun _ => Same.refl H)
   | .un, _, h => exact h.elim
   | .non, _, h => exact h.elim
   | .bl _, _, h => exact h.elim
   | .int _, _, h => exact h.elim
   | .str _, _, h => exact h.elim
   | .scr _, _, h => exact h.elim
   | .exc _ _, _, h => exact h.elim
   | .nd .tup _, _, h => exact h.elim
   | .nd (.dct _ _) _, _, h => exact h.elim
   | .nd (.ins _ _ _) _, _, h => exact h.elim
   | .nd (.dtp _ _) _, _, h => exact h.elim
def wyK (cn fld : Str) (st : List D) : Option D → R D
 | some (.exc c (some (f, ns))) => chk (c = cn ∧ f = fld) (.ok (.nd (.lst .fz) (ns.map D.int)) st)
 | _ => .stuck
@[simp] theorem wyK_exc (cn fld : Str) (st : List D) (c f : Str) (ns : List Int) : wyK cn fld st (some (.exc c (some (f, ns)))) = chk (c = cn ∧ f = fld) (.ok (.nd (.lst .fz) (ns.map D.int)) st) := rfl
def mWay (i : Nat) (cn fld : Str) : List D → R D := fun st => wyK cn fld st st[i]?
@[simp] theorem mWay_eq (i : Nat) (cn fld : Str) (st : List D) : mWay i cn fld st = wyK cn fld st st[i]? := rfl
theorem ve_way (i : Nat) {cn fld n : Str} (T : ∃ Ca, C.CA cn = some Ca ∧ XfC X.K Ca ∧ PySem.W.findIn X.K (.ref Ca) fld = some none) (hN : X.N[i]? = some n := by rfl) (hv : Vis X.env.scope n := by first | exact Or.inl rfl | exact Or.inr (Or.inl rfl) | exact Or.inr (Or.inr rfl)) (hd : (n == ("__debug__" : Str)) = false := by decide)
   (hcd : (n == ("__classdict__" : Str)) = false := by decide) (hb : attributeBase (.Name n p) fld X.env (eval (.Name n p) X.env) = eval (.Name n p) X.env := by rfl) : VE X C true (.Attribute (.Name n p) fld pos) (mWay i cn fld) := by
 obtain ⟨Ca, hca, T1, T2⟩ := T
 refine (pe_way (pe_var hN hv hd hcd) hb).impV ?_
 rintro σ H Q ⟨st, ds, vs, s, hl, h⟩
 rw [mWay_eq] at h
 have key : ∃ c f ns, st[i]? = some (.exc c (some (f, ns))) ∧ rE C true ds vs σ H Q (chk (c = cn ∧ f = fld) (.ok (.nd (.lst .fz) (ns.map D.int)) st)) := by
   generalize st[i]? = o at h
   match o, h with
   | some (.exc c (some (f, ns))), h => exact ⟨c, f, ns, rfl, h⟩
   | some (.exc _ none), h => exact h.elim
   | some .un, h | some .non, h | some (.bl _), h | some (.int _), h | some (.str _), h | some (.scr _), h | some (.nd _ _), h | none, h => exact h.elim
 obtain ⟨c, f, ns, e, h⟩ := key
 obtain ⟨hcf, h9⟩ := rE_chk h
 clear h
 obtain ⟨rfl, rfl⟩ := hcf
 obtain ⟨a, Z, os, hv, s, q⟩ := s.excAt e
 obtain ⟨Cx, d, l, g1, g2, g3, g4, g5, g6, g7⟩ := q
 have g1 : C.CA c = some Cx := g1
 rw [hca] at g1; cases g1
 refine ⟨.ref a, hv, a, Ca, d, _, .ref l, rfl, T1, T2, g2, g3, by simp [List.lookup], ?_⟩
 exact h9 (.ref l) H (fun _ => Same.refl H) (s.leaf (.nd (os' := fun _ => 0) (k := .lst .fz) g4 (ints_rpl ns) ⟨g7.1, g7.2, fun _ => rfl, fun _ => rfl⟩))
def Kits (K : PySem.W.Frag) (CA : Str → Option Addr) (hi : Str → Str → Option Bool) : Prop := ∀ x y b, hi x y = some b → ∀ a, CA x = some a → ∃ c, CA y = some c ∧ PySem.W.kitOne K (.ref a) (.ref c) = some b
def isoK (hi : Str → Str → Option Bool) (ns : List Str) (y : Str) (st : List D) : Option D → R D
 | some (.exc c _) => chk (c ∈ ns) (R.of (hi c y) fun b => .ok (.bl b) st)
 | _ => .stuck
@[simp] theorem isoK_exc (hi : Str → Str → Option Bool) (ns : List Str) (y : Str) (st : List D) (c : Str) (w : Option (Str × List Int)) : isoK hi ns y st (some (.exc c w)) = chk (c ∈ ns) (R.of (hi c y) fun b => .ok (.bl b) st) := rfl
def mIsO (hi : Str → Str → Option Bool) (ns : List Str) (i : Nat) (y : Str) : List D → R D := fun st => isoK hi ns y st st[i]?
@[simp] theorem mIsO_eq (hi : Str → Str → Option Bool) (ns : List Str) (i : Nat) (y : Str) (st : List D) : mIsO hi ns i y st = isoK hi ns y st st[i]? := rfl
theorem exc_held {H : Hp} {Z : Addr → Prop} {c : Str} {w : Option (Str × List Int)} {a Ca : Addr} (q : ExcAt (C.G Z H) c a w) (hc : C.CA c = some Ca) : H a = some (ExO (.ref Ca) a) ∨ ∃ d fs, H a = some (exo a Ca (some d)) ∧ H d = some (exd d fs) := by
 cases w with
 | none =>
   obtain ⟨D, h1, h2, _⟩ := q
   have h1 : C.CA c = some D := h1
   rw [hc] at h1; cases h1
   exact .inl h2
 | some p =>
   obtain ⟨f, ns⟩ := p
   obtain ⟨D, d, l, h1, h2, h3, _⟩ := q
   have h1 : C.CA c = some D := h1
   rw [hc] at h1; cases h1
   exact .inr ⟨d, _, h2, h3⟩
theorem ExcAt.cls {G : Gd} {c : Str} {w : Option (Str × List Int)} {a : Addr} (q : ExcAt G c a w) : ∃ Ca, G.CA c = some Ca := by
 cases w with
 | none => exact ⟨_, q.choose_spec.1⟩
 | some p => obtain ⟨f, ns⟩ := p; obtain ⟨D, d, l, h1, _⟩ := q; exact ⟨D, h1⟩
theorem isoK_ok {hi : Str → Str → Option Bool} {ns : List Str} {y : Str} {o : Option D} {sm : Bool} {Q : VK} (h : rE C sm ds vs σ H Q (isoK hi ns y st o)) : ∃ c w b, o = some (.exc c w) ∧ c ∈ ns ∧ hi c y = some b ∧ rE C sm ds vs σ H Q (.ok (.bl b) st) := by
 match o, h with
 | some (.exc c w), h =>
   obtain ⟨h1, h⟩ := rE_chk h
   obtain ⟨b, h2, h⟩ := rE_of h
   exact ⟨c, w, b, rfl, h1, h2, h⟩
 | some .un, h | some .non, h | some (.bl _), h | some (.int _), h | some (.str _), h | some (.scr _), h | some (.nd _ _), h | none, h => exact h.elim
theorem ve_isO (i : Nat) {hi : Str → Str → Option Bool} {ns : List Str} {n y : Str} (Hi : Kits X.K C.CA hi) (IC : ∀ x ∈ ns, ∀ c, C.CA x = some c → L2.ExcC X.K c) (hm : ∃ cy, C.CA y = some cy ∧ X.mg y = some (.ref cy)) (hgy : Gl X y) (hgi : Gl X "isinstance") (hmi : X.mg "isinstance" = none)
   (hN : X.N[i]? = some n := by rfl) (hv : Vis X.env.scope n := by first | exact Or.inl rfl | exact Or.inr (Or.inl rfl) | exact Or.inr (Or.inr rfl)) (hd : (n == ("__debug__" : Str)) = false := by decide) (hcd : (n == ("__classdict__" : Str)) = false := by decide) (hdy : (y == ("__debug__" : Str)) = false := by decide)
   (he : starEach [.Name n p1, .Name y p2] X.env = (false, eval (.Name n p1) X.env) :: starEach [.Name y p2] X.env := by rfl) (he2 : starEach [.Name y p2] X.env = (false, eval (.Name y p2) X.env) :: starEach [] X.env := by rfl) (hpl : (backTo pos (starEach [.Name y p2] X.env)).any (·.1) = false := by rfl) : VE X C true (.Call (.Name "isinstance" p) [.Name n p1, .Name y p2] [] pos) (mIsO hi ns i y) := by
 obtain ⟨cy, hcy, hmy⟩ := hm
 refine (pe_callB call_isO hgi hmi (by decide +kernel) (pa_cons (pe_var hN hv hd hcd) (pa_cons (pe_glob (v := .ref cy) hgy hmy rfl hdy) pa_nil he2) he) (by decide) (by decide) he hpl).impV ?_
 rintro σ H Q ⟨st, ds, vs, s, hl, h⟩
 rw [mIsO_eq] at h
 obtain ⟨c, w, b, e, hmem, hb, h⟩ := isoK_ok h
 obtain ⟨a, Z, os, hv, s, q⟩ := s.excAt e
 obtain ⟨Ca, hca⟩ := q.cls
 have hca : C.CA c = some Ca := hca
 obtain ⟨c2, g2, one⟩ := Hi _ _ _ hb Ca hca
 rw [hcy] at g2; cases g2
 exact ⟨.ref a, hv, Ca, a, .ref cy, .ref cy, b, rfl, IC _ hmem Ca hca, exc_held q hca, fun u r => r, one, h _ H (fun _ => Same.refl H) (s.sx.pushc rfl)⟩
def isvK (ns : List Str) (st : List D) : Option D → R D
 | some (.exc c _) => chk (c ∈ ns) (.ok (.bl true) st)
 | _ => .stuck
@[simp] theorem isvK_exc (ns : List Str) (st : List D) (c : Str) (w : Option (Str × List Int)) : isvK ns st (some (.exc c w)) = chk (c ∈ ns) (.ok (.bl true) st) := rfl
def mIsV (ns : List Str) (i : Nat) : List D → R D := fun st => isvK ns st st[i]?
@[simp] theorem mIsV_eq (ns : List Str) (i : Nat) (st : List D) : mIsV ns i st = isvK ns st st[i]? := rfl
theorem isvK_ok {ns : List Str} {o : Option D} {sm : Bool} {Q : VK} (h : rE C sm ds vs σ H Q (isvK ns st o)) : ∃ c w, o = some (.exc c w) ∧ c ∈ ns ∧ rE C sm ds vs σ H Q (.ok (.bl true) st) := by
 match o, h with
 | some (.exc c w), h =>
   obtain ⟨h1, h⟩ := rE_chk h
   exact ⟨c, w, rfl, h1, h⟩
 | some .un, h | some .non, h | some (.bl _), h | some (.int _), h | some (.str _), h | some (.scr _), h | some (.nd _ _), h | none, h => exact h.elim
theorem ve_isV (i : Nat) {ns : List Str} {n : Str} (IV : ∀ x ∈ ns, ∀ c, C.CA x = some c → PySem.W.kitOne X.K (.ref c) (.type "ValueError") = some true) (IC : ∀ x ∈ ns, ∀ c, C.CA x = some c → L2.ExcC X.K c) (hgy : Gl X "ValueError") (hmy : X.mg "ValueError" = none) (hgi : Gl X "isinstance") (hmi : X.mg "isinstance" = none)
   (hN : X.N[i]? = some n := by rfl) (hv : Vis X.env.scope n := by first | exact Or.inl rfl | exact Or.inr (Or.inl rfl) | exact Or.inr (Or.inr rfl)) (hd : (n == ("__debug__" : Str)) = false := by decide) (hcd : (n == ("__classdict__" : Str)) = false := by decide)
   (he : starEach [.Name n p1, .Name "ValueError" p2] X.env = (false, eval (.Name n p1) X.env) :: starEach [.Name "ValueError" p2] X.env := by rfl) (he2 : starEach [.Name "ValueError" p2] X.env = (false, eval (.Name "ValueError" p2) X.env) :: starEach [] X.env := by rfl) (hpl : (backTo pos (starEach [.Name "ValueError" p2] X.env)).any (·.1) = false := by rfl) : VE X C true (.Call (.Name "isinstance" p) [.Name n p1, .Name "ValueError" p2] [] pos) (mIsV ns i) := by
 refine (pe_callB call_isO hgi hmi (by decide +kernel) (pa_cons (pe_var hN hv hd hcd) (pa_cons (pe_bltn (v := .ty "ValueError") hgy hmy (by decide +kernel) rfl) pa_nil he2) he) (by decide) (by decide) he hpl).impV ?_
 rintro σ H Q ⟨st, ds, vs, s, hl, h⟩
 rw [mIsV_eq] at h
 obtain ⟨c, w, e, hmem, h⟩ := isvK_ok h
 obtain ⟨a, Z, os, hv, s, q⟩ := s.excAt e
 obtain ⟨Ca, hca⟩ := q.cls
 have hca : C.CA c = some Ca := hca
 exact ⟨.ref a, hv, Ca, a, .ty "ValueError", .type "ValueError", true, rfl, IC _ hmem Ca hca, exc_held q hca, fun u r => r, IV _ hmem Ca hca, h _ H (fun _ => Same.refl H) (s.sx.pushc rfl)⟩
end
def hqB (K : PySem.W.Frag) (tb : List (Str × Str × Bool)) : Bool := tb.all fun q => decide (PySem.W.kitOne K (.ref (He.ga K q.1)) (.ref (He.ga K q.2.1)) = some q.2.2)
def vqB (K : PySem.W.Frag) (ns : List Str) : Bool := ns.all fun x => decide (PySem.W.kitOne K (.ref (He.ga K x)) (.type "ValueError") = some true)
theorem hiOf_mem : ∀ {tb : List (Str × Str × Bool)} {x y : Str} {b : Bool}, hiOf tb x y = some b → (x, y, b) ∈ tb
 | [], _, _, _, h => by simp [hiOf] at h
 | (a, b', c) :: r, x, y, b, h => by
   unfold hiOf at h
   split at h
   · rename_i q
     obtain ⟨rfl, rfl⟩ := q
     cases h
     exact List.mem_cons_self ..
   · exact List.mem_cons_of_mem _ (hiOf_mem h)
theorem kits_of {K : PySem.W.Frag} {CA : Str → Option Addr} {tb : List (Str × Str × Bool)} {ns : List Str} (ca : ∀ x ∈ ns, CA x = some (He.ga K x)) (sub : (tb.all fun q => decide (q.1 ∈ ns) && decide (q.2.1 ∈ ns)) = true) (h : hqB K tb = true) : Kits K CA (hiOf tb) := fun x y b e a ha => by
 have m := hiOf_mem e
 have s := List.all_eq_true.mp sub _ m
 simp only [Bool.and_eq_true, decide_eq_true_eq] at s
 have k := List.all_eq_true.mp h _ m
 simp only [decide_eq_true_eq] at k
 rw [ca x s.1] at ha; cases ha
 exact ⟨_, ca y s.2, k⟩
theorem isv_of {K : PySem.W.Frag} {CA : Str → Option Addr} {ns ns' : List Str} (ca : ∀ x ∈ ns', CA x = some (He.ga K x)) (sub : (ns.all fun q => decide (q ∈ ns')) = true) (h : vqB K ns = true) : ∀ x ∈ ns, ∀ c, CA x = some c → PySem.W.kitOne K (.ref c) (.type "ValueError") = some true := fun x hx c hc => by
 have s := List.all_eq_true.mp sub _ hx
 simp only [decide_eq_true_eq] at s
 have k := List.all_eq_true.mp h _ hx
 simp only [decide_eq_true_eq] at k
 rw [ca x s] at hc; cases hc
 exact k
end PV
namespace Law
open PySem L2 PV
def top (i : Nat) : Stmt := PySem.Challenge.pw_inkroot_k24_refusals_stand.main.body.getD i (.Pass ⟨0, 0, 0, 0⟩)
def CAo (mg : Str → Option Value) : Str → Option Addr := fun c => match mg c with
 | some (.ref a) => some a
 | _ => none
structure DefX (K : PySem.W.Frag) (mg : Str → Option Value) (x nm : Str) (sd : Stmt) (ps : List Str) (f : Addr) (fd : FuncData) : Prop where
 F : L2.Fun K nm nm sd f fd
 mg : mg x = some (.ref f)
 kp : PySem.W.keepIn K (.ref f) = true
 b : Binds K fd ps []
structure DefM (K : PySem.W.Frag) (x qual : Str) (sd : Stmt) (ps : List Str) (f : Addr) (fd : FuncData) : Prop where
 F : L2.Fun K x qual sd f fd
 b : Binds K fd ps []
def exNs : List Str := ["NoDeed", "NoMoment", "NoRow", "NoSheet", "NoTie", "NotYours", "OutOfInk", "OutOfPlace", "TooHeavy", "TooMany", "Ring"]
def hqT : List (Str × Str × Bool) := ("NoDeed", "InkError", true) :: ("NoDeed", "NoDeed", true) :: ("NoDeed", "NoMoment", false) :: ("NoDeed", "NoRow", false) :: ("NoDeed", "NoSheet", false) :: ("NoDeed", "NoTie", false) :: ("NoDeed", "NotYours", false) :: ("NoDeed", "OutOfInk", false) :: ("NoDeed", "OutOfPlace", false) :: ("NoDeed", "TooHeavy", false) :: ("NoDeed", "TooMany", false) :: ("NoDeed", "Ring", false) :: ("NoMoment", "InkError", true) :: ("NoMoment", "NoDeed", false) :: ("NoMoment", "NoMoment", true) :: ("NoMoment", "NoRow", false) :: ("NoMoment", "NoSheet", false) :: ("NoMoment", "NoTie", false) :: ("NoMoment", "NotYours", false) :: ("NoMoment", "OutOfInk", false) :: ("NoMoment", "OutOfPlace", false) :: ("NoMoment", "TooHeavy", false) :: ("NoMoment", "TooMany", false) :: ("NoMoment", "Ring", false) :: ("NoRow", "InkError", true) :: ("NoRow", "NoDeed", false) :: ("NoRow", "NoMoment", false) :: ("NoRow", "NoRow", true) :: ("NoRow", "NoSheet", false) :: ("NoRow", "NoTie", false) :: ("NoRow", "NotYours", false) :: ("NoRow", "OutOfInk", false) :: ("NoRow", "OutOfPlace", false) :: ("NoRow", "TooHeavy", false) :: ("NoRow", "TooMany", false) :: ("NoRow", "Ring", false) :: ("NoSheet", "InkError", true) :: ("NoSheet", "NoDeed", false) :: ("NoSheet", "NoMoment", false) :: ("NoSheet", "NoRow", false) :: ("NoSheet", "NoSheet", true) :: ("NoSheet", "NoTie", false) :: ("NoSheet", "NotYours", false) :: ("NoSheet", "OutOfInk", false) :: ("NoSheet", "OutOfPlace", false) :: ("NoSheet", "TooHeavy", false) :: ("NoSheet", "TooMany", false) :: ("NoSheet", "Ring", false) :: ("NoTie", "InkError", true) :: ("NoTie", "NoDeed", false) :: ("NoTie", "NoMoment", false) :: ("NoTie", "NoRow", false) :: ("NoTie", "NoSheet", false) :: ("NoTie", "NoTie", true) :: ("NoTie", "NotYours", false) :: ("NoTie", "OutOfInk", false) :: ("NoTie", "OutOfPlace", false) :: ("NoTie", "TooHeavy", false) :: ("NoTie", "TooMany", false) :: ("NoTie", "Ring", false) :: ("NotYours", "InkError", true) :: ("NotYours", "NoDeed", false) :: ("NotYours", "NoMoment", false) :: ("NotYours", "NoRow", false) :: ("NotYours", "NoSheet", false) :: ("NotYours", "NoTie", false) :: ("NotYours", "NotYours", true) :: ("NotYours", "OutOfInk", false) :: ("NotYours", "OutOfPlace", false) :: ("NotYours", "TooHeavy", false) :: ("NotYours", "TooMany", false) :: ("NotYours", "Ring", false) :: ("OutOfInk", "InkError", true) :: ("OutOfInk", "NoDeed", false) :: ("OutOfInk", "NoMoment", false) :: ("OutOfInk", "NoRow", false) :: ("OutOfInk", "NoSheet", false) :: ("OutOfInk", "NoTie", false) :: ("OutOfInk", "NotYours", false) :: ("OutOfInk", "OutOfInk", true) :: ("OutOfInk", "OutOfPlace", false) :: ("OutOfInk", "TooHeavy", false) :: ("OutOfInk", "TooMany", false) :: ("OutOfInk", "Ring", false) :: ("OutOfPlace", "InkError", true) :: ("OutOfPlace", "NoDeed", false) :: ("OutOfPlace", "NoMoment", false) :: ("OutOfPlace", "NoRow", false) :: ("OutOfPlace", "NoSheet", false) :: ("OutOfPlace", "NoTie", false) :: ("OutOfPlace", "NotYours", false) :: ("OutOfPlace", "OutOfInk", false) :: ("OutOfPlace", "OutOfPlace", true) :: ("OutOfPlace", "TooHeavy", false) :: ("OutOfPlace", "TooMany", false) :: ("OutOfPlace", "Ring", false) :: ("TooHeavy", "InkError", true) :: ("TooHeavy", "NoDeed", false) :: ("TooHeavy", "NoMoment", false) :: ("TooHeavy", "NoRow", false) :: ("TooHeavy", "NoSheet", false) :: ("TooHeavy", "NoTie", false) :: ("TooHeavy", "NotYours", false) :: ("TooHeavy", "OutOfInk", false) :: ("TooHeavy", "OutOfPlace", false) :: ("TooHeavy", "TooHeavy", true) :: ("TooHeavy", "TooMany", false) :: ("TooHeavy", "Ring", false) :: ("TooMany", "InkError", true) :: ("TooMany", "NoDeed", false) :: ("TooMany", "NoMoment", false) :: ("TooMany", "NoRow", false) :: ("TooMany", "NoSheet", false) :: ("TooMany", "NoTie", false) :: ("TooMany", "NotYours", false) :: ("TooMany", "OutOfInk", false) :: ("TooMany", "OutOfPlace", false) :: ("TooMany", "TooHeavy", false) :: ("TooMany", "TooMany", true) :: ("TooMany", "Ring", false) :: ("Ring", "InkError", true) :: ("Ring", "NoDeed", false) :: ("Ring", "NoMoment", false) :: ("Ring", "NoRow", false) :: ("Ring", "NoSheet", false) :: ("Ring", "NoTie", false) :: ("Ring", "NotYours", false) :: ("Ring", "OutOfInk", false) :: ("Ring", "OutOfPlace", false) :: ("Ring", "TooHeavy", false) :: ("Ring", "TooMany", false) :: ("Ring", "Ring", true) :: []
abbrev hqL : Str → Str → Option Bool := hiOf hqT
@[simp] theorem hq_NoDeed_InkError : hiOf hqT "NoDeed" "InkError" = some true := by decide +kernel
@[simp] theorem hq_NoDeed_NoDeed : hiOf hqT "NoDeed" "NoDeed" = some true := by decide +kernel
@[simp] theorem hq_NoDeed_NoMoment : hiOf hqT "NoDeed" "NoMoment" = some false := by decide +kernel
@[simp] theorem hq_NoDeed_NoRow : hiOf hqT "NoDeed" "NoRow" = some false := by decide +kernel
@[simp] theorem hq_NoDeed_NoSheet : hiOf hqT "NoDeed" "NoSheet" = some false := by decide +kernel
@[simp] theorem hq_NoDeed_NoTie : hiOf hqT "NoDeed" "NoTie" = some false := by decide +kernel
@[simp] theorem hq_NoDeed_NotYours : hiOf hqT "NoDeed" "NotYours" = some false := by decide +kernel
@[simp] theorem hq_NoDeed_OutOfInk : hiOf hqT "NoDeed" "OutOfInk" = some false := by decide +kernel
@[simp] theorem hq_NoDeed_OutOfPlace : hiOf hqT "NoDeed" "OutOfPlace" = some false := by decide +kernel
@[simp] theorem hq_NoDeed_TooHeavy : hiOf hqT "NoDeed" "TooHeavy" = some false := by decide +kernel
@[simp] theorem hq_NoDeed_TooMany : hiOf hqT "NoDeed" "TooMany" = some false := by decide +kernel
@[simp] theorem hq_NoDeed_Ring : hiOf hqT "NoDeed" "Ring" = some false := by decide +kernel
@[simp] theorem hq_NoMoment_InkError : hiOf hqT "NoMoment" "InkError" = some true := by decide +kernel
@[simp] theorem hq_NoMoment_NoDeed : hiOf hqT "NoMoment" "NoDeed" = some false := by decide +kernel
@[simp] theorem hq_NoMoment_NoMoment : hiOf hqT "NoMoment" "NoMoment" = some true := by decide +kernel
@[simp] theorem hq_NoMoment_NoRow : hiOf hqT "NoMoment" "NoRow" = some false := by decide +kernel
@[simp] theorem hq_NoMoment_NoSheet : hiOf hqT "NoMoment" "NoSheet" = some false := by decide +kernel
@[simp] theorem hq_NoMoment_NoTie : hiOf hqT "NoMoment" "NoTie" = some false := by decide +kernel
@[simp] theorem hq_NoMoment_NotYours : hiOf hqT "NoMoment" "NotYours" = some false := by decide +kernel
@[simp] theorem hq_NoMoment_OutOfInk : hiOf hqT "NoMoment" "OutOfInk" = some false := by decide +kernel
@[simp] theorem hq_NoMoment_OutOfPlace : hiOf hqT "NoMoment" "OutOfPlace" = some false := by decide +kernel
@[simp] theorem hq_NoMoment_TooHeavy : hiOf hqT "NoMoment" "TooHeavy" = some false := by decide +kernel
@[simp] theorem hq_NoMoment_TooMany : hiOf hqT "NoMoment" "TooMany" = some false := by decide +kernel
@[simp] theorem hq_NoMoment_Ring : hiOf hqT "NoMoment" "Ring" = some false := by decide +kernel
@[simp] theorem hq_NoRow_InkError : hiOf hqT "NoRow" "InkError" = some true := by decide +kernel
@[simp] theorem hq_NoRow_NoDeed : hiOf hqT "NoRow" "NoDeed" = some false := by decide +kernel
@[simp] theorem hq_NoRow_NoMoment : hiOf hqT "NoRow" "NoMoment" = some false := by decide +kernel
@[simp] theorem hq_NoRow_NoRow : hiOf hqT "NoRow" "NoRow" = some true := by decide +kernel
@[simp] theorem hq_NoRow_NoSheet : hiOf hqT "NoRow" "NoSheet" = some false := by decide +kernel
@[simp] theorem hq_NoRow_NoTie : hiOf hqT "NoRow" "NoTie" = some false := by decide +kernel
@[simp] theorem hq_NoRow_NotYours : hiOf hqT "NoRow" "NotYours" = some false := by decide +kernel
@[simp] theorem hq_NoRow_OutOfInk : hiOf hqT "NoRow" "OutOfInk" = some false := by decide +kernel
@[simp] theorem hq_NoRow_OutOfPlace : hiOf hqT "NoRow" "OutOfPlace" = some false := by decide +kernel
@[simp] theorem hq_NoRow_TooHeavy : hiOf hqT "NoRow" "TooHeavy" = some false := by decide +kernel
@[simp] theorem hq_NoRow_TooMany : hiOf hqT "NoRow" "TooMany" = some false := by decide +kernel
@[simp] theorem hq_NoRow_Ring : hiOf hqT "NoRow" "Ring" = some false := by decide +kernel
@[simp] theorem hq_NoSheet_InkError : hiOf hqT "NoSheet" "InkError" = some true := by decide +kernel
@[simp] theorem hq_NoSheet_NoDeed : hiOf hqT "NoSheet" "NoDeed" = some false := by decide +kernel
@[simp] theorem hq_NoSheet_NoMoment : hiOf hqT "NoSheet" "NoMoment" = some false := by decide +kernel
@[simp] theorem hq_NoSheet_NoRow : hiOf hqT "NoSheet" "NoRow" = some false := by decide +kernel
@[simp] theorem hq_NoSheet_NoSheet : hiOf hqT "NoSheet" "NoSheet" = some true := by decide +kernel
@[simp] theorem hq_NoSheet_NoTie : hiOf hqT "NoSheet" "NoTie" = some false := by decide +kernel
@[simp] theorem hq_NoSheet_NotYours : hiOf hqT "NoSheet" "NotYours" = some false := by decide +kernel
@[simp] theorem hq_NoSheet_OutOfInk : hiOf hqT "NoSheet" "OutOfInk" = some false := by decide +kernel
@[simp] theorem hq_NoSheet_OutOfPlace : hiOf hqT "NoSheet" "OutOfPlace" = some false := by decide +kernel
@[simp] theorem hq_NoSheet_TooHeavy : hiOf hqT "NoSheet" "TooHeavy" = some false := by decide +kernel
@[simp] theorem hq_NoSheet_TooMany : hiOf hqT "NoSheet" "TooMany" = some false := by decide +kernel
@[simp] theorem hq_NoSheet_Ring : hiOf hqT "NoSheet" "Ring" = some false := by decide +kernel
@[simp] theorem hq_NoTie_InkError : hiOf hqT "NoTie" "InkError" = some true := by decide +kernel
@[simp] theorem hq_NoTie_NoDeed : hiOf hqT "NoTie" "NoDeed" = some false := by decide +kernel
@[simp] theorem hq_NoTie_NoMoment : hiOf hqT "NoTie" "NoMoment" = some false := by decide +kernel
@[simp] theorem hq_NoTie_NoRow : hiOf hqT "NoTie" "NoRow" = some false := by decide +kernel
@[simp] theorem hq_NoTie_NoSheet : hiOf hqT "NoTie" "NoSheet" = some false := by decide +kernel
@[simp] theorem hq_NoTie_NoTie : hiOf hqT "NoTie" "NoTie" = some true := by decide +kernel
@[simp] theorem hq_NoTie_NotYours : hiOf hqT "NoTie" "NotYours" = some false := by decide +kernel
@[simp] theorem hq_NoTie_OutOfInk : hiOf hqT "NoTie" "OutOfInk" = some false := by decide +kernel
@[simp] theorem hq_NoTie_OutOfPlace : hiOf hqT "NoTie" "OutOfPlace" = some false := by decide +kernel
@[simp] theorem hq_NoTie_TooHeavy : hiOf hqT "NoTie" "TooHeavy" = some false := by decide +kernel
@[simp] theorem hq_NoTie_TooMany : hiOf hqT "NoTie" "TooMany" = some false := by decide +kernel
@[simp] theorem hq_NoTie_Ring : hiOf hqT "NoTie" "Ring" = some false := by decide +kernel
@[simp] theorem hq_NotYours_InkError : hiOf hqT "NotYours" "InkError" = some true := by decide +kernel
@[simp] theorem hq_NotYours_NoDeed : hiOf hqT "NotYours" "NoDeed" = some false := by decide +kernel
@[simp] theorem hq_NotYours_NoMoment : hiOf hqT "NotYours" "NoMoment" = some false := by decide +kernel
@[simp] theorem hq_NotYours_NoRow : hiOf hqT "NotYours" "NoRow" = some false := by decide +kernel
@[simp] theorem hq_NotYours_NoSheet : hiOf hqT "NotYours" "NoSheet" = some false := by decide +kernel
@[simp] theorem hq_NotYours_NoTie : hiOf hqT "NotYours" "NoTie" = some false := by decide +kernel
@[simp] theorem hq_NotYours_NotYours : hiOf hqT "NotYours" "NotYours" = some true := by decide +kernel
@[simp] theorem hq_NotYours_OutOfInk : hiOf hqT "NotYours" "OutOfInk" = some false := by decide +kernel
@[simp] theorem hq_NotYours_OutOfPlace : hiOf hqT "NotYours" "OutOfPlace" = some false := by decide +kernel
@[simp] theorem hq_NotYours_TooHeavy : hiOf hqT "NotYours" "TooHeavy" = some false := by decide +kernel
@[simp] theorem hq_NotYours_TooMany : hiOf hqT "NotYours" "TooMany" = some false := by decide +kernel
@[simp] theorem hq_NotYours_Ring : hiOf hqT "NotYours" "Ring" = some false := by decide +kernel
@[simp] theorem hq_OutOfInk_InkError : hiOf hqT "OutOfInk" "InkError" = some true := by decide +kernel
@[simp] theorem hq_OutOfInk_NoDeed : hiOf hqT "OutOfInk" "NoDeed" = some false := by decide +kernel
@[simp] theorem hq_OutOfInk_NoMoment : hiOf hqT "OutOfInk" "NoMoment" = some false := by decide +kernel
@[simp] theorem hq_OutOfInk_NoRow : hiOf hqT "OutOfInk" "NoRow" = some false := by decide +kernel
@[simp] theorem hq_OutOfInk_NoSheet : hiOf hqT "OutOfInk" "NoSheet" = some false := by decide +kernel
@[simp] theorem hq_OutOfInk_NoTie : hiOf hqT "OutOfInk" "NoTie" = some false := by decide +kernel
@[simp] theorem hq_OutOfInk_NotYours : hiOf hqT "OutOfInk" "NotYours" = some false := by decide +kernel
@[simp] theorem hq_OutOfInk_OutOfInk : hiOf hqT "OutOfInk" "OutOfInk" = some true := by decide +kernel
@[simp] theorem hq_OutOfInk_OutOfPlace : hiOf hqT "OutOfInk" "OutOfPlace" = some false := by decide +kernel
@[simp] theorem hq_OutOfInk_TooHeavy : hiOf hqT "OutOfInk" "TooHeavy" = some false := by decide +kernel
@[simp] theorem hq_OutOfInk_TooMany : hiOf hqT "OutOfInk" "TooMany" = some false := by decide +kernel
@[simp] theorem hq_OutOfInk_Ring : hiOf hqT "OutOfInk" "Ring" = some false := by decide +kernel
@[simp] theorem hq_OutOfPlace_InkError : hiOf hqT "OutOfPlace" "InkError" = some true := by decide +kernel
@[simp] theorem hq_OutOfPlace_NoDeed : hiOf hqT "OutOfPlace" "NoDeed" = some false := by decide +kernel
@[simp] theorem hq_OutOfPlace_NoMoment : hiOf hqT "OutOfPlace" "NoMoment" = some false := by decide +kernel
@[simp] theorem hq_OutOfPlace_NoRow : hiOf hqT "OutOfPlace" "NoRow" = some false := by decide +kernel
@[simp] theorem hq_OutOfPlace_NoSheet : hiOf hqT "OutOfPlace" "NoSheet" = some false := by decide +kernel
@[simp] theorem hq_OutOfPlace_NoTie : hiOf hqT "OutOfPlace" "NoTie" = some false := by decide +kernel
@[simp] theorem hq_OutOfPlace_NotYours : hiOf hqT "OutOfPlace" "NotYours" = some false := by decide +kernel
@[simp] theorem hq_OutOfPlace_OutOfInk : hiOf hqT "OutOfPlace" "OutOfInk" = some false := by decide +kernel
@[simp] theorem hq_OutOfPlace_OutOfPlace : hiOf hqT "OutOfPlace" "OutOfPlace" = some true := by decide +kernel
@[simp] theorem hq_OutOfPlace_TooHeavy : hiOf hqT "OutOfPlace" "TooHeavy" = some false := by decide +kernel
@[simp] theorem hq_OutOfPlace_TooMany : hiOf hqT "OutOfPlace" "TooMany" = some false := by decide +kernel
@[simp] theorem hq_OutOfPlace_Ring : hiOf hqT "OutOfPlace" "Ring" = some false := by decide +kernel
@[simp] theorem hq_TooHeavy_InkError : hiOf hqT "TooHeavy" "InkError" = some true := by decide +kernel
@[simp] theorem hq_TooHeavy_NoDeed : hiOf hqT "TooHeavy" "NoDeed" = some false := by decide +kernel
@[simp] theorem hq_TooHeavy_NoMoment : hiOf hqT "TooHeavy" "NoMoment" = some false := by decide +kernel
@[simp] theorem hq_TooHeavy_NoRow : hiOf hqT "TooHeavy" "NoRow" = some false := by decide +kernel
@[simp] theorem hq_TooHeavy_NoSheet : hiOf hqT "TooHeavy" "NoSheet" = some false := by decide +kernel
@[simp] theorem hq_TooHeavy_NoTie : hiOf hqT "TooHeavy" "NoTie" = some false := by decide +kernel
@[simp] theorem hq_TooHeavy_NotYours : hiOf hqT "TooHeavy" "NotYours" = some false := by decide +kernel
@[simp] theorem hq_TooHeavy_OutOfInk : hiOf hqT "TooHeavy" "OutOfInk" = some false := by decide +kernel
@[simp] theorem hq_TooHeavy_OutOfPlace : hiOf hqT "TooHeavy" "OutOfPlace" = some false := by decide +kernel
@[simp] theorem hq_TooHeavy_TooHeavy : hiOf hqT "TooHeavy" "TooHeavy" = some true := by decide +kernel
@[simp] theorem hq_TooHeavy_TooMany : hiOf hqT "TooHeavy" "TooMany" = some false := by decide +kernel
@[simp] theorem hq_TooHeavy_Ring : hiOf hqT "TooHeavy" "Ring" = some false := by decide +kernel
@[simp] theorem hq_TooMany_InkError : hiOf hqT "TooMany" "InkError" = some true := by decide +kernel
@[simp] theorem hq_TooMany_NoDeed : hiOf hqT "TooMany" "NoDeed" = some false := by decide +kernel
@[simp] theorem hq_TooMany_NoMoment : hiOf hqT "TooMany" "NoMoment" = some false := by decide +kernel
@[simp] theorem hq_TooMany_NoRow : hiOf hqT "TooMany" "NoRow" = some false := by decide +kernel
@[simp] theorem hq_TooMany_NoSheet : hiOf hqT "TooMany" "NoSheet" = some false := by decide +kernel
@[simp] theorem hq_TooMany_NoTie : hiOf hqT "TooMany" "NoTie" = some false := by decide +kernel
@[simp] theorem hq_TooMany_NotYours : hiOf hqT "TooMany" "NotYours" = some false := by decide +kernel
@[simp] theorem hq_TooMany_OutOfInk : hiOf hqT "TooMany" "OutOfInk" = some false := by decide +kernel
@[simp] theorem hq_TooMany_OutOfPlace : hiOf hqT "TooMany" "OutOfPlace" = some false := by decide +kernel
@[simp] theorem hq_TooMany_TooHeavy : hiOf hqT "TooMany" "TooHeavy" = some false := by decide +kernel
@[simp] theorem hq_TooMany_TooMany : hiOf hqT "TooMany" "TooMany" = some true := by decide +kernel
@[simp] theorem hq_TooMany_Ring : hiOf hqT "TooMany" "Ring" = some false := by decide +kernel
@[simp] theorem hq_Ring_InkError : hiOf hqT "Ring" "InkError" = some true := by decide +kernel
@[simp] theorem hq_Ring_NoDeed : hiOf hqT "Ring" "NoDeed" = some false := by decide +kernel
@[simp] theorem hq_Ring_NoMoment : hiOf hqT "Ring" "NoMoment" = some false := by decide +kernel
@[simp] theorem hq_Ring_NoRow : hiOf hqT "Ring" "NoRow" = some false := by decide +kernel
@[simp] theorem hq_Ring_NoSheet : hiOf hqT "Ring" "NoSheet" = some false := by decide +kernel
@[simp] theorem hq_Ring_NoTie : hiOf hqT "Ring" "NoTie" = some false := by decide +kernel
@[simp] theorem hq_Ring_NotYours : hiOf hqT "Ring" "NotYours" = some false := by decide +kernel
@[simp] theorem hq_Ring_OutOfInk : hiOf hqT "Ring" "OutOfInk" = some false := by decide +kernel
@[simp] theorem hq_Ring_OutOfPlace : hiOf hqT "Ring" "OutOfPlace" = some false := by decide +kernel
@[simp] theorem hq_Ring_TooHeavy : hiOf hqT "Ring" "TooHeavy" = some false := by decide +kernel
@[simp] theorem hq_Ring_TooMany : hiOf hqT "Ring" "TooMany" = some false := by decide +kernel
@[simp] theorem hq_Ring_Ring : hiOf hqT "Ring" "Ring" = some true := by decide +kernel
structure AX where
 f__law_src : Addr
 d__law_src : FuncData
 f__law_next : Addr
 d__law_next : FuncData
 f_Ring___init__ : Addr
 d_Ring___init__ : FuncData
 f__law_made : Addr
 d__law_made : FuncData
 f__law_kinds : Addr
 d__law_kinds : FuncData
 f__law_whole : Addr
 d__law_whole : FuncData
 f__law_same : Addr
 d__law_same : FuncData
 f_law : Addr
 d_law : FuncData
structure TX (K : PySem.W.Frag) (mg : Str → Option Value) (a : AX) : Prop where
 x__law_src : DefX K mg "_law_src" "_law_src" (top 14) ["_law_script"] a.f__law_src a.d__law_src
 x__law_next : DefX K mg "_law_next" "_law_next" (top 15) ["_law_src_here", "_law_base"] a.f__law_next a.d__law_next
 x_Ring___init__ : DefM K "__init__" "Ring.__init__" (inClass (top 9) 0) ["self", "way"] a.f_Ring___init__ a.d_Ring___init__
 x__law_made : DefX K mg "_law_made" "_law_made" (top 18) ["_law_way"] a.f__law_made a.d__law_made
 x__law_kinds : DefX K mg "_law_kinds" "_law_kinds" (top 19) ["_law_e"] a.f__law_kinds a.d__law_kinds
 x__law_whole : DefX K mg "_law_whole" "_law_whole" (top 16) ["_law_found"] a.f__law_whole a.d__law_whole
 x__law_same : DefX K mg "_law_same" "_law_same" (top 17) ["_law_found", "_law_due"] a.f__law_same a.d__law_same
 x_law : DefX K mg "law" "law" (top 20) ["_law_script"] a.f_law a.d_law
 b_ValueError : mg "ValueError" = none
 b_bool : mg "bool" = none
 b_int : mg "int" = none
 b_isinstance : mg "isinstance" = none
 b_len : mg "len" = none
 b_list : mg "list" = none
 b_range : mg "range" = none
 b_str : mg "str" = none
 b_tuple : mg "tuple" = none
 b_zip : mg "zip" = none
 e_NoDeed : ∃ a, CAo mg "NoDeed" = some a ∧ mg "NoDeed" = some (.ref a) ∧ PySem.W.excIn K a [.type "ValueError", .type "Exception", .type "BaseException", .type "object"] "ValueError.__new__" = true ∧ PySem.W.keepIn K (.ref a) = true ∧ PySem.W.subIn K (.ref a) (.type "BaseException") = some true ∧ PySem.W.typeIn K (.ref a) = some (.type "type")
 e_NoMoment : ∃ a, CAo mg "NoMoment" = some a ∧ mg "NoMoment" = some (.ref a) ∧ PySem.W.excIn K a [.type "ValueError", .type "Exception", .type "BaseException", .type "object"] "ValueError.__new__" = true ∧ PySem.W.keepIn K (.ref a) = true ∧ PySem.W.subIn K (.ref a) (.type "BaseException") = some true ∧ PySem.W.typeIn K (.ref a) = some (.type "type")
 e_NoRow : ∃ a, CAo mg "NoRow" = some a ∧ mg "NoRow" = some (.ref a) ∧ PySem.W.excIn K a [.type "ValueError", .type "Exception", .type "BaseException", .type "object"] "ValueError.__new__" = true ∧ PySem.W.keepIn K (.ref a) = true ∧ PySem.W.subIn K (.ref a) (.type "BaseException") = some true ∧ PySem.W.typeIn K (.ref a) = some (.type "type")
 e_NoSheet : ∃ a, CAo mg "NoSheet" = some a ∧ mg "NoSheet" = some (.ref a) ∧ PySem.W.excIn K a [.type "ValueError", .type "Exception", .type "BaseException", .type "object"] "ValueError.__new__" = true ∧ PySem.W.keepIn K (.ref a) = true ∧ PySem.W.subIn K (.ref a) (.type "BaseException") = some true ∧ PySem.W.typeIn K (.ref a) = some (.type "type")
 e_NoTie : ∃ a, CAo mg "NoTie" = some a ∧ mg "NoTie" = some (.ref a) ∧ PySem.W.excIn K a [.type "ValueError", .type "Exception", .type "BaseException", .type "object"] "ValueError.__new__" = true ∧ PySem.W.keepIn K (.ref a) = true ∧ PySem.W.subIn K (.ref a) (.type "BaseException") = some true ∧ PySem.W.typeIn K (.ref a) = some (.type "type")
 e_NotYours : ∃ a, CAo mg "NotYours" = some a ∧ mg "NotYours" = some (.ref a) ∧ PySem.W.excIn K a [.type "ValueError", .type "Exception", .type "BaseException", .type "object"] "ValueError.__new__" = true ∧ PySem.W.keepIn K (.ref a) = true ∧ PySem.W.subIn K (.ref a) (.type "BaseException") = some true ∧ PySem.W.typeIn K (.ref a) = some (.type "type")
 e_OutOfInk : ∃ a, CAo mg "OutOfInk" = some a ∧ mg "OutOfInk" = some (.ref a) ∧ PySem.W.excIn K a [.type "ValueError", .type "Exception", .type "BaseException", .type "object"] "ValueError.__new__" = true ∧ PySem.W.keepIn K (.ref a) = true ∧ PySem.W.subIn K (.ref a) (.type "BaseException") = some true ∧ PySem.W.typeIn K (.ref a) = some (.type "type")
 e_OutOfPlace : ∃ a, CAo mg "OutOfPlace" = some a ∧ mg "OutOfPlace" = some (.ref a) ∧ PySem.W.excIn K a [.type "ValueError", .type "Exception", .type "BaseException", .type "object"] "ValueError.__new__" = true ∧ PySem.W.keepIn K (.ref a) = true ∧ PySem.W.subIn K (.ref a) (.type "BaseException") = some true ∧ PySem.W.typeIn K (.ref a) = some (.type "type")
 e_TooHeavy : ∃ a, CAo mg "TooHeavy" = some a ∧ mg "TooHeavy" = some (.ref a) ∧ PySem.W.excIn K a [.type "ValueError", .type "Exception", .type "BaseException", .type "object"] "ValueError.__new__" = true ∧ PySem.W.keepIn K (.ref a) = true ∧ PySem.W.subIn K (.ref a) (.type "BaseException") = some true ∧ PySem.W.typeIn K (.ref a) = some (.type "type")
 e_TooMany : ∃ a, CAo mg "TooMany" = some a ∧ mg "TooMany" = some (.ref a) ∧ PySem.W.excIn K a [.type "ValueError", .type "Exception", .type "BaseException", .type "object"] "ValueError.__new__" = true ∧ PySem.W.keepIn K (.ref a) = true ∧ PySem.W.subIn K (.ref a) (.type "BaseException") = some true ∧ PySem.W.typeIn K (.ref a) = some (.type "type")
 oe_Ring : OexF K mg (CAo mg) "Ring" "way" a.f_Ring___init__
 xf_Ring : ∀ c, CAo mg "Ring" = some c → XfC K c
 isx : ∀ x ∈ exNs, ∀ c, CAo mg x = some c → L2.ExcC K c
 c_InkError : ∃ a, CAo mg "InkError" = some a ∧ mg "InkError" = some (.ref a)
 c_NoDeed : ∃ a, CAo mg "NoDeed" = some a ∧ mg "NoDeed" = some (.ref a)
 c_NoMoment : ∃ a, CAo mg "NoMoment" = some a ∧ mg "NoMoment" = some (.ref a)
 c_NoRow : ∃ a, CAo mg "NoRow" = some a ∧ mg "NoRow" = some (.ref a)
 c_NoSheet : ∃ a, CAo mg "NoSheet" = some a ∧ mg "NoSheet" = some (.ref a)
 c_NoTie : ∃ a, CAo mg "NoTie" = some a ∧ mg "NoTie" = some (.ref a)
 c_NotYours : ∃ a, CAo mg "NotYours" = some a ∧ mg "NotYours" = some (.ref a)
 c_OutOfInk : ∃ a, CAo mg "OutOfInk" = some a ∧ mg "OutOfInk" = some (.ref a)
 c_OutOfPlace : ∃ a, CAo mg "OutOfPlace" = some a ∧ mg "OutOfPlace" = some (.ref a)
 c_TooHeavy : ∃ a, CAo mg "TooHeavy" = some a ∧ mg "TooHeavy" = some (.ref a)
 c_TooMany : ∃ a, CAo mg "TooMany" = some a ∧ mg "TooMany" = some (.ref a)
 c_Ring : ∃ a, CAo mg "Ring" = some a ∧ mg "Ring" = some (.ref a)
 isq : Kits K (CAo mg) hqL
 isv : ∀ x ∈ exNs, ∀ c, CAo mg x = some c → PySem.W.kitOne K (.ref c) (.type "ValueError") = some true
noncomputable section
variable {P : Program} {w : World} {K : PySem.W.Frag} {mg : Str → Option Value} {base : Heap} {a : AX}
abbrev s__law_src : Stmt := top 14
abbrev N__law_src : List Str := ["_law_script"]
theorem sc__law_src : FnScope N__law_src ["_law_script"] (defScope s__law_src) := ⟨rfl, rfl, rfl, by decide +kernel, rfl, by decide +kernel, by decide +kernel⟩
def m__law_src : MS := (mSeq (mRet (mLst (mCons (mListE (mSlScr (mScr 0) oNo (oQ (qC (.int 63))))) (mCons (mQ (qC (.int 0))) (mCons (mQ (qC (.int 0))) (mCons (mQ (qC (.int 1))) mNil)))))) mSkip)
def F__law_src : Fn := runF [.bo] 1 m__law_src
theorem ok__law_src (T : TX K mg a) : FnOk P w K mg base (L2.CX P w) 1 a.f__law_src a.d__law_src ["_law_script"] (spF K (CAo mg) 1 F__law_src) :=
 fn_okO (K := K) (mg := mg) (CA := CAo mg) (N := N__law_src) (ms := [.bo]) (m := m__law_src) T.x__law_src.F sc__law_src rfl fun _ _ _ _ _ _ _ _ _ _ hfx hr O hu =>
 (vb_cons (vs_ret (ve_lst (vl_cons (ve_listE O (ve_slScr O (ve_scr 0) vo_no (vo_q vq_int)) (by rfl) T.b_list) (vl_cons (VQ.e vq_int) (vl_cons (VQ.e vq_int) (vl_cons (VQ.e vq_int) vl_nil)))))) vb_nil)
abbrev s__law_next : Stmt := top 15
abbrev N__law_next : List Str := ["_law_src_here", "_law_base", "_law_cell", "_law_digit"]
theorem sc__law_next : FnScope N__law_next ["_law_src_here", "_law_base"] (defScope s__law_next) := ⟨rfl, rfl, rfl, by decide +kernel, rfl, by decide +kernel, by decide +kernel⟩
def m__law_next : MS := (mSeq (mIf (mTQ (qOp gLe (qIx (qV 0) (qC (.int 2))) (qC (.int 1)))) (mSeq (mAsg (mQ (qC (.int 7))) (gNm 2)) (mSeq (mIf (mTQ (qOp gLt (qIx (qV 0) (qC (.int 1))) (qLen (qIx (qV 0) (qC (.int 0)))))) (mSeq (mAsg (mQ (qIx (qIx (qV 0) (qC (.int 0))) (qIx (qV 0) (qC (.int 1))))) (gNm 2)) (mSeq (mAsg (mQ (qOp gAdd (qIx (qV 0) (qC (.int 1))) (qC (.int 1)))) (gIx (qV 0) (qC (.int 1)))) mSkip)) mSkip) (mSeq (mAsg (mQ (qOp gMod (qOp gAdd (qOp gAdd (qOp gMul (qIx (qV 0) (qC (.int 3))) (qC (.int 48271))) (qOp gMod (qV 2) (qC (.int 998244353)))) (qC (.int 1))) (qC (.int 2147483647)))) (gIx (qV 0) (qC (.int 3)))) (mSeq (mIf (mTQ (qOp gGe (qV 2) (qOp gPow (qC (.int 10)) (qC (.int 18))))) (mSeq (mAsg (mQ (qV 2)) (gIx (qV 0) (qC (.int 2)))) mSkip) mSkip) mSkip)))) mSkip) (mSeq (mIf (mTQ (qOp gGt (qIx (qV 0) (qC (.int 2))) (qC (.int 1)))) (mSeq (mAsg (mQ (qOp gMod (qIx (qV 0) (qC (.int 2))) (qV 1))) (gNm 3)) (mSeq (mAsg (mQ (qOp gDiv (qIx (qV 0) (qC (.int 2))) (qV 1))) (gIx (qV 0) (qC (.int 2)))) (mSeq (mRet (mMove 3)) mSkip))) mSkip) (mSeq (mRet (mQ (qOp gMod (qOp gDiv (qOp gMod (qOp gMul (qIx (qV 0) (qC (.int 3))) (qC (.int 40692))) (qC (.int 2147483399))) (qC (.int 3))) (qV 1)))) mSkip)))
def F__law_next : Fn := runF [.io, .bo] 4 m__law_next
theorem ok__law_next (T : TX K mg a) : FnOk P w K mg base (L2.CX P w) 1 a.f__law_next a.d__law_next ["_law_src_here", "_law_base"] (spF K (CAo mg) 2 F__law_next) :=
 fn_okO (K := K) (mg := mg) (CA := CAo mg) (N := N__law_next) (ms := [.io, .bo]) (m := m__law_next) T.x__law_next.F sc__law_next rfl fun _ _ _ _ _ _ _ _ _ _ hfx hr O hu =>
 (vb_cons (vs_if (VQ.tc (vq_le (vq_ix O (vq_v 0) vq_int) vq_int)) (vb_cons (vs_set (i := 2) sc__law_next.nd (VQ.e vq_int) (hfx 2 rfl)) (vb_cons (vs_if (VQ.tc (vq_lt (vq_ix O (vq_v 0) vq_int) (vq_len O (vq_ix O (vq_v 0) vq_int) (by rfl) T.b_len))) (vb_cons (vs_set (i := 2) sc__law_next.nd (VQ.e (vq_ix O (vq_ix O (vq_v 0) vq_int) (vq_ix O (vq_v 0) vq_int))) (hfx 2 rfl)) (vb_cons (vs_asg (VQ.e (vq_add (vq_ix O (vq_v 0) vq_int) vq_int)) (vg_ix (vq_v 0) vq_int)) vb_nil)) vb_nil) (vb_cons (vs_asg (VQ.e (vq_mod (vq_add (vq_add (vq_mul (vq_ix O (vq_v 0) vq_int) vq_int) (vq_mod (vq_v 2) vq_int)) vq_int) vq_int)) (vg_ix (vq_v 0) vq_int)) (vb_cons (vs_if (VQ.tc (vq_ge (vq_v 2) (vq_pow vq_int vq_int))) (vb_cons (vs_asg (VQ.e (vq_v 2)) (vg_ix (vq_v 0) vq_int)) vb_nil) vb_nil) vb_nil)))) vb_nil) (vb_cons (vs_if (VQ.tc (vq_gt (vq_ix O (vq_v 0) vq_int) vq_int)) (vb_cons (vs_set (i := 3) sc__law_next.nd (VQ.e (vq_mod (vq_ix O (vq_v 0) vq_int) (vq_v 1))) (hfx 3 rfl)) (vb_cons (vs_asg (VQ.e (vq_div (vq_ix O (vq_v 0) vq_int) (vq_v 1))) (vg_ix (vq_v 0) vq_int)) (vb_cons (vs_ret (ve_move 3)) vb_nil))) vb_nil) (vb_cons (vs_ret (VQ.e (vq_mod (vq_div (vq_mod (vq_mul (vq_ix O (vq_v 0) vq_int) vq_int) vq_int) vq_int) (vq_v 1)))) vb_nil)))
abbrev s_Ring___init__ : Stmt := inClass (top 9) 0
abbrev N_Ring___init__ : List Str := ["self", "way"]
theorem sc_Ring___init__ : FnScope N_Ring___init__ ["self", "way"] (defScope s_Ring___init__) := ⟨rfl, rfl, rfl, by decide +kernel, rfl, by decide +kernel, by decide +kernel⟩
theorem ok_Ring___init__ (T : TX K mg a) : FnOk P w K mg base (L2.CX P w) 1 a.f_Ring___init__ a.d_Ring___init__ ["self", "way"] (spI K "way") :=
 fn_init (k := 0) T.x_Ring___init__.F sc_Ring___init__ fun cdv A outer s H E => pss_one (ps_ost (pe_var (i := 0) rfl (Or.inl rfl)) (pe_callTy call_list_of (by rfl) T.b_list PyProof.Rows.boot_list (pa_cons (pe_var (i := 1) rfl (Or.inl rfl)) pa_nil (by rfl)) (by decide) (by decide) (by rfl)))
abbrev s__law_made : Stmt := top 18
abbrev N__law_made : List Str := ["_law_way"]
theorem sc__law_made : FnScope N__law_made ["_law_way"] (defScope s__law_made) := ⟨rfl, rfl, rfl, by decide +kernel, rfl, by decide +kernel, by decide +kernel⟩
def m__law_made : MS := (mSeq (mIf (mTQ (qOp gLt (qV 0) (qC (.int 5)))) (mSeq (mRet (mIxE (mLst (mCons (mMkE "NoDeed" (mQ (qC (.str "a")))) (mCons (mMkE "NoMoment" (mQ (qC (.str "a")))) (mCons (mMkE "NoRow" (mQ (qC (.str "a")))) (mCons (mMkE "NoSheet" (mQ (qC (.str "a")))) (mCons (mMkE "NoTie" (mQ (qC (.str "a")))) mNil)))))) (mQ (qV 0)))) mSkip) mSkip) (mSeq (mIf (mTQ (qOp gLt (qV 0) (qC (.int 8)))) (mSeq (mRet (mIxE (mLst (mCons (mMkE "NotYours" (mQ (qC (.str "a")))) (mCons (mMkE "OutOfInk" (mQ (qC (.str "a")))) (mCons (mMkE "OutOfPlace" (mQ (qC (.str "a")))) mNil)))) (mQ (qOp gSub (qV 0) (qC (.int 5)))))) mSkip) mSkip) (mSeq (mRet (mIxE (mLst (mCons (mMkE "TooHeavy" (mQ (qC (.str "a")))) (mCons (mMkE "TooMany" (mQ (qC (.str "a")))) (mCons (mMkO "Ring" "way" (mLst (mCons (mQ (qC (.int 3))) (mCons (mQ (qC (.int 4))) (mCons (mQ (qC (.int 3))) mNil))))) mNil)))) (mQ (qOp gSub (qV 0) (qC (.int 8)))))) mSkip)))
def F__law_made : Fn := runF [.bo] 1 m__law_made
theorem ok__law_made (T : TX K mg a) : FnOk P w K mg base (L2.CX P w) 3 a.f__law_made a.d__law_made ["_law_way"] (spF K (CAo mg) 1 F__law_made) :=
 fn_okO (K := K) (mg := mg) (CA := CAo mg) (N := N__law_made) (ms := [.bo]) (m := m__law_made) T.x__law_made.F sc__law_made rfl fun _ _ _ _ _ _ _ _ _ _ hfx hr O hu =>
 (vb_cons (vs_if (VQ.tc (vq_lt (vq_v 0) vq_int)) (vb_cons (vs_ret (ve_ixE O (ve_lst (vl_cons (ve_mkE ⟨T.e_NoDeed⟩ (by rfl) (VQ.e vq_str)) (vl_cons (ve_mkE ⟨T.e_NoMoment⟩ (by rfl) (VQ.e vq_str)) (vl_cons (ve_mkE ⟨T.e_NoRow⟩ (by rfl) (VQ.e vq_str)) (vl_cons (ve_mkE ⟨T.e_NoSheet⟩ (by rfl) (VQ.e vq_str)) (vl_cons (ve_mkE ⟨T.e_NoTie⟩ (by rfl) (VQ.e vq_str)) vl_nil)))))) (VQ.e (vq_v 0)))) vb_nil) vb_nil) (vb_cons (vs_if (VQ.tc (vq_lt (vq_v 0) vq_int)) (vb_cons (vs_ret (ve_ixE O (ve_lst (vl_cons (ve_mkE ⟨T.e_NotYours⟩ (by rfl) (VQ.e vq_str)) (vl_cons (ve_mkE ⟨T.e_OutOfInk⟩ (by rfl) (VQ.e vq_str)) (vl_cons (ve_mkE ⟨T.e_OutOfPlace⟩ (by rfl) (VQ.e vq_str)) vl_nil)))) (VQ.e (vq_sub (vq_v 0) vq_int)))) vb_nil) vb_nil) (vb_cons (vs_ret (ve_ixE O (ve_lst (vl_cons (ve_mkE ⟨T.e_TooHeavy⟩ (by rfl) (VQ.e vq_str)) (vl_cons (ve_mkE ⟨T.e_TooMany⟩ (by rfl) (VQ.e vq_str)) (vl_cons (ve_mkO T.oe_Ring (ok_Ring___init__ (P := P) (w := w) (base := base) T) (hr.mono (by decide)) T.x_Ring___init__.b (by rfl) (ve_lst (vl_cons (VQ.e vq_int) (vl_cons (VQ.e vq_int) (vl_cons (VQ.e vq_int) vl_nil))))) vl_nil)))) (VQ.e (vq_sub (vq_v 0) vq_int)))) vb_nil)))
abbrev s__law_kinds : Stmt := top 19
abbrev N__law_kinds : List Str := ["_law_e", "_law_kinds_here"]
theorem sc__law_kinds : FnScope N__law_kinds ["_law_e"] (defScope s__law_kinds) := ⟨rfl, rfl, rfl, by decide +kernel, rfl, by decide +kernel, by decide +kernel⟩
def m__law_kinds : MS := (mSeq (mAsg (mLst (mCons (mIsO hqL exNs 0 "NoDeed") (mCons (mIsO hqL exNs 0 "NoMoment") (mCons (mIsO hqL exNs 0 "NoRow") (mCons (mIsO hqL exNs 0 "NoSheet") mNil))))) (gNm 1)) (mSeq (mAsg (mAdd (mQ (qV 1)) (mLst (mCons (mIsO hqL exNs 0 "NoTie") (mCons (mIsO hqL exNs 0 "NotYours") (mCons (mIsO hqL exNs 0 "OutOfInk") mNil))))) (gNm 1)) (mSeq (mAsg (mAdd (mQ (qV 1)) (mLst (mCons (mIsO hqL exNs 0 "OutOfPlace") (mCons (mIsO hqL exNs 0 "TooHeavy") (mCons (mIsO hqL exNs 0 "TooMany") mNil))))) (gNm 1)) (mSeq (mRet (mAdd (mQ (qV 1)) (mLst (mCons (mIsO hqL exNs 0 "Ring") mNil)))) mSkip))))
def F__law_kinds : Fn := runF [.bo] 2 m__law_kinds
theorem ok__law_kinds (T : TX K mg a) : FnOk P w K mg base (L2.CX P w) 1 a.f__law_kinds a.d__law_kinds ["_law_e"] (spF K (CAo mg) 1 F__law_kinds) :=
 fn_okO (K := K) (mg := mg) (CA := CAo mg) (N := N__law_kinds) (ms := [.bo]) (m := m__law_kinds) T.x__law_kinds.F sc__law_kinds rfl fun _ _ _ _ _ _ _ _ _ _ hfx hr O hu =>
 (vb_cons (vs_set (i := 1) sc__law_kinds.nd (ve_lst (vl_cons (ve_isO 0 T.isq T.isx T.c_NoDeed (by rfl) (by rfl) T.b_isinstance) (vl_cons (ve_isO 0 T.isq T.isx T.c_NoMoment (by rfl) (by rfl) T.b_isinstance) (vl_cons (ve_isO 0 T.isq T.isx T.c_NoRow (by rfl) (by rfl) T.b_isinstance) (vl_cons (ve_isO 0 T.isq T.isx T.c_NoSheet (by rfl) (by rfl) T.b_isinstance) vl_nil))))) (hfx 1 rfl)) (vb_cons (vs_set (i := 1) sc__law_kinds.nd (ve_add O (VQ.e (vq_v 1)) (ve_lst (vl_cons (ve_isO 0 T.isq T.isx T.c_NoTie (by rfl) (by rfl) T.b_isinstance) (vl_cons (ve_isO 0 T.isq T.isx T.c_NotYours (by rfl) (by rfl) T.b_isinstance) (vl_cons (ve_isO 0 T.isq T.isx T.c_OutOfInk (by rfl) (by rfl) T.b_isinstance) vl_nil))))) (hfx 1 rfl)) (vb_cons (vs_set (i := 1) sc__law_kinds.nd (ve_add O (VQ.e (vq_v 1)) (ve_lst (vl_cons (ve_isO 0 T.isq T.isx T.c_OutOfPlace (by rfl) (by rfl) T.b_isinstance) (vl_cons (ve_isO 0 T.isq T.isx T.c_TooHeavy (by rfl) (by rfl) T.b_isinstance) (vl_cons (ve_isO 0 T.isq T.isx T.c_TooMany (by rfl) (by rfl) T.b_isinstance) vl_nil))))) (hfx 1 rfl)) (vb_cons (vs_ret (ve_add O (VQ.e (vq_v 1)) (ve_lst (vl_cons (ve_isO 0 T.isq T.isx T.c_Ring (by rfl) (by rfl) T.b_isinstance) vl_nil)))) vb_nil))))
abbrev s__law_whole : Stmt := top 16
abbrev N__law_whole : List Str := ["_law_found"]
theorem sc__law_whole : FnScope N__law_whole ["_law_found"] (defScope s__law_whole) := ⟨rfl, rfl, rfl, by decide +kernel, rfl, by decide +kernel, by decide +kernel⟩
def m__law_whole : MS := (mSeq (mRet (mAndV (mQ (qIsi "int" (qV 0))) (mNotV (mQ (qIsi "bool" (qV 0)))))) mSkip)
def F__law_whole : Fn := runF [.bo] 1 m__law_whole
theorem ok__law_whole (T : TX K mg a) : FnOk P w K mg base (L2.CX P w) 1 a.f__law_whole a.d__law_whole ["_law_found"] (spF K (CAo mg) 1 F__law_whole) :=
 fn_okO (K := K) (mg := mg) (CA := CAo mg) (N := N__law_whole) (ms := [.bo]) (m := m__law_whole) T.x__law_whole.F sc__law_whole rfl fun _ _ _ _ _ _ _ _ _ _ hfx hr O hu =>
 (vb_cons (vs_ret (ve_and (VQ.e (vq_isi O "int" (vq_v 0) rfl (by rfl) T.b_int (by rfl) T.b_isinstance)) (ve_one (ve_not (VQ.e (vq_isi O "bool" (vq_v 0) rfl (by rfl) T.b_bool (by rfl) T.b_isinstance)))))) vb_nil)
abbrev s__law_same : Stmt := top 17
abbrev N__law_same : List Str := ["_law_found", "_law_due", "_law_one", "_law_other"]
theorem sc__law_same : FnScope N__law_same ["_law_found", "_law_due"] (defScope s__law_same) := ⟨rfl, rfl, rfl, by decide +kernel, rfl, by decide +kernel, by decide +kernel⟩
def lg__law_same_1 : MG := (gTu 2 (gC1 (gNm 2) (gC1 (gNm 3) gN0)))
def lb__law_same_1 (R__law_same : Fn) : MS := (mSeq (mIf (mNotT (mTE (mCall [.bo, .bo] R__law_same (aPth (qV 2) (aPth (qV 3) aNil))))) (mSeq (mRet (mQ (qC (.bl false)))) mSkip) mSkip) mSkip)
def m__law_same (R__law_same : Fn) : MS := (mSeq (mIf (mTQ (qIsN false (qV 1))) (mSeq (mRet (mQ (qIsN false (qV 0)))) mSkip) mSkip) (mSeq (mIf (mTQ (qIsi "bool" (qV 1))) (mSeq (mRet (mAndV (mQ (qIsi "bool" (qV 0))) (mQ (qEq false (qV 0) (qV 1))))) mSkip) mSkip) (mSeq (mIf (mTQ (qIsi "int" (qV 1))) (mSeq (mRet (mAndV (mCall [.bo] F__law_whole (aPth (qV 0) aNil)) (mQ (qEq false (qV 0) (qV 1))))) mSkip) mSkip) (mSeq (mIf (mTQ (qIsi "str" (qV 1))) (mSeq (mRet (mAndV (mQ (qIsi "str" (qV 0))) (mQ (qEq false (qV 0) (qV 1))))) mSkip) mSkip) (mSeq (mIf (mOrT (mTQ (qEq true (qIsi "list" (qV 1)) (qIsi "list" (qV 0)))) (mTQ (qEq true (qIsi "tuple" (qV 1)) (qIsi "tuple" (qV 0))))) (mSeq (mRet (mQ (qC (.bl false)))) mSkip) mSkip) (mSeq (mIf (mTQ (qEq true (qLen (qV 0)) (qLen (qV 1)))) (mSeq (mRet (mQ (qC (.bl false)))) mSkip) mSkip) (mSeq (mForZ (mQ (qV 0)) (mQ (qV 1)) lg__law_same_1 (lb__law_same_1 R__law_same)) (mSeq (mRet (mQ (qC (.bl true)))) mSkip))))))))
def F__law_same : Nat → Fn
 | 0 => fun _ => .stuck
 | n + 1 => runF [.bo, .bo] 4 (m__law_same (F__law_same n))
theorem okn__law_same (T : TX K mg a) : ∀ n : Nat, FnOk P w K mg base (L2.CX P w) (n + 1) a.f__law_same a.d__law_same ["_law_found", "_law_due"] (spF K (CAo mg) 2 (F__law_same n))
 | 0 => fn_stuck (ps := ["_law_found", "_law_due"])
 | n + 1 => fn_okO (K := K) (mg := mg) (CA := CAo mg) (N := N__law_same) (k := n + 1) (ms := [.bo, .bo]) (m := m__law_same (F__law_same n)) T.x__law_same.F sc__law_same rfl fun _ _ _ _ _ _ _ _ _ _ hfx hr O hu => (
   have G__law_same := okn__law_same T n
   ((vb_cons (vs_if (VQ.tc (vq_isN (vq_v 1))) (vb_cons (vs_ret (VQ.e (vq_isN (vq_v 0)))) vb_nil) vb_nil) (vb_cons (vs_if (VQ.t (vq_isi O "bool" (vq_v 1) rfl (by rfl) T.b_bool (by rfl) T.b_isinstance)) (vb_cons (vs_ret (ve_and (VQ.e (vq_isi O "bool" (vq_v 0) rfl (by rfl) T.b_bool (by rfl) T.b_isinstance)) (ve_one (VQ.e (vq_eq O hu (vq_v 0) (vq_v 1)))))) vb_nil) vb_nil) (vb_cons (vs_if (VQ.t (vq_isi O "int" (vq_v 1) rfl (by rfl) T.b_int (by rfl) T.b_isinstance)) (vb_cons (vs_ret (ve_and (ve_call O (@ok__law_whole P w K mg base a T) rfl (hr.mono (by omega)) (by rfl) T.x__law_whole.mg T.x__law_whole.kp T.x__law_whole.b (va_var 0 va_nil)) (ve_one (VQ.e (vq_eq O hu (vq_v 0) (vq_v 1)))))) vb_nil) vb_nil) (vb_cons (vs_if (VQ.t (vq_isi O "str" (vq_v 1) rfl (by rfl) T.b_str (by rfl) T.b_isinstance)) (vb_cons (vs_ret (ve_and (VQ.e (vq_isi O "str" (vq_v 0) rfl (by rfl) T.b_str (by rfl) T.b_isinstance)) (ve_one (VQ.e (vq_eq O hu (vq_v 0) (vq_v 1)))))) vb_nil) vb_nil) (vb_cons (vs_if (VW.t (VT.or (VQ.tc (vq_ne O hu (vq_isi O "list" (vq_v 1) rfl (by rfl) T.b_list (by rfl) T.b_isinstance) (vq_isi O "list" (vq_v 0) rfl (by rfl) T.b_list (by rfl) T.b_isinstance))) (VT.or1 (VQ.tc (vq_ne O hu (vq_isi O "tuple" (vq_v 1) rfl (by rfl) T.b_tuple (by rfl) T.b_isinstance) (vq_isi O "tuple" (vq_v 0) rfl (by rfl) T.b_tuple (by rfl) T.b_isinstance)))))) (vb_cons (vs_ret (VQ.e vq_bl)) vb_nil) vb_nil) (vb_cons (vs_if (VQ.tc (vq_ne O hu (vq_len O (vq_v 0) (by rfl) T.b_len) (vq_len O (vq_v 1) (by rfl) T.b_len))) (vb_cons (vs_ret (VQ.e vq_bl)) vb_nil) vb_nil) (vb_cons (vs_forZ O (passes_of rfl) rfl (VQ.e (vq_v 0)) (VQ.e (vq_v 1)) (vg_tup O rfl (vgs_cons (vg_name (i := 2) sc__law_same.nd (hfx 2 rfl)) (vgs_cons (vg_name (i := 3) sc__law_same.nd (hfx 3 rfl)) vgs_nil))) (vb_cons (vs_if (VT.not (VE.t (ve_call O G__law_same rfl hr (by rfl) T.x__law_same.mg T.x__law_same.kp T.x__law_same.b (va_var 2 (va_var 3 va_nil))))) (vb_cons (vs_ret (VQ.e vq_bl)) vb_nil) vb_nil) vb_nil) (by rfl) T.b_zip) (vb_cons (vs_ret (VQ.e vq_bl)) vb_nil))))))))))
def F__law_same_top : Fn := F__law_same 6
theorem ok__law_same (T : TX K mg a) : FnOk P w K mg base (L2.CX P w) 7 a.f__law_same a.d__law_same ["_law_found", "_law_due"] (spF K (CAo mg) 2 F__law_same_top) := okn__law_same T 6
abbrev s_law : Stmt := top 20
abbrev N_law : List Str := ["_law_script", "_law_src_here", "_law_way", "_law_made_here", "_law_sheets", "_law_handed", "_law_found", "_law_k"]
theorem sc_law : FnScope N_law ["_law_script"] (defScope s_law) := ⟨rfl, rfl, rfl, by decide +kernel, rfl, by decide +kernel, by decide +kernel⟩
def lg_law_1 : MG := (gNm 7)
def lt_law_1 : List D → R Bool := mYes
def le_law_1 : List D → R D := (mQ (qEq false (qV 7) (qV 2)))
def lg_law_2 : MG := (gNm 7)
def lt_law_2 : List D → R Bool := mYes
def le_law_2 : List D → R D := (mCall [.io, .bo] F__law_next (aPth (qV 1) (aVal (mQ (qC (.int 40))) aNil)))
def m_law : MS := (mSeq (mAsg (mCall [.bo] F__law_src (aVal (mScr 0) aNil)) (gNm 1)) (mSeq (mAsg (mCall [.io, .bo] F__law_next (aPth (qV 1) (aVal (mQ (qC (.int 11))) aNil))) (gNm 2)) (mSeq (mAsg (mCall [.bo] F__law_made (aPth (qV 2) aNil)) (gNm 3)) (mSeq (mIf (mOrT (mNotT (mTE (mIsO hqL exNs 3 "InkError"))) (mNotT (mTE (mIsV exNs 3)))) (mSeq (mRet (mQ (qC (.bl false)))) mSkip) mSkip) (mSeq (mIf (mTE (mEq true (mCall [.bo] F__law_kinds (aVal (mExc 3) aNil)) (mLcR1 (mQ (qC (.int 11))) [7] lg_law_1 lt_law_1 le_law_1))) (mSeq (mRet (mQ (qC (.bl false)))) mSkip) mSkip) (mSeq (mAsg (mLcR1 (mCall [.io, .bo] F__law_next (aPth (qV 1) (aVal (mQ (qC (.int 7))) aNil))) [7] lg_law_2 lt_law_2 le_law_2) (gNm 4)) (mSeq (mAsg (mListQ (qV 4)) (gNm 5)) (mSeq (mAsg (mMkOQ "Ring" "way" (qV 5)) (gNm 6)) (mSeq (mExpr (mAppend (qV 5) (mQ (qC (.int 5))))) (mSeq (mRet (mCall [.bo, .bo] F__law_same_top (aVal (mWay 6 "Ring" "way") (aPth (qV 4) aNil)))) mSkip))))))))))
def F_law : Fn := runF [.bo] 8 m_law
theorem ok_law (T : TX K mg a) : FnOk P w K mg base (L2.CX P w) 8 a.f_law a.d_law ["_law_script"] (spF K (CAo mg) 1 F_law) :=
 fn_okO (K := K) (mg := mg) (CA := CAo mg) (N := N_law) (ms := [.bo]) (m := m_law) T.x_law.F sc_law rfl fun _ _ _ _ _ _ _ _ _ _ hfx hr O hu =>
 (vb_cons (vs_set (i := 1) sc_law.nd (ve_call O (@ok__law_src P w K mg base a T) rfl (hr.mono (by decide)) (by rfl) T.x__law_src.mg T.x__law_src.kp T.x__law_src.b (va_val (ve_scr 0) va_nil)) (hfx 1 rfl)) (vb_cons (vs_set (i := 2) sc_law.nd (ve_call O (@ok__law_next P w K mg base a T) rfl (hr.mono (by decide)) (by rfl) T.x__law_next.mg T.x__law_next.kp T.x__law_next.b (va_var 1 (va_val (VQ.e vq_int) va_nil))) (hfx 2 rfl)) (vb_cons (vs_set (i := 3) sc_law.nd (ve_call O (@ok__law_made P w K mg base a T) rfl (hr.mono (by decide)) (by rfl) T.x__law_made.mg T.x__law_made.kp T.x__law_made.b (va_var 2 va_nil)) (hfx 3 rfl)) (vb_cons (vs_if (VW.t (VT.or (VT.not (VE.t (ve_isO 3 T.isq T.isx T.c_InkError (by rfl) (by rfl) T.b_isinstance))) (VT.or1 (VT.not (VE.t (ve_isV 3 T.isv T.isx (by rfl) T.b_ValueError (by rfl) T.b_isinstance)))))) (vb_cons (vs_ret (VQ.e vq_bl)) vb_nil) vb_nil) (vb_cons (vs_if (VE.tc (ve_ne O hu (ve_call O (@ok__law_kinds P w K mg base a T) rfl (hr.mono (by decide)) (by rfl) T.x__law_kinds.mg T.x__law_kinds.kp T.x__law_kinds.b (va_val (ve_exc 3) va_nil)) (ve_lcR1 (own := [("_law_k", 7)]) (g := lg_law_1) (mt := lt_law_1) (se := true) (me := le_law_1) O rfl sc_law.nd (fxs_cons (hfx 7 rfl) fxs_nil) (VQ.e vq_int) ⟨blkC_by (Nn := N_law) (scn := defScope s_law) rfl rfl (by decide +kernel), fun _ _ _ _ _ O => (vgo_name (i := 7) sc_law.nd (by decide) (hfx 7 rfl)), fun _ _ _ _ _ O => vts_nil, fun _ _ _ _ _ O => (VQ.e (vq_eq O hu (vq_v 7) (vq_v 2)))⟩ (by rfl) T.b_range))) (vb_cons (vs_ret (VQ.e vq_bl)) vb_nil) vb_nil) (vb_cons (vs_setLcR1 (i := 4) (own := [("_law_k", 7)]) (g := lg_law_2) (mt := lt_law_2) (se := false) (me := le_law_2) O rfl sc_law.nd (fxs_cons (hfx 7 rfl) fxs_nil) (ve_call O (@ok__law_next P w K mg base a T) rfl (hr.mono (by decide)) (by rfl) T.x__law_next.mg T.x__law_next.kp T.x__law_next.b (va_var 1 (va_val (VQ.e vq_int) va_nil))) ⟨blkC_by (Nn := N_law) (scn := defScope s_law) rfl rfl (by decide +kernel), fun _ _ _ _ _ O => (vgo_name (i := 7) sc_law.nd (by decide) (hfx 7 rfl)), fun _ _ _ _ _ O => vts_nil, fun _ _ _ _ _ O => (ve_call O (@ok__law_next P w K mg base a T) rfl (hr.mono (by decide)) (by rfl) T.x__law_next.mg T.x__law_next.kp T.x__law_next.b (va_var 1 (va_val (VQ.e vq_int) va_nil)))⟩ (hfx 4 rfl) (by rfl) T.b_range) (vb_cons (vs_set (i := 5) sc_law.nd (ve_listQ O (vq_v 4) (by rfl) T.b_list) (hfx 5 rfl)) (vb_cons (vs_set (i := 6) sc_law.nd (ve_mkOQ T.oe_Ring (ok_Ring___init__ (P := P) (w := w) (base := base) T) (hr.mono (by decide)) T.x_Ring___init__.b (by rfl) (vq_v 5)) (hfx 6 rfl)) (vb_cons (vs_expr (ve_append O (vq_v 5) (VQ.e vq_int) (.inl rfl))) (vb_cons (vs_ret (ve_call O (@ok__law_same P w K mg base a T) rfl (hr.mono (by decide)) (by rfl) T.x__law_same.mg T.x__law_same.kp T.x__law_same.b (va_val (ve_way 6 (cn := "Ring") (xw_of T.oe_Ring T.xf_Ring)) (va_var 4 va_nil)))) vb_nil))))))))))
end
end Law
namespace Law
open PySem L2 PV
structure Sr where
 cs : List Int
 p : Int
 n : Int
 r : Int
 hp : 0 ≤ p
 hr : 0 ≤ r
 hr2 : r < 2147483647
def srcD (s : Sr) : D := .nd (.lst .own) [.nd (.lst .own) (s.cs.map D.int), .int s.p, .int s.n, .int s.r]
@[simp] theorem noBor_srcD (s : Sr) : D.noBor (srcD s) = true := by simp [srcD]
@[simp] theorem plD0_srcD (r : Nat) (p : Pth) (s : Sr) : plD0 r p (srcD s) = some (.pth r p) := rfl
theorem src_ok (cs : List Int) : ∃ s : Sr, F__law_src [.scr cs] = .ok (srcD s) [.un] := ⟨⟨cutL cs none (some 63), 0, 0, 1, by decide, by decide, by decide⟩, by
 simp [F__law_src, runF_eq, m__law_src, chk_of, PySem.sizeLine_eq, srcD]⟩
theorem next_sat (s : Sr) (b : Int) (hb : 0 < b) (hb1 : b < 10000000000000000000000000000000000000000000000000000000000000000000000) : (F__law_next [srcD s, .int b]).sat fun d o => ∃ (v : Int) (s' : Sr), 0 ≤ v ∧ v < b ∧ d = .int v ∧ o = [srcD s', .un] := by
 have hb2 : b.natAbs.log2 < 9000 := log2_ok (by omega)
 obtain ⟨cs, p, n, r, hp, hr, hr2⟩ := s
 rw [F__law_next, runF_eq]
 unfold m__law_next
 refine seq_cut (fun st => ∃ (s : Sr) (d2 : D), st = [srcD s, .int b, d2, .un]) ?_ ?_
 · have e1 : ∀ c : Int, 0 ≤ (r * 48271 + c % 998244353 + 1) % 2147483647 := fun c => Int.emod_nonneg _ (by decide)
   have e2 : ∀ c : Int, (r * 48271 + c % 998244353 + 1) % 2147483647 < 2147483647 := fun c => Int.emod_lt_of_pos _ (by decide)
   by_cases h1 : n ≤ 1
   · by_cases h2 : p < cs.length
     · obtain ⟨c, hc⟩ : ∃ c, cs[p.toNat]? = some c := ⟨cs[p.toNat]'(by omega), by simp⟩
       have hc' : cs[p.toNat]'(by omega) = c := by simpa using (List.getElem?_eq_some_iff.mp hc).2
       by_cases h3 : (1000000000000000000 : Int) ≤ c
       · exact ⟨_, by simp [srcD, h1, h2, h3, hc', chkO_of, ixN, hp, hc], ⟨cs, p + 1, c, _, by omega, e1 c, e2 c⟩, .int c, rfl⟩
       · exact ⟨_, by simp [srcD, h1, h2, h3, hc', chkO_of, ixN, hp, hc], ⟨cs, p + 1, n, _, by omega, e1 c, e2 c⟩, .int c, rfl⟩
     · exact ⟨_, by simp [srcD, h1, h2, chkO_of, ixN, hp], ⟨cs, p, n, _, hp, e1 7, e2 7⟩, .int 7, rfl⟩
   · exact ⟨_, by simp [srcD, h1, chkO_of, ixN]; rfl, ⟨cs, p, n, r, hp, hr, hr2⟩, _, rfl⟩
 · rintro st1 ⟨⟨cs, p, n, r, hp, hr, hr2⟩, d2, rfl⟩
   by_cases h1 : 1 < n
   · exact ⟨_, _, by simp [srcD, h1, chkO_of, ixN, hb, hb2], n % b, ⟨cs, p, n / b, r, hp, hr, hr2⟩, Int.emod_nonneg _ (by omega), Int.emod_lt_of_pos _ hb, rfl, rfl⟩
   · exact ⟨_, _, by simp [srcD, h1, chkO_of, ixN, hb, hb2], _, ⟨cs, p, n, r, hp, hr, hr2⟩, Int.emod_nonneg (r * 40692 % 2147483399 / 3) (by omega), Int.emod_lt_of_pos _ hb, rfl, rfl⟩
theorem next_ok (s : Sr) (b : Int) (hb : 0 < b) (hb1 : b < 10000000000000000000000000000000000000000000000000000000000000000000000) : ∃ (v : Int) (s' : Sr), 0 ≤ v ∧ v < b ∧ F__law_next [srcD s, .int b] = .ok (.int v) [srcD s', .un] := by
 obtain ⟨d, o, e, v, s', h0, h1, rfl, rfl⟩ := next_sat s b hb hb1
 exact ⟨v, s', h0, h1, e⟩
theorem rangeD_eq (a b : Int) : rangeD a b = ((List.range (b - a).toNat).map fun i => a + (i : Nat)).map D.int := by
 simp [rangeD]
@[simp] theorem whole_non : F__law_whole [.non] = .ok (.bl false) [.un] := by simp [F__law_whole, runF_eq, m__law_whole]
@[simp] theorem whole_bl (b : Bool) : F__law_whole [.bl b] = .ok (.bl false) [.un] := by simp [F__law_whole, runF_eq, m__law_whole]
@[simp] theorem whole_int (b : Int) : F__law_whole [.int b] = .ok (.bl true) [.un] := by simp [F__law_whole, runF_eq, m__law_whole]
@[simp] theorem whole_str (b : Str) : F__law_whole [.str b] = .ok (.bl false) [.un] := by simp [F__law_whole, runF_eq, m__law_whole]
@[simp] theorem whole_lst (f : Fl) (xs : List D) : F__law_whole [.nd (.lst f) xs] = .ok (.bl false) [.un] := by simp [F__law_whole, runF_eq, m__law_whole]
@[simp] theorem whole_tup (xs : List D) : F__law_whole [.nd .tup xs] = .ok (.bl false) [.un] := by simp [F__law_whole, runF_eq, m__law_whole]
theorem same_loop (R : Fn) (n : Nat) (hR : ∀ x y, D.ok x n = true → D.ok y n = true → R [x, y] = .ok (.bl (D.same x y)) [.un, .un]) (x0 y0 : D) : ∀ (xs ys : List D) (x y : D), xs.length = ys.length → D.okL xs n = true → D.okL ys n = true →
   ∃ x' y', forL lg__law_same_1 (lb__law_same_1 R) (zipD xs ys) [x0, y0, x, y] = if D.sameL xs ys = true then .nx [x0, y0, x', y'] else .rt (.bl false) [x0, y0, x', y']
 | [], [], x, y, _, _, _ => ⟨x, y, by simp [zipD]⟩
 | [], b :: ys, x, y, h, _, _ => by simp at h
 | a :: xs, [], x, y, h, _, _ => by simp at h
 | a :: xs, b :: ys, x, y, h, h1, h2 => by
   simp at h h1 h2
   obtain ⟨x', y', e⟩ := same_loop R n hR x0 y0 xs ys a b h h1.2 h2.2
   have e2 := hR a.len b.len (by rw [ok_set]; exact h1.1) (by rw [ok_set]; exact h2.1)
   rw [same_set] at e2
   have turn : tgR (lg__law_same_1 (.nd .tup [a, b]) [x0, y0, x, y]) (lb__law_same_1 R) = if D.same a b = true then .nx [x0, y0, a, b] else .rt (.bl false) [x0, y0, a, b] := by
     rcases plD0_ok h1.1 2 [] with p1 | p1 <;> rcases plD0_ok h2.1 3 [] with p2 | p2 <;> cases hs : D.same a b <;> rw [hs] at e2 <;> simp [lg__law_same_1, lb__law_same_1, chkO_of, chk_of, p1, p2, e2]
   cases hs : D.same a b with
   | true => exact ⟨x', y', by simp [zipD, forL_cons, turn, hs, e]⟩
   | false => exact ⟨a, b, by simp [zipD, forL_cons, turn, hs]⟩
theorem same_step (R : Fn) (n : Nat) (hR : ∀ m x y, n = m + 1 → D.ok x m = true → D.ok y m = true → R [x, y] = .ok (.bl (D.same x y)) [.un, .un]) (x y : D) (hx : D.ok x n = true) (hy : D.ok y n = true) : runF [.bo, .bo] 4 (m__law_same R) [x, y] = .ok (.bl (D.same x y)) [.un, .un] := by
 rcases ok_cases hx with rfl | ⟨b, rfl⟩ | ⟨b, rfl⟩ | ⟨b, rfl, hb⟩ | ⟨f, xs, m, rfl, rfl, hb⟩ | ⟨xs, m, rfl, rfl, hb⟩ <;> rcases ok_cases hy with rfl | ⟨c, rfl⟩ | ⟨c, rfl⟩ | ⟨c, rfl, hc⟩ | ⟨g, ys, m', rfl, hm, hc⟩ | ⟨ys, m', rfl, hm, hc⟩
 all_goals try (simp [runF_eq, m__law_same, chkO_of, chk_of, D.same]; done)
 · simp [runF_eq, m__law_same, chkO_of, chk_of]
 · have e : eqD (.str b) (.str c) = some (b == c) := by rw [eqD_ok (by simpa using hb) (by simpa using hc)]; simp
   simp [runF_eq, m__law_same, chkO_of, chk_of, e]
 · cases f <;> simp [runF_eq, m__law_same, chkO_of, chk_of, D.same]
 · obtain rfl : m = m' := by omega
   by_cases hl : xs.length = ys.length
   · obtain ⟨x', y', e⟩ := same_loop R m (fun x y h1 h2 => hR m x y rfl h1 h2) (.nd (.lst (if f = .own then .fz else f)) (D.setL .fz xs)) (.nd (.lst (if g = .own then .fz else g)) (D.setL .fz ys)) (D.setL .fz xs) (D.setL .fz ys) .un .un (by simpa using hl) (by rw [ok_setL]; exact hb) (by rw [ok_setL]; exact hc)
     rw [same_setL] at e
     cases hs : D.sameL xs ys <;> rw [hs] at e <;> cases f <;> cases g <;> simp at e <;> simp [runF_eq, m__law_same, chkO_of, chk_of, chkS_of, hl, e, hs]
   · have hs : D.sameL xs ys = false := by
       cases h : D.sameL xs ys with
       | true => exact absurd (sameL_len h) hl
       | false => rfl
     have hl' : ¬ ((xs.length : Int) = (ys.length : Int)) := by omega
     cases f <;> cases g <;> simp [runF_eq, m__law_same, chkO_of, chk_of, chkS_of, hl, hl', hs]
 · obtain rfl : m = m' := by omega
   by_cases hl : xs.length = ys.length
   · obtain ⟨x', y', e⟩ := same_loop R m (fun x y h1 h2 => hR m x y rfl h1 h2) (.nd .tup (D.setL .fz xs)) (.nd .tup (D.setL .fz ys)) (D.setL .fz xs) (D.setL .fz ys) .un .un (by simpa using hl) (by rw [ok_setL]; exact hb) (by rw [ok_setL]; exact hc)
     rw [same_setL] at e
     cases hs : D.sameL xs ys <;> rw [hs] at e <;> simp at e <;> simp [runF_eq, m__law_same, chkO_of, chk_of, chkS_of, hl, e, hs]
   · have hs : D.sameL xs ys = false := by
       cases h : D.sameL xs ys with
       | true => exact absurd (sameL_len h) hl
       | false => rfl
     have hl' : ¬ ((xs.length : Int) = (ys.length : Int)) := by omega
     simp [runF_eq, m__law_same, chkO_of, chk_of, chkS_of, hl, hl', hs]
theorem same_eqn : ∀ (n : Nat) (x y : D), D.ok x n = true → D.ok y n = true → F__law_same (n + 1) [x, y] = .ok (.bl (D.same x y)) [.un, .un]
 | 0, x, y, hx, hy => same_step _ 0 (fun m x y h => by omega) x y hx hy
 | n + 1, x, y, hx, hy => same_step _ (n + 1) (fun m x y h h1 h2 => by
     obtain rfl : n = m := by omega
     exact same_eqn n x y h1 h2) x y hx hy
theorem same_eq (x y : D) (hx : D.ok x 5 = true) (hy : D.ok y 5 = true) : F__law_same_top [x, y] = .ok (.bl (D.same x y)) [.un, .un] := same_eqn 5 x y hx hy
@[simp] theorem at3_0 {α : Type} (x y z : α) : atI [x, y, z] 0 = some x := rfl
@[simp] theorem at3_1 {α : Type} (x y z : α) : atI [x, y, z] 1 = some y := rfl
@[simp] theorem at3_2 {α : Type} (x y z : α) : atI [x, y, z] 2 = some z := rfl
@[simp] theorem at5_0 {α : Type} (x y z u v : α) : atI [x, y, z, u, v] 0 = some x := rfl
@[simp] theorem at5_1 {α : Type} (x y z u v : α) : atI [x, y, z, u, v] 1 = some y := rfl
@[simp] theorem at5_2 {α : Type} (x y z u v : α) : atI [x, y, z, u, v] 2 = some z := rfl
@[simp] theorem at5_3 {α : Type} (x y z u v : α) : atI [x, y, z, u, v] 3 = some u := rfl
@[simp] theorem at5_4 {α : Type} (x y z u v : α) : atI [x, y, z, u, v] 4 = some v := rfl
@[simp] theorem ints3 : intsD [D.int 3, D.int 4, D.int 3] = some [3, 4, 3] := rfl
def nmE : List Str := ["NoDeed", "NoMoment", "NoRow", "NoSheet", "NoTie", "NotYours", "OutOfInk", "OutOfPlace", "TooHeavy", "TooMany", "Ring"]
theorem made_ok (w : Nat) (hw : w < 11) : ∃ (c : Str) (v : Option (Str × List Int)), nmE[w]? = some c ∧ F__law_made [.int w] = .ok (.exc c v) [.un] := by
 have hc : w = 0 ∨ w = 1 ∨ w = 2 ∨ w = 3 ∨ w = 4 ∨ w = 5 ∨ w = 6 ∨ w = 7 ∨ w = 8 ∨ w = 9 ∨ w = 10 := by omega
 rcases hc with rfl | rfl | rfl | rfl | rfl | rfl | rfl | rfl | rfl | rfl | rfl <;> first | (refine ⟨_, none, rfl, ?_⟩; simp [F__law_made, runF_eq, m__law_made, chk_of, chkO_of]; done) | (refine ⟨_, some ("way", [3, 4, 3]), rfl, ?_⟩; simp [F__law_made, runF_eq, m__law_made, chk_of, chkO_of])
def bsOf (w : Nat) : List Bool := (List.range 11).map fun k => decide (k = w)
theorem kinds_ok (w : Nat) (hw : w < 11) (c : Str) (v : Option (Str × List Int)) (hc : nmE[w]? = some c) : F__law_kinds [.exc c v] = .ok (.nd (.lst .own) ((bsOf w).map D.bl)) [.un] := by
 have hw' : w = 0 ∨ w = 1 ∨ w = 2 ∨ w = 3 ∨ w = 4 ∨ w = 5 ∨ w = 6 ∨ w = 7 ∨ w = 8 ∨ w = 9 ∨ w = 10 := by omega
 rcases hw' with rfl | rfl | rfl | rfl | rfl | rfl | rfl | rfl | rfl | rfl | rfl <;> simp [nmE] at hc <;> subst hc <;> simp [F__law_kinds, runF_eq, m__law_kinds, chk_of, chkO_of, exNs] <;> rfl
theorem is_ink (w : Nat) (hw : w < 11) (c : Str) (hc : nmE[w]? = some c) : hiOf hqT c "InkError" = some true ∧ c ∈ exNs := by
 have hw' : w = 0 ∨ w = 1 ∨ w = 2 ∨ w = 3 ∨ w = 4 ∨ w = 5 ∨ w = 6 ∨ w = 7 ∨ w = 8 ∨ w = 9 ∨ w = 10 := by omega
 rcases hw' with rfl | rfl | rfl | rfl | rfl | rfl | rfl | rfl | rfl | rfl | rfl <;> simp [nmE] at hc <;> subst hc <;> simp [exNs]
theorem r2z : ∀ n : Int, rangeD 0 n = (List.range n.toNat).map fun k : Nat => D.int ((0 : Int) + (k : Nat)) := fun n => by
 have := rangeD_eq 0 n
 simpa [Function.comp_def] using this
theorem lc_which (w : Nat) (d0 d1 d3 d4 d5 d6 : D) : lcL (lcT [7] lg_law_1 lt_law_1 le_law_1) (rangeD 0 11) [] [d0, d1, .int w, d3, d4, d5, d6, .un] = .ok ((bsOf w).map D.bl) [d0, d1, .int w, d3, d4, d5, d6, .un] := by
 have e := lcL_pure (T := lcT [7] lg_law_1 lt_law_1 le_law_1) (f := fun k : Nat => D.int ((0 : Int) + (k : Nat))) (fun k => some (D.bl (decide (k = w)))) (st := [d0, d1, .int w, d3, d4, d5, d6, .un]) (List.range 11) [] (by simp) (fun k hk => by
   by_cases c : k = w
   · subst c; simp [lg_law_1, lt_law_1, le_law_1, chk_of, chkO_of]
   · have c2 : ¬ (k : Int) = (w : Int) := by omega
     simp [lg_law_1, lt_law_1, le_law_1, chk_of, chkO_of, c, c2])
 rw [r2z]
 rw [show (11 : Int).toNat = 11 from rfl, e]
 simp [bsOf]
theorem bs_same (w : Nat) : eqD (.nd (.lst .own) ((bsOf w).map D.bl)) (.nd (.lst .own) ((bsOf w).map D.bl)) = some true := by
 have o : D.ok (.nd (.lst .own) ((bsOf w).map D.bl)) 60 = true := by
   generalize bsOf w = bs
   simp
   induction bs with
   | nil => simp
   | cons b bs ih => simp [ih]
 rw [eqD_ok o o]
 have e : ∀ bs : List Bool, D.eqvL (bs.map D.bl) (bs.map D.bl) = true := fun bs => by
   induction bs with
   | nil => simp
   | cons b bs ih => simp [ih]
 simp [e]
theorem bs_nb (w : Nat) : D.noBorL ((bsOf w).map D.bl) = true := by
 generalize bsOf w = bs
 induction bs with
 | nil => simp
 | cons b bs ih => simp [ih]
theorem law_true (ns : List Int) (hn : ns.length ≤ 63) : F_law [.scr ns] = .ok (.bl true) [.un] := by
 obtain ⟨s0, e0⟩ := src_ok ns
 obtain ⟨w0, s1, h0, h1, e1⟩ := next_ok s0 11 (by decide) (by decide)
 obtain ⟨w, rfl⟩ : ∃ w : Nat, w0 = w := ⟨w0.toNat, by omega⟩
 obtain ⟨c, v, hc, e2⟩ := made_ok w (by omega)
 have e3 := kinds_ok w (by omega) c v hc
 obtain ⟨i1, i2⟩ := is_ink w (by omega) c hc
 have e4 := lc_which w (.scr ns) (srcD s1) (.exc c v) .un .un .un
 have e5 := bs_same w
 have e9 := bs_nb w
 generalize (bsOf w).map D.bl = Bs at *
 obtain ⟨n0, s2, n1, n2, e6⟩ := next_ok s1 7 (by decide) (by decide)
 obtain ⟨acc, st', e7, s3, xs, rfl, rfl, lx⟩ := lcL_inv (T := lcT [7] lg_law_2 lt_law_2 le_law_2) (f := fun k : Nat => D.int ((0 : Int) + (k : Nat)))
   (fun pre post acc st => ∃ (s : Sr) (xs : List Int), acc = xs.map D.int ∧ st = [.scr ns, srcD s, .int w, .exc c v, .un, .un, .un, .un] ∧ xs.length = pre.length ∧ pre.length + post.length ≤ 6)
   (fun pre k post acc st ⟨s, xs, ea, es, hl, hl2⟩ => by
     subst ea es
     simp at hl2
     obtain ⟨z, s', z0, z1, e⟩ := next_ok s 40 (by decide) (by decide)
     exact ⟨some (.int z), [.scr ns, srcD s', .int w, .exc c v, .un, .un, .un, .un], by simp [lg_law_2, lt_law_2, le_law_2, chk_of, chkO_of, e], by simp; omega, s', xs ++ [z], by simp, rfl, by simp [hl], by simp; omega⟩)
   (List.range n0.toNat) [] [] [.scr ns, srcD s2, .int w, .exc c v, .un, .un, .un, .un] ⟨s2, [], rfl, rfl, rfl, by simp; omega⟩
 simp at lx
 have r := r2z n0
 rw [← r] at e7
 have k1 : xs.length < 16777216 := by omega
 have k2 : xs.length ≤ 16777216 := by omega
 have i3 : -4611686018427387904 ≤ n0 := by omega
 have i4 : n0 < 4611686018427387904 := by omega
 have ok : ∀ f, D.ok (.nd (.lst f) (xs.map D.int)) 5 = true := fun f => by simp
 have e8 := same_eq (.nd (.lst .fz) (xs.map D.int)) (.nd (.lst .bor) (xs.map D.int)) (ok _) (ok _)
 have sm : D.same (.nd (.lst .fz) (xs.map D.int)) (.nd (.lst .bor) (xs.map D.int)) = true := by
   simp
 rw [sm] at e8
 clear r
 simp [F_law, runF_eq, m_law, chk_of, chkO_of, chkS_of, e0, e1, e2, e3, e4, e5, e6, e7, e8, e9, i1, i2, i3, i4, k1, k2]
end Law
namespace Law
open PySem PySem.Spec PyProof.Rows L2 PV
abbrev Rw : PySem.W.OpenRow := PySem.W.OpenLaw.row PySem.Challenge.rw_inkroot_k24_refusals_stand
def dd__law_src : He.DefD := ⟨("_law_src", none), "_law_src", "_law_src", defArgs s__law_src, defBody s__law_src, defScope s__law_src, [], []⟩
def dd__law_next : He.DefD := ⟨("_law_next", none), "_law_next", "_law_next", defArgs s__law_next, defBody s__law_next, defScope s__law_next, [], []⟩
def dd_Ring___init__ : He.DefD := ⟨("Ring", some "__init__"), "__init__", "Ring.__init__", defArgs s_Ring___init__, defBody s_Ring___init__, defScope s_Ring___init__, [], []⟩
def dd__law_made : He.DefD := ⟨("_law_made", none), "_law_made", "_law_made", defArgs s__law_made, defBody s__law_made, defScope s__law_made, [], []⟩
def dd__law_kinds : He.DefD := ⟨("_law_kinds", none), "_law_kinds", "_law_kinds", defArgs s__law_kinds, defBody s__law_kinds, defScope s__law_kinds, [], []⟩
def dd__law_whole : He.DefD := ⟨("_law_whole", none), "_law_whole", "_law_whole", defArgs s__law_whole, defBody s__law_whole, defScope s__law_whole, [], []⟩
def dd__law_same : He.DefD := ⟨("_law_same", none), "_law_same", "_law_same", defArgs s__law_same, defBody s__law_same, defScope s__law_same, [], []⟩
def dd_law : He.DefD := ⟨("law", none), "law", "law", defArgs s_law, defBody s_law, defScope s_law, [], []⟩
def fn_0 : List He.DefD := [dd__law_src, dd__law_next, dd_Ring___init__, dd__law_made]
def fn_1 : List He.DefD := [dd__law_kinds, dd__law_whole, dd__law_same, dd_law]
def fa0 : List He.Fa := [.glo "_law_src", .glo "_law_next", .glo "_law_made", .glo "_law_kinds", .glo "_law_whole", .glo "_law_same", .glo "law", .free "ValueError", .free "bool", .free "int", .free "isinstance", .free "len", .free "list", .free "range", .free "str", .free "tuple", .free "zip", .glo "NoDeed", .glo "NoMoment", .glo "NoRow", .glo "NoSheet", .glo "NoTie", .glo "NotYours", .glo "OutOfInk", .glo "OutOfPlace", .glo "TooHeavy", .glo "TooMany", .glo "Ring", .glo "InkError", .exc "NoDeed"]
def fa1 : List He.Fa := [.exc "NoMoment", .exc "NoRow", .exc "NoSheet", .exc "NoTie", .exc "NotYours", .exc "OutOfInk", .exc "OutOfPlace", .exc "TooHeavy", .exc "TooMany", .meth "Ring" "__init__", .noat "Ring" "way"]
def fa_0 : List He.Fa := fa0
def fa_1 : List He.Fa := fa1
def ts : List He.Tab := []
def exK : PySem.W.Frag → Bool := fun K => oexA K (He.ga K "Ring") && L2.xfB K (He.ga K "Ring") && excB K (He.ga K "NoDeed") && excB K (He.ga K "NoMoment") && excB K (He.ga K "NoRow") && excB K (He.ga K "NoSheet") && excB K (He.ga K "NoTie") && excB K (He.ga K "NotYours") && excB K (He.ga K "OutOfInk") && excB K (He.ga K "OutOfPlace") && excB K (He.ga K "TooHeavy") && excB K (He.ga K "TooMany") && excB K (He.ga K "Ring") && hqB K hqT && vqB K exNs
def gl0 : List (Str × List Str) := [("_law_src", []), ("_law_next", []), ("_law_made", []), ("_law_kinds", []), ("_law_whole", []), ("_law_same", []), ("law", []), ("NoDeed", []), ("NoMoment", []), ("NoRow", []), ("NoSheet", []), ("NoTie", []), ("NotYours", []), ("OutOfInk", []), ("OutOfPlace", []), ("TooHeavy", []), ("TooMany", []), ("Ring", ["__init__"]), ("InkError", [])]
def gl : List (Str × List Str) := gl0
def pt0 : Pt := ⟨fn_0, fa_0, ts, exK⟩
def pt1 : Pt := ⟨fn_1, fa_1, [], fun _ => true⟩
abbrev hk : PySem.W.Hook := hookL gl ([pt0] ++ [pt1])
abbrev ob : PySem.W.SharedT → List AlP := obL gl ([pt0] ++ [pt1])
theorem ob_eq (s : PySem.W.SharedT) : ob s = hk.obs s.abs := obL_eq s
def names0 : List Str := ["InkError", "NoSheet", "NoMoment", "NoTie", "OutOfPlace", "OutOfInk", "NotYours", "TooMany", "Ring", "TooHeavy", "NoRow", "NoDeed", "_law_src", "_law_next", "_law_whole", "_law_same", "_law_made", "_law_kinds"]
def names : List Str := names0
theorem headF0 (w : World) : HandSHeadRun.RunEq Rw (PySem.W.view Rw.prog [20]) (hookL gl [pt0]) (obL gl [pt0]) 12000 names (w.withFollow "special-get-raises" false) := by
 intro os
 kernel_rfl
theorem headF1 (w : World) : RunP Rw gl pt1 12000 (w.withFollow "special-get-raises" false) := by
 intro os
 kernel_rfl
theorem headF (w : World) : HandSHeadRun.RunEq Rw (PySem.W.view Rw.prog [20]) hk ob 12000 names (w.withFollow "special-get-raises" false) := run_add (headF0 w) (headF1 w)
theorem headT0 (w : World) : HandSHeadRun.RunEq Rw (PySem.W.view Rw.prog [20]) (hookL gl [pt0]) (obL gl [pt0]) 12000 names (w.withFollow "special-get-raises" true) := by
 intro os
 kernel_rfl
theorem headT1 (w : World) : RunP Rw gl pt1 12000 (w.withFollow "special-get-raises" true) := by
 intro os
 kernel_rfl
theorem headT (w : World) : HandSHeadRun.RunEq Rw (PySem.W.view Rw.prog [20]) hk ob 12000 names (w.withFollow "special-get-raises" true) := run_add (headT0 w) (headT1 w)
theorem headRun (w : World) : HandSHeadRun.RunEq Rw (PySem.W.view Rw.prog [20]) hk ob 12000 names w := PySem.W.byRow2 "special-get-raises" (P := HandSHeadRun.RunEq Rw (PySem.W.view Rw.prog [20]) hk ob 12000 names) headF headT w
theorem facts {w : World} {K : PySem.W.Frag} {h : Heap} {mg : Str → Option Value} {fa0 : Addr} (X : K.In h) (G : h.Ns mainGlobals mg) (hfa : mg ("law" : Str) = some (.ref fa0)) (cc : ∀ p ∈ ([pt0] ++ [pt1]), SaysP p.fa p.fn p.ts p.ex w K) :
   ∃ fd : FuncData, (∀ (s : Shared) (v : Value), BindsTo s fd ⟨[v], []⟩ [("_law_script", v)]) ∧ ∀ base : Heap, K.In base → base.Ns mainGlobals mg → FnOk PySem.Challenge.rw_inkroot_k24_refusals_stand.prog w K mg base (L2.CX PySem.Challenge.rw_inkroot_k24_refusals_stand.prog w) 8 fa0 fd ["_law_script"] (spLaw K) := by
 have cd0 := (cc pt0 (by simp)).t.d
 have cd1 := (cc pt1 (by simp)).t.d
 have c : SaysP fa_0 fn_0 ts exK w K := cc pt0 (by simp)
 have c0 := c
 obtain ⟨fd__law_src, D__law_src⟩ := cd0.def_ 0 (d := dd__law_src) (by rfl)
 have F__law_src : L2.Fun K "_law_src" "_law_src" s__law_src (He.fAd K dd__law_src.at_) fd__law_src := fun_of D__law_src
 have b__law_src := F__law_src.binds (ps := ["_law_script"]) fun _ _ _ _ _ _ us hl => match us, hl with | [_], _ => rfl
 obtain ⟨fd__law_next, D__law_next⟩ := cd0.def_ 1 (d := dd__law_next) (by rfl)
 have F__law_next : L2.Fun K "_law_next" "_law_next" s__law_next (He.fAd K dd__law_next.at_) fd__law_next := fun_of D__law_next
 have b__law_next := F__law_next.binds (ps := ["_law_src_here", "_law_base"]) fun _ _ _ _ _ _ us hl => match us, hl with | [_, _], _ => rfl
 obtain ⟨fd_Ring___init__, D_Ring___init__⟩ := cd0.def_ 2 (d := dd_Ring___init__) (by rfl)
 have F_Ring___init__ : L2.Fun K "__init__" "Ring.__init__" s_Ring___init__ (He.fAd K dd_Ring___init__.at_) fd_Ring___init__ := fun_of D_Ring___init__
 have b_Ring___init__ := F_Ring___init__.binds (ps := ["self", "way"]) fun _ _ _ _ _ _ us hl => match us, hl with | [_, _], _ => rfl
 obtain ⟨fd__law_made, D__law_made⟩ := cd0.def_ 3 (d := dd__law_made) (by rfl)
 have F__law_made : L2.Fun K "_law_made" "_law_made" s__law_made (He.fAd K dd__law_made.at_) fd__law_made := fun_of D__law_made
 have b__law_made := F__law_made.binds (ps := ["_law_way"]) fun _ _ _ _ _ _ us hl => match us, hl with | [_], _ => rfl
 obtain ⟨fd__law_kinds, D__law_kinds⟩ := cd1.def_ 0 (d := dd__law_kinds) (by rfl)
 have F__law_kinds : L2.Fun K "_law_kinds" "_law_kinds" s__law_kinds (He.fAd K dd__law_kinds.at_) fd__law_kinds := fun_of D__law_kinds
 have b__law_kinds := F__law_kinds.binds (ps := ["_law_e"]) fun _ _ _ _ _ _ us hl => match us, hl with | [_], _ => rfl
 obtain ⟨fd__law_whole, D__law_whole⟩ := cd1.def_ 1 (d := dd__law_whole) (by rfl)
 have F__law_whole : L2.Fun K "_law_whole" "_law_whole" s__law_whole (He.fAd K dd__law_whole.at_) fd__law_whole := fun_of D__law_whole
 have b__law_whole := F__law_whole.binds (ps := ["_law_found"]) fun _ _ _ _ _ _ us hl => match us, hl with | [_], _ => rfl
 obtain ⟨fd__law_same, D__law_same⟩ := cd1.def_ 2 (d := dd__law_same) (by rfl)
 have F__law_same : L2.Fun K "_law_same" "_law_same" s__law_same (He.fAd K dd__law_same.at_) fd__law_same := fun_of D__law_same
 have b__law_same := F__law_same.binds (ps := ["_law_found", "_law_due"]) fun _ _ _ _ _ _ us hl => match us, hl with | [_, _], _ => rfl
 obtain ⟨fd_law, D_law⟩ := cd1.def_ 3 (d := dd_law) (by rfl)
 have F_law : L2.Fun K "law" "law" s_law (He.fAd K dd_law.at_) fd_law := fun_of D_law
 have b_law := F_law.binds (ps := ["_law_script"]) fun _ _ _ _ _ _ us hl => match us, hl with | [_], _ => rfl
 have e0 := hfa.symm.trans (He.glo_ok X G (cd0.fact 6 (f := .glo "law") (by rfl)))
 cases e0
 have m_NoDeed := (He.glo_ok X G (cd0.fact 17 (f := .glo "NoDeed") (by rfl)))
 have ca_NoDeed : CAo mg "NoDeed" = some (He.ga K "NoDeed") := by unfold CAo; rw [m_NoDeed]
 have m_NoMoment := (He.glo_ok X G (cd0.fact 18 (f := .glo "NoMoment") (by rfl)))
 have ca_NoMoment : CAo mg "NoMoment" = some (He.ga K "NoMoment") := by unfold CAo; rw [m_NoMoment]
 have m_NoRow := (He.glo_ok X G (cd0.fact 19 (f := .glo "NoRow") (by rfl)))
 have ca_NoRow : CAo mg "NoRow" = some (He.ga K "NoRow") := by unfold CAo; rw [m_NoRow]
 have m_NoSheet := (He.glo_ok X G (cd0.fact 20 (f := .glo "NoSheet") (by rfl)))
 have ca_NoSheet : CAo mg "NoSheet" = some (He.ga K "NoSheet") := by unfold CAo; rw [m_NoSheet]
 have m_NoTie := (He.glo_ok X G (cd0.fact 21 (f := .glo "NoTie") (by rfl)))
 have ca_NoTie : CAo mg "NoTie" = some (He.ga K "NoTie") := by unfold CAo; rw [m_NoTie]
 have m_NotYours := (He.glo_ok X G (cd0.fact 22 (f := .glo "NotYours") (by rfl)))
 have ca_NotYours : CAo mg "NotYours" = some (He.ga K "NotYours") := by unfold CAo; rw [m_NotYours]
 have m_OutOfInk := (He.glo_ok X G (cd0.fact 23 (f := .glo "OutOfInk") (by rfl)))
 have ca_OutOfInk : CAo mg "OutOfInk" = some (He.ga K "OutOfInk") := by unfold CAo; rw [m_OutOfInk]
 have m_OutOfPlace := (He.glo_ok X G (cd0.fact 24 (f := .glo "OutOfPlace") (by rfl)))
 have ca_OutOfPlace : CAo mg "OutOfPlace" = some (He.ga K "OutOfPlace") := by unfold CAo; rw [m_OutOfPlace]
 have m_TooHeavy := (He.glo_ok X G (cd0.fact 25 (f := .glo "TooHeavy") (by rfl)))
 have ca_TooHeavy : CAo mg "TooHeavy" = some (He.ga K "TooHeavy") := by unfold CAo; rw [m_TooHeavy]
 have m_TooMany := (He.glo_ok X G (cd0.fact 26 (f := .glo "TooMany") (by rfl)))
 have ca_TooMany : CAo mg "TooMany" = some (He.ga K "TooMany") := by unfold CAo; rw [m_TooMany]
 have m_Ring := (He.glo_ok X G (cd0.fact 27 (f := .glo "Ring") (by rfl)))
 have ca_Ring : CAo mg "Ring" = some (He.ga K "Ring") := by unfold CAo; rw [m_Ring]
 have m_InkError := (He.glo_ok X G (cd0.fact 28 (f := .glo "InkError") (by rfl)))
 have ca_InkError : CAo mg "InkError" = some (He.ga K "InkError") := by unfold CAo; rw [m_InkError]
 have z_NoDeed := He.exc_ok (cd0.fact 29 (f := .exc "NoDeed") (by rfl))
 have z_NoMoment := He.exc_ok (cd1.fact 0 (f := .exc "NoMoment") (by rfl))
 have z_NoRow := He.exc_ok (cd1.fact 1 (f := .exc "NoRow") (by rfl))
 have z_NoSheet := He.exc_ok (cd1.fact 2 (f := .exc "NoSheet") (by rfl))
 have z_NoTie := He.exc_ok (cd1.fact 3 (f := .exc "NoTie") (by rfl))
 have z_NotYours := He.exc_ok (cd1.fact 4 (f := .exc "NotYours") (by rfl))
 have z_OutOfInk := He.exc_ok (cd1.fact 5 (f := .exc "OutOfInk") (by rfl))
 have z_OutOfPlace := He.exc_ok (cd1.fact 6 (f := .exc "OutOfPlace") (by rfl))
 have z_TooHeavy := He.exc_ok (cd1.fact 7 (f := .exc "TooHeavy") (by rfl))
 have z_TooMany := He.exc_ok (cd1.fact 8 (f := .exc "TooMany") (by rfl))
 have oe_Ring : OexF K mg (CAo mg) "Ring" "way" (He.fAd K dd_Ring___init__.at_) := by
   have ml := He.meth_ok (cd1.fact 9 (f := .meth "Ring" "__init__") (by rfl))
   exact ⟨_, ca_Ring, m_Ring, oexA_ok (by have h := c.more; simp only [exK, Bool.and_eq_true] at h; exact h.1.1.1.1.1.1.1.1.1.1.1.1.1.1), ml.at_, by have h2 := ml.fn; simp [PySem.W.isFn] at h2; exact h2, (He.noat_ok (cd1.fact 10 (f := .noat "Ring" "way") (by rfl)))⟩
 have xf_Ring : ∀ c, CAo mg "Ring" = some c → XfC K c := fun c hc => by
   rw [ca_Ring] at hc
   cases hc
   exact xfB_ok (by have h := c0.more; simp only [exK, Bool.and_eq_true] at h; exact h.1.1.1.1.1.1.1.1.1.1.1.1.1.2)
 have isx : ∀ x ∈ exNs, ∀ c, CAo mg x = some c → L2.ExcC K c := fun x hx c1 hc => by
   simp only [exNs, List.mem_cons, List.not_mem_nil, or_false] at hx
   rcases hx with rfl | rfl | rfl | rfl | rfl | rfl | rfl | rfl | rfl | rfl | rfl
   · rw [ca_NoDeed] at hc
     cases hc
     exact excB_ok (by have h := c0.more; simp only [exK, Bool.and_eq_true] at h; exact h.1.1.1.1.1.1.1.1.1.1.1.1.2)
   · rw [ca_NoMoment] at hc
     cases hc
     exact excB_ok (by have h := c0.more; simp only [exK, Bool.and_eq_true] at h; exact h.1.1.1.1.1.1.1.1.1.1.1.2)
   · rw [ca_NoRow] at hc
     cases hc
     exact excB_ok (by have h := c0.more; simp only [exK, Bool.and_eq_true] at h; exact h.1.1.1.1.1.1.1.1.1.1.2)
   · rw [ca_NoSheet] at hc
     cases hc
     exact excB_ok (by have h := c0.more; simp only [exK, Bool.and_eq_true] at h; exact h.1.1.1.1.1.1.1.1.1.2)
   · rw [ca_NoTie] at hc
     cases hc
     exact excB_ok (by have h := c0.more; simp only [exK, Bool.and_eq_true] at h; exact h.1.1.1.1.1.1.1.1.2)
   · rw [ca_NotYours] at hc
     cases hc
     exact excB_ok (by have h := c0.more; simp only [exK, Bool.and_eq_true] at h; exact h.1.1.1.1.1.1.1.2)
   · rw [ca_OutOfInk] at hc
     cases hc
     exact excB_ok (by have h := c0.more; simp only [exK, Bool.and_eq_true] at h; exact h.1.1.1.1.1.1.2)
   · rw [ca_OutOfPlace] at hc
     cases hc
     exact excB_ok (by have h := c0.more; simp only [exK, Bool.and_eq_true] at h; exact h.1.1.1.1.1.2)
   · rw [ca_TooHeavy] at hc
     cases hc
     exact excB_ok (by have h := c0.more; simp only [exK, Bool.and_eq_true] at h; exact h.1.1.1.1.2)
   · rw [ca_TooMany] at hc
     cases hc
     exact excB_ok (by have h := c0.more; simp only [exK, Bool.and_eq_true] at h; exact h.1.1.1.2)
   · rw [ca_Ring] at hc
     cases hc
     exact excB_ok (by have h := c0.more; simp only [exK, Bool.and_eq_true] at h; exact h.1.1.2)
 have caL : ∀ x ∈ (["NoDeed", "NoMoment", "NoRow", "NoSheet", "NoTie", "NotYours", "OutOfInk", "OutOfPlace", "TooHeavy", "TooMany", "Ring", "InkError"] : List Str), CAo mg x = some (He.ga K x) := fun x hx => by
   simp only [List.mem_cons, List.not_mem_nil, or_false] at hx
   rcases hx with rfl | rfl | rfl | rfl | rfl | rfl | rfl | rfl | rfl | rfl | rfl | rfl
   · exact ca_NoDeed
   · exact ca_NoMoment
   · exact ca_NoRow
   · exact ca_NoSheet
   · exact ca_NoTie
   · exact ca_NotYours
   · exact ca_OutOfInk
   · exact ca_OutOfPlace
   · exact ca_TooHeavy
   · exact ca_TooMany
   · exact ca_Ring
   · exact ca_InkError
 have T : TX K mg ⟨He.fAd K dd__law_src.at_, fd__law_src, He.fAd K dd__law_next.at_, fd__law_next, He.fAd K dd_Ring___init__.at_, fd_Ring___init__, He.fAd K dd__law_made.at_, fd__law_made, He.fAd K dd__law_kinds.at_, fd__law_kinds, He.fAd K dd__law_whole.at_, fd__law_whole, He.fAd K dd__law_same.at_, fd__law_same, He.fAd K dd_law.at_, fd_law⟩ := ⟨⟨F__law_src, (He.glo_ok X G (cd0.fact 0 (f := .glo "_law_src") (by rfl))), F__law_src.kp, b__law_src⟩, ⟨F__law_next, (He.glo_ok X G (cd0.fact 1 (f := .glo "_law_next") (by rfl))), F__law_next.kp, b__law_next⟩, ⟨F_Ring___init__, b_Ring___init__⟩, ⟨F__law_made, (He.glo_ok X G (cd0.fact 2 (f := .glo "_law_made") (by rfl))), F__law_made.kp, b__law_made⟩, ⟨F__law_kinds, (He.glo_ok X G (cd0.fact 3 (f := .glo "_law_kinds") (by rfl))), F__law_kinds.kp, b__law_kinds⟩, ⟨F__law_whole, (He.glo_ok X G (cd0.fact 4 (f := .glo "_law_whole") (by rfl))), F__law_whole.kp, b__law_whole⟩, ⟨F__law_same, (He.glo_ok X G (cd0.fact 5 (f := .glo "_law_same") (by rfl))), F__law_same.kp, b__law_same⟩, ⟨F_law, (He.glo_ok X G (cd0.fact 6 (f := .glo "law") (by rfl))), F_law.kp, b_law⟩, (He.free_ok X G (cd0.fact 7 (f := .free "ValueError") (by rfl))), (He.free_ok X G (cd0.fact 8 (f := .free "bool") (by rfl))), (He.free_ok X G (cd0.fact 9 (f := .free "int") (by rfl))), (He.free_ok X G (cd0.fact 10 (f := .free "isinstance") (by rfl))), (He.free_ok X G (cd0.fact 11 (f := .free "len") (by rfl))), (He.free_ok X G (cd0.fact 12 (f := .free "list") (by rfl))), (He.free_ok X G (cd0.fact 13 (f := .free "range") (by rfl))), (He.free_ok X G (cd0.fact 14 (f := .free "str") (by rfl))), (He.free_ok X G (cd0.fact 15 (f := .free "tuple") (by rfl))), (He.free_ok X G (cd0.fact 16 (f := .free "zip") (by rfl))), ⟨_, ca_NoDeed, m_NoDeed, z_NoDeed.1, z_NoDeed.2.1, z_NoDeed.2.2.1, z_NoDeed.2.2.2⟩, ⟨_, ca_NoMoment, m_NoMoment, z_NoMoment.1, z_NoMoment.2.1, z_NoMoment.2.2.1, z_NoMoment.2.2.2⟩, ⟨_, ca_NoRow, m_NoRow, z_NoRow.1, z_NoRow.2.1, z_NoRow.2.2.1, z_NoRow.2.2.2⟩, ⟨_, ca_NoSheet, m_NoSheet, z_NoSheet.1, z_NoSheet.2.1, z_NoSheet.2.2.1, z_NoSheet.2.2.2⟩, ⟨_, ca_NoTie, m_NoTie, z_NoTie.1, z_NoTie.2.1, z_NoTie.2.2.1, z_NoTie.2.2.2⟩, ⟨_, ca_NotYours, m_NotYours, z_NotYours.1, z_NotYours.2.1, z_NotYours.2.2.1, z_NotYours.2.2.2⟩, ⟨_, ca_OutOfInk, m_OutOfInk, z_OutOfInk.1, z_OutOfInk.2.1, z_OutOfInk.2.2.1, z_OutOfInk.2.2.2⟩, ⟨_, ca_OutOfPlace, m_OutOfPlace, z_OutOfPlace.1, z_OutOfPlace.2.1, z_OutOfPlace.2.2.1, z_OutOfPlace.2.2.2⟩, ⟨_, ca_TooHeavy, m_TooHeavy, z_TooHeavy.1, z_TooHeavy.2.1, z_TooHeavy.2.2.1, z_TooHeavy.2.2.2⟩, ⟨_, ca_TooMany, m_TooMany, z_TooMany.1, z_TooMany.2.1, z_TooMany.2.2.1, z_TooMany.2.2.2⟩, oe_Ring, xf_Ring, isx, ⟨_, ca_InkError, m_InkError⟩, ⟨_, ca_NoDeed, m_NoDeed⟩, ⟨_, ca_NoMoment, m_NoMoment⟩, ⟨_, ca_NoRow, m_NoRow⟩, ⟨_, ca_NoSheet, m_NoSheet⟩, ⟨_, ca_NoTie, m_NoTie⟩, ⟨_, ca_NotYours, m_NotYours⟩, ⟨_, ca_OutOfInk, m_OutOfInk⟩, ⟨_, ca_OutOfPlace, m_OutOfPlace⟩, ⟨_, ca_TooHeavy, m_TooHeavy⟩, ⟨_, ca_TooMany, m_TooMany⟩, ⟨_, ca_Ring, m_Ring⟩, (kits_of caL (by decide +kernel) (by have h := c0.more; simp only [exK, Bool.and_eq_true] at h; exact h.1.2)), (isv_of caL (by decide +kernel) (by have h := c0.more; simp only [exK, Bool.and_eq_true] at h; exact h.2))⟩
 refine ⟨fd_law, fun s v => ?_, fun base _ _ => (ok_law T).imp (spF_law law_true)⟩
 have bb := FunD.bindsA (ps := ["_law_script"]) D_law fun _ _ _ _ _ _ us hl => match us, hl with | [_], _ => rfl
 exact bb s [v] rfl
end Law
open PySem PySem.W PySem.Calls PyProof.Rows
set_option maxRecDepth 100000 in
set_option maxHeartbeats 0 in
theorem PySem.Challenge.cw_inkroot_k24_refusals_stand_holds : PySem.Challenge.rw_inkroot_k24_refusals_stand.Holds := by
 w_on; o_law
 refine HandSHeadRun.head_any (r := OpenLaw.row PySem.Challenge.rw_inkroot_k24_refusals_stand) (q := view (OpenLaw.row PySem.Challenge.rw_inkroot_k24_refusals_stand).prog [20]) (H := Law.hk) (ob := Law.ob) (M := 12000) (loose := Law.names) (d := HandSHeadRun.topDef (OpenLaw.row PySem.Challenge.rw_inkroot_k24_refusals_stand).prog 20) (kwd := []) Law.ob_eq (by kernel_rfl) (fun s => by kernel_rfl) Law.headRun (by kernel_rfl) (by kernel_rfl) (by kernel_rfl) (by rfl) (by first | assumption | decide +kernel) (by decide +kernel) ⟨rfl, rfl, rfl, rfl, rfl, by decide +kernel⟩ ?hw ?hc
 case hw => w_witness2
 case hc =>
   refine L2.law_walkE (l := PySem.Challenge.rw_inkroot_k24_refusals_stand) (k := 8) rfl (by kernel_rfl) ⟨rfl, by decide, by decide⟩ ?F
   intro w mg fa h Y G hmg0
   obtain ⟨K, KX, c⟩ := Y
   have hmg : mg ("law" : PySem.Str) = some (.ref fa) := by
     have e : (HandSHeadRun.topDef (OpenLaw.row PySem.Challenge.rw_inkroot_k24_refusals_stand).prog 20).name = ("law" : PySem.Str) := by kernel_rfl
     rw [← e]
     exact hmg0
   obtain ⟨fd, hb, hF⟩ := Law.facts KX G hmg c
   exact ⟨K, fd, KX, hb, hF⟩
#print axioms PySem.Challenge.cw_inkroot_k24_refusals_stand_holds
