import PyProof.Rows.All
import Wide.All
import OpenK.AllK
import Wide.FinOn
import HandS.ForMost
import HandS.Wide
import HandS.NoneIn
import HandS.TupAny
import HandS.Style
import HandS.SortRule
import HandS.IsInst
import HandS.Deep
import KE.SortData
import KE.DataMinMax
import KE.DataCmp
import KE.DataEq
import HandS.TupSets
import HandS.Iter
import KE.KRevSl
import HandS.Call
import HandS.TupMul
import HandS.SetFor
import PySem.Challenge.RW_threelays_k15_told_things_by_turns
set_option Elab.async false
set_option linter.all false
set_option maxRecDepth 100000
set_option maxHeartbeats 1000000
/-! The data layer, part A: what a value stands for (plain data), the tape, slots, the ghost heap. -/
namespace DL
open PySem L2

mutual
/-- v stands for the datum d, all its objects lie in the ghost heap G -/
inductive Rp (G : Hp) : V → PyData → Prop
  | non : Rp G .non .none
  | bl (b : Bool) : Rp G (.bl b) (.bool b)
  | int (i : Int) : Rp G (.int i) (.int i)
  | str (x : Str) : Rp G (.str x) (.str x)
  | lst {a : Addr} {xs : List V} {ds : List PyData} (h : G a = some (.lst xs)) (r : RpA G xs ds) : Rp G (.ref a) (.list ds)
  | tup {a : Addr} {xs : List V} {ds : List PyData} (h : G a = some (.tup xs)) (r : RpA G xs ds) : Rp G (.ref a) (.tuple ds)
inductive RpA (G : Hp) : List V → List PyData → Prop
  | nil : RpA G [] []
  | cons {v : V} {vs : List V} {d : PyData} {ds : List PyData} (h : Rp G v d) (r : RpA G vs ds) : RpA G (v :: vs) (d :: ds)
end

mutual
theorem Rp.mono {G G' : Hp} (e : Same G G') : ∀ {v : V} {d : PyData}, Rp G v d → Rp G' v d
  | _, _, .non => .non
  | _, _, .bl b => .bl b
  | _, _, .int i => .int i
  | _, _, .str x => .str x
  | _, _, .lst h r => .lst (e _ _ h) (RpA.mono e r)
  | _, _, .tup h r => .tup (e _ _ h) (RpA.mono e r)
theorem RpA.mono {G G' : Hp} (e : Same G G') : ∀ {vs : List V} {ds : List PyData}, RpA G vs ds → RpA G' vs ds
  | _, _, .nil => .nil
  | _, _, .cons h r => .cons (Rp.mono e h) (RpA.mono e r)
end
mutual
theorem Rp.dp {K : PySem.W.Frag} {G : Hp} : ∀ {v : V} {d : PyData}, Rp G v d → Dp K G v d
  | _, _, .non => .non
  | _, _, .bl b => .bl b
  | _, _, .int i => .int i
  | _, _, .str x => .str x
  | _, _, .lst h r => .lst (SqL.of h) (RpA.dp r)
  | _, _, .tup h r => .tup (SqT.of h) (RpA.dp r)
theorem RpA.dp {K : PySem.W.Frag} {G : Hp} : ∀ {vs : List V} {ds : List PyData}, RpA G vs ds → DpAll K G vs ds
  | _, _, .nil => .nil
  | _, _, .cons h r => .cons (Rp.dp h) (RpA.dp r)
end
theorem RpA.length {G : Hp} : ∀ {vs : List V} {ds : List PyData}, RpA G vs ds → vs.length = ds.length
  | _, _, .nil => rfl
  | _, _, .cons _ r => congrArg (· + 1) (RpA.length r)
theorem RpA.get {G : Hp} : ∀ {vs : List V} {ds : List PyData} {i : Nat} {d : PyData}, RpA G vs ds → ds[i]? = some d → ∃ v, vs[i]? = some v ∧ Rp G v d
  | _, _, _, _, .nil, h => by simp at h
  | _, _, 0, _, .cons h r, e => by simp at e; subst e; exact ⟨_, rfl, h⟩
  | _, _, i + 1, d, .cons h r, e => by
    obtain ⟨v, h1, h2⟩ := RpA.get (i := i) (d := d) r (by simpa using e)
    exact ⟨v, by simpa using h1, h2⟩
theorem RpA.get' {G : Hp} : ∀ {vs : List V} {ds : List PyData} {i : Nat} {v : V}, RpA G vs ds → vs[i]? = some v → ∃ d, ds[i]? = some d ∧ Rp G v d
  | _, _, _, _, .nil, h => by simp at h
  | _, _, 0, _, .cons h r, e => by simp at e; subst e; exact ⟨_, rfl, h⟩
  | _, _, i + 1, d, .cons h r, e => by
    obtain ⟨v, h1, h2⟩ := RpA.get' (i := i) (v := d) r (by simpa using e)
    exact ⟨v, by simpa using h1, h2⟩
theorem RpA.append {G : Hp} : ∀ {vs us : List V} {ds es : List PyData}, RpA G vs ds → RpA G us es → RpA G (vs ++ us) (ds ++ es)
  | _, _, _, _, .nil, s => s
  | _, _, _, _, .cons h r, s => .cons h (RpA.append r s)
theorem RpA.snoc {G : Hp} {vs : List V} {ds : List PyData} {v : V} {d : PyData} (r : RpA G vs ds) (h : Rp G v d) : RpA G (vs ++ [v]) (ds ++ [d]) := r.append (.cons h .nil)
theorem RpA.take {G : Hp} : ∀ {vs : List V} {ds : List PyData} (n : Nat), RpA G vs ds → RpA G (vs.take n) (ds.take n)
  | _, _, 0, _ => .nil
  | _, _, _ + 1, .nil => .nil
  | _, _, n + 1, .cons h r => .cons h (RpA.take n r)
theorem RpA.drop {G : Hp} : ∀ {vs : List V} {ds : List PyData} (n : Nat), RpA G vs ds → RpA G (vs.drop n) (ds.drop n)
  | _, _, 0, r => r
  | _, _, _ + 1, .nil => .nil
  | _, _, n + 1, .cons _ r => RpA.drop n r
theorem RpA.set {G : Hp} {v : V} {d : PyData} (h : Rp G v d) : ∀ {vs : List V} {ds : List PyData} (n : Nat), RpA G vs ds → RpA G (vs.set n v) (ds.set n d)
  | _, _, _, .nil => .nil
  | _, _, 0, .cons _ r => .cons h r
  | _, _, n + 1, .cons q r => .cons q (RpA.set h n r)
theorem RpA.ints {G : Hp} : ∀ (ns : List Int), RpA G (ns.map V.int) (ns.map PyData.int)
  | [] => .nil
  | n :: r => .cons (.int n) (RpA.ints r)
theorem RpA.dropLast {G : Hp} {vs : List V} {ds : List PyData} (r : RpA G vs ds) : RpA G vs.dropLast ds.dropLast := by
  rw [List.dropLast_eq_take, List.dropLast_eq_take, r.length]
  exact r.take _
theorem RpA.reverse {G : Hp} : ∀ {vs : List V} {ds : List PyData}, RpA G vs ds → RpA G vs.reverse ds.reverse
  | _, _, .nil => .nil
  | _, _, .cons h r => by
    rw [List.reverse_cons, List.reverse_cons]
    exact (RpA.reverse r).snoc h

/-! ### the tape and the monad -/
structure Tape where
  kind : Nat
  cells : List Int
  at_ : Int
  left : Int
  turn : Int

def M (α : Type) := Tape → Option (α × Tape)
namespace M
def ret {α : Type} (a : α) : M α := fun t => some (a, t)
def bnd {α β : Type} (m : M α) (f : α → M β) : M β := fun t => match m t with
  | none => none
  | some (a, t') => f a t'
def fail {α : Type} : M α := fun _ => none
def lift {α : Type} (o : Option α) : M α := fun t => o.map fun a => (a, t)
end M
instance : Monad M where
  pure := M.ret
  bind := M.bnd
theorem bnd_some {α β : Type} {m : M α} {f : α → M β} {t t2 : Tape} {b : β} (h : (m >>= f) t = some (b, t2)) : ∃ a t1, m t = some (a, t1) ∧ f a t1 = some (b, t2) := by
  have h' : (match m t with | none => none | some (a, t') => f a t') = some (b, t2) := h
  cases e : m t with
  | none => rw [e] at h'; cases h'
  | some p =>
    rw [e] at h'
    exact ⟨p.1, p.2, rfl, h'⟩
theorem pure_some {α : Type} {a b : α} {t t1 : Tape} (h : (pure a : M α) t = some (b, t1)) : a = b ∧ t = t1 := by
  have h' : some (a, t) = some (b, t1) := h
  cases h'
  exact ⟨rfl, rfl⟩
theorem lift_some {α : Type} {o : Option α} {b : α} {t t1 : Tape} (h : M.lift o t = some (b, t1)) : o = some b ∧ t = t1 := by
  unfold M.lift at h
  cases o with
  | none => cases h
  | some a => cases h; exact ⟨rfl, rfl⟩
theorem fail_some {α : Type} {b : α} {t t1 : Tape} (h : (M.fail : M α) t = some (b, t1)) : False := by cases h

/-- a slot of the mirror: unknown, a frozen datum, an owned list, the tape -/
inductive Sl where
  | un
  | fz (d : PyData)
  | ow (xs : List PyData)
  | tp

/-- the frame: where the tape stands; both heaps at the entry -/
structure Fm where
  T : Addr
  G0 : Hp
  H0 : Hp

/-- the keys of a dict tape, by its kind -/
def keyN (kind k : Nat) : Str := match kind, k with
  | 0, 0 => "cells" | 0, 1 => "at" | 0, 2 => "left" | 0, _ => "turn"
  | 2, 0 => "row" | 2, 1 => "next" | 2, 2 => "rest" | 2, _ => "draws"
  | _, 0 => "cells" | _, 1 => "spot" | _, 2 => "rest" | _, _ => "calls"
def tapeObj (c : Addr) (t : Tape) : HO :=
  if t.kind = 1 then .lst [.ref c, .int t.at_, .int t.left]
  else .dK [(Sum.inr (keyN t.kind 0), .ref c), (Sum.inr (keyN t.kind 1), .int t.at_), (Sum.inr (keyN t.kind 2), .int t.left), (Sum.inr (keyN t.kind 3), .int t.turn)]
/-- the tape stands at T, its cells are frozen -/
def TapeAt (T : Addr) (G H : Hp) (t : Tape) : Prop := ∃ c, G c = some (.lst (t.cells.map V.int)) ∧ H T = some (tapeObj c t)

structure Co (F : Fm) (t : Tape) (G H : Hp) : Prop where
  sub : Same G H
  gT : G F.T = none
  tape : TapeAt F.T G H t
  fr : ∀ b o, F.H0 b = some o → b ≠ F.T → H b = some o
  gn : ∀ b o, G b = some o → F.G0 b = some o ∨ F.H0 b = none

def OwAt (F : Fm) (G H : Hp) (p : Addr) (xs : List PyData) : Prop := ∃ vs, G p = none ∧ H p = some (.lst vs) ∧ RpA G vs xs ∧ F.H0 p = none ∧ p ≠ F.T
def SlotOk (F : Fm) (G H : Hp) : Sl → Option V → Prop
  | .un, _ => True
  | .fz d, v => ∃ u, v = some u ∧ Rp G u d
  | .ow xs, v => ∃ p, v = some (.ref p) ∧ OwAt F G H p xs
  | .tp, v => v = some (.ref F.T)

structure Wd (F : Fm) (t : Tape) (ρ : List Sl) (G H : Hp) (σ : St) : Prop where
  co : Co F t G H
  len : ρ.length = σ.length
  sl : ∀ (i : Nat) s v, ρ[i]? = some s → σ[i]? = some v → SlotOk F G H s v
  ap : ∀ (i j : Nat) xs ys v, ρ[i]? = some (.ow xs) → ρ[j]? = some (.ow ys) → σ[i]? = some (some v) → σ[j]? = some (some v) → i = j

section
variable {F : Fm} {t : Tape} {ρ : List Sl} {G H : Hp} {σ : St}
theorem same_upd {H : Hp} {p : Addr} {o : HO} (h : H p = none) : Same H (upd H p o) := fun b x e => by
  rw [upd_ne (ne_of_none e h)]
  exact e
theorem sm_none {G H : Hp} (s : Same G H) {p : Addr} (h : H p = none) : G p = none := s.free h
theorem sm_upd2 {G H : Hp} (s : Same G H) {p : Addr} {o : HO} : Same (upd G p o) (upd H p o) := fun b x e => by
  by_cases hb : b = p
  · subst hb
    rw [upd_same] at e
    rw [upd_same]
    exact e
  · rw [upd_ne hb] at e
    rw [upd_ne hb]
    exact s b x e
theorem Co.T_ne (c : Co F t G H) {p : Addr} (h : H p = none) : p ≠ F.T := by
  obtain ⟨a, _, e⟩ := c.tape
  exact fun z => by rw [z, e] at h; cases h
theorem Co.H0_none (c : Co F t G H) {p : Addr} (h : H p = none) : F.H0 p = none := by
  cases e : F.H0 p with
  | none => rfl
  | some o =>
    have := c.fr p o e (c.T_ne h)
    rw [h] at this; cases this
/-- both heaps grow, the old part of H stays but for the tape -/
theorem Co.grow {G' H' : Hp} {t' : Tape} (c : Co F t G H) (sub : Same G' H') (gg : Same G G') (keep : ∀ b o, H b = some o → b ≠ F.T → H' b = some o) (gT : G' F.T = none) (tp : TapeAt F.T G' H' t')
    (gn : ∀ b o, G' b = some o → G b = some o ∨ F.H0 b = none) : Co F t' G' H' :=
  ⟨sub, gT, tp, fun b o e n => keep b o (c.fr b o e n) n, fun b o e => (gn b o e).elim (fun z => c.gn b o z) .inr⟩
theorem Co.fz {p : Addr} {o : HO} (c : Co F t G H) (h : H p = none) : Co F t (upd G p o) (upd H p o) := by
  have nT := c.T_ne h
  have g0 : G p = none := sm_none c.sub h
  obtain ⟨a, e1, e2⟩ := c.tape
  refine c.grow (sm_upd2 c.sub) (same_upd g0) (fun b u e _ => same_upd h b u e) (by rw [upd_ne nT.symm]; exact c.gT) ⟨a, same_upd g0 _ _ e1, by rw [upd_ne nT.symm]; exact e2⟩ fun b u e => ?_
  by_cases hb : b = p
  · subst hb; exact .inr (c.H0_none h)
  · rw [upd_ne hb] at e; exact .inl e
theorem Co.raw {p : Addr} {o : HO} (c : Co F t G H) (h : H p = none) : Co F t G (upd H p o) := by
  have nT := c.T_ne h
  obtain ⟨a, e1, e2⟩ := c.tape
  exact c.grow (fun b u e => same_upd h b u (c.sub b u e)) (Same.refl G) (fun b u e _ => same_upd h b u e) c.gT ⟨a, e1, by rw [upd_ne nT.symm]; exact e2⟩ fun b u e => .inl e
/-- what every slot needs of a growth -/
theorem SlotOk.grow {G' H' : Hp} {s : Sl} {v : Option V} (h : SlotOk F G H s v) (gg : Same G G') (keep : ∀ b o, H b = some o → b ≠ F.T → H' b = some o) (gn : ∀ b o, b ≠ F.T → G' b = some o → G b = some o ∨ H b = none) : SlotOk F G' H' s v := by
  cases s with
  | un => trivial
  | fz d =>
    obtain ⟨u, e, r⟩ := h
    exact ⟨u, e, r.mono gg⟩
  | ow xs =>
    obtain ⟨p, e, vs, g0, hp, r, h0, nT⟩ := h
    refine ⟨p, e, vs, ?_, keep p _ hp nT, r.mono gg, h0, nT⟩
    cases q : G' p with
    | none => rfl
    | some o =>
      rcases gn p o nT q with z | z
      · rw [g0] at z; cases z
      · rw [hp] at z; cases z
  | tp => exact h
theorem Wd.grow {G' H' : Hp} {t' : Tape} (w : Wd F t ρ G H σ) (c : Co F t' G' H') (gg : Same G G') (keep : ∀ b o, H b = some o → b ≠ F.T → H' b = some o) (gn : ∀ b o, b ≠ F.T → G' b = some o → G b = some o ∨ H b = none) : Wd F t' ρ G' H' σ :=
  ⟨c, w.len, fun i s v h1 h2 => (w.sl i s v h1 h2).grow gg keep gn, w.ap⟩
theorem gn_upd {p : Addr} {o : HO} (h : H p = none) : ∀ b u, b ≠ F.T → (upd G p o) b = some u → G b = some u ∨ H b = none := fun b u _ e => by
  by_cases hb : b = p
  · subst hb; exact .inr h
  · rw [upd_ne hb] at e; exact .inl e
/-- how an expression may change both heaps: nothing that stood but the tape, nothing that stood is frozen -/
structure Gw (F : Fm) (G H G' H' : Hp) : Prop where
  gg : Same G G'
  kp : ∀ b o, H b = some o → b ≠ F.T → H' b = some o
  gn : ∀ b o, b ≠ F.T → G' b = some o → G b = some o ∨ H b = none
theorem Gw.refl : Gw F G H G H := ⟨Same.refl G, fun _ _ e _ => e, fun _ _ _ e => .inl e⟩
theorem Gw.trans {G1 H1 G2 H2 : Hp} (a : Gw F G H G1 H1) (b : Gw F G1 H1 G2 H2) : Gw F G H G2 H2 :=
  ⟨a.gg.trans b.gg, fun c o e n => b.kp c o (a.kp c o e n) n, fun c o n e => by
    rcases b.gn c o n e with z | z
    · exact a.gn c o n z
    · cases q : H c with
      | none => exact .inr rfl
      | some u =>
        have := a.kp c u q n
        rw [z] at this
        cases this⟩
theorem Gw.fz {p : Addr} {o : HO} (w : Wd F t ρ G H σ) (h : H p = none) : Gw F G H (upd G p o) (upd H p o) :=
  ⟨same_upd (sm_none w.co.sub h), fun b u e _ => same_upd h b u e, gn_upd h⟩
theorem Gw.raw {p : Addr} {o : HO} (h : H p = none) : Gw F G H G (upd H p o) := ⟨Same.refl G, fun b u e _ => same_upd h b u e, fun _ _ _ e => .inl e⟩
theorem Wd.gw {G' H' : Hp} {t' : Tape} (w : Wd F t ρ G H σ) (c : Co F t' G' H') (g : Gw F G H G' H') : Wd F t' ρ G' H' σ := w.grow c g.gg g.kp g.gn
/-- a new frozen object -/
theorem Wd.fz {p : Addr} {o : HO} (w : Wd F t ρ G H σ) (h : H p = none) : Wd F t ρ (upd G p o) (upd H p o) σ :=
  w.grow (w.co.fz h) (same_upd (sm_none w.co.sub h)) (fun b u e _ => same_upd h b u e) (gn_upd h)
/-- a new object, not frozen -/
theorem Wd.raw {p : Addr} {o : HO} (w : Wd F t ρ G H σ) (h : H p = none) : Wd F t ρ G (upd H p o) σ :=
  w.grow (w.co.raw h) (Same.refl G) (fun b u e _ => same_upd h b u e) fun b u _ e => .inl e
/-- a slot is set to a frozen datum -/
theorem get_set {α : Type} {l : List α} {i j : Nat} {a b : α} (h : (l.set i a)[j]? = some b) : (j = i ∧ a = b ∧ i < l.length) ∨ (j ≠ i ∧ l[j]? = some b) := by
  by_cases e : i = j
  · subst e
    by_cases hi : i < l.length
    · rw [List.getElem?_set_self hi] at h
      exact .inl ⟨rfl, Option.some.inj h, hi⟩
    · rw [List.getElem?_eq_none (by simpa using hi)] at h; cases h
  · rw [List.getElem?_set_ne e] at h
    exact .inr ⟨fun z => e z.symm, h⟩
/-- a slot that is no owned list is set -/
theorem Wd.set {i : Nat} {s : Sl} {v : Option V} (w : Wd F t ρ G H σ) (h : SlotOk F G H s v) (hs : ∀ xs, s ≠ .ow xs) : Wd F t (ρ.set i s) G H (σ.set i v) := by
  refine ⟨w.co, by rw [List.length_set, List.length_set]; exact w.len, fun j s' v' h1 h2 => ?_, fun j k xs ys u h1 h2 h3 h4 => ?_⟩
  · rcases get_set h1 with ⟨e, e1, _⟩ | ⟨e, e1⟩
    · subst e
      rcases get_set h2 with ⟨_, e2, _⟩ | ⟨e', _⟩
      · subst e1; subst e2; exact h
      · exact absurd rfl e'
    · rcases get_set h2 with ⟨e', _, _⟩ | ⟨_, e2⟩
      · exact absurd e' e
      · exact w.sl j s' v' e1 e2
  · rcases get_set h1 with ⟨_, e1, _⟩ | ⟨e, e1⟩
    · exact absurd e1 (hs xs)
    · rcases get_set h2 with ⟨_, e2, _⟩ | ⟨e', e2⟩
      · exact absurd e2 (hs ys)
      · rcases get_set h3 with ⟨e3, _, _⟩ | ⟨_, e3⟩
        · exact absurd e3 e
        · rcases get_set h4 with ⟨e4, _, _⟩ | ⟨_, e4⟩
          · exact absurd e4 e'
          · exact w.ap j k xs ys u e1 e2 e3 e4
theorem Wd.setF {i : Nat} {d : PyData} {v : V} (w : Wd F t ρ G H σ) (h : Rp G v d) : Wd F t (ρ.set i (.fz d)) G H (σ.set i (some v)) := w.set ⟨v, rfl, h⟩ fun _ e => by cases e
/-- an owned list that no slot has -/
theorem Wd.setO {i : Nat} {xs : List PyData} {p : Addr} (w : Wd F t ρ G H σ) (h : OwAt F G H p xs) (hn : ∀ (j : Nat) ys, ρ[j]? = some (.ow ys) → σ[j]? ≠ some (some (.ref p))) : Wd F t (ρ.set i (.ow xs)) G H (σ.set i (some (.ref p))) := by
  refine ⟨w.co, by rw [List.length_set, List.length_set]; exact w.len, fun j s' v' h1 h2 => ?_, fun j k xs' ys u h1 h2 h3 h4 => ?_⟩
  · rcases get_set h1 with ⟨e, e1, _⟩ | ⟨e, e1⟩
    · subst e
      rcases get_set h2 with ⟨_, e2, _⟩ | ⟨e', _⟩
      · subst e1; subst e2; exact ⟨p, rfl, h⟩
      · exact absurd rfl e'
    · rcases get_set h2 with ⟨e', _, _⟩ | ⟨_, e2⟩
      · exact absurd e' e
      · exact w.sl j s' v' e1 e2
  · rcases get_set h3 with ⟨e3, f3, _⟩ | ⟨e3, f3⟩
    · rcases get_set h4 with ⟨e4, _, _⟩ | ⟨e4, f4⟩
      · rw [e3, e4]
      · cases f3
        rcases get_set h2 with ⟨z, _, _⟩ | ⟨_, g2⟩
        · exact absurd z e4
        · exact absurd f4 (hn k ys g2)
    · rcases get_set h4 with ⟨e4, f4, _⟩ | ⟨e4, f4⟩
      · cases f4
        rcases get_set h1 with ⟨z, _, _⟩ | ⟨_, g1⟩
        · exact absurd z e3
        · exact absurd f3 (hn j xs' g1)
      · rcases get_set h1 with ⟨z, _, _⟩ | ⟨_, g1⟩
        · exact absurd z e3
        · rcases get_set h2 with ⟨z, _, _⟩ | ⟨_, g2⟩
          · exact absurd z e4
          · exact w.ap j k xs' ys u g1 g2 f3 f4
theorem Wd.ow {i : Nat} {xs : List PyData} (w : Wd F t ρ G H σ) (h : ρ[i]? = some (.ow xs)) : ∃ p, σ[i]? = some (some (.ref p)) ∧ OwAt F G H p xs := by
  have hi : i < σ.length := by
    rw [← w.len]
    exact (List.getElem?_eq_some_iff.mp h).1
  obtain ⟨p, e, q⟩ := w.sl i _ _ h (List.getElem?_eq_getElem hi)
  exact ⟨p, by rw [List.getElem?_eq_getElem hi, e], q⟩
theorem Wd.fzv {i : Nat} {d : PyData} (w : Wd F t ρ G H σ) (h : ρ[i]? = some (.fz d)) : ∃ v, σ[i]? = some (some v) ∧ Rp G v d := by
  have hi : i < σ.length := by
    rw [← w.len]
    exact (List.getElem?_eq_some_iff.mp h).1
  obtain ⟨v, e, q⟩ := w.sl i _ _ h (List.getElem?_eq_getElem hi)
  exact ⟨v, by rw [List.getElem?_eq_getElem hi, e], q⟩
theorem Wd.tpv {i : Nat} (w : Wd F t ρ G H σ) (h : ρ[i]? = some .tp) : σ[i]? = some (some (.ref F.T)) := by
  have hi : i < σ.length := by
    rw [← w.len]
    exact (List.getElem?_eq_some_iff.mp h).1
  have e := w.sl i _ _ h (List.getElem?_eq_getElem hi)
  rw [List.getElem?_eq_getElem hi]
  exact congrArg some e
/-- the owned list of slot i is changed in place -/
theorem Wd.mut {i : Nat} {xs ys : List PyData} {p : Addr} {us : List V} (w : Wd F t ρ G H σ) (h : ρ[i]? = some (.ow xs)) (hp : σ[i]? = some (some (.ref p))) (r : RpA G us ys) : Wd F t (ρ.set i (.ow ys)) G (upd H p (.lst us)) σ := by
  obtain ⟨p', e, vs, g0, hl, _, h0, nT⟩ := w.ow h
  rw [hp] at e
  cases e
  have keep : ∀ b o, b ≠ p → H b = some o → upd H p (.lst us) b = some o := fun b o n e => by rw [upd_ne n]; exact e
  have gp : ∀ b o, G b = some o → b ≠ p := fun b o e z => by rw [z, g0] at e; cases e
  obtain ⟨c, c1, c2⟩ := w.co.tape
  have co : Co F t G (upd H p (.lst us)) := by
    refine ⟨fun b o e => keep b o (gp b o e) (w.co.sub b o e), w.co.gT, ⟨c, c1, keep _ _ nT.symm c2⟩, fun b o e n => keep b o (fun z => by rw [z, h0] at e; cases e) (w.co.fr b o e n), w.co.gn⟩
  refine ⟨co, by rw [List.length_set]; exact w.len, fun j s v h1 h2 => ?_, fun j k xs' ys' u h1 h2 h3 h4 => ?_⟩
  · rcases get_set h1 with ⟨ej, es, _⟩ | ⟨ej, es⟩
    · subst ej; subst es
      rw [hp] at h2
      cases h2
      exact ⟨p, rfl, us, g0, upd_same, r, h0, nT⟩
    · have q := w.sl j s v es h2
      cases s with
      | un => trivial
      | fz d => exact q
      | ow zs =>
        obtain ⟨b, e, ws, g1, hb, rb, hb0, nb⟩ := q
        refine ⟨b, e, ws, g1, keep b _ (fun z => ?_) hb, rb, hb0, nb⟩
        subst z
        exact ej (w.ap j i zs xs (.ref b) es h (by rw [h2, e]) hp)
      | tp => exact q
  · have f1 : ∃ zs, ρ[j]? = some (.ow zs) := by
      rcases get_set h1 with ⟨e, _, _⟩ | ⟨_, e⟩
      · exact ⟨xs, by rw [e]; exact h⟩
      · exact ⟨_, e⟩
    have f2 : ∃ zs, ρ[k]? = some (.ow zs) := by
      rcases get_set h2 with ⟨e, _, _⟩ | ⟨_, e⟩
      · exact ⟨xs, by rw [e]; exact h⟩
      · exact ⟨_, e⟩
    obtain ⟨z1, e1⟩ := f1
    obtain ⟨z2, e2⟩ := f2
    exact w.ap j k z1 z2 u e1 e2 h3 h4
/-- an owned list is frozen -/
theorem Wd.freeze {i : Nat} {xs : List PyData} (w : Wd F t ρ G H σ) (h : ρ[i]? = some (.ow xs)) : ∃ G', Same G G' ∧ Wd F t (ρ.set i (.fz (.list xs))) G' H σ := by
  obtain ⟨p, e, vs, g0, hl, r, h0, nT⟩ := w.ow h
  have gg : Same G (upd G p (.lst vs)) := same_upd g0
  obtain ⟨c, c1, c2⟩ := w.co.tape
  have sub : Same (upd G p (.lst vs)) H := fun b o q => by
    by_cases hb : b = p
    · subst hb; rw [upd_same] at q; cases q; exact hl
    · rw [upd_ne hb] at q; exact w.co.sub b o q
  refine ⟨upd G p (.lst vs), gg, ⟨⟨sub, by rw [upd_ne nT.symm]; exact w.co.gT, ⟨c, gg _ _ c1, c2⟩, w.co.fr, fun b o q => ?_⟩, by rw [List.length_set]; exact w.len, fun j s v h1 h2 => ?_, fun j k xs' ys' u h1 h2 h3 h4 => ?_⟩⟩
  · by_cases hb : b = p
    · subst hb; exact .inr h0
    · rw [upd_ne hb] at q; exact w.co.gn b o q
  · rcases get_set h1 with ⟨ej, es, _⟩ | ⟨ej, es⟩
    · subst ej; subst es
      rw [e] at h2
      cases h2
      exact ⟨_, rfl, .lst upd_same (r.mono gg)⟩
    · have q := w.sl j s v es h2
      cases s with
      | un => trivial
      | fz d =>
        obtain ⟨u, e, ru⟩ := q
        exact ⟨u, e, ru.mono gg⟩
      | ow zs =>
        obtain ⟨b, eb, ws, g1, hb, rb, hb0, nb⟩ := q
        refine ⟨b, eb, ws, ?_, hb, rb.mono gg, hb0, nb⟩
        rw [upd_ne fun z => ?_]
        · exact g1
        · subst z
          exact ej (w.ap j i zs xs (.ref b) es h (by rw [h2, eb]) e)
      | tp => exact q
  · rcases get_set h1 with ⟨_, z, _⟩ | ⟨_, e1⟩
    · cases z
    · rcases get_set h2 with ⟨_, z, _⟩ | ⟨_, e2⟩
      · cases z
      · exact w.ap j k xs' ys' u e1 e2 h3 h4
/-- a new list that no slot has is frozen -/
theorem Wd.freezeN {xs : List PyData} {p : Addr} (w : Wd F t ρ G H σ) (h : OwAt F G H p xs) (hn : ∀ (j : Nat) ys, ρ[j]? = some (.ow ys) → σ[j]? ≠ some (some (.ref p))) : ∃ G', Same G G' ∧ (∀ b o, G' b = some o → G b = some o ∨ b = p) ∧ Wd F t ρ G' H σ ∧ Rp G' (.ref p) (.list xs) := by
  obtain ⟨vs, g0, hl, r, h0, nT⟩ := h
  have gg : Same G (upd G p (.lst vs)) := same_upd g0
  obtain ⟨c, c1, c2⟩ := w.co.tape
  have sub : Same (upd G p (.lst vs)) H := fun b o q => by
    by_cases hb : b = p
    · subst hb; rw [upd_same] at q; cases q; exact hl
    · rw [upd_ne hb] at q; exact w.co.sub b o q
  refine ⟨upd G p (.lst vs), gg, fun b o q => ?_, ⟨⟨sub, by rw [upd_ne nT.symm]; exact w.co.gT, ⟨c, gg _ _ c1, c2⟩, w.co.fr, fun b o q => ?_⟩, w.len, fun j s v h1 h2 => ?_, w.ap⟩, .lst upd_same (r.mono gg)⟩
  · by_cases hb : b = p
    · exact .inr hb
    · rw [upd_ne hb] at q; exact .inl q
  · by_cases hb : b = p
    · subst hb; exact .inr h0
    · rw [upd_ne hb] at q; exact w.co.gn b o q
  · have q := w.sl j s v h1 h2
    cases s with
    | un => trivial
    | fz d =>
      obtain ⟨u, e, ru⟩ := q
      exact ⟨u, e, ru.mono gg⟩
    | ow zs =>
      obtain ⟨b, eb, ws, g1, hb, rb, hb0, nb⟩ := q
      refine ⟨b, eb, ws, ?_, hb, rb.mono gg, hb0, nb⟩
      rw [upd_ne fun z => ?_]
      · exact g1
      · subst z
        exact hn j zs h1 (by rw [h2, eb])
    | tp => exact q
/-- a list laid anew is owned by nobody -/
theorem Wd.newL {vs : List V} {xs : List PyData} {p : Addr} (w : Wd F t ρ G H σ) (h : H p = none) (r : RpA G vs xs) : Wd F t ρ G (upd H p (.lst vs)) σ ∧ OwAt F G (upd H p (.lst vs)) p xs ∧ ∀ (j : Nat) ys, ρ[j]? = some (.ow ys) → σ[j]? ≠ some (some (.ref p)) := by
  refine ⟨w.raw h, ⟨vs, sm_none w.co.sub h, upd_same, r, w.co.H0_none h, w.co.T_ne h⟩, fun j ys hj e => ?_⟩
  obtain ⟨q, eq, ws, _, hq, _⟩ := w.ow hj
  rw [e] at eq
  cases eq
  rw [h] at hq
  cases hq
end
end DL

set_option maxHeartbeats 1000000
/-! The data layer, part B: what readings compute, as functions of the slots and the tape. -/
namespace DL
open PySem L2

abbrev ME := List Sl → M PyData
abbrev MB := List Sl → M Bool
abbrev ML := List Sl → M (List PyData)
abbrev MA := List Sl → M (List Sl)

/-- a frozen result -/
def EvF (t : TE) (m : ME) : Prop := ∀ (F : Fm) (t0 t1 : Tape) (ρ : List Sl) (G H : Hp) (σ : St) (d : PyData), m ρ t0 = some (d, t1) → Wd F t0 ρ G H σ →
  ∀ Q : VK, (∀ v G' H', Wd F t1 ρ G' H' σ → Gw F G H G' H' → Rp G' v d → Q v H') → t σ H Q
/-- a result that may be an owned list of a slot, to be read alone -/
def Bo (ρ : List Sl) (G : Hp) (σ : St) (v : V) (d : PyData) : Prop := Rp G v d ∨ ∃ (i : Nat) (xs : List PyData), ρ[i]? = some (.ow xs) ∧ σ[i]? = some (some v) ∧ d = .list xs
def EvB (t : TE) (m : ME) : Prop := ∀ (F : Fm) (t0 t1 : Tape) (ρ : List Sl) (G H : Hp) (σ : St) (d : PyData), m ρ t0 = some (d, t1) → Wd F t0 ρ G H σ →
  ∀ Q : VK, (∀ v G' H', Wd F t1 ρ G' H' σ → Gw F G H G' H' → Bo ρ G' σ v d → Q v H') → t σ H Q
/-- a new list that nobody owns -/
def NewL (F : Fm) (ρ : List Sl) (G H : Hp) (σ : St) (p : Addr) (xs : List PyData) : Prop := OwAt F G H p xs ∧ ∀ (j : Nat) ys, ρ[j]? = some (.ow ys) → σ[j]? ≠ some (some (.ref p))
def EvN (t : TE) (m : ML) : Prop := ∀ (F : Fm) (t0 t1 : Tape) (ρ : List Sl) (G H : Hp) (σ : St) (xs : List PyData), m ρ t0 = some (xs, t1) → Wd F t0 ρ G H σ →
  ∀ Q : VK, (∀ p G' H', Wd F t1 ρ G' H' σ → Gw F G H G' H' → NewL F ρ G' H' σ p xs → H p = none → Q (.ref p) H') → t σ H Q
def EvT (t : TT) (m : MB) : Prop := ∀ (F : Fm) (t0 t1 : Tape) (ρ : List Sl) (G H : Hp) (σ : St) (b : Bool), m ρ t0 = some (b, t1) → Wd F t0 ρ G H σ →
  ∀ Q : Bool → Hp → Prop, (∀ G' H', Wd F t1 ρ G' H' σ → Gw F G H G' H' → Q b H') → t σ H Q
/-- argument lists: frozen data; read data; slots (for a def's call) -/
def EvL (t : TA) (m : ML) : Prop := ∀ (F : Fm) (t0 t1 : Tape) (ρ : List Sl) (G H : Hp) (σ : St) (ds : List PyData), m ρ t0 = some (ds, t1) → Wd F t0 ρ G H σ →
  ∀ Q : List V → Hp → Prop, (∀ vs G' H', Wd F t1 ρ G' H' σ → Gw F G H G' H' → RpA G' vs ds → Q vs H') → t σ H Q
inductive BoA (ρ : List Sl) (G : Hp) (σ : St) : List V → List PyData → Prop
  | nil : BoA ρ G σ [] []
  | cons {v : V} {vs : List V} {d : PyData} {ds : List PyData} (h : Bo ρ G σ v d) (r : BoA ρ G σ vs ds) : BoA ρ G σ (v :: vs) (d :: ds)
def EvR (t : TA) (m : ML) : Prop := ∀ (F : Fm) (t0 t1 : Tape) (ρ : List Sl) (G H : Hp) (σ : St) (ds : List PyData), m ρ t0 = some (ds, t1) → Wd F t0 ρ G H σ →
  ∀ Q : List V → Hp → Prop, (∀ vs G' H', Wd F t1 ρ G' H' σ → Gw F G H G' H' → BoA ρ G' σ vs ds → Q vs H') → t σ H Q
def AgOk (T : Addr) (G : Hp) : Sl → V → Prop
  | .fz d, v => Rp G v d
  | .tp, v => v = .ref T
  | _, _ => False
inductive AgsOk (T : Addr) (G : Hp) : List Sl → List V → Prop
  | nil : AgsOk T G [] []
  | cons {s : Sl} {ss : List Sl} {v : V} {vs : List V} (h : AgOk T G s v) (r : AgsOk T G ss vs) : AgsOk T G (s :: ss) (v :: vs)
def EvA (t : TA) (m : MA) : Prop := ∀ (F : Fm) (t0 t1 : Tape) (ρ : List Sl) (G H : Hp) (σ : St) (as : List Sl), m ρ t0 = some (as, t1) → Wd F t0 ρ G H σ →
  ∀ Q : List V → Hp → Prop, (∀ vs G' H', Wd F t1 ρ G' H' σ → Gw F G H G' H' → AgsOk F.T G' as vs → Q vs H') → t σ H Q

section
variable {F : Fm} {t : Tape} {ρ : List Sl} {G H G' : Hp} {σ : St} {v : V} {d : PyData}
theorem Bo.mono (e : Same G G') (h : Bo ρ G σ v d) : Bo ρ G' σ v d := h.elim (fun r => .inl (r.mono e)) .inr
theorem BoA.mono (e : Same G G') : ∀ {vs : List V} {ds : List PyData}, BoA ρ G σ vs ds → BoA ρ G' σ vs ds
  | _, _, .nil => .nil
  | _, _, .cons h r => .cons (h.mono e) (r.mono e)
theorem AgOk.mono {T : Addr} {s : Sl} (e : Same G G') (h : AgOk T G s v) : AgOk T G' s v := by
  cases s with
  | fz d => exact Rp.mono e h
  | tp => exact h
  | un => exact h
  | ow _ => exact h
theorem AgsOk.mono {T : Addr} (e : Same G G') : ∀ {ss : List Sl} {vs : List V}, AgsOk T G ss vs → AgsOk T G' ss vs
  | _, _, .nil => .nil
  | _, _, .cons h r => .cons (h.mono e) (r.mono e)
theorem AgsOk.length {T : Addr} : ∀ {ss : List Sl} {vs : List V}, AgsOk T G ss vs → ss.length = vs.length
  | _, _, .nil => rfl
  | _, _, .cons _ r => congrArg (· + 1) r.length
theorem Bo.rp (w : Wd F t ρ G H σ) (h : Bo ρ G σ v d) : Rp H v d := by
  rcases h with r | ⟨i, xs, e1, e2, rfl⟩
  · exact r.mono w.co.sub
  · obtain ⟨p, e, vs, _, hp, r, _⟩ := w.ow e1
    rw [e2] at e
    cases e
    exact .lst hp (r.mono w.co.sub)
theorem Bo.lst {ds : List PyData} (w : Wd F t ρ G H σ) (h : Bo ρ G σ v (.list ds)) : ∃ p vs, v = .ref p ∧ H p = some (.lst vs) ∧ RpA G vs ds := by
  rcases h with r | ⟨i, xs, e1, e2, e3⟩
  · cases r with
    | lst h r => exact ⟨_, _, rfl, w.co.sub _ _ h, r⟩
  · cases e3
    obtain ⟨p, e, vs, _, hp, r, _⟩ := w.ow e1
    rw [e2] at e
    cases e
    exact ⟨p, vs, rfl, hp, r⟩
theorem Bo.tup {ds : List PyData} (w : Wd F t ρ G H σ) (h : Bo ρ G σ v (.tuple ds)) : ∃ p vs, v = .ref p ∧ H p = some (.tup vs) ∧ G p = some (.tup vs) ∧ RpA G vs ds := by
  rcases h with r | ⟨i, xs, e1, e2, e3⟩
  · cases r with
    | tup h r => exact ⟨_, _, rfl, w.co.sub _ _ h, h, r⟩
  · cases e3
theorem Bo.int {i : Int} (h : Bo ρ G σ v (.int i)) : v = .int i := by
  rcases h with r | ⟨_, _, _, _, e3⟩
  · cases r; rfl
  · cases e3
theorem Bo.str {x : Str} (h : Bo ρ G σ v (.str x)) : v = .str x := by
  rcases h with r | ⟨_, _, _, _, e3⟩
  · cases r; rfl
  · cases e3
theorem Bo.bool {b : Bool} (h : Bo ρ G σ v (.bool b)) : v = .bl b := by
  rcases h with r | ⟨_, _, _, _, e3⟩
  · cases r; rfl
  · cases e3
theorem Bo.none (h : Bo ρ G σ v .none) : v = .non := by
  rcases h with r | ⟨_, _, _, _, e3⟩
  · cases r; rfl
  · cases e3
end

theorem kp_none {F : Fm} {t : Tape} {ρ : List Sl} {G H G' H' : Hp} {σ : St} {p : Addr} (w : Wd F t ρ G H σ) (s : Gw F G H G' H') (h : H' p = none) (nT : p ≠ F.T) : H p = none := by
  cases q : H p with
  | none => rfl
  | some u =>
    have := s.kp p u q nT
    rw [h] at this
    cases this
theorem EvF.b {t : TE} {m : ME} (h : EvF t m) : EvB t m := fun F t0 t1 ρ G H σ d e w Q q => h F t0 t1 ρ G H σ d e w Q fun v G' H' w' s r => q v G' H' w' s (.inl r)
def eList (m : ML) : ME := fun ρ => do
  let xs ← m ρ
  pure (.list xs)
theorem EvN.f {t : TE} {m : ML} (h : EvN t m) : EvF t (eList m) := fun F t0 t1 ρ G H σ d e w Q q => by
  obtain ⟨xs, t2, e1, e2⟩ := bnd_some e
  obtain ⟨rfl, rfl⟩ := pure_some e2
  refine h F t0 _ ρ G H σ xs e1 w Q fun p G' H' w' s n hp => ?_
  obtain ⟨G2, s2, gn, w2, r2⟩ := w'.freezeN n.1 n.2
  refine q _ G2 H' w2 ⟨s.gg.trans s2, s.kp, fun b o nb e => ?_⟩ r2
  rcases gn b o e with z | z
  · exact s.gn b o nb z
  · exact .inr (z ▸ hp)

/-! ### names, constants -/
def rdF (ρ : List Sl) (i : Nat) : Option PyData := match ρ[i]? with
  | some (.fz d) => some d
  | _ => none
def rdB (ρ : List Sl) (i : Nat) : Option PyData := match ρ[i]? with
  | some (.fz d) => some d
  | some (.ow xs) => some (.list xs)
  | _ => none
def eVar (i : Nat) : ME := fun ρ => M.lift (rdF ρ i)
def bVar (i : Nat) : ME := fun ρ => M.lift (rdB ρ i)
def eC (d : PyData) : ME := fun _ => pure d
theorem ev_var (i : Nat) : EvF (tVar i) (eVar i) := fun F t0 t1 ρ G H σ d e w Q q => by
  obtain ⟨e', rfl⟩ := lift_some e
  unfold rdF at e'
  split at e'
  · rename_i d' hr
    cases e'
    obtain ⟨v, hv, r⟩ := w.fzv hr
    exact ⟨v, hv, q v G H w Gw.refl r⟩
  · cases e'
theorem ev_bvar (i : Nat) : EvB (tVar i) (bVar i) := fun F t0 t1 ρ G H σ d e w Q q => by
  obtain ⟨e', rfl⟩ := lift_some e
  unfold rdB at e'
  split at e'
  · rename_i d' hr
    cases e'
    obtain ⟨v, hv, r⟩ := w.fzv hr
    exact ⟨v, hv, q v G H w Gw.refl (.inl r)⟩
  · rename_i xs hr
    cases e'
    obtain ⟨p, hv, _⟩ := w.ow hr
    exact ⟨_, hv, q _ G H w Gw.refl (.inr ⟨i, xs, hr, hv, rfl⟩)⟩
  · cases e'
theorem ev_c {v : V} {d : PyData} (h : ∀ G, Rp G v d) : EvF (tC v) (eC d) := fun F t0 t1 ρ G H σ d' e w Q q => by
  obtain ⟨rfl, rfl⟩ := pure_some e
  exact q v G H w Gw.refl (h G)

/-! ### operators -/
/-- a two-place operation, by what its values stand for -/
def Op2 (r : R2) (g : PyData → PyData → Option PyData) : Prop := ∀ (F : Fm) (t : Tape) (ρ : List Sl) (G H : Hp) (σ : St) (x y : V) (a b c : PyData), g a b = some c → Wd F t ρ G H σ → Bo ρ G σ x a → Bo ρ G σ y b →
  ∀ Q : VK, (∀ v G' H', Wd F t ρ G' H' σ → Gw F G H G' H' → Rp G' v c → Q v H') → r x y H Q
def e2 (g : PyData → PyData → Option PyData) (ma mb : ME) : ME := fun ρ => do
  let a ← ma ρ
  let b ← mb ρ
  M.lift (g a b)
theorem ev_op {r : R2} {g : PyData → PyData → Option PyData} {ta tb : TE} {ma mb : ME} (hr : Op2 r g) (ha : EvB ta ma) (hb : EvB tb mb) : EvF (tOp r ta tb) (e2 g ma mb) := fun F t0 t1 ρ G H σ d e w Q q => by
  obtain ⟨a, t2, e1, e⟩ := bnd_some e
  obtain ⟨b, t3, e2, e⟩ := bnd_some e
  obtain ⟨e3, rfl⟩ := lift_some e
  refine ha F t0 t2 ρ G H σ a e1 w _ fun x G1 H1 w1 s1 r1 => ?_
  refine hb F t2 _ ρ G1 H1 σ b e2 w1 _ fun y G2 H2 w2 s2 r2 => ?_
  exact hr F _ ρ G2 H2 σ x y a b d e3 w2 (r1.mono s2.gg) r2 Q fun v G3 H3 w3 s3 r3 => q v G3 H3 w3 ((s1.trans s2).trans s3) r3
theorem Op2.or {r r' : R2} {g g' : PyData → PyData → Option PyData} (h : Op2 r g) (h' : Op2 r' g') : Op2 (fun x y H Q => r x y H Q ∨ r' x y H Q) (fun a b => (g a b).or (g' a b)) := fun F t ρ G H σ x y a b c e w hx hy Q q => by
  cases e1 : g a b with
  | some z =>
    have e2 : (some z).or (g' a b) = some c := by rw [← e1]; exact e
    cases e2
    exact .inl (h F t ρ G H σ x y a b c e1 w hx hy Q q)
  | none =>
    have e2 : (none : Option PyData).or (g' a b) = some c := by rw [← e1]; exact e
    exact .inr (h' F t ρ G H σ x y a b c (by simpa using e2) w hx hy Q q)
/-- ints alone -/
def gI (C : Int → Int → Bool) (f : Int → Int → PyData) : PyData → PyData → Option PyData
  | .int i, .int j => if C i j then some (f i j) else none
  | _, _ => none
def gI0 (f : Int → Int → PyData) : PyData → PyData → Option PyData
  | .int i, .int j => some (f i j)
  | _, _ => none
theorem op2_int {C : Int → Int → Bool} {f : Int → Int → PyData} {P : Int → Int → Prop} {k : Int → Int → V} (hP : ∀ i j, C i j = true → P i j) (hk : ∀ i j G, Rp G (k i j) (f i j)) : Op2 (rI P k) (gI C f) := fun F t ρ G H σ x y a b c e w hx hy Q q => by
  unfold gI at e
  split at e
  · rename_i i j
    split at e
    · rename_i hc
      cases e
      exact ⟨i, j, hx.int, hy.int, hP i j hc, q _ G H w Gw.refl (hk i j G)⟩
    · cases e
  · cases e
theorem op2_int0 {f : Int → Int → PyData} {k : Int → Int → V} (hk : ∀ i j G, Rp G (k i j) (f i j)) : Op2 (rI0 k) (gI0 f) := fun F t ρ G H σ x y a b c e w hx hy Q q => by
  unfold gI0 at e
  split at e
  · rename_i i j
    cases e
    exact ⟨i, j, hx.int, hy.int, q _ G H w Gw.refl (hk i j G)⟩
  · cases e
def okMul (i j : Int) : Bool := decide (i.natAbs.log2 + j.natAbs.log2 < 1000000)
def okDiv (_ j : Int) : Bool := decide (0 < j) && decide (j.natAbs.log2 < 9000)
def okMod (_ j : Int) : Bool := decide (0 < j)
def okPow (i j : Int) : Bool := decide (0 ≤ j) && decide (j ≤ 1000000) && decide (i.natAbs < 2 ^ 64)
def gSub := gI0 fun i j => .int (i - j)
def gMulI := gI okMul fun i j => .int (i * j)
def gDiv := gI okDiv fun i j => .int (i / j)
def gMod := gI okMod fun i j => .int (i % j)
def gPow := gI okPow fun i j => .int (i ^ j.toNat)
def gAddI := gI0 fun i j => .int (i + j)
def gLtI := gI0 fun i j => .bool (decide (i < j))
def gLeI := gI0 fun i j => .bool (decide (i ≤ j))
def gGtI := gI0 fun i j => .bool (decide (j < i))
def gGeI := gI0 fun i j => .bool (decide (j ≤ i))
theorem o_sub : Op2 (rI0 fun i j => .int (i - j)) gSub := op2_int0 fun _ _ _ => .int _
theorem o_addI : Op2 (rI0 fun i j => .int (i + j)) gAddI := op2_int0 fun _ _ _ => .int _
theorem o_mulI : Op2 (rI CMulW fun i j => .int (i * j)) gMulI := op2_int (fun i j h => (show i.natAbs.log2 + j.natAbs.log2 < 1000000 from of_decide_eq_true h)) fun _ _ _ => .int _
theorem o_div : Op2 (rI CDivW fun i j => .int (i / j)) gDiv := op2_int (fun i j h => by
  unfold okDiv at h
  rw [Bool.and_eq_true] at h
  exact ⟨of_decide_eq_true h.1, of_decide_eq_true h.2⟩) fun _ _ _ => .int _
theorem o_mod : Op2 (rI (fun _ j => 0 < j) fun i j => .int (i % j)) gMod := op2_int (fun i j h => of_decide_eq_true h) fun _ _ _ => .int _
theorem o_pow : Op2 (rI CPow fun i j => .int (i ^ j.toNat)) gPow := op2_int (fun i j h => by
  unfold okPow at h
  rw [Bool.and_eq_true, Bool.and_eq_true] at h
  exact ⟨of_decide_eq_true h.1.1, of_decide_eq_true h.1.2, of_decide_eq_true h.2⟩) fun _ _ _ => .int _
theorem o_ltI : Op2 (rI0 fun i j => .bl (decide (i < j))) gLtI := op2_int0 fun _ _ _ => .bl _
theorem o_leI : Op2 (rI0 fun i j => .bl (decide (i ≤ j))) gLeI := op2_int0 fun _ _ _ => .bl _
theorem o_gtI : Op2 (rI0 fun i j => .bl (decide (j < i))) gGtI := op2_int0 fun _ _ _ => .bl _
theorem o_geI : Op2 (rI0 fun i j => .bl (decide (j ≤ i))) gGeI := op2_int0 fun _ _ _ => .bl _
/-- == and != of data -/
def gEq (a b : PyData) : Option PyData := if SeqAt.shaped a && SeqAt.shaped b then some (.bool (PyData.eqv a b)) else none
def gNe (a b : PyData) : Option PyData := if SeqAt.shaped a && SeqAt.shaped b then some (.bool (!PyData.eqv a b)) else none
theorem o_eq {K : PySem.W.Frag} : Op2 (rEqD K) gEq := fun F t ρ G H σ x y a b c e w hx hy Q q => by
  unfold gEq at e
  split at e
  · rename_i hc
    rw [Bool.and_eq_true] at hc
    cases e
    exact ⟨a, b, (hx.rp w).dp, (hy.rp w).dp, hc.1, hc.2, q _ G H w Gw.refl (.bl _)⟩
  · cases e
theorem o_ne {K : PySem.W.Frag} : Op2 (rNeD K) gNe := fun F t ρ G H σ x y a b c e w hx hy Q q => by
  unfold gNe at e
  split at e
  · rename_i hc
    rw [Bool.and_eq_true] at hc
    cases e
    exact ⟨a, b, (hx.rp w).dp, (hy.rp w).dp, hc.1, hc.2, q _ G H w Gw.refl (.bl _)⟩
  · cases e
/-- is None, is not None -/
def isNone : PyData → Bool
  | .none => true
  | _ => false
def gIsN (a b : PyData) : Option PyData := if isNone b then some (.bool (isNone a)) else none
def gNotN (a b : PyData) : Option PyData := if isNone b then some (.bool (!isNone a)) else none
theorem Rp.isN {G : Hp} {v : V} {d : PyData} (h : Rp G v d) : decide (v = .non) = isNone d := by
  cases h <;> simp [isNone]
theorem isNone_eq {d : PyData} (h : isNone d = true) : d = .none := by
  cases d <;> simp_all [isNone]
theorem o_isN : Op2 (fun x y H Q => y = .non ∧ Q (.bl (decide (x = .non))) H) gIsN := fun F t ρ G H σ x y a b c e w hx hy Q q => by
  unfold gIsN at e
  split at e
  · rename_i hb
    cases isNone_eq hb
    cases e
    refine ⟨hy.none, q _ G H w Gw.refl ?_⟩
    rw [(hx.rp w).isN]
    exact .bl _
  · cases e
theorem o_notN : Op2 (fun x y H Q => y = .non ∧ Q (.bl (!decide (x = .non))) H) gNotN := fun F t ρ G H σ x y a b c e w hx hy Q q => by
  unfold gNotN at e
  split at e
  · rename_i hb
    cases isNone_eq hb
    cases e
    refine ⟨hy.none, q _ G H w Gw.refl ?_⟩
    rw [(hx.rp w).isN]
    exact .bl _
  · cases e
/-- a list and a list -/
def okLen (n : Nat) : Bool := decide (n ≤ 1000000)
theorem okLen_le {n : Nat} (h : okLen n = true) : n ≤ sizeLine := Nat.le_trans (of_decide_eq_true h) (by decide)
theorem okLen_lt {n : Nat} (h : okLen n = true) : n < sizeLine := Nat.lt_of_le_of_lt (of_decide_eq_true h) (by decide)
def gCatL : PyData → PyData → Option PyData
  | .list xs, .list ys => if okLen (xs.length + ys.length) then some (.list (xs ++ ys)) else none
  | _, _ => none
theorem o_catL : Op2 rCat gCatL := fun F t ρ G H σ x y a b c e w hx hy Q q => by
  unfold gCatL at e
  split at e
  · rename_i xs ys
    split at e
    · rename_i hz
      cases e
      obtain ⟨p, vs, rfl, hp, rp⟩ := hx.lst w
      obtain ⟨p', us, rfl, hp', rp'⟩ := hy.lst w
      refine ⟨p, p', vs, us, rfl, rfl, hp, hp', by rw [rp.length, rp'.length]; exact okLen_le hz, fun z hz' => ?_⟩
      have g0 := sm_none w.co.sub hz'
      exact q _ _ _ (w.fz hz') (Gw.fz w hz') (.lst upd_same ((rp.append rp').mono (same_upd g0)))
    · cases e
  · cases e
def gCatT : PyData → PyData → Option PyData
  | .tuple xs, .tuple ys => if okLen (xs.length + ys.length) then some (.tuple (xs ++ ys)) else none
  | _, _ => none
theorem o_catT {K : PySem.W.Frag} : Op2 (rCatA K) gCatT := fun F t ρ G H σ x y a b c e w hx hy Q q => by
  unfold gCatT at e
  split at e
  · rename_i xs ys
    split at e
    · rename_i hz
      cases e
      obtain ⟨p, vs, rfl, hp, gp, rp⟩ := hx.tup w
      obtain ⟨p', us, rfl, hp', gp', rp'⟩ := hy.tup w
      refine ⟨p, p', vs, us, rfl, rfl, SqT.of hp, SqT.of hp', by rw [rp.length, rp'.length]; exact okLen_le hz, fun z => ?_, fun _ z => ?_, fun z1 z2 p1 hz' => ?_⟩
      · have e0 : xs = [] := by
          have := rp.length
          rw [z] at this
          exact List.length_eq_zero_iff.mp this.symm
        subst e0
        exact q _ G H w Gw.refl (.tup gp' rp')
      · have e0 : ys = [] := by
          have := rp'.length
          rw [z] at this
          exact List.length_eq_zero_iff.mp this.symm
        subst e0
        exact q _ G H w Gw.refl (by rw [List.append_nil]; exact .tup gp rp)
      · have g0 := sm_none w.co.sub hz'
        exact q _ _ _ (w.fz hz') (Gw.fz w hz') (.tup upd_same ((rp.append rp').mono (same_upd g0)))
    · cases e
  · cases e
def gCatS : PyData → PyData → Option PyData
  | .str x, .str y => if okLen (x.length + y.length) then some (.str (x ++ y)) else none
  | _, _ => none
theorem o_catS : Op2 (fun x y H Q => ∃ i j, x = .str i ∧ y = .str j ∧ i.length + j.length ≤ sizeLine ∧ Q (.str (i ++ j)) H) gCatS := fun F t ρ G H σ x y a b c e w hx hy Q q => by
  unfold gCatS at e
  split at e
  · rename_i i j
    split at e
    · rename_i hz
      cases e
      exact ⟨i, j, hx.str, hy.str, okLen_le hz, q _ G H w Gw.refl (.str _)⟩
    · cases e
  · cases e
def gAdd (a b : PyData) : Option PyData := (gAddI a b).or ((gCatL a b).or ((gCatT a b).or (gCatS a b)))
/-- a subscript -/
def gIx : PyData → PyData → Option PyData
  | .list xs, .int i => atI xs i
  | .tuple xs, .int i => atI xs i
  | _, _ => none
theorem RpA.atI {G : Hp} {vs : List V} {ds : List PyData} {i : Int} {d : PyData} (r : RpA G vs ds) (h : L2.atI ds i = some d) : ∃ v, L2.atI vs i = some v ∧ Rp G v d := by
  unfold L2.atI at h ⊢
  rw [r.length]
  cases e : ixN ds.length i with
  | none => rw [e] at h; cases h
  | some j =>
    rw [e] at h
    exact r.get h
theorem o_ix {K : PySem.W.Frag} : Op2 (rIx K) gIx := fun F t ρ G H σ x y a b c e w hx hy Q q => by
  unfold gIx at e
  split at e
  · rename_i xs i
    obtain ⟨p, vs, rfl, hp, rp⟩ := hx.lst w
    obtain ⟨v, hv, rv⟩ := rp.atI e
    exact .inl ⟨p, vs, i, v, rfl, hy.int, SqL.of hp, hv, q v G H w Gw.refl rv⟩
  · rename_i xs i
    obtain ⟨p, vs, rfl, hp, gp, rp⟩ := hx.tup w
    obtain ⟨v, hv, rv⟩ := rp.atI e
    exact .inr (.inl ⟨p, vs, i, v, rfl, hy.int, SqT.of hp, hv, q v G H w Gw.refl rv⟩)
  · cases e
/-- one-place operations -/
def e1 (g : PyData → Option PyData) (ma : ME) : ME := fun ρ => do
  let a ← ma ρ
  M.lift (g a)
def gNeg : PyData → Option PyData
  | .int i => some (.int (-i))
  | _ => none
theorem ev_neg {ta : TE} {ma : ME} (ha : EvB ta ma) : EvF (tUn (rU fun i => .int (-i)) ta) (e1 gNeg ma) := fun F t0 t1 ρ G H σ d e w Q q => by
  obtain ⟨a, t2, e1, e⟩ := bnd_some e
  obtain ⟨e3, rfl⟩ := lift_some e
  refine ha F t0 _ ρ G H σ a e1 w _ fun x G1 H1 w1 s1 r1 => ?_
  unfold gNeg at e3
  split at e3
  · cases e3
    exact ⟨_, r1.int, q _ G1 H1 w1 s1 (.int _)⟩
  · cases e3

/-! ### tests, and, or, not, if-else -/
def tOf (m : ME) : MB := fun ρ => do
  match ← m ρ with
  | .bool b => pure b
  | _ => M.fail
theorem tOf_some {m : ME} {ρ : List Sl} {t t1 : Tape} {b : Bool} (h : tOf m ρ t = some (b, t1)) : m ρ t = some (.bool b, t1) := by
  obtain ⟨a, t2, e1, e⟩ := bnd_some h
  split at e
  · obtain ⟨rfl, rfl⟩ := pure_some e
    exact e1
  · exact (fail_some e).elim
theorem ev_test {te : TE} {m : ME} (h : EvB te m) : EvT (tTest te) (tOf m) := fun F t0 t1 ρ G H σ b e w Q q =>
  h F t0 t1 ρ G H σ _ (tOf_some e) w _ fun v G' H' w' s r => ⟨b, r.bool, q G' H' w' s⟩
theorem ev_testB {te : TE} {m : ME} (h : EvB te m) : EvT (tB te) (tOf m) := fun F t0 t1 ρ G H σ b e w Q q =>
  h F t0 t1 ρ G H σ _ (tOf_some e) w _ fun v G' H' w' s r => ⟨b, r.bool, q G' H' w' s⟩
def bAnd (a b : MB) : MB := fun ρ => do
  if ← a ρ then b ρ else pure false
def bOr (a b : MB) : MB := fun ρ => do
  if ← a ρ then pure true else b ρ
def bNot (a : MB) : MB := fun ρ => do
  let b ← a ρ
  pure (!b)
theorem ev_and {t u : TT} {a b : MB} (ha : EvT t a) (hb : EvT u b) : EvT (tAnd t u) (bAnd a b) := fun F t0 t1 ρ G H σ c e w Q q => by
  obtain ⟨x, t2, e1, e⟩ := bnd_some e
  refine ha F t0 t2 ρ G H σ x e1 w _ fun G1 H1 w1 s1 => ?_
  cases x with
  | true =>
    refine iteT (hb F t2 t1 ρ G1 H1 σ c e w1 Q fun G2 H2 w2 s2 => q G2 H2 w2 (s1.trans s2))
  | false =>
    obtain ⟨rfl, rfl⟩ := pure_some (show (pure false : M Bool) t2 = some (c, t1) from e)
    exact iteF (q G1 H1 w1 s1)
theorem ev_or {t u : TT} {a b : MB} (ha : EvT t a) (hb : EvT u b) : EvT (tOr t u) (bOr a b) := fun F t0 t1 ρ G H σ c e w Q q => by
  obtain ⟨x, t2, e1, e⟩ := bnd_some e
  refine ha F t0 t2 ρ G H σ x e1 w _ fun G1 H1 w1 s1 => ?_
  cases x with
  | true =>
    obtain ⟨rfl, rfl⟩ := pure_some (show (pure true : M Bool) t2 = some (c, t1) from e)
    exact iteT (q G1 H1 w1 s1)
  | false => exact iteF (hb F t2 t1 ρ G1 H1 σ c e w1 Q fun G2 H2 w2 s2 => q G2 H2 w2 (s1.trans s2))
theorem ev_not {t : TT} {a : MB} (ha : EvT t a) : EvT (tNot t) (bNot a) := fun F t0 t1 ρ G H σ c e w Q q => by
  obtain ⟨x, t2, e1, e⟩ := bnd_some e
  obtain ⟨rfl, rfl⟩ := pure_some e
  exact ha F t0 _ ρ G H σ x e1 w _ fun G1 H1 w1 s1 => q G1 H1 w1 s1
def eIf (c : MB) (a b : ME) : ME := fun ρ => do
  if ← c ρ then a ρ else b ρ
theorem ev_if {t : TT} {ta tb : TE} {c : MB} {a b : ME} (hc : EvT t c) (ha : EvF ta a) (hb : EvF tb b) : EvF (tIf t ta tb) (eIf c a b) := fun F t0 t1 ρ G H σ d e w Q q => by
  obtain ⟨x, t2, e1, e⟩ := bnd_some e
  refine hc F t0 t2 ρ G H σ x e1 w _ fun G1 H1 w1 s1 => ?_
  cases x with
  | true => exact iteT (ha F t2 t1 ρ G1 H1 σ d e w1 Q fun v G2 H2 w2 s2 r => q v G2 H2 w2 (s1.trans s2) r)
  | false => exact iteF (hb F t2 t1 ρ G1 H1 σ d e w1 Q fun v G2 H2 w2 s2 r => q v G2 H2 w2 (s1.trans s2) r)
/-- and, or, not as values: all but the last are truths -/
def eAnd (a b : ME) : ME := fun ρ => do
  if ← tOf a ρ then b ρ else pure (.bool false)
def eOr (a b : ME) : ME := fun ρ => do
  if ← tOf a ρ then pure (.bool true) else b ρ
def eNot (a : ME) : ME := fun ρ => do
  let x ← tOf a ρ
  pure (.bool (!x))
theorem ev_andV {ta tb : TE} {a b : ME} (ha : EvF ta a) (hb : EvF tb b) : EvF (tAndV ta tb) (eAnd a b) := fun F t0 t1 ρ G H σ d e w Q q => by
  obtain ⟨x, t2, e1, e⟩ := bnd_some e
  refine ha F t0 t2 ρ G H σ _ (tOf_some e1) w _ fun v G1 H1 w1 s1 r => ⟨x, Bo.bool (ρ := ρ) (σ := σ) (.inl r), ?_⟩
  cases x with
  | true => exact iteT (hb F t2 t1 ρ G1 H1 σ d e w1 Q fun v G2 H2 w2 s2 r => q v G2 H2 w2 (s1.trans s2) r)
  | false =>
    obtain ⟨rfl, rfl⟩ := pure_some (show (pure (.bool false) : M PyData) t2 = some (d, t1) from e)
    exact iteF (q _ G1 H1 w1 s1 (.bl _))
theorem ev_orV {ta tb : TE} {a b : ME} (ha : EvF ta a) (hb : EvF tb b) : EvF (tOrV ta tb) (eOr a b) := fun F t0 t1 ρ G H σ d e w Q q => by
  obtain ⟨x, t2, e1, e⟩ := bnd_some e
  refine ha F t0 t2 ρ G H σ _ (tOf_some e1) w _ fun v G1 H1 w1 s1 r => ⟨x, Bo.bool (ρ := ρ) (σ := σ) (.inl r), ?_⟩
  cases x with
  | true =>
    obtain ⟨rfl, rfl⟩ := pure_some (show (pure (.bool true) : M PyData) t2 = some (d, t1) from e)
    exact iteT (q _ G1 H1 w1 s1 (.bl _))
  | false => exact iteF (hb F t2 t1 ρ G1 H1 σ d e w1 Q fun v G2 H2 w2 s2 r => q v G2 H2 w2 (s1.trans s2) r)
theorem ev_notV {ta : TE} {a : ME} (ha : EvF ta a) : EvF (tNotV ta) (eNot a) := fun F t0 t1 ρ G H σ d e w Q q => by
  obtain ⟨x, t2, e1, e⟩ := bnd_some e
  obtain ⟨rfl, rfl⟩ := pure_some e
  exact ha F t0 _ ρ G H σ _ (tOf_some e1) w _ fun v G1 H1 w1 s1 r => ⟨x, Bo.bool (ρ := ρ) (σ := σ) (.inl r), q _ G1 H1 w1 s1 (.bl _)⟩
/-- a < b < c -/
def boolOf : Option PyData → Option Bool
  | some (.bool b) => some b
  | _ => none
theorem boolOf_eq {o : Option PyData} {b : Bool} (h : boolOf o = some b) : o = some (.bool b) := by
  unfold boolOf at h
  split at h
  · cases h; rfl
  · cases h
def eChain (g g' : PyData → PyData → Option PyData) (a b c : ME) : ME := fun ρ => do
  let x ← a ρ
  let y ← b ρ
  if ← M.lift (boolOf (g x y)) then do
    let z ← c ρ
    M.lift (g' y z)
  else pure (.bool false)
theorem ev_chain {r r' : R2} {g g' : PyData → PyData → Option PyData} {ta tb tc : TE} {a b c : ME} (hr : Op2 r g) (hr' : Op2 r' g') (ha : EvB ta a) (hb : EvB tb b) (hc : EvB tc c) : EvF (tChain r r' ta tb tc) (eChain g g' a b c) := fun F t0 t1 ρ G H σ d e w Q q => by
  obtain ⟨x, t2, e1, e⟩ := bnd_some e
  obtain ⟨y, t3, e2, e⟩ := bnd_some e
  obtain ⟨k, t4, e3, e⟩ := bnd_some e
  obtain ⟨hg, rfl⟩ := lift_some e3
  have hg := boolOf_eq hg
  refine ha F t0 t2 ρ G H σ x e1 w _ fun v1 G1 H1 w1 s1 r1 => ?_
  refine hb F t2 t3 ρ G1 H1 σ y e2 w1 _ fun v2 G2 H2 w2 s2 r2 => ?_
  cases k with
  | true =>
    obtain ⟨z, t4, e3, e⟩ := bnd_some (show (c ρ >>= fun z => M.lift (g' y z)) t3 = some (d, t1) from e)
    obtain ⟨e4, rfl⟩ := lift_some e
    refine hr F t3 ρ G2 H2 σ v1 v2 x y _ hg w2 (r1.mono s2.gg) r2 _ fun v3 G3 H3 w3 s3 r3 => ⟨true, Bo.bool (ρ := ρ) (σ := σ) (.inl r3), iteT ?_⟩
    refine hc F t3 _ ρ G3 H3 σ z e3 w3 _ fun v4 G4 H4 w4 s4 r4 => ?_
    exact hr' F _ ρ G4 H4 σ v2 v4 y z d e4 w4 ((r2.mono s3.gg).mono s4.gg) r4 Q fun v G5 H5 w5 s5 r5 => q v G5 H5 w5 ((((s1.trans s2).trans s3).trans s4).trans s5) r5
  | false =>
    obtain ⟨rfl, rfl⟩ := pure_some (show (pure (.bool false) : M PyData) t3 = some (d, t1) from e)
    refine hr F t3 ρ G2 H2 σ v1 v2 x y _ hg w2 (r1.mono s2.gg) r2 _ fun v3 G3 H3 w3 s3 r3 => ⟨false, Bo.bool (ρ := ρ) (σ := σ) (.inl r3), iteF ?_⟩
    exact q _ G3 H3 w3 ((s1.trans s2).trans s3) (.bl _)

/-! ### lists of expressions, displays -/
def lNil : ML := fun _ => pure []
def lCons (m : ME) (l : ML) : ML := fun ρ => do
  let d ← m ρ
  let ds ← l ρ
  pure (d :: ds)
theorem ev_lnil : EvL tNil lNil := fun F t0 t1 ρ G H σ ds e w Q q => by
  obtain ⟨rfl, rfl⟩ := pure_some e
  exact q [] G H w Gw.refl .nil
theorem ev_lcons {ta : TE} {tr : TA} {m : ME} {l : ML} (ha : EvF ta m) (hr : EvL tr l) : EvL (tCons ta tr) (lCons m l) := fun F t0 t1 ρ G H σ ds e w Q q => by
  obtain ⟨x, t2, e1, e⟩ := bnd_some e
  obtain ⟨xs, t3, e2, e⟩ := bnd_some e
  obtain ⟨rfl, rfl⟩ := pure_some e
  refine ha F t0 t2 ρ G H σ x e1 w _ fun v G1 H1 w1 s1 r1 => ?_
  exact hr F t2 _ ρ G1 H1 σ xs e2 w1 _ fun vs G2 H2 w2 s2 r2 => q _ G2 H2 w2 (s1.trans s2) (.cons (r1.mono s2.gg) r2)
theorem ev_rnil : EvR tNil lNil := fun F t0 t1 ρ G H σ ds e w Q q => by
  obtain ⟨rfl, rfl⟩ := pure_some e
  exact q [] G H w Gw.refl .nil
theorem ev_rcons {ta : TE} {tr : TA} {m : ME} {l : ML} (ha : EvB ta m) (hr : EvR tr l) : EvR (tCons ta tr) (lCons m l) := fun F t0 t1 ρ G H σ ds e w Q q => by
  obtain ⟨x, t2, e1, e⟩ := bnd_some e
  obtain ⟨xs, t3, e2, e⟩ := bnd_some e
  obtain ⟨rfl, rfl⟩ := pure_some e
  refine ha F t0 t2 ρ G H σ x e1 w _ fun v G1 H1 w1 s1 r1 => ?_
  exact hr F t2 _ ρ G1 H1 σ xs e2 w1 _ fun vs G2 H2 w2 s2 r2 => q _ G2 H2 w2 (s1.trans s2) (.cons (r1.mono s2.gg) r2)
def aNil : MA := fun _ => pure []
def aCons (m : ME) (l : MA) : MA := fun ρ => do
  let d ← m ρ
  let ds ← l ρ
  pure (.fz d :: ds)
def isTp (ρ : List Sl) (i : Nat) : Bool := match ρ[i]? with
  | some .tp => true
  | _ => false
def aTape (i : Nat) (l : MA) : MA := fun ρ => do
  let ds ← l ρ
  if isTp ρ i then pure (.tp :: ds) else M.fail
theorem isTp_eq {ρ : List Sl} {i : Nat} (h : isTp ρ i = true) : ρ[i]? = some .tp := by
  unfold isTp at h
  split at h
  · assumption
  · cases h
theorem ev_anil : EvA tNil aNil := fun F t0 t1 ρ G H σ ds e w Q q => by
  obtain ⟨rfl, rfl⟩ := pure_some e
  exact q [] G H w Gw.refl .nil
theorem ev_acons {ta : TE} {tr : TA} {m : ME} {l : MA} (ha : EvF ta m) (hr : EvA tr l) : EvA (tCons ta tr) (aCons m l) := fun F t0 t1 ρ G H σ ds e w Q q => by
  obtain ⟨x, t2, e1, e⟩ := bnd_some e
  obtain ⟨xs, t3, e2, e⟩ := bnd_some e
  obtain ⟨rfl, rfl⟩ := pure_some e
  refine ha F t0 t2 ρ G H σ x e1 w _ fun v G1 H1 w1 s1 r1 => ?_
  exact hr F t2 _ ρ G1 H1 σ xs e2 w1 _ fun vs G2 H2 w2 s2 r2 => q _ G2 H2 w2 (s1.trans s2) (.cons (r1.mono s2.gg) r2)
theorem ev_atape {i : Nat} {tr : TA} {l : MA} (hr : EvA tr l) : EvA (tCons (tVar i) tr) (aTape i l) := fun F t0 t1 ρ G H σ ds e w Q q => by
  obtain ⟨xs, t3, e2, e⟩ := bnd_some e
  split at e
  · rename_i hi
    obtain ⟨rfl, rfl⟩ := pure_some e
    exact ⟨_, w.tpv (isTp_eq hi), hr F t0 _ ρ G H σ xs e2 w _ fun vs G2 H2 w2 s2 r2 => q _ G2 H2 w2 s2 (.cons rfl r2)⟩
  · exact (fail_some e).elim
def eTup (l : ML) : ME := fun ρ => do
  let ds ← l ρ
  if okLen ds.length then pure (.tuple ds) else M.fail
theorem ev_tup {t : TA} {l : ML} (h : EvL t l) : EvF (tTup t) (eTup l) := fun F t0 t1 ρ G H σ d e w Q q => by
  obtain ⟨ds, t2, e1, e⟩ := bnd_some e
  split at e
  · rename_i hz
    obtain ⟨rfl, rfl⟩ := pure_some e
    refine h F t0 _ ρ G H σ ds e1 w _ fun vs G1 H1 w1 s1 r1 => ⟨by rw [r1.length]; exact okLen_le hz, fun p hp => ?_⟩
    have g0 := sm_none w1.co.sub hp
    exact q _ _ _ (w1.fz hp) (s1.trans (Gw.fz w1 hp)) (.tup upd_same (r1.mono (same_upd g0)))
  · exact (fail_some e).elim
def nLst (l : ML) : ML := fun ρ => do
  let ds ← l ρ
  if okLen ds.length then pure ds else M.fail
theorem ev_lst {t : TA} {l : ML} (h : EvL t l) : EvN (tLst t) (nLst l) := fun F t0 t1 ρ G H σ d e w Q q => by
  obtain ⟨ds, t2, e1, e⟩ := bnd_some e
  split at e
  · rename_i hz
    obtain ⟨rfl, rfl⟩ := pure_some e
    refine h F t0 _ ρ G H σ ds e1 w _ fun vs G1 H1 w1 s1 r1 => ⟨by rw [r1.length]; exact okLen_le hz, fun p hp => ?_⟩
    obtain ⟨w2, o2, n2⟩ := w1.newL hp r1
    exact q p G1 _ w2 (s1.trans (Gw.raw hp)) ⟨o2, n2⟩ (kp_none w s1 hp (w1.co.T_ne hp))
  · exact (fail_some e).elim
/-! ### calls of built-ins -/
def Cal (r : List V → Hp → VK → Prop) (g : List PyData → Option PyData) : Prop := ∀ (F : Fm) (t : Tape) (ρ : List Sl) (G H : Hp) (σ : St) (vs : List V) (ds : List PyData) (c : PyData), g ds = some c → Wd F t ρ G H σ → BoA ρ G σ vs ds →
  ∀ Q : VK, (∀ v G' H', Wd F t ρ G' H' σ → Gw F G H G' H' → Rp G' v c → Q v H') → r vs H Q
def eCal (g : List PyData → Option PyData) (l : ML) : ME := fun ρ => do
  let ds ← l ρ
  M.lift (g ds)
theorem ev_cal {r : List V → Hp → VK → Prop} {g : List PyData → Option PyData} {t : TA} {l : ML} (hr : Cal r g) (hl : EvR t l) : EvF (tCB r t) (eCal g l) := fun F t0 t1 ρ G H σ d e w Q q => by
  obtain ⟨ds, t2, e1, e⟩ := bnd_some e
  obtain ⟨e2, rfl⟩ := lift_some e
  refine hl F t0 _ ρ G H σ ds e1 w _ fun vs G1 H1 w1 s1 r1 => ?_
  exact hr F _ ρ G1 H1 σ vs ds d e2 w1 r1 Q fun v G2 H2 w2 s2 r2 => q v G2 H2 w2 (s1.trans s2) r2
theorem Cal.or {r r' : List V → Hp → VK → Prop} {g g' : List PyData → Option PyData} (h : Cal r g) (h' : Cal r' g') : Cal (fun xs H Q => r xs H Q ∨ r' xs H Q) (fun ds => (g ds).or (g' ds)) := fun F t ρ G H σ vs ds c e w hx Q q => by
  cases e1 : g ds with
  | some z =>
    have e2 : (some z).or (g' ds) = some c := by rw [← e1]; exact e
    cases e2
    exact .inl (h F t ρ G H σ vs ds c e1 w hx Q q)
  | none =>
    have e2 : (none : Option PyData).or (g' ds) = some c := by rw [← e1]; exact e
    exact .inr (h' F t ρ G H σ vs ds c (by simpa using e2) w hx Q q)
def cAbs : List PyData → Option PyData
  | [.int i] => some (.int (if i < 0 then -i else i))
  | _ => none
theorem k_abs : Cal (fun xs H Q => ∃ i, xs = [.int i] ∧ Q (.int (if i < 0 then -i else i)) H) cAbs := fun F t ρ G H σ vs ds c e w hx Q q => by
  unfold cAbs at e
  split at e
  · cases e
    cases hx with
    | cons h r =>
      cases r
      cases h.int
      exact ⟨_, rfl, q _ G H w Gw.refl (.int _)⟩
  · cases e
def cMax : List PyData → Option PyData
  | [.int i, .int j] => some (.int (if j > i then j else i))
  | _ => none
def cMin : List PyData → Option PyData
  | [.int i, .int j] => some (.int (if j < i then j else i))
  | _ => none
theorem k_max2 : Cal (fun xs H Q => ∃ i j, xs = [.int i, .int j] ∧ Q (.int (if j > i then j else i)) H) cMax := fun F t ρ G H σ vs ds c e w hx Q q => by
  unfold cMax at e
  split at e
  · cases e
    cases hx with
    | cons h r =>
      cases r with
      | cons h2 r2 =>
        cases r2
        cases h.int
        cases h2.int
        exact ⟨_, _, rfl, q _ G H w Gw.refl (.int _)⟩
  · cases e
theorem k_min2 : Cal (fun xs H Q => ∃ i j, xs = [.int i, .int j] ∧ Q (.int (if j < i then j else i)) H) cMin := fun F t ρ G H σ vs ds c e w hx Q q => by
  unfold cMin at e
  split at e
  · cases e
    cases hx with
    | cons h r =>
      cases r with
      | cons h2 r2 =>
        cases r2
        cases h.int
        cases h2.int
        exact ⟨_, _, rfl, q _ G H w Gw.refl (.int _)⟩
  · cases e
def cInt : List PyData → Option PyData
  | [.int i] => some (.int i)
  | [.bool b] => some (.int (if b then 1 else 0))
  | _ => none
theorem k_int1 : Cal (fun xs H Q => (∃ i, xs = [.int i] ∧ Q (.int i) H) ∨ ∃ k, xs = [.bl k] ∧ Q (.int (if k then 1 else 0)) H) cInt := fun F t ρ G H σ vs ds c e w hx Q q => by
  unfold cInt at e
  split at e
  · cases e
    cases hx with
    | cons h r =>
      cases r
      cases h.int
      exact .inl ⟨_, rfl, q _ G H w Gw.refl (.int _)⟩
  · cases e
    cases hx with
    | cons h r =>
      cases r
      cases h.bool
      exact .inr ⟨_, rfl, q _ G H w Gw.refl (.int _)⟩
  · cases e
def cLen : List PyData → Option PyData
  | [.list xs] => some (.int xs.length)
  | [.tuple xs] => some (.int xs.length)
  | _ => none
theorem k_len {K : PySem.W.Frag} : Cal (fun xs H Q => ∃ p ys, xs = [.ref p] ∧ (SqL K H p ys ∨ SqT K H p ys) ∧ Q (.int ys.length) H) cLen := fun F t ρ G H σ vs ds c e w hx Q q => by
  unfold cLen at e
  split at e
  · rename_i xs
    cases e
    cases hx with
    | cons h r =>
      cases r
      obtain ⟨p, us, rfl, hp, rp⟩ := h.lst w
      refine ⟨p, us, rfl, .inl (SqL.of hp), ?_⟩
      rw [rp.length]
      exact q _ G H w Gw.refl (.int _)
  · rename_i xs
    cases e
    cases hx with
    | cons h r =>
      cases r
      obtain ⟨p, us, rfl, hp, gp, rp⟩ := h.tup w
      refine ⟨p, us, rfl, .inr (SqT.of hp), ?_⟩
      rw [rp.length]
      exact q _ G H w Gw.refl (.int _)
  · cases e
/-- tuple(x) of a list, of a tuple -/
def cTuple : List PyData → Option PyData
  | [.list xs] => some (.tuple xs)
  | [.tuple xs] => some (.tuple xs)
  | _ => none
theorem k_tuple {K : PySem.W.Frag} : Cal (fun xs H Q => ∃ p ys, xs = [.ref p] ∧ ((SqL K H p ys ∧ ∀ l, H l = none → Q (.ref l) (upd H l (.tup ys))) ∨ (SqT K H p ys ∧ Q (.ref p) H))) cTuple := fun F t ρ G H σ vs ds c e w hx Q q => by
  unfold cTuple at e
  split at e
  · rename_i xs
    cases e
    cases hx with
    | cons h r =>
      cases r
      obtain ⟨p, us, rfl, hp, rp⟩ := h.lst w
      refine ⟨p, us, rfl, .inl ⟨SqL.of hp, fun l hl => ?_⟩⟩
      have g0 := sm_none w.co.sub hl
      exact q _ _ _ (w.fz hl) (Gw.fz w hl) (.tup upd_same (rp.mono (same_upd g0)))
  · rename_i xs
    cases e
    cases hx with
    | cons h r =>
      cases r
      obtain ⟨p, us, rfl, hp, gp, rp⟩ := h.tup w
      exact ⟨p, us, rfl, .inr ⟨SqT.of hp, q _ G H w Gw.refl (.tup gp rp)⟩⟩
  · cases e
/-- list(x): a new list -/
def CalN (r : List V → Hp → VK → Prop) (g : List PyData → Option (List PyData)) : Prop := ∀ (F : Fm) (t : Tape) (ρ : List Sl) (G H : Hp) (σ : St) (vs : List V) (ds c : List PyData), g ds = some c → Wd F t ρ G H σ → BoA ρ G σ vs ds →
  ∀ Q : VK, (∀ p G' H', Wd F t ρ G' H' σ → Gw F G H G' H' → NewL F ρ G' H' σ p c → H p = none → Q (.ref p) H') → r vs H Q
def nCal (g : List PyData → Option (List PyData)) (l : ML) : ML := fun ρ => do
  let ds ← l ρ
  M.lift (g ds)
theorem ev_calN {r : List V → Hp → VK → Prop} {g : List PyData → Option (List PyData)} {t : TA} {l : ML} (hr : CalN r g) (hl : EvR t l) : EvN (tCB r t) (nCal g l) := fun F t0 t1 ρ G H σ d e w Q q => by
  obtain ⟨ds, t2, e1, e⟩ := bnd_some e
  obtain ⟨e2, rfl⟩ := lift_some e
  refine hl F t0 _ ρ G H σ ds e1 w _ fun vs G1 H1 w1 s1 r1 => ?_
  exact hr F _ ρ G1 H1 σ vs ds d e2 w1 r1 Q fun v G2 H2 w2 s2 r2 hp => q v G2 H2 w2 (s1.trans s2) r2 (kp_none w s1 hp (w1.co.T_ne hp))
def cList : List PyData → Option (List PyData)
  | [.list xs] => some xs
  | [.tuple xs] => some xs
  | _ => none
theorem k_list {K : PySem.W.Frag} : CalN (fun xs H Q => ∃ p ys, xs = [.ref p] ∧ (SqL K H p ys ∨ SqT K H p ys) ∧ ∀ l, H l = none → Q (.ref l) (upd H l (.lst ys))) cList := fun F t ρ G H σ vs ds c e w hx Q q => by
  unfold cList at e
  split at e
  · rename_i xs
    cases e
    cases hx with
    | cons h r =>
      cases r
      obtain ⟨p, us, rfl, hp, rp⟩ := h.lst w
      refine ⟨p, us, rfl, .inl (SqL.of hp), fun l hl => ?_⟩
      obtain ⟨w2, o2, n2⟩ := w.newL hl rp
      exact q l G _ w2 (Gw.raw hl) ⟨o2, n2⟩ hl
  · rename_i xs
    cases e
    cases hx with
    | cons h r =>
      cases r
      obtain ⟨p, us, rfl, hp, gp, rp⟩ := h.tup w
      refine ⟨p, us, rfl, .inr (SqT.of hp), fun l hl => ?_⟩
      obtain ⟨w2, o2, n2⟩ := w.newL hl rp
      exact q l G _ w2 (Gw.raw hl) ⟨o2, n2⟩ hl
  · cases e
end DL

set_option maxHeartbeats 1000000
/-! The data layer, part C: targets, what is walked, comprehensions, statements. -/
namespace DL
open PySem L2

/-! ### targets -/
abbrev MG := PyData → List Sl → Option (List Sl)
abbrev MGs := List PyData → List Sl → Option (List Sl)
def Only (is : List Nat) (σ σ' : St) : Prop := ∀ vs : List Nat, (∀ i ∈ is, i ∈ vs) → wipe σ' vs = wipe σ vs
def EvG (g : TG) (mg : MG) (is : List Nat) : Prop := ∀ (F : Fm) (t : Tape) (ρ ρ' : List Sl) (G H : Hp) (σ : St) (v : V) (d : PyData), mg d ρ = some ρ' → Wd F t ρ G H σ → Rp G v d →
  ∀ Q : St → Hp → Prop, (∀ σ', Wd F t ρ' G H σ' → Only is σ σ' → Q σ' H) → g v σ H Q
def EvGs (g : TGs) (mg : MGs) (is : List Nat) : Prop := ∀ (F : Fm) (t : Tape) (ρ ρ' : List Sl) (G H : Hp) (σ : St) (vs : List V) (ds : List PyData), mg ds ρ = some ρ' → Wd F t ρ G H σ → RpA G vs ds →
  ∀ Q : St → Hp → Prop, (∀ σ', Wd F t ρ' G H σ' → Only is σ σ' → Q σ' H) → g vs σ H Q
theorem set_set_comm {α : Type} : ∀ (l : List α) (i j : Nat) (a b : α), i ≠ j → (l.set i a).set j b = (l.set j b).set i a := fun l i j a b h => List.set_comm a b h
theorem wipe_set_ne {σ : St} {i : Nat} {v : Option V} : ∀ (vs : List Nat), i ∉ vs → wipe (σ.set i v) vs = (wipe σ vs).set i v
  | [], _ => rfl
  | k :: vs, h => by
    have h1 : i ≠ k := fun e => h (by simp [e])
    have h2 : i ∉ vs := fun e => h (List.mem_cons_of_mem _ e)
    show (wipe (σ.set i v) vs).set k none = ((wipe σ vs).set k none).set i v
    rw [wipe_set_ne vs h2, set_set_comm _ _ _ _ _ h1]
theorem wipe_set_in {σ : St} {i : Nat} {v : Option V} : ∀ (vs : List Nat), i ∈ vs → wipe (σ.set i v) vs = wipe σ vs
  | [], h => by simp at h
  | k :: vs, h => by
    show (wipe (σ.set i v) vs).set k none = (wipe σ vs).set k none
    by_cases h2 : i ∈ vs
    · rw [wipe_set_in vs h2]
    · have e : i = k := by
        rcases List.mem_cons.mp h with e | e
        · exact e
        · exact absurd e h2
      subst e
      rw [wipe_set_ne vs h2, List.set_set]
theorem only_set {σ : St} {i : Nat} {v : Option V} : Only [i] σ (σ.set i v) := fun vs h => wipe_set_in vs (h i (by simp))
theorem Only.refl (σ : St) : Only [] σ σ := fun _ _ => rfl
theorem Only.trans {is js : List Nat} {σ σ1 σ2 : St} (a : Only is σ σ1) (b : Only js σ1 σ2) : Only (is ++ js) σ σ2 := fun vs h =>
  (b vs fun i hi => h i (List.mem_append_right _ hi)).trans (a vs fun i hi => h i (List.mem_append_left _ hi))
def mName (i : Nat) : MG := fun d ρ => some (ρ.set i (.fz d))
theorem ev_gname (i : Nat) : EvG (gName i) (mName i) [i] := fun F t ρ ρ' G H σ v d e w r Q q => by
  cases e
  exact q _ (w.setF r) only_set
def mgNil : MGs := fun ds ρ => match ds with
  | [] => some ρ
  | _ => none
def mgCons (a : MG) (r : MGs) : MGs := fun ds ρ => match ds with
  | d :: l => (a d ρ).bind (r l)
  | [] => none
theorem ev_gnil : EvGs gNil mgNil [] := fun F t ρ ρ' G H σ vs ds e w r Q q => by
  unfold mgNil at e
  split at e
  · cases e
    cases r
    exact ⟨rfl, q σ w (Only.refl σ)⟩
  · cases e
theorem ev_gcons {g : TG} {gs : TGs} {a : MG} {r : MGs} {is js : List Nat} (h1 : EvG g a is) (h2 : EvGs gs r js) : EvGs (gCons g gs) (mgCons a r) (is ++ js) := fun F t ρ ρ' G H σ vs ds e w rp Q q => by
  unfold mgCons at e
  split at e
  · cases rp with
    | cons hv rv =>
      rename_i d l v vs'
      cases e1 : a d ρ with
      | none => rw [e1] at e; cases e
      | some ρ1 =>
        rw [e1] at e
        exact ⟨_, _, rfl, h1 F t ρ ρ1 G H σ _ _ e1 w hv _ fun σ1 w1 o1 => h2 F t ρ1 ρ' G H σ1 _ _ e w1 rv Q fun σ2 w2 o2 => q σ2 w2 (o1.trans o2)⟩
  · cases e
def seqOf : PyData → Option (List PyData)
  | .list ds => some ds
  | .tuple ds => some ds
  | _ => none
/-- a, b, .. = a tuple or a list -/
def gSeq (K : PySem.W.Frag) (n : Nat) (t : TGs) : TG := fun v σ H Q => gTup K n t v σ H Q ∨ gUnl K n t v σ H Q
def mSeq (n : Nat) (m : MGs) : MG := fun d ρ => (seqOf d).bind fun ds => if ds.length = n then m ds ρ else none
theorem ev_gseq {K : PySem.W.Frag} {n : Nat} {t : TGs} {m : MGs} {is : List Nat} (h : EvGs t m is) : EvG (gSeq K n t) (mSeq n m) is := fun F tp ρ ρ' G H σ v d e w r Q q => by
  unfold mSeq at e
  cases r with
  | lst hp rp =>
    rename_i a xs ds
    have e : (if ds.length = n then m ds ρ else none) = some ρ' := e
    split at e
    · rename_i hn
      exact .inr ⟨a, xs, rfl, SqL.of (w.co.sub _ _ hp), by rw [rp.length]; exact hn, h F tp ρ ρ' G H σ xs ds e w rp Q q⟩
    · cases e
  | tup hp rp =>
    rename_i a xs ds
    have e : (if ds.length = n then m ds ρ else none) = some ρ' := e
    split at e
    · rename_i hn
      exact .inl ⟨a, xs, rfl, SqT.of (w.co.sub _ _ hp), by rw [rp.length]; exact hn, h F tp ρ ρ' G H σ xs ds e w rp Q q⟩
    · cases e
  | _ => cases e
theorem pg_seq {X : Cx} {es : List Expr} {k : Nat} {t : TGs} {n : Nat} {pos : Pos} (hc : X.calm = true) (h : PGs X es t) (hn : (assignEach es X.env).length = n := by rfl) (hst : (assignEach es X.env).findIdx? (·.1) = none := by rfl) :
    PG X (.Tuple es k pos) (gSeq X.K n t) := ⟨fun pins s σ H v u Q I r hw => hw.elim ((pg_tup hc h hn hst).run pins s σ H v u Q I r) ((pg_unl hc h hn hst).run pins s σ H v u Q I r)⟩

/-! ### what is walked -/
structure ItOk (J : It) (ds : List PyData) (G : Hp) : Prop where
  go : ∀ (F : Fm) (t : Tape) (ρ : List Sl) (G1 H1 : Hp) (σ : St), Same G G1 → Wd F t ρ G1 H1 σ → ∀ (i : Nat) d, ds[i]? = some d → J.go i H1
  yld : ∀ (F : Fm) (t : Tape) (ρ : List Sl) (G1 H1 : Hp) (σ : St), Same G G1 → Wd F t ρ G1 H1 σ → ∀ (i : Nat) d, ds[i]? = some d → ∀ x H2, J.yld i H1 x H2 → ∃ G2, Gw F G1 H1 G2 H2 ∧ Wd F t ρ G2 H2 σ ∧ Rp G2 x d ∧ ∀ b o, H1 b = some o → H2 b = some o
  stop : ∀ (F : Fm) (t : Tape) (ρ : List Sl) (G1 H1 : Hp) (σ : St), Same G G1 → Wd F t ρ G1 H1 σ → ∀ (i : Nat), ds.length ≤ i → J.stop i H1
def EvI (wi : TI) (m : ML) : Prop := ∀ (F : Fm) (t0 t1 : Tape) (ρ : List Sl) (G H : Hp) (σ : St) (ds : List PyData), m ρ t0 = some (ds, t1) → Wd F t0 ρ G H σ →
  ∀ R : It → Hp → Prop, (∀ J G' H', Wd F t1 ρ G' H' σ → Gw F G H G' H' → ItOk J ds G' → R J H') → wi σ H R
def iSeq (K : PySem.W.Frag) (tl : TE) : TI := fun σ H R => iList K tl σ H R ∨ iTup K tl σ H R
def lSeq (m : ME) : ML := fun ρ => do
  let d ← m ρ
  M.lift (seqOf d)
theorem it_lst {K : PySem.W.Frag} {a : Addr} {vs : List V} {ds : List PyData} {G : Hp} (h : G a = some (.lst vs)) (r : RpA G vs ds) : ItOk (Itl K a) ds G where
  go := fun F t ρ G1 H1 σ s w i d e => by
    obtain ⟨v, hv, _⟩ := r.get e
    exact ⟨vs, v, SqL.of (w.co.sub _ _ (s _ _ h)), hv⟩
  yld := fun F t ρ G1 H1 σ s w i d e x H2 y => by
    obtain ⟨rfl, y⟩ := y
    have hx := y vs (SqL.of (w.co.sub _ _ (s _ _ h)))
    obtain ⟨d', e', rd⟩ := r.get' hx
    rw [e] at e'
    cases e'
    exact ⟨G1, Gw.refl, w, rd.mono s, fun _ _ q => q⟩
  stop := fun F t ρ G1 H1 σ s w i e => ⟨vs, SqL.of (w.co.sub _ _ (s _ _ h)), by rw [r.length]; exact e⟩
theorem it_tup {K : PySem.W.Frag} {a : Addr} {vs : List V} {ds : List PyData} {G : Hp} (h : G a = some (.tup vs)) (r : RpA G vs ds) : ItOk (Itt K a) ds G where
  go := fun F t ρ G1 H1 σ s w i d e => by
    obtain ⟨v, hv, _⟩ := r.get e
    exact ⟨vs, v, SqT.of (w.co.sub _ _ (s _ _ h)), hv⟩
  yld := fun F t ρ G1 H1 σ s w i d e x H2 y => by
    obtain ⟨rfl, y⟩ := y
    have hx := y vs (SqT.of (w.co.sub _ _ (s _ _ h)))
    obtain ⟨d', e', rd⟩ := r.get' hx
    rw [e] at e'
    cases e'
    exact ⟨G1, Gw.refl, w, rd.mono s, fun _ _ q => q⟩
  stop := fun F t ρ G1 H1 σ s w i e => ⟨vs, SqT.of (w.co.sub _ _ (s _ _ h)), by rw [r.length]; exact e⟩
/-- lo, lo + 1, .. -/
def rgD (lo : Int) : Nat → List PyData
  | 0 => []
  | n + 1 => .int lo :: rgD (lo + 1) n
theorem rgD_len : ∀ (lo : Int) (n : Nat), (rgD lo n).length = n
  | _, 0 => rfl
  | lo, n + 1 => congrArg (· + 1) (rgD_len (lo + 1) n)
theorem rgD_get : ∀ (lo : Int) (n i : Nat) {d : PyData}, (rgD lo n)[i]? = some d → i < n ∧ d = .int (lo + i)
  | _, 0, _, _, h => by cases h
  | lo, n + 1, 0, d, h => by
    have e : some (PyData.int lo) = some d := h
    cases e
    exact ⟨Nat.succ_pos _, by congr 1; omega⟩
  | lo, n + 1, i + 1, d, h => by
    obtain ⟨h1, h2⟩ := rgD_get (lo + 1) n i (d := d) h
    exact ⟨Nat.succ_lt_succ h1, by rw [h2]; congr 1; omega⟩
theorem it_rg {lo : Int} {n : Nat} {G : Hp} : ItOk (Itr lo n) (rgD lo n) G where
  go := fun F t ρ G1 H1 σ s w i d e => (rgD_get lo n i e).1
  yld := fun F t ρ G1 H1 σ s w i d e x H2 y => by
    obtain ⟨rfl, rfl⟩ := y
    obtain ⟨_, rfl⟩ := rgD_get lo n i e
    exact ⟨G1, Gw.refl, w, .int _, fun _ _ q => q⟩
  stop := fun F t ρ G1 H1 σ s w i e => by
    rw [rgD_len] at e
    exact e
theorem ev_iseq {K : PySem.W.Frag} {tl : TE} {m : ME} (h : EvF tl m) : EvI (iSeq K tl) (lSeq m) := fun F t0 t1 ρ G H σ ds e w R q => by
  obtain ⟨d, t2, e1, e⟩ := bnd_some e
  obtain ⟨e2, rfl⟩ := lift_some e
  cases d with
  | list xs =>
    cases e2
    refine .inl (h F t0 _ ρ G H σ _ e1 w _ fun v G' H' w' s r => ?_)
    cases r with
    | lst hp rp => exact ⟨_, rfl, ⟨_, SqL.of (w'.co.sub _ _ hp)⟩, q _ G' H' w' s (it_lst hp rp)⟩
  | tuple xs =>
    cases e2
    refine .inr (h F t0 _ ρ G H σ _ e1 w _ fun v G' H' w' s r => ?_)
    cases r with
    | tup hp rp => exact ⟨_, rfl, ⟨_, SqT.of (w'.co.sub _ _ hp)⟩, q _ G' H' w' s (it_tup hp rp)⟩
  | _ => cases e2
def okRg (i : Int) : Bool := decide (-(2 ^ 62) ≤ i) && decide (i < 2 ^ 62)
theorem okRg_eq {i : Int} (h : okRg i = true) : -(2 ^ 62) ≤ i ∧ i < 2 ^ 62 := by
  unfold okRg at h
  rw [Bool.and_eq_true] at h
  exact ⟨of_decide_eq_true h.1, of_decide_eq_true h.2⟩
def rng1 : List PyData → Option (List PyData)
  | [.int j] => if okRg j then some (rgD 0 j.toNat) else none
  | _ => none
def rng2 : List PyData → Option (List PyData)
  | [.int i, .int j] => if okRg i && okRg j then some (rgD i (j - i).toNat) else none
  | _ => none
theorem ev_irg1 {ta : TA} {l : ML} (h : EvR ta l) : EvI (iRng1 ta) (nCal rng1 l) := fun F t0 t1 ρ G H σ ds e w R q => by
  obtain ⟨d, t2, e1, e⟩ := bnd_some e
  obtain ⟨e2, rfl⟩ := lift_some e
  refine h F t0 _ ρ G H σ d e1 w _ fun vs G1 H1 w1 s1 r1 => ?_
  unfold rng1 at e2
  split at e2
  · rename_i j
    split at e2
    · rename_i hj
      cases e2
      cases r1 with
      | cons hv r =>
        cases r
        cases hv.int
        obtain ⟨h1, h2⟩ := okRg_eq hj
        exact ⟨j, rfl, h1, h2, q _ G1 H1 w1 s1 it_rg⟩
    · cases e2
  · cases e2
theorem ev_irg2 {ta : TA} {l : ML} (h : EvR ta l) : EvI (iRng2 ta) (nCal rng2 l) := fun F t0 t1 ρ G H σ ds e w R q => by
  obtain ⟨d, t2, e1, e⟩ := bnd_some e
  obtain ⟨e2, rfl⟩ := lift_some e
  refine h F t0 _ ρ G H σ d e1 w _ fun vs G1 H1 w1 s1 r1 => ?_
  unfold rng2 at e2
  split at e2
  · rename_i i j
    split at e2
    · rename_i hj
      rw [Bool.and_eq_true] at hj
      cases e2
      cases r1 with
      | cons hv r =>
        cases r with
        | cons hv2 r2 =>
          cases r2
          cases hv.int
          cases hv2.int
          obtain ⟨h1, h2⟩ := okRg_eq hj.1
          obtain ⟨h3, h4⟩ := okRg_eq hj.2
          exact ⟨i, j, rfl, ⟨h1, h2, h3, h4⟩, q _ G1 H1 w1 s1 it_rg⟩
    · cases e2
  · cases e2
theorem pi_seq {X : Cx} {tg l : Expr} {tl : TE} (hl : PE X l tl) : PI X tg l (iSeq X.K tl) :=
  ⟨fun pins s σ H R I hw => hw.elim ((pi_list hl).run pins s σ H R I) ((pi_tup hl).run pins s σ H R I)⟩

/-! ### comprehensions -/
theorem wipe_wipe (σ : St) : ∀ vs : List Nat, wipe (wipe σ vs) vs = wipe σ vs := fun vs => by
  have key : ∀ (us : List Nat), (∀ i ∈ us, i ∈ vs) → wipe (wipe σ us) vs = wipe σ vs := by
    intro us
    induction us with
    | nil => intro _; rfl
    | cons k us ih =>
      intro h
      show wipe ((wipe σ us).set k none) vs = wipe σ vs
      rw [wipe_set_in vs (h k (by simp)), ih fun i hi => h i (List.mem_cons_of_mem _ hi)]
  exact key vs fun i hi => hi
/-- a list that no slot has is changed in place -/
theorem Wd.mutD {F : Fm} {t : Tape} {ρ : List Sl} {G H : Hp} {σ : St} {D : Addr} {acc us : List V} (w : Wd F t ρ G H σ) (hD : H D = some (.lst acc)) (g0 : G D = none) (h0 : F.H0 D = none) (nT : D ≠ F.T)
    (hn : ∀ (j : Nat) ys, ρ[j]? = some (.ow ys) → σ[j]? ≠ some (some (.ref D))) : Wd F t ρ G (upd H D (.lst us)) σ := by
  have keep : ∀ b o, b ≠ D → H b = some o → upd H D (.lst us) b = some o := fun b o n e => by rw [upd_ne n]; exact e
  obtain ⟨c, c1, c2⟩ := w.co.tape
  have co : Co F t G (upd H D (.lst us)) :=
    ⟨fun b o e => keep b o (fun z => by rw [z, g0] at e; cases e) (w.co.sub b o e), w.co.gT, ⟨c, c1, keep _ _ nT.symm c2⟩, fun b o e n => keep b o (fun z => by rw [z, h0] at e; cases e) (w.co.fr b o e n), w.co.gn⟩
  refine ⟨co, w.len, fun j s v h1 h2 => ?_, w.ap⟩
  have q := w.sl j s v h1 h2
  cases s with
  | un => trivial
  | fz d => exact q
  | ow zs =>
    obtain ⟨b, e, ws, g1, hb, rb, hb0, nb⟩ := q
    exact ⟨b, e, ws, g1, keep b _ (fun z => hn j zs h1 (by rw [h2, e, z])) hb, rb, hb0, nb⟩
  | tp => exact q
def unAll (ρ : List Sl) : List Nat → List Sl
  | [] => ρ
  | v :: vs => (unAll ρ vs).set v .un
theorem Wd.unAll {F : Fm} {t : Tape} {ρ : List Sl} {G H : Hp} {σ : St} (w : Wd F t ρ G H σ) : ∀ vs : List Nat, Wd F t (unAll ρ vs) G H (wipe σ vs)
  | [] => w
  | v :: vs => (Wd.unAll w vs).set trivial fun _ e => by cases e
def compGo (mg : MG) (mt : MB) (me : ME) (ρ : List Sl) : List PyData → M (List PyData)
  | [] => pure []
  | d :: r => do
    let ρ' ← M.lift (mg d ρ)
    if ← mt ρ' then do
      let y ← me ρ'
      let ys ← compGo mg mt me ρ r
      pure (y :: ys)
    else compGo mg mt me ρ r
def nComp (mi : ML) (mg : MG) (vs : List Nat) (mt : MB) (me : ME) : ML := fun ρ => do
  let ds ← mi ρ
  if okLen ds.length then compGo mg mt me (unAll ρ vs) ds else M.fail
def bYes : MB := fun _ => pure true
theorem ev_yes : EvT tYes bYes := fun F t0 t1 ρ G H σ b e w Q q => by
  obtain ⟨rfl, rfl⟩ := pure_some e
  exact q G H w Gw.refl
theorem ev_comp {wi : TI} {g : TG} {tt : TT} {te : TE} {vs : List Nat} {mi : ML} {mg : MG} {mt : MB} {me : ME} (hi : EvI wi mi) (hg : EvG g mg vs) (ht : EvT tt mt) (he : EvF te me) : EvN (tLc wi g tt te vs) (nComp mi mg vs mt me) := fun F t0 t1 ρ G H σ xs e w Q q => by
  obtain ⟨ds, t2, e1, e⟩ := bnd_some e
  split at e
  rotate_left
  · exact (fail_some e).elim
  rename_i hz
  refine hi F t0 t2 ρ G H σ ds e1 w _ fun J G1 H1 w1 s1 ok => ?_
  intro D hD
  have nT : D ≠ F.T := w1.co.T_ne hD
  have wD : Wd F t2 ρ G1 (upd H1 D (.lst [])) σ := w1.raw hD
  refine ⟨fun i m Hi => ∃ (τ : Tape) (don rest : List PyData) (Gi : Hp) (acc : List V), i ≤ ds.length ∧ m = ds.length - i ∧ compGo mg mt me (unAll ρ vs) (ds.drop i) τ = some (rest, t1) ∧ don ++ rest = xs ∧
      Wd F τ (unAll ρ vs) Gi Hi (wipe σ vs) ∧ (∀ b o, H1 b = some o → b ≠ F.T → Hi b = some o) ∧ Same G1 Gi ∧ (∀ b o, b ≠ F.T → Gi b = some o → G1 b = some o ∨ (H1 b = none ∧ b ≠ D)) ∧ Hi D = some (.lst acc) ∧ RpA Gi acc don ∧ don.length ≤ i,
    ⟨ds.length, t2, [], xs, G1, [], Nat.zero_le _, by omega, e, rfl, wD.unAll vs, fun b o eb _ => same_upd hD b o eb, Same.refl G1, fun b o _ eb => .inl eb, upd_same, .nil, Nat.le_refl _⟩, ?_⟩
  rintro i m Hi ⟨τ, don, rest, Gi, acc, hil, rfl, ec, ex, wi', kp, gg, gn, hacc, rp, hdl⟩
  have giD : Gi D = none := by
    cases z : Gi D with
    | none => rfl
    | some o =>
      rcases gn D o nT z with y | ⟨_, y⟩
      · rw [sm_none w1.co.sub hD] at y; cases y
      · exact absurd rfl y
  by_cases hlt : i < ds.length
  · have hget : ds[i]? = some ds[i] := List.getElem?_eq_getElem hlt
    rw [List.drop_eq_getElem_cons hlt] at ec
    obtain ⟨ρ', τ1, e2, ec⟩ := bnd_some ec
    obtain ⟨e2', rfl⟩ := lift_some e2
    obtain ⟨b, τ2, e3, ec⟩ := bnd_some ec
    refine .inr ⟨ok.go F _ _ Gi Hi _ gg wi' i _ hget, fun H' => ∃ (τ : Tape) (don rest : List PyData) (Gi : Hp) (acc : List V), compGo mg mt me (unAll ρ vs) (ds.drop (i + 1)) τ = some (rest, t1) ∧ don ++ rest = xs ∧
        Wd F τ (unAll ρ vs) Gi H' (wipe σ vs) ∧ (∀ b o, H1 b = some o → b ≠ F.T → H' b = some o) ∧ Same G1 Gi ∧ (∀ b o, b ≠ F.T → Gi b = some o → G1 b = some o ∨ (H1 b = none ∧ b ≠ D)) ∧ H' D = some (.lst acc) ∧ RpA Gi acc don ∧ don.length ≤ i + 1, ?_, ?_⟩
    · rintro H' ⟨τ', don', rest', G', acc', a1, a2, a3, a4, a5, a6, a7, a8, a9⟩
      exact ⟨ds.length - (i + 1), by omega, τ', don', rest', G', acc', hlt, rfl, a1, a2, a3, a4, a5, a6, a7, a8, a9⟩
    · intro x H' hy
      obtain ⟨G2, g2, w2, rx, kp2⟩ := ok.yld F _ _ Gi Hi _ gg wi' i _ hget x H' hy
      refine hg F _ _ ρ' G2 H' _ x _ e2' w2 rx _ fun σ3 w3 o3 => ⟨?_, ?_⟩
      · have z := o3 vs fun i hi => hi
        rw [z, wipe_wipe]
      refine ht F _ τ2 ρ' G2 H' σ3 b e3 w3 _ fun G4 H4 w4 s4 => ?_
      have g24 := g2.trans s4
      have gn' : ∀ {Gx Hx : Hp}, Gw F Gi Hi Gx Hx → ∀ c o, c ≠ F.T → Gx c = some o → G1 c = some o ∨ (H1 c = none ∧ c ≠ D) := fun {Gx Hx} gx c o nc ec' => by
        rcases gx.gn c o nc ec' with z | z
        · exact gn c o nc z
        · refine .inr ⟨?_, fun z2 => by rw [z2, hacc] at z; cases z⟩
          cases q1 : H1 c with
          | none => rfl
          | some u =>
            have := kp c u q1 nc
            rw [z] at this
            cases this
      cases b with
      | true =>
        obtain ⟨y, τ3, e4, ec⟩ := bnd_some (show (me ρ' >>= fun y => compGo mg mt me (unAll ρ vs) (List.drop (i + 1) ds) >>= fun ys => pure (y :: ys)) τ2 = some (rest, t1) from ec)
        obtain ⟨ys, τ4, e5, ec⟩ := bnd_some ec
        obtain ⟨rfl, rfl⟩ := pure_some ec
        refine iteT (he F τ2 τ3 ρ' G4 H4 σ3 y e4 w4 _ fun v G5 H5 w5 s5 r5 => ?_)
        have g25 := g24.trans s5
        have hD5 : H5 D = some (.lst acc) := g25.kp D _ hacc nT
        have g5D : G5 D = none := by
          cases z : G5 D with
          | none => rfl
          | some o =>
            rcases g25.gn D o nT z with y | y
            · rw [giD] at y; cases y
            · rw [hacc] at y; cases y
        refine ⟨acc, hD5, by rw [rp.length]; exact okLen_lt (n := don.length) (decide_eq_true (Nat.le_trans (Nat.le_trans hdl hil) (of_decide_eq_true hz))), ?_⟩
        have wb : Wd F τ3 (unAll ρ vs) G5 H5 (wipe σ vs) := wi'.gw w5.co g25
        refine ⟨τ3, don ++ [y], ys, G5, acc ++ [v], e5, by rw [← ex, List.append_assoc]; rfl, ?_, fun c o ec' nc => ?_, gg.trans g25.gg, gn' g25, upd_same, (rp.mono g25.gg).snoc r5, by rw [List.length_append]; exact Nat.succ_le_succ hdl⟩
        · refine wb.mutD hD5 g5D ?_ nT fun j ys' hj ej => ?_
          · exact w1.co.H0_none hD
          · obtain ⟨p, ep, ws, _, hp, _⟩ := (w1.unAll vs).ow hj
            rw [ej] at ep
            cases ep
            rw [hD] at hp
            cases hp
        · rw [upd_ne fun z => by rw [z, hD] at ec'; cases ec']
          exact g25.kp c o (kp c o ec' nc) nc
      | false =>
        have ec : compGo mg mt me (unAll ρ vs) (List.drop (i + 1) ds) τ2 = some (rest, t1) := ec
        refine iteF ⟨τ2, don, rest, G4, acc, ec, ex, wi'.gw w4.co g24, fun c o ec' nc => g24.kp c o (kp c o ec' nc) nc, gg.trans g24.gg, gn' g24, g24.kp D _ hacc nT, rp.mono g24.gg, Nat.le_succ_of_le hdl⟩
  · have ei : i = ds.length := by omega
    subst ei
    rw [List.drop_length] at ec
    obtain ⟨rfl, rfl⟩ := pure_some ec
    rw [List.append_nil] at ex
    subst ex
    have gw : Gw F G1 H1 Gi Hi := ⟨gg, kp, fun c o nc z => (gn c o nc z).elim .inl fun y => .inr y.1⟩
    refine .inl ⟨ok.stop F _ _ Gi Hi _ gg wi' _ (Nat.le_refl _), q D Gi Hi (w1.gw wi'.co gw) (s1.trans gw) ⟨⟨acc, giD, hacc, rp, w1.co.H0_none hD, nT⟩, fun j ys hj ej => ?_⟩ (kp_none w s1 hD nT)⟩
    obtain ⟨p, ep, ws, _, hp, _⟩ := w1.ow hj
    rw [ej] at ep
    cases ep
    rw [hD] at hp
    cases hp
end DL

set_option maxHeartbeats 1000000
/-! The data layer, part D: statements. -/
namespace DL
open PySem L2

inductive Out where
  | nx (ρ : List Sl)
  | bk (ρ : List Sl)
  | ct (ρ : List Sl)
  | rt (d : PyData)
abbrev MS := List Sl → M Out
def Post (F : Fm) (t1 : Tape) (G : Hp) (D : Ends) : Out → Prop
  | .nx ρ => ∀ σ G' H', Wd F t1 ρ G' H' σ → Same G G' → D.nx σ H'
  | .bk ρ => ∀ σ G' H', Wd F t1 ρ G' H' σ → Same G G' → D.bk σ H'
  | .ct ρ => ∀ σ G' H', Wd F t1 ρ G' H' σ → Same G G' → D.ct σ H'
  | .rt d => ∀ v G' H', Co F t1 G' H' → Same G G' → Rp G' v d → D.rt v H'
def EvS (t : TS) (m : MS) : Prop := ∀ (F : Fm) (t0 t1 : Tape) (ρ : List Sl) (G H : Hp) (σ : St) (o : Out), m ρ t0 = some (o, t1) → Wd F t0 ρ G H σ → ∀ D : Ends, Post F t1 G D o → t D σ H
theorem Post.mono {F : Fm} {t1 : Tape} {G G' : Hp} {D : Ends} {o : Out} (s : Same G G') (h : Post F t1 G D o) : Post F t1 G' D o := by
  cases o with
  | nx ρ => exact fun σ G2 H2 w e => h σ G2 H2 w (s.trans e)
  | bk ρ => exact fun σ G2 H2 w e => h σ G2 H2 w (s.trans e)
  | ct ρ => exact fun σ G2 H2 w e => h σ G2 H2 w (s.trans e)
  | rt d => exact fun v G2 H2 w e => h v G2 H2 w (s.trans e)

def sNext : MS := fun ρ => pure (.nx ρ)
theorem ev_next : EvS tNext sNext := fun F t0 t1 ρ G H σ o e w D p => by
  obtain ⟨rfl, rfl⟩ := pure_some e
  exact p σ G H w (Same.refl G)
def sBreak : MS := fun ρ => pure (.bk ρ)
theorem ev_break : EvS tBreak sBreak := fun F t0 t1 ρ G H σ o e w D p => by
  obtain ⟨rfl, rfl⟩ := pure_some e
  exact p σ G H w (Same.refl G)
def sCont : MS := fun ρ => pure (.ct ρ)
theorem ev_cont : EvS tCont sCont := fun F t0 t1 ρ G H σ o e w D p => by
  obtain ⟨rfl, rfl⟩ := pure_some e
  exact p σ G H w (Same.refl G)
def andThen (b : MS) : Out → M Out
  | .nx ρ => b ρ
  | o => pure o
def sSeq (a b : MS) : MS := fun ρ => do
  let o ← a ρ
  andThen b o
theorem ev_seq {t u : TS} {a b : MS} (ha : EvS t a) (hb : EvS u b) : EvS (tSeq t u) (sSeq a b) := fun F t0 t1 ρ G H σ o e w D p => by
  obtain ⟨x, t2, e1, e⟩ := bnd_some e
  refine ha F t0 t2 ρ G H σ x e1 w _ ?_
  cases x with
  | nx ρ' => exact fun σ' G' H' w' s => hb F t2 t1 ρ' G' H' σ' o e w' D (p.mono s)
  | bk ρ' =>
    obtain ⟨rfl, rfl⟩ := pure_some e
    exact p
  | ct ρ' =>
    obtain ⟨rfl, rfl⟩ := pure_some e
    exact p
  | rt d =>
    obtain ⟨rfl, rfl⟩ := pure_some e
    exact p
def sDrop (m : ME) : MS := fun ρ => do
  let _ ← m ρ
  pure (.nx ρ)
theorem ev_drop {te : TE} {m : ME} (h : EvF te m) : EvS (tDrop te) (sDrop m) := fun F t0 t1 ρ G H σ o e w D p => by
  obtain ⟨x, t2, e1, e⟩ := bnd_some e
  obtain ⟨rfl, rfl⟩ := pure_some e
  exact h F t0 _ ρ G H σ x e1 w _ fun v G' H' w' s r => p σ G' H' w' s.gg
def sRet (m : ME) : MS := fun ρ => do
  let d ← m ρ
  pure (.rt d)
theorem ev_ret {te : TE} {m : ME} (h : EvF te m) : EvS (tRet te) (sRet m) := fun F t0 t1 ρ G H σ o e w D p => by
  obtain ⟨x, t2, e1, e⟩ := bnd_some e
  obtain ⟨rfl, rfl⟩ := pure_some e
  exact h F t0 _ ρ G H σ x e1 w _ fun v G' H' w' s r => p v G' H' w'.co s.gg r
def sIf (c : MB) (a b : MS) : MS := fun ρ => do
  if ← c ρ then a ρ else b ρ
theorem ev_ifS {c : TT} {t u : TS} {mc : MB} {a b : MS} (hc : EvT c mc) (ha : EvS t a) (hb : EvS u b) : EvS (tIfS c t u) (sIf mc a b) := fun F t0 t1 ρ G H σ o e w D p => by
  obtain ⟨x, t2, e1, e⟩ := bnd_some e
  refine hc F t0 t2 ρ G H σ x e1 w _ fun G1 H1 w1 s1 => ?_
  cases x with
  | true => exact iteT (ha F t2 t1 ρ G1 H1 σ o e w1 D (p.mono s1.gg))
  | false => exact iteF (hb F t2 t1 ρ G1 H1 σ o e w1 D (p.mono s1.gg))
/-- x = e, a, b = e -/
def sAsg (m : ME) (mg : MG) : MS := fun ρ => do
  let d ← m ρ
  let ρ' ← M.lift (mg d ρ)
  pure (.nx ρ')
theorem ev_asg {te : TE} {g : TG} {m : ME} {mg : MG} {is : List Nat} (he : EvF te m) (hg : EvG g mg is) : EvS (tAsg te g) (sAsg m mg) := fun F t0 t1 ρ G H σ o e w D p => by
  obtain ⟨x, t2, e1, e⟩ := bnd_some e
  obtain ⟨ρ', t3, e2, e⟩ := bnd_some e
  obtain ⟨f2, rfl⟩ := lift_some e2
  obtain ⟨rfl, rfl⟩ := pure_some e
  refine he F t0 _ ρ G H σ x e1 w _ fun v G' H' w' s r => ?_
  exact hg F _ ρ ρ' G' H' σ v x f2 w' r _ fun σ' w2 _ => p σ' G' H' w2 s.gg
/-- x = a new list, which x owns -/
def sOwn (i : Nat) (m : ML) : MS := fun ρ => do
  let xs ← m ρ
  pure (.nx (ρ.set i (.ow xs)))
theorem ev_own {te : TE} {i : Nat} {m : ML} (he : EvN te m) : EvS (tAsg te (gName i)) (sOwn i m) := fun F t0 t1 ρ G H σ o e w D p => by
  obtain ⟨x, t2, e1, e⟩ := bnd_some e
  obtain ⟨rfl, rfl⟩ := pure_some e
  refine he F t0 _ ρ G H σ x e1 w _ fun a G' H' w' s n _ => ?_
  exact p _ G' H' (w'.setO n.1 n.2) s.gg
/-- an owned list is frozen, ahead of a statement -/
def frz (i : Nat) (ρ : List Sl) : List Sl := match ρ[i]? with
  | some (.ow xs) => ρ.set i (.fz (.list xs))
  | _ => ρ
def sFrz (i : Nat) (m : MS) : MS := fun ρ => m (frz i ρ)
theorem ev_frz {t : TS} {i : Nat} {m : MS} (h : EvS t m) : EvS t (sFrz i m) := fun F t0 t1 ρ G H σ o e w D p => by
  unfold sFrz frz at e
  split at e
  · rename_i xs hi
    obtain ⟨G', s, w'⟩ := w.freeze hi
    exact h F t0 t1 _ G' H σ o e w' D (p.mono s)
  · exact h F t0 t1 ρ G H σ o e w D p
/-- a name forgotten, ahead of a statement -/
def sUn (i : Nat) (m : MS) : MS := fun ρ => m (ρ.set i .un)
theorem ev_un {t : TS} {i : Nat} {m : MS} (h : EvS t m) : EvS t (sUn i m) := fun F t0 t1 ρ G H σ o e w D p => by
  refine h F t0 t1 _ G H σ o e ?_ D p
  refine ⟨w.co, by rw [List.length_set]; exact w.len, fun j s v h1 h2 => ?_, fun j k xs ys v h1 h2 h3 h4 => ?_⟩
  · rcases get_set h1 with ⟨_, rfl, _⟩ | ⟨_, e1⟩
    · trivial
    · exact w.sl j s v e1 h2
  · rcases get_set h1 with ⟨_, z, _⟩ | ⟨_, e1⟩
    · cases z
    · rcases get_set h2 with ⟨_, z, _⟩ | ⟨_, e2⟩
      · cases z
      · exact w.ap j k xs ys v e1 e2 h3 h4
/-! ### lists changed in place -/
def owOf (ρ : List Sl) (i : Nat) : Option (List PyData) := match ρ[i]? with
  | some (.ow xs) => some xs
  | _ => none
theorem owOf_eq {ρ : List Sl} {i : Nat} {xs : List PyData} (h : owOf ρ i = some xs) : ρ[i]? = some (.ow xs) := by
  unfold owOf at h
  split at h
  · cases h; assumption
  · cases h
def sApp (i : Nat) (m : ME) : MS := fun ρ => do
  let d ← m ρ
  let xs ← M.lift (owOf ρ i)
  if okLen xs.length then pure (.nx (ρ.set i (.ow (xs ++ [d])))) else M.fail
theorem ev_app {K : PySem.W.Frag} {te : TE} {i : Nat} {m : ME} (he : EvF te m) : EvS (tDrop (tBM K "list" rAppend (tVar i) (tCons te tNil))) (sApp i m) := fun F t0 t1 ρ G H σ o e w D p => by
  obtain ⟨d, t2, e1, e⟩ := bnd_some e
  obtain ⟨xs, t3, e2, e⟩ := bnd_some e
  obtain ⟨f2, rfl⟩ := lift_some e2
  split at e
  · rename_i hz
    obtain ⟨rfl, rfl⟩ := pure_some e
    have hi := owOf_eq f2
    obtain ⟨a, ha, vs, _, hl, _⟩ := w.ow hi
    refine ⟨_, ha, .inl ⟨rfl, vs, SqL.of hl⟩, ?_⟩
    refine he F t0 _ ρ G H σ d e1 w _ fun v G' H' w' s r => ?_
    obtain ⟨a', ha', us, _, hl', rp, _⟩ := w'.ow hi
    rw [ha] at ha'
    cases ha'
    refine ⟨a, us, v, rfl, rfl, hl', by rw [rp.length]; exact okLen_lt hz, ?_⟩
    exact p σ G' _ (w'.mut hi ha (rp.snoc r)) s.gg
  · exact (fail_some e).elim
def sExt (i : Nat) (m : ME) : MS := fun ρ => do
  let d ← m ρ
  let xs ← M.lift (owOf ρ i)
  match d with
  | .list ys => if okLen (xs.length + ys.length) then pure (.nx (ρ.set i (.ow (xs ++ ys)))) else M.fail
  | _ => M.fail
theorem ev_ext {K : PySem.W.Frag} {te : TE} {i : Nat} {m : ME} (he : EvB te m) : EvS (tDrop (tBM K "list" rExtend (tVar i) (tCons te tNil))) (sExt i m) := fun F t0 t1 ρ G H σ o e w D p => by
  obtain ⟨d, t2, e1, e⟩ := bnd_some e
  obtain ⟨xs, t3, e2, e⟩ := bnd_some e
  obtain ⟨f2, rfl⟩ := lift_some e2
  have hi := owOf_eq f2
  cases d with
  | list ys =>
    have e : (if okLen (xs.length + ys.length) then pure (.nx (ρ.set i (.ow (xs ++ ys)))) else M.fail : M Out) t2 = some (o, t1) := e
    split at e
    · rename_i hz
      obtain ⟨rfl, rfl⟩ := pure_some e
      obtain ⟨a, ha, vs, _, hl, _⟩ := w.ow hi
      refine ⟨_, ha, .inl ⟨rfl, vs, SqL.of hl⟩, ?_⟩
      refine he F t0 _ ρ G H σ _ e1 w _ fun v G' H' w' s r => ?_
      obtain ⟨a', ha', us, _, hl', rp, _⟩ := w'.ow hi
      rw [ha] at ha'
      cases ha'
      obtain ⟨b, zs, rfl, hb, rb⟩ := r.lst w'
      refine ⟨a, b, us, zs, rfl, rfl, hl', hb, by rw [rp.length, rb.length]; exact okLen_le hz, ?_⟩
      exact p σ G' _ (w'.mut hi ha (rp.append rb)) s.gg
    · exact (fail_some e).elim
  | _ => exact (fail_some e).elim
/-- x.pop() as a statement -/
def sPop (i : Nat) : MS := fun ρ => do
  let xs ← M.lift (owOf ρ i)
  if xs.isEmpty then M.fail else pure (.nx (ρ.set i (.ow xs.dropLast)))
theorem ev_pop {K : PySem.W.Frag} {i : Nat} : EvS (tDrop (tBM0 K "list" rPop (tVar i))) (sPop i) := fun F t0 t1 ρ G H σ o e w D p => by
  obtain ⟨xs, t3, e2, e⟩ := bnd_some e
  obtain ⟨f2, rfl⟩ := lift_some e2
  have hi := owOf_eq f2
  split at e
  · exact (fail_some e).elim
  · rename_i hz
    obtain ⟨rfl, rfl⟩ := pure_some e
    obtain ⟨a, ha, vs, _, hl, rp, _⟩ := w.ow hi
    have hv : vs.length - 1 < vs.length := by
      have := rp.length
      cases xs with
      | nil => exact absurd rfl hz
      | cons x r =>
        rw [List.length_cons] at this
        omega
    exact ⟨_, ha, .inl ⟨rfl, vs, SqL.of hl⟩, a, vs, _, rfl, rfl, hl, List.getElem?_eq_getElem hv, p σ G _ (w.mut hi ha rp.dropLast) (Same.refl G)⟩
/-- g = x.pop() -/
def sPopTo (i : Nat) (mg : MG) : MS := fun ρ => do
  let xs ← M.lift (owOf ρ i)
  let d ← M.lift xs.getLast?
  let ρ' ← M.lift (mg d (ρ.set i (.ow xs.dropLast)))
  pure (.nx ρ')
theorem ev_popTo {K : PySem.W.Frag} {i : Nat} {g : TG} {mg : MG} {is : List Nat} (hg : EvG g mg is) : EvS (tAsg (tBM0 K "list" rPop (tVar i)) g) (sPopTo i mg) := fun F t0 t1 ρ G H σ o e w D p => by
  obtain ⟨xs, t3, e2, e⟩ := bnd_some e
  obtain ⟨f2, rfl⟩ := lift_some e2
  obtain ⟨d, t4, e3, e⟩ := bnd_some e
  obtain ⟨f3, rfl⟩ := lift_some e3
  obtain ⟨ρ', t5, e4, e⟩ := bnd_some e
  obtain ⟨f4, rfl⟩ := lift_some e4
  obtain ⟨rfl, rfl⟩ := pure_some e
  have hi := owOf_eq f2
  obtain ⟨a, ha, vs, _, hl, rp, _⟩ := w.ow hi
  rw [List.getLast?_eq_getElem?] at f3
  obtain ⟨v, hv, rv⟩ := rp.get f3
  rw [← rp.length] at hv
  exact ⟨_, ha, .inl ⟨rfl, vs, SqL.of hl⟩, a, vs, v, rfl, rfl, hl, hv, hg F _ _ ρ' G _ σ v d f4 (w.mut hi ha rp.dropLast) rv _ fun σ' w2 _ => p σ' G _ w2 (Same.refl G)⟩
/-- x[k] = e -/
def ixOf (n : Nat) : PyData → Option Nat
  | .int i => ixN n i
  | _ => none
def sSetI (i : Nat) (mk m : ME) : MS := fun ρ => do
  let d ← m ρ
  let k ← mk ρ
  let xs ← M.lift (owOf ρ i)
  let j ← M.lift (ixOf xs.length k)
  pure (.nx (ρ.set i (.ow (xs.set j d))))
theorem ev_setI {te tk : TE} {i : Nat} {mk m : ME} (he : EvF te m) (hk : EvB tk mk) : EvS (tAsg te (L2.gSub (tVar i) tk rSetL)) (sSetI i mk m) := fun F t0 t1 ρ G H σ o e w D p => by
  obtain ⟨d, t2, e1, e⟩ := bnd_some e
  obtain ⟨k, t3, e2, e⟩ := bnd_some e
  obtain ⟨xs, t4, e3, e⟩ := bnd_some e
  obtain ⟨f3, rfl⟩ := lift_some e3
  obtain ⟨j, t5, e4, e⟩ := bnd_some e
  obtain ⟨f4, rfl⟩ := lift_some e4
  obtain ⟨rfl, rfl⟩ := pure_some e
  have hi := owOf_eq f3
  refine he F t0 t2 ρ G H σ d e1 w _ fun v G1 H1 w1 s1 r1 => ?_
  obtain ⟨a, ha, _⟩ := w1.ow hi
  refine ⟨_, ha, ?_⟩
  refine hk F t2 _ ρ G1 H1 σ k e2 w1 _ fun u G2 H2 w2 s2 r2 => ?_
  obtain ⟨a', ha', us, _, hl', rp, _⟩ := w2.ow hi
  rw [ha] at ha'
  cases ha'
  cases k with
  | int n =>
    refine ⟨a, us, n, j, rfl, r2.int, hl', by rw [rp.length]; exact f4, ?_⟩
    exact p σ G2 _ (w2.mut hi ha (rp.set (r1.mono s2.gg) j)) (s1.gg.trans s2.gg)
  | _ => cases f4
/-! ### loops -/
def loopOut (go : List Sl → M Out) : Out → M Out
  | .nx ρ => go ρ
  | .ct ρ => go ρ
  | .bk ρ => pure (.nx ρ)
  | .rt d => pure (.rt d)
def forGo (mg : MG) (b : MS) : List PyData → List Sl → M Out
  | [], ρ => pure (.nx ρ)
  | d :: r, ρ => do
    let ρ' ← M.lift (mg d ρ)
    let o ← b ρ'
    loopOut (forGo mg b r) o
def sFor (mi : ML) (mg : MG) (b : MS) : MS := fun ρ => do
  let ds ← mi ρ
  forGo mg b ds ρ
theorem ev_for {wi : TI} {g : TG} {tb : TS} {mi : ML} {mg : MG} {b : MS} {is : List Nat} (hi : EvI wi mi) (hg : EvG g mg is) (hb : EvS tb b) : EvS (tFor wi g tb) (sFor mi mg b) := fun F t0 t1 ρ G H σ o e w D p => by
  obtain ⟨ds, t2, e1, e⟩ := bnd_some e
  refine hi F t0 t2 ρ G H σ ds e1 w _ fun J G1 H1 w1 s1 ok => ?_
  refine ⟨fun i m σi Hi => ∃ (τ : Tape) (ρi : List Sl) (Gi : Hp), i ≤ ds.length ∧ m = ds.length - i ∧ forGo mg b (ds.drop i) ρi τ = some (o, t1) ∧ Wd F τ ρi Gi Hi σi ∧ Same G1 Gi,
    ⟨ds.length, t2, ρ, G1, Nat.zero_le _, by omega, e, w1, Same.refl G1⟩, ?_⟩
  rintro i m σi Hi ⟨τ, ρi, Gi, hil, rfl, ec, wi', gg⟩
  by_cases hlt : i < ds.length
  · have hget : ds[i]? = some ds[i] := List.getElem?_eq_getElem hlt
    rw [List.drop_eq_getElem_cons hlt] at ec
    obtain ⟨ρ', τ1, e2, ec⟩ := bnd_some ec
    obtain ⟨e2', rfl⟩ := lift_some e2
    obtain ⟨x, τ2, e3, ec⟩ := bnd_some ec
    refine .inr ⟨ok.go F _ _ Gi Hi _ gg wi' i _ hget, fun σ' H' => ∃ (τ : Tape) (ρi : List Sl) (Gi : Hp), forGo mg b (ds.drop (i + 1)) ρi τ = some (o, t1) ∧ Wd F τ ρi Gi H' σ' ∧ Same G1 Gi, ?_, ?_⟩
    · rintro σ' H' ⟨τ', ρ2, G', a1, a2, a3⟩
      exact ⟨ds.length - (i + 1), by omega, τ', ρ2, G', hlt, rfl, a1, a2, a3⟩
    · intro v H' hy
      obtain ⟨G2, g2, w2, rx, _⟩ := ok.yld F _ _ Gi Hi _ gg wi' i _ hget v H' hy
      refine hg F _ _ ρ' G2 H' _ v _ e2' w2 rx _ fun σ3 w3 _ => ?_
      refine hb F _ τ2 ρ' G2 H' σ3 x e3 w3 _ ?_
      cases x with
      | nx ρ4 => exact fun σ4 G4 H4 w4 s4 => ⟨τ2, ρ4, G4, ec, w4, (gg.trans g2.gg).trans s4⟩
      | ct ρ4 => exact fun σ4 G4 H4 w4 s4 => ⟨τ2, ρ4, G4, ec, w4, (gg.trans g2.gg).trans s4⟩
      | bk ρ4 =>
        obtain ⟨rfl, rfl⟩ := pure_some (show (pure (.nx ρ4) : M Out) τ2 = some (o, t1) from ec)
        exact fun σ4 G4 H4 w4 s4 => p σ4 G4 H4 w4 (s1.gg.trans ((gg.trans g2.gg).trans s4))
      | rt d =>
        obtain ⟨rfl, rfl⟩ := pure_some (show (pure (.rt d) : M Out) τ2 = some (o, t1) from ec)
        exact fun v4 G4 H4 w4 s4 r4 => p v4 G4 H4 w4 (s1.gg.trans ((gg.trans g2.gg).trans s4)) r4
  · have ei : i = ds.length := by omega
    subst ei
    rw [List.drop_length] at ec
    obtain ⟨rfl, rfl⟩ := pure_some (show (pure (.nx ρi) : M Out) τ = some (o, t1) from ec)
    exact .inl ⟨ok.stop F _ _ Gi Hi _ gg wi' _ (Nat.le_refl _), p σi Gi Hi wi' (s1.gg.trans gg)⟩
def whileGo (c : MB) (b : MS) : Nat → List Sl → M Out
  | 0, _ => M.fail
  | n + 1, ρ => do
    if ← c ρ then do
      let o ← b ρ
      loopOut (whileGo c b n) o
    else pure (.nx ρ)
def sWhile (fuel : List Sl → Nat) (c : MB) (b : MS) : MS := fun ρ => whileGo c b (fuel ρ) ρ
theorem ev_while {tc : TT} {tb : TS} {c : MB} {b : MS} (fuel : List Sl → Nat) (hc : EvT tc c) (hb : EvS tb b) : EvS (tWhile tc tb) (sWhile fuel c b) := fun F t0 t1 ρ G H σ o e w D p => by
  refine ⟨fun m σi Hi => ∃ (τ : Tape) (ρi : List Sl) (Gi : Hp), whileGo c b m ρi τ = some (o, t1) ∧ Wd F τ ρi Gi Hi σi ∧ Same G Gi, ⟨_, t0, ρ, G, e, w, Same.refl G⟩, ?_⟩
  rintro m σi Hi ⟨τ, ρi, Gi, ec, wi', gg⟩
  cases m with
  | zero => exact (fail_some ec).elim
  | succ m =>
    obtain ⟨x, τ2, e1, ec⟩ := bnd_some ec
    refine hc F τ τ2 ρi Gi Hi σi x e1 wi' _ fun G1 H1 w1 s1 => ?_
    cases x with
    | true =>
      obtain ⟨y, τ3, e2, ec⟩ := bnd_some (show (b ρi >>= fun o => loopOut (whileGo c b m) o) τ2 = some (o, t1) from ec)
      refine iteT ⟨fun σ' H' => ∃ (τ : Tape) (ρi : List Sl) (Gi : Hp), whileGo c b m ρi τ = some (o, t1) ∧ Wd F τ ρi Gi H' σ' ∧ Same G Gi, fun σ' H' h => ⟨m, Nat.lt_succ_self m, h⟩, ?_⟩
      refine hb F τ2 τ3 ρi G1 H1 σi y e2 w1 _ ?_
      cases y with
      | nx ρ4 => exact fun σ4 G4 H4 w4 s4 => ⟨τ3, ρ4, G4, ec, w4, (gg.trans s1.gg).trans s4⟩
      | ct ρ4 => exact fun σ4 G4 H4 w4 s4 => ⟨τ3, ρ4, G4, ec, w4, (gg.trans s1.gg).trans s4⟩
      | bk ρ4 =>
        obtain ⟨rfl, rfl⟩ := pure_some (show (pure (.nx ρ4) : M Out) τ3 = some (o, t1) from ec)
        exact fun σ4 G4 H4 w4 s4 => p σ4 G4 H4 w4 ((gg.trans s1.gg).trans s4)
      | rt d =>
        obtain ⟨rfl, rfl⟩ := pure_some (show (pure (.rt d) : M Out) τ3 = some (o, t1) from ec)
        exact fun v4 G4 H4 w4 s4 r4 => p v4 G4 H4 w4 ((gg.trans s1.gg).trans s4) r4
    | false =>
      obtain ⟨rfl, rfl⟩ := pure_some (show (pure (.nx ρi) : M Out) τ2 = some (o, t1) from ec)
      exact iteF (p σi G1 H1 w1 (gg.trans s1.gg))
end DL

set_option maxHeartbeats 1000000
/-! The data layer, part E: rules, defs, calls, the end of a law. -/
namespace DL
open PySem L2 PySem.Spec PyProof.Rows

/-! ### a def's contract, no repr running around -/
structure FnG (P : Program) (w : World) (K : PySem.W.Frag) (mg : Str → Option Value) (base : Heap) (CX : CXT) (k : Nat) (f : Addr) (fd : FuncData) (ps : List Str) (sp : Sp) : Prop where
  len : ∀ vs H Q E, sp vs H Q E → vs.length = ps.length
  run : ∀ (B : Around) (ou : List Env) (s0 : Shared) (H : Hp) (ar : Args) (us : List Value) (vs : List V) (Q : VK) (E : XK), Room k B → B.guards = some [] → Env0 P w K mg base B ou s0 H →
    BindsTo s0 fd ar (ps.zip us) → Vals vs us → sp vs H Q E → codeAny (model P w) B (.call (.ref f) ar) (CR CX ou P w H s0 Q E) s0
theorem fnG_of {CX : CXT} {P : Program} {w : World} {K : PySem.W.Frag} {mg : Str → Option Value} {base : Heap} {k : Nat} {f : Addr} {x qual : Str} {st : Stmt} {fd : FuncData} {N ps : List Str} {sp : Sp}
    (F : Fun K x qual st f fd) (S : FnScope N ps (defScope st)) (len : ∀ vs H Q E, sp vs H Q E → vs.length = ps.length)
    (hb : ∀ (cdv : Value) (B : Around) (ou : List Env) (s0 : Shared) (H : Hp) (vs : List V) (Q : VK) (E : XK), Room k (B.deeper (envOfC qual (defScope st) s0.heap.objs.size f cdv)) → B.guards = some [] → sp vs H Q E →
      ∃ t, PSs (cxOf CX P w K mg base N qual (defScope st) f cdv B ou s0 H E) (defBody st) t ∧ t { nx := fun _ H' => Q .non H', rt := Q } (L2.start N vs) H) : FnG P w K mg base CX (k + 1) f fd ps sp := by
  obtain ⟨oc, od, kV, doc, pm, an, cdv, ct, osl, rfl, lk, hcd⟩ := F.ex
  refine ⟨len, fun B ou s0 H ar us vs Q E hr hG e0 hbind rv hsp => ?_⟩
  have hlen := len _ _ _ _ hsp
  have KX : K.In s0.heap := e0.mod.kin.keeps fun b o q => (e0.bs b o q).1
  have nl : s0.heap.NoLimit := e0.mod.nolimit.keeps fun b o q => (e0.bs b o q).1
  have hki : ∀ y ∈ ps.zip us, (defScope st).names.lookup y.1 = some .local ∨ ((defScope st).names.lookup y.1 = some .cell ∧ ((cellsFrom (s0.heap.objs.size + 1) (defScope st).names []).lookup y.1).isSome = true) := by
    rintro ⟨n, v⟩ hy
    rcases S.par n (List.of_mem_zip hy).1 with z | z
    · exact Or.inl z
    · exact Or.inr ⟨z, PySem.W.cellsFrom_some _ _ _ (Or.inl z)⟩
  refine codeAny_call_function hr.depth (KX _ _ lk) rfl S.co S.gen rfl (PySem.W.codeRec_of KX hcd) (hbind _ _ _ _ ?_)
  refine wpAny_newFunctionEnv_cells S.kind hki fun en hen s1 inc => ?_
  subst hen
  refine ⟨nl.keeps inc.toInCall.keep, codeAny_func ?_⟩
  obtain ⟨t, ht, hq⟩ := hb cdv B ou s0 H vs Q E (hr.deeper _) hG hsp
  have I := inv_start (CX := CX) (E := E) S hr.hd e0 hlen rv inc
  refine wpAny_mono (ht.run [] s1 (L2.start N vs) H _ I hq) (fun fl s' hs => ?_) fun e s' hs => hs
  cases fl with
  | ret u =>
    obtain ⟨v, σ', H', J, rv', q⟩ := hs
    exact ⟨v, H', J.os, J.bare, J.base, J.hok, rv', q⟩
  | next =>
    obtain ⟨σ', H', J, q⟩ := hs
    exact ⟨V.non, H', J.os, J.bare, J.base, J.hok, rfl, q⟩
  | brk =>
    obtain ⟨_, _, _, q⟩ := hs
    exact q.elim
  | cont =>
    obtain ⟨_, _, _, q⟩ := hs
    exact q.elim
section
variable {X : Cx} {CX : CXT} {k : Nat} {f : Addr} {fd : FuncData} {ps : List Str} {sp : Sp} {E : XK} {x : Str} {p pos : Pos} {e : Expr} {es : List Expr} {t : TA}
theorem run_fnG {pins : List (Addr × Obj)} {σ : L2.St} {H : Hp} {s : Shared} {Q : VK} {us : List Value} {vs : List V} (F : FnG X.prog X.w X.K X.mg X.base CX k f fd ps sp) (hr : Room k X.A) (hG : X.A.guards = some []) (hb : Binds X.K fd ps []) (hx : Passes CX X E)
    (I : Inv X pins σ H s) (rv : Vals vs us) (h : sp vs H Q E) : wpAny (model X.prog X.w) X.A (call (.ref f) us) (EP X pins σ Q) X.xe s := by
  have hl : (us ++ []).length = ps.length := by
    rw [List.append_nil, ← rv.length]
    exact F.len _ _ _ _ h
  have hbi := hb s us I.kIn hl
  rw [List.append_nil] at hbi
  refine wpAny_call (codeAny_mono (F.run X.A X.stack s H ⟨us, []⟩ us vs Q E hr hG I.env0 hbi rv h) fun r s' hq => ?_)
  cases r with
  | error e => exact hx pins σ H s e s' I hq
  | ok fl =>
    cases fl with
    | ret u => exact I.after hq
    | next => exact hq.elim
    | brk => exact hq.elim
    | cont => exact hq.elim
theorem pe_callG (F : FnG X.prog X.w X.K X.mg X.base CX k f fd ps sp) (hr : Room k X.A) (hG : X.A.guards = some []) (hg : Gl X x) (hm : X.mg x = some (.ref f)) (hk : PySem.W.keepIn X.K (.ref f) = true) (hb : Binds X.K fd ps []) (hx : Passes CX X E) (ha : PA X (e :: es) t)
    (hdb : (x == ("__debug__" : Str)) = false) (he : starEach (e :: es) X.env = (false, eval e X.env) :: starEach es X.env) (hpl : (backTo pos (starEach es X.env)).any (·.1) = false) :
    PE X (.Call (.Name x p) (e :: es) [] pos) (tCall sp [] E t) := by
  refine ⟨fun pins s σ H Q I h => ?_⟩
  refine wpAny_Call_Name_kw (ld_glob I hg hm ?_ hdb)
  refine PySem.W.callWith_K (h₀ := X.base) I.ok.mod.kin hk (thn (ha.run pos pins s σ H _ I h) fun us s1 hq => ?_) he hpl
  obtain ⟨vs, H1, I1, rv, q⟩ := hq
  rw [List.append_nil] at q
  exact ⟨I1.kIn, run_fnG F hr hG hb hx I1 rv q⟩
theorem pe_callG0 (F : FnG X.prog X.w X.K X.mg X.base CX k f fd ps sp) (hr : Room k X.A) (hG : X.A.guards = some []) (hg : Gl X x) (hm : X.mg x = some (.ref f)) (hk : PySem.W.keepIn X.K (.ref f) = true) (hb : Binds X.K fd ps []) (hx : Passes CX X E)
    (hdb : (x == ("__debug__" : Str)) = false) : PE X (.Call (.Name x p) [] [] pos) (tCall sp [] E tNil) := by
  refine ⟨fun pins s σ H Q I h => ?_⟩
  refine wpAny_Call_Name_kw (ld_glob I hg hm ?_ hdb)
  exact PySem.W.callWith_K0 I.kIn hk (run_fnG (us := []) F hr hG hb hx I .nil h)
end

/-! ### defs as functions of data -/
abbrev MF := List Sl → M PyData
def spD (m : MF) : Sp := fun vs H Q _ => ∃ (T : Addr) (t0 t1 : Tape) (G : Hp) (as : List Sl) (d : PyData), m as t0 = some (d, t1) ∧ Co ⟨T, G, H⟩ t0 G H ∧ AgsOk T G as vs ∧
  ∀ v G' H', Co ⟨T, G, H⟩ t1 G' H' → Same G G' → Rp G' v d → Q v H'
structure Cee (P : Program) (w : World) (K : PySem.W.Frag) (mg : Str → Option Value) (base : Heap) (k : Nat) (x : Str) (m : MF) : Prop where
  ex : ∃ f fd ps, mg x = some (.ref f) ∧ PySem.W.keepIn K (.ref f) = true ∧ Binds K fd ps [] ∧ FnG P w K mg base CX0 k f fd ps (spD m)
def eCall (m : MF) (ma : MA) : ME := fun ρ => do
  let as ← ma ρ
  m as
theorem ev_call {t : TA} {ma : MA} {m : MF} (h : EvA t ma) : EvF (tCall (spD m) [] E0 t) (eCall m ma) := fun F t0 t1 ρ G H σ d e w Q q => by
  obtain ⟨as, t2, e1, e⟩ := bnd_some e
  refine h F t0 t2 ρ G H σ as e1 w _ fun vs G1 H1 w1 s1 r1 => ?_
  rw [List.append_nil]
  refine ⟨F.T, t2, t1, G1, as, d, e, ⟨w1.co.sub, w1.co.gT, w1.co.tape, fun b o q _ => q, fun b o q => .inl q⟩, r1, fun v G2 H2 c2 s2 r2 => ?_⟩
  have gw : Gw F G1 H1 G2 H2 := ⟨s2, fun b o q n => c2.fr b o q n, fun b o _ q => c2.gn b o q⟩
  have co : Co F t1 G2 H2 := by
    refine w1.co.grow c2.sub s2 gw.kp c2.gT c2.tape fun b o q => ?_
    rcases c2.gn b o q with z | z
    · exact .inl z
    · exact .inr (w1.co.H0_none z)
  exact q v G2 H2 (w1.gw co gw) (s1.trans gw) r2
/-- n parameters, N names in all -/
def outD : Out → M PyData
  | .rt d => pure d
  | .nx _ => pure .none
  | _ => M.fail
def mfn (n N : Nat) (b : MS) : MF := fun as => if as.length = n then (do
  let o ← b (as ++ List.replicate (N - n) .un)
  outD o) else M.fail
theorem AgsOk.slot {F : Fm} {G H : Hp} : ∀ {as : List Sl} {vs : List V} {i : Nat} {s : Sl} {v : V}, AgsOk F.T G as vs → as[i]? = some s → vs[i]? = some v → SlotOk F G H s (some v) ∧ ∀ xs, s ≠ .ow xs
  | _, _, _, _, _, .nil, h, _ => by simp at h
  | s0 :: _, v0 :: _, 0, s, v, .cons h r, e1, e2 => by
    have z1 : s0 = s := Option.some.inj e1
    have z2 : v0 = v := Option.some.inj e2
    subst z1 z2
    cases s0 with
    | un => exact h.elim
    | ow xs => exact h.elim
    | fz d => exact ⟨⟨_, rfl, h⟩, fun _ z => by cases z⟩
    | tp => exact ⟨congrArg some h, fun _ z => by cases z⟩
  | _, _, i + 1, s, v, .cons h r, e1, e2 => AgsOk.slot (i := i) r (by simpa using e1) (by simpa using e2)
theorem wd_start {T : Addr} {t : Tape} {G H : Hp} {as : List Sl} {vs : List V} {N : List Str} {n : Nat} (co : Co ⟨T, G, H⟩ t G H) (ag : AgsOk T G as vs) (hn : as.length = n) (hN : n ≤ N.length) : Wd ⟨T, G, H⟩ t (as ++ List.replicate (N.length - n) .un) G H (L2.start N vs) := by
  have hv : vs.length = n := by rw [← ag.length]; exact hn
  have split : ∀ (i : Nat) (s : Sl), (as ++ List.replicate (N.length - n) Sl.un)[i]? = some s → (i < n ∧ as[i]? = some s) ∨ s = .un := fun i s e => by
    by_cases hi : i < as.length
    · rw [List.getElem?_append_left hi] at e
      exact .inl ⟨hn ▸ hi, e⟩
    · rw [List.getElem?_append_right (Nat.le_of_not_lt hi), List.getElem?_replicate] at e
      split at e
      · cases e; exact .inr rfl
      · cases e
  have stv : ∀ (i : Nat), i < n → (L2.start N vs)[i]? = (vs[i]?).map some := fun i hi => by
    unfold L2.start
    rw [List.getElem?_append_left (by rw [List.length_map, hv]; exact hi), List.getElem?_map]
  refine ⟨co, ?_, fun i s v h1 h2 => ?_, fun i j xs ys v h1 h2 h3 h4 => ?_⟩
  · unfold L2.start
    rw [List.length_append, List.length_append, List.length_map, List.length_replicate, List.length_replicate, hn, hv]
  · rcases split i s h1 with ⟨hi, e⟩ | rfl
    · rw [stv i hi] at h2
      cases q : vs[i]? with
      | none => rw [q] at h2; cases h2
      | some u =>
        rw [q] at h2
        cases h2
        exact (ag.slot (F := ⟨T, G, H⟩) e q).1
    · trivial
  · rcases split i _ h1 with ⟨hi, e⟩ | z
    · have : vs[i]? = some vs[i] := List.getElem?_eq_getElem (by rw [hv]; exact hi)
      exact absurd rfl ((ag.slot (F := ⟨T, G, H⟩) (H := H) e this).2 xs)
    · cases z
/-- a def of the text, by its body -/
theorem fnD_of {P : Program} {w : World} {K : PySem.W.Frag} {mg : Str → Option Value} {base : Heap} {k : Nat} {f : Addr} {x qual : Str} {st : Stmt} {fd : FuncData} {N ps : List Str} {b : MS}
    (F : Fun K x qual st f fd) (S : FnScope N ps (defScope st))
    (hb : ∀ (cdv : Value) (B : Around) (ou : List Env) (s0 : Shared) (H : Hp), Room k (B.deeper (envOfC qual (defScope st) s0.heap.objs.size f cdv)) → B.guards = some [] →
      ∃ t, PSs (cxOf CX0 P w K mg base N qual (defScope st) f cdv B ou s0 H E0).nox (defBody st) t ∧ EvS t b) : FnG P w K mg base CX0 (k + 1) f fd ps (spD (mfn ps.length N.length b)) := by
  have hpl : ps.length ≤ N.length := by
    have := congrArg List.length S.pre
    rw [List.length_take] at this
    omega
  have key : ∀ {as : List Sl} {t0 t1 : Tape} {d : PyData}, mfn ps.length N.length b as t0 = some (d, t1) → as.length = ps.length ∧ ∃ o, b (as ++ List.replicate (N.length - ps.length) .un) t0 = some (o, t1) ∧ (o = .rt d ∨ (∃ ρ, o = .nx ρ) ∧ d = .none) := by
    intro as t0 t1 d e
    unfold mfn at e
    split at e
    · rename_i hn
      obtain ⟨o, t2, e1, e2⟩ := bnd_some e
      refine ⟨hn, o, ?_⟩
      cases o with
      | rt d' =>
        obtain ⟨rfl, rfl⟩ := pure_some e2
        exact ⟨e1, .inl rfl⟩
      | nx ρ =>
        obtain ⟨rfl, rfl⟩ := pure_some e2
        exact ⟨e1, .inr ⟨⟨ρ, rfl⟩, rfl⟩⟩
      | bk _ => exact (fail_some (t := t2) e2).elim
      | ct _ => exact (fail_some (t := t2) e2).elim
    · exact (fail_some e).elim
  refine fnG_of F S (fun vs H Q E h => ?_) fun cdv B ou s0 H vs Q E hr hG h => ?_
  · obtain ⟨T, t0, t1, G, as, d, e, _, ag, _⟩ := h
    rw [← ag.length]
    exact (key e).1
  · obtain ⟨T, t0, t1, G, as, d, e, co, ag, q⟩ := h
    obtain ⟨hn, o, e1, ho⟩ := key e
    obtain ⟨t, ht, hev⟩ := hb cdv B ou s0 H hr hG
    refine ⟨t, ?_, hev ⟨T, G, H⟩ t0 t1 _ G H _ o e1 (wd_start co ag hn hpl) _ ?_⟩
    · exact ⟨fun pins s σ H1 D I hw => (PSs.nox (X := cxOf CX0 P w K mg base N qual (defScope st) f cdv B ou s0 H E) ht).run pins s σ H1 D I hw⟩
    · rcases ho with rfl | ⟨⟨ρ, rfl⟩, rfl⟩
      · exact fun v G' H' c s r => q v G' H' c s r
      · exact fun σ G' H' w s => q V.non G' H' w.co s .non
end DL

set_option maxHeartbeats 1000000
/-! The data layer, part F: one rule a construct (syntax, reading, mirror at once). -/
namespace DL
open PySem L2

structure RE (X : Cx) (e : Expr) (t : TE) (m : ME) : Prop where
  pe : PE X e t
  ev : EvF t m
structure RB (X : Cx) (e : Expr) (t : TE) (m : ME) : Prop where
  pe : PE X e t
  ev : EvB t m
structure RN (X : Cx) (e : Expr) (t : TE) (m : ML) : Prop where
  pe : PE X e t
  ev : EvN t m
structure RT (X : Cx) (e : Expr) (t : TT) (m : MB) : Prop where
  pt : PT X e t
  ev : EvT t m
structure RW (X : Cx) (e : Expr) (t : TT) (m : MB) : Prop where
  pw : PW X e t
  ev : EvT t m
structure RL (X : Cx) (es : List Expr) (t : TA) (m : ML) : Prop where
  pa : PA X es t
  ev : EvL t m
structure RR (X : Cx) (es : List Expr) (t : TA) (m : ML) : Prop where
  pa : PA X es t
  ev : EvR t m
structure RA (X : Cx) (es : List Expr) (t : TA) (m : MA) : Prop where
  pa : PA X es t
  ev : EvA t m
structure RG (X : Cx) (e : Expr) (g : TG) (m : MG) (is : List Nat) : Prop where
  pg : PG X e g
  ev : EvG g m is
structure RGs (X : Cx) (es : List Expr) (g : TGs) (m : MGs) (is : List Nat) : Prop where
  pg : PGs X es g
  ev : EvGs g m is
structure RI (X : Cx) (tg e : Expr) (w : TI) (m : ML) : Prop where
  pi : PI X tg e w
  ev : EvI w m
structure RS (X : Cx) (s : Stmt) (t : TS) (m : MS) : Prop where
  ps : PS X s t
  ev : EvS t m
structure RSs (X : Cx) (s : List Stmt) (t : TS) (m : MS) : Prop where
  ps : PSs X s t
  ev : EvS t m

section
variable {X : Cx} {e a b c : Expr} {es : List Expr} {t ta tb tc : TE} {m ma mb mc : ME} {pos : Pos} {i : Nat}
theorem RE.bo (h : RE X e t m) : RB X e t m := ⟨h.pe, h.ev.b⟩
theorem RN.fr {l : ML} (h : RN X e t l) : RE X e t (eList l) := ⟨h.pe, h.ev.f⟩
theorem RN.bo {l : ML} (h : RN X e t l) : RB X e t (eList l) := h.fr.bo
theorem re_var (h : PE X e (tVar i)) : RE X e (tVar i) (eVar i) := ⟨h, ev_var i⟩
theorem rb_var (h : PE X e (tVar i)) : RB X e (tVar i) (bVar i) := ⟨h, ev_bvar i⟩
theorem re_int {z : Int} {j} : RE X (.Constant (.int z) j pos) (tC (.int z)) (eC (.int z)) := ⟨pe_int, ev_c fun _ => .int z⟩
theorem re_bl {z : Bool} {j} : RE X (.Constant (.bool z) j pos) (tC (.bl z)) (eC (.bool z)) := ⟨pe_bl, ev_c fun _ => .bl z⟩
theorem re_non {j} : RE X (.Constant .none j pos) (tC .non) (eC .none) := ⟨pe_non, ev_c fun _ => .non⟩
theorem re_str {z : Str} {j} : RE X (.Constant (.str z) j pos) (tC (.str z)) (eC (.str z)) := ⟨pe_str, ev_c fun _ => .str z⟩
theorem re_neg (h : RB X a ta ma) : RE X (.UnaryOp .USub a pos) (tUn (rU fun i => .int (-i)) ta) (e1 gNeg ma) := ⟨pe_un un_neg h.pe, ev_neg h.ev⟩
/-! operators -/
theorem re_bin {op : Operator} {r : R2} {g : PyData → PyData → Option PyData} (o : OpR X (binaryOp op) r) (hg : Op2 r g) (ha : RB X a ta ma) (hb : RB X b tb mb) : RE X (.BinOp a op b pos) (tOp r ta tb) (e2 g ma mb) :=
  ⟨pe_op o ha.pe hb.pe, ev_op hg ha.ev hb.ev⟩
def rAddK (K : PySem.W.Frag) : R2 := fun x y H Q => rI0 (fun i j => .int (i + j)) x y H Q ∨ (rCat x y H Q ∨ (rCatA K x y H Q ∨ ∃ i j, x = .str i ∧ y = .str j ∧ i.length + j.length ≤ sizeLine ∧ Q (.str (i ++ j)) H))
theorem op_addK : OpR X (binaryOp .Add) (rAddK X.K) := op_add.or (op_cat.or (op_catA.or op_add_str))
theorem o_addK {K : PySem.W.Frag} : Op2 (rAddK K) gAdd := o_addI.or (o_catL.or (o_catT.or o_catS))
theorem re_add (ha : RB X a ta ma) (hb : RB X b tb mb) : RE X (.BinOp a .Add b pos) (tOp (rAddK X.K) ta tb) (e2 gAdd ma mb) := re_bin op_addK o_addK ha hb
theorem re_sub (ha : RB X a ta ma) (hb : RB X b tb mb) : RE X (.BinOp a .Sub b pos) (tOp (rI0 fun i j => .int (i - j)) ta tb) (e2 gSub ma mb) := re_bin op_sub o_sub ha hb
theorem re_mul (ha : RB X a ta ma) (hb : RB X b tb mb) : RE X (.BinOp a .Mult b pos) (tOp (rI CMulW fun i j => .int (i * j)) ta tb) (e2 gMulI ma mb) := re_bin op_mulW o_mulI ha hb
theorem re_div (ha : RB X a ta ma) (hb : RB X b tb mb) : RE X (.BinOp a .FloorDiv b pos) (tOp (rI CDivW fun i j => .int (i / j)) ta tb) (e2 gDiv ma mb) := re_bin op_fdivW o_div ha hb
theorem re_mod (ha : RB X a ta ma) (hb : RB X b tb mb) : RE X (.BinOp a .Mod b pos) (tOp (rI (fun _ j => 0 < j) fun i j => .int (i % j)) ta tb) (e2 gMod ma mb) := re_bin op_mod o_mod ha hb
theorem re_pow (ha : RB X a ta ma) (hb : RB X b tb mb) : RE X (.BinOp a .Pow b pos) (tOp (rI CPow fun i j => .int (i ^ j.toNat)) ta tb) (e2 gPow ma mb) := re_bin op_pow o_pow ha hb
/-! comparisons -/
theorem re_cmp {op : CmpOp} {r : R2} {g : PyData → PyData → Option PyData} (o : OpR X (compareOp op) r) (hg : Op2 r g) (ha : RB X a ta ma) (hb : RB X b tb mb) (hm : behindInMarks op b = false) : RE X (.Compare a [op] [b] pos) (tOp r ta tb) (e2 g ma mb) :=
  ⟨pe_cmpR o ha.pe hb.pe hm, ev_op hg ha.ev hb.ev⟩
theorem rt_cmp {op : CmpOp} {r : R2} {g : PyData → PyData → Option PyData} (o : OpR X (compareOp op) r) (hg : Op2 r g) (ha : RB X a ta ma) (hb : RB X b tb mb) (hm : behindInMarks op b = false) : RT X (.Compare a [op] [b] pos) (tTest (tOp r ta tb)) (tOf (e2 g ma mb)) :=
  ⟨pt_cmpR o ha.pe hb.pe hm, ev_test (ev_op hg ha.ev hb.ev).b⟩
theorem re_chain {op op' : CmpOp} {r r' : R2} {g g' : PyData → PyData → Option PyData} (o : OpR X (compareOp op) r) (o' : OpR X (compareOp op') r') (hg : Op2 r g) (hg' : Op2 r' g') (ha : RB X a ta ma) (hb : RB X b tb mb) (hc : RB X c tc mc) (hm : lastMarks [op, op'] [b, c] = false := by rfl) :
    RE X (.Compare a [op, op'] [b, c] pos) (tChain r r' ta tb tc) (eChain g g' ma mb mc) := ⟨pe_chain o o' ha.pe hb.pe hc.pe hm, ev_chain hg hg' ha.ev hb.ev hc.ev⟩
theorem rt_chain {op op' : CmpOp} {r r' : R2} {g g' : PyData → PyData → Option PyData} (o : OpR X (compareOp op) r) (o' : OpR X (compareOp op') r') (hg : Op2 r g) (hg' : Op2 r' g') (ha : RB X a ta ma) (hb : RB X b tb mb) (hc : RB X c tc mc) (hm : lastMarks [op, op'] [b, c] = false := by rfl) :
    RT X (.Compare a [op, op'] [b, c] pos) (tTest (tChain r r' ta tb tc)) (tOf (eChain g g' ma mb mc)) := ⟨pt_chain o o' ha.pe hb.pe hc.pe hm, ev_test (ev_chain hg hg' ha.ev hb.ev hc.ev).b⟩
theorem re_ix (ha : RB X a ta ma) (hb : RB X b tb mb) (hs : PlainIx b := by exact fun _ _ => rfl) : RE X (.Subscript a b pos) (tOp (rIx X.K) ta tb) (e2 gIx ma mb) := ⟨pe_ix ix_seq ha.pe hb.pe hs, ev_op o_ix ha.ev hb.ev⟩
/-! tests -/
theorem rt_val (h : RE X e t m) (he : ∀ whole, isTrue e X.env whole = (do let v ← whole; standAt e.pos; holding [v] (truthy v)) := by intro _; rfl) : RT X e (tB t) (tOf m) := ⟨pt_val h.pe he, ev_testB h.ev.b⟩
theorem rt_not {u : TT} {k : MB} (h : RT X a u k) : RT X (.UnaryOp .Not a pos) (tNot u) (bNot k) := ⟨pt_not h.pt, ev_not h.ev⟩
theorem rw_and1 {u : TT} {k : MB} (h : RT X a u k) : RW X (.BoolOp .And [a] pos) u k := ⟨pw_and1 h.pt, h.ev⟩
theorem rw_or1 {u : TT} {k : MB} (h : RT X a u k) : RW X (.BoolOp .Or [a] pos) u k := ⟨pw_or1 h.pt, h.ev⟩
theorem rw_and {u u' : TT} {k k' : MB} {rest : List Expr} (h : RT X a u k) (h' : RW X (.BoolOp .And (b :: rest) pos) u' k') : RW X (.BoolOp .And (a :: b :: rest) pos) (tAnd u u') (bAnd k k') := ⟨pw_and h.pt h'.pw, ev_and h.ev h'.ev⟩
theorem rw_or {u u' : TT} {k k' : MB} {rest : List Expr} (h : RT X a u k) (h' : RW X (.BoolOp .Or (b :: rest) pos) u' k') : RW X (.BoolOp .Or (a :: b :: rest) pos) (tOr u u') (bOr k k') := ⟨pw_or h.pt h'.pw, ev_or h.ev h'.ev⟩
theorem RW.te {u : TT} {k : MB} (h : RW X e u k) : RT X e u k := ⟨h.pw.pt, h.ev⟩
theorem re_one {op} (h : RE X a ta ma) : RE X (.BoolOp op [a] pos) ta ma := ⟨pe_one h.pe, h.ev⟩
theorem re_and {rest : List Expr} (h : RE X a ta ma) (h' : RE X (.BoolOp .And (b :: rest) pos) tb mb) : RE X (.BoolOp .And (a :: b :: rest) pos) (tAndV ta tb) (eAnd ma mb) := ⟨pe_and h.pe h'.pe, ev_andV h.ev h'.ev⟩
theorem re_or {rest : List Expr} (h : RE X a ta ma) (h' : RE X (.BoolOp .Or (b :: rest) pos) tb mb) : RE X (.BoolOp .Or (a :: b :: rest) pos) (tOrV ta tb) (eOr ma mb) := ⟨pe_or h.pe h'.pe, ev_orV h.ev h'.ev⟩
theorem re_not (h : RE X a ta ma) : RE X (.UnaryOp .Not a pos) (tNotV ta) (eNot ma) := ⟨pe_not h.pe, ev_notV h.ev⟩
theorem re_ifx {u : TT} {k : MB} (hc : RT X c u k) (ha : RE X a ta ma) (hb : RE X b tb mb) : RE X (.IfExp c a b pos) (tIf u ta tb) (eIf k ma mb) := ⟨pe_ifExp hc.pt ha.pe hb.pe, ev_if hc.ev ha.ev hb.ev⟩
/-! lists of expressions, displays -/
theorem rl_nil : RL X [] tNil lNil := ⟨pa_nil, ev_lnil⟩
theorem rl_cons {u : TA} {l : ML} (h : RE X e t m) (r : RL X es u l) (hs : starEach (e :: es) X.env = (false, eval e X.env) :: starEach es X.env := by rfl) : RL X (e :: es) (tCons t u) (lCons m l) := ⟨pa_cons h.pe r.pa hs, ev_lcons h.ev r.ev⟩
theorem rr_nil : RR X [] tNil lNil := ⟨pa_nil, ev_rnil⟩
theorem rr_cons {u : TA} {l : ML} (h : RB X e t m) (r : RR X es u l) (hs : starEach (e :: es) X.env = (false, eval e X.env) :: starEach es X.env := by rfl) : RR X (e :: es) (tCons t u) (lCons m l) := ⟨pa_cons h.pe r.pa hs, ev_rcons h.ev r.ev⟩
theorem ra_nil : RA X [] tNil aNil := ⟨pa_nil, ev_anil⟩
theorem ra_cons {u : TA} {l : MA} (h : RE X e t m) (r : RA X es u l) (hs : starEach (e :: es) X.env = (false, eval e X.env) :: starEach es X.env := by rfl) : RA X (e :: es) (tCons t u) (aCons m l) := ⟨pa_cons h.pe r.pa hs, ev_acons h.ev r.ev⟩
theorem ra_tape {u : TA} {l : MA} (h : PE X e (tVar i)) (r : RA X es u l) (hs : starEach (e :: es) X.env = (false, eval e X.env) :: starEach es X.env := by rfl) : RA X (e :: es) (tCons (tVar i) u) (aTape i l) := ⟨pa_cons h r.pa hs, ev_atape r.ev⟩
theorem re_tup {x1} {u : TA} {l : ML} (h : RL X es u l) : RE X (.Tuple es x1 pos) (tTup u) (eTup l) := ⟨pe_tup h.pa, ev_tup h.ev⟩
theorem rn_lst {u : TA} {l : ML} (h : RL X es u l) : RN X (.List es pos) (tLst u) (nLst l) := ⟨pe_lst h.pa, ev_lst h.ev⟩
/-! calls -/
theorem re_calB {u : TA} {l : ML} {x : Str} {p : Pos} {id : String} {r : List V → Hp → VK → Prop} {g : List PyData → Option PyData} (hc : CallR X (.builtin id) r) (hg : Cal r g) (hm : X.mg x = none) (hv : bootBuiltins x = some (.builtin id)) (h : RR X (e :: es) u l)
    (gl : Gl X x := by rfl) (hn : x ≠ "__name__" := by decide) (hdb : (x == ("__debug__" : Str)) = false := by decide)
    (he : starEach (e :: es) X.env = (false, eval e X.env) :: starEach es X.env := by rfl) (hpl : (backTo pos (starEach es X.env)).any (·.1) = false := by rfl) : RE X (.Call (.Name x p) (e :: es) [] pos) (tCB r u) (eCal g l) :=
  ⟨pe_callB hc gl hm hv h.pa hn hdb he hpl, ev_cal hg h.ev⟩
theorem re_calT {u : TA} {l : ML} {x : Str} {p : Pos} {T : String} {r : List V → Hp → VK → Prop} {g : List PyData → Option PyData} (hc : CallR X (.type T) r) (hg : Cal r g) (hm : X.mg x = none) (hv : bootBuiltins x = some (.type T)) (h : RR X (e :: es) u l)
    (gl : Gl X x := by rfl) (hn : x ≠ "__name__" := by decide) (hdb : (x == ("__debug__" : Str)) = false := by decide)
    (he : starEach (e :: es) X.env = (false, eval e X.env) :: starEach es X.env := by rfl) (hpl : (backTo pos (starEach es X.env)).any (·.1) = false := by rfl) : RE X (.Call (.Name x p) (e :: es) [] pos) (tCB r u) (eCal g l) :=
  ⟨pe_callTy hc gl hm hv h.pa hn hdb he hpl, ev_cal hg h.ev⟩
theorem rn_calT {u : TA} {l : ML} {x : Str} {p : Pos} {T : String} {r : List V → Hp → VK → Prop} {g : List PyData → Option (List PyData)} (hc : CallR X (.type T) r) (hg : CalN r g) (hm : X.mg x = none) (hv : bootBuiltins x = some (.type T)) (h : RR X (e :: es) u l)
    (gl : Gl X x := by rfl) (hn : x ≠ "__name__" := by decide) (hdb : (x == ("__debug__" : Str)) = false := by decide)
    (he : starEach (e :: es) X.env = (false, eval e X.env) :: starEach es X.env := by rfl) (hpl : (backTo pos (starEach es X.env)).any (·.1) = false := by rfl) : RN X (.Call (.Name x p) (e :: es) [] pos) (tCB r u) (nCal g l) :=
  ⟨pe_callTy hc gl hm hv h.pa hn hdb he hpl, ev_calN hg h.ev⟩
theorem rn_calB {u : TA} {l : ML} {x : Str} {p : Pos} {id : String} {r : List V → Hp → VK → Prop} {g : List PyData → Option (List PyData)} (hc : CallR X (.builtin id) r) (hg : CalN r g) (hm : X.mg x = none) (hv : bootBuiltins x = some (.builtin id)) (h : RR X (e :: es) u l)
    (gl : Gl X x := by rfl) (hn : x ≠ "__name__" := by decide) (hdb : (x == ("__debug__" : Str)) = false := by decide)
    (he : starEach (e :: es) X.env = (false, eval e X.env) :: starEach es X.env := by rfl) (hpl : (backTo pos (starEach es X.env)).any (·.1) = false := by rfl) : RN X (.Call (.Name x p) (e :: es) [] pos) (tCB r u) (nCal g l) :=
  ⟨pe_callB hc gl hm hv h.pa hn hdb he hpl, ev_calN hg h.ev⟩
theorem re_call {j k : Nat} {u : TA} {l : MA} {x : Str} {p : Pos} {f : MF} (C : Cee X.prog X.w X.K X.mg X.base j x f) (hr : Room k X.A) (hG : X.A.guards = some []) (h : RA X (e :: es) u l) (hjk : j ≤ k := by decide)
    (gl : Gl X x := by rfl) (hdb : (x == ("__debug__" : Str)) = false := by decide) (he : starEach (e :: es) X.env = (false, eval e X.env) :: starEach es X.env := by rfl) (hpl : (backTo pos (starEach es X.env)).any (·.1) = false := by rfl) :
    RE X (.Call (.Name x p) (e :: es) [] pos) (tCall (spD f) [] E0 u) (eCall f l) := by
  obtain ⟨a, fd, ps, hm, hk, hb, F⟩ := C.ex
  exact ⟨pe_callG F (hr.mono hjk) hG gl hm hk hb pass0 h.pa hdb he hpl, ev_call h.ev⟩
theorem re_call0 {j k : Nat} {x : Str} {p : Pos} {f : MF} (C : Cee X.prog X.w X.K X.mg X.base j x f) (hr : Room k X.A) (hG : X.A.guards = some []) (hjk : j ≤ k := by decide)
    (gl : Gl X x := by rfl) (hdb : (x == ("__debug__" : Str)) = false := by decide) : RE X (.Call (.Name x p) [] [] pos) (tCall (spD f) [] E0 tNil) (eCall f aNil) := by
  obtain ⟨a, fd, ps, hm, hk, hb, F⟩ := C.ex
  exact ⟨pe_callG0 F (hr.mono hjk) hG gl hm hk hb pass0 hdb, ev_call ev_anil⟩
end
/-! slices -/
def okSl (o : Option PyData) : Option (Option Int) := match o with
  | none => some none
  | some (.int i) => some (some i)
  | _ => none
def EvO (t : TO) (mo : List Sl → M (Option Int)) : Prop := ∀ (F : Fm) (t0 t1 : Tape) (ρ : List Sl) (G H : Hp) (σ : St) (o : Option Int), mo ρ t0 = some (o, t1) → Wd F t0 ρ G H σ →
  ∀ Q : Option Int → Hp → Prop, (∀ G' H', Wd F t1 ρ G' H' σ → Gw F G H G' H' → Q o H') → t σ H Q
def pNone : List Sl → M (Option Int) := fun _ => pure none
def intOf : PyData → Option Int
  | .int i => some i
  | _ => none
def pSome (m : ME) : List Sl → M (Option Int) := fun ρ => do
  let d ← m ρ
  let i ← M.lift (intOf d)
  pure (some i)
structure RO (X : Cx) (e : Option Expr) (t : TO) (m : List Sl → M (Option Int)) : Prop where
  po : PO X e t
  ev : EvO t m
def cutD (xs : List PyData) (lo hi : Option Int) : List PyData := (xs.drop (HT.sIx xs.length 0 lo)).take (HT.sIx xs.length xs.length hi - HT.sIx xs.length 0 lo)
theorem RpA.cut {G : Hp} {vs : List V} {ds : List PyData} {lo hi : Option Int} (r : RpA G vs ds) : RpA G (cutV vs lo hi) (cutD ds lo hi) := by
  unfold cutV cutD
  rw [r.length]
  exact (r.drop _).take _
def gCut (d : PyData) (lo hi : Option Int) : Option PyData := match d with
  | .list xs => some (.list (cutD xs lo hi))
  | .tuple xs => some (.tuple (cutD xs lo hi))
  | _ => none
def rCutK (K : PySem.W.Frag) : V → Option Int → Option Int → Hp → VK → Prop := fun x lo hi H Q => rSlL K x lo hi H Q ∨ rSlA K x lo hi H Q
def eCut (ma : ME) (ml mh : List Sl → M (Option Int)) : ME := fun ρ => do
  let d ← ma ρ
  let lo ← ml ρ
  let hi ← mh ρ
  M.lift (gCut d lo hi)
def nCut (ma : ME) (ml mh : List Sl → M (Option Int)) : ML := fun ρ => do
  let d ← ma ρ
  let lo ← ml ρ
  let hi ← mh ρ
  M.lift (match d with
    | .list xs => some (cutD xs lo hi)
    | _ => none)
section
variable {X : Cx} {e a b c : Expr} {es : List Expr} {t ta tb tc : TE} {m ma mb mc : ME} {pos p2 : Pos} {i : Nat} {lo hi : Option Expr} {tl th : TO} {ml mh : List Sl → M (Option Int)}
theorem ro_none : RO X none tNoPart pNone := ⟨po_none, fun F t0 t1 ρ G H σ o e w Q q => by
  obtain ⟨rfl, rfl⟩ := pure_some e
  exact q G H w Gw.refl⟩
theorem ro_some (h : RB X e t m) : RO X (some e) (tPart t) (pSome m) := ⟨po_some h.pe, fun F t0 t1 ρ G H σ o e w Q q => by
  obtain ⟨d, t2, e1, e⟩ := bnd_some e
  obtain ⟨j, t3, e2, e⟩ := bnd_some e
  obtain ⟨f2, rfl⟩ := lift_some e2
  obtain ⟨rfl, rfl⟩ := pure_some e
  refine h.ev F t0 _ ρ G H σ d e1 w _ fun v G' H' w' s r => ?_
  cases d with
  | int z =>
    cases f2
    exact ⟨_, r.int, q G' H' w' s⟩
  | _ => cases f2⟩
theorem re_cut (ha : RB X a ta ma) (hl : RO X lo tl ml) (hh : RO X hi th mh) : RE X (.Subscript a (.Slice lo hi none p2) pos) (tSl (rCutK X.K) ta tl th) (eCut ma ml mh) :=
  ⟨pe_slice (sl_list.or sl_tupA) ha.pe hl.po hh.po, fun F t0 t1 ρ G H σ d e w Q q => by
    obtain ⟨x, t2, e1, e⟩ := bnd_some e
    obtain ⟨l, t3, e2, e⟩ := bnd_some e
    obtain ⟨u, t4, e3, e⟩ := bnd_some e
    obtain ⟨f4, rfl⟩ := lift_some e
    refine ha.ev F t0 t2 ρ G H σ x e1 w _ fun v G1 H1 w1 s1 r1 => ?_
    refine hl.ev F t2 t3 ρ G1 H1 σ l e2 w1 _ fun G2 H2 w2 s2 => ?_
    refine hh.ev F t3 _ ρ G2 H2 σ u e3 w2 _ fun G3 H3 w3 s3 => ?_
    have r3 := (r1.mono s2.gg).mono s3.gg
    have s03 := (s1.trans s2).trans s3
    cases x with
    | list xs =>
      cases f4
      obtain ⟨p, vs, rfl, hp, rp⟩ := r3.lst w3
      refine .inl ⟨p, vs, rfl, SqL.of hp, fun z hz => ?_⟩
      exact q _ _ _ (w3.fz hz) (s03.trans (Gw.fz w3 hz)) (.lst upd_same (rp.cut.mono (Gw.fz w3 hz).gg))
    | tuple xs =>
      cases f4
      obtain ⟨p, vs, rfl, hp, gp, rp⟩ := r3.tup w3
      refine .inr ⟨p, vs, rfl, SqT.of hp, fun hw => ?_, fun hw z hz => ?_⟩
      · have ew : cutD xs l u = xs := by
          unfold cutD
          rw [← rp.length, hw.1, hw.2, List.drop_zero, Nat.sub_zero, rp.length]
          exact List.take_length
        exact q _ G3 H3 w3 s03 (by rw [ew]; exact .tup gp rp)
      · exact q _ _ _ (w3.fz hz) (s03.trans (Gw.fz w3 hz)) (.tup upd_same (rp.cut.mono (Gw.fz w3 hz).gg))
    | _ => cases f4⟩
theorem rn_cut (ha : RB X a ta ma) (hl : RO X lo tl ml) (hh : RO X hi th mh) : RN X (.Subscript a (.Slice lo hi none p2) pos) (tSl (rSlL X.K) ta tl th) (nCut ma ml mh) :=
  ⟨pe_slice sl_list ha.pe hl.po hh.po, fun F t0 t1 ρ G H σ d e w Q q => by
    obtain ⟨x, t2, e1, e⟩ := bnd_some e
    obtain ⟨l, t3, e2, e⟩ := bnd_some e
    obtain ⟨u, t4, e3, e⟩ := bnd_some e
    obtain ⟨f4, rfl⟩ := lift_some e
    refine ha.ev F t0 t2 ρ G H σ x e1 w _ fun v G1 H1 w1 s1 r1 => ?_
    refine hl.ev F t2 t3 ρ G1 H1 σ l e2 w1 _ fun G2 H2 w2 s2 => ?_
    refine hh.ev F t3 _ ρ G2 H2 σ u e3 w2 _ fun G3 H3 w3 s3 => ?_
    have r3 := (r1.mono s2.gg).mono s3.gg
    have s03 := (s1.trans s2).trans s3
    cases x with
    | list xs =>
      cases f4
      obtain ⟨p, vs, rfl, hp, rp⟩ := r3.lst w3
      refine ⟨p, vs, rfl, SqL.of hp, fun z hz => ?_⟩
      obtain ⟨w4, o4, n4⟩ := w3.newL hz (rp.cut (lo := l) (hi := u))
      exact q z G3 _ w4 (s03.trans (Gw.raw hz)) ⟨o4, n4⟩ (kp_none w s03 hz (w3.co.T_ne hz))
    | _ => cases f4⟩
/-! targets, what is walked, comprehensions -/
theorem rg_name {x : Str} (nd : X.N.Nodup) (hi : X.N[i]? = some x) (hx : Loc X.env.scope x) (hf : X.fn x = true ∨ X.env.scope.names.lookup x = some .local := by first | exact .inl rfl | exact .inr rfl | assumption) : RG X (.Name x pos) (gName i) (mName i) [i] :=
  ⟨pg_name nd hi hx hf, ev_gname i⟩
theorem rgs_nil : RGs X [] gNil mgNil [] := ⟨pgs_nil, ev_gnil⟩
theorem rgs_cons {g : TG} {gs : TGs} {k : MG} {ks : MGs} {is js : List Nat} (h : RG X e g k is) (r : RGs X es gs ks js) (hp : PGs X (e :: es) (gCons g gs)) : RGs X (e :: es) (gCons g gs) (mgCons k ks) (is ++ js) := ⟨hp, ev_gcons h.ev r.ev⟩
theorem rg_seq {k : Nat} {g : TGs} {ks : MGs} {is : List Nat} {n : Nat} (hc : X.calm = true) (h : RGs X es g ks is) (hn : (assignEach es X.env).length = n := by rfl) (hst : (assignEach es X.env).findIdx? (·.1) = none := by rfl) :
    RG X (.Tuple es k pos) (gSeq X.K n g) (mSeq n ks) is := ⟨pg_seq hc h.pg hn hst, ev_gseq h.ev⟩
theorem ri_seq {tg : Expr} (h : RE X e t m) : RI X tg e (iSeq X.K t) (lSeq m) := ⟨pi_seq h.pe, ev_iseq h.ev⟩
theorem ri_rg1 {tg : Expr} {u : TA} {l : ML} {p : Pos} (hm : X.mg "range" = none) (h : RR X [a] u l) (hg : Gl X "range" := by rfl) (hs : starEach [a] X.env = [(false, eval a X.env)] := by rfl) : RI X tg (.Call (.Name "range" p) [a] [] pos) (iRng1 u) (nCal rng1 l) := ⟨pi_range1 hg hm h.pa hs, ev_irg1 h.ev⟩
theorem ri_rg2 {tg : Expr} {u : TA} {l : ML} {p : Pos} (hm : X.mg "range" = none) (h : RR X [a, b] u l) (hg : Gl X "range" := by rfl) (hs : starEach [a, b] X.env = [(false, eval a X.env), (false, eval b X.env)] := by rfl) (hs2 : starEach [b] X.env = [(false, eval b X.env)] := by rfl) :
    RI X tg (.Call (.Name "range" p) [a, b] [] pos) (iRng2 u) (nCal rng2 l) := ⟨pi_range2 hg hm h.pa hs hs2, ev_irg2 h.ev⟩
structure RTs (X : Cx) (es : List Expr) (t : TT) (m : MB) : Prop where
  pt : PTs X es t
  ev : EvT t m
theorem rts_nil : RTs X [] tYes bYes := ⟨pts_nil, ev_yes⟩
theorem rts_one {u : TT} {k : MB} (h : RT X c u k) : RTs X [c] u k := ⟨pts_one h.pt, h.ev⟩
theorem rn_comp {elt tg iter : Expr} {ifs : List Expr} {scope : Scope} (own : List (Str × Nat)) {w : TI} {mi : ML} {g : TG} {k : MG} {u : TT} {q : MB} (hc : X.calm = true) (nd : X.N.Nodup) (hi : RI X tg iter w mi) (ok : BlkOk X.N X.env.scope scope own)
    (hg : ∀ (s : Shared) (H : Hp) (C : Addr) (cl : List (Str × Addr)) (fp : List Addr), RG (X.blk s H scope (compEnvC scope cl C X.env) fp) tg g k (own.map (·.2)))
    (ht : ∀ (s : Shared) (H : Hp) (C : Addr) (cl : List (Str × Addr)) (fp : List Addr), RTs (X.blk s H scope (compEnvC scope cl C X.env) fp) ifs u q)
    (he : ∀ (s : Shared) (H : Hp) (C : Addr) (cl : List (Str × Addr)) (fp : List Addr), RE (X.blk s H scope (compEnvC scope cl C X.env) fp) elt t m) (hs : ∀ x, foldedSetIterable iter X.env x = pure x := by intro _; rfl) :
    RN X (.ListComp elt [⟨tg, iter, ifs, 0⟩] scope pos) (tLc w g u t (own.map (·.2))) (nComp mi k (own.map (·.2)) q m) :=
  ⟨pe_lc hc nd hi.pi ok (fun s H C cl fp => (hg s H C cl fp).pg) (fun s H C cl fp => (ht s H C cl fp).pt) (fun s H C cl fp => (he s H C cl fp).pe) hs,
    ev_comp hi.ev (hg X.s_0 X.H_0 0 [] []).ev (ht X.s_0 X.H_0 0 [] []).ev (he X.s_0 X.H_0 0 [] []).ev⟩
/-! statements -/
variable {s : Stmt} {ss : List Stmt} {u u' : TS} {k k' : MS}
theorem rss_nil : RSs X [] tNext sNext := ⟨pss_nil, ev_next⟩
theorem rss_one (h : RS X s u k) : RSs X [s] u k := ⟨pss_one h.ps, h.ev⟩
theorem rss_cons (h : RS X s u k) (r : RSs X ss u' k') : RSs X (s :: ss) (tSeq u u') (sSeq k k') := ⟨pss_cons h.ps r.ps, ev_seq h.ev r.ev⟩
theorem RSs.frz (i : Nat) (h : RSs X ss u k) : RSs X ss u (sFrz i k) := ⟨h.ps, ev_frz h.ev⟩
theorem RS.frz (i : Nat) (h : RS X s u k) : RS X s u (sFrz i k) := ⟨h.ps, ev_frz h.ev⟩
theorem rs_pass : RS X (.Pass pos) tNext sNext := ⟨ps_pass, ev_next⟩
theorem rs_break : RS X (.Break pos) tBreak sBreak := ⟨ps_break, ev_break⟩
theorem rs_cont : RS X (.Continue pos) tCont sCont := ⟨ps_continue, ev_cont⟩
theorem rs_ret (h : RE X e t m) : RS X (.Return (some e) pos) (tRet t) (sRet m) := ⟨ps_ret h.pe, ev_ret h.ev⟩
theorem rs_if {v : TT} {q : MB} {sa sb : List Stmt} (hc : RT X c v q) (ha : RSs X sa u k) (hb : RSs X sb u' k') : RS X (.If c sa sb pos) (tIfS v u u') (sIf q k k') := ⟨ps_if hc.pt ha.ps hb.ps, ev_ifS hc.ev ha.ev hb.ev⟩
theorem rs_expr (h : RE X e t m) (hs : swapsWith e none pos.line X.env = pure false := by rfl) : RS X (.Expr e pos) (tDrop t) (sDrop m) := ⟨ps_expr h.pe hs, ev_drop h.ev⟩
/-- x = e (the statement's rule handed in: ps_set or ps_setLc) -/
theorem rs_set (hp : PS X s (tAsg t (gName i))) (h : EvF t m) : RS X s (tAsg t (gName i)) (sAsg m (mName i)) := ⟨hp, ev_asg h (ev_gname i)⟩
theorem rs_own {l : ML} (hp : PS X s (tAsg t (gName i))) (h : EvN t l) : RS X s (tAsg t (gName i)) (sOwn i l) := ⟨hp, ev_own h⟩
theorem rs_asg {tg : Expr} {g : TG} {q : MG} {is : List Nat} (he : RE X e t m) (hg : RG X tg g q is) (hs : swapsWithSole [tg] e pos.line X.env = pure false := by rfl) (hw : swappedStores [tg] e X.env = pure none := by rfl) (h1 : (assignEach [tg] X.env).map (·.2) = [assign tg X.env] := by rfl) : RS X (.Assign [tg] e pos) (tAsg t g) (sAsg m q) :=
  ⟨ps_asg he.pe hg.pg hs hw h1, ev_asg he.ev hg.ev⟩
theorem rs_app (hp : PS X s (tDrop (tBM X.K "list" rAppend (tVar i) (tCons t tNil)))) (h : EvF t m) : RS X s (tDrop (tBM X.K "list" rAppend (tVar i) (tCons t tNil))) (sApp i m) := ⟨hp, ev_app h⟩
theorem rs_ext (hp : PS X s (tDrop (tBM X.K "list" rExtend (tVar i) (tCons t tNil)))) (h : EvB t m) : RS X s (tDrop (tBM X.K "list" rExtend (tVar i) (tCons t tNil))) (sExt i m) := ⟨hp, ev_ext h⟩
theorem rs_pop (hp : PS X s (tDrop (tBM0 X.K "list" rPop (tVar i)))) : RS X s (tDrop (tBM0 X.K "list" rPop (tVar i))) (sPop i) := ⟨hp, ev_pop⟩
theorem rs_popTo {g : TG} {q : MG} {is : List Nat} (hp : PS X s (tAsg (tBM0 X.K "list" rPop (tVar i)) g)) (hg : EvG g q is) : RS X s (tAsg (tBM0 X.K "list" rPop (tVar i)) g) (sPopTo i q) := ⟨hp, ev_popTo hg⟩
theorem rs_setI (hp : PS X s (tAsg t (L2.gSub (tVar i) tb rSetL))) (h : EvF t m) (hk : EvB tb mb) : RS X s (tAsg t (L2.gSub (tVar i) tb rSetL)) (sSetI i mb m) := ⟨hp, ev_setI h hk⟩
theorem rs_for {tg iter : Expr} {w : TI} {mi : ML} {g : TG} {q : MG} {is : List Nat} (hpo : PassesOwn (model X.prog X.w) X.A X.env X.xe) (hc : X.calm = true) (hi : RI X tg iter w mi) (hg : RG X tg g q is) (hb : RSs X ss u k)
    (hs : ∀ x, foldedSetIterable iter X.env x = pure x := by intro _; rfl) : RS X (.For tg iter ss [] pos) (tFor w g u) (sFor mi q k) := ⟨ps_for hpo hc hi.pi hg.pg hb.ps hs, ev_for hi.ev hg.ev hb.ev⟩
theorem rs_while {v : TT} {q : MB} (fuel : List Sl → Nat) (hpo : PassesOwn (model X.prog X.w) X.A X.env X.xe) (hc : RT X c v q) (hb : RSs X ss u k) : RS X (.While c ss [] pos) (tWhile v u) (sWhile fuel q k) := ⟨ps_while hpo hc.pt hb.ps, ev_while fuel hc.ev hb.ev⟩
end
end DL

set_option maxHeartbeats 1000000
/-! The data layer, part G: the tape's fields, repr, the end of a law. -/
namespace DL
open PySem L2

/-! ### the tape's fields -/
def fldOf (t : Tape) (k : Nat) : PyData := match k with
  | 0 => .list (t.cells.map PyData.int)
  | 1 => .int t.at_
  | 2 => .int t.left
  | _ => .int t.turn
def fldV (c : Addr) (t : Tape) (k : Nat) : V := match k with
  | 0 => .ref c
  | 1 => .int t.at_
  | 2 => .int t.left
  | _ => .int t.turn
theorem fld_rp {G : Hp} {c : Addr} {t : Tape} (h : G c = some (.lst (t.cells.map V.int))) : ∀ k, Rp G (fldV c t k) (fldOf t k)
  | 0 => .lst h (RpA.ints _)
  | 1 => .int _
  | 2 => .int _
  | _ + 3 => .int _
theorem kne {kd j k : Nat} (h : keyN kd j ≠ keyN kd k) : ¬ (Sum.inr (keyN kd j) : Key) = Sum.inr (keyN kd k) := fun e => h (Sum.inr.inj e)
structure KeysOk (kd : Nat) : Prop where
  n1 : kd ≠ 1
  a01 : keyN kd 0 ≠ keyN kd 1
  a02 : keyN kd 0 ≠ keyN kd 2
  a03 : keyN kd 0 ≠ keyN kd 3
  a12 : keyN kd 1 ≠ keyN kd 2
  a13 : keyN kd 1 ≠ keyN kd 3
  a23 : keyN kd 2 ≠ keyN kd 3
theorem keys0 : KeysOk 0 := ⟨by decide, by decide +kernel, by decide +kernel, by decide +kernel, by decide +kernel, by decide +kernel, by decide +kernel⟩
theorem keys2 : KeysOk 2 := ⟨by decide, by decide +kernel, by decide +kernel, by decide +kernel, by decide +kernel, by decide +kernel, by decide +kernel⟩
theorem keys3 : KeysOk 3 := ⟨by decide, by decide +kernel, by decide +kernel, by decide +kernel, by decide +kernel, by decide +kernel, by decide +kernel⟩
def tKvs (c : Addr) (t : Tape) : List (Key × V) := [(Sum.inr (keyN t.kind 0), .ref c), (Sum.inr (keyN t.kind 1), .int t.at_), (Sum.inr (keyN t.kind 2), .int t.left), (Sum.inr (keyN t.kind 3), .int t.turn)]
theorem tape_get {c : Addr} {t : Tape} (K : KeysOk t.kind) {k : Nat} (hk : k < 4) : valV (tKvs c t) (Sum.inr (keyN t.kind k) : Key) = some (fldV c t k) := by
  unfold tKvs
  match k, hk with
  | 0, _ => exact valV_pos rfl
  | 1, _ => rw [valV_neg (kne K.a01)]; exact valV_pos rfl
  | 2, _ => rw [valV_neg (kne K.a02), valV_neg (kne K.a12)]; exact valV_pos rfl
  | 3, _ => rw [valV_neg (kne K.a03), valV_neg (kne K.a13), valV_neg (kne K.a23)]; exact valV_pos rfl
/-- a field of ints stored -/
def tSet (t : Tape) (k : Nat) (i : Int) : Tape := match k with
  | 1 => { t with at_ := i }
  | 2 => { t with left := i }
  | _ => { t with turn := i }
theorem tape_put {c : Addr} {t : Tape} (K : KeysOk t.kind) {k : Nat} (h0 : 0 < k) (hk : k < 4) (i : Int) : putK (tKvs c t) (Sum.inr (keyN t.kind k) : Key) (.int i) = tKvs c (tSet t k i) := by
  have any : ((tKvs c t).any fun kv => decide (kv.1 = (Sum.inr (keyN t.kind k) : Key))) = true := by
    rw [valV_any, tape_get K hk]
    rfl
  unfold putK
  rw [if_pos any]
  unfold tKvs
  match k, h0, hk with
  | 1, _, _ => simp [tSet, kne K.a01, kne K.a12.symm, kne K.a13.symm]
  | 2, _, _ => simp [tSet, kne K.a02, kne K.a12, kne K.a23.symm]
  | 3, _, _ => simp [tSet, kne K.a03, kne K.a13, kne K.a23]
def eTGet (kd i k : Nat) : ME := fun ρ t => if isTp ρ i && (t.kind == kd) then some (fldOf t k, t) else none
def doPut (kd : Nat) (b : Bool) (ρ : List Sl) (k : Nat) (z : Int) : M Out := fun t => if b && (t.kind == kd) then some (.nx ρ, tSet t k z) else none
def sTPut (kd i k : Nat) (m : ME) : MS := fun ρ => do
  let d ← m ρ
  let z ← M.lift (intOf d)
  doPut kd (isTp ρ i) ρ k z
theorem tSet_kind (t : Tape) (k : Nat) (i : Int) : (tSet t k i).kind = t.kind := by
  unfold tSet
  split <;> rfl
theorem tSet_cells (t : Tape) (k : Nat) (i : Int) : (tSet t k i).cells = t.cells := by
  unfold tSet
  split <;> rfl
theorem tapeObj_d {c : Addr} {t : Tape} (h : t.kind ≠ 1) : tapeObj c t = .dK (tKvs c t) := if_neg h
/-- the tape is changed -/
theorem Wd.tape' {F : Fm} {t t' : Tape} {ρ : List Sl} {G H : Hp} {σ : St} {c : Addr} (w : Wd F t ρ G H σ) (hc : G c = some (.lst (t'.cells.map V.int))) : Wd F t' ρ G (upd H F.T (tapeObj c t')) σ := by
  have kp : ∀ b o, b ≠ F.T → H b = some o → upd H F.T (tapeObj c t') b = some o := fun b o n e => by rw [upd_ne n]; exact e
  have co : Co F t' G (upd H F.T (tapeObj c t')) := ⟨fun b o e => kp b o (fun z => by rw [z, w.co.gT] at e; cases e) (w.co.sub b o e), w.co.gT, ⟨c, hc, upd_same⟩, fun b o e n => kp b o n (w.co.fr b o e n), w.co.gn⟩
  exact w.grow co (Same.refl G) (fun b o e n => kp b o n e) fun _ _ _ e => .inl e
theorem ev_tgetD {kd i k : Nat} (K : KeysOk kd) (hk : k < 4) : EvF (tDGet (tVar i) (tC (.str (keyN kd k)))) (eTGet kd i k) := fun F t0 t1 ρ G H σ d e w Q q => by
  unfold eTGet at e
  split at e
  · rename_i hc
    rw [Bool.and_eq_true] at hc
    cases e
    have hkd : t0.kind = kd := by simpa using hc.2
    subst hkd
    obtain ⟨c, c1, c2⟩ := w.co.tape
    rw [tapeObj_d K.n1] at c2
    refine ⟨_, w.tpv (isTp_eq hc.1), F.T, fldV c t0 k, rfl, ?_, q _ G H w Gw.refl (fld_rp c1 k)⟩
    have := DGet.k (k := (Sum.inr (keyN t0.kind k) : Key)) c2
    rw [tape_get K hk] at this
    exact this
  · cases e
theorem ev_tputD {kd i k : Nat} {tv : TE} {m : ME} (K : KeysOk kd) (h0 : 0 < k) (hk : k < 4) (hv : EvF tv m) : EvS (sDPut (tVar i) (tC (.str (keyN kd k))) tv) (sTPut kd i k m) := fun F t0 t1 ρ G H σ o e w D p => by
  obtain ⟨d, t2, e1, e⟩ := bnd_some e
  obtain ⟨z, t3, e2, e⟩ := bnd_some e
  obtain ⟨f2, rfl⟩ := lift_some e2
  unfold doPut at e
  split at e
  · rename_i hc
    rw [Bool.and_eq_true] at hc
    cases e
    have hkd : t2.kind = kd := by simpa using hc.2
    subst hkd
    refine hv F t0 t2 ρ G H σ d e1 w _ fun v G1 H1 w1 s1 r1 => ?_
    have ed : d = .int z := by
      cases d with
      | int j => cases f2; rfl
      | _ => cases f2
    subst ed
    cases r1
    obtain ⟨c, c1, c2⟩ := w1.co.tape
    rw [tapeObj_d K.n1] at c2
    refine ⟨_, w1.tpv (isTp_eq hc.1), F.T, _, rfl, DPut.k (k := (Sum.inr (keyN t2.kind k) : Key)) c2 (by show 4 < sizeLine; decide), ?_⟩
    rw [tape_put K h0 hk]
    have e3 : HO.dK (tKvs c (tSet t2 k z)) = tapeObj c (tSet t2 k z) := (tapeObj_d (by rw [tSet_kind]; exact K.n1)).symm
    rw [e3]
    exact p σ G1 _ (w1.tape' (by rw [tSet_cells]; exact c1)) s1.gg
  · cases e
/-- the tape as a list -/
theorem ev_tgetL {K : PySem.W.Frag} {i k : Nat} (hk : k < 3) : EvF (tOp (rIx K) (tVar i) (tC (.int k))) (eTGet 1 i k) := fun F t0 t1 ρ G H σ d e w Q q => by
  unfold eTGet at e
  split at e
  · rename_i hc
    rw [Bool.and_eq_true] at hc
    cases e
    have hkd : t0.kind = 1 := by simpa using hc.2
    obtain ⟨c, c1, c2⟩ := w.co.tape
    have c3 : H F.T = some (.lst [.ref c, .int t0.at_, .int t0.left]) := by
      rw [c2]
      unfold tapeObj
      rw [if_pos hkd]
    refine ⟨_, w.tpv (isTp_eq hc.1), .inl ⟨F.T, _, k, fldV c t0 k, rfl, rfl, SqL.of c3, ?_, q _ G H w Gw.refl (fld_rp c1 k)⟩⟩
    match k, hk with
    | 0, _ => rfl
    | 1, _ => rfl
    | 2, _ => rfl
  · cases e
theorem ev_tputL {i k : Nat} {tv : TE} {m : ME} (h0 : 0 < k) (hk : k < 3) (hv : EvF tv m) : EvS (tAsg tv (L2.gSub (tVar i) (tC (.int k)) rSetL)) (sTPut 1 i k m) := fun F t0 t1 ρ G H σ o e w D p => by
  obtain ⟨d, t2, e1, e⟩ := bnd_some e
  obtain ⟨z, t3, e2, e⟩ := bnd_some e
  obtain ⟨f2, rfl⟩ := lift_some e2
  unfold doPut at e
  split at e
  · rename_i hc
    rw [Bool.and_eq_true] at hc
    cases e
    have hkd : t2.kind = 1 := by simpa using hc.2
    refine hv F t0 t2 ρ G H σ d e1 w _ fun v G1 H1 w1 s1 r1 => ?_
    have ed : d = .int z := by
      cases d with
      | int j => cases f2; rfl
      | _ => cases f2
    subst ed
    cases r1
    obtain ⟨c, c1, c2⟩ := w1.co.tape
    have c3 : H1 F.T = some (.lst [.ref c, .int t2.at_, .int t2.left]) := by
      rw [c2]
      unfold tapeObj
      rw [if_pos hkd]
    have e3 : ∀ t' : Tape, t'.kind = 1 → HO.lst [.ref c, .int t'.at_, .int t'.left] = tapeObj c t' := fun t' h => (if_pos h).symm
    refine ⟨_, w1.tpv (isTp_eq hc.1), F.T, _, k, k, rfl, rfl, c3, ?_, ?_⟩
    · match k, hk with
      | 0, _ => rfl
      | 1, _ => rfl
      | 2, _ => rfl
    · have : HO.lst (List.set [V.ref c, V.int t2.at_, V.int t2.left] k (V.int z)) = tapeObj c (tSet t2 k z) := by
        match k, h0, hk with
        | 1, _, _ => exact e3 (tSet t2 1 z) hkd
        | 2, _, _ => exact e3 (tSet t2 2 z) hkd
      rw [this]
      exact p σ G1 _ (w1.tape' (by rw [tSet_cells]; exact c1)) s1.gg
  · cases e

/-! ### repr -/
def isSeqD : PyData → Bool
  | .list _ => true
  | .tuple _ => true
  | _ => false
mutual
/-- leaves of moderate size: ints below 2 ^ 690, texts of good codes -/
def leafOk : PyData → Bool
  | .none => true
  | .bool _ => true
  | .int i => decide (i.natAbs < 2 ^ 690)
  | .str x => PyData.strOk x
  | .list xs => leafOkA xs
  | .tuple xs => leafOkA xs
  | .dict _ => false
def leafOkA : List PyData → Bool
  | [] => true
  | x :: xs => leafOk x && leafOkA xs
end
theorem int_log {i : Int} (h : i.natAbs < 2 ^ 690) : i.natAbs.log2 < 690 := by
  by_cases z : i.natAbs = 0
  · rw [z]; decide
  · exact (Nat.log2_lt z).mpr h
mutual
theorem leaf_lay : ∀ d : PyData, leafOk d = true → d.canLay0 = true
  | .none, _ => rfl
  | .bool _, _ => rfl
  | .int _, _ => rfl
  | .str x, h => h
  | .list xs, h => leaf_layA xs h
  | .tuple xs, h => leaf_layA xs h
  | .dict _, h => nomatch h
theorem leaf_layA : ∀ xs : List PyData, leafOkA xs = true → PyData.canLayAll0 xs = true
  | [], _ => rfl
  | x :: xs, h => by
    rw [leafOkA, Bool.and_eq_true] at h
    rw [PyData.canLayAll0, leaf_lay x h.1, leaf_layA xs h.2]
    rfl
end
mutual
theorem leaf_show : ∀ d : PyData, leafOk d = true → d.showable = true
  | .none, _ => rfl
  | .bool _, _ => rfl
  | .int i, h => by
    have h1 := int_log (i := i) (by simpa [leafOk] using h)
    rw [PyData.showable]
    exact decide_eq_true (by omega)
  | .str x, h => rfl
  | .list xs, h => by rw [PyData.showable]; exact leaf_showA xs h
  | .tuple xs, h => by rw [PyData.showable]; exact leaf_showA xs h
  | .dict _, h => nomatch h
theorem leaf_showA : ∀ xs : List PyData, leafOkA xs = true → PyData.showableAll xs = true
  | [], _ => rfl
  | x :: xs, h => by
    rw [leafOkA, Bool.and_eq_true] at h
    rw [PyData.showableAll, leaf_show x h.1, leaf_showA xs h.2]
    rfl
end
mutual
theorem leaf_short : ∀ d : PyData, leafOk d = true → d.intsShort 700 = true
  | .none, _ => rfl
  | .bool _, _ => rfl
  | .int i, h => by
    have h1 := int_log (i := i) (by simpa [leafOk] using h)
    have h2 := int_text_length_le (k := 690) (by decide) h1
    rw [PyData.intsShort]
    refine decide_eq_true ?_
    show (Str.ofString (toString i)).length ≤ 700
    rw [ofString_length]
    omega
  | .str x, h => rfl
  | .list xs, h => by rw [PyData.intsShort]; exact leaf_shortA xs h
  | .tuple xs, h => by rw [PyData.intsShort]; exact leaf_shortA xs h
  | .dict _, h => nomatch h
theorem leaf_shortA : ∀ xs : List PyData, leafOkA xs = true → PyData.intsShortAll 700 xs = true
  | [], _ => rfl
  | x :: xs, h => by
    rw [leafOkA, Bool.and_eq_true] at h
    rw [PyData.intsShortAll, leaf_short x h.1, leaf_shortA xs h.2]
    rfl
end
mutual
theorem leaf_nodict : ∀ d : PyData, leafOk d = true → d.hasDict = false
  | .none, _ => rfl
  | .bool _, _ => rfl
  | .int i, h => rfl
  | .str x, h => rfl
  | .list xs, h => by rw [PyData.hasDict]; exact leaf_nodictA xs h
  | .tuple xs, h => by rw [PyData.hasDict]; exact leaf_nodictA xs h
  | .dict _, h => nomatch h
theorem leaf_nodictA : ∀ xs : List PyData, leafOkA xs = true → PyData.hasDictAll xs = false
  | [], _ => rfl
  | x :: xs, h => by
    rw [leafOkA, Bool.and_eq_true] at h
    rw [PyData.hasDictAll, leaf_nodict x h.1, leaf_nodictA xs h.2]
    rfl
end
theorem leaf_len {d : PyData} (h : leafOk d = true) (hw : d.weight ≤ 20000) : d.shown.length ≤ sizeLine := by
  have h2 := PyData.shown_le 700 (by decide) d (PyData.leavesShort_of_canLay0 700 d (leaf_lay d h) (leaf_short d h))
  have h3 : (700 + 2) * d.weight + 700 ≤ 14040700 := by omega
  rw [sizeLine_eq]
  omega
mutual
/-- ints below 2 ^ 200 -/
def leafS : PyData → Bool
  | .int i => decide (i.natAbs < 2 ^ 200)
  | .list xs => leafSA xs
  | .tuple xs => leafSA xs
  | _ => true
def leafSA : List PyData → Bool
  | [] => true
  | x :: xs => leafS x && leafSA xs
end
mutual
theorem leafS_short : ∀ d : PyData, leafOk d = true → leafS d = true → d.intsShort 210 = true
  | .none, _, _ => rfl
  | .bool _, _, _ => rfl
  | .int i, _, h => by
    have h0 : i.natAbs < 2 ^ 200 := by simpa [leafS] using h
    have h1 : i.natAbs.log2 < 201 := by
      by_cases z : i.natAbs = 0
      · rw [z]; decide
      · exact Nat.lt_of_lt_of_le ((Nat.log2_lt z).mpr h0) (by decide)
    have h2 := int_text_length_le (k := 201) (by decide) h1
    rw [PyData.intsShort]
    refine decide_eq_true ?_
    show (Str.ofString (toString i)).length ≤ 210
    rw [ofString_length]
    omega
  | .str x, _, _ => rfl
  | .list xs, h, h' => by rw [PyData.intsShort]; exact leafS_shortA xs h h'
  | .tuple xs, h, h' => by rw [PyData.intsShort]; exact leafS_shortA xs h h'
  | .dict _, h, _ => nomatch h
theorem leafS_shortA : ∀ xs : List PyData, leafOkA xs = true → leafSA xs = true → PyData.intsShortAll 210 xs = true
  | [], _, _ => rfl
  | x :: xs, h, h' => by
    rw [leafOkA, Bool.and_eq_true] at h
    rw [leafSA, Bool.and_eq_true] at h'
    rw [PyData.intsShortAll, leafS_short x h.1 h'.1, leafS_shortA xs h.2 h'.2]
    rfl
end
theorem leaf_lenS {d : PyData} (h : leafOk d = true) (h' : leafS d = true) (hw : d.weight ≤ 60000) : d.shown.length ≤ sizeLine := by
  have h2 := PyData.shown_le 210 (by decide) d (PyData.leavesShort_of_canLay0 210 d (leaf_lay d h) (leafS_short d h h'))
  have h3 : (210 + 2) * d.weight + 210 ≤ 12720210 := by omega
  rw [sizeLine_eq]
  omega
def okRepr (d : PyData) : Bool := isSeqD d && leafOk d && decide (d.depth ≤ 50) && (decide (d.weight ≤ 20000) || (leafS d && decide (d.weight ≤ 60000)))
theorem okRepr_len {d : PyData} (h : leafOk d = true) (hw : (decide (d.weight ≤ 20000) || (leafS d && decide (d.weight ≤ 60000))) = true) : d.shown.length ≤ sizeLine := by
  rw [Bool.or_eq_true, Bool.and_eq_true, decide_eq_true_eq, decide_eq_true_eq] at hw
  rcases hw with q | q
  · exact leaf_len h q
  · exact leaf_lenS h q.1 q.2
def rRepr (K : PySem.W.Frag) : List V → Hp → VK → Prop := fun xs H Q => ∃ x d, xs = [x] ∧ Dp K H x d ∧ okRepr d = true ∧ Q (.str d.shown) H
theorem call_repr {X : Cx} {k : Nat} (hr : Room k X.A) (hG : X.A.guards = some []) : CallR X (.builtin "repr") (rRepr X.K) := by
  intro pins s σ H xs us Q I r h
  obtain ⟨x, d, rfl, hd, ok, q⟩ := h
  obtain ⟨u, rfl, rx⟩ := vals1 r
  obtain ⟨as, rd⟩ := Dp.reads I d x u hd rx
  unfold okRepr at ok
  rw [Bool.and_eq_true, Bool.and_eq_true, Bool.and_eq_true, decide_eq_true_eq] at ok
  obtain ⟨⟨⟨o1, o2⟩, o4⟩, o5⟩ := ok
  have o3 := leaf_nodict d o2
  have hu := hr.units
  have fin : ∀ a, u = .ref a → wpAny (model X.prog X.w) X.A (call (.builtin "repr") [u]) (EP X pins σ Q) X.xe s := fun a e => by
    subst e
    refine repr_of_reads' rd (leaf_show d o2) (fun z => by rw [o3] at z; cases z) hG (by omega) (fun _ _ z => z) (fun h' w tk hk => ?_) (okRepr_len o2 o5)
    exact ⟨.str _, H, I.kept hk, ⟨_, rfl⟩, q⟩
  cases hd with
  | lst _ _ => cases rx; exact fin _ rfl
  | tup _ _ => cases rx; exact fin _ rfl
  | _ => cases o1
def cRepr : List PyData → Option PyData
  | [d] => if okRepr d then some (.str d.shown) else none
  | _ => none
theorem k_repr {K : PySem.W.Frag} : Cal (rRepr K) cRepr := fun F t ρ G H σ vs ds c e w hx Q q => by
  unfold cRepr at e
  split at e
  · rename_i d
    split at e
    · rename_i ok
      cases e
      cases hx with
      | cons h r =>
        cases r
        exact ⟨_, d, rfl, (h.rp w).dp, ok, q _ G H w Gw.refl (.str _)⟩
    · cases e
  · cases e
end DL

set_option maxHeartbeats 1000000
/-! The data layer, part H: how a tape is made, the law's own def, the end. -/
namespace DL
open PySem L2 PySem.Spec PyProof.Rows

def spTape (K : PySem.W.Frag) (kd : Nat) : Sp := fun vs H Q _ => ∃ (a : Addr) (ns : List Int), vs = [.ref a] ∧ SqL K H a (ns.map V.int) ∧ ns.length ≤ 63 ∧
  ∀ (T c : Addr) (H' : Hp), H T = none → H c = none → c ≠ T → Same H H' → H' c = some (.lst (ns.map V.int)) → H' T = some (tapeObj c ⟨kd, ns, 0, 0, 0⟩) → Q (.ref T) H'
/-- the script's cells, a new list -/
def EvCells (K : PySem.W.Frag) (te : TE) : Prop := ∀ (σ : L2.St) (H : Hp) (a : Addr) (ns : List Int), σ[0]? = some (some (.ref a)) → SqL K H a (ns.map V.int) → ns.length ≤ 63 →
  ∀ Q : VK, (∀ c H', H c = none → Same H H' → H' c = some (.lst (ns.map V.int)) → Q (.ref c) H') → te σ H Q
theorem cut63 {ns : List Int} (h : ns.length ≤ 63) : cutV (ns.map V.int) none (some 63) = ns.map V.int := by
  unfold cutV
  rw [show HT.sIx (ns.map V.int).length (ns.map V.int).length (some 63) = min 63 (ns.map V.int).length from HT.sIx_nat _ _ 63, HT.sIx_none, List.drop_zero, Nat.sub_zero]
  refine List.take_of_length_le ?_
  rw [List.length_map]
  omega
theorem cells_cut {K : PySem.W.Frag} : EvCells K (tSl (rSlL K) (tVar 0) tNoPart (tPart (tC (.int 63)))) := fun σ H a ns hσ hS hl Q q => by
  refine ⟨_, hσ, 63, rfl, a, _, rfl, hS, fun p hp => ?_⟩
  rw [cut63 hl]
  exact q p _ hp (same_upd hp) upd_same
theorem cells_list {K : PySem.W.Frag} : EvCells K (tCB (fun xs H Q => ∃ p ys, xs = [.ref p] ∧ (SqL K H p ys ∨ SqT K H p ys) ∧ ∀ l, H l = none → Q (.ref l) (upd H l (.lst ys))) (tCons (tSl (rSlL K) (tVar 0) tNoPart (tPart (tC (.int 63)))) tNil)) :=
  fun σ H a ns hσ hS hl Q q => cells_cut σ H a ns hσ hS hl _ fun c H' _ s e => ⟨c, _, rfl, .inl (SqL.of e), fun l hl' => q l _ (s.free hl') (s.trans (same_upd hl')) upd_same⟩
def EvTape (K : PySem.W.Frag) (kd : Nat) (t : TS) : Prop := ∀ (H : Hp) (a : Addr) (ns : List Int) (Q : VK), SqL K H a (ns.map V.int) → ns.length ≤ 63 →
  (∀ (T c : Addr) (H' : Hp), H T = none → H c = none → c ≠ T → Same H H' → H' c = some (.lst (ns.map V.int)) → H' T = some (tapeObj c ⟨kd, ns, 0, 0, 0⟩) → Q (.ref T) H') →
  t { nx := fun _ H' => Q .non H', rt := Q } [some (.ref a)] H
theorem ev_tapeL {K : PySem.W.Frag} {te : TE} (h : EvCells K te) : EvTape K 1 (tRet (tLst (tCons te (tCons (tC (.int 0)) (tCons (tC (.int 0)) tNil))))) := fun H a ns Q hS hl q =>
  h _ H a ns rfl hS hl _ fun c H' nc s e => ⟨by show 3 ≤ sizeLine; decide, fun p hp => q p c _ (s.free hp) nc (ne_of_none e hp) (s.trans (same_upd hp)) (same_upd hp _ _ e) upd_same⟩
theorem merge4 {c : Addr} {t : Tape} (K : KeysOk t.kind) : mergeK [] (tKvs c t) = tKvs c t := by
  have p0 : putK [] (Sum.inr (keyN t.kind 0) : Key) (V.ref c) = [(Sum.inr (keyN t.kind 0), .ref c)] := rfl
  have p1 : putK [((Sum.inr (keyN t.kind 0) : Key), V.ref c)] (Sum.inr (keyN t.kind 1) : Key) (V.int t.at_) = [(Sum.inr (keyN t.kind 0), .ref c), (Sum.inr (keyN t.kind 1), .int t.at_)] := by
    simp [putK, kne K.a01]
  have p2 : putK [((Sum.inr (keyN t.kind 0) : Key), V.ref c), (Sum.inr (keyN t.kind 1), .int t.at_)] (Sum.inr (keyN t.kind 2) : Key) (V.int t.left) = [(Sum.inr (keyN t.kind 0), .ref c), (Sum.inr (keyN t.kind 1), .int t.at_), (Sum.inr (keyN t.kind 2), .int t.left)] := by
    simp [putK, kne K.a02, kne K.a12]
  have p3 : putK [((Sum.inr (keyN t.kind 0) : Key), V.ref c), (Sum.inr (keyN t.kind 1), .int t.at_), (Sum.inr (keyN t.kind 2), .int t.left)] (Sum.inr (keyN t.kind 3) : Key) (V.int t.turn) = tKvs c t := by
    simp [putK, tKvs, kne K.a03, kne K.a13, kne K.a23]
  show putK (putK (putK (putK [] (Sum.inr (keyN t.kind 0) : Key) (V.ref c)) (Sum.inr (keyN t.kind 1) : Key) (V.int t.at_)) (Sum.inr (keyN t.kind 2) : Key) (V.int t.left)) (Sum.inr (keyN t.kind 3) : Key) (V.int t.turn) = tKvs c t
  rw [p0, p1, p2, p3]
theorem ev_tapeD {K : PySem.W.Frag} {kd : Nat} {te : TE} (KO : KeysOk kd) (h : EvCells K te) :
    EvTape K kd (tRet (tDisp [(tC (.str (keyN kd 0)), te), (tC (.str (keyN kd 1)), tC (.int 0)), (tC (.str (keyN kd 2)), tC (.int 0)), (tC (.str (keyN kd 3)), tC (.int 0))])) := fun H a ns Q hS hl q => by
  intro p hp
  have s0 : Same H (upd H p (.dK [])) := same_upd hp
  have hS' : SqL K (upd H p (.dK [])) a (ns.map V.int) := s0.seq hS
  refine h _ _ a ns rfl hS' hl _ fun c H' nc s e => ?_
  have hpc : c ≠ p := fun z => by rw [z, upd_same] at nc; cases nc
  have hp' : H' p = some (.dK []) := s _ _ upd_same
  refine ⟨hp', tKvs c ⟨kd, ns, 0, 0, 0⟩, rfl, by show 4 ≤ 15; decide, ?_⟩
  rw [merge4 (t := ⟨kd, ns, 0, 0, 0⟩) KO]
  refine q p c _ hp (s0.free nc) hpc (fun b o eb => ?_) (by rw [upd_ne hpc]; exact e) ?_
  · rw [upd_ne (ne_of_none eb hp)]
    exact s _ _ (s0 _ _ eb)
  · rw [upd_same, tapeObj_d (t := ⟨kd, ns, 0, 0, 0⟩) KO.n1]
section
variable {P : Program} {w : World} {K : PySem.W.Frag} {mg : Str → Option Value} {base : Heap}
theorem fnT_of {k kd : Nat} {f : Addr} {x qual p : Str} {st : Stmt} {fd : FuncData} (F : Fun K x qual st f fd) (S : FnScope [p] [p] (defScope st))
    (hb : ∀ (cdv : Value) (B : Around) (ou : List Env) (s0 : Shared) (H : Hp), ∃ t, PSs (cxOf CX0 P w K mg base [p] qual (defScope st) f cdv B ou s0 H E0).nox (defBody st) t ∧ EvTape K kd t) : FnG P w K mg base CX0 (k + 1) f fd [p] (spTape K kd) := by
  refine fnG_of F S (fun vs H Q E h => ?_) fun cdv B ou s0 H vs Q E hr hG h => ?_
  · obtain ⟨a, ns, rfl, _⟩ := h
    rfl
  · obtain ⟨a, ns, rfl, hS, hl, q⟩ := h
    obtain ⟨t, ht, hev⟩ := hb cdv B ou s0 H
    refine ⟨t, ⟨fun pins s σ H1 D I hw => (PSs.nox (X := cxOf CX0 P w K mg base [p] qual (defScope st) f cdv B ou s0 H E) ht).run pins s σ H1 D I hw⟩, ?_⟩
    exact hev H a ns Q hS hl q
/-- a def that makes the tape, as a callee -/
structure CeeT (P : Program) (w : World) (K : PySem.W.Frag) (mg : Str → Option Value) (base : Heap) (k : Nat) (x : Str) (kd : Nat) : Prop where
  ex : ∃ f fd ps, mg x = some (.ref f) ∧ PySem.W.keepIn K (.ref f) = true ∧ Binds K fd ps [] ∧ FnG P w K mg base CX0 k f fd ps (spTape K kd)
def spLaw (K : PySem.W.Frag) : Sp := fun vs H Q _ => ∃ (a : Addr) (ns : List Int), vs = [.ref a] ∧ SqL K H a (ns.map V.int) ∧ ns.length ≤ 63 ∧ ∀ H', Q (.bl true) H'
/-- tape = maker(script): slot 0 the script, slot 1 the tape -/
theorem ps_tape {X : Cx} {j k kd : Nat} {x y : Str} {p p2 p3 pos : Pos} {e : Expr} (C : CeeT X.prog X.w X.K X.mg X.base j x kd) (hr : Room k X.A) (hG : X.A.guards = some []) (hjk : j ≤ k) (h0 : PE X e (tVar 0)) (nd : X.N.Nodup) (hi : X.N[1]? = some y) (hx : Loc X.env.scope y)
    (gl : Gl X x) (hdb : (x == ("__debug__" : Str)) = false) (he : starEach [e] X.env = (false, eval e X.env) :: starEach [] X.env) (hpl : (backTo p2 (starEach [] X.env)).any (·.1) = false)
    (hs : swapsWith (.Call (.Name x p) [e] [] p2) (some (.Name y p3)) pos.line X.env = pure false) (hf : X.fn y = true ∨ X.env.scope.names.lookup y = some .local) :
    PS X (.Assign [.Name y p3] (.Call (.Name x p) [e] [] p2) pos) (tAsg (tCall (spTape X.K kd) [] E0 (tCons (tVar 0) tNil)) (gName 1)) := by
  obtain ⟨a, fd, ps, hm, hk, hb, F⟩ := C.ex
  exact ps_set nd hi hx (pe_callG F (hr.mono hjk) hG gl hm hk hb pass0 (pa_cons h0 pa_nil he) hdb he hpl) hs hf
theorem fnL_of {k kd : Nat} {f : Addr} {x qual p y : Str} {st : Stmt} {fd : FuncData} {N : List Str} {b : MS} (F : Fun K x qual st f fd) (S : FnScope (p :: y :: N) [p] (defScope st))
    (hb : ∀ (cdv : Value) (B : Around) (ou : List Env) (s0 : Shared) (H : Hp), Room k (B.deeper (envOfC qual (defScope st) s0.heap.objs.size f cdv)) → B.guards = some [] →
      ∃ t, PSs (cxOf CX0 P w K mg base (p :: y :: N) qual (defScope st) f cdv B ou s0 H E0).nox (defBody st) (tSeq (tAsg (tCall (spTape K kd) [] E0 (tCons (tVar 0) tNil)) (gName 1)) t) ∧ EvS t b)
    (law : ∀ ns : List Int, ns.length ≤ 63 → ∃ t1, b (.un :: .tp :: List.replicate N.length .un) ⟨kd, ns, 0, 0, 0⟩ = some (.rt (.bool true), t1)) : FnG P w K mg base CX0 (k + 1) f fd [p] (spLaw K) := by
  refine fnG_of F S (fun vs H Q E h => ?_) fun cdv B ou s0 H vs Q E hr hG h => ?_
  · obtain ⟨a, ns, rfl, _⟩ := h
    rfl
  · obtain ⟨a, ns, rfl, hS, hl, q⟩ := h
    obtain ⟨t, ht, hev⟩ := hb cdv B ou s0 H hr hG
    refine ⟨_, ⟨fun pins s σ H1 D I hw => (PSs.nox (X := cxOf CX0 P w K mg base (p :: y :: N) qual (defScope st) f cdv B ou s0 H E) ht).run pins s σ H1 D I hw⟩, ?_⟩
    refine ⟨.ref a, rfl, a, ns, rfl, hS, hl, fun T c H' hT hc ncT s e1 e2 => ?_⟩
    obtain ⟨t1, hlaw⟩ := law ns hl
    have G : Hp := fun _ => none
    let G : Hp := fun b => if b = c then some (.lst (ns.map V.int)) else none
    have gc : G c = some (.lst (ns.map V.int)) := if_pos rfl
    have gn : ∀ b o, G b = some o → b = c ∧ o = .lst (ns.map V.int) := fun b o z => by
      by_cases hb : b = c
      · refine ⟨hb, ?_⟩
        rw [hb, gc] at z
        cases z
        rfl
      · have : G b = none := if_neg hb
        rw [this] at z
        cases z
    have gT : G T = none := if_neg fun z => ncT z.symm
    have co : Co ⟨T, G, H'⟩ ⟨kd, ns, 0, 0, 0⟩ G H' := ⟨fun b o z => by
      obtain ⟨rfl, rfl⟩ := gn b o z
      exact e1, gT, ⟨c, gc, e2⟩, fun _ _ z _ => z, fun _ _ z => .inl z⟩
    refine hev ⟨T, G, H'⟩ ⟨kd, ns, 0, 0, 0⟩ t1 _ G H' _ _ hlaw ⟨co, ?_, fun i sl v h1 h2 => ?_, fun i j xs ys v h1 h2 h3 h4 => ?_⟩ _ fun v G' H2 c2 s2 r2 => ?_
    · simp [L2.start]
    · match i with
      | 0 => cases h1; trivial
      | 1 =>
        cases h1
        cases h2
        rfl
      | i + 2 =>
        have : (List.replicate N.length Sl.un)[i]? = some sl := h1
        rw [List.getElem?_replicate] at this
        split at this
        · cases this; trivial
        · cases this
    · match i with
      | 0 => cases h1
      | 1 => cases h1
      | i + 2 =>
        have : (List.replicate N.length Sl.un)[i]? = some (.ow xs) := h1
        rw [List.getElem?_replicate] at this
        split at this
        · cases this
        · cases this
    · cases r2
      exact q H2
end
/-! ### the end -/
theorem law_callG {P : Program} {w : World} {K : PySem.W.Frag} {mg mb : Str → Option Value} {k : Nat} {fa a : Addr} {fd : FuncData} {x : Str} {s1 : Shared} {us : List Value} {ns : List Int}
    (KX : K.In s1.heap) (hg : s1.heap.Ns mainGlobals mg) (hb : s1.heap.Ns builtinsNs mb) (hbb : ∀ x : Str, x ≠ "__name__" → mb x = bootBuiltins x) (nl : s1.heap.NoLimit) (hgen : s1.gens = #[])
    (ha : s1.heap.get? a = some { cls := .type "list", data := .seq us.toArray }) (hi : IntsAre us ns) (hl : ns.length ≤ 63) (hr : Room k callerA)
    (F : ∀ base : Heap, K.In base → base.Ns mainGlobals mg → FnG P w K mg base CX0 k fa fd [x] (spLaw K)) (hbind : ∀ (s : Shared) (u : Value), BindsTo s fd ⟨[u], []⟩ [(x, u)]) :
    codeAny (model P w) callerA (.call (.ref fa) ⟨[.ref a], []⟩) (fun r s' => r = .ok (.ret (.bool true)) ∧ OldK s1.heap s'.heap ∧ s'.os = s1.os ∧ AllBare s'.gens) s1 := by
  have vi := vals_ints hi
  have hz : ns.length ≤ sizeLine := Nat.le_trans hl (by decide)
  have main : ∀ H : Hp, L2.Only H → SqL K H a (ns.map V.int) → HOk P w H s1.heap → (∀ b, H b ≠ none → b = a) → (H a ≠ none → K.lookup a = none) →
      codeAny (model P w) callerA (.call (.ref fa) ⟨[.ref a], []⟩) (fun r s' => r = .ok (.ret (.bool true)) ∧ OldK s1.heap s'.heap ∧ s'.os = s1.os ∧ AllBare s'.gens) s1 := by
    intro H only sq hok isA noK
    have dictFree : ∀ {b : Addr} {o : Obj} {es : Array DictEntry} {ep : Nat}, s1.heap.get? b = some o → o.data = .dict es ep → H b = none := by
      intro b o es ep e d
      cases q : H b with
      | none => rfl
      | some z =>
        obtain rfl : b = a := isA b (by rw [q]; simp)
        rw [ha] at e
        cases e
        cases d
    have nsH : ∀ {b : Addr} {m : Str → Option Value}, s1.heap.Ns b m → (hidT s1.heap H).Ns b m := by
      rintro b m ⟨o, es, ep, e, d, r⟩
      exact ⟨o, es, ep, hidT_get e (dictFree e d), d, r⟩
    have kH : K.In (hidT s1.heap H) := by
      intro b o e
      refine hidT_get (KX b o e) ?_
      cases q : H b with
      | none => rfl
      | some z =>
        obtain rfl : b = a := isA b (by rw [q]; simp)
        rw [noK (by rw [q]; simp)] at e
        cases e
    obtain ⟨mc, n1, n2⟩ := nl
    have md : Mod K mg (hidT s1.heap H) := ⟨kH, nsH hg, ⟨mb, nsH hb, hbb⟩, ⟨mc, nsH n1, n2⟩⟩
    have e0 : Env0 P w K mg (hidT s1.heap H) callerA [] s1 H :=
      ⟨rfl, md, fun b o e => of_hidT e, Nat.le_of_eq (hidT_size _ _), trivial, fun b z => by simp [frs] at z, hok, .of_eq hgen⟩
    have sp : spLaw K [.ref a] H (fun v _ => v = .bl true) E0 := ⟨a, ns, rfl, sq, hl, fun _ => rfl⟩
    refine codeAny_mono ((F _ kH (nsH hg)).run callerA [] s1 H ⟨[.ref a], []⟩ [.ref a] [.ref a] _ _ hr rfl e0 (hbind s1 (.ref a)) (.cons rfl .nil) sp) fun r s' h => ?_
    cases r with
    | error e => exact h.elim
    | ok fl =>
      cases fl with
      | next => exact h.elim
      | brk => exact h.elim
      | cont => exact h.elim
      | ret u =>
        obtain ⟨v, H', os, bare, un, hok', rv, q⟩ := h
        have q' : v = .bl true := q
        subst q'
        obtain rfl : u = Value.bool true := rv
        refine ⟨rfl, OldK.of_keep fun b o e => ?_, os, bare⟩
        rcases only b with z | ⟨ob, xs, z⟩
        · exact un.keep b o e z (by simp [frs]) (by simp)
        · obtain ⟨f1, _⟩ := hok b _ z
          obtain ⟨f2, _⟩ := hok' b _ (un.frzs b ob _ z)
          rw [e] at f1
          cases f1
          exact f2
  cases hk : K.lookup a with
  | some o =>
    have e := KX a o hk
    rw [ha] at e
    cases e
    refine main (fun _ => none) (fun _ => .inl rfl) (.inr ⟨_, us.toArray, _, hk, rfl, rfl, rfl, by rw [List.size_toArray, hi.length]; exact hz, by simpa using vi⟩) (fun b u z => by cases z) (fun b z => absurd rfl z) fun z => absurd rfl z
  | none =>
    let o0 : Obj := { cls := .type "list", data := .seq us.toArray }
    have ho : (fun b => if b = a then some (HO.frz o0 (.lst (ns.map V.int))) else none : Hp) a = some (HO.frz o0 (.lst (ns.map V.int))) := if_pos rfl
    refine main (fun b => if b = a then some (.frz o0 (.lst (ns.map V.int))) else none) (fun b => ?_) (.inl (.inr ⟨o0, ho⟩)) (fun b u z => ?_) (fun b z => ?_) fun _ => hk
    · by_cases e : b = a
      · exact .inr ⟨_, _, if_pos e⟩
      · exact .inl (if_neg e)
    · by_cases e : b = a
      · subst e
        rw [ho] at z
        cases z
        exact ⟨ha, by rw [List.length_map]; exact hz, us, _, vi, ha⟩
      · have z' := (if_neg e).symm.trans z
        cases z'
    · by_cases e : b = a
      · exact e
      · exact absurd (if_neg e) z
theorem walkG {l : PySem.W.OpenLaw} {k : Nat} {q : Program} {loose : List Str} {XP : (Str → Option Value) → Heap → Prop} {YP : World → Heap → Prop} {d : DefRec} {K : Params → PySem.W.Frag} {x : Str}
    (hn : l.most = some 63) (hdf : d.params.defaults = []) (hr : Room k callerA) (hY : ∀ (w : World) (h : Heap), YP w h → (K w.params).In h)
    (F : ∀ (w : World) (mg : Str → Option Value) (fa : Addr) (h : Heap), (K w.params).In h → h.Ns mainGlobals mg → mg d.name = some (.ref fa) →
      ∃ fd : FuncData, (∀ (s : Shared) (u : Value), BindsTo s fd ⟨[u], []⟩ [(x, u)]) ∧ ∀ base : Heap, (K w.params).In base → base.Ns mainGlobals mg → FnG l.prog w (K w.params) mg base CX0 k fa fd [x] (spLaw (K w.params))) :
    PySem.W.WalkO q loose XP YP l.row.toRowW d [] (fun f vs => PySem.call f vs) := by
  refine Att.attach_call hn hdf fun w s0 s1 mg mb fa o pm cd doc a vs ns G Y ho hd hcd hmg hobj hints hlen hg => ?_
  have KX := hY w _ Y
  obtain ⟨fd, hb, hF⟩ := F w mg fa _ KX G.T.g hmg
  exact law_callG KX G.T.g G.T.b G.T.builtins G.T.nolimit hg hobj hints hlen hr hF hb
end DL

set_option maxHeartbeats 1000000
/-! The data layer, part I: statements with their parts' derivations. -/
namespace DL
open PySem L2
section
variable {X : Cx} {e a b c o : Expr} {es : List Expr} {t ta tb tc : TE} {m ma mb mc : ME} {pos pos' : Pos} {i j k : Nat} {x y : Str} {l : ML}
theorem rs_setE (nd : X.N.Nodup) (hi : X.N[i]? = some x) (hx : Loc X.env.scope x) (h : RE X e t m) (hs : swapsWith e (some (.Name x pos')) pos.line X.env = pure false := by rfl)
    (hf : X.fn x = true ∨ X.env.scope.names.lookup x = some .local := by first | exact .inl rfl | exact .inr rfl) : RS X (.Assign [.Name x pos'] e pos) (tAsg t (gName i)) (sAsg m (mName i)) := ⟨ps_set nd hi hx h.pe hs hf, ev_asg h.ev (ev_gname i)⟩
theorem rs_ownE (nd : X.N.Nodup) (hi : X.N[i]? = some x) (hx : Loc X.env.scope x) (h : RN X e t l) (hs : swapsWith e (some (.Name x pos')) pos.line X.env = pure false := by rfl)
    (hf : X.fn x = true ∨ X.env.scope.names.lookup x = some .local := by first | exact .inl rfl | exact .inr rfl) : RS X (.Assign [.Name x pos'] e pos) (tAsg t (gName i)) (sOwn i l) := ⟨ps_set nd hi hx h.pe hs hf, ev_own h.ev⟩
/-- name = [.. for ..], the name a local -/
theorem ps_lc {elt tg iter : Expr} {ifs : List Expr} {scope : Scope} (own : List (Str × Nat)) {w : TI} {mi : ML} {g : TG} {q : MG} {u : TT} {r : MB} (hc : X.calm = true) (nd : X.N.Nodup) (hy : X.N[i]? = some y) (hyl : X.env.scope.names.lookup y = some .local)
    (hsw : swapsWith (.ListComp elt [⟨tg, iter, ifs, 0⟩] scope pos') (some (.Name y pos)) pos.line X.env = pure true) : True := trivial
theorem rs_setC {elt tg iter : Expr} {ifs : List Expr} {scope : Scope} {py spos : Pos} (own : List (Str × Nat)) {w : TI} {mi : ML} {g : TG} {q : MG} {u : TT} {r : MB} (hc : X.calm = true) (nd : X.N.Nodup) (hy : X.N[i]? = some y) (hyl : X.env.scope.names.lookup y = some .local)
    (hsw : swapsWith (.ListComp elt [⟨tg, iter, ifs, 0⟩] scope pos) (some (.Name y py)) spos.line X.env = pure true) (hi : RI X tg iter w mi) (ok : BlkOk X.N X.env.scope scope own)
    (hg : ∀ (s : Shared) (H : Hp) (C : Addr) (cl : List (Str × Addr)) (fp : List Addr), RG (X.blk s H scope (compEnvC scope cl C X.env) fp) tg g q (own.map (·.2)))
    (ht : ∀ (s : Shared) (H : Hp) (C : Addr) (cl : List (Str × Addr)) (fp : List Addr), RTs (X.blk s H scope (compEnvC scope cl C X.env) fp) ifs u r)
    (he : ∀ (s : Shared) (H : Hp) (C : Addr) (cl : List (Str × Addr)) (fp : List Addr), RE (X.blk s H scope (compEnvC scope cl C X.env) fp) elt t m) (hs : ∀ x, foldedSetIterable iter X.env x = pure x := by intro _; rfl) :
    RS X (.Assign [.Name y py] (.ListComp elt [⟨tg, iter, ifs, 0⟩] scope pos) spos) (tAsg (tLc w g u t (own.map (·.2))) (gName i)) (sAsg (eList (nComp mi q (own.map (·.2)) r m)) (mName i)) :=
  ⟨ps_setLc hc nd hy hyl hsw hi.pi ok (fun s H C cl fp => (hg s H C cl fp).pg) (fun s H C cl fp => (ht s H C cl fp).pt) (fun s H C cl fp => (he s H C cl fp).pe) hs,
    ev_asg (ev_comp hi.ev (hg X.s_0 X.H_0 0 [] []).ev (ht X.s_0 X.H_0 0 [] []).ev (he X.s_0 X.H_0 0 [] []).ev).f (ev_gname i)⟩
theorem rs_ownC {elt tg iter : Expr} {ifs : List Expr} {scope : Scope} {py spos : Pos} (own : List (Str × Nat)) {w : TI} {mi : ML} {g : TG} {q : MG} {u : TT} {r : MB} (hc : X.calm = true) (nd : X.N.Nodup) (hy : X.N[i]? = some y) (hyl : X.env.scope.names.lookup y = some .local)
    (hsw : swapsWith (.ListComp elt [⟨tg, iter, ifs, 0⟩] scope pos) (some (.Name y py)) spos.line X.env = pure true) (hi : RI X tg iter w mi) (ok : BlkOk X.N X.env.scope scope own)
    (hg : ∀ (s : Shared) (H : Hp) (C : Addr) (cl : List (Str × Addr)) (fp : List Addr), RG (X.blk s H scope (compEnvC scope cl C X.env) fp) tg g q (own.map (·.2)))
    (ht : ∀ (s : Shared) (H : Hp) (C : Addr) (cl : List (Str × Addr)) (fp : List Addr), RTs (X.blk s H scope (compEnvC scope cl C X.env) fp) ifs u r)
    (he : ∀ (s : Shared) (H : Hp) (C : Addr) (cl : List (Str × Addr)) (fp : List Addr), RE (X.blk s H scope (compEnvC scope cl C X.env) fp) elt t m) (hs : ∀ x, foldedSetIterable iter X.env x = pure x := by intro _; rfl) :
    RS X (.Assign [.Name y py] (.ListComp elt [⟨tg, iter, ifs, 0⟩] scope pos) spos) (tAsg (tLc w g u t (own.map (·.2))) (gName i)) (sOwn i (nComp mi q (own.map (·.2)) r m)) :=
  ⟨ps_setLc hc nd hy hyl hsw hi.pi ok (fun s H C cl fp => (hg s H C cl fp).pg) (fun s H C cl fp => (ht s H C cl fp).pt) (fun s H C cl fp => (he s H C cl fp).pe) hs,
    ev_own (ev_comp hi.ev (hg X.s_0 X.H_0 0 [] []).ev (ht X.s_0 X.H_0 0 [] []).ev (he X.s_0 X.H_0 0 [] []).ev)⟩
theorem rgs_cons' {g : TG} {gs : TGs} {q : MG} {qs : MGs} {is js : List Nat} (h : RG X e g q is) (r : RGs X es gs qs js) (hs : (assignEach (e :: es) X.env).map (·.2) = assign e X.env :: (assignEach es X.env).map (·.2) := by rfl) :
    RGs X (e :: es) (gCons g gs) (mgCons q qs) (is ++ js) := ⟨pgs_cons h.pg r.pg hs, ev_gcons h.ev r.ev⟩
/-! a, b = x, y -/
def sPar (i j : Nat) (l : ML) : MS := fun ρ => do
  let ds ← l ρ
  M.lift (match ds with
    | [d, e] => some (.nx ((ρ.set i (.fz d)).set j (.fz e)))
    | _ => none)
theorem ev_par {ta : TA} (h : EvL ta l) : EvS (tPar i j ta) (sPar i j l) := fun F t0 t1 ρ G H σ o e w D p => by
  obtain ⟨ds, t2, e1, e⟩ := bnd_some e
  obtain ⟨f2, rfl⟩ := lift_some e
  refine h F t0 _ ρ G H σ ds e1 w _ fun vs G1 H1 w1 s1 r1 => ?_
  split at f2
  · cases f2
    cases r1 with
    | cons h1 r1 =>
      cases r1 with
      | cons h2 r2 =>
        cases r2
        exact ⟨_, _, rfl, p _ G1 H1 ((w1.setF h1).setF h2) s1.gg⟩
  · cases f2
def sPar3 (i j k : Nat) (l : ML) : MS := fun ρ => do
  let ds ← l ρ
  M.lift (match ds with
    | [d, e, f] => some (.nx (((ρ.set i (.fz d)).set j (.fz e)).set k (.fz f)))
    | _ => none)
theorem ev_par3 {ta : TA} (h : EvL ta l) : EvS (tPar3 i j k ta) (sPar3 i j k l) := fun F t0 t1 ρ G H σ o e w D p => by
  obtain ⟨ds, t2, e1, e⟩ := bnd_some e
  obtain ⟨f2, rfl⟩ := lift_some e
  refine h F t0 _ ρ G H σ ds e1 w _ fun vs G1 H1 w1 s1 r1 => ?_
  split at f2
  · cases f2
    cases r1 with
    | cons h1 r1 =>
      cases r1 with
      | cons h2 r2 =>
        cases r2 with
        | cons h3 r3 =>
          cases r3
          exact ⟨_, _, _, rfl, p _ G1 H1 (((w1.setF h1).setF h2).setF h3) s1.gg⟩
  · cases f2
theorem rs_par {px py pt : Pos} {kt k2 pt2} {ta : TA} (hc : X.calm = true) (nd : X.N.Nodup) (hi : X.N[i]? = some x) (hj : X.N[j]? = some y) (hij : i ≠ j) (hx : X.env.scope.names.lookup x = some .local) (hy : X.env.scope.names.lookup y = some .local) (h : RL X [a, b] ta l)
    (hw : swappedStores [.Tuple [.Name x px, .Name y py] kt pt] (.Tuple [a, b] k2 pt2) X.env = pure (some [x, y]) := by rfl)
    (hs : swapsWithSole [.Tuple [.Name x px, .Name y py] kt pt] (.Tuple [a, b] k2 pt2) pos.line X.env = pure false := by rfl) : RS X (.Assign [.Tuple [.Name x px, .Name y py] kt pt] (.Tuple [a, b] k2 pt2) pos) (tPar i j ta) (sPar i j l) :=
  ⟨ps_par hc nd hi hj hij hx hy h.pa hw hs, ev_par h.ev⟩
theorem rs_par3 {px py pz pt : Pos} {kt k2 pt2} {ta : TA} {z : Str} (hc : X.calm = true) (nd : X.N.Nodup) (hi : X.N[i]? = some x) (hj : X.N[j]? = some y) (hk : X.N[k]? = some z) (hij : i ≠ j) (hik : i ≠ k) (hjk : j ≠ k) (hx : X.env.scope.names.lookup x = some .local) (hy : X.env.scope.names.lookup y = some .local) (hz : X.env.scope.names.lookup z = some .local) (h : RL X [a, b, c] ta l)
    (hw : swappedStores [.Tuple [.Name x px, .Name y py, .Name z pz] kt pt] (.Tuple [a, b, c] k2 pt2) X.env = pure (some [x, y, z]) := by rfl)
    (hs : swapsWithSole [.Tuple [.Name x px, .Name y py, .Name z pz] kt pt] (.Tuple [a, b, c] k2 pt2) pos.line X.env = pure false := by rfl) : RS X (.Assign [.Tuple [.Name x px, .Name y py, .Name z pz] kt pt] (.Tuple [a, b, c] k2 pt2) pos) (tPar3 i j k ta) (sPar3 i j k l) :=
  ⟨ps_par3 hc nd hi hj hk hij hik hjk hx hy hz h.pa hw hs, ev_par3 h.ev⟩
/-! methods of lists -/
variable {apos cpos : Pos}
theorem rs_appE (ho : PE X o (tVar i)) (h : RE X e t m)
    (hbase : attributeBase o "append" X.env (eval o X.env) = eval o X.env := by rfl)
    (hfew : ((backTo cpos (starEach [e] X.env)).all (fun x => !x.1) && (backToKw cpos (keywordEach [] X.env)).all (fun x => x.1.isSome) && decide ([e].length + ([] : List Keyword).length + (if ([] : List Keyword).isEmpty then 0 else 1) < 30)) = true := by rfl)
    (hline : (apos.endLine == cpos.line) = true := by rfl) (hst : starEach [e] X.env = (false, eval e X.env) :: starEach [] X.env := by rfl) (hpl : (backTo cpos (starEach [] X.env)).any (·.1) = false := by rfl)
    (hs : swapsWith (.Call (.Attribute o "append" apos) [e] [] cpos) none pos.line X.env = pure false := by rfl) :
    RS X (.Expr (.Call (.Attribute o "append" apos) [e] [] cpos) pos) (tDrop (tBM X.K "list" rAppend (tVar i) (tCons t tNil))) (sApp i m) :=
  ⟨ps_expr (pe_bm PySem.F.plainAttrs_list PySem.F.slot_list_append PySem.F.type_list_append mt_append ho (pa_cons h.pe pa_nil hst) hbase hfew hline hst hpl) hs, ev_app h.ev⟩
theorem rs_extE (ho : PE X o (tVar i)) (h : RB X e t m)
    (hbase : attributeBase o "extend" X.env (eval o X.env) = eval o X.env := by rfl)
    (hfew : ((backTo cpos (starEach [e] X.env)).all (fun x => !x.1) && (backToKw cpos (keywordEach [] X.env)).all (fun x => x.1.isSome) && decide ([e].length + ([] : List Keyword).length + (if ([] : List Keyword).isEmpty then 0 else 1) < 30)) = true := by rfl)
    (hline : (apos.endLine == cpos.line) = true := by rfl) (hst : starEach [e] X.env = (false, eval e X.env) :: starEach [] X.env := by rfl) (hpl : (backTo cpos (starEach [] X.env)).any (·.1) = false := by rfl)
    (hs : swapsWith (.Call (.Attribute o "extend" apos) [e] [] cpos) none pos.line X.env = pure false := by rfl) :
    RS X (.Expr (.Call (.Attribute o "extend" apos) [e] [] cpos) pos) (tDrop (tBM X.K "list" rExtend (tVar i) (tCons t tNil))) (sExt i m) :=
  ⟨ps_expr (pe_bm PySem.F.plainAttrs_list PySem.F.slot_list_extend PySem.F.type_list_extend mt_extend ho (pa_cons h.pe pa_nil hst) hbase hfew hline hst hpl) hs, ev_ext h.ev⟩
theorem rs_popE (ho : PE X o (tVar i)) (hbase : attributeBase o "pop" X.env (eval o X.env) = eval o X.env := by rfl) (hline : (apos.endLine == cpos.line) = true := by rfl)
    (hs : swapsWith (.Call (.Attribute o "pop" apos) [] [] cpos) none pos.line X.env = pure false := by rfl) :
    RS X (.Expr (.Call (.Attribute o "pop" apos) [] [] cpos) pos) (tDrop (tBM0 X.K "list" rPop (tVar i))) (sPop i) :=
  ⟨ps_expr (pe_bm0 PySem.F.plainAttrs_list PySem.F.slot_list_pop PySem.F.type_list_pop mt_pop ho hbase hline) hs, ev_pop⟩
/-- x[k] = e, x an owned list -/
theorem rs_setIE {si : Expr} (ho : PE X o (tVar i)) (hk : RB X si tb mb) (h : RE X e t m) (hp : PG X (.Subscript o si pos') (L2.gSub (tVar i) tb rSetL)) (hs : swapsWithSole [.Subscript o si pos'] e pos.line X.env = pure false := by rfl) (hw : swappedStores [.Subscript o si pos'] e X.env = pure none := by rfl)
    (h1 : (assignEach [.Subscript o si pos'] X.env).map (·.2) = [assign (.Subscript o si pos') X.env] := by rfl) : RS X (.Assign [.Subscript o si pos'] e pos) (tAsg t (L2.gSub (tVar i) tb rSetL)) (sSetI i mb m) :=
  ⟨ps_asg h.pe hp hs hw h1, ev_setI h.ev hk.ev⟩
/-! the tape -/
theorem re_tgetD {kd : Nat} {z : Str} {jj} {p : Pos} (K : KeysOk kd) (hk : k < 4) (hu : X.A.units + 64 < cLine) (ho : PE X o (tVar i)) (hz : z = keyN kd k) (hsl : NoSl (.Constant (.str z) jj p)) : RE X (.Subscript o (.Constant (.str z) jj p) pos) (tDGet (tVar i) (tC (.str (keyN kd k)))) (eTGet kd i k) := by
  subst hz
  exact ⟨pe_dget (by omega) ho pe_str hsl, ev_tgetD K hk⟩
theorem rs_tputD {kd : Nat} {z : Str} {jj} {p : Pos} (K : KeysOk kd) (h0 : 0 < k) (hk : k < 4) (hu : X.A.units + 64 < cLine) (ho : PE X o (tVar i)) (hz : z = keyN kd k) (h : RE X e t m)
    (hs : swapsWith e (some (.Subscript o (.Constant (.str z) jj p) pos')) pos.line X.env = pure false := by rfl) :
    RS X (.Assign [.Subscript o (.Constant (.str z) jj p) pos'] e pos) (sDPut (tVar i) (tC (.str (keyN kd k))) t) (sTPut kd i k m) := by
  subst hz
  exact ⟨ps_dput (by omega) ho pe_str h.pe hs, ev_tputD K h0 hk h.ev⟩
theorem re_tgetL {jj} {p : Pos} {z : Int} (hk : k < 3) (hz : z = k) (ho : PE X o (tVar i)) (hs : PlainIx (.Constant (.int z) jj p)) : RE X (.Subscript o (.Constant (.int z) jj p) pos) (tOp (rIx X.K) (tVar i) (tC (.int k))) (eTGet 1 i k) := by
  subst hz
  exact ⟨pe_ix ix_seq ho pe_int hs, ev_tgetL hk⟩
theorem rs_tputL {jj} {p : Pos} {z : Int} (h0 : 0 < k) (hk : k < 3) (hz : z = k) (hp : PG X (.Subscript o (.Constant (.int z) jj p) pos') (L2.gSub (tVar i) (tC (.int z)) rSetL)) (h : RE X e t m)
    (hs : swapsWithSole [.Subscript o (.Constant (.int z) jj p) pos'] e pos.line X.env = pure false := by rfl) (hw : swappedStores [.Subscript o (.Constant (.int z) jj p) pos'] e X.env = pure none := by rfl)
    (h1 : (assignEach [.Subscript o (.Constant (.int z) jj p) pos'] X.env).map (·.2) = [assign (.Subscript o (.Constant (.int z) jj p) pos') X.env] := by rfl) :
    RS X (.Assign [.Subscript o (.Constant (.int z) jj p) pos'] e pos) (tAsg t (L2.gSub (tVar i) (tC (.int z)) rSetL)) (sTPut 1 i k m) := by
  subst hz
  exact ⟨ps_asg h.pe hp hs hw h1, ev_tputL h0 hk h.ev⟩
end
end DL

set_option maxHeartbeats 1000000
/-! The data layer, part J: reasoning about mirrors. -/
namespace DL
open PySem
/-- an equation that simp takes as a step of its own -/
theorem nr {α : Sort _} {a b : α} (h : a = b) : a = b := h
section
variable {α β : Type} {t : Tape}
theorem bnd_ap (m : M α) (f : α → M β) : (m >>= f) t = (m t).bind fun p => f p.1 p.2 := by
  show (match m t with | none => none | some (a, t') => f a t') = _
  cases m t with
  | none => rfl
  | some p => rfl
theorem pure_ap (a : α) : (pure a : M α) t = some (a, t) := nr rfl
theorem lift_ap (o : Option α) : M.lift o t = o.map fun a => (a, t) := nr rfl
theorem fail_ap : (M.fail : M α) t = none := nr rfl
theorem ite_ap {c : Prop} [Decidable c] (a b : M α) : (if c then a else b) t = if c then a t else b t := by split <;> rfl
end
/-- a tape of the kind kd, its counts at most B -/
structure TOk (kd : Nat) (B : Int) (t : Tape) : Prop where
  kind : t.kind = kd
  a0 : 0 ≤ t.at_
  a1 : t.at_ ≤ B
  t0 : 0 ≤ t.turn
  t1 : t.turn ≤ B
theorem TOk.mono {kd : Nat} {B C : Int} {t : Tape} (h : TOk kd B t) (e : B ≤ C) : TOk kd C t := ⟨h.kind, h.a0, Int.le_trans h.a1 e, h.t0, Int.le_trans h.t1 e⟩
/-- m comes to an end with a value of which P holds, behind at most c draws -/
def Gv (kd : Nat) {α : Type} (m : M α) (c : Nat) (P : α → Prop) : Prop := ∀ (B : Int) (t : Tape), TOk kd B t → B + c ≤ 100000000 → ∃ a t', m t = some (a, t') ∧ TOk kd (B + c) t' ∧ P a
section
variable {kd : Nat} {α β : Type} {m : M α} {f : α → M β} {c d : Nat} {P : α → Prop} {Q : β → Prop}
theorem Gv.pure {a : α} (h : P a) : Gv kd (Pure.pure a : M α) 0 P := fun B t ok _ => ⟨a, t, rfl, ok.mono (by omega), h⟩
theorem Gv.lift {o : Option α} {a : α} (e : o = some a) (h : P a) : Gv kd (M.lift o) 0 P := fun B t ok _ => ⟨a, t, by rw [e]; rfl, ok.mono (by omega), h⟩
theorem Gv.bind (h : Gv kd m c P) (k : ∀ a, P a → Gv kd (f a) d Q) : Gv kd (m >>= f) (c + d) Q := fun B t ok hB => by
  obtain ⟨a, t1, e1, ok1, p1⟩ := h B t ok (by omega)
  obtain ⟨b, t2, e2, ok2, p2⟩ := k a p1 (B + c) t1 ok1 (by omega)
  exact ⟨b, t2, by rw [bnd_ap, e1]; exact e2, ok2.mono (by omega), p2⟩
/-- a step within a budget -/
theorem Gv.step {e : Nat} (h : Gv kd m c P) (k : ∀ a, P a → Gv kd (f a) (e - c) Q) (hc : c ≤ e := by decide) : Gv kd (m >>= f) e Q := fun B t ok hB => by
  obtain ⟨b, t2, e2, ok2, p2⟩ := Gv.bind h k B t ok (by omega)
  exact ⟨b, t2, e2, ok2.mono (by omega), p2⟩
theorem Gv.ret {a : α} {e : Nat} (h : P a) : Gv kd (Pure.pure a : M α) e P := fun B t ok hB => ⟨a, t, rfl, ok.mono (by omega), h⟩
theorem Gv.mono {c' : Nat} {P' : α → Prop} (h : Gv kd m c P) (hc : c ≤ c') (hp : ∀ a, P a → P' a) : Gv kd m c' P' := fun B t ok hB => by
  obtain ⟨a, t1, e1, ok1, p1⟩ := h B t ok (by omega)
  exact ⟨a, t1, e1, ok1.mono (by omega), hp a p1⟩
theorem Gv.imp {P' : α → Prop} (h : Gv kd m c P) (hp : ∀ a, P a → P' a) : Gv kd m c P' := h.mono (Nat.le_refl _) hp
theorem Gv.le {c' : Nat} (h : Gv kd m c P) (hc : c ≤ c') : Gv kd m c' P := h.mono hc fun _ p => p
theorem Gv.eq {m' : M α} (h : Gv kd m c P) (e : m' = m) : Gv kd m' c P := e ▸ h
theorem Gv.of_pure {a : α} (e : m = Pure.pure a) (h : P a) : Gv kd m 0 P := e ▸ Gv.pure h
theorem Gv.ite {p : Prop} [Decidable p] {m' : M α} (h1 : p → Gv kd m c P) (h2 : ¬ p → Gv kd m' c P) : Gv kd (if p then m else m') c P := by
  by_cases hp : p
  · rw [if_pos hp]; exact h1 hp
  · rw [if_neg hp]; exact h2 hp
theorem Gv.and {P' : α → Prop} (h : Gv kd m c P) (h' : Gv kd m c P') : Gv kd m c fun a => P a ∧ P' a := fun B t ok hB => by
  obtain ⟨a, t1, e1, ok1, p1⟩ := h B t ok hB
  obtain ⟨b, t2, e2, _, p2⟩ := h' B t ok hB
  rw [e1] at e2
  cases e2
  exact ⟨a, t1, e1, ok1, p1, p2⟩
end
/-- a for by an invariant: every turn goes on -/
theorem Gv.for {kd : Nat} {c : Nat} {mg : MG} {b : MS} (I : List Sl → Prop) : ∀ (ds : List PyData) (ρ : List Sl), (∀ d ∈ ds, ∀ ρ, I ρ → Gv kd (M.lift (mg d ρ) >>= b) c fun o => ∃ ρ', o = .nx ρ' ∧ I ρ') → I ρ → Gv kd (forGo mg b ds ρ) (ds.length * c) fun o => ∃ ρ', o = .nx ρ' ∧ I ρ'
  | [], ρ, _, h => fun B t ok hB => ⟨.nx ρ, t, rfl, ok.mono (by simp), ρ, rfl, h⟩
  | d :: r, ρ, hb, h => fun B t ok hB => by
    have e0 : ((d :: r).length * c : Nat) = r.length * c + c := by rw [List.length_cons, Nat.add_mul, Nat.one_mul]
    rw [e0] at hB ⊢
    obtain ⟨o, t1, e1, ok1, ρ1, rfl, h1⟩ := hb d (by simp) ρ h B t ok (by omega)
    obtain ⟨o2, t2, e2, ok2, p2⟩ := Gv.for I r ρ1 (fun d' hd => hb d' (List.mem_cons_of_mem _ hd)) h1 (B + c) t1 ok1 (by omega)
    refine ⟨o2, t2, ?_, ok2.mono (by omega), p2⟩
    show (M.lift (mg d ρ) >>= fun ρ' => b ρ' >>= loopOut (forGo mg b r)) t = _
    have : (M.lift (mg d ρ) >>= fun ρ' => b ρ' >>= loopOut (forGo mg b r)) = (M.lift (mg d ρ) >>= b) >>= loopOut (forGo mg b r) := by
      funext t
      rw [bnd_ap, bnd_ap, bnd_ap]
      cases M.lift (mg d ρ) t with
      | none => rfl
      | some p => show (b p.1 >>= loopOut (forGo mg b r)) p.2 = _; rw [bnd_ap]; rfl
    rw [this, bnd_ap, e1]
    exact e2
/-- small factors -/
theorem okMul_of {i j : Int} (hi : i.natAbs < 2 ^ 400000) (hj : j.natAbs < 2 ^ 400000) : okMul i j = true := by
  unfold okMul
  refine decide_eq_true ?_
  have h1 : i.natAbs.log2 < 400001 := by
    by_cases z : i.natAbs = 0
    · rw [z]; decide
    · exact Nat.lt_of_lt_of_le ((Nat.log2_lt z).mpr hi) (by decide)
  have h2 : j.natAbs.log2 < 400001 := by
    by_cases z : j.natAbs = 0
    · rw [z]; decide
    · exact Nat.lt_of_lt_of_le ((Nat.log2_lt z).mpr hj) (by decide)
  omega
theorem pow_big : (2 : Nat) ^ 64 ≤ 2 ^ 400000 := Nat.pow_le_pow_right (by decide) (by decide)
/-- factors below 2 ^ 64 -/
theorem okMul64 {i j : Int} (hi : i.natAbs < 18446744073709551616) (hj : j.natAbs < 18446744073709551616) : okMul i j = true := okMul_of (Nat.lt_of_lt_of_le hi pow_big) (Nat.lt_of_lt_of_le hj pow_big)
theorem okDiv64 {i j : Int} (h0 : 0 < j) (hj : j < 18446744073709551616) : okDiv i j = true := by
  unfold okDiv
  rw [Bool.and_eq_true]
  refine ⟨decide_eq_true h0, decide_eq_true ?_⟩
  have z : j.natAbs ≠ 0 := by omega
  exact Nat.lt_of_lt_of_le ((Nat.log2_lt z).mpr (show j.natAbs < 2 ^ 64 by omega)) (by decide)
theorem mulAbs {i j : Int} {a b c : Nat} (hi : i.natAbs ≤ a) (hj : j.natAbs ≤ b) (h : a * b ≤ c) : (i * j).natAbs ≤ c := by
  rw [Int.natAbs_mul]
  exact Nat.le_trans (Nat.mul_le_mul hi hj) h
/-- products of moderate factors -/
theorem okMulB {i j : Int} (hi : i.natAbs ≤ 10 ^ 60) (hj : j.natAbs ≤ 10 ^ 60) : okMul i j = true :=
  okMul_of (Nat.lt_of_le_of_lt hi (Nat.lt_of_lt_of_le (by decide : 10 ^ 60 < 2 ^ 200) (Nat.pow_le_pow_right (by decide) (by decide)))) (Nat.lt_of_le_of_lt hj (Nat.lt_of_lt_of_le (by decide : 10 ^ 60 < 2 ^ 200) (Nat.pow_le_pow_right (by decide) (by decide))))
theorem okMod_of {i j : Int} (h0 : 0 < j) : okMod i j = true := decide_eq_true h0
end DL

set_option maxHeartbeats 1000000
/-! The data layer, part K: texts that repr shows, equality of data. -/
namespace DL
open PySem PySem.Builtin.Str
def Cok (x : Str) : Prop := ∀ c ∈ x.cps.toList, c < 0x110000
theorem cok_iff {x : Str} : PyData.strOk x = true ↔ Cok x := by
  unfold PyData.strOk Cok
  rw [Array.all_eq_true_iff_forall_mem]
  simp
theorem cok_of (s : String) : Cok (Str.ofString s) := by
  unfold Cok
  rw [Str.ofString_eq_toList]
  intro c hc
  simp only [List.mem_map] at hc
  obtain ⟨ch, _, rfl⟩ := hc
  have := ch.valid
  show ch.val.toNat < 1114112
  rcases this with h | h
  · have : ch.val.toNat < 0xd800 := h
    omega
  · exact h.2
theorem cok_app {x y : Str} (hx : Cok x) (hy : Cok y) : Cok (x ++ y) := by
  intro c hc
  have e : (x ++ y).cps = x.cps ++ y.cps := rfl
  rw [e, Array.toList_append, List.mem_append] at hc
  exact hc.elim (hx c) (hy c)
theorem cok_text : ∀ (ts : List Str) (k : Nat) (acc : Str), Cok acc → (∀ t ∈ ts, Cok t) → Cok (textFrom k acc ts)
  | [], _, _, h, _ => h
  | t :: r, k, acc, h, ht => cok_text r (k + 1) _ (cok_app (cok_app h (cok_of _)) (ht t (by simp))) fun u hu => ht u (List.mem_cons_of_mem _ hu)
theorem cok_list {ts : List Str} (h : ∀ t ∈ ts, Cok t) : Cok (listText ts) := cok_app (cok_text ts 0 _ (cok_of _) h) (cok_of _)
theorem cok_join {sep : Str} (hs : Cok sep) : ∀ {ts : List Str}, (∀ t ∈ ts, Cok t) → Cok (Str.join sep ts)
  | [], _ => fun c hc => by simp [Str.join, Str.empty] at hc
  | [x], h => h x (by simp)
  | x :: y :: r, h => by
    have ih := cok_join hs (ts := y :: r) fun t ht => h t (List.mem_cons_of_mem _ ht)
    exact cok_app (cok_app (h x (by simp)) hs) ih
theorem cok_tup {ts : List Str} (h : ∀ t ∈ ts, Cok t) : Cok (tupleText ts) := cok_app (cok_app (cok_of _) (cok_join (cok_of _) h)) (cok_of _)
theorem cok_char {q c : Nat} (hq : q < 0x110000) (hc : c < 0x110000) : ∀ d ∈ reprChar q c, d < 0x110000 := by
  have dig : ∀ n d, d ∈ (Nat.toDigits 16 n).map Char.toNat → d < 0x110000 := by
    intro n d hd
    obtain ⟨ch, _, rfl⟩ := List.mem_map.mp hd
    have := ch.valid
    show ch.val.toNat < 1114112
    rcases this with h | h
    · have : ch.val.toNat < 0xd800 := h
      omega
    · exact h.2
  intro d hd
  unfold reprChar at hd
  dsimp only at hd
  have hex : ∀ w, d ∈ List.replicate (w - ((Nat.toDigits 16 c).map Char.toNat).length) 48 ++ (Nat.toDigits 16 c).map Char.toNat → d < 0x110000 := fun w h => by
    rcases List.mem_append.mp h with h | h
    · have := (List.mem_replicate.mp h).2
      omega
    · exact dig c d h
  repeat' split at hd
  all_goals first
    | (simp only [List.mem_append, List.mem_cons, List.not_mem_nil, or_false] at hd; omega)
    | (rcases List.mem_append.mp hd with h | h
       · simp at h; omega
       · exact hex _ h)
theorem cok_repr {x : Str} (h : Cok x) : Cok (reprText x) := by
  have hq : reprQuote x < 0x110000 := by
    unfold reprQuote
    split <;> decide
  have key : ∀ (l : List Nat) (acc : Array Nat), (∀ c ∈ l, c < 0x110000) → (∀ c ∈ acc.toList, c < 0x110000) → ∀ c ∈ (l.foldl (fun out c => out ++ (reprChar (reprQuote x) c).toArray) acc).toList, c < 0x110000 := by
    intro l
    induction l with
    | nil => intro acc _ h2; exact h2
    | cons a l ih =>
      intro acc h1 h2
      refine ih _ (fun c hc => h1 c (List.mem_cons_of_mem _ hc)) fun c hc => ?_
      rw [Array.toList_append, List.mem_append] at hc
      rcases hc with hc | hc
      · exact h2 c hc
      · exact cok_char hq (h1 a (by simp)) c (by simpa using hc)
  intro c hc
  unfold reprText at hc
  rw [Array.toList_push, List.mem_append] at hc
  rcases hc with hc | hc
  · rw [← Array.foldl_toList] at hc
    exact key x.cps.toList _ h (fun c hc => by simp at hc; rw [hc]; exact hq) c hc
  · simp at hc
    rw [hc]
    exact hq
mutual
theorem cok_shown : ∀ d : PyData, leafOk d = true → Cok d.shown
  | .none, _ => cok_of _
  | .bool b, _ => by cases b <;> exact cok_of _
  | .int i, _ => cok_of _
  | .str x, h => cok_repr (cok_iff.mp h)
  | .list xs, h => by rw [PyData.shown]; exact cok_list (cok_shownA xs h)
  | .tuple xs, h => by rw [PyData.shown]; exact cok_tup (cok_shownA xs h)
  | .dict _, h => nomatch h
theorem cok_shownA : ∀ xs : List PyData, leafOkA xs = true → ∀ t ∈ PyData.shownAll xs, Cok t
  | [], _, t, ht => by simp [PyData.shownAll] at ht
  | x :: xs, h, t, ht => by
    rw [leafOkA, Bool.and_eq_true] at h
    rw [PyData.shownAll] at ht
    rcases List.mem_cons.mp ht with e | e
    · rw [e]; exact cok_shown x h.1
    · exact cok_shownA xs h.2 t e
end
theorem shown_ok {d : PyData} (h : leafOk d = true) : leafOk (.str d.shown) = true := cok_iff.mpr (cok_shown d h)
theorem okRepr_leaf {d : PyData} (h : okRepr d = true) : leafOk d = true := by
  unfold okRepr at h
  simp only [Bool.and_eq_true] at h
  exact h.1.1.2
/-- == of good data -/
theorem gEq_of {a b : PyData} (ha : leafOk a = true) (hb : leafOk b = true) (da : a.depth ≤ 64) (db : b.depth ≤ 64) : gEq a b = some (.bool (PyData.eqv a b)) := by
  unfold gEq SeqAt.shaped
  rw [leaf_lay a ha, leaf_lay b hb, decide_eq_true da, decide_eq_true db]
  rfl
theorem gNe_of {a b : PyData} (ha : leafOk a = true) (hb : leafOk b = true) (da : a.depth ≤ 64) (db : b.depth ≤ 64) : gNe a b = some (.bool (!PyData.eqv a b)) := by
  unfold gNe SeqAt.shaped
  rw [leaf_lay a ha, leaf_lay b hb, decide_eq_true da, decide_eq_true db]
  rfl
theorem gEq_self {a : PyData} (ha : leafOk a = true) (da : a.depth ≤ 64) : gEq a a = some (.bool true) := by
  rw [gEq_of ha ha da da, SeqAt.eqv_refl a (leaf_lay a ha)]
theorem gEq_int (i j : Int) : gEq (.int i) (.int j) = some (.bool (i == j)) := nr rfl
theorem gNe_int (i j : Int) : gNe (.int i) (.int j) = some (.bool (!(i == j))) := nr rfl
theorem gEq_str {x y : Str} (hx : leafOk (.str x) = true) (hy : leafOk (.str y) = true) : gEq (.str x) (.str y) = some (.bool (x == y)) := gEq_of hx hy (show (0 : Nat) ≤ 64 by decide) (show (0 : Nat) ≤ 64 by decide)
theorem cRepr_of {d : PyData} (h : okRepr d = true) : cRepr [d] = some (.str d.shown) := by
  show (if okRepr d = true then some (PyData.str d.shown) else none) = _
  rw [if_pos h]
/-! ### equations, applied to slots -/
section
variable {ρ : List Sl} {α β γ : Type}
theorem x_pb (a : α) (f : α → M β) : ((pure a : M α) >>= f) = f a := nr rfl
theorem x_fb (f : α → M β) : ((M.fail : M α) >>= f) = M.fail := nr rfl
theorem x_ba (m : M α) (f : α → M β) (g : β → M γ) : (m >>= f) >>= g = m >>= fun a => f a >>= g := by
  funext t
  show (match (match m t with | none => none | some (a, t') => f a t') with | none => none | some (b, t') => g b t') = (match m t with | none => none | some (a, t') => (match f a t' with | none => none | some (b, t'') => g b t''))
  cases m t with
  | none => rfl
  | some p => rfl
theorem x_bp (m : M α) : (m >>= fun a => (pure a : M α)) = m := by
  funext t
  show (match m t with | none => none | some (a, t') => some (a, t')) = m t
  cases m t with
  | none => rfl
  | some p => rfl
theorem x_ls (a : α) : M.lift (some a) = pure a := nr rfl
theorem x_ln : M.lift (none : Option α) = M.fail := nr rfl
theorem x_eVar (i : Nat) : eVar i ρ = M.lift (rdF ρ i) := nr rfl
theorem x_bVar (i : Nat) : bVar i ρ = M.lift (rdB ρ i) := nr rfl
theorem x_rdF (i : Nat) : rdF ρ i = (match ρ[i]? with | some (.fz d) => some d | _ => none) := nr rfl
theorem x_rdB (i : Nat) : rdB ρ i = (match ρ[i]? with | some (.fz d) => some d | some (.ow xs) => some (.list xs) | _ => none) := nr rfl
theorem x_eC (d : PyData) : eC d ρ = pure d := nr rfl
theorem x_e2 (g : PyData → PyData → Option PyData) (a b : ME) : e2 g a b ρ = a ρ >>= fun x => b ρ >>= fun y => M.lift (g x y) := nr rfl
theorem x_e1 (g : PyData → Option PyData) (a : ME) : e1 g a ρ = a ρ >>= fun x => M.lift (g x) := nr rfl
theorem x_eList (m : ML) : eList m ρ = m ρ >>= fun xs => pure (.list xs) := nr rfl
theorem x_eTup (l : ML) : eTup l ρ = l ρ >>= fun ds => if okLen ds.length then pure (.tuple ds) else M.fail := nr rfl
theorem x_nLst (l : ML) : nLst l ρ = l ρ >>= fun ds => if okLen ds.length then pure ds else M.fail := nr rfl
theorem x_lNil : lNil ρ = pure [] := nr rfl
theorem x_lCons (m : ME) (l : ML) : lCons m l ρ = m ρ >>= fun d => l ρ >>= fun ds => pure (d :: ds) := nr rfl
theorem x_aNil : aNil ρ = pure [] := nr rfl
theorem x_aCons (m : ME) (l : MA) : aCons m l ρ = m ρ >>= fun d => l ρ >>= fun ds => pure (.fz d :: ds) := nr rfl
theorem x_aTape (i : Nat) (l : MA) : aTape i l ρ = l ρ >>= fun ds => if isTp ρ i then pure (.tp :: ds) else M.fail := nr rfl
theorem x_isTp (i : Nat) : isTp ρ i = (match ρ[i]? with | some .tp => true | _ => false) := nr rfl
theorem x_eCal (g : List PyData → Option PyData) (l : ML) : eCal g l ρ = l ρ >>= fun ds => M.lift (g ds) := nr rfl
theorem x_nCal (g : List PyData → Option (List PyData)) (l : ML) : nCal g l ρ = l ρ >>= fun ds => M.lift (g ds) := nr rfl
theorem x_eCall (m : MF) (l : MA) : eCall m l ρ = l ρ >>= m := nr rfl
theorem x_eCut (a : ME) (l h : List Sl → M (Option Int)) : eCut a l h ρ = a ρ >>= fun d => l ρ >>= fun lo => h ρ >>= fun hi => M.lift (gCut d lo hi) := nr rfl
theorem x_pNone : pNone ρ = pure none := nr rfl
theorem x_pSome (m : ME) : pSome m ρ = m ρ >>= fun d => M.lift (intOf d) >>= fun i => pure (some i) := nr rfl
theorem x_tOf (m : ME) : tOf m ρ = m ρ >>= fun d => M.lift (boolOf (some d)) := by
  show (m ρ >>= fun d => match d with | .bool b => pure b | _ => M.fail) = _
  congr 1
  funext d
  cases d <;> rfl
theorem x_bAnd (a b : MB) : bAnd a b ρ = a ρ >>= fun x => if x then b ρ else pure false := nr rfl
theorem x_bOr (a b : MB) : bOr a b ρ = a ρ >>= fun x => if x then pure true else b ρ := nr rfl
theorem x_bNot (a : MB) : bNot a ρ = a ρ >>= fun x => pure (!x) := nr rfl
theorem x_eIf (c : MB) (a b : ME) : eIf c a b ρ = c ρ >>= fun x => if x then a ρ else b ρ := nr rfl
theorem x_eAnd (a b : ME) : eAnd a b ρ = tOf a ρ >>= fun x => if x then b ρ else pure (.bool false) := nr rfl
theorem x_eOr (a b : ME) : eOr a b ρ = tOf a ρ >>= fun x => if x then pure (.bool true) else b ρ := nr rfl
theorem x_eNot (a : ME) : eNot a ρ = tOf a ρ >>= fun x => pure (.bool (!x)) := nr rfl
theorem x_eChain (g g' : PyData → PyData → Option PyData) (a b c : ME) : eChain g g' a b c ρ = a ρ >>= fun x => b ρ >>= fun y => M.lift (boolOf (g x y)) >>= fun k => if k then (c ρ >>= fun z => M.lift (g' y z)) else pure (.bool false) := nr rfl
theorem x_lSeq (m : ME) : lSeq m ρ = m ρ >>= fun d => M.lift (seqOf d) := nr rfl
theorem x_nComp (mi : ML) (g : MG) (vs : List Nat) (q : MB) (m : ME) : nComp mi g vs q m ρ = mi ρ >>= fun ds => if okLen ds.length then compGo g q m (unAll ρ vs) ds else M.fail := nr rfl
theorem x_sNext : sNext ρ = pure (.nx ρ) := nr rfl
theorem x_sSeq (a b : MS) : sSeq a b ρ = a ρ >>= andThen b := nr rfl
theorem x_atN (b : MS) : andThen b (.nx ρ) = b ρ := nr rfl
theorem x_atR (b : MS) (d : PyData) : andThen b (.rt d) = pure (.rt d) := nr rfl
theorem x_atB (b : MS) : andThen b (.bk ρ) = pure (.bk ρ) := nr rfl
theorem x_atC (b : MS) : andThen b (.ct ρ) = pure (.ct ρ) := nr rfl
theorem x_sDrop (m : ME) : sDrop m ρ = m ρ >>= fun _ => pure (.nx ρ) := nr rfl
theorem x_sRet (m : ME) : sRet m ρ = m ρ >>= fun d => pure (.rt d) := nr rfl
theorem x_sIf (c : MB) (a b : MS) : sIf c a b ρ = c ρ >>= fun x => if x then a ρ else b ρ := nr rfl
theorem x_sAsg (m : ME) (g : MG) : sAsg m g ρ = m ρ >>= fun d => M.lift (g d ρ) >>= fun ρ' => pure (.nx ρ') := nr rfl
theorem x_mName (i : Nat) (d : PyData) : mName i d ρ = some (ρ.set i (.fz d)) := nr rfl
theorem x_mSeq (n : Nat) (m : MGs) (d : PyData) : mSeq n m d ρ = (seqOf d).bind fun ds => if ds.length = n then m ds ρ else none := nr rfl
theorem x_mgNil : mgNil [] ρ = some ρ := nr rfl
theorem x_mgCons (a : MG) (r : MGs) (d : PyData) (l : List PyData) : mgCons a r (d :: l) ρ = (a d ρ).bind (r l) := nr rfl
theorem x_sOwn (i : Nat) (m : ML) : sOwn i m ρ = m ρ >>= fun xs => pure (.nx (ρ.set i (.ow xs))) := nr rfl
theorem x_sFrz (i : Nat) (m : MS) : sFrz i m ρ = m (frz i ρ) := nr rfl
theorem x_frz (i : Nat) : frz i ρ = (match ρ[i]? with | some (.ow xs) => ρ.set i (.fz (.list xs)) | _ => ρ) := nr rfl
theorem x_sApp (i : Nat) (m : ME) : sApp i m ρ = m ρ >>= fun d => M.lift (owOf ρ i) >>= fun xs => if okLen xs.length then pure (.nx (ρ.set i (.ow (xs ++ [d])))) else M.fail := nr rfl
theorem x_owOf (i : Nat) : owOf ρ i = (match ρ[i]? with | some (.ow xs) => some xs | _ => none) := nr rfl
theorem x_sSetI (i : Nat) (k m : ME) : sSetI i k m ρ = m ρ >>= fun d => k ρ >>= fun z => M.lift (owOf ρ i) >>= fun xs => M.lift (ixOf xs.length z) >>= fun j => pure (.nx (ρ.set i (.ow (xs.set j d)))) := nr rfl
theorem x_sPar (i j : Nat) (l : ML) : sPar i j l ρ = l ρ >>= fun ds => M.lift (match ds with | [d, e] => some (.nx ((ρ.set i (.fz d)).set j (.fz e))) | _ => none) := nr rfl
theorem x_sPar3 (i j k : Nat) (l : ML) : sPar3 i j k l ρ = l ρ >>= fun ds => M.lift (match ds with | [d, e, f] => some (.nx (((ρ.set i (.fz d)).set j (.fz e)).set k (.fz f))) | _ => none) := nr rfl
theorem x_sFor (mi : ML) (g : MG) (b : MS) : sFor mi g b ρ = mi ρ >>= fun ds => forGo g b ds ρ := nr rfl
theorem x_forN (g : MG) (b : MS) : forGo g b [] ρ = pure (.nx ρ) := nr rfl
theorem x_forC (g : MG) (b : MS) (d : PyData) (r : List PyData) : forGo g b (d :: r) ρ = M.lift (g d ρ) >>= fun ρ' => b ρ' >>= loopOut (forGo g b r) := nr rfl
theorem x_loN (go : List Sl → M Out) : loopOut go (.nx ρ) = go ρ := nr rfl
theorem x_loC (go : List Sl → M Out) : loopOut go (.ct ρ) = go ρ := nr rfl
theorem x_loB (go : List Sl → M Out) : loopOut go (.bk ρ) = pure (.nx ρ) := nr rfl
theorem x_loR (go : List Sl → M Out) (d : PyData) : loopOut go (.rt d) = pure (.rt d) := nr rfl
theorem x_cN (g : MG) (q : MB) (m : ME) : compGo g q m ρ [] = pure [] := nr rfl
theorem x_cC (g : MG) (q : MB) (m : ME) (d : PyData) (r : List PyData) : compGo g q m ρ (d :: r) = M.lift (g d ρ) >>= fun ρ' => q ρ' >>= fun k => if k then (m ρ' >>= fun y => compGo g q m ρ r >>= fun ys => pure (y :: ys)) else compGo g q m ρ r := nr rfl
theorem x_bYes : bYes ρ = pure true := nr rfl
theorem x_oR (d : PyData) : outD (.rt d) = pure d := nr rfl
theorem x_oN : outD (.nx ρ) = pure .none := nr rfl
theorem x_mf0 (N : Nat) (b : MS) : mfn 0 N b [] = b ([] ++ List.replicate (N - 0) .un) >>= outD := nr rfl
theorem x_mf1 (N : Nat) (b : MS) (a1 : Sl) : mfn 1 N b [a1] = b ([a1] ++ List.replicate (N - 1) .un) >>= outD := nr rfl
theorem x_mf2 (N : Nat) (b : MS) (a1 a2 : Sl) : mfn 2 N b [a1, a2] = b ([a1, a2] ++ List.replicate (N - 2) .un) >>= outD := nr rfl
theorem x_mf3 (N : Nat) (b : MS) (a1 a2 a3 : Sl) : mfn 3 N b [a1, a2, a3] = b ([a1, a2, a3] ++ List.replicate (N - 3) .un) >>= outD := nr rfl
theorem x_mf4 (N : Nat) (b : MS) (a1 a2 a3 a4 : Sl) : mfn 4 N b [a1, a2, a3, a4] = b ([a1, a2, a3, a4] ++ List.replicate (N - 4) .un) >>= outD := nr rfl
theorem x_mf5 (N : Nat) (b : MS) (a1 a2 a3 a4 a5 : Sl) : mfn 5 N b [a1, a2, a3, a4, a5] = b ([a1, a2, a3, a4, a5] ++ List.replicate (N - 5) .un) >>= outD := nr rfl
theorem x_mfn (n N : Nat) (b : MS) (as : List Sl) (h : as.length = n) : mfn n N b as = b (as ++ List.replicate (N - n) .un) >>= outD := by
  unfold mfn
  rw [if_pos h]
end
end DL

set_option maxHeartbeats 1000000
/-! The data layer, part L: values of operations. -/
namespace DL
open PySem
abbrev pt (x y : Int) : PyData := .tuple [.int x, .int y]
section
variable {x y z : PyData} {i j : Int} {r : List PyData}
theorem v_sub : gSub (.int i) (.int j) = some (.int (i - j)) := nr rfl
theorem v_add : gAdd (.int i) (.int j) = some (.int (i + j)) := nr rfl
theorem v_addL {xs ys : List PyData} (h : okLen (xs.length + ys.length) = true) : gAdd (.list xs) (.list ys) = some (.list (xs ++ ys)) := by
  show (none : Option PyData).or ((gCatL (.list xs) (.list ys)).or _) = _
  unfold gCatL
  simp [h]
theorem v_mul (h : okMul i j = true) : gMulI (.int i) (.int j) = some (.int (i * j)) := by
  show (if okMul i j then some (PyData.int (i * j)) else none) = _
  rw [if_pos h]
theorem v_div (h : okDiv i j = true) : gDiv (.int i) (.int j) = some (.int (i / j)) := by
  show (if okDiv i j then some (PyData.int (i / j)) else none) = _
  rw [if_pos h]
theorem v_mod (h : okMod i j = true) : gMod (.int i) (.int j) = some (.int (i % j)) := by
  show (if okMod i j then some (PyData.int (i % j)) else none) = _
  rw [if_pos h]
theorem v_pow (h : okPow i j = true) : gPow (.int i) (.int j) = some (.int (i ^ j.toNat)) := by
  show (if okPow i j then some (PyData.int (i ^ j.toNat)) else none) = _
  rw [if_pos h]
theorem v_neg : gNeg (.int i) = some (.int (-i)) := nr rfl
theorem v_lt : gLtI (.int i) (.int j) = some (.bool (decide (i < j))) := nr rfl
theorem v_le : gLeI (.int i) (.int j) = some (.bool (decide (i ≤ j))) := nr rfl
theorem v_gt : gGtI (.int i) (.int j) = some (.bool (decide (j < i))) := nr rfl
theorem v_ge : gGeI (.int i) (.int j) = some (.bool (decide (j ≤ i))) := nr rfl
theorem v_abs : cAbs [.int i] = some (.int (if i < 0 then -i else i)) := nr rfl
theorem v_max : cMax [.int i, .int j] = some (.int (if j > i then j else i)) := nr rfl
theorem v_min : cMin [.int i, .int j] = some (.int (if j < i then j else i)) := nr rfl
theorem v_intI : cInt [.int i] = some (.int i) := nr rfl
theorem v_intB {b : Bool} : cInt [.bool b] = some (.int (if b then 1 else 0)) := nr rfl
theorem v_lenL : cLen [.list r] = some (.int r.length) := nr rfl
theorem v_lenT : cLen [.tuple r] = some (.int r.length) := nr rfl
theorem v_tupL : cTuple [.list r] = some (.tuple r) := nr rfl
theorem v_tupT : cTuple [.tuple r] = some (.tuple r) := nr rfl
theorem v_listL : cList [.list r] = some r := nr rfl
theorem v_listT : cList [.tuple r] = some r := nr rfl
theorem v_ixL : gIx (.list r) (.int i) = L2.atI r i := nr rfl
theorem v_ixT : gIx (.tuple r) (.int i) = L2.atI r i := nr rfl
theorem v_at {k : Nat} : L2.atI r (k : Int) = r[k]? := by
  unfold L2.atI L2.ixN
  by_cases h : k < r.length
  · simp [h]
  · rw [if_pos (by omega), if_neg (by omega)]
    simp
    omega
theorem v_at0 : L2.atI (x :: r) 0 = some x := v_at (k := 0)
theorem v_at1 : L2.atI (x :: y :: r) 1 = some y := v_at (k := 1)
theorem v_at2 : L2.atI (x :: y :: z :: r) 2 = some z := v_at (k := 2)
theorem v_bool {b : Bool} : boolOf (some (.bool b)) = some b := nr rfl
theorem v_seqL : seqOf (.list r) = some r := nr rfl
theorem v_seqT : seqOf (.tuple r) = some r := nr rfl
theorem v_intOf : intOf (.int i) = some i := nr rfl
theorem v_rng1 (h : okRg j = true) : rng1 [.int j] = some (rgD 0 j.toNat) := by
  show (if okRg j then some (rgD 0 j.toNat) else none) = _
  rw [if_pos h]
theorem v_rng2 (h : okRg i = true) (h' : okRg j = true) : rng2 [.int i, .int j] = some (rgD i (j - i).toNat) := by
  show (if okRg i && okRg j then some (rgD i (j - i).toNat) else none) = _
  rw [h, h']
  rfl
theorem v_ok0 : okLen 0 = true := nr rfl
theorem v_ok1 : okLen 1 = true := nr rfl
theorem v_ok2 : okLen 2 = true := nr rfl
theorem v_ok3 : okLen 3 = true := nr rfl
theorem v_ok4 : okLen 4 = true := nr rfl
theorem v_okn : okLen (0 + 1) = true := nr rfl
theorem v_ok5 : okLen 5 = true := nr rfl
theorem v_ok6 : okLen 6 = true := nr rfl
theorem v_ok7 : okLen 7 = true := nr rfl
theorem v_ok8 : okLen 8 = true := nr rfl
theorem v_ok9 : okLen 9 = true := nr rfl
theorem v_ok10 : okLen 10 = true := nr rfl
theorem v_ok11 : okLen 11 = true := nr rfl
theorem v_ok12 : okLen 12 = true := nr rfl
theorem v_ok13 : okLen 13 = true := nr rfl
theorem v_ok14 : okLen 14 = true := nr rfl
theorem v_ok15 : okLen 15 = true := nr rfl
theorem v_ok16 : okLen 16 = true := nr rfl
theorem v_ok17 : okLen 17 = true := nr rfl
theorem v_ok18 : okLen 18 = true := nr rfl
theorem v_ok19 : okLen 19 = true := nr rfl
theorem v_ok20 : okLen 20 = true := nr rfl
theorem v_ok21 : okLen 21 = true := nr rfl
theorem v_ok22 : okLen 22 = true := nr rfl
theorem v_ok23 : okLen 23 = true := nr rfl
theorem v_ok24 : okLen 24 = true := nr rfl
theorem v_ok25 : okLen 25 = true := nr rfl
theorem v_ok26 : okLen 26 = true := nr rfl
theorem v_ok27 : okLen 27 = true := nr rfl
theorem v_ok28 : okLen 28 = true := nr rfl
theorem v_ok29 : okLen 29 = true := nr rfl
theorem v_ok30 : okLen 30 = true := nr rfl
theorem v_ok31 : okLen 31 = true := nr rfl
theorem v_ok32 : okLen 32 = true := nr rfl
/-- cells of a tape -/
theorem lay_ints : ∀ ns : List Int, PyData.canLayAll0 (ns.map PyData.int) = true
  | [] => rfl
  | n :: r => by
    rw [List.map_cons, PyData.canLayAll0, lay_ints r]
    rfl
theorem depth_ints : ∀ ns : List Int, PyData.depthAll (ns.map PyData.int) = 0
  | [] => rfl
  | n :: r => by
    rw [List.map_cons, PyData.depthAll, depth_ints r]
    rfl
theorem shaped_ints (ns : List Int) : SeqAt.shaped (.list (ns.map PyData.int)) = true := by
  unfold SeqAt.shaped
  have h1 : PyData.canLay0 (.list (ns.map PyData.int)) = true := lay_ints ns
  have h2 : PyData.depth (.list (ns.map PyData.int)) = 1 := by rw [PyData.depth, depth_ints]
  rw [h1, h2]
  rfl
theorem v_neCells {ns : List Int} : gNe (.list (ns.map PyData.int)) (.list []) = some (.bool (!ns.isEmpty)) := by
  unfold gNe
  rw [shaped_ints, show SeqAt.shaped (.list []) = true from rfl]
  cases ns with
  | nil => rfl
  | cons n r => rfl
theorem v_eqCells {ns : List Int} : gEq (.list (ns.map PyData.int)) (.list []) = some (.bool ns.isEmpty) := by
  unfold gEq
  rw [shaped_ints, show SeqAt.shaped (.list []) = true from rfl]
  cases ns with
  | nil => rfl
  | cons n r => rfl
theorem v_atMod {ns : List Int} (h : ns ≠ []) (a : Int) : ∃ c : Int, c ∈ ns ∧ L2.atI (ns.map PyData.int) (a % ((ns.map PyData.int).length : Int)) = some (.int c) := by
  have hl : 0 < ns.length := by
    cases ns with
    | nil => exact absurd rfl h
    | cons _ _ => simp
  have hl' : (0 : Int) < ((ns.map PyData.int).length : Int) := by rw [List.length_map]; omega
  have h0 := Int.emod_nonneg a (Int.ne_of_gt hl')
  have h1 := Int.emod_lt_of_pos a hl'
  obtain ⟨k, hk⟩ := Int.eq_ofNat_of_zero_le h0
  rw [hk] at h1 ⊢
  rw [v_at, List.getElem?_map]
  have hk' : k < ns.length := by
    rw [List.length_map] at h1
    omega
  exact ⟨ns[k], List.getElem_mem hk', by rw [List.getElem?_eq_getElem hk']; rfl⟩
theorem leaf_ints : ∀ (ns : List Int), (∀ n ∈ ns, n.natAbs < 2 ^ 690) → leafOkA (ns.map PyData.int) = true
  | [], _ => rfl
  | n :: r, h => by
    rw [List.map_cons, leafOkA, leaf_ints r fun m hm => h m (List.mem_cons_of_mem _ hm), Bool.and_true, leafOk]
    exact decide_eq_true (h n (by simp))
theorem weight_ints : ∀ (ns : List Int), (∀ n ∈ ns, n.natAbs < 2 ^ 690) → PyData.weightAll (ns.map PyData.int) ≤ 700 * ns.length
  | [], _ => Nat.le_refl _
  | n :: r, h => by
    have ih := weight_ints r fun m hm => h m (List.mem_cons_of_mem _ hm)
    have h1 := int_log (h n (by simp))
    rw [List.map_cons, PyData.weightAll, List.length_cons, PyData.weight]
    split <;> omega
theorem okRepr_ints {ns : List Int} (h : ∀ n ∈ ns, n.natAbs < 2 ^ 690) (hl : ns.length ≤ 28) : okRepr (.list (ns.map PyData.int)) = true := by
  unfold okRepr
  have h1 : leafOk (.list (ns.map PyData.int)) = true := leaf_ints ns h
  have h2 : PyData.depth (.list (ns.map PyData.int)) = 1 := by rw [PyData.depth, depth_ints]
  have h3 : PyData.weight (.list (ns.map PyData.int)) ≤ 20000 := by
    rw [PyData.weight]
    have := weight_ints ns h
    omega
  rw [h1, h2, decide_eq_true h3]
  rfl
theorem pow690 {n : Nat} (h : n ≤ 10 ^ 60) : n < 2 ^ 690 := Nat.lt_of_le_of_lt h (Nat.lt_of_lt_of_le (by decide : 10 ^ 60 < 2 ^ 200) (Nat.pow_le_pow_right (by decide) (by decide)))
theorem ite_pair {p : Bool} {q : Bool} {T : Tape} : (if p = true then some (q, T) else some (false, T)) = some (p && q, T) := by
  cases p <;> rfl
theorem ite_pairO {p : Bool} {q : Bool} {T : Tape} : (if p = true then some (true, T) else some (q, T)) = some (p || q, T) := by
  cases p <;> rfl
theorem x_tget (kd i k : Nat) (ρ : List Sl) (t : Tape) : eTGet kd i k ρ t = if isTp ρ i && (t.kind == kd) then some (fldOf t k, t) else none := nr rfl
theorem x_tput (kd i k : Nat) (m : ME) (ρ : List Sl) : sTPut kd i k m ρ = m ρ >>= fun d => M.lift (intOf d) >>= fun z => doPut kd (isTp ρ i) ρ k z := nr rfl
theorem x_doPut (kd : Nat) (b : Bool) (ρ : List Sl) (k : Nat) (z : Int) (t : Tape) : doPut kd b ρ k z t = if b && (t.kind == kd) then some (.nx ρ, tSet t k z) else none := nr rfl
end
end DL

set_option maxHeartbeats 1000000
/-! The data layer, part M: in, isinstance, xs[::-1], sorted of pairs. -/
namespace DL
open PySem L2

/-! ### in -/
def gIn (a b : PyData) : Option PyData := match b with
  | .list ds => if SeqAt.shaped a && SeqAt.shaped (.list ds) then some (.bool (ds.any fun z => PyData.eqv z a)) else none
  | _ => none
def gNin (a b : PyData) : Option PyData := match b with
  | .list ds => if SeqAt.shaped a && SeqAt.shaped (.list ds) then some (.bool (!ds.any fun z => PyData.eqv z a)) else none
  | _ => none
theorem o_inK {K : PySem.W.Frag} : Op2 (rInD K) gIn := fun F t ρ G H σ x y a b c e w hx hy Q q => by
  unfold gIn at e
  split at e
  · rename_i ds
    split at e
    · rename_i hc
      rw [Bool.and_eq_true] at hc
      cases e
      exact ⟨a, ds, (hx.rp w).dp, (hy.rp w).dp, hc.1, hc.2, q _ G H w Gw.refl (.bl _)⟩
    · cases e
  · cases e
theorem o_ninK {K : PySem.W.Frag} : Op2 (rNotInD K) gNin := fun F t ρ G H σ x y a b c e w hx hy Q q => by
  unfold gNin at e
  split at e
  · rename_i ds
    split at e
    · rename_i hc
      rw [Bool.and_eq_true] at hc
      cases e
      exact ⟨a, ds, (hx.rp w).dp, (hy.rp w).dp, hc.1, hc.2, q _ G H w Gw.refl (.bl _)⟩
    · cases e
  · cases e
theorem op_inK {X : Cx} (hu : X.A.units + 65 < cLine) : OpR X (compareOp .In) (rInD X.K) := op_inD hu
theorem op_ninK {X : Cx} (hu : X.A.units + 65 < cLine) : OpR X (compareOp .NotIn) (rNotInD X.K) := op_notInD hu

/-! ### isinstance -/
def tyN : PyData → String
  | .none => "NoneType"
  | .bool _ => "bool"
  | .int _ => "int"
  | .str _ => "str"
  | .list _ => "list"
  | .tuple _ => "tuple"
  | .dict _ => "dict"
inductive Ty where
  | int | bool | str | list | tuple
def Ty.nm : Ty → String
  | .int => "int" | .bool => "bool" | .str => "str" | .list => "list" | .tuple => "tuple"
def isTy : Ty → PyData → Bool
  | .int, .int _ => true
  | .int, .bool _ => true
  | .bool, .bool _ => true
  | .str, .str _ => true
  | .list, .list _ => true
  | .tuple, .tuple _ => true
  | _, _ => false
def gIsi (y : Ty) (d : PyData) : Option PyData := some (.bool (isTy y d))
theorem isi_kit (y : Ty) (d : PyData) : kitB (tyN d) y.nm = some (isTy y d) := by
  cases y <;> cases d <;> simp only [tyN, isTy, Ty.nm] <;> decide +kernel
theorem Rp.ty {K : PySem.W.Frag} {H : Hp} {v : V} {d : PyData} (r : Rp H v d) : TyX K H v (.type (tyN d)) := by
  cases r with
  | non => exact .base .non
  | bl b => exact .base (.bl b)
  | int i => exact .base (.int i)
  | str x => exact .base (.str x)
  | lst h _ => exact .base (.lst h)
  | tup h _ => exact .base (.tup h)
section
variable {X : Cx} {e a b c : Expr} {es : List Expr} {t ta tb tc : TE} {m ma mb mc : ME} {pos : Pos} {i : Nat}
theorem re_isi {y : Ty} {x : Str} {p p2 : Pos} (hm : X.mg "isinstance" = none) (hm2 : X.mg x = none) (hv : bootBuiltins x = some (.type y.nm)) (ha : RB X a ta ma)
    (gl : Gl X "isinstance" := by rfl) (gl2 : Gl X x := by rfl) (hn : x ≠ "__name__" := by decide) (hdb : (x == ("__debug__" : Str)) = false := by decide)
    (he : starEach [a, .Name x p2] X.env = (false, eval a X.env) :: starEach [.Name x p2] X.env := by rfl)
    (he2 : starEach [.Name x p2] X.env = (false, eval (.Name x p2) X.env) :: starEach [] X.env := by rfl)
    (hpl : (backTo pos (starEach [.Name x p2] X.env)).any (·.1) = false := by rfl) :
    RE X (.Call (.Name "isinstance" p) [a, .Name x p2] [] pos) (tCB (rIsi X.K) (tCons ta (tCons (tC (.ty y.nm)) tNil))) (e1 (gIsi y) ma) :=
  ⟨pe_callB call_isi gl hm (by decide +kernel) (pa_cons ha.pe (pa_cons (pe_bltn gl2 hm2 hv (show RelV (.ty y.nm) (.type y.nm) from rfl) hn hdb) pa_nil he2) he) (by decide) (by decide) he hpl, fun F t0 t1 ρ G H σ d e w Q q => by
    obtain ⟨x, t2, e1, e⟩ := bnd_some e
    obtain ⟨f4, rfl⟩ := lift_some e
    refine ha.ev F t0 _ ρ G H σ x e1 w _ fun v G1 H1 w1 s1 r1 => ?_
    cases f4
    exact ⟨v, _, _, _, _, rfl, .ty _, (r1.rp w1).ty, kit_ty (isi_kit y x), q _ G1 H1 w1 s1 (.bl _)⟩⟩
/-! ### xs[::-1] -/
def nRev (ma : ME) : ML := fun ρ => do
  let d ← ma ρ
  M.lift (match d with
    | .list xs => some xs.reverse
    | _ => none)
theorem rn_rev {k : Nat} {p1 p2 p3 : Pos} (ha : RB X a ta ma) : RN X (.Subscript a (.Slice none none (some (.UnaryOp .USub (.Constant (.int 1) k p1) p2)) p3) pos) (tRevL X.K ta) (nRev ma) :=
  ⟨pe_revL ha.pe, fun F t0 t1 ρ G H σ d e w Q q => by
    obtain ⟨x, t2, e1, e⟩ := bnd_some e
    obtain ⟨f4, rfl⟩ := lift_some e
    refine ha.ev F t0 _ ρ G H σ x e1 w _ fun v G1 H1 w1 s1 r1 => ?_
    cases x with
    | list xs =>
      cases f4
      obtain ⟨p, vs, rfl, hp, rp⟩ := r1.lst w1
      refine ⟨p, vs, rfl, SqL.of hp, fun z hz => ?_⟩
      obtain ⟨w4, o4, n4⟩ := w1.newL hz rp.reverse
      exact q z G1 _ w4 (s1.trans (Gw.raw hz)) ⟨o4, n4⟩ (kp_none w s1 hz (w1.co.T_ne hz))
    | _ => cases f4⟩
end
/-! ### sorted of pairs of ints -/
def isPairD : PyData → Bool
  | .tuple [.int _, .int _] => true
  | _ => false
def keyP : PyData → Int × Int
  | .tuple [.int i, .int j] => (i, j)
  | _ => (0, 0)
def leP (a b : PyData) : Bool := !SrtO.lexB (keyP b) (keyP a)
def sortP (ds : List PyData) : List PyData := ds.mergeSort leP
def cSortP : List PyData → Option (List PyData)
  | [.list ds] => if ds.all isPairD then some (sortP ds) else none
  | _ => none
theorem isPairD_eq {d : PyData} (h : isPairD d = true) : d = pt (keyP d).1 (keyP d).2 := by
  unfold isPairD at h
  split at h
  · rfl
  · cases h
theorem leP_iff {a b : PyData} : leP a b = true ↔ ¬ ((keyP b).1 < (keyP a).1 ∨ ((keyP b).1 = (keyP a).1 ∧ (keyP b).2 < (keyP a).2)) := by
  unfold leP
  rw [Bool.not_eq_true', SrtO.lexB_no]
theorem leP_trans (a b c : PyData) (h1 : leP a b = true) (h2 : leP b c = true) : leP a c = true := by
  rw [leP_iff] at *
  omega
theorem leP_total (a b : PyData) : (leP a b || leP b a) = true := by
  rw [Bool.or_eq_true, leP_iff, leP_iff]
  omega
theorem sortP_perm (ds : List PyData) : (sortP ds).Perm ds := List.mergeSort_perm _ _
theorem sortP_srtd (ds : List PyData) : (sortP ds).Pairwise fun a b => leP a b = true := List.pairwise_mergeSort leP_trans leP_total ds
theorem leP_anti {a b : PyData} (ha : isPairD a = true) (hb : isPairD b = true) (h1 : leP a b = true) (h2 : leP b a = true) : a = b := by
  rw [leP_iff] at h1 h2
  rw [isPairD_eq ha, isPairD_eq hb]
  have e1 : (keyP a).1 = (keyP b).1 := by omega
  have e2 : (keyP a).2 = (keyP b).2 := by omega
  rw [e1, e2]
theorem sortP_uniq {ds es : List PyData} (hp : es.Perm ds) (ha : ds.all isPairD = true) (hs : es.Pairwise fun a b => leP a b = true) : es = sortP ds := by
  have hd : ∀ d ∈ ds, isPairD d = true := List.all_eq_true.mp ha
  refine List.Perm.eq_of_pairwise (le := fun a b => leP a b = true) (fun a b m1 m2 h1 h2 => leP_anti (hd a (hp.mem_iff.mp m1)) (hd b ((sortP_perm ds).mem_iff.mp m2)) h1 h2) hs (sortP_srtd ds) (hp.trans (sortP_perm ds).symm)
def kV (G : Hp) (v : V) : Int × Int := match v with
  | .ref a => match G a with
    | some (.tup [.int i, .int j]) => (i, j)
    | _ => (0, 0)
  | _ => (0, 0)
def dV (G : Hp) (v : V) : PyData := pt (kV G v).1 (kV G v).2
theorem pair_rp {G : Hp} {v : V} {d : PyData} (r : Rp G v d) (h : isPairD d = true) : ∃ a, v = .ref a ∧ G a = some (.tup [.int (kV G v).1, .int (kV G v).2]) ∧ d = dV G v := by
  have e := isPairD_eq h
  rw [e] at r
  cases r with
  | @tup a xs ds h1 r1 =>
    cases r1 with
    | cons p1 r2 =>
      cases r2 with
      | cons p2 r3 =>
        cases r3
        cases p1
        cases p2
        have ek : kV G (.ref a) = keyP d := by
          unfold kV
          simp only [h1]
        refine ⟨a, rfl, by rw [ek]; exact h1, ?_⟩
        unfold dV
        rw [ek]
        exact e
theorem pairs_rp {G : Hp} : ∀ {vs : List V} {ds : List PyData}, RpA G vs ds → ds.all isPairD = true → ds = vs.map (dV G) ∧ ∀ v ∈ vs, (∃ a, v = .ref a ∧ G a = some (.tup [.int (kV G v).1, .int (kV G v).2])) ∧ Rp G v (dV G v)
  | _, _, .nil, _ => ⟨rfl, fun _ h => nomatch h⟩
  | _, _, .cons h r, hd => by
    rw [List.all_cons, Bool.and_eq_true] at hd
    obtain ⟨e1, h1⟩ := pairs_rp r hd.2
    obtain ⟨a, ea, ga, ed⟩ := pair_rp h hd.1
    refine ⟨by rw [List.map_cons, ← ed, ← e1], fun v hv => ?_⟩
    rcases List.mem_cons.mp hv with rfl | hv
    · exact ⟨⟨a, ea, ga⟩, by rw [← ed]; exact h⟩
    · exact h1 v hv
theorem rpA_map {G : Hp} {f : V → PyData} : ∀ (vs : List V), (∀ v ∈ vs, Rp G v (f v)) → RpA G vs (vs.map f)
  | [], _ => .nil
  | v :: vs, h => .cons (h v (List.mem_cons_self ..)) (rpA_map vs fun u m => h u (List.mem_cons_of_mem _ m))
theorem k_sortP {K : PySem.W.Frag} : CalN (rSortedPO K) cSortP := fun F t ρ G H σ vs ds c e w hx Q q => by
  unfold cSortP at e
  split at e
  · rename_i xs
    split at e
    · rename_i hall
      cases e
      cases hx with
      | cons h r =>
        cases r
        obtain ⟨p, us, rfl, hp, rp⟩ := h.lst w
        obtain ⟨ed, hv⟩ := pairs_rp rp hall
        refine ⟨p, us, kV G, rfl, SqL.of hp, fun x m => ?_, fun ys l hs hb hl => ?_⟩
        · obtain ⟨⟨a, ea, ga⟩, _⟩ := hv x m
          exact ⟨a, ea, w.co.sub _ _ ga⟩
        · have pm : (ys.map (dV G)).Perm xs := by
            rw [ed]
            exact hb.perm.map _
          have es : ys.map (dV G) = sortP xs := by
            refine sortP_uniq pm hall (List.pairwise_map.mpr (hs.imp fun {a b} h => ?_))
            rw [leP_iff]
            exact SrtO.lexB_no.mp h
          have rr : RpA G ys (sortP xs) := by
            rw [← es]
            exact rpA_map ys fun v m => (hv v (hb.perm.mem_iff.mp m)).2
          obtain ⟨w2, o2, n2⟩ := w.newL hl rr
          exact q l G _ w2 (Gw.raw hl) ⟨o2, n2⟩ hl
    · cases e
  · cases e
end DL

set_option maxHeartbeats 1000000
/-! The data layer, part N: the rules with the written part K named (so that they stand within comprehensions). -/
namespace DL
open PySem L2
section
variable {X : Cx} {e a b c : Expr} {es : List Expr} {t ta tb tc : TE} {m ma mb mc : ME} {pos p2 : Pos} {i : Nat} {lo hi : Option Expr} {tl th : TO} {ml mh : List Sl → M (Option Int)} (K : PySem.W.Frag)
theorem re_addN (ha : RB X a ta ma) (hb : RB X b tb mb) (hK : X.K = K := by rfl) : RE X (.BinOp a .Add b pos) (tOp (rAddK K) ta tb) (e2 gAdd ma mb) := hK ▸ re_add ha hb
theorem re_ixN (ha : RB X a ta ma) (hb : RB X b tb mb) (hs : PlainIx b := by exact fun _ _ => rfl) (hK : X.K = K := by rfl) : RE X (.Subscript a b pos) (tOp (rIx K) ta tb) (e2 gIx ma mb) := hK ▸ re_ix ha hb hs
theorem re_cutN (ha : RB X a ta ma) (hl : RO X lo tl ml) (hh : RO X hi th mh) (hK : X.K = K := by rfl) : RE X (.Subscript a (.Slice lo hi none p2) pos) (tSl (rCutK K) ta tl th) (eCut ma ml mh) := hK ▸ re_cut ha hl hh
theorem rn_cutN (ha : RB X a ta ma) (hl : RO X lo tl ml) (hh : RO X hi th mh) (hK : X.K = K := by rfl) : RN X (.Subscript a (.Slice lo hi none p2) pos) (tSl (rSlL K) ta tl th) (nCut ma ml mh) := hK ▸ rn_cut ha hl hh
theorem rg_seqN {k : Nat} {g : TGs} {ks : MGs} {is js : List Nat} {n : Nat} (hc : X.calm = true) (h : RGs X es g ks is) (hj : is = js := by rfl) (hn : (assignEach es X.env).length = n := by rfl) (hst : (assignEach es X.env).findIdx? (·.1) = none := by rfl) (hK : X.K = K := by rfl) :
    RG X (.Tuple es k pos) (gSeq K n g) (mSeq n ks) js := hK ▸ hj ▸ rg_seq hc h hn hst
theorem ri_seqN {tg : Expr} (h : RE X e t m) (hK : X.K = K := by rfl) : RI X tg e (iSeq K t) (lSeq m) := hK ▸ ri_seq h
theorem op_eqN (hu : X.A.units + 64 < cLine) (hK : X.K = K := by rfl) : OpR X (compareOp .Eq) (rEqD K) := hK ▸ op_eqD hu
theorem op_neN (hu : X.A.units + 64 < cLine) (hK : X.K = K := by rfl) : OpR X (compareOp .NotEq) (rNeD K) := hK ▸ op_neD hu
theorem op_inN {k : Nat} (hr : Room k X.A) (hK : X.K = K := by rfl) : OpR X (compareOp .In) (rInD K) := hK ▸ op_inD (by have := hr.un; omega)
theorem op_ninN {k : Nat} (hr : Room k X.A) (hK : X.K = K := by rfl) : OpR X (compareOp .NotIn) (rNotInD K) := hK ▸ op_notInD (by have := hr.un; omega)
theorem call_lenN (hK : X.K = K := by rfl) : CallR X (.builtin "len") (fun xs H Q => ∃ p ys, xs = [.ref p] ∧ (SqL K H p ys ∨ SqT K H p ys) ∧ Q (.int ys.length) H) := hK ▸ call_len_seq
theorem call_listN (hK : X.K = K := by rfl) : CallR X (.type "list") (fun xs H Q => ∃ p ys, xs = [.ref p] ∧ (SqL K H p ys ∨ SqT K H p ys) ∧ ∀ l, H l = none → Q (.ref l) (upd H l (.lst ys))) := hK ▸ call_list_of
theorem call_tupleN (hK : X.K = K := by rfl) : CallR X (.type "tuple") (fun xs H Q => ∃ p ys, xs = [.ref p] ∧ ((SqL K H p ys ∧ ∀ l, H l = none → Q (.ref l) (upd H l (.tup ys))) ∨ (SqT K H p ys ∧ Q (.ref p) H))) := hK ▸ call_tuple_of
theorem call_reprN {k : Nat} (hr : Room k X.A) (hG : X.A.guards = some []) (hK : X.K = K := by rfl) : CallR X (.builtin "repr") (rRepr K) := hK ▸ call_repr hr hG
theorem cr_sortedN (hK : X.K = K := by rfl) : CallR X (.builtin "sorted") (rSortedPO K) := hK ▸ cr_sortedPO
theorem rn_revN {k : Nat} {p1 p2 p3 : Pos} (ha : RB X a ta ma) (hK : X.K = K := by rfl) : RN X (.Subscript a (.Slice none none (some (.UnaryOp .USub (.Constant (.int 1) k p1) p2)) p3) pos) (tRevL K ta) (nRev ma) := hK ▸ rn_rev ha
theorem re_isiN {y : Ty} {x : Str} {p p2 : Pos} (hm : X.mg "isinstance" = none) (hm2 : X.mg x = none) (hv : bootBuiltins x = some (.type y.nm)) (ha : RB X a ta ma)
    (gl : Gl X "isinstance" := by rfl) (gl2 : Gl X x := by rfl) (hn : x ≠ "__name__" := by decide) (hdb : (x == ("__debug__" : Str)) = false := by decide)
    (he : starEach [a, .Name x p2] X.env = (false, eval a X.env) :: starEach [.Name x p2] X.env := by rfl)
    (he2 : starEach [.Name x p2] X.env = (false, eval (.Name x p2) X.env) :: starEach [] X.env := by rfl)
    (hpl : (backTo pos (starEach [.Name x p2] X.env)).any (·.1) = false := by rfl) (hK : X.K = K := by rfl) :
    RE X (.Call (.Name "isinstance" p) [a, .Name x p2] [] pos) (tCB (rIsi K) (tCons ta (tCons (tC (.ty y.nm)) tNil))) (e1 (gIsi y) ma) := hK ▸ re_isi hm hm2 hv ha gl gl2 hn hdb he he2 hpl
end
end DL

set_option maxHeartbeats 1000000
/-! The data layer, part O: more reasoning about mirrors. -/
namespace DL
open PySem
/-- a for by an invariant that counts the turns -/
theorem Gv.forI {kd : Nat} {c : Nat} {mg : MG} {b : MS} (I : Nat → List Sl → Prop) : ∀ (ds : List PyData) (k : Nat) (ρ : List Sl), (∀ d ∈ ds, ∀ j ρ, j < k + ds.length → I j ρ → Gv kd (M.lift (mg d ρ) >>= b) c fun o => ∃ ρ', o = .nx ρ' ∧ I (j + 1) ρ') → I k ρ → Gv kd (forGo mg b ds ρ) (ds.length * c) fun o => ∃ ρ', o = .nx ρ' ∧ I (k + ds.length) ρ'
  | [], k, ρ, _, h => fun B t ok hB => ⟨.nx ρ, t, rfl, ok.mono (by simp), ρ, rfl, h⟩
  | d :: r, k, ρ, hb, h => fun B t ok hB => by
    have e0 : ((d :: r).length * c : Nat) = r.length * c + c := by rw [List.length_cons, Nat.add_mul, Nat.one_mul]
    rw [e0] at hB ⊢
    obtain ⟨o, t1, e1, ok1, ρ1, rfl, h1⟩ := hb d (by simp) k ρ (by rw [List.length_cons]; omega) h B t ok (by omega)
    obtain ⟨o2, t2, e2, ok2, p2⟩ := Gv.forI I r (k + 1) ρ1 (fun d' hd j ρ hj => hb d' (List.mem_cons_of_mem _ hd) j ρ (by rw [List.length_cons]; omega)) h1 (B + c) t1 ok1 (by omega)
    refine ⟨o2, t2, ?_, ok2.mono (by omega), by rw [List.length_cons, show k + (r.length + 1) = k + 1 + r.length by omega]; exact p2⟩
    show (M.lift (mg d ρ) >>= fun ρ' => b ρ' >>= loopOut (forGo mg b r)) t = _
    have : (M.lift (mg d ρ) >>= fun ρ' => b ρ' >>= loopOut (forGo mg b r)) = (M.lift (mg d ρ) >>= b) >>= loopOut (forGo mg b r) := by
      funext t
      rw [bnd_ap, bnd_ap, bnd_ap]
      cases M.lift (mg d ρ) t with
      | none => rfl
      | some p => show (b p.1 >>= loopOut (forGo mg b r)) p.2 = _; rw [bnd_ap]; rfl
    rw [this, bnd_ap, e1]
    exact e2
theorem perm3 {α : Type} {l : List α} {x y z : α} (h : l.Perm [x, y, z]) : l = [x, y, z] ∨ l = [x, z, y] ∨ l = [y, x, z] ∨ l = [y, z, x] ∨ l = [z, x, y] ∨ l = [z, y, x] := by
  have two : ∀ {m : List α} {u v : α}, m.Perm [u, v] → m = [u, v] ∨ m = [v, u] := by
    intro m u v h
    have hl := h.length_eq
    match m, hl with
    | [a, b], _ =>
      have ha : a ∈ [u, v] := h.mem_iff.mp (by simp)
      simp only [List.mem_cons, List.not_mem_nil, or_false] at ha
      rcases ha with rfl | rfl
      · have := List.perm_cons a |>.mp h
        have := List.perm_singleton.mp this
        cases this
        exact .inl rfl
      · have := List.perm_cons a |>.mp (h.trans (List.Perm.swap a u []))
        have := List.perm_singleton.mp this
        cases this
        exact .inr rfl
  have hl := h.length_eq
  match l, hl with
  | [a, b, c], _ =>
    have ha : a ∈ [x, y, z] := h.mem_iff.mp (by simp)
    simp only [List.mem_cons, List.not_mem_nil, or_false] at ha
    rcases ha with rfl | rfl | rfl
    · rcases two (List.perm_cons a |>.mp h) with e | e <;> cases e
      · exact .inl rfl
      · exact .inr (.inl rfl)
    · rcases two (List.perm_cons a |>.mp (h.trans (List.Perm.swap a x [z]))) with e | e <;> cases e
      · exact .inr (.inr (.inl rfl))
      · exact .inr (.inr (.inr (.inl rfl)))
    · rcases two (List.perm_cons a |>.mp (h.trans (((List.Perm.swap a y []).cons x).trans (List.Perm.swap a x [y])))) with e | e <;> cases e
      · exact .inr (.inr (.inr (.inr (.inl rfl))))
      · exact .inr (.inr (.inr (.inr (.inr rfl))))
section
variable {ρ : List Sl} {i : Int} {b : Bool} {xs : List PyData}
theorem x_nRev (a : ME) : nRev a ρ = a ρ >>= fun d => M.lift (match d with | .list xs => some xs.reverse | _ => none) := nr rfl
theorem v_isII : gIsi .int (.int i) = some (.bool true) := nr rfl
theorem v_isBI : gIsi .bool (.int i) = some (.bool false) := nr rfl
theorem v_isIB : gIsi .int (.bool b) = some (.bool true) := nr rfl
theorem v_isBB : gIsi .bool (.bool b) = some (.bool true) := nr rfl
theorem v_isTT : gIsi .tuple (.tuple xs) = some (.bool true) := nr rfl
theorem v_isLL : gIsi .list (.list xs) = some (.bool true) := nr rfl
theorem v_in3 : gIn (.bool false) (.list [.bool true, .bool true, .bool true]) = some (.bool false) := nr rfl
end
/-- the sign -/
def sg (z : Int) : Int := (if decide (0 < z) = true then 1 else 0) - (if decide (z < 0) = true then 1 else 0)
theorem sg_pos {z : Int} (h : 0 < z) : sg z = 1 := by
  unfold sg
  rw [decide_eq_true h, decide_eq_false (by omega)]
  rfl
theorem sg_neg {z : Int} (h : z < 0) : sg z = -1 := by
  unfold sg
  rw [decide_eq_true h, decide_eq_false (by omega)]
  rfl
theorem sg_zero : sg 0 = 0 := rfl
theorem sg_cases (z : Int) : (0 < z ∧ sg z = 1) ∨ (z < 0 ∧ sg z = -1) ∨ (z = 0 ∧ sg z = 0) := by
  rcases (show 0 < z ∨ z < 0 ∨ z = 0 by omega) with h | h | h
  · exact .inl ⟨h, sg_pos h⟩
  · exact .inr (.inl ⟨h, sg_neg h⟩)
  · exact .inr (.inr ⟨h, by rw [h]; rfl⟩)
theorem sg_abs (z : Int) : (sg z).natAbs ≤ 1 := by
  rcases sg_cases z with ⟨_, h⟩ | ⟨_, h⟩ | ⟨_, h⟩ <;> rw [h] <;> decide
theorem sg_mul (x y : Int) : sg x * sg y = sg (x * y) := by
  rcases sg_cases x with ⟨hx, ex⟩ | ⟨hx, ex⟩ | ⟨hx, ex⟩ <;> rcases sg_cases y with ⟨hy, ey⟩ | ⟨hy, ey⟩ | ⟨hy, ey⟩ <;> rw [ex, ey]
  · rw [sg_pos (Int.mul_pos hx hy)]; rfl
  · rw [sg_neg (Int.mul_neg_of_pos_of_neg hx hy)]; rfl
  · subst hy; simp [sg_zero]
  · rw [sg_neg (Int.mul_neg_of_neg_of_pos hx hy)]; rfl
  · rw [sg_pos (Int.mul_pos_of_neg_of_neg hx hy)]; rfl
  · subst hy; simp [sg_zero]
  all_goals (subst hx; simp [sg_zero])
theorem sg_neg' (z : Int) : sg (-z) = - sg z := by
  rcases sg_cases z with ⟨h, e⟩ | ⟨h, e⟩ | ⟨h, e⟩ <;> rw [e]
  · exact sg_neg (by omega)
  · exact sg_pos (by omega)
  · subst h; rfl
end DL

set_option maxHeartbeats 1000000
/-! The data layer, part P: < of data, in, any, all, sum, min, max, sorted of data. -/
namespace DL
open PySem L2 PySem.W

/-! ### comparisons -/
def okCmp (a b : PyData) : Bool := alike a b && !isNone a && decide (min a.depth b.depth ≤ 64)
theorem okCmp_of {a b : PyData} (h : okCmp a b = true) : alike a b = true ∧ a ≠ .none ∧ min a.depth b.depth ≤ 64 := by
  unfold okCmp at h
  simp only [Bool.and_eq_true, decide_eq_true_eq] at h
  refine ⟨h.1.1, fun e => ?_, h.2⟩
  subst e
  exact absurd h.1.2 (by decide)
def gLtD (a b : PyData) : Option PyData := if okCmp a b then some (.bool (dataLt a b)) else none
def gGtD (a b : PyData) : Option PyData := if okCmp a b then some (.bool (dataLt b a)) else none
def gLeD (a b : PyData) : Option PyData := if okCmp a b then some (.bool (!dataLt b a)) else none
def gGeD (a b : PyData) : Option PyData := if okCmp a b then some (.bool (!dataLt a b)) else none
def rCmpD (K : PySem.W.Frag) (f : PyData → PyData → Bool) : R2 := fun x y H Q => ∃ d e, Dp K H x d ∧ Dp K H y e ∧ okCmp d e = true ∧ Q (.bl (f d e)) H
theorem o_cmpD {K : PySem.W.Frag} {f : PyData → PyData → Bool} {g : PyData → PyData → Option PyData} (hg : ∀ a b, g a b = if okCmp a b then some (.bool (f a b)) else none) : Op2 (rCmpD K f) g := fun F t ρ G H σ x y a b c e w hx hy Q q => by
  rw [hg] at e
  split at e
  · rename_i hc
    cases e
    exact ⟨a, b, (hx.rp w).dp, (hy.rp w).dp, hc, q _ G H w Gw.refl (.bl _)⟩
  · cases e
theorem o_ltD {K : PySem.W.Frag} : Op2 (rCmpD K fun a b => dataLt a b) gLtD := o_cmpD fun _ _ => rfl
theorem o_gtD {K : PySem.W.Frag} : Op2 (rCmpD K fun a b => dataLt b a) gGtD := o_cmpD fun _ _ => rfl
theorem o_leD {K : PySem.W.Frag} : Op2 (rCmpD K fun a b => !dataLt b a) gLeD := o_cmpD fun _ _ => rfl
theorem o_geD {K : PySem.W.Frag} : Op2 (rCmpD K fun a b => !dataLt a b) gGeD := o_cmpD fun _ _ => rfl
section
variable {X : Cx} (K : PySem.W.Frag)
theorem op_ltD (hu : X.A.units + 64 < cLine) (hK : X.K = K := by rfl) : OpR X (compareOp .Lt) (rCmpD K fun a b => dataLt a b) := by
  subst hK
  intro pins s σ H x y v u Q I rx ry h
  obtain ⟨d, e, hd, he, ok, q⟩ := h
  obtain ⟨o1, o2, o3⟩ := okCmp_of ok
  obtain ⟨as, r1⟩ := Dp.reads I d x v hd rx
  obtain ⟨bs, r2⟩ := Dp.reads I e y u he ry
  exact lt_data r1 r2 o1 o2 (by omega) ⟨.bl _, H, I, rfl, q⟩
theorem op_gtD (hu : X.A.units + 64 < cLine) (hK : X.K = K := by rfl) : OpR X (compareOp .Gt) (rCmpD K fun a b => dataLt b a) := by
  subst hK
  intro pins s σ H x y v u Q I rx ry h
  obtain ⟨d, e, hd, he, ok, q⟩ := h
  obtain ⟨o1, o2, o3⟩ := okCmp_of ok
  obtain ⟨as, r1⟩ := Dp.reads I d x v hd rx
  obtain ⟨bs, r2⟩ := Dp.reads I e y u he ry
  exact gt_data r1 r2 o1 o2 (by omega) ⟨.bl _, H, I, rfl, q⟩
theorem op_leD (hu : X.A.units + 64 < cLine) (hK : X.K = K := by rfl) : OpR X (compareOp .LtE) (rCmpD K fun a b => !dataLt b a) := by
  subst hK
  intro pins s σ H x y v u Q I rx ry h
  obtain ⟨d, e, hd, he, ok, q⟩ := h
  obtain ⟨o1, o2, o3⟩ := okCmp_of ok
  obtain ⟨as, r1⟩ := Dp.reads I d x v hd rx
  obtain ⟨bs, r2⟩ := Dp.reads I e y u he ry
  exact le_data r1 r2 o1 o2 (by omega) ⟨.bl _, H, I, rfl, q⟩
theorem op_geD (hu : X.A.units + 64 < cLine) (hK : X.K = K := by rfl) : OpR X (compareOp .GtE) (rCmpD K fun a b => !dataLt a b) := by
  subst hK
  intro pins s σ H x y v u Q I rx ry h
  obtain ⟨d, e, hd, he, ok, q⟩ := h
  obtain ⟨o1, o2, o3⟩ := okCmp_of ok
  obtain ⟨as, r1⟩ := Dp.reads I d x v hd rx
  obtain ⟨bs, r2⟩ := Dp.reads I e y u he ry
  exact ge_data r1 r2 o1 o2 (by omega) ⟨.bl _, H, I, rfl, q⟩
end
/-! ### in, not in, of lists and tuples -/
def okIn (a : PyData) (ds : List PyData) : Bool := PyData.plain a && PyData.plainAll ds && decide (a.depth ≤ 64)
theorem okIn_of {a : PyData} {ds : List PyData} (h : okIn a ds = true) : PyData.plain a = true ∧ PyData.plainAll ds = true ∧ a.depth ≤ 64 := by
  unfold okIn at h
  simp only [Bool.and_eq_true, decide_eq_true_eq] at h
  exact ⟨h.1.1, h.1.2, h.2⟩
def gInX (a b : PyData) : Option PyData := (seqOf b).bind fun ds => if okIn a ds then some (.bool (ds.any fun z => PyData.eqv z a)) else none
def gNinX (a b : PyData) : Option PyData := (seqOf b).bind fun ds => if okIn a ds then some (.bool (!ds.any fun z => PyData.eqv z a)) else none
def rInX (K : PySem.W.Frag) (n : Bool) : R2 := fun x y H Q => ∃ d e ds, Dp K H x d ∧ Dp K H y e ∧ seqOf e = some ds ∧ okIn d ds = true ∧ Q (.bl (xor n (ds.any fun z => PyData.eqv z d))) H
theorem o_inX {K : PySem.W.Frag} : Op2 (rInX K false) gInX := fun F t ρ G H σ x y a b c e w hx hy Q q => by
  unfold gInX at e
  cases hs : seqOf b with
  | none => rw [hs] at e; cases e
  | some ds =>
    rw [hs, Option.bind_some] at e
    split at e
    · rename_i hc
      cases e
      refine ⟨a, b, ds, (hx.rp w).dp, (hy.rp w).dp, hs, hc, ?_⟩
      rw [Bool.false_xor]
      exact q _ G H w Gw.refl (.bl _)
    · cases e
theorem o_ninX {K : PySem.W.Frag} : Op2 (rInX K true) gNinX := fun F t ρ G H σ x y a b c e w hx hy Q q => by
  unfold gNinX at e
  cases hs : seqOf b with
  | none => rw [hs] at e; cases e
  | some ds =>
    rw [hs, Option.bind_some] at e
    split at e
    · rename_i hc
      cases e
      refine ⟨a, b, ds, (hx.rp w).dp, (hy.rp w).dp, hs, hc, ?_⟩
      rw [Bool.true_xor]
      exact q _ G H w Gw.refl (.bl _)
    · cases e
section
variable {X : Cx} (K : PySem.W.Frag)
theorem op_inX {k : Nat} (hr : Room k X.A) (hK : X.K = K := by rfl) : OpR X (compareOp .In) (rInX K false) := by
  subst hK
  intro pins s σ H x y v u Q I rx ry h
  obtain ⟨d, e, ds, hd, he, hs, ok, q⟩ := h
  obtain ⟨o1, o2, o3⟩ := okIn_of ok
  obtain ⟨as, r1⟩ := Dp.reads I d x v hd rx
  obtain ⟨bs, r2⟩ := Dp.reads I e y u he ry
  have un := hr.un
  rw [Bool.false_xor] at q
  cases e with
  | list xs => cases hs; exact SeqAt.in_list_data r2 r1 o2 o1 (by omega) ⟨.bl _, H, I, rfl, q⟩
  | tuple xs => cases hs; exact SeqAt.in_tuple_data r2 r1 o2 o1 (by omega) ⟨.bl _, H, I, rfl, q⟩
  | _ => cases hs
theorem op_ninX {k : Nat} (hr : Room k X.A) (hK : X.K = K := by rfl) : OpR X (compareOp .NotIn) (rInX K true) := by
  subst hK
  intro pins s σ H x y v u Q I rx ry h
  obtain ⟨d, e, ds, hd, he, hs, ok, q⟩ := h
  obtain ⟨o1, o2, o3⟩ := okIn_of ok
  obtain ⟨as, r1⟩ := Dp.reads I d x v hd rx
  obtain ⟨bs, r2⟩ := Dp.reads I e y u he ry
  have un := hr.un
  rw [Bool.true_xor] at q
  cases e with
  | list xs => cases hs; exact SeqAt.notIn_list_data r2 r1 o2 o1 (by omega) ⟨.bl _, H, I, rfl, q⟩
  | tuple xs => cases hs; exact SeqAt.notIn_tuple_data r2 r1 o2 o1 (by omega) ⟨.bl _, H, I, rfl, q⟩
  | _ => cases hs
end
/-! ### any, all, sum -/
def boolsOf : List PyData → Option (List Bool)
  | [] => some []
  | .bool b :: r => (boolsOf r).map (b :: ·)
  | _ => none
def intsOf : List PyData → Option (List Int)
  | [] => some []
  | .int b :: r => (intsOf r).map (b :: ·)
  | _ => none
theorem boolsOf_eq : ∀ {ds : List PyData} {bs : List Bool}, boolsOf ds = some bs → ds = bs.map PyData.bool
  | [], bs, h => by cases h; rfl
  | d :: r, bs, h => by
    cases d with
    | bool b =>
      rw [boolsOf] at h
      obtain ⟨cs, h1, rfl⟩ := Option.map_eq_some_iff.mp h
      rw [boolsOf_eq h1]
      rfl
    | _ => simp [boolsOf] at h
theorem intsOf_eq : ∀ {ds : List PyData} {bs : List Int}, intsOf ds = some bs → ds = bs.map PyData.int
  | [], bs, h => by cases h; rfl
  | d :: r, bs, h => by
    cases d with
    | int b =>
      rw [intsOf] at h
      obtain ⟨cs, h1, rfl⟩ := Option.map_eq_some_iff.mp h
      rw [intsOf_eq h1]
      rfl
    | _ => simp [intsOf] at h
theorem boolsOf_map : ∀ bs : List Bool, boolsOf (bs.map PyData.bool) = some bs
  | [] => rfl
  | b :: r => by rw [List.map_cons, boolsOf, boolsOf_map r]; rfl
theorem intsOf_map : ∀ bs : List Int, intsOf (bs.map PyData.int) = some bs
  | [] => rfl
  | b :: r => by rw [List.map_cons, intsOf, intsOf_map r]; rfl
theorem RpA.bls {G : Hp} : ∀ {vs : List V} {bs : List Bool}, RpA G vs (bs.map PyData.bool) → vs = bs.map V.bl
  | _, [], .nil => rfl
  | _, b :: r, .cons h t => by
    cases h
    rw [RpA.bls t]
    rfl
theorem RpA.its {G : Hp} : ∀ {vs : List V} {bs : List Int}, RpA G vs (bs.map PyData.int) → vs = bs.map V.int
  | _, [], .nil => rfl
  | _, b :: r, .cons h t => by
    cases h
    rw [RpA.its t]
    rfl
def cAny : List PyData → Option PyData
  | [.list ds] => (boolsOf ds).map fun bs => .bool (bs.any id)
  | _ => none
def cAll : List PyData → Option PyData
  | [.list ds] => (boolsOf ds).map fun bs => .bool (bs.all id)
  | _ => none
def cSum : List PyData → Option PyData
  | [.list ds] => (intsOf ds).map fun bs => .int bs.sum
  | _ => none
theorem k_any {K : PySem.W.Frag} : Cal (rAny K) cAny := fun F t ρ G H σ vs ds c e w hx Q q => by
  unfold cAny at e
  split at e
  · rename_i xs
    obtain ⟨bs, h1, rfl⟩ := Option.map_eq_some_iff.mp e
    cases hx with
    | cons h r =>
      cases r
      obtain ⟨p, us, rfl, hp, rp⟩ := h.lst w
      rw [boolsOf_eq h1] at rp
      rw [rp.bls] at hp
      exact ⟨p, bs, rfl, SqL.of hp, q _ G H w Gw.refl (.bl _)⟩
  · cases e
theorem k_all {K : PySem.W.Frag} : Cal (rAll K) cAll := fun F t ρ G H σ vs ds c e w hx Q q => by
  unfold cAll at e
  split at e
  · rename_i xs
    obtain ⟨bs, h1, rfl⟩ := Option.map_eq_some_iff.mp e
    cases hx with
    | cons h r =>
      cases r
      obtain ⟨p, us, rfl, hp, rp⟩ := h.lst w
      rw [boolsOf_eq h1] at rp
      rw [rp.bls] at hp
      exact ⟨p, bs, rfl, SqL.of hp, q _ G H w Gw.refl (.bl _)⟩
  · cases e
theorem k_sum {K : PySem.W.Frag} : Cal (rSum K) cSum := fun F t ρ G H σ vs ds c e w hx Q q => by
  unfold cSum at e
  split at e
  · rename_i xs
    obtain ⟨bs, h1, rfl⟩ := Option.map_eq_some_iff.mp e
    cases hx with
    | cons h r =>
      cases r
      obtain ⟨p, us, rfl, hp, rp⟩ := h.lst w
      rw [intsOf_eq h1] at rp
      rw [rp.its] at hp
      exact ⟨p, bs, rfl, SqL.of hp, q _ G H w Gw.refl (.int _)⟩
  · cases e
section
variable {X : Cx} (K : PySem.W.Frag)
theorem call_anyN (hc : X.calm = true) (hK : X.K = K := by rfl) : CallR X (.builtin "any") (rAny K) := hK ▸ cr_any hc
theorem call_allN (hc : X.calm = true) (hK : X.K = K := by rfl) : CallR X (.builtin "all") (rAll K) := hK ▸ cr_all hc
theorem call_sumN (hc : X.calm = true) (hK : X.K = K := by rfl) : CallR X (.builtin "sum") (rSum K) := hK ▸ cr_sum hc
end
/-! ### min, max of a list of data -/
def okMin (ds : List PyData) : Bool := ds.all (fun d => ds.all fun d' => alike d d') && ds.all (fun d => !isNone d) && PyData.plainAll ds && decide (PyData.depthAll ds ≤ 64)
theorem okMin_of {ds : List PyData} (h : okMin ds = true) : AlikeAll ds ∧ PyData.plainAll ds = true ∧ PyData.depthAll ds ≤ 64 := by
  unfold okMin at h
  simp only [Bool.and_eq_true, decide_eq_true_eq] at h
  refine ⟨⟨fun x hx y hy => List.all_eq_true.mp (List.all_eq_true.mp h.1.1.1 x hx) y hy, fun x hx e => ?_⟩, h.1.2, h.2⟩
  subst e
  exact absurd (List.all_eq_true.mp h.1.1.2 _ hx) (by decide)
def cMinL : List PyData → Option PyData
  | [.list (x :: xs)] => if okMin (x :: xs) then some (minD x xs) else none
  | _ => none
def cMaxL : List PyData → Option PyData
  | [.list (x :: xs)] => if okMin (x :: xs) then some (maxD x xs) else none
  | _ => none
/-- one of the list's values, of which the datum is told -/
def rBest (K : PySem.W.Frag) (f : PyData → List PyData → PyData) : List V → Hp → VK → Prop := fun xs H Q => ∃ (a : Addr) (vs : List V) (d : PyData) (ds : List PyData), xs = [.ref a] ∧ SqL K H a vs ∧ DpAll K H vs (d :: ds) ∧ okMin (d :: ds) = true ∧
  ∀ (i : Nat) (v : V), vs[i]? = some v → (d :: ds)[i]? = some (f d ds) → Q v H
theorem best_k {K : PySem.W.Frag} {f : PyData → List PyData → PyData} {g : List PyData → Option PyData} (hg : ∀ ds c, g ds = some c → ∃ x xs, ds = [.list (x :: xs)] ∧ okMin (x :: xs) = true ∧ c = f x xs) : Cal (rBest K f) g := fun F t ρ G H σ vs ds c e w hx Q q => by
  obtain ⟨x, xs, rfl, ok, rfl⟩ := hg ds c e
  cases hx with
  | cons h r =>
    cases r
    obtain ⟨p, us, rfl, hp, rp⟩ := h.lst w
    refine ⟨p, us, x, xs, rfl, SqL.of hp, (rp.mono w.co.sub).dp, ok, fun i v hi hd => ?_⟩
    obtain ⟨d', e', r'⟩ := rp.get' hi
    rw [hd] at e'
    cases e'
    exact q v G H w Gw.refl r'
theorem k_minL {K : PySem.W.Frag} : Cal (rBest K minD) cMinL := best_k fun ds c e => by
  unfold cMinL at e
  split at e
  · split at e
    · cases e; exact ⟨_, _, rfl, by assumption, rfl⟩
    · cases e
  · cases e
theorem k_maxL {K : PySem.W.Frag} : Cal (rBest K maxD) cMaxL := best_k fun ds c e => by
  unfold cMaxL at e
  split at e
  · split at e
    · cases e; exact ⟨_, _, rfl, by assumption, rfl⟩
    · cases e
  · cases e
theorem plain_mem' : ∀ {xs : List PyData} {x : PyData}, PyData.plainAll xs = true → x ∈ xs → x.plain = true
  | y :: ys, x, h, m => by
    rw [PyData.plainAll, Bool.and_eq_true] at h
    rcases List.mem_cons.mp m with rfl | m
    · exact h.1
    · exact plain_mem' h.2 m
theorem dpAll_get {K : PySem.W.Frag} {H : Hp} : ∀ {vs : List V} {ds : List PyData} {i : Nat} {v : V}, DpAll K H vs ds → vs[i]? = some v → ∃ d, ds[i]? = some d ∧ Dp K H v d
  | _, _, _, _, .nil, h => by simp at h
  | _, _, 0, _, .cons h r, e => by simp at e; subst e; exact ⟨_, rfl, h⟩
  | _, _, i + 1, d, .cons h r, e => by
    obtain ⟨v, h1, h2⟩ := dpAll_get (i := i) (v := d) r (by simpa using e)
    exact ⟨v, by simpa using h1, h2⟩
section
variable {X : Cx} (K : PySem.W.Frag)
theorem best_fin {pins : List (Addr × Obj)} {σ : St} {H : Hp} {s : Shared} {Q : VK} {its : List Value} {vs : List V} {d : PyData} {ds : List PyData} {f : PyData} (I : Inv X pins σ H s) (rv : Vals vs its) (hd : DpAll X.K H vs (d :: ds)) (pl : PyData.plainAll (d :: ds) = true)
    (q : ∀ (i : Nat) (v : V), vs[i]? = some v → (d :: ds)[i]? = some f → Q v H) {i : Nat} {v : Value} {h' : Heap} {tk : Nat} {bs : List Addr} (hv : its[i]? = some v) (rd : Reads h' v f bs) (kp : ∀ b o, s.heap.get? b = some o → h'.get? b = some o) : EP X pins σ Q v { s with heap := h', toks := tk } := by
  have hl := rv.length
  have hi : i < its.length := (List.getElem?_eq_some_iff.mp hv).1
  obtain ⟨x, hx⟩ : ∃ x, vs[i]? = some x := ⟨vs[i]'(by omega), List.getElem?_eq_getElem (by omega)⟩
  obtain ⟨u, hu, rx⟩ := Vals.get rv hx
  rw [hv] at hu
  cases hu
  obtain ⟨di, e1, e2⟩ := dpAll_get hd hx
  obtain ⟨as, ra⟩ := Dp.reads I di x v e2 rx
  have ef : di = f := SeqAt.plain_unique di f v as bs (plain_mem' pl (List.mem_of_getElem? e1)) (reads_keeps kp ra) rd
  rw [ef] at e1
  exact ⟨x, H, I.kept (t' := tk) kp, rx, q i x hx e1⟩
theorem call_minLN {k : Nat} (hr : Room k X.A) (hc : X.calm = true) (hK : X.K = K := by rfl) : CallR X (.builtin "min") (rBest K minD) := by
  subst hK
  intro pins s σ H xs us Q I r h
  obtain ⟨a, vs, d, ds, rfl, hs, hd, ok, q⟩ := h
  obtain ⟨al, pl, dp⟩ := okMin_of ok
  obtain ⟨its, rv, hl, _⟩ := I.list hs
  obtain ⟨as, ra⟩ := Dp.readsAll I (d :: ds) vs its hd rv
  rw [Vals.ref1 r]
  have un := hr.un
  exact min_list_data (vs := its.toArray) (I.ok.hd hc) hl.isList (by simpa using ra) al (by omega) fun i v h' tk bs hv rd kp => best_fin I rv hd pl q (by simpa using hv) rd kp
theorem call_maxLN {k : Nat} (hr : Room k X.A) (hc : X.calm = true) (hK : X.K = K := by rfl) : CallR X (.builtin "max") (rBest K maxD) := by
  subst hK
  intro pins s σ H xs us Q I r h
  obtain ⟨a, vs, d, ds, rfl, hs, hd, ok, q⟩ := h
  obtain ⟨al, pl, dp⟩ := okMin_of ok
  obtain ⟨its, rv, hl, _⟩ := I.list hs
  obtain ⟨as, ra⟩ := Dp.readsAll I (d :: ds) vs its hd rv
  rw [Vals.ref1 r]
  have un := hr.un
  exact max_list_data (vs := its.toArray) (I.ok.hd hc) hl.isList (by simpa using ra) al (by omega) fun i v h' tk bs hv rd kp => best_fin I rv hd pl q (by simpa using hv) rd kp
end
/-! ### sorted of a list of data -/
def isNTup : PyData → Bool
  | .tuple (_ :: _) => true
  | _ => false
def notNT : PyData → Bool
  | .tuple _ => false
  | .none => false
  | _ => true
def okSort (ds : List PyData) : Bool := ds.all (fun d => ds.all fun d' => alike d d') && (ds.all isNTup || ds.all notNT) && decide (PyData.depthAll ds ≤ 64) && okLen ds.length
theorem depth_mem : ∀ {xs : List PyData} {x : PyData}, x ∈ xs → x.depth ≤ PyData.depthAll xs
  | y :: ys, x, m => by
    rw [PyData.depthAll]
    rcases List.mem_cons.mp m with rfl | m
    · exact Nat.le_max_left _ _
    · exact Nat.le_trans (depth_mem m) (Nat.le_max_right _ _)
theorem okSort_of {ds : List PyData} (h : okSort ds = true) : AllAlike (ds.map id) ∧ Sortable (ds.map id) ∧ (∀ d ∈ ds, d.depth ≤ 64) ∧ ds.length ≤ sizeLine := by
  unfold okSort at h
  simp only [Bool.and_eq_true, Bool.or_eq_true, decide_eq_true_eq] at h
  rw [List.map_id]
  refine ⟨fun x hx y hy => List.all_eq_true.mp (List.all_eq_true.mp h.1.1.1 x hx) y hy, ?_, fun d hd => Nat.le_trans (depth_mem hd) h.1.2, okLen_le h.2⟩
  rcases h.1.1.2 with g | g
  · refine .inl fun d hd => ?_
    have := List.all_eq_true.mp g d hd
    unfold isNTup at this
    split at this
    · exact ⟨_, _, rfl⟩
    · cases this
  · refine .inr fun d hd => ?_
    have := List.all_eq_true.mp g d hd
    unfold notNT at this
    split at this
    · cases this
    · cases this
    · rename_i n1 n2
      exact ⟨n2, n1⟩
def sortD (ds : List PyData) : List PyData := ds.mergeSort (dataLe false id)
def cSortD : List PyData → Option (List PyData)
  | [.list ds] => if okSort ds then some (sortD ds) else none
  | _ => none
/-- the list sorted: its values stand for the sorted data, whatever relation they had -/
def rSortD (K : PySem.W.Frag) : List V → Hp → VK → Prop := fun xs H Q => ∃ (a : Addr) (vs : List V) (ds : List PyData) (R : V → PyData → Prop), xs = [.ref a] ∧ SqL K H a vs ∧ DpAll K H vs ds ∧ okSort ds = true ∧ EachIs R vs ds ∧
  ∀ (us : List V) (p : Addr), EachIs R us (sortD ds) → us.length = vs.length → H p = none → Q (.ref p) (upd H p (.lst us))
theorem eachIs_mono {α β : Type} {R S : α → β → Prop} (h : ∀ a b, R a b → S a b) : ∀ {as : List α} {bs : List β}, EachIs R as bs → EachIs S as bs
  | _, _, .nil => .nil
  | _, _, .cons x t => .cons (h _ _ x) (eachIs_mono h t)
theorem rpA_each {G : Hp} : ∀ {vs : List V} {ds : List PyData}, RpA G vs ds → EachIs (fun v d => Rp G v d) vs ds
  | _, _, .nil => .nil
  | _, _, .cons h r => .cons h (rpA_each r)
theorem each_rpA {G : Hp} : ∀ {vs : List V} {ds : List PyData}, EachIs (fun v d => Rp G v d) vs ds → RpA G vs ds
  | _, _, .nil => .nil
  | _, _, .cons h r => .cons h (each_rpA r)
theorem each_join {R : V → PyData → Prop} : ∀ {vs : List V} {its : List Value} {ds : List PyData}, Vals vs its → EachIs R vs ds → EachIs (fun u d => ∃ v, RelV v u ∧ R v d) its ds
  | _, _, _, .nil, .nil => .nil
  | _, _, _, .cons r t, .cons h e => .cons ⟨_, r, h⟩ (each_join t e)
theorem each_split {R : V → PyData → Prop} : ∀ {its : List Value} {ds : List PyData}, EachIs (fun u d => ∃ v, RelV v u ∧ R v d) its ds → ∃ vs, Vals vs its ∧ EachIs R vs ds
  | _, _, .nil => ⟨[], .nil, .nil⟩
  | _, _, .cons ⟨v, r, h⟩ t => by
    obtain ⟨vs, r', h'⟩ := each_split t
    exact ⟨v :: vs, .cons r r', .cons h h'⟩
theorem readsAll_each' {h : Heap} : ∀ {vs : List Value} {ds : List PyData} {as : List Addr}, ReadsAll h vs ds as → EachIs (fun v d => ∃ as, Reads h v (id d) as) vs ds
  | _, _, _, .nil => .nil
  | _, _, _, .cons r t => .cons ⟨_, r⟩ (readsAll_each' t)
section
variable {X : Cx} (K : PySem.W.Frag)
theorem call_sortDN {k : Nat} (hr : Room k X.A) (hK : X.K = K := by rfl) : CallR X (.builtin "sorted") (rSortD K) := by
  subst hK
  intro pins s σ H xs us Q I r h
  obtain ⟨a, vs, ds, R, rfl, hs, hd, ok, er, q⟩ := h
  obtain ⟨o1, o2, o3, o4⟩ := okSort_of ok
  obtain ⟨its, rv, hl, hz⟩ := I.list hs
  obtain ⟨as, ra⟩ := Dp.readsAll I ds vs its hd rv
  rw [Vals.ref1 r]
  have un := hr.un
  refine sorted_data (enc := id) hl.isList (each_join rv er) (readsAll_each' ra) o1 o2 o4 (fun b hb => by have := o3 b hb; show X.A.units + 2 + b.depth < cLine; omega) fun out hlen hout => ?_
  obtain ⟨ws, rw_, hw⟩ := each_split hout
  have hn : H (s.heap.objs.size + 1) = none := I.hok.fresh (Nat.le_succ _)
  obtain ⟨n, hn'⟩ := PyProof.Rows.sortedAll_at s.heap its out.toArray
  have lw : ws.length = vs.length := by
    rw [Vals.length rw_, hlen, Vals.length rv]
    exact (SeqAt.ReadsAll.length _ _ _ ra).symm
  refine ⟨.ref (s.heap.objs.size + 1), upd H (s.heap.objs.size + 1) (.lst ws), I.laid (t' := s.toks) (fun b o e => PyProof.Rows.sortedAll_old e) (Nat.le_succ _) ⟨?_, out, n, rw_, hn'⟩, rfl, q ws _ hw lw hn⟩
  rw [lw]
  exact hz
end
theorem k_sortD {K : PySem.W.Frag} : CalN (rSortD K) cSortD := fun F t ρ G H σ vs ds c e w hx Q q => by
  unfold cSortD at e
  split at e
  · rename_i xs
    split at e
    · rename_i ok
      cases e
      cases hx with
      | cons h r =>
        cases r
        obtain ⟨p, us, rfl, hp, rp⟩ := h.lst w
        refine ⟨p, us, xs, fun v d => Rp G v d, rfl, SqL.of hp, (rp.mono w.co.sub).dp, ok, rpA_each rp, fun ys l ey hl hn => ?_⟩
        obtain ⟨w2, o2, n2⟩ := w.newL hn (each_rpA ey)
        exact q l G _ w2 (Gw.raw hn) ⟨o2, n2⟩ hn
    · cases e
  · cases e
end DL

set_option maxHeartbeats 1000000
/-! The data layer, part Q: len(set(xs)), sorted(set(xs)) for lists of pairs. -/
namespace DL
open PySem L2
def dedP : List (Int × Int) → List (Int × Int)
  | [] => []
  | a :: r => if a ∈ dedP r then dedP r else a :: dedP r
theorem dedP_mem {a : Int × Int} : ∀ {l : List (Int × Int)}, a ∈ dedP l ↔ a ∈ l
  | [] => Iff.rfl
  | b :: r => by
    rw [dedP]
    split
    · rename_i h
      rw [dedP_mem, List.mem_cons]
      refine ⟨.inr, fun h' => h'.elim (fun e => ?_) id⟩
      rw [e]
      exact dedP_mem.mp h
    · rw [List.mem_cons, List.mem_cons, dedP_mem]
theorem dedP_nodup : ∀ l : List (Int × Int), (dedP l).Nodup
  | [] => List.Pairwise.nil
  | b :: r => by
    rw [dedP]
    split
    · exact dedP_nodup r
    · rename_i h
      exact List.nodup_cons.mpr ⟨h, dedP_nodup r⟩
abbrev ptK (k : Int × Int) : PyData := pt k.1 k.2
def okSetP (ds : List PyData) : Bool := ds.all isPairD && decide (ds.length < 64)
def cLenSet : List PyData → Option PyData
  | [.list ds] => if okSetP ds then some (.int (dedP (ds.map keyP)).length) else none
  | _ => none
def cSortSet : List PyData → Option (List PyData)
  | [.list ds] => if okSetP ds then some (sortP ((dedP (ds.map keyP)).map ptK)) else none
  | _ => none
def kL : List Int → Int × Int
  | [i, j] => (i, j)
  | _ => (0, 0)
def rLenST (K : PySem.W.Frag) (P : Program) (w : World) : List V → Hp → VK → Prop := fun xs H Q => ∃ (a : Addr) (L : List (Addr × List Int)), xs = [.ref a] ∧ H a = some (SetTO P w a L) ∧ (∀ p ∈ L, SqT K H p.1 (p.2.map V.int)) ∧ ((L.map (·.2)).Nodup → Q (.int L.length) H)
def rSortST (K : PySem.W.Frag) (P : Program) (w : World) : List V → Hp → VK → Prop := fun xs H Q => ∃ (a : Addr) (L : List (Addr × List Int)), xs = [.ref a] ∧ H a = some (SetTO P w a L) ∧ (∀ p ∈ L, SqT K H p.1 (p.2.map V.int) ∧ p.2 = [(kL p.2).1, (kL p.2).2]) ∧
  ∀ (L' : List (Addr × List Int)) (p : Addr), L'.Perm L → (L.map (·.2)).Nodup → L'.Pairwise (fun q r => SrtO.lexB (kL r.2) (kL q.2) = false) → H p = none → Q (.ref p) (upd H p (.lst (L'.map fun q => V.ref q.1)))
section
variable {X : Cx}
theorem cr_lenST : CallR X (.builtin "len") (rLenST X.K X.prog X.w) := by
  intro pins s σ H xs us Q I r h
  obtain ⟨a, L, rfl, ha, hk, q⟩ := h
  have R0 : SetT0 X.prog X.w s.heap a L := (I.hok a _ ha).1
  obtain ⟨es, ep, t, R⟩ := R0.full fun p hp => I.isT (hk p hp)
  obtain ⟨o, ho, hex, hd⟩ := R.ob
  rw [Vals.ref1 r]
  have hz := R.size
  have hf := R.few
  refine PySem.call_len_set ho hex hd R.fits (by omega) ⟨.int L.length, H, I.tok _, ⟨_, by rw [hz]⟩, q R.nd⟩
open PySem.Spec PyProof.Rows in
theorem sorted_setP {P : Program} {w : World} {A : Around} {E : Value → Shared → Prop} {s : Shared} {a : Addr} {L : List (Addr × List Int)} {es : Array (Int × Value)} {ep : Nat} {t : SetTable} {Q : Value → Shared → Prop} (R : SetTR P w s.heap a L es ep t) (hh : A.handled = none)
    (hB : ∀ p ∈ L, p.2 = [(kL p.2).1, (kL p.2).2])
    (hQ : ∀ s' p (out : Array Value) (c : Nat) (L' : List (Addr × List Int)), (∀ b o, s.heap.get? b = some o → s'.heap.get? b = some o) → s'.gens = s.gens → s'.os = s.os → s.heap.objs.size ≤ p →
      s'.heap.get? p = some (seqObj "list" out c) → out.toList = L'.map (fun q => Value.ref q.1) → L'.Perm L → L'.Pairwise (fun q r => SrtO.lexB (kL r.2) (kL q.2) = false) → Q (.ref p) s') :
    wpAny (model P w) A (call (.builtin "sorted") [.ref a]) Q E s := by
  obtain ⟨o, ho, hex, hd⟩ := R.ob
  have hsz := R.size
  have hfew := R.few
  refine Calls.call_function_entry kind_sorted plain_sorted entry_sorted (args_sorted1 _) ?_
  unfold Builtin.«sorted»
  refine wpAny_bind (m := checkCount "sorted" 1 1 _) (wpAny_pure ?_)
  refine wpAny_bind (collect_set (A := A.in1) hh ⟨o, ho, hex.1, hd⟩ R.fits (by unfold scanBound; omega) R.tab.ris R.led fun s1 vs k1 hz g1 o1 pm => ?_)
  have hes : es.toList.map (·.2) = L.map fun q => Value.ref q.1 := by
    rw [R.rows]
    unfold rowsOf
    rw [List.map_map] <;> rfl
  rw [hes] at pm
  have ord : ∀ vs : List Value, (∀ v ∈ vs, ∃ q ∈ L, v = Value.ref q.1) → ∃ L1 : List (Addr × List Int), vs = L1.map (fun q => Value.ref q.1) ∧ ∀ q ∈ L1, q ∈ L := by
    intro vs
    induction vs with
    | nil => intro _; exact ⟨[], rfl, fun q hq => (by cases hq)⟩
    | cons v vs ih =>
      intro hv
      obtain ⟨q, hq, e⟩ := hv v List.mem_cons_self
      obtain ⟨L1, e1, hs⟩ := ih fun u hu => hv u (List.mem_cons_of_mem _ hu)
      refine ⟨q :: L1, by rw [List.map_cons, e, e1], fun r hr => ?_⟩
      rcases List.mem_cons.mp hr with z | z
      · rw [z]; exact hq
      · exact hs r z
  have one : ∀ q ∈ L, ∀ r ∈ L, q.1 = r.1 → q = r := fun q hq r hr e => by
    have a1 := R.tup q hq
    have a2 := R.tup r hr
    rw [e] at a1
    have e2 : q.2 = r.2 := a1.inj a2
    exact Prod.ext e e2
  have perm_of : ∀ L1 : List (Addr × List Int), (∀ q ∈ L1, q ∈ L) → (L1.map (fun q => Value.ref q.1)).Perm (L.map fun q => Value.ref q.1) → L1.Perm L := by
    intro L1 hs pm1
    have nL : L.Nodup := nodup_of_map R.nd
    have nref : (L.map fun q => Value.ref q.1).Nodup := by
      refine List.pairwise_map.mpr (List.Pairwise.imp_of_mem (fun {q r} hq hr hne e => ?_) nL)
      injection e with e
      exact hne (one q hq r hr e)
    have n1 : L1.Nodup := nodup_of_map (pm1.nodup_iff.mpr nref)
    refine (List.perm_ext_iff_of_nodup n1 nL).mpr fun q => ⟨hs q, fun hq => ?_⟩
    have hm : Value.ref q.1 ∈ L1.map (fun q => Value.ref q.1) := pm1.mem_iff.mpr (List.mem_map.mpr ⟨q, hq, rfl⟩)
    obtain ⟨r, hr, e⟩ := List.mem_map.mp hm
    injection e with e
    rw [← one r (hs r hr) q hq e]
    exact hr
  have hvl : vs.length < 64 := by rw [pm.length_eq, List.length_map]; exact hfew
  have hvz : vs.length ≤ sizeLine := by rw [sizeLine_eq]; omega
  -- the key of a value
  let kv : Value → Int × Int := fun v => match v with
    | .ref b => match L.find? (fun q => q.1 == b) with
      | some q => kL q.2
      | none => (0, 0)
    | _ => (0, 0)
  have kvq : ∀ q ∈ L, kv (.ref q.1) = kL q.2 := fun q hq => by
    show (match L.find? (fun r => r.1 == q.1) with | some r => kL r.2 | none => (0, 0)) = kL q.2
    cases hfd : L.find? (fun r => r.1 == q.1) with
    | none =>
      have := List.find?_eq_none.mp hfd q hq
      simp at this
    | some r =>
      have h1 := List.find?_some hfd
      have h2 := List.mem_of_find?_eq_some hfd
      rw [one r h2 q hq (by simpa using h1)]
  refine wpAny_bind (wpAny_newList ?_ (by rw [sizeLine_eq]; omega))
  have hoL : (s1.heap.push (seqObj "list" vs.toArray 0)).get? s1.heap.objs.size = some (seqObj "list" vs.toArray 0) := Heap.get?_push_size _ rfl
  have hp : ∀ v ∈ vs, Srt.IsPair (s1.heap.push (seqObj "list" vs.toArray 0)) v (kv v).1 (kv v).2 := fun v hv => by
    obtain ⟨q, hq, e⟩ := List.mem_map.mp (pm.mem_iff.mp hv)
    subst e
    rw [kvq q hq]
    have tq := isT_keep (R.tup q hq) (h' := s1.heap.push (seqObj "list" vs.toArray 0)) fun b u e => Heap.get?_push_of_some _ (k1 b u e)
    obtain ⟨oq, its, n, g1, g2, g3, g4⟩ := tq
    rw [hB q hq] at g4
    have ii := ints_of_items g4
    cases hits : its.toList with
    | nil => rw [hits] at ii; cases ii
    | cons u1 r1 =>
      rw [hits] at ii
      cases ii with
      | cons n1 j1 t1 =>
        cases r1 with
        | nil => cases t1
        | cons u2 r2 =>
          cases t1 with
          | cons n2 j2 t2 =>
            cases r2 with
            | cons _ _ => cases t2
            | nil =>
              have ea : its = #[_, _] := Array.toList_inj.mp hits
              exact ⟨q.1, oq, _, _, n, rfl, g1, g2, by rw [g3, ea]⟩
  refine wpAny_bind (wpAny_holding (wpAny_call_entry slot_list_sort ⟨_, hoL, rfl⟩ entry_list_sort (SrtO.list_sort_ord (s := { s1 with heap := s1.heap.push (seqObj "list" vs.toArray 0) }) (SrtO.swo_lex kv) hoL hvz (fun h2 => SrtO.pairs_sortableO (by omega) hp fun o e => ?_) fun out hs hb => ⟨_, rfl, ?_⟩) (args_list_sort _)))
  · have e' : some o = some (seqObj "list" vs.toArray 0) := e.symm.trans hoL
    cases e'
    intro c
    exact absurd (Value.type.inj c) (by decide)
  · obtain ⟨c, hc⟩ := sortedHeap_at (vs := vs) (out := out.toArray) hoL
    obtain ⟨L', e', hs'⟩ := ord out fun v hv => by
      obtain ⟨q, hq, e⟩ := List.mem_map.mp (pm.mem_iff.mp (hb.perm.mem_iff.mp hv))
      exact ⟨q, hq, e.symm⟩
    have pL : L'.Perm L := perm_of L' hs' (by rw [← e']; exact hb.perm.trans pm)
    have pw : L'.Pairwise (fun q r => SrtO.lexB (kL r.2) (kL q.2) = false) := by
      rw [e'] at hs
      refine List.Pairwise.imp_of_mem (fun {q r} hq hr hle => ?_) (List.pairwise_map.mp hs)
      rw [← kvq q (hs' q hq), ← kvq r (hs' r hr)]
      exact hle
    refine wpAny_pure ⟨_, rfl, hQ _ s1.heap.objs.size out.toArray c L' (fun b u e => ?_) g1 o1 hz hc (by simpa using e') pL pw⟩
    have q := k1 b u e
    have hlt := Heap.lt_size q
    show (sortedHeap (s1.heap.push (seqObj "list" vs.toArray 0)) s1.heap.objs.size vs out.toArray).get? b = some u
    rw [sortedHeap_old (Nat.ne_of_lt hlt) (by rw [size_push']; exact Nat.lt_succ_of_lt hlt)]
    exact Heap.get?_push_of_some _ q
theorem cr_sortST (hc : X.calm = true) : CallR X (.builtin "sorted") (rSortST X.K X.prog X.w) := by
  intro pins s σ H vs us Q I r h
  obtain ⟨a, L, rfl, ha, hk, q⟩ := h
  have R0 : SetT0 X.prog X.w s.heap a L := (I.hok a _ ha).1
  obtain ⟨es, ep, t, R⟩ := R0.full fun p hp => I.isT (hk p hp).1
  rw [Vals.ref1 r]
  refine sorted_setP R (I.ok.hd hc) (fun p hp => (hk p hp).2) fun s' p out c L' k g o hp hg hout pm pw => ?_
  have hfew : L'.length < 64 := by rw [pm.length_eq]; exact R.few
  have hlen : (L'.map fun q => V.ref q.1).length ≤ sizeLine := by rw [List.length_map, sizeLine_eq]; omega
  have hn : H p = none := I.hok.fresh hp
  have hv : Vals (L'.map fun q => V.ref q.1) out.toList := by rw [hout]; exact vals_of_refs L'
  have J : Inv X pins σ (upd H p (.lst (L'.map fun q => V.ref q.1))) { s with heap := s'.heap, gens := s'.gens, drawn := s'.drawn, toks := s'.toks } :=
    I.call (ch := []) (Un.laid k hp hn) (I.hok.laid k hp ⟨hlen, out.toList, c, hv, hg⟩) (by rw [g]; exact I.bare) (fun _ z => nomatch z)
  have e : s' = { s with heap := s'.heap, gens := s'.gens, drawn := s'.drawn, toks := s'.toks } := by
    cases s'
    cases s
    cases o
    rfl
  rw [e]
  exact ⟨.ref p, _, J, rfl, q L' p pm R.nd pw hn⟩
end
theorem okSetP_of {ds : List PyData} (h : okSetP ds = true) : ds.all isPairD = true ∧ ds.length < 64 := by
  unfold okSetP at h
  rw [Bool.and_eq_true, decide_eq_true_eq] at h
  exact h
/-- the rows of a list of pairs, as the set's rule asks for them -/
theorem set_rows {G H : Hp} {us : List V} {ds : List PyData} (sub : Same G H) (rp : RpA G us ds) (hall : ds.all isPairD = true) : ∃ ks : List (Addr × List Int), us = ks.map (fun p => V.ref p.1) ∧ (∀ p ∈ ks, G p.1 = some (.tup (p.2.map V.int)) ∧ p.2 = [(kL p.2).1, (kL p.2).2] ∧ Rp G (.ref p.1) (ptK (kL p.2))) ∧ ds.map keyP = ks.map (fun p => kL p.2) := by
  induction us generalizing ds with
  | nil => cases rp; exact ⟨[], rfl, fun _ h => (nomatch h), rfl⟩
  | cons u us ih =>
    cases rp with
    | cons h r =>
      rw [List.all_cons, Bool.and_eq_true] at hall
      obtain ⟨ks, e1, e2, e3⟩ := ih r hall.2
      obtain ⟨a, rfl, ga, ed⟩ := pair_rp h hall.1
      have h' := h
      rw [ed] at h'
      refine ⟨(a, [(kV G (.ref a)).1, (kV G (.ref a)).2]) :: ks, by rw [List.map_cons, ← e1], fun p hp => ?_, ?_⟩
      · rcases List.mem_cons.mp hp with rfl | hp
        · exact ⟨ga, rfl, h'⟩
        · exact e2 p hp
      · rw [List.map_cons, List.map_cons, e3, ed]
        rfl
theorem set_perm {ks L : List (Addr × List Int)} (hk : ∀ p ∈ ks, p.2 = [(kL p.2).1, (kL p.2).2]) (h1 : ∀ p ∈ L, p ∈ ks) (h2 : ∀ p ∈ ks, p.2 ∈ L.map (·.2)) (nd : (L.map (·.2)).Nodup) : (L.map fun p => kL p.2).Perm (dedP (ks.map fun p => kL p.2)) := by
  have n1 : (L.map fun p => kL p.2).Nodup := by
    have e : (L.map fun p => kL p.2) = (L.map (·.2)).map kL := by rw [List.map_map]; rfl
    rw [e]
    refine List.pairwise_map.mpr (List.Pairwise.imp_of_mem (fun {a b} ha hb ne => ?_) nd)
    obtain ⟨p, hp, rfl⟩ := List.mem_map.mp ha
    obtain ⟨q, hq, rfl⟩ := List.mem_map.mp hb
    intro e
    refine ne ?_
    rw [hk p (h1 p hp), hk q (h1 q hq), e]
  refine (List.perm_ext_iff_of_nodup n1 (dedP_nodup _)).mpr fun k => ?_
  rw [dedP_mem]
  constructor
  · intro h
    obtain ⟨p, hp, rfl⟩ := List.mem_map.mp h
    exact List.mem_map.mpr ⟨p, h1 p hp, rfl⟩
  · intro h
    obtain ⟨p, hp, rfl⟩ := List.mem_map.mp h
    obtain ⟨q, hq, e⟩ := List.mem_map.mp (h2 p hp)
    exact List.mem_map.mpr ⟨q, hq, by rw [e]⟩
section
variable {X : Cx} {a : Expr} {ta : TE} {ma : ME} {p p2 q pos : Pos} (K : PySem.W.Frag)
theorem re_lenSet {k : Nat} (hr : Room k X.A) (hc : X.calm = true) (hml : X.mg "len" = none) (hms : X.mg "set" = none) (ha : RB X a ta ma) (g1 : Gl X "len" := by rfl) (g2 : Gl X "set" := by rfl)
    (s1 : starEach [.Call (.Name "set" p2) [a] [] q] X.env = (false, eval (.Call (.Name "set" p2) [a] [] q) X.env) :: starEach [] X.env := by rfl) (s2 : starEach [a] X.env = (false, eval a X.env) :: starEach [] X.env := by rfl)
    (b1 : (backTo pos (starEach [] X.env)).any (·.1) = false := by rfl) (b2 : (backTo q (starEach [] X.env)).any (·.1) = false := by rfl) :
    RE X (.Call (.Name "len" p) [.Call (.Name "set" p2) [a] [] q] [] pos) (tCB (rLenST X.K X.prog X.w) (tCons (tCB (rSetOfT X.K X.prog X.w) (tCons ta tNil)) tNil)) (eCal cLenSet (lCons ma lNil)) :=
  ⟨pe_callB cr_lenST g1 hml (by decide +kernel) (pa_cons (pe_callTy (cr_setOfT hc hr.units) g2 hms (by decide +kernel) (pa_cons ha.pe pa_nil s2) (by decide) (by decide) s2 b2) pa_nil s1) (by decide) (by decide) s1 b1, fun F t0 t1 ρ G H σ d e w Q q => by
    obtain ⟨ds, t2, e1, e⟩ := bnd_some e
    obtain ⟨f2, rfl⟩ := lift_some e
    obtain ⟨x, t3, e3, e1⟩ := bnd_some e1
    obtain ⟨xs, t4, e4, e1⟩ := bnd_some e1
    obtain ⟨rfl, rfl⟩ := pure_some e4
    obtain ⟨rfl, rfl⟩ := pure_some e1
    refine ha.ev F t0 _ ρ G H σ x e3 w _ fun v G1 H1 w1 s1 r1 => ?_
    cases x with
    | list ds =>
      rw [cLenSet] at f2
      split at f2
      · rename_i ok
        cases f2
        obtain ⟨o1, o2⟩ := okSetP_of ok
        obtain ⟨p, us, rfl, hp, rp⟩ := r1.lst w1
        obtain ⟨ks, k1, k2, k3⟩ := set_rows w1.co.sub rp o1
        rw [k1] at hp
        have kl : ks.length < 64 := by
          have := congrArg List.length k3
          rw [List.length_map, List.length_map] at this
          omega
        refine ⟨p, ks, rfl, SqL.of hp, fun q hq => SqT.of (w1.co.sub _ _ (k2 q hq).1), kl, fun z L hz hsub hall => ⟨z, L, rfl, upd_same, fun q hq => ?_, fun nd => ?_⟩⟩
        · have hz' := w1.co.sub _ _ (k2 q (hsub q hq)).1
          exact SqT.of (by rw [upd_ne (ne_of_none hz' hz)]; exact hz')
        · have pm := set_perm (fun p hp => (k2 p hp).2.1) hsub hall nd
          have el : (dedP (ds.map keyP)).length = L.length := by rw [k3, ← pm.length_eq, List.length_map]
          rw [← el]
          exact q _ G1 _ (w1.raw hz) (s1.trans (Gw.raw hz)) (.int _)
      · cases f2
    | _ => cases f2⟩
theorem rn_sortSet {k : Nat} (hr : Room k X.A) (hc : X.calm = true) (hml : X.mg "sorted" = none) (hms : X.mg "set" = none) (ha : RB X a ta ma) (g1 : Gl X "sorted" := by rfl) (g2 : Gl X "set" := by rfl)
    (s1 : starEach [.Call (.Name "set" p2) [a] [] q] X.env = (false, eval (.Call (.Name "set" p2) [a] [] q) X.env) :: starEach [] X.env := by rfl) (s2 : starEach [a] X.env = (false, eval a X.env) :: starEach [] X.env := by rfl)
    (b1 : (backTo pos (starEach [] X.env)).any (·.1) = false := by rfl) (b2 : (backTo q (starEach [] X.env)).any (·.1) = false := by rfl) :
    RN X (.Call (.Name "sorted" p) [.Call (.Name "set" p2) [a] [] q] [] pos) (tCB (rSortST X.K X.prog X.w) (tCons (tCB (rSetOfT X.K X.prog X.w) (tCons ta tNil)) tNil)) (nCal cSortSet (lCons ma lNil)) :=
  ⟨pe_callB (cr_sortST hc) g1 hml (by decide +kernel) (pa_cons (pe_callTy (cr_setOfT hc hr.units) g2 hms (by decide +kernel) (pa_cons ha.pe pa_nil s2) (by decide) (by decide) s2 b2) pa_nil s1) (by decide) (by decide) s1 b1, fun F t0 t1 ρ G H σ d e w Q q => by
    obtain ⟨ds, t2, e1, e⟩ := bnd_some e
    obtain ⟨f2, rfl⟩ := lift_some e
    obtain ⟨x, t3, e3, e1⟩ := bnd_some e1
    obtain ⟨xs, t4, e4, e1⟩ := bnd_some e1
    obtain ⟨rfl, rfl⟩ := pure_some e4
    obtain ⟨rfl, rfl⟩ := pure_some e1
    refine ha.ev F t0 _ ρ G H σ x e3 w _ fun v G1 H1 w1 s1 r1 => ?_
    cases x with
    | list ds =>
      rw [cSortSet] at f2
      split at f2
      · rename_i ok
        cases f2
        obtain ⟨o1, o2⟩ := okSetP_of ok
        obtain ⟨p, us, rfl, hp, rp⟩ := r1.lst w1
        obtain ⟨ks, k1, k2, k3⟩ := set_rows w1.co.sub rp o1
        rw [k1] at hp
        have kl : ks.length < 64 := by
          have := congrArg List.length k3
          rw [List.length_map, List.length_map] at this
          omega
        refine ⟨p, ks, rfl, SqL.of hp, fun q hq => SqT.of (w1.co.sub _ _ (k2 q hq).1), kl, fun z L hz hsub hall => ⟨z, L, rfl, upd_same, fun q hq => ?_, fun L' l pm nd pw hl => ?_⟩⟩
        · have hz' := w1.co.sub _ _ (k2 q (hsub q hq)).1
          exact ⟨SqT.of (by rw [upd_ne (ne_of_none hz' hz)]; exact hz'), (k2 q (hsub q hq)).2.1⟩
        · have w2 : Wd F _ ρ G1 (upd H1 z (SetTO X.prog X.w z L)) σ := w1.raw hz
          have pm1 := set_perm (fun p hp => (k2 p hp).2.1) hsub hall nd
          have pm2 : (L'.map fun p => ptK (kL p.2)).Perm ((dedP (ds.map keyP)).map ptK) := by
            have e : (L'.map fun p => ptK (kL p.2)) = (L'.map fun p => kL p.2).map ptK := by rw [List.map_map]; rfl
            rw [e, k3]
            exact ((pm.map _).trans pm1).map _
          have allp : ((dedP (ds.map keyP)).map ptK).all isPairD = true := List.all_eq_true.mpr fun d hd => by
            obtain ⟨k, _, rfl⟩ := List.mem_map.mp hd
            rfl
          have es : (L'.map fun p => ptK (kL p.2)) = sortP ((dedP (ds.map keyP)).map ptK) := by
            refine sortP_uniq pm2 allp (List.pairwise_map.mpr (pw.imp fun {a b} h => ?_))
            rw [leP_iff]
            exact SrtO.lexB_no.mp h
          have rr : RpA G1 (L'.map fun q => V.ref q.1) (sortP ((dedP (ds.map keyP)).map ptK)) := by
            rw [← es]
            have : ∀ M : List (Addr × List Int), (∀ q ∈ M, q ∈ ks) → RpA G1 (M.map fun q => V.ref q.1) (M.map fun p => ptK (kL p.2)) := by
              intro M
              induction M with
              | nil => intro _; exact .nil
              | cons q M ih => intro h; exact .cons (k2 q (h q (by simp))).2.2 (ih fun r hr => h r (List.mem_cons_of_mem _ hr))
            exact this L' fun q hq => hsub q (pm.mem_iff.mp hq)
          obtain ⟨w3, o3, n3⟩ := w2.newL hl rr
          have s2 := s1.trans (Gw.raw (o := SetTO X.prog X.w z L) hz)
          exact q l G1 _ w3 (s2.trans (Gw.raw hl)) ⟨o3, n3⟩ (kp_none w s2 hl (w2.co.T_ne hl))
      · cases f2
    | _ => cases f2⟩
end
end DL

set_option maxHeartbeats 1000000
/-! The data layer, part R: lists of points as lists of pairs. -/
namespace DL
open PySem
abbrev Pt := Int × Int
/-- a before b -/
abbrev lx (a b : Pt) : Bool := SrtO.lexB a b
theorem lx_iff {a b : Pt} : lx a b = true ↔ a.1 < b.1 ∨ (a.1 = b.1 ∧ a.2 < b.2) := SrtO.lexB_iff
theorem lx_no {a b : Pt} : lx a b = false ↔ ¬ (a.1 < b.1 ∨ (a.1 = b.1 ∧ a.2 < b.2)) := SrtO.lexB_no
theorem dlt_pt (a b : Pt) : PySem.W.dataLt (ptK a) (ptK b) = lx a b := by
  rw [PySem.W.dataLt_ii]
  cases h : lx a b with
  | true => exact decide_eq_true (lx_iff.mp h)
  | false => exact decide_eq_false (lx_no.mp h)
theorem eqv_pt (a b : Pt) : PyData.eqv (ptK a) (ptK b) = decide (a = b) := by
  show (a.1 == b.1 && (a.2 == b.2 && true)) = _
  rw [Bool.and_true]
  cases h : decide (a = b) with
  | true =>
    have := of_decide_eq_true h
    subst this
    simp
  | false =>
    have h' := of_decide_eq_false h
    rw [Bool.and_eq_false_iff]
    by_cases e : a.1 = b.1
    · right
      simp only [beq_eq_false_iff_ne]
      exact fun e2 => h' (Prod.ext e e2)
    · left
      simpa using e
theorem keyP_pt (a : Pt) : keyP (ptK a) = a := rfl
theorem keys_map (ps : List Pt) : (ps.map ptK).map keyP = ps := by
  rw [List.map_map]
  exact List.map_id' ps
theorem isPair_map (ps : List Pt) : (ps.map ptK).all isPairD = true := List.all_eq_true.mpr fun d hd => by
  obtain ⟨k, _, rfl⟩ := List.mem_map.mp hd
  rfl
theorem plain_pts : ∀ ps : List Pt, PyData.plainAll (ps.map ptK) = true
  | [] => rfl
  | p :: r => by
    rw [List.map_cons, PyData.plainAll, plain_pts r]
    rfl
theorem depth_pts : ∀ ps : List Pt, PyData.depthAll (ps.map ptK) ≤ 1
  | [] => Nat.zero_le _
  | p :: r => by
    rw [List.map_cons, PyData.depthAll]
    exact Nat.max_le.mpr ⟨Nat.le_refl 1, depth_pts r⟩
theorem depth_pt (a : Pt) : (ptK a).depth = 1 := rfl
theorem okIn_pts (p : Pt) (ps : List Pt) : okIn (ptK p) (ps.map ptK) = true := by
  unfold okIn
  rw [plain_pts]
  rfl
theorem any_pts (p : Pt) (ps : List Pt) : (ps.map ptK).any (fun z => PyData.eqv z (ptK p)) = decide (p ∈ ps) := by
  rw [List.any_map]
  induction ps with
  | nil => rfl
  | cons q r ih =>
    rw [List.any_cons, ih]
    show (PyData.eqv (ptK q) (ptK p) || _) = _
    rw [eqv_pt]
    simp only [List.mem_cons, Bool.decide_or]
    congr 1
    exact decide_eq_decide.mpr eq_comm
theorem v_ninL (p : Pt) (ps : List Pt) : gNinX (ptK p) (.list (ps.map ptK)) = some (.bool (!decide (p ∈ ps))) := by
  show (if okIn (ptK p) (ps.map ptK) = true then _ else none) = _
  rw [okIn_pts, any_pts]
  rfl
theorem v_inL (p : Pt) (ps : List Pt) : gInX (ptK p) (.list (ps.map ptK)) = some (.bool (decide (p ∈ ps))) := by
  show (if okIn (ptK p) (ps.map ptK) = true then _ else none) = _
  rw [okIn_pts, any_pts]
  rfl
theorem v_ninT (p : Pt) (ps : List Pt) : gNinX (ptK p) (.tuple (ps.map ptK)) = some (.bool (!decide (p ∈ ps))) := by
  show (if okIn (ptK p) (ps.map ptK) = true then _ else none) = _
  rw [okIn_pts, any_pts]
  rfl
theorem v_inT (p : Pt) (ps : List Pt) : gInX (ptK p) (.tuple (ps.map ptK)) = some (.bool (decide (p ∈ ps))) := by
  show (if okIn (ptK p) (ps.map ptK) = true then _ else none) = _
  rw [okIn_pts, any_pts]
  rfl
/-! comparisons -/
theorem v_ltDI {i j : Int} : gLtD (.int i) (.int j) = some (.bool (decide (i < j))) := by
  show some (PyData.bool (PySem.W.dataLt _ _)) = _
  rw [PySem.W.dataLt_int]
theorem v_gtDI {i j : Int} : gGtD (.int i) (.int j) = some (.bool (decide (j < i))) := by
  show some (PyData.bool (PySem.W.dataLt _ _)) = _
  rw [PySem.W.dataLt_int]
theorem v_leDI {i j : Int} : gLeD (.int i) (.int j) = some (.bool (decide (i ≤ j))) := by
  show some (PyData.bool (!PySem.W.dataLt _ _)) = _
  rw [PySem.W.dataLt_int, PySem.W.not_lt_int]
theorem v_geDI {i j : Int} : gGeD (.int i) (.int j) = some (.bool (decide (j ≤ i))) := by
  show some (PyData.bool (!PySem.W.dataLt _ _)) = _
  rw [PySem.W.dataLt_int, PySem.W.not_lt_int]
theorem v_ltDP {a b : Pt} : gLtD (ptK a) (ptK b) = some (.bool (lx a b)) := by
  show some (PyData.bool (PySem.W.dataLt _ _)) = _
  rw [dlt_pt]
/-! sets, sorted -/
theorem v_lenSet {ps : List Pt} (h : ps.length < 64) : cLenSet [.list (ps.map ptK)] = some (.int (dedP ps).length) := by
  have ok : okSetP (ps.map ptK) = true := by
    unfold okSetP
    rw [isPair_map, List.length_map, decide_eq_true h]
    rfl
  show (if okSetP (ps.map ptK) = true then _ else none) = _
  rw [if_pos ok, keys_map]
def sortK (ps : List Pt) : List Pt := ps.mergeSort fun a b => !lx b a
theorem lxle_trans (a b c : Pt) (h1 : (!lx b a) = true) (h2 : (!lx c b) = true) : (!lx c a) = true := by
  rw [Bool.not_eq_true', lx_no] at *
  omega
theorem lxle_total (a b : Pt) : ((!lx b a) || (!lx a b)) = true := by
  rw [Bool.or_eq_true, Bool.not_eq_true', Bool.not_eq_true', lx_no, lx_no]
  omega
theorem sortK_perm (ps : List Pt) : (sortK ps).Perm ps := List.mergeSort_perm _ _
theorem sortK_srtd (ps : List Pt) : (sortK ps).Pairwise fun a b => (!lx b a) = true := List.pairwise_mergeSort lxle_trans lxle_total ps
theorem sortP_map (ps : List Pt) : sortP (ps.map ptK) = (sortK ps).map ptK := by
  refine (sortP_uniq ((sortK_perm ps).map ptK) (isPair_map ps) (List.pairwise_map.mpr ((sortK_srtd ps).imp fun {a b} h => h))).symm
theorem v_sortSet {ps : List Pt} (h : ps.length < 64) : cSortSet [.list (ps.map ptK)] = some ((sortK (dedP ps)).map ptK) := by
  have ok : okSetP (ps.map ptK) = true := by
    unfold okSetP
    rw [isPair_map, List.length_map, decide_eq_true h]
    rfl
  show (if okSetP (ps.map ptK) = true then _ else none) = _
  rw [if_pos ok, keys_map, sortP_map]
/-- strictly rising -/
abbrev Rise (ps : List Pt) : Prop := ps.Pairwise fun a b => lx a b = true
theorem sortK_rise {ps : List Pt} (h : ps.Nodup) : Rise (sortK ps) := by
  have n : (sortK ps).Nodup := (sortK_perm ps).nodup_iff.mpr h
  refine ((sortK_srtd ps).and n).imp fun {a b} h => ?_
  obtain ⟨h1, h2⟩ := h
  rw [Bool.not_eq_true', lx_no] at h1
  rw [lx_iff]
  have : ¬ (a.1 = b.1 ∧ a.2 = b.2) := fun e => h2 (Prod.ext e.1 e.2)
  omega
/-! min, max -/
theorem okMin_pts (ps : List Pt) : okMin (ps.map ptK) = true := by
  unfold okMin
  rw [plain_pts, decide_eq_true (Nat.le_trans (depth_pts ps) (by decide)), Bool.and_true, Bool.and_true, Bool.and_eq_true]
  refine ⟨List.all_eq_true.mpr fun d hd => List.all_eq_true.mpr fun e he => ?_, List.all_eq_true.mpr fun d hd => ?_⟩
  · obtain ⟨_, _, rfl⟩ := List.mem_map.mp hd
    obtain ⟨_, _, rfl⟩ := List.mem_map.mp he
    rfl
  · obtain ⟨_, _, rfl⟩ := List.mem_map.mp hd
    rfl
theorem minD_pts : ∀ (r : List Pt) (x : Pt), ∃ m : Pt, PySem.W.minD (ptK x) (r.map ptK) = ptK m ∧ m ∈ x :: r ∧ ∀ p ∈ x :: r, lx p m = false
  | [], x => ⟨x, rfl, by simp, fun p hp => by
    have e : p = x := by simpa using hp
    subst e
    rw [lx_no]
    omega⟩
  | y :: r, x => by
    have step : PySem.W.minD (ptK x) ((y :: r).map ptK) = PySem.W.minD (ptK (if lx y x then y else x)) (r.map ptK) := by
      unfold PySem.W.minD
      rw [List.map_cons, List.foldl_cons, dlt_pt]
      cases lx y x <;> rfl
    obtain ⟨m, e, hm, hp⟩ := minD_pts r (if lx y x then y else x)
    refine ⟨m, step.trans e, ?_, fun p hq => ?_⟩
    · cases h : lx y x with
      | true => rw [h] at hm; rcases List.mem_cons.mp hm with e | e <;> simp [e]
      | false => rw [h] at hm; rcases List.mem_cons.mp hm with e | e <;> simp [e]
    · have h0 := hp _ (List.mem_cons_self ..)
      rcases List.mem_cons.mp hq with rfl | hq
      · cases h : lx y p with
        | true =>
          rw [h] at h0
          have h1 := lx_iff.mp h
          have h2 := lx_no.mp h0
          rw [lx_no]
          simp only [if_true] at h2
          omega
        | false => rw [h] at h0; exact h0
      · rcases List.mem_cons.mp hq with rfl | hq
        · cases h : lx p x with
          | true => rw [h] at h0; exact h0
          | false =>
            rw [h] at h0
            have h1 := lx_no.mp h
            have h2 := lx_no.mp h0
            rw [lx_no]
            simp only [Bool.false_eq_true, if_false] at h2
            omega
        · exact hp p (List.mem_cons_of_mem _ hq)
theorem maxD_pts : ∀ (r : List Pt) (x : Pt), ∃ m : Pt, PySem.W.maxD (ptK x) (r.map ptK) = ptK m ∧ m ∈ x :: r ∧ ∀ p ∈ x :: r, lx m p = false
  | [], x => ⟨x, rfl, by simp, fun p hp => by
    have e : p = x := by simpa using hp
    subst e
    rw [lx_no]
    omega⟩
  | y :: r, x => by
    have step : PySem.W.maxD (ptK x) ((y :: r).map ptK) = PySem.W.maxD (ptK (if lx x y then y else x)) (r.map ptK) := by
      unfold PySem.W.maxD
      rw [List.map_cons, List.foldl_cons, dlt_pt]
      cases lx x y <;> rfl
    obtain ⟨m, e, hm, hp⟩ := maxD_pts r (if lx x y then y else x)
    refine ⟨m, step.trans e, ?_, fun p hq => ?_⟩
    · cases h : lx x y with
      | true => rw [h] at hm; rcases List.mem_cons.mp hm with e | e <;> simp [e]
      | false => rw [h] at hm; rcases List.mem_cons.mp hm with e | e <;> simp [e]
    · have h0 := hp _ (List.mem_cons_self ..)
      rcases List.mem_cons.mp hq with rfl | hq
      · cases h : lx p y with
        | true =>
          rw [h] at h0
          have h1 := lx_iff.mp h
          have h2 := lx_no.mp h0
          rw [lx_no]
          simp only [if_true] at h2
          omega
        | false => rw [h] at h0; exact h0
      · rcases List.mem_cons.mp hq with rfl | hq
        · cases h : lx x p with
          | true => rw [h] at h0; exact h0
          | false =>
            rw [h] at h0
            have h1 := lx_no.mp h
            have h2 := lx_no.mp h0
            rw [lx_no]
            simp only [Bool.false_eq_true, if_false] at h2
            omega
        · exact hp p (List.mem_cons_of_mem _ hq)
theorem v_minL {ps : List Pt} (h : ps ≠ []) : ∃ m ∈ ps, cMinL [.list (ps.map ptK)] = some (ptK m) ∧ ∀ p ∈ ps, lx p m = false := by
  cases ps with
  | nil => exact absurd rfl h
  | cons x r =>
    obtain ⟨m, e, hm, hp⟩ := minD_pts r x
    refine ⟨m, hm, ?_, hp⟩
    show (if okMin ((x :: r).map ptK) = true then some (PySem.W.minD _ _) else none) = _
    rw [okMin_pts, if_pos rfl]
    exact congrArg some e
theorem v_maxL {ps : List Pt} (h : ps ≠ []) : ∃ m ∈ ps, cMaxL [.list (ps.map ptK)] = some (ptK m) ∧ ∀ p ∈ ps, lx m p = false := by
  cases ps with
  | nil => exact absurd rfl h
  | cons x r =>
    obtain ⟨m, e, hm, hp⟩ := maxD_pts r x
    refine ⟨m, hm, ?_, hp⟩
    show (if okMin ((x :: r).map ptK) = true then some (PySem.W.maxD _ _) else none) = _
    rw [okMin_pts, if_pos rfl]
    exact congrArg some e
/-! comprehensions that draw nothing -/
theorem compGo_eq {g : MG} {q : MB} {m : ME} {ρ : List Sl} (f : PyData → Bool) (h : PyData → PyData) : ∀ ds : List PyData, (∀ d ∈ ds, ∃ ρ', g d ρ = some ρ' ∧ q ρ' = pure (f d) ∧ (f d = true → m ρ' = pure (h d))) → compGo g q m ρ ds = pure ((ds.filter f).map h)
  | [], _ => rfl
  | d :: r, hd => by
    obtain ⟨ρ', e1, e2, e3⟩ := hd d (by simp)
    rw [x_cC, e1, x_ls, x_pb, e2, x_pb, compGo_eq f h r fun d' hd' => hd d' (List.mem_cons_of_mem _ hd')]
    cases hf : f d with
    | true =>
      rw [if_pos rfl, e3 hf, x_pb, x_pb, List.filter_cons_of_pos hf]
      rfl
    | false =>
      rw [if_neg (by decide), List.filter_cons_of_neg (by rw [hf]; decide)]
end DL

set_option maxHeartbeats 1000000
/-! The data layer, part S: repr of atoms, range with a step. -/
namespace DL
open PySem L2
/-! ### repr of anything -/
def okAtom : PyData → Bool
  | .none => true
  | .bool _ => true
  | .int i => decide (i.natAbs < 2 ^ 690)
  | .str x => PyData.strOk x && decide (x.cps.size ≤ 20000)
  | _ => false
def cReprX : List PyData → Option PyData
  | [d] => if okRepr d || okAtom d then some (.str d.shown) else none
  | _ => none
def rReprX (K : PySem.W.Frag) : List V → Hp → VK → Prop := fun xs H Q => ∃ x d, xs = [x] ∧ Dp K H x d ∧ (okRepr d || okAtom d) = true ∧ Q (.str d.shown) H
theorem k_reprX {K : PySem.W.Frag} : Cal (rReprX K) cReprX := fun F t ρ G H σ vs ds c e w hx Q q => by
  unfold cReprX at e
  split at e
  · rename_i d
    split at e
    · rename_i ok
      cases e
      cases hx with
      | cons h r =>
        cases r
        exact ⟨_, d, rfl, (h.rp w).dp, ok, q _ G H w Gw.refl (.str _)⟩
    · cases e
  · cases e
section
variable {X : Cx} (K : PySem.W.Frag)
theorem call_reprX {k : Nat} (hr : Room k X.A) (hG : X.A.guards = some []) (hK : X.K = K := by rfl) : CallR X (.builtin "repr") (rReprX K) := by
  subst hK
  intro pins s σ H xs us Q I r h
  obtain ⟨x, d, rfl, hd, ok, q⟩ := h
  by_cases o1 : okRepr d = true
  · exact call_repr hr hG pins s σ H [x] us Q I r ⟨x, d, rfl, hd, o1, q⟩
  · have o2 : okAtom d = true := by
      rw [Bool.or_eq_true] at ok
      exact ok.resolve_left o1
    obtain ⟨u, rfl, rx⟩ := vals1 r
    cases hd with
    | non =>
      cases (show u = Value.none from rx)
      exact P.repr_of_none ⟨.str _, H, I.tok _, ⟨_, rfl⟩, q⟩
    | bl b =>
      cases (show u = Value.bool b from rx)
      refine P.repr_of_bool ⟨.str _, H, I.tok _, ⟨_, rfl⟩, ?_⟩
      cases b <;> exact q
    | int i =>
      obtain ⟨t, e⟩ := (show ∃ t, u = Value.int i t from rx)
      cases e
      have hi := int_log (i := i) (by simpa [okAtom] using o2)
      exact P.repr_of_int (by omega) ⟨.str _, H, I.tok _, ⟨_, rfl⟩, q⟩
    | str x =>
      obtain ⟨t, e⟩ := (show ∃ t, u = Value.str x t from rx)
      cases e
      rw [okAtom, Bool.and_eq_true, decide_eq_true_eq] at o2
      exact P.repr_of_str ⟨.str _, H, I.tok _, ⟨_, rfl⟩, q⟩ (leaf_len (d := .str x) o2.1 o2.2)
    | _ => cases o2
end
theorem v_reprR {d : PyData} (h : okRepr d = true) : cReprX [d] = some (.str d.shown) := by
  show (if (okRepr d || okAtom d) = true then _ else none) = _
  rw [h]
  rfl
theorem v_reprA {d : PyData} (h : okAtom d = true) : cReprX [d] = some (.str d.shown) := by
  show (if (okRepr d || okAtom d) = true then _ else none) = _
  rw [h, Bool.or_true]
  rfl
/-! ### range with a step above 0 -/
def rgS (lo c : Int) (n : Nat) : List PyData := (List.range n).map fun (k : Nat) => PyData.int (lo + (k : Int) * c)
def okRg3 (i j c : Int) : Bool := decide (0 < c) && decide (c < 1073741824) && Builtin.Range.small i j c
def rng3 : List PyData → Option (List PyData)
  | [.int i, .int j, .int c] => if okRg3 i j c then some (rgS i c (Builtin.Range.rangeSize i j c).toNat) else none
  | _ => none
theorem rgS_get {lo c : Int} {n i : Nat} {d : PyData} (h : (rgS lo c n)[i]? = some d) : i < n ∧ d = .int (lo + (i : Int) * c) := by
  unfold rgS at h
  rw [List.getElem?_map] at h
  obtain ⟨k, h1, h2⟩ := Option.map_eq_some_iff.mp h
  obtain ⟨hi, e⟩ := List.getElem?_eq_some_iff.mp h1
  rw [List.length_range] at hi
  rw [List.getElem_range] at e
  subst e
  exact ⟨hi, h2.symm⟩
theorem it_rgS {lo c : Int} {n : Nat} {G : Hp} : ItOk (Itc lo c n) (rgS lo c n) G where
  go := fun F t ρ G1 H1 σ s w i d e => (rgS_get e).1
  yld := fun F t ρ G1 H1 σ s w i d e x H2 y => by
    obtain ⟨rfl, rfl⟩ := y
    obtain ⟨_, rfl⟩ := rgS_get e
    exact ⟨G1, Gw.refl, w, .int _, fun _ _ q => q⟩
  stop := fun F t ρ G1 H1 σ s w i e => by
    unfold rgS at e
    rw [List.length_map, List.length_range] at e
    exact e
theorem ev_irg3 {ta : TA} {l : ML} (h : EvR ta l) : EvI (iRng3 ta) (nCal rng3 l) := fun F t0 t1 ρ G H σ ds e w R q => by
  obtain ⟨d, t2, e1, e⟩ := bnd_some e
  obtain ⟨e2, rfl⟩ := lift_some e
  refine h F t0 _ ρ G H σ d e1 w _ fun vs G1 H1 w1 s1 r1 => ?_
  unfold rng3 at e2
  split at e2
  · rename_i i j c
    split at e2
    · rename_i hj
      unfold okRg3 at hj
      rw [Bool.and_eq_true, Bool.and_eq_true, decide_eq_true_eq, decide_eq_true_eq] at hj
      cases e2
      cases r1 with
      | cons hv r =>
        cases r with
        | cons hv2 r2 =>
          cases r2 with
          | cons hv3 r3 =>
            cases r3
            cases hv.int
            cases hv2.int
            cases hv3.int
            exact ⟨i, j, c, _, rfl, ⟨by omega, by omega, hj.2, PyProof.Rows.rangeSize_toNat i j c⟩, q _ G1 H1 w1 s1 it_rgS⟩
    · cases e2
  · cases e2
theorem ri_rg3 {X : Cx} {a b c tg : Expr} {u : TA} {l : ML} {p pos : Pos} (hm : X.mg "range" = none) (h : RR X [a, b, c] u l) (hg : Gl X "range" := by rfl) (hs : starEach [a, b, c] X.env = (false, eval a X.env) :: starEach [b, c] X.env := by rfl)
    (hpl : (backTo pos (starEach [b, c] X.env)).any (·.1) = false := by rfl) : RI X tg (.Call (.Name "range" p) [a, b, c] [] pos) (iRng3 u) (nCal rng3 l) := ⟨pi_range3 hg hm h.pa hs hpl, ev_irg3 h.ev⟩
end DL

set_option maxHeartbeats 1000000
/-! The data layer, part T: loops with their items, lists of points, repr of lists. -/
namespace DL
open PySem
/-- a for by an invariant that counts the turns and knows the items -/
theorem Gv.forX {kd : Nat} {c : Nat} {mg : MG} {b : MS} (I : Nat → List Sl → Prop) : ∀ (ds : List PyData) (k : Nat) (ρ : List Sl), (∀ j d, ds[j]? = some d → ∀ ρ, I (k + j) ρ → Gv kd (M.lift (mg d ρ) >>= b) c fun o => ∃ ρ', o = .nx ρ' ∧ I (k + j + 1) ρ') → I k ρ → Gv kd (forGo mg b ds ρ) (ds.length * c) fun o => ∃ ρ', o = .nx ρ' ∧ I (k + ds.length) ρ'
  | [], k, ρ, _, h => fun B t ok hB => ⟨.nx ρ, t, rfl, ok.mono (by simp), ρ, rfl, h⟩
  | d :: r, k, ρ, hb, h => fun B t ok hB => by
    have e0 : ((d :: r).length * c : Nat) = r.length * c + c := by rw [List.length_cons, Nat.add_mul, Nat.one_mul]
    rw [e0] at hB ⊢
    obtain ⟨o, t1, e1, ok1, ρ1, rfl, h1⟩ := hb 0 d rfl ρ h B t ok (by omega)
    obtain ⟨o2, t2, e2, ok2, p2⟩ := Gv.forX I r (k + 1) ρ1 (fun j d' hd ρ hρ => by
      have := hb (j + 1) d' (by simpa using hd) ρ (by rw [show k + (j + 1) = k + 1 + j by omega]; exact hρ)
      rw [show k + (j + 1) + 1 = k + 1 + j + 1 by omega] at this
      exact this) h1 (B + c) t1 ok1 (by omega)
    refine ⟨o2, t2, ?_, ok2.mono (by omega), by rw [List.length_cons, show k + (r.length + 1) = k + 1 + r.length by omega]; exact p2⟩
    show (M.lift (mg d ρ) >>= fun ρ' => b ρ' >>= loopOut (forGo mg b r)) t = _
    have : (M.lift (mg d ρ) >>= fun ρ' => b ρ' >>= loopOut (forGo mg b r)) = (M.lift (mg d ρ) >>= b) >>= loopOut (forGo mg b r) := by
      funext t
      rw [bnd_ap, bnd_ap, bnd_ap]
      cases M.lift (mg d ρ) t with
      | none => rfl
      | some p => show (b p.1 >>= loopOut (forGo mg b r)) p.2 = _; rw [bnd_ap]; rfl
    rw [this, bnd_ap, e1]
    exact e2
theorem v_cutDropT {xs : List PyData} {k : Nat} : gCut (.tuple xs) (some (k : Int)) none = some (.tuple (xs.drop k)) := by
  show some (PyData.tuple (cutD xs (some (k : Int)) none)) = _
  unfold cutD
  rw [HT.sIx_nat, HT.sIx_none]
  congr 2
  by_cases h : k ≤ xs.length
  · rw [Nat.min_eq_left h, List.take_of_length_le (by rw [List.length_drop]; omega)]
  · rw [Nat.min_eq_right (by omega), List.drop_length, List.drop_of_length_le (by omega), List.take_nil]
theorem v_cutDropL {xs : List PyData} {k : Nat} : gCut (.list xs) (some (k : Int)) none = some (.list (xs.drop k)) := by
  show some (PyData.list (cutD xs (some (k : Int)) none)) = _
  unfold cutD
  rw [HT.sIx_nat, HT.sIx_none]
  congr 2
  by_cases h : k ≤ xs.length
  · rw [Nat.min_eq_left h, List.take_of_length_le (by rw [List.length_drop]; omega)]
  · rw [Nat.min_eq_right (by omega), List.drop_length, List.drop_of_length_le (by omega), List.take_nil]
theorem at_map {α : Type} {f : α → PyData} {ps : List α} {k : Nat} {p : α} (h : ps[k]? = some p) : L2.atI (ps.map f) (k : Int) = some (f p) := by
  rw [v_at, List.getElem?_map, h]
  rfl
theorem rgD_at {lo : Int} {n j : Nat} {d : PyData} (h : (rgD lo n)[j]? = some d) : j < n ∧ d = .int (lo + j) := rgD_get lo n j h
theorem cAny_map (bs : List Bool) : cAny [.list (bs.map PyData.bool)] = some (.bool (bs.any id)) := by
  show (boolsOf (bs.map PyData.bool)).map _ = _
  rw [boolsOf_map]
  rfl
theorem plain_bools : ∀ bs : List Bool, PyData.plainAll (bs.map PyData.bool) = true
  | [] => rfl
  | b :: r => by rw [List.map_cons, PyData.plainAll, plain_bools r]; rfl
theorem v_ninTrue (bs : List Bool) : gNinX (.bool true) (.list (bs.map PyData.bool)) = some (.bool (!bs.any id)) := by
  have ok : okIn (.bool true) (bs.map PyData.bool) = true := by
    unfold okIn
    rw [plain_bools]
    rfl
  show (if okIn (.bool true) (bs.map PyData.bool) = true then _ else none) = _
  rw [if_pos ok]
  congr 3
  rw [List.any_map]
  congr 1
  funext b
  cases b <;> rfl
/-! repr of lists of things alike -/
theorem leaf_map {α : Type} {f : α → PyData} (h : ∀ a, leafOk (f a) = true) : ∀ l : List α, leafOkA (l.map f) = true
  | [] => rfl
  | a :: r => by rw [List.map_cons, leafOkA, h a, leaf_map h r]; rfl
theorem leaf_mapM {α : Type} {f : α → PyData} : ∀ l : List α, (∀ a ∈ l, leafOk (f a) = true) → leafOkA (l.map f) = true
  | [], _ => rfl
  | a :: r, h => by rw [List.map_cons, leafOkA, h a (by simp), leaf_mapM r fun b hb => h b (List.mem_cons_of_mem _ hb)]; rfl
theorem weight_mapM {α : Type} {f : α → PyData} {w : Nat} : ∀ l : List α, (∀ a ∈ l, (f a).weight ≤ w) → PyData.weightAll (l.map f) ≤ (w + 1) * l.length
  | [], _ => Nat.le_refl _
  | a :: r, h => by
    have := weight_mapM r fun b hb => h b (List.mem_cons_of_mem _ hb)
    have h1 := h a (by simp)
    rw [List.map_cons, PyData.weightAll, List.length_cons, Nat.mul_add, Nat.mul_one]
    omega
theorem depth_mapM {α : Type} {f : α → PyData} {w : Nat} : ∀ l : List α, (∀ a ∈ l, (f a).depth ≤ w) → PyData.depthAll (l.map f) ≤ w
  | [], _ => Nat.zero_le _
  | a :: r, h => by
    rw [List.map_cons, PyData.depthAll]
    exact Nat.max_le.mpr ⟨h a (by simp), depth_mapM r fun b hb => h b (List.mem_cons_of_mem _ hb)⟩
/-- leaves good, so deep, so heavy -/
structure Rpb (d : PyData) (k w : Nat) : Prop where
  leaf : leafOk d = true
  dep : d.depth ≤ k
  wt : d.weight ≤ w
theorem Rpb.mono {d : PyData} {k w k' w' : Nat} (h : Rpb d k w) (hk : k ≤ k') (hw : w ≤ w') : Rpb d k' w' := ⟨h.leaf, Nat.le_trans h.dep hk, Nat.le_trans h.wt hw⟩
theorem Rpb.list {α : Type} {f : α → PyData} {l : List α} {k w n : Nat} (h : ∀ a ∈ l, Rpb (f a) k w) (hn : l.length ≤ n) : Rpb (.list (l.map f)) (k + 1) ((w + 1) * n) :=
  ⟨leaf_mapM l fun a ha => (h a ha).leaf, by rw [PyData.depth]; exact Nat.succ_le_succ (depth_mapM l fun a ha => (h a ha).dep), by
    rw [PyData.weight]
    exact Nat.le_trans (weight_mapM l fun a ha => (h a ha).wt) (Nat.mul_le_mul_left _ hn)⟩
theorem Rpb.tuple {α : Type} {f : α → PyData} {l : List α} {k w n : Nat} (h : ∀ a ∈ l, Rpb (f a) k w) (hn : l.length ≤ n) : Rpb (.tuple (l.map f)) (k + 1) ((w + 1) * n) :=
  ⟨leaf_mapM l fun a ha => (h a ha).leaf, by rw [PyData.depth]; exact Nat.succ_le_succ (depth_mapM l fun a ha => (h a ha).dep), by
    rw [PyData.weight]
    exact Nat.le_trans (weight_mapM l fun a ha => (h a ha).wt) (Nat.mul_le_mul_left _ hn)⟩
theorem Rpb.two {x y : PyData} {k w : Nat} (hx : Rpb x k w) (hy : Rpb y k w) : Rpb (.tuple [x, y]) (k + 1) (2 * w + 2) :=
  ⟨by rw [leafOk, leafOkA, leafOkA, leafOkA, hx.leaf, hy.leaf]; rfl, by
    rw [PyData.depth, PyData.depthAll, PyData.depthAll, PyData.depthAll]
    exact Nat.succ_le_succ (Nat.max_le.mpr ⟨hx.dep, Nat.max_le.mpr ⟨hy.dep, Nat.zero_le _⟩⟩), by
    rw [PyData.weight, PyData.weightAll, PyData.weightAll, PyData.weightAll]
    have := hx.wt
    have := hy.wt
    omega⟩
theorem Rpb.int {i : Int} (h : i.natAbs ≤ 1000) : Rpb (.int i) 0 10 :=
  ⟨by rw [leafOk]; exact decide_eq_true (pow690 (Nat.le_trans h (by decide))), Nat.le_refl _, by
    rw [PyData.weight]
    split
    · exact Nat.zero_le _
    · rename_i hz
      have z : i.natAbs ≠ 0 := by
        intro e
        exact hz (by simp; omega)
      have := (Nat.log2_lt z (k := 10)).mpr (by omega)
      omega⟩
theorem Rpb.pt {p : Pt} (h : p.1.natAbs ≤ 1000 ∧ p.2.natAbs ≤ 1000) : Rpb (ptK p) 1 22 := (Rpb.int h.1).two (Rpb.int h.2)
theorem Rpb.ok {d : PyData} {k w : Nat} (h : Rpb d k w) (hs : isSeqD d = true) (hk : k ≤ 50) (hw : w ≤ 20000) : okRepr d = true := by
  unfold okRepr
  rw [hs, h.leaf, decide_eq_true (Nat.le_trans h.dep hk), decide_eq_true (Nat.le_trans h.wt hw)]
  rfl
theorem x_sExt {ρ : List Sl} (i : Nat) (m : ME) : sExt i m ρ = m ρ >>= fun d => M.lift (owOf ρ i) >>= fun xs => (match d with | .list ys => if okLen (xs.length + ys.length) then pure (.nx (ρ.set i (.ow (xs ++ ys)))) else M.fail | _ => M.fail) := nr rfl
end DL

set_option maxHeartbeats 1000000
/-! The data layer, part U: loops that draw nothing and may return early; comprehensions over mapped lists. -/
namespace DL
open PySem
theorem forGo_any {mg : MG} {b : MS} (I : List Sl → Prop) (bad : PyData → Bool) (R : PyData) : ∀ (ds : List PyData) (ρ : List Sl), I ρ → (∀ d ∈ ds, ∀ ρ, I ρ → ∃ ρ', I ρ' ∧ (M.lift (mg d ρ) >>= b) = if bad d then pure (.rt R) else pure (.nx ρ')) → ∃ ρ', I ρ' ∧ forGo mg b ds ρ = if ds.any bad then pure (.rt R) else pure (.nx ρ')
  | [], ρ, h, _ => ⟨ρ, h, rfl⟩
  | d :: r, ρ, h, hb => by
    obtain ⟨ρ1, h1, e1⟩ := hb d (by simp) ρ h
    obtain ⟨ρ2, h2, e2⟩ := forGo_any I bad R r ρ1 h1 fun d' hd => hb d' (List.mem_cons_of_mem _ hd)
    refine ⟨ρ2, h2, ?_⟩
    rw [x_forC, ← x_ba, e1, List.any_cons]
    cases bad d with
    | true => rw [if_pos rfl, x_pb, x_loR, Bool.true_or, if_pos rfl]
    | false => rw [if_neg (by decide), x_pb, x_loN, e2, Bool.false_or]
theorem compGo_map {α : Type} {g : MG} {q : MB} {m : ME} {ρ : List Sl} (e0 : α → PyData) (F : α → Bool) (h : α → PyData) : ∀ l : List α, (∀ a ∈ l, ∃ ρ', g (e0 a) ρ = some ρ' ∧ q ρ' = pure (F a) ∧ (F a = true → m ρ' = pure (h a))) → compGo g q m ρ (l.map e0) = pure ((l.filter F).map h)
  | [], _ => rfl
  | d :: r, hd => by
    obtain ⟨ρ', e1, e2, e3⟩ := hd d (by simp)
    rw [List.map_cons, x_cC, e1, x_ls, x_pb, e2, x_pb, compGo_map e0 F h r fun d' hd' => hd d' (List.mem_cons_of_mem _ hd')]
    cases hf : F d with
    | true =>
      rw [if_pos rfl, e3 hf, x_pb, x_pb, List.filter_cons_of_pos hf]
      rfl
    | false =>
      rw [if_neg (by decide), List.filter_cons_of_neg (by rw [hf]; decide)]
theorem gNe_self {a : PyData} (ha : leafOk a = true) (da : a.depth ≤ 64) : gNe a a = some (.bool false) := by
  rw [gNe_of ha ha da da, SeqAt.eqv_refl a (leaf_lay a ha)]
  rfl
theorem ne_shown {d : PyData} (h : leafOk d = true) : gNe (.str d.shown) (.str d.shown) = some (.bool false) := gNe_self (shown_ok h) (show (0 : Nat) ≤ 64 by decide)
theorem eq_shown {d : PyData} (h : leafOk d = true) : gEq (.str d.shown) (.str d.shown) = some (.bool true) := gEq_self (shown_ok h) (show (0 : Nat) ≤ 64 by decide)
theorem abs_ite (i : Int) : (if i < 0 then -i else i) = (i.natAbs : Int) := by split <;> omega
end DL

set_option maxHeartbeats 1000000
/-! The data layer, part V: whiles. -/
namespace DL
open PySem
def natD : Sl → Nat
  | .fz (.int i) => i.natAbs
  | .fz (.list xs) => xs.length
  | .fz (.tuple xs) => xs.length
  | .ow xs => xs.length
  | _ => 0
/-- fuel: all ints of the slots and all lengths, added -/
def fuelS (ρ : List Sl) : Nat := 2 + (ρ.map natD).sum
theorem x_sWhile {ρ : List Sl} (f : List Sl → Nat) (c : MB) (b : MS) : sWhile f c b ρ = whileGo c b (f ρ) ρ := nr rfl
theorem x_whS {ρ : List Sl} (c : MB) (b : MS) (n : Nat) : whileGo c b (n + 1) ρ = c ρ >>= fun x => if x then b ρ >>= loopOut (whileGo c b n) else pure (.nx ρ) := nr rfl
/-- a while by an invariant and a measure, nothing drawn -/
theorem while_eq {c : MB} {b : MS} {α : Type} (st : α → List Sl) (go : α → Bool) (nx : α → α) (μ : α → Nat) (I : α → Prop) (hc : ∀ a, I a → c (st a) = pure (go a)) (hb : ∀ a, I a → go a = true → b (st a) = pure (.nx (st (nx a))) ∧ I (nx a) ∧ μ (nx a) < μ a) :
    ∀ (n : Nat) (a : α), I a → μ a < n → ∃ z, I z ∧ go z = false ∧ whileGo c b n (st a) = pure (.nx (st z)) ∧ ∃ k, z = Nat.repeat nx k a
  | 0, a, _, h => absurd h (Nat.not_lt_zero _)
  | n + 1, a, hI, h => by
    rw [x_whS, hc a hI, x_pb]
    cases hg : go a with
    | false => exact ⟨a, hI, hg, if_neg (by decide), 0, rfl⟩
    | true =>
      obtain ⟨e, hI', hm⟩ := hb a hI hg
      obtain ⟨z, h1, h2, h3, k, hk⟩ := while_eq st go nx μ I hc hb n (nx a) hI' (by omega)
      refine ⟨z, h1, h2, ?_, k + 1, ?_⟩
      · rw [if_pos rfl, e, x_pb, x_loN, h3]
      · rw [hk]
        clear hk h3 h2 h1
        induction k with
        | zero => rfl
        | succ k ih => exact congrArg nx ih
end DL

set_option maxHeartbeats 1000000
/-! The data layer, part W: sizes by classes, points within 1000 as a type, comprehensions and loops over typed lists. -/
namespace DL
open PySem
/-- e takes at most n bits -/
class Sz (e : Int) (n : outParam Nat) : Prop where
  h : e.natAbs < 2 ^ n
theorem two_add {a b n m : Nat} (ha : a < 2 ^ n) (hb : b < 2 ^ m) : a + b < 2 ^ (n + m + 1) := by
  have h1 : 2 ^ n ≤ 2 ^ (n + m) := Nat.pow_le_pow_right (by decide) (by omega)
  have h2 : 2 ^ m ≤ 2 ^ (n + m) := Nat.pow_le_pow_right (by decide) (by omega)
  rw [Nat.pow_succ]
  omega
instance szAdd {a b : Int} {n m : Nat} [ha : Sz a n] [hb : Sz b m] : Sz (a + b) (n + m + 1) := ⟨Nat.lt_of_le_of_lt (Int.natAbs_add_le a b) (two_add ha.h hb.h)⟩
instance szSub {a b : Int} {n m : Nat} [ha : Sz a n] [hb : Sz b m] : Sz (a - b) (n + m + 1) := ⟨Nat.lt_of_le_of_lt (by omega) (two_add ha.h hb.h)⟩
instance szMul {a b : Int} {n m : Nat} [ha : Sz a n] [hb : Sz b m] : Sz (a * b) (n + m) := ⟨by
  rw [Int.natAbs_mul, Nat.pow_add]
  have h1 := ha.h
  have h2 := hb.h
  exact Nat.mul_lt_mul'' h1 h2⟩
instance szNeg {a : Int} {n : Nat} [ha : Sz a n] : Sz (-a) n := ⟨by rw [Int.natAbs_neg]; exact ha.h⟩
instance szLit {k : Nat} : Sz (no_index (OfNat.ofNat k) : Int) k := ⟨Nat.lt_two_pow_self⟩
instance szLit6 : Sz (1000000 : Int) 20 := ⟨by decide⟩
instance szAbs {a : Int} {n : Nat} [ha : Sz a n] : Sz (a.natAbs : Int) n := ⟨by simpa using ha.h⟩
instance szDiv {a b : Int} {n : Nat} [ha : Sz a n] : Sz (a / b) n := ⟨Nat.lt_of_le_of_lt (Int.natAbs_ediv_le_natAbs a b) ha.h⟩
instance szMod {a b : Int} {n m : Nat} [ha : Sz a n] [hb : Sz b m] : Sz (a % b) (n + m) := ⟨by
  have hn : 2 ^ n ≤ 2 ^ (n + m) := Nat.pow_le_pow_right (by decide) (by omega)
  have hm : 2 ^ m ≤ 2 ^ (n + m) := Nat.pow_le_pow_right (by decide) (by omega)
  have h1 := ha.h
  have h2 := hb.h
  by_cases z : b = 0
  · rw [z, Int.emod_zero]; omega
  · have := Int.emod_nonneg a z
    have : (a % b).natAbs < b.natAbs := by
      rcases Int.lt_or_gt_of_ne z with h | h
      · have := Int.emod_lt_of_neg a h; omega
      · have := Int.emod_lt_of_pos a h; omega
    omega⟩
theorem szOf {a : Int} {n : Nat} (h : a.natAbs < 2 ^ n) : Sz a n := ⟨h⟩
theorem v_mulS {i j : Int} {n m : Nat} [hi : Sz i n] [hj : Sz j m] (h : n + m < 300000) : gMulI (.int i) (.int j) = some (.int (i * j)) :=
  v_mul (okMul_of (Nat.lt_of_lt_of_le hi.h (Nat.pow_le_pow_right (by decide) (by omega))) (Nat.lt_of_lt_of_le hj.h (Nat.pow_le_pow_right (by decide) (by omega))))
theorem v_divS {i j : Int} {m : Nat} [hj : Sz j m] (h0 : 0 < j) (h : m < 9000) : gDiv (.int i) (.int j) = some (.int (i / j)) := v_div (by
  unfold okDiv
  rw [Bool.and_eq_true]
  refine ⟨decide_eq_true h0, decide_eq_true ?_⟩
  have z : j.natAbs ≠ 0 := by omega
  exact Nat.lt_of_lt_of_le ((Nat.log2_lt z).mpr hj.h) (by omega))
theorem v_modS {i j : Int} (h0 : 0 < j) : gMod (.int i) (.int j) = some (.int (i % j)) := v_mod (okMod_of h0)
/-- a point within 1000 -/
abbrev B1 (p : Pt) : Prop := p.1.natAbs ≤ 1000 ∧ p.2.natAbs ≤ 1000
abbrev BP := { p : Pt // B1 p }
abbrev ptB (p : BP) : PyData := ptK p.1
instance szX {p : BP} : Sz p.1.1 10 := ⟨Nat.lt_of_le_of_lt p.2.1 (by decide)⟩
instance szY {p : BP} : Sz p.1.2 10 := ⟨Nat.lt_of_le_of_lt p.2.2 (by decide)⟩
theorem bp_list : ∀ ps : List Pt, (∀ p ∈ ps, B1 p) → ∃ qs : List BP, qs.map (·.1) = ps
  | [], _ => ⟨[], rfl⟩
  | p :: r, h => by
    obtain ⟨qs, e⟩ := bp_list r fun q hq => h q (List.mem_cons_of_mem _ hq)
    exact ⟨⟨p, h p (by simp)⟩ :: qs, by rw [List.map_cons, e]⟩
theorem ptB_map (qs : List BP) : (qs.map (·.1)).map ptK = qs.map ptB := by rw [List.map_map]; rfl
/-! comprehensions -/
def compM {α : Type} (F : α → M (Option PyData)) : List α → M (List PyData)
  | [] => pure []
  | a :: l => F a >>= fun o => compM F l >>= fun ys => pure (match o with | some y => y :: ys | none => ys)
theorem compGo_M {α : Type} {g : MG} {q : MB} {m : ME} {ρ : List Sl} {e0 : α → PyData} : ∀ l : List α,
    compGo g q m ρ (l.map e0) = compM (fun a => M.lift (g (e0 a) ρ) >>= fun ρ' => q ρ' >>= fun k => if k = true then (m ρ' >>= fun y => pure (some y)) else pure none) l
  | [] => rfl
  | a :: l => by
    rw [List.map_cons, x_cC, compGo_M l, compM]
    rw [x_ba]
    congr 1
    funext ρ'
    rw [x_ba]
    congr 1
    funext k
    cases k with
    | true =>
      rw [if_pos rfl, if_pos rfl, x_ba]
      congr 1
    | false =>
      rw [if_neg (by decide), if_neg (by decide), x_pb, x_bp]
theorem compM_map {α : Type} {h : α → PyData} : ∀ l : List α, compM (fun a => pure (some (h a))) l = pure (l.map h)
  | [] => rfl
  | a :: l => by rw [compM, compM_map l]; rfl
theorem compM_filter {α : Type} {p : α → Bool} {h : α → PyData} : ∀ l : List α, compM (fun a => if p a = true then pure (some (h a)) else pure none) l = pure ((l.filter p).map h)
  | [] => rfl
  | a :: l => by
    rw [compM, compM_filter l]
    cases e : p a with
    | true => rw [List.filter_cons_of_pos e]; rfl
    | false => rw [List.filter_cons_of_neg (by rw [e]; decide)]; rfl
theorem compM_nil {α : Type} : ∀ l : List α, compM (fun _ => pure none) l = pure []
  | [] => rfl
  | a :: l => by rw [compM, compM_nil l]; rfl
/-- two comprehensions whose bodies agree on the list -/
theorem compM_congr {α : Type} {F G : α → M (Option PyData)} : ∀ l : List α, (∀ a ∈ l, F a = G a) → compM F l = compM G l
  | [], _ => rfl
  | a :: l, h => by rw [compM, compM, h a (by simp), compM_congr l fun b hb => h b (List.mem_cons_of_mem _ hb)]
theorem okLen_of {n : Nat} (h : n ≤ 1000000) : okLen n = true := decide_eq_true h
theorem x_bPure {α : Type} (a b : α) (c : Bool) : (if c = true then (pure a : M α) else pure b) = pure (if c = true then a else b) := by cases c <;> rfl
theorem x_bb (c : Bool) : (if c = true then true else false) = c := by cases c <;> rfl
theorem x_iband (a b : Bool) : (if a = true then b else false) = (a && b) := by cases a <;> rfl
theorem x_ibor (a b : Bool) : (if a = true then true else b) = (a || b) := by cases a <;> rfl
theorem x_band (a b : Bool) : (if a = true then (pure b : M Bool) else pure false) = pure (a && b) := by cases a <;> rfl
theorem x_bor (a b : Bool) : (if a = true then (pure true : M Bool) else pure b) = pure (a || b) := by cases a <;> rfl
theorem x_ebool (a : Bool) (x y : PyData) : (if a = true then (pure x : M PyData) else pure y) = pure (if a = true then x else y) := by cases a <;> rfl
/-! loops without draws -/
/-- every turn goes on; the state is followed by f -/
theorem for_pure {α β : Type} {g : MG} {b : MS} {e0 : α → PyData} (I : β → List Sl → Prop) (f : β → α → β) : ∀ (l : List α) (s : β) (ρ : List Sl), (∀ a ∈ l, ∀ s ρ, I s ρ → ∃ ρ', (M.lift (g (e0 a) ρ) >>= b) = pure (.nx ρ') ∧ I (f s a) ρ') → I s ρ →
    ∃ ρ', forGo g b (l.map e0) ρ = pure (.nx ρ') ∧ I (l.foldl f s) ρ'
  | [], s, ρ, _, h => ⟨ρ, rfl, h⟩
  | a :: l, s, ρ, hb, h => by
    obtain ⟨ρ1, e1, h1⟩ := hb a (by simp) s ρ h
    obtain ⟨ρ2, e2, h2⟩ := for_pure I f l (f s a) ρ1 (fun a' ha => hb a' (List.mem_cons_of_mem _ ha)) h1
    exact ⟨ρ2, by rw [List.map_cons, x_forC, ← x_ba, e1, x_pb, x_loN, e2], h2⟩
/-- a turn may return R -/
theorem for_any {α : Type} {g : MG} {b : MS} {e0 : α → PyData} (I : List Sl → Prop) (bad : α → Bool) (R : PyData) : ∀ (l : List α) (ρ : List Sl), (∀ a ∈ l, ∀ ρ, I ρ → ∃ ρ', I ρ' ∧ (M.lift (g (e0 a) ρ) >>= b) = if bad a = true then pure (.rt R) else pure (.nx ρ')) → I ρ →
    ∃ ρ', I ρ' ∧ forGo g b (l.map e0) ρ = if l.any bad = true then pure (.rt R) else pure (.nx ρ')
  | [], ρ, _, h => ⟨ρ, h, rfl⟩
  | a :: l, ρ, hb, h => by
    obtain ⟨ρ1, h1, e1⟩ := hb a (by simp) ρ h
    obtain ⟨ρ2, h2, e2⟩ := for_any I bad R l ρ1 (fun a' ha => hb a' (List.mem_cons_of_mem _ ha)) h1
    refine ⟨ρ2, h2, ?_⟩
    rw [List.map_cons, x_forC, ← x_ba, e1, List.any_cons]
    cases bad a with
    | true => rw [if_pos rfl, x_pb, x_loR, Bool.true_or, if_pos rfl]
    | false => rw [if_neg (by decide), x_pb, x_loN, e2, Bool.false_or]
/-- ranges as typed lists -/
theorem rgD_range : ∀ (lo : Int) (n : Nat), rgD lo n = (List.range n).map fun i : Nat => PyData.int (lo + (i : Int))
  | lo, 0 => rfl
  | lo, n + 1 => by
    rw [rgD, rgD_range (lo + 1) n, List.range_succ_eq_map, List.map_cons, List.map_map]
    congr 1
    · show _ = PyData.int (lo + 0); rw [Int.add_zero]
    · apply List.map_congr_left
      intro i _
      show PyData.int (lo + 1 + i) = PyData.int (lo + ((i + 1 : Nat) : Int))
      congr 1
      omega
end DL

set_option maxHeartbeats 1000000
/-! The data layer, part X: slices of tuples by the step -1. -/
namespace DL
open PySem PySem.Spec PyProof.Rows L2 HT
theorem pick_all {α : Type} : ∀ L : List α, (List.range L.length).filterMap (fun k => L[k]?) = L
  | [] => rfl
  | a :: L => by
    rw [List.length_cons, List.range_succ_eq_map, List.filterMap_cons, List.filterMap_map]
    show a :: List.filterMap ((fun k => (a :: L)[k]?) ∘ Nat.succ) _ = _
    rw [show ((fun k => (a :: L)[k]?) ∘ Nat.succ) = fun k => L[k]? from funext fun k => by simp, pick_all L]
theorem pick_rev (xs : Array Value) (d : Nat) : ((List.range (xs.size - d)).filterMap fun (k : Nat) => xs[(((xs.size : Int) - 1) + (k : Int) * (-1)).toNat]?) = (xs.toList.drop d).reverse := by
  have e := pick_all (xs.toList.drop d).reverse
  rw [List.length_reverse, List.length_drop, Array.length_toList] at e
  have cg : ∀ (l : List Nat) (f g : Nat → Option Value), (∀ k ∈ l, f k = g k) → l.filterMap f = l.filterMap g := fun l f g h => by
    induction l with
    | nil => rfl
    | cons a l ih => rw [List.filterMap_cons, List.filterMap_cons, h a (by simp), ih fun k hk => h k (List.mem_cons_of_mem _ hk)]
  refine (cg _ _ _ fun k hk => ?_).trans e
  have hk' := List.mem_range.mp hk
  rw [List.getElem?_reverse (by rw [List.length_drop, Array.length_toList]; exact hk'), List.getElem?_drop, List.length_drop, Array.length_toList, Array.getElem?_toList]
  congr 1
  omega
/-- how many items t[:hi:-1] leaves out -/
def offOf : Option Int → Nat
  | none => 0
  | some i => i.toNat + 1
def hiOk : Option Int → Bool
  | none => true
  | some i => decide (0 ≤ i)
section
variable {prog : Program} {w : World} {A : Around} {E : Value → Shared → Prop} {s : Shared}
theorem slicePart_of {v : Value} {k : Option Int} {Q : Option Int → Shared → Prop} (hv : IsPart v k) (h : Q k s) : wpAny (model prog w) A (Builtin.Slice.slicePartIndex v) Q E s := by
  cases hv with
  | none => exact slicePart_none h
  | int i t => exact slicePart_int h
theorem sliceApplied_rev {sl : Addr} {vl vu vs : Value} {hi : Option Int} {n : Nat} {Q : Int × Int × Nat → Shared → Prop} (hs : s.heap.IsSliceOf sl vl vu vs) (pl : IsPart vl none) (pu : IsPart vu hi) (ps : IsPart vs (some (-1))) (hh : hiOk hi = true)
    (h : Q ((n : Int) - 1, -1, n - offOf hi) s) : wpAny (model prog w) A (Builtin.Slice.sliceApplied (.ref sl) (pure (n : Int))) Q E s := by
  obtain ⟨os, hos, hcs, hds⟩ := id hs
  unfold Builtin.Slice.sliceApplied Builtin.Slice.sliceFields
  refine wpAny_bind (wpAny_bind (wpAny_field hos hds (x := vl) rfl (wpAny_bind (wpAny_field hos hds (x := vu) rfl (wpAny_bind (wpAny_field hos hds (x := vs) rfl (wpAny_pure ?_)))))))
  refine wpAny_bind (slicePart_of ps ?_)
  show wpAny _ _ (if ((-1 : Int) == 0) = true then _ else _) _ _ s
  rw [if_neg (by decide)]
  refine wpAny_bind (slicePart_of pl (wpAny_bind (slicePart_of pu (wpAny_bind (wpAny_pure ?_)))))
  show wpAny _ _ (match Builtin.Slice.sliceAdjust none hi (-1) (n : Int) with | (lo, hi) => pure (lo, (-1 : Int), Builtin.Slice.slicePlaces lo hi (-1))) _ _ s
  have e : ∃ z : Int, Builtin.Slice.sliceAdjust none hi (-1) (n : Int) = ((n : Int) - 1, z) ∧ Builtin.Slice.slicePlaces ((n : Int) - 1) z (-1) = n - offOf hi := by
    cases hi with
    | none =>
      refine ⟨-1, rfl, ?_⟩
      show (if (n : Int) - 1 > -1 then ((n : Int) - 1 - -1 - 1) / (- -1) + 1 else 0).toNat = n - 0
      rw [show (- -1 : Int) = 1 by decide, Int.ediv_one]
      split <;> omega
    | some i =>
      have hi0 : 0 ≤ i := of_decide_eq_true hh
      refine ⟨min i ((n : Int) - 1), ?_, ?_⟩
      · show ((n : Int) - 1, if i < 0 then _ else min i ((n : Int) - 1)) = _
        rw [if_neg (by omega)]
      · show (if (n : Int) - 1 > min i ((n : Int) - 1) then ((n : Int) - 1 - min i ((n : Int) - 1) - 1) / (- -1) + 1 else 0).toNat = n - (i.toNat + 1)
        rw [show (- -1 : Int) = 1 by decide, Int.ediv_one]
        split <;> omega
  obtain ⟨z, e1, e2⟩ := e
  rw [e1]
  show wpAny _ _ (pure ((n : Int) - 1, (-1 : Int), Builtin.Slice.slicePlaces ((n : Int) - 1) z (-1))) _ _ s
  rw [e2]
  exact wpAny_pure h
theorem getItem_tuple_rev {t sl : Addr} {items : Array Value} {vl vu vs : Value} {hi : Option Int} {Q : Value → Shared → Prop} (ht : IsTup s.heap t items) (hs : s.heap.IsSliceOf sl vl vu vs) (pl : IsPart vl none) (pu : IsPart vu hi) (ps : IsPart vs (some (-1))) (hh : hiOk hi = true)
    (h : Q (.ref s.heap.objs.size) { s with heap := s.heap.push { cls := .type "tuple", data := .seq (items.toList.drop (offOf hi)).reverse.toArray } })
    (hsz : items.size ≤ sizeLine) : wpAny (model prog w) A (getItem (.ref t) (.ref sl)) Q E s := by
  have htake : sizeOk (.seq (items.toList.drop (offOf hi)).reverse.toArray) := by
    show (items.toList.drop (offOf hi)).reverse.toArray.size ≤ sizeLine
    rw [List.size_toArray, List.length_reverse, List.length_drop, Array.length_toList]
    omega
  obtain ⟨os, hos, hcs, hds⟩ := id hs
  have hTs : s.TypeIs (.ref sl) "slice" := ⟨os, hos, hcs⟩
  unfold getItem
  try with_reducible refine wpAny_holding ?_
  first | refine wpAny_bind (wpAny_pure ?_) | skip
  refine wpAny_bind (wpAny_sequenceKey ht.typeIs (by decide) ?_)
  refine wpAny_bind (wpAny_callSpecial?_slot (name := Str.ofString "__getitem__") ht.typeIs PyProof.Rows.slot_tuple_getitem
    (wpAny_call_entry PyProof.Rows.slot_tuple_getitem ht.typeIs entry_tuple_getitem ?_ (args_tuple_getitem _ _)))
  show wpAny _ _ (Builtin.Tuple.tupleItemsOf (.ref t) >>= _) _ _ s
  refine wpAny_bind (tupleItemsOf_ ht ?_)
  refine wpAny_bind (wpAny_typeOf hTs ?_)
  rw [if_pos (by decide)]
  refine wpAny_bind (sliceApplied_rev hs pl pu ps hh ?_)
  have hno : ¬ ((((items.size : Int) - 1) == 0 && (-1 : Int) == 1 && (items.size - offOf hi) == items.size) = true) := by simp
  show wpAny _ _ (if (((items.size : Int) - 1) == 0 && (-1 : Int) == 1 && (items.size - offOf hi) == items.size) = true then _ else _) _ _ s
  rw [if_neg hno, pick_rev]
  first
    | exact wpAny_bind (m := Builtin.Tuple.tupleExact _) (wpAny_newObj_type (wpAny_pure ⟨_, rfl, wpAny_pure h⟩) htake)
    | exact wpAny_bind (m := Builtin.Tuple.tupleExact _) (wpAny_newObj_type (wpAny_bind (wpAny_pure (wpAny_pure ⟨_, rfl, wpAny_pure h⟩))) htake)
    | exact wpAny_bind (wpAny_bind (m := Builtin.Tuple.tupleExact _) (wpAny_newObj_type (wpAny_pure (wpAny_pure ⟨_, rfl, wpAny_pure h⟩)) htake))
    | exact wpAny_bind (wpAny_bind (m := Builtin.Tuple.tupleExact _) (wpAny_newObj_type (wpAny_pure ⟨_, rfl, wpAny_pure h⟩) htake))
end
section
variable {X : Cx}
def tRevT (K : PySem.W.Frag) (te : TE) (th : TO) : TE := fun σ H Q => te σ H fun x H1 => th σ H1 fun hi H2 => ∃ a xs, x = .ref a ∧ SqT K H2 a xs ∧ hiOk hi = true ∧ ∀ p, H2 p = none → Q (.ref p) (upd H2 p (.tup (xs.drop (offOf hi)).reverse))
theorem pe_revT {e : Expr} {te : TE} {hi : Option Expr} {th : TO} {k : Nat} {p1 p2 p3 pos : Pos} (he : PE X e te) (hu : PO X hi th) : PE X (.Subscript e (.Slice none hi (some (.UnaryOp .USub (.Constant (.int 1) k p1) p2)) p3) pos) (tRevT X.K te th) := by
  refine ⟨fun pins s σ H Q I h => ?_⟩
  refine Subscript_ (thn (he.run pins s σ H _ I h) fun v s1 ⟨x, H1, I1, r1, q1⟩ => ?_)
  have hst : PO X (some (.UnaryOp .USub (.Constant (.int 1) k p1) p2)) (tPart (tUn (rU fun i => .int (-i)) (tC (.int 1)))) := po_some (pe_un un_neg pe_int)
  refine wpAny_Slice (thn (po_none.run pins s1 σ H1 (fun o H2 => o = none ∧ H2 = H1) I1 ⟨rfl, rfl⟩) fun vl s2 ⟨l, H2, I2, pl, el, e2⟩ => ?_)
  subst el e2
  refine thn (hu.run pins s2 σ H2 _ I2 q1) fun vu s3 ⟨u, H3, I3, pu, q3⟩ => ?_
  obtain ⟨a, xs, ex, hx, hh, q⟩ := q3
  subst ex
  cases r1
  refine thn (hst.run pins s3 σ H3 (fun o H4 => o = some (-1) ∧ H4 = H3) I3 ⟨1, rfl, -1, rfl, rfl, rfl⟩) fun vs s4 ⟨o, H4, I4, ps, eo, e4⟩ => ?_
  subst eo e4
  have I5 : Inv X pins σ H4 { s4 with heap := s4.heap.push { cls := .type "slice", data := .fields #[vl, vu, vs] } } := I4.kept (t' := s4.toks) fun b ob q => Heap.get?_push_of_some _ q
  obtain ⟨its, r, ht, hz⟩ := I5.tuple hx
  have hlen := r.length
  show wpAny (model X.prog X.w) X.A (subscriptTail e (.Slice none hi (some (.UnaryOp .USub (.Constant (.int 1) k p1) p2)) p3) (.ref a) (.ref s4.heap.objs.size)) (EP X pins σ Q) X.xe { s4 with heap := s4.heap.push { cls := .type "slice", data := .fields #[vl, vu, vs] } }
  refine tail_any (ops := [.ref a, .ref s4.heap.objs.size]) ht.typeIs (PyProof.Rows.slot_tuple_getitem.lookup) ?_ (by with_unfolding_all rfl)
  refine getItem_tuple_rev ht (Heap.IsSliceOf.new _ vl vu vs) pl pu ps hh ?_ (by rw [List.size_toArray]; omega)
  refine ⟨.ref _, _, I5.laid (t' := s4.toks) (o := .tup (xs.drop (offOf u)).reverse) (fun b ob q => Heap.get?_push_of_some _ q) (Nat.le_refl _) ?_, rfl, q _ (I5.hok.fresh (Nat.le_refl _))⟩
  exact ⟨by rw [List.length_reverse, List.length_drop]; omega, _, (r.drop (offOf u)).reverse, IsTup.new _ _⟩
end
/-! xs[:hi:-1] of a tuple, xs[::-1] of a list or a tuple -/
def gRevC (d : PyData) (hi : Option Int) : Option PyData := match d with
  | .tuple xs => if hiOk hi then some (.tuple (xs.drop (offOf hi)).reverse) else none
  | _ => none
def eRevT (ma : ME) (mh : List Sl → M (Option Int)) : ME := fun ρ => do
  let d ← ma ρ
  let hi ← mh ρ
  M.lift (gRevC d hi)
theorem x_eRevT {ρ : List Sl} (a : ME) (h : List Sl → M (Option Int)) : eRevT a h ρ = a ρ >>= fun d => h ρ >>= fun hi => M.lift (gRevC d hi) := nr rfl
section
variable {X : Cx} {a : Expr} {ta : TE} {ma : ME} {oe : Option Expr} {th : TO} {mh : List Sl → M (Option Int)}
theorem re_revT {K : PySem.W.Frag} {k : Nat} {p1 p2 p3 pos : Pos} (ha : RB X a ta ma) (hh : RO X oe th mh) (hK : X.K = K := by rfl) : RE X (.Subscript a (.Slice none oe (some (.UnaryOp .USub (.Constant (.int 1) k p1) p2)) p3) pos) (tRevT K ta th) (eRevT ma mh) := by
  subst hK
  refine ⟨pe_revT ha.pe hh.po, fun F t0 t1 ρ G H σ d e w Q q => ?_⟩
  obtain ⟨x, t2, e1, e⟩ := bnd_some e
  obtain ⟨hi, t3, e2, e⟩ := bnd_some e
  obtain ⟨f4, rfl⟩ := lift_some e
  refine ha.ev F t0 t2 ρ G H σ x e1 w _ fun v G1 H1 w1 s1 r1 => ?_
  refine hh.ev F t2 _ ρ G1 H1 σ hi e2 w1 _ fun G2 H2 w2 s2 => ?_
  have r2 := r1.mono s2.gg
  have s02 := s1.trans s2
  cases x with
  | tuple xs =>
    unfold gRevC at f4
    dsimp only at f4
    split at f4
    · rename_i hk
      cases f4
      obtain ⟨p, vs, rfl, hp, gp, rp⟩ := r2.tup w2
      refine ⟨p, vs, rfl, SqT.of hp, hk, fun z hz => ?_⟩
      have g0 := sm_none w2.co.sub hz
      exact q _ _ _ (w2.fz hz) (s02.trans (Gw.fz w2 hz)) (.tup upd_same ((rp.drop _).reverse.mono (same_upd g0)))
    · cases f4
  | _ => cases f4
/-- xs[::-1], a list or a tuple -/
def gRevA (d : PyData) : Option PyData := match d with
  | .list xs => some (.list xs.reverse)
  | .tuple xs => some (.tuple xs.reverse)
  | _ => none
theorem pe_or {e : Expr} {t1 t2 : TE} (h1 : PE X e t1) (h2 : PE X e t2) : PE X e (fun σ H Q => t1 σ H Q ∨ t2 σ H Q) :=
  ⟨fun pins s σ H Q I h => h.elim (h1.run pins s σ H Q I) (h2.run pins s σ H Q I)⟩
theorem re_revA {K : PySem.W.Frag} {k : Nat} {p1 p2 p3 pos : Pos} (ha : RB X a ta ma) (hK : X.K = K := by rfl) : RE X (.Subscript a (.Slice none none (some (.UnaryOp .USub (.Constant (.int 1) k p1) p2)) p3) pos) (fun σ H Q => tRevL K ta σ H Q ∨ tRevT K ta tNoPart σ H Q) (e1 gRevA ma) := by
  subst hK
  refine ⟨pe_or (pe_revL ha.pe) (pe_revT ha.pe po_none), fun F t0 t1 ρ G H σ d e w Q q => ?_⟩
  obtain ⟨x, t2, e1, e⟩ := bnd_some e
  obtain ⟨f4, rfl⟩ := lift_some e
  cases x with
  | list xs =>
    cases f4
    refine .inl (((rn_rev (k := k) (p1 := p1) (p2 := p2) (p3 := p3) (pos := pos) ha).ev.f) F t0 _ ρ G H σ (.list xs.reverse) ?_ w Q q)
    show (do let xs ← nRev ma ρ; pure (PyData.list xs) : M PyData) t0 = _
    rw [bnd_ap]
    have : nRev ma ρ t0 = some (xs.reverse, t2) := by
      show (ma ρ >>= fun d => M.lift _) t0 = _
      rw [bnd_ap, e1]
      rfl
    rw [this]
    rfl
  | tuple xs =>
    cases f4
    refine .inr (ha.ev F t0 t2 ρ G H σ (.tuple xs) e1 w _ fun v G1 H1 w1 s1 r1 => ?_)
    obtain ⟨p, vs, rfl, hp, gp, rp⟩ := r1.tup w1
    refine ⟨p, vs, rfl, SqT.of hp, rfl, fun z hz => ?_⟩
    have g0 := sm_none w1.co.sub hz
    refine q _ _ _ (w1.fz hz) (s1.trans (Gw.fz w1 hz)) (.tup upd_same ?_)
    exact rp.reverse.mono (same_upd g0)
  | _ => cases f4
end
theorem v_revAL {xs : List PyData} : gRevA (.list xs) = some (.list xs.reverse) := nr rfl
theorem v_revAT {xs : List PyData} : gRevA (.tuple xs) = some (.tuple xs.reverse) := nr rfl
theorem v_revC0 {xs : List PyData} : gRevC (.tuple xs) (some 0) = some (.tuple (xs.drop 1).reverse) := nr rfl
end DL

set_option maxHeartbeats 1000000
/-! The data layer, part Y: sorted over typed lists; sizes of gcds; whiles. -/
namespace DL
open PySem PySem.W
theorem sortD_map {α : Type} (f : α → PyData) (l : List α) : sortD (l.map f) = (l.mergeSort fun a b => !dataLt (f b) (f a)).map f := by
  unfold sortD
  exact (List.map_mergeSort (r := fun a b => !dataLt (f b) (f a)) (s := dataLe false id) (f := f) (l := l) (fun a _ b _ => rfl)).symm
theorem okSort_map {α : Type} {f : α → PyData} {l : List α} (h1 : ∀ a ∈ l, ∀ b ∈ l, alike (f a) (f b) = true) (h2 : (∀ a ∈ l, isNTup (f a) = true) ∨ (∀ a ∈ l, notNT (f a) = true)) (h3 : ∀ a ∈ l, (f a).depth ≤ 64) (h4 : l.length ≤ 1000000) : okSort (l.map f) = true := by
  unfold okSort
  rw [Bool.and_eq_true, Bool.and_eq_true, Bool.and_eq_true, Bool.or_eq_true]
  refine ⟨⟨⟨?_, ?_⟩, decide_eq_true (depth_mapM l h3)⟩, okLen_of (by rw [List.length_map]; exact h4)⟩
  · rw [List.all_eq_true]
    intro d hd
    obtain ⟨a, ha, rfl⟩ := List.mem_map.mp hd
    rw [List.all_eq_true]
    intro d' hd'
    obtain ⟨b, hb, rfl⟩ := List.mem_map.mp hd'
    exact h1 a ha b hb
  · rcases h2 with h | h
    · refine .inl (List.all_eq_true.mpr fun d hd => ?_)
      obtain ⟨a, ha, rfl⟩ := List.mem_map.mp hd
      exact h a ha
    · refine .inr (List.all_eq_true.mpr fun d hd => ?_)
      obtain ⟨a, ha, rfl⟩ := List.mem_map.mp hd
      exact h a ha
theorem v_sortM {α : Type} {f : α → PyData} {l : List α} (h : okSort (l.map f) = true) : cSortD [.list (l.map f)] = some ((l.mergeSort fun a b => !dataLt (f b) (f a)).map f) := by
  show (if okSort (l.map f) = true then some (sortD (l.map f)) else none) = _
  rw [if_pos h, sortD_map]
def sortI (l : List Int) : List Int := l.mergeSort fun a b => decide (a ≤ b)
theorem v_sortI {l : List Int} (h : l.length ≤ 1000000) : cSortD [.list (l.map PyData.int)] = some ((sortI l).map PyData.int) := by
  rw [v_sortM (okSort_map (fun _ _ _ _ => rfl) (.inr fun _ _ => rfl) (fun _ _ => Nat.zero_le _) h)]
  congr 2
  unfold sortI
  congr 1
  funext a b
  rw [dataLt_int, not_lt_int]
theorem sortI_perm (l : List Int) : (sortI l).Perm l := List.mergeSort_perm _ _
theorem sortI_le (l : List Int) : (sortI l).Pairwise fun a b => a ≤ b := by
  have := List.pairwise_mergeSort (le := fun a b : Int => decide (a ≤ b)) (fun a b c h1 h2 => by simp at *; omega) (fun a b => by simp; omega) l
  exact this.imp fun {a b} h => of_decide_eq_true h
theorem perm_sum {l m : List Int} (h : l.Perm m) : l.sum = m.sum := by
  induction h with
  | nil => rfl
  | cons a _ ih => rw [List.sum_cons, List.sum_cons, ih]
  | swap a b l => simp only [List.sum_cons]; omega
  | trans _ _ h1 h2 => exact h1.trans h2
theorem le_sum {l : List Nat} {a : Nat} (h : a ∈ l) : a ≤ l.sum := by
  induction l with
  | nil => cases h
  | cons b l ih =>
    rw [List.sum_cons]
    rcases List.mem_cons.mp h with rfl | h
    · omega
    · have := ih h; omega
/-- three sorted -/
theorem sortI3 (x y z : Int) : ∃ p q r : Int, sortI [x, y, z] = [p, q, r] ∧ p ≤ q ∧ q ≤ r ∧ p + q + r = x + y + z ∧ (p = x ∨ p = y ∨ p = z) ∧ p ≤ x ∧ p ≤ y ∧ p ≤ z := by
  have hp := sortI_perm [x, y, z]
  have hl := hp.length_eq
  have hs := sortI_le [x, y, z]
  have hsum : (sortI [x, y, z]).sum = [x, y, z].sum := perm_sum hp
  have hm : ∀ u, u ∈ sortI [x, y, z] ↔ u ∈ [x, y, z] := fun u => hp.mem_iff
  match e : sortI [x, y, z], hl, hs with
  | [p, q, r], _, hs =>
    rw [e] at hsum hm
    simp only [List.pairwise_cons, List.mem_cons, List.not_mem_nil, or_false, List.sum_cons, List.sum_nil] at hs hsum
    have h1 := hs.1 q (.inl rfl)
    have h2 := hs.2.1 r rfl
    have hx := (hm x).mpr (by simp)
    have hy := (hm y).mpr (by simp)
    have hz := (hm z).mpr (by simp)
    have hpp := (hm p).mp (by simp)
    simp only [List.mem_cons, List.not_mem_nil, or_false] at hx hy hz hpp
    exact ⟨p, q, r, rfl, h1, h2, by omega, hpp, by omega, by omega, by omega⟩
instance szGcd {a b : Int} {n m : Nat} [ha : Sz a n] [hb : Sz b m] : Sz ((Int.gcd a b : Nat) : Int) (n + m) := ⟨by
  have hn : 2 ^ n ≤ 2 ^ (n + m) := Nat.pow_le_pow_right (by decide) (by omega)
  have hm : 2 ^ m ≤ 2 ^ (n + m) := Nat.pow_le_pow_right (by decide) (by omega)
  have h1 := ha.h
  have h2 := hb.h
  rw [Int.natAbs_natCast]
  by_cases z : b = 0
  · rw [z, Int.gcd_zero_right]; omega
  · have := Nat.le_of_dvd (by omega) (Int.gcd_dvd_natAbs_right a b)
    omega⟩
theorem natD_le {ρ : List Sl} {i : Int} (h : Sl.fz (.int i) ∈ ρ) : i.natAbs + 2 ≤ fuelS ρ := by
  unfold fuelS
  have : natD (.fz (.int i)) ≤ (ρ.map natD).sum := le_sum (List.mem_map_of_mem h)
  have e : natD (.fz (.int i)) = i.natAbs := rfl
  omega
theorem gcd_md (a b : Int) : Int.gcd b (a % b) = Int.gcd a b := by
  rw [Int.emod_def, Int.gcd_sub_right_right_of_dvd a (Int.dvd_mul_right b (a / b)), Int.gcd_comm]
/-! loops, with what is done behind them -/
theorem while_k {c : MB} {b : MS} {α β : Type} {f : Out → M β} {R : M β} {ρ : List Sl} {n : Nat} (st : α → List Sl) (go : α → Bool) (nx : α → α) (μ : α → Nat) (I : α → Prop) (a : α) (hI : I a) (hc : ∀ a, I a → c (st a) = pure (go a)) (hb : ∀ a, I a → go a = true → b (st a) = pure (.nx (st (nx a))) ∧ I (nx a) ∧ μ (nx a) < μ a)
    (hn : μ a < n) (k : ∀ z, I z → go z = false → f (.nx (st z)) = R) (hρ : ρ = st a := by rfl) : (whileGo c b n ρ >>= f) = R := by
  subst hρ
  obtain ⟨z, h1, h2, e, _⟩ := while_eq st go nx μ I hc hb n a hI hn
  rw [e, x_pb]
  exact k z h1 h2
/-- a while whose turn leads to some next state -/
theorem while_ex {c : MB} {b : MS} {α : Type} (st : α → List Sl) (go : α → Bool) (μ : α → Nat) (I : α → Prop) (hc : ∀ a, I a → c (st a) = pure (go a)) (hb : ∀ a, I a → go a = true → ∃ a', b (st a) = pure (.nx (st a')) ∧ I a' ∧ μ a' < μ a) :
    ∀ (n : Nat) (a : α), I a → μ a < n → ∃ z, I z ∧ go z = false ∧ whileGo c b n (st a) = pure (.nx (st z))
  | 0, a, _, h => absurd h (Nat.not_lt_zero _)
  | n + 1, a, hI, h => by
    rw [x_whS, hc a hI, x_pb]
    cases hg : go a with
    | false => exact ⟨a, hI, hg, if_neg (by decide)⟩
    | true =>
      obtain ⟨a', e, hI', hm⟩ := hb a hI hg
      obtain ⟨z, h1, h2, h3⟩ := while_ex st go μ I hc hb n a' hI' (by omega)
      exact ⟨z, h1, h2, by rw [if_pos rfl, e, x_pb, x_loN, h3]⟩
theorem while_r {c : MB} {b : MS} {α β : Type} {f : Out → M β} {R : M β} {ρ : List Sl} {n : Nat} (st : α → List Sl) (go : α → Bool) (μ : α → Nat) (I : α → Prop) (a : α) (hI : I a) (hc : ∀ a, I a → c (st a) = pure (go a)) (hb : ∀ a, I a → go a = true → ∃ a', b (st a) = pure (.nx (st a')) ∧ I a' ∧ μ a' < μ a)
    (hn : μ a < n) (k : ∀ z, I z → go z = false → f (.nx (st z)) = R) (hρ : ρ = st a := by rfl) : (whileGo c b n ρ >>= f) = R := by
  subst hρ
  obtain ⟨z, h1, h2, e⟩ := while_ex st go μ I hc hb n a hI hn
  rw [e, x_pb]
  exact k z h1 h2
theorem for_k {α β γ : Type} {g : MG} {b : MS} {e0 : α → PyData} {f : Out → M γ} {R : M γ} (I : β → List Sl → Prop) (F : β → α → β) (l : List α) (s : β) {ρ : List Sl} (h : I s ρ) (hb : ∀ a ∈ l, ∀ s ρ, I s ρ → ∃ ρ', (M.lift (g (e0 a) ρ) >>= b) = pure (.nx ρ') ∧ I (F s a) ρ')
    (k : ∀ ρ', I (l.foldl F s) ρ' → f (.nx ρ') = R) : (forGo g b (l.map e0) ρ >>= f) = R := by
  obtain ⟨ρ', e, h'⟩ := for_pure (e0 := e0) I F l s ρ hb h
  rw [e, x_pb]
  exact k ρ' h'
theorem any_k {α γ : Type} {g : MG} {b : MS} {e0 : α → PyData} {f : Out → M γ} {R : M γ} (I : List Sl → Prop) (bad : α → Bool) (V : PyData) (l : List α) {ρ : List Sl} (h : I ρ) (hb : ∀ a ∈ l, ∀ ρ, I ρ → ∃ ρ', I ρ' ∧ (M.lift (g (e0 a) ρ) >>= b) = if bad a = true then pure (.rt V) else pure (.nx ρ'))
    (k1 : l.any bad = true → f (.rt V) = R) (k2 : l.any bad = false → ∀ ρ', I ρ' → f (.nx ρ') = R) : (forGo g b (l.map e0) ρ >>= f) = R := by
  obtain ⟨ρ', h', e⟩ := for_any (e0 := e0) I bad V l ρ hb h
  rw [e]
  cases hl : l.any bad with
  | true => rw [if_pos rfl, x_pb]; exact k1 hl
  | false => rw [if_neg (by decide), x_pb]; exact k2 hl ρ' h'
/-- a loop with draws, over a typed list -/
theorem Gv.forT {kd c e : Nat} {α β γ : Type} {mg : MG} {b : MS} {e0 : α → PyData} {f : Out → M γ} {Q : γ → Prop} (I : β → List Sl → Prop) (F : β → α → β → Prop) (l : List α) (s : β) {ρ : List Sl} (h : I s ρ) (hb : ∀ a ∈ l, ∀ s ρ, I s ρ → Gv kd (M.lift (mg (e0 a) ρ) >>= b) c fun o => ∃ s' ρ', o = .nx ρ' ∧ I s' ρ')
    (k : ∀ s' ρ', I s' ρ' → Gv kd (f (.nx ρ')) (e - l.length * c) Q) (he : l.length * c ≤ e := by decide) : Gv kd (forGo mg b (l.map e0) ρ >>= f) e Q := by
  refine Gv.step (c := l.length * c) (P := fun o => ∃ s' ρ', o = .nx ρ' ∧ I s' ρ') ?_ (fun o ⟨s', ρ', eo, hI⟩ => eo ▸ k s' ρ' hI) he
  have := Gv.for (kd := kd) (c := c) (mg := mg) (b := b) (fun ρ => ∃ s, I s ρ) (l.map e0) ρ (fun d hd ρ ⟨s, hs⟩ => by
    obtain ⟨a, ha, rfl⟩ := List.mem_map.mp hd
    exact Gv.imp (hb a ha s ρ hs) fun o ⟨s', ρ', eo, hI⟩ => ⟨ρ', eo, s', hI⟩) ⟨s, h⟩
  rw [List.length_map] at this
  exact Gv.imp this fun o ⟨ρ', eo, s', hI⟩ => ⟨s', ρ', eo, hI⟩
/-! slices -/
theorem v_dropL {xs : List PyData} {i : Int} (h : 0 ≤ i) : gCut (.list xs) (some i) none = some (.list (xs.drop i.toNat)) := by
  have := v_cutDropL (xs := xs) (k := i.toNat)
  rwa [Int.toNat_of_nonneg h] at this
theorem v_dropT {xs : List PyData} {i : Int} (h : 0 ≤ i) : gCut (.tuple xs) (some i) none = some (.tuple (xs.drop i.toNat)) := by
  have := v_cutDropT (xs := xs) (k := i.toNat)
  rwa [Int.toNat_of_nonneg h] at this
theorem cutD_take {xs : List PyData} {k : Nat} : cutD xs none (some (k : Int)) = xs.take k := by
  unfold cutD
  rw [HT.sIx_nat, HT.sIx_none, List.drop_zero, Nat.sub_zero]
  by_cases h : k ≤ xs.length
  · rw [Nat.min_eq_left h]
  · rw [Nat.min_eq_right (by omega), List.take_length, List.take_of_length_le (by omega)]
theorem v_takeL {xs : List PyData} {i : Int} (h : 0 ≤ i) : gCut (.list xs) none (some i) = some (.list (xs.take i.toNat)) := by
  have : cutD xs none (some ((i.toNat : Nat) : Int)) = _ := cutD_take
  rw [Int.toNat_of_nonneg h] at this
  show some (PyData.list (cutD xs none (some i))) = _
  rw [this]
theorem v_takeT {xs : List PyData} {i : Int} (h : 0 ≤ i) : gCut (.tuple xs) none (some i) = some (.tuple (xs.take i.toNat)) := by
  have : cutD xs none (some ((i.toNat : Nat) : Int)) = _ := cutD_take
  rw [Int.toNat_of_nonneg h] at this
  show some (PyData.tuple (cutD xs none (some i))) = _
  rw [this]
theorem cutD_last {xs : List PyData} : cutD xs none (some (-1)) = xs.dropLast := by
  unfold cutD
  rw [HT.sIx_none, List.drop_zero, Nat.sub_zero, List.dropLast_eq_take]
  congr 1
  show (if (-1 : Int) < 0 then ((-1 : Int) + (xs.length : Int)).toNat else min (-1 : Int).toNat xs.length) = _
  rw [if_pos (by decide)]
  omega
theorem v_lastL {xs : List PyData} : gCut (.list xs) none (some (-1)) = some (.list xs.dropLast) := by
  show some (PyData.list (cutD xs none (some (-1)))) = _
  rw [cutD_last]
theorem v_lastT {xs : List PyData} : gCut (.tuple xs) none (some (-1)) = some (.tuple xs.dropLast) := by
  show some (PyData.tuple (cutD xs none (some (-1)))) = _
  rw [cutD_last]
/-- a list of things that are all of a kind -/
theorem lift_list {α β : Type} {f : β → α} {P : β → Prop} : ∀ l : List α, (∀ a ∈ l, ∃ b, f b = a ∧ P b) → ∃ m : List β, m.map f = l ∧ ∀ b ∈ m, P b
  | [], _ => ⟨[], rfl, by simp⟩
  | a :: l, h => by
    obtain ⟨b, e, p⟩ := h a (by simp)
    obtain ⟨m, e', p'⟩ := lift_list l fun c hc => h c (List.mem_cons_of_mem _ hc)
    refine ⟨b :: m, by rw [List.map_cons, e, e'], fun c hc => ?_⟩
    rcases List.mem_cons.mp hc with rfl | hc
    · exact p
    · exact p' c hc
theorem x_rng1c {ρ : List Sl} {i : Int} (h : okRg i = true) : nCal rng1 (lCons (eC (.int i)) lNil) ρ = pure (rgD 0 i.toNat) := by
  rw [x_nCal, x_lCons, x_eC, x_pb, x_lNil, x_pb, x_pb, v_rng1 h, x_ls]
/-- loops in a Gv goal: the state is kept by I, every turn goes on -/
theorem Gv.forL {kd c n : Nat} {α : Type} {mg : MG} {b : MS} {e0 : α → PyData} {P : Out → Prop} (I : List Sl → Prop) (l : List α) {ρ : List Sl} (h : I ρ) (hb : ∀ a ∈ l, ∀ ρ, I ρ → Gv kd (M.lift (mg (e0 a) ρ) >>= b) c fun o => ∃ ρ', o = .nx ρ' ∧ I ρ')
    (k : ∀ ρ', I ρ' → P (.nx ρ')) (he : l.length * c ≤ n) : Gv kd (forGo mg b (l.map e0) ρ) n P := by
  have := Gv.for (kd := kd) (c := c) (mg := mg) (b := b) I (l.map e0) ρ (fun d hd ρ hs => by
    obtain ⟨a, ha, rfl⟩ := List.mem_map.mp hd
    exact hb a ha ρ hs) h
  rw [List.length_map] at this
  exact Gv.mono this he fun o ⟨ρ', eo, hI⟩ => eo ▸ k ρ' hI
theorem Gv.forB {kd c n : Nat} {α γ : Type} {mg : MG} {b : MS} {e0 : α → PyData} {f : Out → M γ} {Q : γ → Prop} (I : List Sl → Prop) (l : List α) {ρ : List Sl} (h : I ρ) (hb : ∀ a ∈ l, ∀ ρ, I ρ → Gv kd (M.lift (mg (e0 a) ρ) >>= b) c fun o => ∃ ρ', o = .nx ρ' ∧ I ρ')
    (he : l.length * c ≤ n) (k : ∀ ρ', I ρ' → Gv kd (f (.nx ρ')) (n - l.length * c) Q) : Gv kd (forGo mg b (l.map e0) ρ >>= f) n Q :=
  Gv.step (c := l.length * c) (P := fun o => ∃ ρ', o = .nx ρ' ∧ I ρ') (Gv.forL I l h hb (fun ρ' h' => ⟨ρ', rfl, h'⟩) (Nat.le_refl _)) (fun o ⟨ρ', eo, hI⟩ => eo ▸ k ρ' hI) he
theorem Gv.forR {kd c n : Nat} {γ : Type} {mg : MG} {b : MS} {f : Out → M γ} {Q : γ → Prop} (I : List Sl → Prop) (lo : Int) (m : Nat) {ρ : List Sl} (h : I ρ) (hb : ∀ i : Nat, i < m → ∀ ρ, I ρ → Gv kd (M.lift (mg (.int (lo + i)) ρ) >>= b) c fun o => ∃ ρ', o = .nx ρ' ∧ I ρ')
    (he : m * c ≤ n) (k : ∀ ρ', I ρ' → Gv kd (f (.nx ρ')) (n - m * c) Q) : Gv kd (forGo mg b (rgD lo m) ρ >>= f) n Q := by
  rw [rgD_range]
  have e : (List.range m).length = m := List.length_range
  refine Gv.forB I (List.range m) h (fun i hi ρ hρ => hb i (List.mem_range.mp hi) ρ hρ) (by rw [e]; exact he) fun ρ' h' => ?_
  rw [e]
  exact k ρ' h'
theorem v_any3 {x y z : Bool} : cAny [.list [.bool x, .bool y, .bool z]] = some (.bool (x || (y || z))) := by
  have := cAny_map [x, y, z]
  simp only [List.map_cons, List.map_nil, List.any_cons, List.any_nil, id, Bool.or_false] at this
  exact this
theorem v_atm1 {x y z : PyData} : L2.atI [x, y, z] (-1) = some z := nr rfl
theorem v_atm2 {x y z : PyData} : L2.atI [x, y, z] (-2) = some y := nr rfl
theorem v_atm3 {x y z : PyData} : L2.atI [x, y, z] (-3) = some x := nr rfl
theorem x_sPop {ρ : List Sl} (i : Nat) : sPop i ρ = M.lift (owOf ρ i) >>= fun xs => if xs.isEmpty then M.fail else pure (.nx (ρ.set i (.ow xs.dropLast))) := nr rfl
theorem v_atL1 {l : List PyData} {y : PyData} : L2.atI (l ++ [y]) (-1) = some y := by
  unfold L2.atI L2.ixN
  rw [if_neg (by decide), if_pos (by simp; omega)]
  show (l ++ [y])[((-1 : Int) + ((l ++ [y]).length : Int)).toNat]? = _
  rw [List.length_append, List.length_singleton, show ((-1 : Int) + ((l.length + 1 : Nat) : Int)).toNat = l.length by omega]
  simp
theorem v_atL2 {l : List PyData} {x y : PyData} : L2.atI (l ++ [x, y]) (-2) = some x := by
  unfold L2.atI L2.ixN
  rw [if_neg (by decide), if_pos (by simp; omega)]
  show (l ++ [x, y])[((-2 : Int) + ((l ++ [x, y]).length : Int)).toNat]? = _
  rw [List.length_append, show [x, y].length = 2 from rfl, show ((-2 : Int) + ((l.length + 2 : Nat) : Int)).toNat = l.length by omega]
  simp
theorem v_atN {l : List PyData} {i : Int} {n : Nat} {d : PyData} (h : i = n) (hd : l[n]? = some d) : L2.atI l i = some d := by rw [h, v_at, hd]
theorem v_sumI (l : List Int) : cSum [.list (l.map PyData.int)] = some (.int l.sum) := by
  have : ∀ l : List Int, intsOf (l.map PyData.int) = some l := fun l => by
    induction l with
    | nil => rfl
    | cons a l ih => rw [List.map_cons, intsOf, ih]; rfl
  show (intsOf (l.map PyData.int)).map _ = _
  rw [this]
  rfl
theorem for_ix {α : Type} {g : MG} {b : MS} {e0 : α → PyData} (I : Nat → List Sl → Prop) : ∀ (l : List α) (j : Nat) (ρ : List Sl), (∀ k a, l[k]? = some a → ∀ ρ, I (j + k) ρ → ∃ ρ', (M.lift (g (e0 a) ρ) >>= b) = pure (.nx ρ') ∧ I (j + k + 1) ρ') → I j ρ →
    ∃ ρ', forGo g b (l.map e0) ρ = pure (.nx ρ') ∧ I (j + l.length) ρ'
  | [], j, ρ, _, h => ⟨ρ, rfl, h⟩
  | a :: l, j, ρ, hb, h => by
    obtain ⟨ρ1, e1, h1⟩ := hb 0 a rfl ρ h
    obtain ⟨ρ2, e2, h2⟩ := for_ix I l (j + 1) ρ1 (fun k a' ha ρ hρ => by
      have := hb (k + 1) a' (by simpa using ha) ρ (by rw [show j + (k + 1) = j + 1 + k by omega]; exact hρ)
      rwa [show j + (k + 1) + 1 = j + 1 + k + 1 by omega] at this) h1
    exact ⟨ρ2, by rw [List.map_cons, x_forC, ← x_ba, e1, x_pb, x_loN, e2], by rw [List.length_cons, show j + (l.length + 1) = j + 1 + l.length by omega]; exact h2⟩
theorem for_ik {α γ : Type} {g : MG} {b : MS} {e0 : α → PyData} {f : Out → M γ} {R : M γ} (I : Nat → List Sl → Prop) (l : List α) {ρ : List Sl} (h : I 0 ρ) (hb : ∀ k a, l[k]? = some a → ∀ ρ, I k ρ → ∃ ρ', (M.lift (g (e0 a) ρ) >>= b) = pure (.nx ρ') ∧ I (k + 1) ρ')
    (k : ∀ ρ', I l.length ρ' → f (.nx ρ') = R) : (forGo g b (l.map e0) ρ >>= f) = R := by
  obtain ⟨ρ', e, h'⟩ := for_ix (e0 := e0) I l 0 ρ (fun k a ha ρ hρ => by rw [Nat.zero_add] at hρ ⊢; exact hb k a ha ρ hρ) h
  rw [Nat.zero_add] at h'
  rw [e, x_pb]
  exact k ρ' h'
/-- a turn may return R a -/
theorem for_find {α : Type} {g : MG} {b : MS} {e0 : α → PyData} (I : List Sl → Prop) (good : α → Bool) (V : α → PyData) : ∀ (l : List α) (ρ : List Sl), (∀ a ∈ l, ∀ ρ, I ρ → ∃ ρ', I ρ' ∧ (M.lift (g (e0 a) ρ) >>= b) = if good a = true then pure (.rt (V a)) else pure (.nx ρ')) → I ρ →
    ∃ ρ', I ρ' ∧ forGo g b (l.map e0) ρ = match l.find? good with | some a => pure (.rt (V a)) | none => pure (.nx ρ')
  | [], ρ, _, h => ⟨ρ, h, rfl⟩
  | a :: l, ρ, hb, h => by
    obtain ⟨ρ1, h1, e1⟩ := hb a (by simp) ρ h
    obtain ⟨ρ2, h2, e2⟩ := for_find I good V l ρ1 (fun a' ha => hb a' (List.mem_cons_of_mem _ ha)) h1
    refine ⟨ρ2, h2, ?_⟩
    rw [List.map_cons, x_forC, ← x_ba, e1, List.find?_cons]
    cases good a with
    | true => rw [if_pos rfl, x_pb, x_loR]
    | false => rw [if_neg (by decide), x_pb, x_loN, e2]
theorem find_k {α γ : Type} {g : MG} {b : MS} {e0 : α → PyData} {f : Out → M γ} {R : M γ} (I : List Sl → Prop) (good : α → Bool) (V : α → PyData) (l : List α) {ρ : List Sl} (h : I ρ) (hb : ∀ a ∈ l, ∀ ρ, I ρ → ∃ ρ', I ρ' ∧ (M.lift (g (e0 a) ρ) >>= b) = if good a = true then pure (.rt (V a)) else pure (.nx ρ'))
    (k1 : ∀ a, l.find? good = some a → f (.rt (V a)) = R) (k2 : l.find? good = none → ∀ ρ', I ρ' → f (.nx ρ') = R) : (forGo g b (l.map e0) ρ >>= f) = R := by
  obtain ⟨ρ', h', e⟩ := for_find (e0 := e0) I good V l ρ hb h
  rw [e]
  cases hl : l.find? good with
  | some a => exact k1 a hl
  | none => exact k2 hl ρ' h'
/-- the first turns go on -/
theorem for_pre {α : Type} {g : MG} {b : MS} {e0 : α → PyData} (I : Nat → List Sl → Prop) (ys : List PyData) : ∀ (l : List α) (j : Nat) (ρ : List Sl), (∀ k a, l[k]? = some a → ∀ ρ, I (j + k) ρ → ∃ ρ', (M.lift (g (e0 a) ρ) >>= b) = pure (.nx ρ') ∧ I (j + k + 1) ρ') → I j ρ →
    ∃ ρ', forGo g b (l.map e0 ++ ys) ρ = forGo g b ys ρ' ∧ I (j + l.length) ρ'
  | [], j, ρ, _, h => ⟨ρ, rfl, h⟩
  | a :: l, j, ρ, hb, h => by
    obtain ⟨ρ1, e1, h1⟩ := hb 0 a rfl ρ h
    obtain ⟨ρ2, e2, h2⟩ := for_pre I ys l (j + 1) ρ1 (fun k a' ha ρ hρ => by
      have := hb (k + 1) a' (by simpa using ha) ρ (by rw [show j + (k + 1) = j + 1 + k by omega]; exact hρ)
      rwa [show j + (k + 1) + 1 = j + 1 + k + 1 by omega] at this) h1
    exact ⟨ρ2, by rw [List.map_cons, List.cons_append, x_forC, ← x_ba, e1, x_pb, x_loN, e2], by rw [List.length_cons, show j + (l.length + 1) = j + 1 + l.length by omega]; exact h2⟩
theorem rgD_app (lo : Int) : ∀ (n m : Nat), rgD lo (n + m) = rgD lo n ++ rgD (lo + n) m
  | 0, m => by rw [Nat.zero_add, show lo + ((0 : Nat) : Int) = lo by omega]; rfl
  | n + 1, m => by
    rw [show n + 1 + m = (n + m) + 1 by omega, rgD, rgD, rgD_app (lo + 1) n m, List.cons_append, show lo + 1 + (n : Int) = lo + ((n + 1 : Nat) : Int) by omega]
end DL

set_option maxHeartbeats 1000000
/-! The data layer, part Z: l.index(x) of a list. -/
namespace DL
open PySem PySem.Spec PyProof.Rows L2
def gIndex : PyData → PyData → Option PyData
  | .list ds, d => if SeqAt.shaped (.list ds) && SeqAt.shaped d then (ds.findIdx? fun z => PyData.eqv z d).map fun j => .int (j : Nat) else none
  | _, _ => none
section
variable {X : Cx} {o e : Expr} {to te : TE} {mo me : ME} {apos cpos : Pos}
theorem re_index {k : Nat} {K : PySem.W.Frag} (hr : Room k X.A) (ho : RB X o to mo) (h : RB X e te me) (hK : X.K = K := by rfl)
    (hbase : attributeBase o "index" X.env (eval o X.env) = eval o X.env := by rfl)
    (hfew : ((backTo cpos (starEach [e] X.env)).all (fun x => !x.1) && (backToKw cpos (keywordEach [] X.env)).all (fun x => x.1.isSome) && decide ([e].length + ([] : List Keyword).length + (if ([] : List Keyword).isEmpty then 0 else 1) < 30)) = true := by rfl)
    (hline : (apos.endLine == cpos.line) = true := by rfl) (hst : starEach [e] X.env = (false, eval e X.env) :: starEach [] X.env := by rfl) (hpl : (backTo cpos (starEach [] X.env)).any (·.1) = false := by rfl) :
    RE X (.Call (.Attribute o "index" apos) [e] [] cpos) (tBM K "list" (rIndexD K) to (tCons te tNil)) (e2 gIndex mo me) := by
  subst hK
  have un := hr.un
  refine ⟨pe_bm PySem.F.plainAttrs_list PySem.F.slot_list_index PySem.F.type_list_index (mt_indexD (by omega)) ho.pe (pa_cons h.pe pa_nil hst) hbase hfew hline hst hpl, fun F t0 t1 ρ G H σ d e w Q q => ?_⟩
  obtain ⟨x, t2, e1, e⟩ := bnd_some e
  obtain ⟨y, t3, e2, e⟩ := bnd_some e
  obtain ⟨f4, rfl⟩ := lift_some e
  refine ho.ev F t0 t2 ρ G H σ x e1 w _ fun v G1 H1 w1 s1 r1 => ?_
  cases x with
  | list ds =>
    unfold gIndex at f4
    dsimp only at f4
    split at f4
    · rename_i hc
      rw [Bool.and_eq_true] at hc
      obtain ⟨j, hj, rfl⟩ := Option.map_eq_some_iff.mp f4
      obtain ⟨p, vs, rfl, hp, rp⟩ := r1.lst w1
      refine ⟨.inl ⟨rfl, vs, SqL.of hp⟩, ?_⟩
      refine h.ev F t2 _ ρ G1 H1 σ y e2 w1 _ fun u G2 H2 w2 s2 r2 => ?_
      have r12 := r1.mono s2.gg
      obtain ⟨hlt, h1, h2⟩ := List.findIdx?_eq_some_iff_getElem.mp hj
      refine ⟨p, u, y, ds, j, ds[j], rfl, rfl, (r12.rp w2).dp, (r2.rp w2).dp, hc.1, hc.2, List.getElem?_eq_getElem hlt, h1, fun m z' hm hz' => ?_, q _ G2 H2 w2 (s1.trans s2) (.int _)⟩
      obtain ⟨hm', rfl⟩ := List.getElem?_eq_some_iff.mp hz'
      have := h2 m hm
      simpa using this
    · cases f4
  | _ => cases f4
end
theorem v_index {α : Type} {f : α → PyData} {l : List α} {d : PyData} {j : Nat} (h1 : SeqAt.shaped (.list (l.map f)) = true) (h2 : SeqAt.shaped d = true) (hj : l.findIdx? (fun a => PyData.eqv (f a) d) = some j) : gIndex (.list (l.map f)) d = some (.int (j : Nat)) := by
  show (if SeqAt.shaped (.list (l.map f)) && SeqAt.shaped d then ((l.map f).findIdx? fun z => PyData.eqv z d).map fun j => PyData.int (j : Nat) else none) = _
  rw [h1, h2, List.findIdx?_map, show ((fun z => PyData.eqv z d) ∘ f) = fun a => PyData.eqv (f a) d from rfl, hj]
  rfl
/-! typed looks -/
theorem v_isTL {r : List PyData} : gIsi .tuple (.list r) = some (.bool false) := nr rfl
theorem v_isTI {i : Int} : gIsi .tuple (.int i) = some (.bool false) := nr rfl
theorem mem_vals {p : BP} {l : List BP} : p.1 ∈ l.map (·.1) ↔ p ∈ l := by
  constructor
  · intro h
    obtain ⟨q, hq, e⟩ := List.mem_map.mp h
    rw [← Subtype.ext e]
    exact hq
  · exact fun h => List.mem_map_of_mem h
theorem v_inTB (p : BP) (l : List BP) : gInX (ptB p) (.tuple (l.map ptB)) = some (.bool (decide (p ∈ l))) := by
  have := v_inT p.1 (l.map (·.1))
  rw [ptB_map] at this
  rw [this, decide_eq_decide.mpr mem_vals]
theorem v_inLB (p : BP) (l : List BP) : gInX (ptB p) (.list (l.map ptB)) = some (.bool (decide (p ∈ l))) := by
  have := v_inL p.1 (l.map (·.1))
  rw [ptB_map] at this
  rw [this, decide_eq_decide.mpr mem_vals]
theorem cAll_map (bs : List Bool) : cAll [.list (bs.map PyData.bool)] = some (.bool (bs.all id)) := by
  show (boolsOf (bs.map PyData.bool)).map _ = _
  rw [boolsOf_map]
  rfl
theorem v_all2 {x y : Bool} : cAll [.list [.bool x, .bool y]] = some (.bool (x && y)) := by
  have := cAll_map [x, y]
  simp only [List.map_cons, List.map_nil, List.all_cons, List.all_nil, id, Bool.and_true] at this
  exact this
theorem v_all3 {x y z : Bool} : cAll [.list [.bool x, .bool y, .bool z]] = some (.bool (x && (y && z))) := by
  have := cAll_map [x, y, z]
  simp only [List.map_cons, List.map_nil, List.all_cons, List.all_nil, id, Bool.and_true] at this
  exact this
theorem v_anyM {α : Type} (f : α → Bool) (l : List α) : cAny [.list (l.map fun a => PyData.bool (f a))] = some (.bool (l.any f)) := by
  have := cAny_map (l.map f)
  rw [List.map_map, List.any_map] at this
  exact this
theorem v_allM {α : Type} (f : α → Bool) (l : List α) : cAll [.list (l.map fun a => PyData.bool (f a))] = some (.bool (l.all f)) := by
  have := cAll_map (l.map f)
  rw [List.map_map, List.all_map] at this
  exact this
theorem v_ltB (a b : BP) : gLtD (ptB a) (ptB b) = some (.bool (lx a.1 b.1)) := v_ltDP
theorem nc0 : ((0 : Nat) : Int) = 0 := nr rfl
theorem nc1 : ((1 : Nat) : Int) = 1 := nr rfl
theorem nc2 : ((2 : Nat) : Int) = 2 := nr rfl
theorem nc3 : ((3 : Nat) : Int) = 3 := nr rfl
theorem nc4 : ((4 : Nat) : Int) = 4 := nr rfl
theorem nc5 : ((5 : Nat) : Int) = 5 := nr rfl
theorem nc6 : ((6 : Nat) : Int) = 6 := nr rfl
theorem x_pbool {c x y : Bool} : (if c = true then PyData.bool x else PyData.bool y) = PyData.bool (if c = true then x else y) := by cases c <;> rfl
theorem x_pint {c : Bool} {x y : Int} : (if c = true then PyData.int x else PyData.int y) = PyData.int (if c = true then x else y) := by cases c <;> rfl
/-- a loop without draws, its end state told -/
theorem for_ie {α : Type} {g : MG} {b : MS} {e0 : α → PyData} {J : List Sl → Prop} {ρ : List Sl} (I : Nat → List Sl → Prop) (l : List α) (h : I 0 ρ) (hb : ∀ k a, l[k]? = some a → ∀ ρ, I k ρ → ∃ ρ', (M.lift (g (e0 a) ρ) >>= b) = pure (.nx ρ') ∧ I (k + 1) ρ')
    (k : ∀ ρ', I l.length ρ' → J ρ') : ∃ ρ', forGo g b (l.map e0) ρ = pure (.nx ρ') ∧ J ρ' := by
  obtain ⟨ρ', e, h'⟩ := for_ix (e0 := e0) I l 0 ρ (fun k a ha ρ hρ => by rw [Nat.zero_add] at hρ ⊢; exact hb k a ha ρ hρ) h
  rw [Nat.zero_add] at h'
  exact ⟨ρ', e, k ρ' h'⟩
theorem for_le {α : Type} {g : MG} {b : MS} {e0 : α → PyData} {J : List Sl → Prop} {ρ : List Sl} (I : List Sl → Prop) (l : List α) (h : I ρ) (hb : ∀ a ∈ l, ∀ ρ, I ρ → ∃ ρ', (M.lift (g (e0 a) ρ) >>= b) = pure (.nx ρ') ∧ I ρ')
    (k : ∀ ρ', I ρ' → J ρ') : ∃ ρ', forGo g b (l.map e0) ρ = pure (.nx ρ') ∧ J ρ' :=
  for_ie (fun _ => I) l h (fun k a ha ρ hρ => hb a (List.mem_of_getElem? ha) ρ hρ) k
theorem range_at {n k i : Nat} (h : (List.range n)[k]? = some i) : i = k ∧ k < n := by
  obtain ⟨hk, e⟩ := List.getElem?_eq_some_iff.mp h
  rw [List.length_range] at hk
  rw [List.getElem_range] at e
  exact ⟨e.symm, hk⟩
theorem okRgN {n : Int} (h0 : 0 ≤ n) (h1 : n ≤ 100000) : okRg n = true := by unfold okRg; rw [Bool.and_eq_true]; exact ⟨decide_eq_true (by omega), decide_eq_true (by omega)⟩
/-! str(i) -/
def cStr : List PyData → Option PyData
  | [.int i] => if i.natAbs < 2 ^ 690 then some (.str (toString i)) else none
  | _ => none
theorem k_str : Cal (fun xs H Q => ∃ i : Int, xs = [V.int i] ∧ i.natAbs.log2 < 1920 ∧ Q (.str (toString i)) H) cStr := fun F t ρ G H σ vs ds c e w hx Q q => by
  unfold cStr at e
  split at e
  · rename_i i
    split at e
    · rename_i hi
      cases e
      cases hx with
      | cons h r =>
        cases r
        refine ⟨i, ?_, ?_, q _ G H w Gw.refl (.str _)⟩
        · rw [h.int]
        · have := int_log (i := i) hi
          omega
    · cases e
  · cases e
/-- a def that comes to nothing -/
theorem fnG_fail {P : Program} {w : World} {K : PySem.W.Frag} {mg : Str → Option Value} {base : Heap} {k : Nat} {f : Addr} {x qual : Str} {st : Stmt} {fd : FuncData} {N ps : List Str} (F : Fun K x qual st f fd) (S : FnScope N ps (defScope st)) : FnG P w K mg base CX0 (k + 1) f fd ps (spD fun _ => M.fail) := by
  refine fnG_of F S (fun vs H Q E h => ?_) fun cdv B ou s0 H vs Q E hr hG h => ?_
  · obtain ⟨T, t0, t1, G, as, d, e, _⟩ := h
    exact (fail_some e).elim
  · obtain ⟨T, t0, t1, G, as, d, e, _⟩ := h
    exact (fail_some e).elim
/-! (..) * k -/
def gRepT : PyData → PyData → Option PyData
  | .tuple (x :: xs), .int k => if 2 ≤ k ∧ k ≤ 1000 ∧ (x :: xs).length ≤ 1000 then some (.tuple (List.replicate k.toNat (x :: xs)).flatten) else none
  | _, _ => none
theorem RpA.rep {G : Hp} {vs : List V} {ds : List PyData} (r : RpA G vs ds) : ∀ n : Nat, RpA G (List.replicate n vs).flatten (List.replicate n ds).flatten
  | 0 => .nil
  | n + 1 => by
    rw [List.replicate_succ, List.replicate_succ, List.flatten_cons, List.flatten_cons]
    exact r.append (RpA.rep r n)
theorem o_repT {K : PySem.W.Frag} : Op2 (rRepT K) gRepT := fun F t ρ G H σ x y a b c e w hx hy Q q => by
  unfold gRepT at e
  split at e
  · rename_i x0 xs k
    split at e
    · rename_i hz
      cases e
      obtain ⟨p, vs, rfl, hp, gp, rp⟩ := hx.tup w
      refine ⟨p, k, vs, rfl, hy.int, SqT.of hp, fun z => ?_, hz.1, hz.2.1, by rw [rp.length]; exact hz.2.2, fun p1 hz' => ?_⟩
      · rw [z] at rp
        cases rp
      · have g0 := sm_none w.co.sub hz'
        exact q _ _ _ (w.fz hz') (Gw.fz w hz') (.tup upd_same ((rp.rep _).mono (same_upd g0)))
    · cases e
  · cases e
theorem re_repT {X : Cx} {a b : Expr} {ta tb : TE} {ma mb : ME} {pos : Pos} {K : PySem.W.Frag} (ha : RB X a ta ma) (hb : RB X b tb mb) (hK : X.K = K := by rfl) : RE X (.BinOp a .Mult b pos) (tOp (rRepT K) ta tb) (e2 gRepT ma mb) := by
  subst hK
  exact re_bin op_repT o_repT ha hb
end DL

set_option maxHeartbeats 1000000
/-! The data layer, part 1: a sum of two lists as a new list that a slot may own. -/
namespace DL
open PySem PySem.Spec PyProof.Rows L2
def nCat (ma mb : ME) : ML := fun ρ => do
  let a ← ma ρ
  let b ← mb ρ
  M.lift (match a, b with
    | .list xs, .list ys => if okLen (xs.length + ys.length) then some (xs ++ ys) else none
    | _, _ => none)
theorem rn_cat {X : Cx} {a b : Expr} {ta tb : TE} {ma mb : ME} {pos : Pos} (ha : RB X a ta ma) (hb : RB X b tb mb) : RN X (.BinOp a .Add b pos) (tOp rCat ta tb) (nCat ma mb) :=
  ⟨pe_op op_cat ha.pe hb.pe, fun F t0 t1 ρ G H σ d e w Q q => by
    obtain ⟨x, t2, e1, e⟩ := bnd_some e
    obtain ⟨y, t3, e2, e⟩ := bnd_some e
    obtain ⟨f4, rfl⟩ := lift_some e
    refine ha.ev F t0 t2 ρ G H σ x e1 w _ fun v G1 H1 w1 s1 r1 => ?_
    refine hb.ev F t2 _ ρ G1 H1 σ y e2 w1 _ fun u G2 H2 w2 s2 r2 => ?_
    have r3 := r1.mono s2.gg
    have s02 := s1.trans s2
    split at f4
    · rename_i xs ys
      split at f4
      · rename_i hz0
        cases f4
        obtain ⟨p, vs, rfl, hp, rp⟩ := r3.lst w2
        obtain ⟨p', us, rfl, hp', rp'⟩ := r2.lst w2
        refine ⟨p, p', vs, us, rfl, rfl, hp, hp', by rw [rp.length, rp'.length]; exact okLen_le hz0, fun z hz => ?_⟩
        obtain ⟨w4, o4, n4⟩ := w2.newL hz (rp.append rp')
        exact q z G2 _ w4 (s02.trans (Gw.raw hz)) ⟨o4, n4⟩ (kp_none w s02 hz (w2.co.T_ne hz))
      · cases f4
    · cases f4⟩
theorem x_nCat {ma mb : ME} {ρ : List Sl} : nCat ma mb ρ = (ma ρ >>= fun a => mb ρ >>= fun b => M.lift (match a, b with
    | .list xs, .list ys => if okLen (xs.length + ys.length) then some (xs ++ ys) else none
    | _, _ => none)) := rfl
def gCatN : PyData → PyData → Option (List PyData)
  | .list xs, .list ys => if okLen (xs.length + ys.length) then some (xs ++ ys) else none
  | _, _ => none
theorem x_nCatG {ma mb : ME} {ρ : List Sl} : nCat ma mb ρ = (ma ρ >>= fun a => mb ρ >>= fun b => M.lift (gCatN a b)) := by
  rw [x_nCat]
  refine congrArg _ (funext fun a => congrArg _ (funext fun b => ?_))
  cases a <;> cases b <;> rfl
theorem v_catN {xs ys : List PyData} (h : okLen (xs.length + ys.length) = true) : gCatN (.list xs) (.list ys) = some (xs ++ ys) := if_pos h
end DL

set_option maxHeartbeats 3200000
/-! The data layer, part 2: min(t), sorted(set(t)) for a tuple t. -/
namespace L2
open PySem PySem.Spec PyProof.Rows
section
variable {P : Program} {w : World} {A : Around} {E : Value → Shared → Prop} {s : Shared}
/-- an empty set, as it is laid -/
abbrev bareSet (w : World) : Obj := { cls := .type "set", dict := none, data := .set #[] 0 (.fresh 0 0 (!w.params.followText "set-order")) }
/-- set(t), t a tuple of tuples of ints: the road of the given set(xs), the walk that over a tuple -/
theorem set_of_tuple {l : Addr} {items : Array Value} (ks : List (Addr × List Int)) {Q : Value → Shared → Prop} (hh : A.handled = none) (hl : s.heap.IsTuple l items) (hit : items.toList = ks.map fun p => Value.ref p.1)
    (hk : ∀ p ∈ ks, IsT P w s.heap p.2 p.1) (hfew : ks.length < 64) (hu : A.units + 3 < cLine)
    (h : ∀ (h' : Heap) (tk : Nat) L es ep t, SetTR P w h' s.heap.objs.size L es ep t → Got ks ks.length L → (∀ b o, s.heap.get? b = some o → h'.get? b = some o) → Q (.ref s.heap.objs.size) { s with heap := h', toks := tk }) :
    wpAny (model P w) A (call (.type "set") [.ref l]) Q E s := by
  have n0 : items.size = ks.length := by
    rw [← Array.length_toList, hit, List.length_map]
  have at0 : (s.heap.push (bareSet w)).get? s.heap.objs.size = some (bareSet w) := Heap.get?_push_size _ rfl
  have ty0 : Shared.TypeIs { s with heap := s.heap.push (bareSet w) } (.ref s.heap.objs.size) "set" := ⟨_, at0, rfl⟩
  have far : ∀ b, s.heap.objs.size ≤ b → s.heap.get? b = none := fun b hb => by
    cases q : s.heap.get? b with
    | none => rfl
    | some o => exact absurd (Nat.lt_of_lt_of_le (Heap.lt_size q) hb) (Nat.lt_irrefl _)
  have sz1 : (s.heap.push (bareSet w)).objs.size = s.heap.objs.size + 1 := Heap.size_push ..
  obtain ⟨c, tl, hmro⟩ := F.called_set.mro
  have hmade := F.called_set.made
  have hsub := F.called_set.sub
  refine wpAny_call (codeAny_of_tree ?_)
  show wpAny _ _ (callAny (.type "set") _) _ _ _
  refine wpAny_pure ⟨Code.quiet_builtin _ (by decide +kernel), codeAny_builtin F.entry_type_call ?_⟩
  rw [Around.under_plain (weight_type_call_type "set" [.ref l] []) rfl]
  have h1 := F.called_set.notType
  have h2 := F.called_set.canCreate
  have hct := F.typeCall_set_1 (.ref l)
  repeat (any_goals (first | assumption | wp_step))
  refine codeAny_mono (code_set_led1 (.ref l) (E := E) (Q₁ := fun obj s₁ => obj = .ref s.heap.objs.size ∧ s₁ = { s with heap := s.heap.push (bareSet w) }) ⟨rfl, rfl⟩) fun r s₁ hr => ?_
  cases r with
  | error e => exact hr
  | ok fl =>
    cases fl with
    | ret obj =>
      obtain ⟨rfl, rfl⟩ := hr
      have hli := F.called_set.init.lookup
      have hbi := F.called_set.init.bind (.ref s.heap.objs.size)
      repeat (any_goals (first | assumption | wp_step))
      refine codeAny_mono (codeAny_call_builtin (R := wants (fun r s₂ => r = .none ∧ ∃ h' tk L es ep t, s₂ = { s with heap := h', toks := tk } ∧ SetTR P w h' s.heap.objs.size L es ep t ∧ Got ks ks.length L ∧
          (∀ b o, s.heap.get? b = some o → h'.get? b = some o)) E) F.called_set.init.plain F.entry_set_init (check_set_init_1 ty0 ?_)) fun r₂ s₂ hr₂ => ?_
      · obtain ⟨⟨ocls, odict, odata, oslots⟩, hol, hcl, nl, hdl⟩ := hl
        simp only at hcl hdl
        subst hcl; subst hdl
        have hlt : l < s.heap.objs.size := Heap.lt_size hol
        have hol' : (s.heap.push (bareSet w)).get? l = some { cls := .type "tuple", dict := odict, data := .seq items nl, slots := oslots } := Heap.get?_push_of_some _ hol
        have hsls := F.sub_tuple_set
        have hslf := F.sub_tuple_frozenset
        have hne : (Value.type "tuple" == Value.type "dict") = false := by decide
        have hl1 : (s.heap.push (bareSet w)).IsTuple l items := ⟨_, hol', rfl, nl, rfl⟩
        unfold Builtin.«set.__init__» noKeywords Builtin.Frozenset.updateFrom
        generalize hPI : pyIter = PI
        wp_walk
        subst hPI
        refine wpAny_pyIter_tuple hl1 ?_
        refine wpAny_bind (wpAny_runValue ?_)
        have hh3 : A.in1.in1.in1.handled = none := by simp [hh]
        have hneI : l ≠ (s.heap.push (bareSet w)).objs.size := Nat.ne_of_lt (by rw [sz1]; exact Nat.lt_succ_of_lt hlt)
        have hSf : s.heap.objs.size ∉ [(s.heap.push (bareSet w)).objs.size, l] := by
          simp only [List.mem_cons, List.not_mem_nil, or_false, not_or]
          exact ⟨Nat.ne_of_lt (by rw [sz1]; exact Nat.lt_succ_self _), Nat.ne_of_gt hlt⟩
        have hval : ∀ (i : Nat) (v : Value), items[i]? = some v → ∃ p, ks[i]? = some p ∧ v = .ref p.1 := fun i v hv => by
          have q : items.toList[i]? = some v := by rw [Array.getElem?_toList]; exact hv
          rw [hit, List.getElem?_map] at q
          obtain ⟨p, q1, q2⟩ := Option.map_eq_some_iff.mp q
          exact ⟨p, q1, q2.symm⟩
        refine set_update_tups ((Walks.tuple hh3 _ l hneI items).toS) s.heap.objs.size
          hSf ks n0 hfew hval s.heap hk (far _ (Nat.le_refl _)) (fun b hb => far b (by
            rw [List.mem_singleton.mp hb, sz1]
            exact Nat.le_succ _)) hu (items.size - 0) 0 _ (by omega) (Nat.zero_le _)
          ⟨⟨_, Heap.get?_push_size _ rfl, rfl, rfl⟩, (hl1.push _)⟩ (fun b o e => Heap.get?_push_of_some _ (Heap.get?_push_of_some _ e)) ?hS0 ?hR
        case hS0 => exact ⟨[], #[], 0, _, setTR_fresh (Heap.get?_push_of_some _ at0), Got.zero ks⟩
        case hR =>
          intro s' L es ep t hm hS' g' hkp
          obtain ⟨h', g2, d', tk', os'⟩ := s'
          have eg : g2 = s.gens := hm.gens
          have ed : d' = s.drawn := hm.drawn
          have eo : os' = s.os := hm.os
          subst eg; subst ed; subst eo
          show wpAny _ _ _ _ _ _
          refine wpAny_pure ?_
          show wpAny _ _ (ret Value.none) _ _ _
          rw [n0] at g'
          exact wpAny_pure ⟨rfl, h', tk', L, es, ep, t, rfl, hS', g', hkp⟩
      · cases r₂ with
        | error e => exact hr₂
        | ok fl₂ =>
          cases fl₂ with
          | ret r =>
            obtain ⟨rfl, h', tk, L, es, ep, t, rfl, hS', g', hk'⟩ := hr₂
            repeat (any_goals (first | assumption | wp_step))
            exact h _ _ _ _ _ _ hS' g' hk'
          | _ => exact hr₂.elim
    | _ => exact hr.elim
end
section
variable {X : Cx}
/-- set(t), t a tuple of tuples of ints -/
def rSetTT (K : PySem.W.Frag) (P : Program) (w : World) : List V → Hp → VK → Prop := fun xs H Q => ∃ (l : Addr) (ks : List (Addr × List Int)), xs = [V.ref l] ∧ SqT K H l (ks.map fun p => V.ref p.1) ∧ (∀ p ∈ ks, SqT K H p.1 (p.2.map V.int)) ∧ ks.length < 64 ∧
  ∀ a L, H a = none → (∀ p ∈ L, p ∈ ks) → (∀ p ∈ ks, p.2 ∈ L.map (·.2)) → Q (.ref a) (upd H a (SetTO P w a L))
theorem cr_setTT (hc : X.calm = true) (hu : X.A.units + 64 < cLine) : CallR X (.type "set") (rSetTT X.K X.prog X.w) := by
  intro pins s σ H xs us Q I r h
  obtain ⟨l, ks, rfl, hl, hk, hf, q⟩ := h
  rw [Vals.ref1 r]
  obtain ⟨its, rv, pl, hz⟩ := I.tuple hl
  have hn : H s.heap.objs.size = none := I.hok.fresh (Nat.le_refl _)
  refine set_of_tuple (P := X.prog) (w := X.w) ks (I.ok.hd hc) pl (by simpa using refs_of_vals rv) (fun p hp => I.isT (hk p hp)) hf (by omega) fun h' tk L es ep t R g k => ?_
  exact ⟨.ref s.heap.objs.size, upd H s.heap.objs.size (SetTO X.prog X.w s.heap.objs.size L), I.laid (t' := tk) k (Nat.le_refl _) (setTO_new R.t0), rfl, q _ L hn (fun p hp => List.mem_of_mem_take (g.sub p hp)) fun p hp => g.all p (by rw [List.take_length]; exact hp)⟩
end
end L2

set_option maxHeartbeats 1000000
/-! The data layer, part 3: rules for min(t), sorted(set(t)), t a tuple. -/
namespace DL
open PySem L2 PySem.W
def cMinT : List PyData → Option PyData
  | [.tuple (x :: xs)] => if okMin (x :: xs) then some (minD x xs) else none
  | _ => none
def rBestT (K : PySem.W.Frag) (f : PyData → List PyData → PyData) : List V → Hp → VK → Prop := fun xs H Q => ∃ (a : Addr) (vs : List V) (d : PyData) (ds : List PyData), xs = [.ref a] ∧ SqT K H a vs ∧ DpAll K H vs (d :: ds) ∧ okMin (d :: ds) = true ∧
  ∀ (i : Nat) (v : V), vs[i]? = some v → (d :: ds)[i]? = some (f d ds) → Q v H
theorem k_minT {K : PySem.W.Frag} : Cal (rBestT K minD) cMinT := fun F t ρ G H σ vs ds c e w hx Q q => by
  unfold cMinT at e
  split at e
  · rename_i x xs
    split at e
    · rename_i ok
      cases e
      cases hx with
      | cons h r =>
        cases r
        obtain ⟨p, us, rfl, hp, gp, rp⟩ := h.tup w
        refine ⟨p, us, x, xs, rfl, SqT.of hp, (rp.mono w.co.sub).dp, ok, fun i v hi hd => ?_⟩
        obtain ⟨d', e', r'⟩ := rp.get' hi
        rw [hd] at e'
        cases e'
        exact q v G H w Gw.refl r'
    · cases e
  · cases e
section
variable {X : Cx} (K : PySem.W.Frag)
theorem call_minTN {k : Nat} (hr : Room k X.A) (hc : X.calm = true) (hK : X.K = K := by rfl) : CallR X (.builtin "min") (rBestT K minD) := by
  subst hK
  intro pins s σ H xs us Q I r h
  obtain ⟨a, vs, d, ds, rfl, hs, hd, ok, q⟩ := h
  obtain ⟨al, pl, dp⟩ := okMin_of ok
  obtain ⟨its, rv, hl, _⟩ := I.tuple hs
  obtain ⟨as, ra⟩ := Dp.readsAll I (d :: ds) vs its hd rv
  rw [Vals.ref1 r]
  have un := hr.un
  exact min_tuple_data (vs := its.toArray) (I.ok.hd hc) hl (by simpa using ra) al (by omega) fun i v h' tk bs hv rd kp => best_fin I rv hd pl q (by simpa using hv) rd kp
end
def cSortSetT : List PyData → Option (List PyData)
  | [.tuple ds] => if okSetP ds then some (sortP ((dedP (ds.map keyP)).map ptK)) else none
  | _ => none
section
variable {X : Cx} {a : Expr} {ta : TE} {ma : ME} {p p2 q pos : Pos} (K : PySem.W.Frag)
theorem rn_sortSetT {k : Nat} (hr : Room k X.A) (hc : X.calm = true) (hml : X.mg "sorted" = none) (hms : X.mg "set" = none) (ha : RB X a ta ma) (g1 : Gl X "sorted" := by rfl) (g2 : Gl X "set" := by rfl)
    (s1 : starEach [.Call (.Name "set" p2) [a] [] q] X.env = (false, eval (.Call (.Name "set" p2) [a] [] q) X.env) :: starEach [] X.env := by rfl) (s2 : starEach [a] X.env = (false, eval a X.env) :: starEach [] X.env := by rfl)
    (b1 : (backTo pos (starEach [] X.env)).any (·.1) = false := by rfl) (b2 : (backTo q (starEach [] X.env)).any (·.1) = false := by rfl) :
    RN X (.Call (.Name "sorted" p) [.Call (.Name "set" p2) [a] [] q] [] pos) (tCB (rSortST X.K X.prog X.w) (tCons (tCB (rSetTT X.K X.prog X.w) (tCons ta tNil)) tNil)) (nCal cSortSetT (lCons ma lNil)) :=
  ⟨pe_callB (cr_sortST hc) g1 hml (by decide +kernel) (pa_cons (pe_callTy (cr_setTT hc hr.units) g2 hms (by decide +kernel) (pa_cons ha.pe pa_nil s2) (by decide) (by decide) s2 b2) pa_nil s1) (by decide) (by decide) s1 b1, fun F t0 t1 ρ G H σ d e w Q q => by
    obtain ⟨ds, t2, e1, e⟩ := bnd_some e
    obtain ⟨f2, rfl⟩ := lift_some e
    obtain ⟨x, t3, e3, e1⟩ := bnd_some e1
    obtain ⟨xs, t4, e4, e1⟩ := bnd_some e1
    obtain ⟨rfl, rfl⟩ := pure_some e4
    obtain ⟨rfl, rfl⟩ := pure_some e1
    refine ha.ev F t0 _ ρ G H σ x e3 w _ fun v G1 H1 w1 s1 r1 => ?_
    cases x with
    | tuple ds =>
      rw [cSortSetT] at f2
      split at f2
      · rename_i ok
        cases f2
        obtain ⟨o1, o2⟩ := okSetP_of ok
        obtain ⟨p, us, rfl, hp, gp, rp⟩ := r1.tup w1
        obtain ⟨ks, k1, k2, k3⟩ := set_rows w1.co.sub rp o1
        rw [k1] at hp
        have kl : ks.length < 64 := by
          have := congrArg List.length k3
          rw [List.length_map, List.length_map] at this
          omega
        refine ⟨p, ks, rfl, SqT.of hp, fun q hq => SqT.of (w1.co.sub _ _ (k2 q hq).1), kl, fun z L hz hsub hall => ⟨z, L, rfl, upd_same, fun q hq => ?_, fun L' l pm nd pw hl => ?_⟩⟩
        · have hz' := w1.co.sub _ _ (k2 q (hsub q hq)).1
          exact ⟨SqT.of (by rw [upd_ne (ne_of_none hz' hz)]; exact hz'), (k2 q (hsub q hq)).2.1⟩
        · have w2 : Wd F _ ρ G1 (upd H1 z (SetTO X.prog X.w z L)) σ := w1.raw hz
          have pm1 := set_perm (fun p hp => (k2 p hp).2.1) hsub hall nd
          have pm2 : (L'.map fun p => ptK (kL p.2)).Perm ((dedP (ds.map keyP)).map ptK) := by
            have e : (L'.map fun p => ptK (kL p.2)) = (L'.map fun p => kL p.2).map ptK := by rw [List.map_map]; rfl
            rw [e, k3]
            exact ((pm.map _).trans pm1).map _
          have allp : ((dedP (ds.map keyP)).map ptK).all isPairD = true := List.all_eq_true.mpr fun d hd => by
            obtain ⟨k, _, rfl⟩ := List.mem_map.mp hd
            rfl
          have es : (L'.map fun p => ptK (kL p.2)) = sortP ((dedP (ds.map keyP)).map ptK) := by
            refine sortP_uniq pm2 allp (List.pairwise_map.mpr (pw.imp fun {a b} h => ?_))
            rw [leP_iff]
            exact SrtO.lexB_no.mp h
          have rr : RpA G1 (L'.map fun q => V.ref q.1) (sortP ((dedP (ds.map keyP)).map ptK)) := by
            rw [← es]
            have : ∀ M : List (Addr × List Int), (∀ q ∈ M, q ∈ ks) → RpA G1 (M.map fun q => V.ref q.1) (M.map fun p => ptK (kL p.2)) := by
              intro M
              induction M with
              | nil => intro _; exact .nil
              | cons q M ih => intro h; exact .cons (k2 q (h q (by simp))).2.2 (ih fun r hr => h r (List.mem_cons_of_mem _ hr))
            exact this L' fun q hq => hsub q (pm.mem_iff.mp hq)
          obtain ⟨w3, o3, n3⟩ := w2.newL hl rr
          have s2 := s1.trans (Gw.raw (o := SetTO X.prog X.w z L) hz)
          exact q l G1 _ w3 (s2.trans (Gw.raw hl)) ⟨o3, n3⟩ (kp_none w s2 hl (w2.co.T_ne hl))
      · cases f2
    | _ => cases f2⟩
end
end DL


/-! mirrors of fd (printed by gen.py) -/
namespace LFD
open DL
def m_law_draw : MF := mfn 2 8
    (sSeq (sTPut 0 0 3 (e2 gAdd (eTGet 0 0 3) (eC (.int 1))))
    (sSeq (sIf (tOf (e2 gGtD (eTGet 0 0 2) (eC (.int 0)))) (sSeq (sAsg (e2 gMod (eTGet 0 0 2) (bVar 1)) (mName 2))
    (sSeq (sTPut 0 0 2 (e2 gDiv (eTGet 0 0 2) (bVar 1)))
    (sRet (eVar 2)))) sNext)
    (sSeq (sAsg (eTGet 0 0 1) (mName 3))
    (sSeq (sTPut 0 0 1 (e2 gAdd (bVar 3) (eC (.int 1))))
    (sSeq (sAsg (eTGet 0 0 0) (mName 4))
    (sSeq (sAsg (eIf (tOf (e2 gNe (bVar 4) (eList (nLst lNil)))) (e2 gIx (bVar 4) (e2 gMod (bVar 3) (eCal cLen (lCons (bVar 4) lNil)))) (eC (.int 5))) (mName 5))
    (sSeq (sIf (bAnd (tOf (e2 gGeD (bVar 5) (e2 gPow (eC (.int 10)) (eC (.int 18))))) (tOf (e2 gLtD (bVar 3) (eCal cLen (lCons (bVar 4) lNil))))) (sSeq (sTPut 0 0 2 (e2 gDiv (bVar 5) (bVar 1)))
    (sRet (e2 gMod (bVar 5) (bVar 1)))) sNext)
    (sSeq (sAsg (eTGet 0 0 3) (mName 6))
    (sSeq (sAsg (e2 gMod (e2 gMulI (e2 gAdd (e2 gMod (bVar 5) (eC (.int 1999999943))) (eC (.int 7))) (e2 gAdd (e2 gMulI (e2 gMulI (bVar 6) (bVar 6)) (eC (.int 31))) (eC (.int 40014)))) (eC (.int 2147483563))) (mName 7))
    (sSeq (sAsg (e2 gMod (e2 gAdd (e2 gMulI (bVar 7) (bVar 7)) (e2 gMulI (eC (.int 104729)) (bVar 6))) (eC (.int 2147483399))) (mName 7))
    (sRet (e2 gMod (e2 gDiv (e2 gMod (e2 gMulI (bVar 7) (eC (.int 16807))) (eC (.int 2147483647))) (eC (.int 32))) (bVar 1)))))))))))))
def m_law_far_row : MF := mfn 0 1
    (sSeq (sAsg (eList (nLst (lCons (eTup (lCons (e1 gNeg (eC (.int 1000))) (lCons (e1 gNeg (eC (.int 700))) lNil))) (lCons (eTup (lCons (e1 gNeg (eC (.int 10))) (lCons (eC (.int 7)) lNil))) (lCons (eTup (lCons (eC (.int 987)) (lCons (eC (.int 719)) lNil))) (lCons (eTup (lCons (e1 gNeg (eC (.int 1000))) (lCons (e1 gNeg (eC (.int 400))) lNil))) (lCons (eTup (lCons (e1 gNeg (eC (.int 11))) (lCons (eC (.int 12)) lNil))) (lCons (eTup (lCons (eC (.int 990)) (lCons (eC (.int 429)) lNil))) lNil)))))))) (mName 0))
    (sRet (e2 gAdd (bVar 0) (eList (nLst (lCons (eTup (lCons (e1 gNeg (eC (.int 1000))) (lCons (eC (.int 200)) lNil))) (lCons (eTup (lCons (e1 gNeg (eC (.int 13))) (lCons (eC (.int 570)) lNil))) (lCons (eTup (lCons (eC (.int 982)) (lCons (eC (.int 943)) lNil))) (lCons (eTup (lCons (e1 gNeg (eC (.int 999))) (lCons (e1 gNeg (eC (.int 1000))) lNil))) (lCons (eTup (lCons (e1 gNeg (eC (.int 10))) (lCons (e1 gNeg (eC (.int 87))) lNil))) (lCons (eTup (lCons (eC (.int 992)) (lCons (eC (.int 838)) lNil))) lNil)))))))))))
def m_law_spot : MF := mfn 3 5
    (sSeq (sIf (tOf (e2 gEq (bVar 1) (eC (.int 0)))) (sRet (eTup (lCons (eCall LFD.m_law_draw (aTape 0 (aCons (eC (.int 4)) aNil))) (lCons (eCall LFD.m_law_draw (aTape 0 (aCons (eC (.int 4)) aNil))) lNil)))) sNext)
    (sSeq (sIf (tOf (e2 gEq (bVar 1) (eC (.int 1)))) (sRet (eTup (lCons (eCall LFD.m_law_draw (aTape 0 (aCons (eC (.int 41)) aNil))) (lCons (eCall LFD.m_law_draw (aTape 0 (aCons (eC (.int 41)) aNil))) lNil)))) sNext)
    (sSeq (sIf (bAnd (tOf (e2 gEq (bVar 1) (eC (.int 2)))) (tOf (e2 gEq (eCall LFD.m_law_draw (aTape 0 (aCons (eC (.int 2)) aNil))) (eC (.int 0))))) (sRet (e2 gIx (eCall LFD.m_law_far_row aNil) (e2 gMod (bVar 2) (eC (.int 12))))) sNext)
    (sSeq (sIf (tOf (e2 gEq (bVar 1) (eC (.int 2)))) (sRet (eTup (lCons (e2 gSub (eCall LFD.m_law_draw (aTape 0 (aCons (eC (.int 2001)) aNil))) (eC (.int 1000))) (lCons (e2 gSub (eCall LFD.m_law_draw (aTape 0 (aCons (eC (.int 2001)) aNil))) (eC (.int 1000))) lNil)))) sNext)
    (sSeq (sIf (tOf (e2 gEq (bVar 1) (eC (.int 3)))) (sRet (eTup (lCons (eVar 2) (lCons (e2 gMulI (bVar 2) (bVar 2)) lNil)))) sNext)
    (sSeq (sIf (tOf (e2 gEq (bVar 1) (eC (.int 4)))) (sSeq (sAsg (eList (nLst (lCons (eTup (lCons (eC (.int 5)) (lCons (eC (.int 0)) lNil))) (lCons (eTup (lCons (eC (.int 4)) (lCons (eC (.int 3)) lNil))) (lCons (eTup (lCons (eC (.int 3)) (lCons (eC (.int 4)) lNil))) (lCons (eTup (lCons (eC (.int 0)) (lCons (eC (.int 5)) lNil))) (lCons (eTup (lCons (e1 gNeg (eC (.int 3))) (lCons (eC (.int 4)) lNil))) (lCons (eTup (lCons (e1 gNeg (eC (.int 4))) (lCons (eC (.int 3)) lNil))) (lCons (eTup (lCons (e1 gNeg (eC (.int 5))) (lCons (eC (.int 0)) lNil))) (lCons (eTup (lCons (e1 gNeg (eC (.int 4))) (lCons (e1 gNeg (eC (.int 3))) lNil))) (lCons (eTup (lCons (e1 gNeg (eC (.int 3))) (lCons (e1 gNeg (eC (.int 4))) lNil))) (lCons (eTup (lCons (eC (.int 0)) (lCons (e1 gNeg (eC (.int 5))) lNil))) (lCons (eTup (lCons (eC (.int 3)) (lCons (e1 gNeg (eC (.int 4))) lNil))) (lCons (eTup (lCons (eC (.int 4)) (lCons (e1 gNeg (eC (.int 3))) lNil))) lNil)))))))))))))) (mName 3))
    (sRet (e2 gIx (bVar 3) (eCall LFD.m_law_draw (aTape 0 (aCons (eC (.int 12)) aNil)))))) sNext)
    (sSeq (sIf (tOf (e2 gEq (bVar 1) (eC (.int 5)))) (sSeq (sAsg (eCall LFD.m_law_draw (aTape 0 (aCons (eC (.int 13)) aNil))) (mName 4))
    (sRet (eTup (lCons (e2 gSub (e2 gMulI (eC (.int 3)) (bVar 4)) (eC (.int 18))) (lCons (e2 gSub (e2 gMulI (eC (.int 2)) (bVar 4)) (eC (.int 12))) lNil))))) sNext)
    (sSeq (sIf (tOf (e2 gEq (bVar 1) (eC (.int 6)))) (sSeq (sAsg (eCall LFD.m_law_draw (aTape 0 (aCons (eC (.int 6)) aNil))) (mName 4))
    (sRet (eTup (lCons (eVar 4) (lCons (e2 gIx (eList (nLst (lCons (e2 gMulI (bVar 4) (e2 gSub (eC (.int 6)) (bVar 4))) (lCons (e2 gSub (eC (.int 40)) (e2 gMulI (bVar 4) (e2 gSub (eC (.int 6)) (bVar 4)))) lNil)))) (eCall LFD.m_law_draw (aTape 0 (aCons (eC (.int 2)) aNil)))) lNil))))) sNext)
    (sRet (eTup (lCons (e2 gMod (bVar 2) (eC (.int 4))) (lCons (e2 gDiv (bVar 2) (eC (.int 4))) lNil))))))))))))
def m_law_on_line : MF := mfn 1 6
    (sSeq (sAsg (eTup (lCons (eCal cMinL (lCons (bVar 0) lNil)) (lCons (eCal cMaxL (lCons (bVar 0) lNil)) lNil))) (mSeq 2 (mgCons (mName 1) (mgCons (mName 2) mgNil))))
    (sSeq (sAsg (eTup (lCons (e2 gSub (e2 gIx (bVar 2) (eC (.int 0))) (e2 gIx (bVar 1) (eC (.int 0)))) (lCons (e2 gSub (e2 gIx (bVar 2) (eC (.int 1))) (e2 gIx (bVar 1) (eC (.int 1)))) lNil))) (mSeq 2 (mgCons (mName 3) (mgCons (mName 4) mgNil))))
    (sRet (e2 gEq (eList (nComp (lSeq (eVar 0)) (mName 5) [5] (tOf (e2 gNe (e2 gMulI (bVar 3) (e2 gSub (e2 gIx (bVar 5) (eC (.int 1))) (e2 gIx (bVar 1) (eC (.int 1))))) (e2 gMulI (bVar 4) (e2 gSub (e2 gIx (bVar 5) (eC (.int 0))) (e2 gIx (bVar 1) (eC (.int 0))))))) (eVar 5))) (eList (nLst lNil))))))
def m_law_field : MF := mfn 2 9
    (sSeq (sAsg (eCall LFD.m_law_draw (aTape 0 (aCons (eC (.int 8)) aNil))) (mName 2))
    (sSeq (sOwn 3 (nLst lNil))
    (sSeq (sFor (nCal rng1 (lCons (e2 gAdd (eC (.int 3)) (eCall LFD.m_law_draw (aTape 0 (aCons (e2 gSub (bVar 1) (eC (.int 2))) aNil)))) lNil)) (mName 4) (sSeq (sAsg (eCall LFD.m_law_spot (aTape 0 (aCons (eVar 2) (aCons (eVar 4) aNil)))) (mName 5))
    (sIf (tOf (e2 gNinX (bVar 5) (bVar 3))) (sApp 3 (eVar 5)) sNext)))
    (sSeq (sIf (tOf (e2 gEq (eCall LFD.m_law_draw (aTape 0 (aCons (eC (.int 2)) aNil))) (eC (.int 0)))) (sSetI 3 (eCall LFD.m_law_draw (aTape 0 (aCons (eCal cLen (lCons (bVar 3) lNil)) aNil))) (eTup (lCons (e2 gSub (eCall LFD.m_law_draw (aTape 0 (aCons (eC (.int 7)) aNil))) (eC (.int 3))) (lCons (e2 gSub (eCall LFD.m_law_draw (aTape 0 (aCons (eC (.int 7)) aNil))) (eC (.int 3))) lNil)))) sNext)
    (sSeq (sAsg (eCall LFD.m_law_draw (aTape 0 (aCons (eC (.int 4)) aNil))) (mName 6))
    (sSeq (sIf (tOf (e2 gGtD (bVar 6) (eC (.int 1)))) (sFrz 3 (sOwn 3 (nComp (lSeq (eVar 3)) (mSeq 2 (mgCons (mName 7) (mgCons (mName 8) mgNil))) [7, 8] bYes (eTup (lCons (eVar 8) (lCons (eVar 7) lNil)))))) sNext)
    (sSeq (sIf (tOf (e2 gEq (e2 gMod (bVar 6) (eC (.int 2))) (eC (.int 1)))) (sFrz 3 (sOwn 3 (nComp (lSeq (eVar 3)) (mSeq 2 (mgCons (mName 7) (mgCons (mName 8) mgNil))) [7, 8] bYes (eTup (lCons (e2 gSub (eC (.int 0)) (bVar 7)) (lCons (eVar 8) lNil)))))) sNext)
    (sSeq (sIf (tOf (e2 gEq (eCall LFD.m_law_draw (aTape 0 (aCons (eC (.int 8)) aNil))) (eC (.int 0)))) (sSetI 3 (eC (.int 0)) (eTup (lCons (e2 gMulI (eC (.int 1000)) (e2 gIx (eList (nLst (lCons (eC (.int 1)) (lCons (e1 gNeg (eC (.int 1))) lNil)))) (eCall LFD.m_law_draw (aTape 0 (aCons (eC (.int 2)) aNil))))) (lCons (e2 gMulI (eC (.int 1000)) (e2 gIx (eList (nLst (lCons (eC (.int 1)) (lCons (e1 gNeg (eC (.int 1))) lNil)))) (eCall LFD.m_law_draw (aTape 0 (aCons (eC (.int 2)) aNil))))) lNil)))) sNext)
    (sSeq (sFor (lSeq (eList (nLst (lCons (eTup (lCons (eC (.int 0)) (lCons (eC (.int 0)) lNil))) (lCons (eTup (lCons (eC (.int 1)) (lCons (eC (.int 2)) lNil))) (lCons (eTup (lCons (eC (.int 2)) (lCons (e1 gNeg (eC (.int 1))) lNil))) (lCons (eTup (lCons (eC (.int 7)) (lCons (eC (.int 1)) lNil))) lNil))))))) (mName 5) (sFrz 3 (sIf (bOr (tOf (e2 gLtD (eCal cLenSet (lCons (bVar 3) lNil)) (eC (.int 3)))) (tOf (eCall LFD.m_law_on_line (aCons (eVar 3) aNil)))) (sAsg (e2 gAdd (eCut (eList (nCal cSortSet (lCons (bVar 3) lNil))) pNone (pSome (e2 gSub (bVar 1) (eC (.int 1))))) (eList (nLst (lCons (eVar 5) lNil)))) (mName 3)) sNext)))
    (sRet (eCal cTuple (lCons (eList (nCal cSortSet (lCons (bVar 3) lNil))) lNil))))))))))))
def b_law : MS :=
    (sRet (eC (.bool true)))
end LFD

/-! mirrors of tr (printed by gen.py) -/
namespace LTR
open DL
def m_law_turn : MF := mfn 3 4
    (sSeq (sAsg (e2 gSub (e2 gMulI (e2 gIx (bVar 0) (eC (.int 0))) (e2 gIx (bVar 1) (eC (.int 1)))) (e2 gMulI (e2 gIx (bVar 0) (eC (.int 1))) (e2 gIx (bVar 1) (eC (.int 0))))) (mName 3))
    (sSeq (sAsg (e2 gSub (e2 gAdd (bVar 3) (e2 gMulI (e2 gIx (bVar 1) (eC (.int 0))) (e2 gIx (bVar 2) (eC (.int 1))))) (e2 gMulI (e2 gIx (bVar 1) (eC (.int 1))) (e2 gIx (bVar 2) (eC (.int 0))))) (mName 3))
    (sRet (e2 gSub (e2 gAdd (bVar 3) (e2 gMulI (e2 gIx (bVar 2) (eC (.int 0))) (e2 gIx (bVar 0) (eC (.int 1))))) (e2 gMulI (e2 gIx (bVar 2) (eC (.int 1))) (e2 gIx (bVar 0) (eC (.int 0))))))))
def m_law_is_void : MF := mfn 4 7
    (sSeq (sAsg (eCal cAbs (lCons (eCall LTR.m_law_turn (aCons (eVar 1) (aCons (eVar 2) (aCons (eVar 3) aNil)))) lNil)) (mName 4))
    (sSeq (sIf (tOf (e2 gEq (bVar 4) (eC (.int 0)))) (sRet (eC (.bool false))) sNext)
    (sSeq (sFor (lSeq (eVar 0)) (mName 5) (sSeq (sAsg (e2 gAdd (eCal cAbs (lCons (eCall LTR.m_law_turn (aCons (eVar 1) (aCons (eVar 2) (aCons (eVar 5) aNil)))) lNil)) (eCal cAbs (lCons (eCall LTR.m_law_turn (aCons (eVar 2) (aCons (eVar 3) (aCons (eVar 5) aNil)))) lNil))) (mName 6))
    (sIf (bAnd (tOf (e2 gNinX (bVar 5) (eTup (lCons (eVar 1) (lCons (eVar 2) (lCons (eVar 3) lNil)))))) (tOf (e2 gEq (e2 gAdd (bVar 6) (eCal cAbs (lCons (eCall LTR.m_law_turn (aCons (eVar 3) (aCons (eVar 1) (aCons (eVar 5) aNil)))) lNil))) (bVar 4)))) (sRet (eC (.bool false))) sNext)))
    (sRet (eC (.bool true))))))
def m_law_triangles : MF := mfn 1 7
    (sSeq (sOwn 1 (nLst lNil))
    (sSeq (sFor (nCal rng1 (lCons (eCal cLen (lCons (bVar 0) lNil)) lNil)) (mName 2) (sFor (nCal rng2 (lCons (e2 gAdd (bVar 2) (eC (.int 1))) (lCons (eCal cLen (lCons (bVar 0) lNil)) lNil))) (mName 3) (sSeq (sAsg (eTup (lCons (e2 gIx (bVar 0) (bVar 2)) (lCons (e2 gIx (bVar 0) (bVar 3)) lNil))) (mSeq 2 (mgCons (mName 4) (mgCons (mName 5) mgNil))))
    (sExt 1 (eList (nComp (lSeq (eCut (bVar 0) (pSome (e2 gAdd (bVar 3) (eC (.int 1)))) pNone)) (mName 6) [6] (tOf (eCall LTR.m_law_is_void (aCons (eVar 0) (aCons (eVar 4) (aCons (eVar 5) (aCons (eVar 6) aNil)))))) (eTup (lCons (eVar 4) (lCons (eVar 5) (lCons (eVar 6) lNil))))))))))
    (sFrz 1 (sRet (eVar 1)))))
def b_law : MS :=
    (sRet (eC (.bool true)))
end LTR

/-! mirrors of pr (printed by gen.py) -/
namespace LPR
open DL
def m_is_number : MF := mfn 1 1
    (sRet (eAnd (e1 (gIsi .int) (bVar 0)) (eNot (e1 (gIsi .bool) (bVar 0)))))
def m_common_divisor : MF := mfn 2 3
    (sSeq (sWhile (fuelS) (tOf (e2 gGtD (bVar 1) (eC (.int 0)))) (sSeq (sAsg (e2 gMod (bVar 0) (bVar 1)) (mName 2))
    (sSeq (sAsg (eVar 1) (mName 0))
    (sAsg (eVar 2) (mName 1)))))
    (sRet (eVar 0)))
def m_fraction : MF := mfn 2 3
    (sSeq (sIf (tOf (e2 gLtD (bVar 1) (eC (.int 0)))) (sSeq (sAsg (e2 gSub (eC (.int 0)) (bVar 0)) (mName 0))
    (sAsg (e2 gSub (eC (.int 0)) (bVar 1)) (mName 1))) sNext)
    (sSeq (sAsg (eCall LPR.m_common_divisor (aCons (eCal cAbs (lCons (bVar 0) lNil)) (aCons (eVar 1) aNil))) (mName 2))
    (sRet (eTup (lCons (e2 gDiv (bVar 0) (bVar 2)) (lCons (e2 gDiv (bVar 1) (bVar 2)) lNil))))))
def m_less : MF := mfn 2 2
    (sRet (e2 gLtD (e2 gMulI (e2 gIx (bVar 0) (eC (.int 0))) (e2 gIx (bVar 1) (eC (.int 1)))) (e2 gMulI (e2 gIx (bVar 1) (eC (.int 0))) (e2 gIx (bVar 0) (eC (.int 1))))))
def m_is_point : MF := mfn 1 1
    (sRet (eAnd (e1 (gIsi .tuple) (bVar 0)) (eAnd (e2 gEq (eCal cLen (lCons (bVar 0) lNil)) (eC (.int 2))) (eAnd (eCall LPR.m_is_number (aCons (e2 gIx (bVar 0) (eC (.int 0))) aNil)) (eCall LPR.m_is_number (aCons (e2 gIx (bVar 0) (eC (.int 1))) aNil))))))
def m_turning : MF := mfn 3 3
    (sRet (e2 gSub (e2 gMulI (e2 gSub (e2 gIx (bVar 1) (eC (.int 0))) (e2 gIx (bVar 0) (eC (.int 0)))) (e2 gSub (e2 gIx (bVar 2) (eC (.int 1))) (e2 gIx (bVar 0) (eC (.int 1))))) (e2 gMulI (e2 gSub (e2 gIx (bVar 1) (eC (.int 1))) (e2 gIx (bVar 0) (eC (.int 1)))) (e2 gSub (e2 gIx (bVar 2) (eC (.int 0))) (e2 gIx (bVar 0) (eC (.int 0)))))))
def m_side : MF := mfn 3 4
    (sSeq (sAsg (eCall LPR.m_turning (aCons (eVar 0) (aCons (eVar 1) (aCons (eVar 2) aNil)))) (mName 3))
    (sRet (e2 gSub (eCal cInt (lCons (e2 gGtD (bVar 3) (eC (.int 0))) lNil)) (eCal cInt (lCons (e2 gLtD (bVar 3) (eC (.int 0))) lNil)))))
def m_area : MF := mfn 3 3
    (sRet (eCal cAbs (lCons (eCall LPR.m_turning (aCons (eVar 0) (aCons (eVar 1) (aCons (eVar 2) aNil)))) lNil)))
def m_far : MF := mfn 2 2
    (sRet (e2 gAdd (e2 gMulI (e2 gSub (e2 gIx (bVar 1) (eC (.int 0))) (e2 gIx (bVar 0) (eC (.int 0)))) (e2 gSub (e2 gIx (bVar 1) (eC (.int 0))) (e2 gIx (bVar 0) (eC (.int 0))))) (e2 gMulI (e2 gSub (e2 gIx (bVar 1) (eC (.int 1))) (e2 gIx (bVar 0) (eC (.int 1)))) (e2 gSub (e2 gIx (bVar 1) (eC (.int 1))) (e2 gIx (bVar 0) (eC (.int 1)))))))
def m_corner : MF := mfn 3 4
    (sSeq (sAsg (e2 gAdd (e2 gMulI (e2 gSub (e2 gIx (bVar 1) (eC (.int 0))) (e2 gIx (bVar 0) (eC (.int 0)))) (e2 gSub (e2 gIx (bVar 2) (eC (.int 0))) (e2 gIx (bVar 0) (eC (.int 0))))) (e2 gMulI (e2 gSub (e2 gIx (bVar 1) (eC (.int 1))) (e2 gIx (bVar 0) (eC (.int 1)))) (e2 gSub (e2 gIx (bVar 2) (eC (.int 1))) (e2 gIx (bVar 0) (eC (.int 1)))))) (mName 3))
    (sRet (eCall LPR.m_fraction (aCons (eVar 3) (aCons (eCall LPR.m_area (aCons (eVar 0) (aCons (eVar 1) (aCons (eVar 2) aNil)))) aNil)))))
def m_is_between : MF := mfn 3 3
    (sRet (eAnd (eChain gLtD gLtD (bVar 0) (bVar 2) (bVar 1)) (e2 gEq (eCall LPR.m_side (aCons (eVar 0) (aCons (eVar 1) (aCons (eVar 2) aNil)))) (eC (.int 0)))))
def m_is_clear : MF := mfn 3 4
    (sRet (eNot (eCal cAny (lCons (eList (nComp (lSeq (eVar 0)) (mName 3) [3] bYes (eCall LPR.m_is_between (aCons (eVar 1) (aCons (eVar 2) (aCons (eVar 3) aNil)))))) lNil))))
def m_ties : MF := mfn 1 4
    (sSeq (sOwn 1 (nLst lNil))
    (sSeq (sFor (nCal rng1 (lCons (eCal cLen (lCons (bVar 0) lNil)) lNil)) (mName 2) (sExt 1 (eList (nComp (lSeq (eCut (bVar 0) (pSome (e2 gAdd (bVar 2) (eC (.int 1)))) pNone)) (mName 3) [3] (tOf (eCall LPR.m_is_clear (aCons (eVar 0) (aCons (e2 gIx (bVar 0) (bVar 2)) (aCons (eVar 3) aNil))))) (eTup (lCons (e2 gIx (bVar 0) (bVar 2)) (lCons (eVar 3) lNil)))))))
    (sRet (eCal cTuple (lCons (bVar 1) lNil)))))
def m_cross : MF := mfn 2 6
    (sSeq (sAsg (eVar 0) (mSeq 2 (mgCons (mName 2) (mgCons (mName 3) mgNil))))
    (sSeq (sAsg (eVar 1) (mSeq 2 (mgCons (mName 4) (mgCons (mName 5) mgNil))))
    (sRet (eAnd (e2 gLtD (e2 gMulI (eCall LPR.m_side (aCons (eVar 2) (aCons (eVar 3) (aCons (eVar 4) aNil)))) (eCall LPR.m_side (aCons (eVar 2) (aCons (eVar 3) (aCons (eVar 5) aNil))))) (eC (.int 0))) (e2 gLtD (e2 gMulI (eCall LPR.m_side (aCons (eVar 4) (aCons (eVar 5) (aCons (eVar 2) aNil)))) (eCall LPR.m_side (aCons (eVar 4) (aCons (eVar 5) (aCons (eVar 3) aNil))))) (eC (.int 0)))))))
def m_chain : MF := mfn 1 3
    (sSeq (sOwn 1 (nLst lNil))
    (sSeq (sFor (lSeq (eVar 0)) (mName 2) (sSeq (sWhile (fuelS) (bAnd (tOf (e2 gGtD (eCal cLen (lCons (bVar 1) lNil)) (eC (.int 1)))) (tOf (e2 gLtD (eCall LPR.m_side (aCons (e2 gIx (bVar 1) (e1 gNeg (eC (.int 2)))) (aCons (e2 gIx (bVar 1) (e1 gNeg (eC (.int 1)))) (aCons (eVar 2) aNil)))) (eC (.int 0))))) (sPop 1))
    (sApp 1 (eVar 2))))
    (sFrz 1 (sRet (eVar 1)))))
def m_lower : MF := mfn 1 1
    (sRet (eCal cTuple (lCons (eCall LPR.m_chain (aCons (eVar 0) aNil)) lNil)))
def m_upper : MF := mfn 1 1
    (sRet (eCal cTuple (lCons (e1 gRevA (eCall LPR.m_chain (aCons (e1 gRevA (bVar 0)) aNil))) lNil)))
def m_hull : MF := mfn 1 1
    (sRet (e2 gAdd (eCut (eCall LPR.m_lower (aCons (eVar 0) aNil)) pNone (pSome (e1 gNeg (eC (.int 1))))) (eRevT (eCall LPR.m_upper (aCons (eVar 0) aNil)) (pSome (eC (.int 0))))))
def m_hull_area : MF := mfn 1 3
    (sSeq (sAsg (eCall LPR.m_hull (aCons (eVar 0) aNil)) (mName 1))
    (sRet (eCal cSum (lCons (eList (nComp (nCal rng2 (lCons (eC (.int 1)) (lCons (e2 gSub (eCal cLen (lCons (bVar 1) lNil)) (eC (.int 1))) lNil))) (mName 2) [2] bYes (eCall LPR.m_area (aCons (e2 gIx (bVar 1) (eC (.int 0))) (aCons (e2 gIx (bVar 1) (bVar 2)) (aCons (e2 gIx (bVar 1) (e2 gAdd (bVar 2) (eC (.int 1)))) aNil)))))) lNil))))
def m_has_within : MF := mfn 4 5
    (sSeq (sAsg (eList (nLst (lCons (eCall LPR.m_side (aCons (eVar 0) (aCons (eVar 1) (aCons (eVar 3) aNil)))) (lCons (eCall LPR.m_side (aCons (eVar 1) (aCons (eVar 2) (aCons (eVar 3) aNil)))) (lCons (eCall LPR.m_side (aCons (eVar 2) (aCons (eVar 0) (aCons (eVar 3) aNil)))) lNil))))) (mName 4))
    (sRet (eNot (eAnd (e2 gInX (eC (.int 1)) (bVar 4)) (e2 gInX (e1 gNeg (eC (.int 1))) (bVar 4))))))
def m_is_void : MF := mfn 4 5
    (sRet (eNot (eCal cAny (lCons (eList (nComp (lSeq (eVar 0)) (mName 4) [4] (bAnd (tOf (eChain gLtD gLtD (bVar 1) (bVar 4) (bVar 3))) (tOf (e2 gNe (bVar 4) (bVar 2)))) (eCall LPR.m_has_within (aCons (eVar 1) (aCons (eVar 2) (aCons (eVar 3) (aCons (eVar 4) aNil))))))) lNil))))
def m_is_triangle : MF := mfn 2 6
    (sSeq (sIf (bOr (bNot (tOf (e1 (gIsi .tuple) (bVar 1)))) (bOr (tOf (e2 gNe (eCal cLen (lCons (bVar 1) lNil)) (eC (.int 3)))) (bNot (tOf (eCal cAll (lCons (eList (nComp (lSeq (eVar 1)) (mName 2) [2] bYes (eAnd (eCall LPR.m_is_point (aCons (eVar 2) aNil)) (e2 gInX (bVar 2) (bVar 0))))) lNil)))))) (sRet (eC (.bool false))) sNext)
    (sSeq (sAsg (eVar 1) (mSeq 3 (mgCons (mName 3) (mgCons (mName 4) (mgCons (mName 5) mgNil)))))
    (sRet (eAnd (eChain gLtD gLtD (bVar 3) (bVar 4) (bVar 5)) (eAnd (e2 gNe (eCall LPR.m_side (aCons (eVar 3) (aCons (eVar 4) (aCons (eVar 5) aNil)))) (eC (.int 0))) (eCall LPR.m_is_void (aCons (eVar 0) (aCons (eVar 3) (aCons (eVar 4) (aCons (eVar 5) aNil))))))))))
def m_triangles : MF := mfn 1 7
    (sSeq (sOwn 1 (nLst lNil))
    (sSeq (sFor (nCal rng1 (lCons (eCal cLen (lCons (bVar 0) lNil)) lNil)) (mName 2) (sFor (nCal rng2 (lCons (e2 gAdd (bVar 2) (eC (.int 1))) (lCons (eCal cLen (lCons (bVar 0) lNil)) lNil))) (mName 3) (sSeq (sAsg (eList (nComp (lSeq (eCut (bVar 0) (pSome (e2 gAdd (bVar 3) (eC (.int 1)))) pNone)) (mName 5) [5] bYes (eTup (lCons (e2 gIx (bVar 0) (bVar 2)) (lCons (e2 gIx (bVar 0) (bVar 3)) (lCons (eVar 5) lNil)))))) (mName 4))
    (sExt 1 (eList (nComp (lSeq (eVar 4)) (mName 6) [6] (tOf (eCall LPR.m_is_triangle (aCons (eVar 0) (aCons (eVar 6) aNil)))) (eVar 6)))))))
    (sRet (eCal cTuple (lCons (bVar 1) lNil)))))
def m_sides_of : MF := mfn 1 4
    (sSeq (sAsg (eVar 0) (mSeq 3 (mgCons (mName 1) (mgCons (mName 2) (mgCons (mName 3) mgNil)))))
    (sRet (eList (nLst (lCons (eTup (lCons (eVar 1) (lCons (eVar 2) lNil))) (lCons (eTup (lCons (eVar 1) (lCons (eVar 3) lNil))) (lCons (eTup (lCons (eVar 2) (lCons (eVar 3) lNil))) lNil)))))))
def m_over : MF := mfn 2 4
    (sSeq (sIf (tOf (e2 gEq (bVar 0) (bVar 1))) (sRet (eC (.bool true))) sNext)
    (sRet (eCal cAny (lCons (eList (nComp (lSeq (eCall LPR.m_sides_of (aCons (eVar 0) aNil))) (mName 3) [3] bYes (eCal cAny (lCons (eList (nComp (lSeq (eCall LPR.m_sides_of (aCons (eVar 1) aNil))) (mName 2) [2] bYes (eCall LPR.m_cross (aCons (eVar 3) (aCons (eVar 2) aNil))))) lNil)))) lNil))))
def m_least_corner : MF := mfn 1 6
    (sSeq (sAsg (eVar 0) (mSeq 3 (mgCons (mName 1) (mgCons (mName 2) (mgCons (mName 3) mgNil)))))
    (sSeq (sAsg (eCall LPR.m_corner (aCons (eVar 1) (aCons (eVar 2) (aCons (eVar 3) aNil)))) (mName 4))
    (sSeq (sFor (lSeq (eTup (lCons (eCall LPR.m_corner (aCons (eVar 2) (aCons (eVar 1) (aCons (eVar 3) aNil)))) (lCons (eCall LPR.m_corner (aCons (eVar 3) (aCons (eVar 1) (aCons (eVar 2) aNil)))) lNil)))) (mName 5) (sIf (tOf (eCall LPR.m_less (aCons (eVar 4) (aCons (eVar 5) aNil)))) (sAsg (eVar 5) (mName 4)) sNext))
    (sRet (eVar 4)))))
def b_law : MS :=
    (sRet (eC (.bool true)))
end LPR

/-! mirrors of hl (printed by gen.py) -/
namespace LHL
open DL
def m_law_amid : MF := mfn 3 3
    (sSeq (sIf (tOf (e2 gNe (eCall LTR.m_law_turn (aCons (eVar 0) (aCons (eVar 1) (aCons (eVar 2) aNil)))) (eC (.int 0)))) (sRet (eC (.bool false))) sNext)
    (sRet (e2 gLtD (e2 gAdd (e2 gMulI (e2 gSub (e2 gIx (bVar 0) (eC (.int 0))) (e2 gIx (bVar 2) (eC (.int 0)))) (e2 gSub (e2 gIx (bVar 1) (eC (.int 0))) (e2 gIx (bVar 2) (eC (.int 0))))) (e2 gMulI (e2 gSub (e2 gIx (bVar 0) (eC (.int 1))) (e2 gIx (bVar 2) (eC (.int 1)))) (e2 gSub (e2 gIx (bVar 1) (eC (.int 1))) (e2 gIx (bVar 2) (eC (.int 1)))))) (eC (.int 0)))))
def m_law_next : MF := mfn 2 6
    (sSeq (sFor (lSeq (eVar 0)) (mName 2) (sSeq (sAsg (eList (nComp (lSeq (eVar 0)) (mName 4) [4] (tOf (e2 gLtD (eCall LTR.m_law_turn (aCons (eVar 1) (aCons (eVar 2) (aCons (eVar 4) aNil)))) (eC (.int 0)))) (eVar 4))) (mName 3))
    (sSeq (sAsg (eList (nComp (lSeq (eVar 0)) (mName 4) [4] (tOf (eCall LHL.m_law_amid (aCons (eVar 1) (aCons (eVar 2) (aCons (eVar 4) aNil))))) (eVar 4))) (mName 5))
    (sIf (bAnd (tOf (e2 gNe (bVar 2) (bVar 1))) (bAnd (tOf (e2 gEq (bVar 3) (eList (nLst lNil)))) (tOf (e2 gEq (bVar 5) (eList (nLst lNil)))))) (sRet (eVar 2)) sNext))))
    (sRet (eVar 1)))
def m_law_rim : MF := mfn 1 4
    (sSeq (sOwn 1 (nLst (lCons (e2 gIx (bVar 0) (eC (.int 0))) lNil)))
    (sSeq (sFor (nCal rng1 (lCons (eCal cLen (lCons (bVar 0) lNil)) lNil)) (mName 2) (sSeq (sAsg (eCall LHL.m_law_next (aCons (eVar 0) (aCons (e2 gIx (bVar 1) (e1 gNeg (eC (.int 1)))) aNil))) (mName 3))
    (sSeq (sIf (tOf (e2 gEq (bVar 3) (e2 gIx (bVar 0) (eC (.int 0))))) (sFrz 1 (sRet (eVar 1))) sNext)
    (sApp 1 (eVar 3)))))
    (sFrz 1 (sRet (eVar 1)))))
def b_law : MS :=
    (sRet (eC (.bool true)))
end LHL

/-! mirrors of p2 (printed by gen.py) -/
namespace LP2
open DL
def m_is_tie : MF := mfn 2 3
    (sSeq (sIf (bOr (bNot (tOf (e1 (gIsi .tuple) (bVar 1)))) (bOr (tOf (e2 gNe (eCal cLen (lCons (bVar 1) lNil)) (eC (.int 2)))) (bNot (tOf (eCal cAll (lCons (eList (nComp (lSeq (eVar 1)) (mName 2) [2] bYes (eAnd (eCall LPR.m_is_point (aCons (eVar 2) aNil)) (e2 gInX (bVar 2) (bVar 0))))) lNil)))))) (sRet (eC (.bool false))) sNext)
    (sRet (eAnd (e2 gLtD (e2 gIx (bVar 1) (eC (.int 0))) (e2 gIx (bVar 1) (eC (.int 1)))) (eCall LPR.m_is_clear (aCons (eVar 0) (aCons (e2 gIx (bVar 1) (eC (.int 0))) (aCons (e2 gIx (bVar 1) (eC (.int 1))) aNil)))))))
def m_crossing : MF := mfn 2 3
    (sRet (eCal cTuple (lCons (eList (nComp (lSeq (eCall LPR.m_ties (aCons (eVar 0) aNil))) (mName 2) [2] (tOf (eCall LPR.m_cross (aCons (eVar 1) (aCons (eVar 2) aNil)))) (eVar 2))) lNil)))
def b_law : MS :=
    (sRet (eC (.bool true)))
end LP2

/-! mirrors of bt (printed by gen.py) -/
namespace LBT
open DL
def m_law_odd : MF := mfn 1 2
    (sSeq (sOwn 1 (nLst (lCons (eC .none) (lCons (eC (.bool true)) (lCons (eC (.bool false)) (lCons (eC (.str (PySem.Str.ofString ""))) (lCons (eC (.str (PySem.Str.ofString "a"))) (lCons (eC (.str (PySem.Str.ofString "1"))) (lCons (eTup lNil) (lCons (eList (nLst lNil)) (lCons (eTup (lCons (eC (.int 0)) lNil)) (lCons (eList (nLst (lCons (eC (.int 1)) (lCons (eC (.int 2)) lNil)))) (lCons (e1 gNeg (eC (.int 1))) (lCons (eC (.int 0)) (lCons (eC (.int 1)) (lCons (eC (.int 2)) (lCons (e2 gPow (eC (.int 10)) (eC (.int 60))) (lCons (eTup (lCons (eC (.int 0)) (lCons (eC (.int 1)) lNil))) (lCons (eTup (lCons (eC (.int 1)) (lCons (eTup (lCons (eC (.int 0)) (lCons (eC (.int 1)) lNil))) lNil))) lNil)))))))))))))))))))
    (sSeq (sApp 1 (eTup (lCons (eTup (lCons (eC (.int 0)) (lCons (eC (.int 0)) lNil))) lNil)))
    (sRet (e2 gIx (bVar 1) (eCall LFD.m_law_draw (aTape 0 (aCons (eC (.int 18)) aNil)))))))
def st_law_bent (g : MF) : MF := mfn 3 7
    (sSeq (sIf (bAnd (tOf (e1 (gIsi .tuple) (bVar 1))) (bAnd (tOf (e2 gGtD (eCal cLen (lCons (bVar 1) lNil)) (eC (.int 0)))) (bAnd (tOf (e2 gGtD (bVar 2) (eC (.int 0)))) (tOf (e2 gGtD (eCall LFD.m_law_draw (aTape 0 (aCons (eC (.int 4)) aNil))) (eC (.int 0))))))) (sSeq (sAsg (eCall LFD.m_law_draw (aTape 0 (aCons (eCal cLen (lCons (bVar 1) lNil)) aNil))) (mName 3))
    (sRet (e2 gAdd (e2 gAdd (eCut (bVar 1) pNone (pSome (bVar 3))) (eTup (lCons (eCall g (aTape 0 (aCons (e2 gIx (bVar 1) (bVar 3)) (aCons (e2 gSub (bVar 2) (eC (.int 1))) aNil)))) lNil))) (eCut (bVar 1) (pSome (e2 gAdd (bVar 3) (eC (.int 1)))) pNone)))) sNext)
    (sSeq (sAsg (eCall LFD.m_law_draw (aTape 0 (aCons (eC (.int 6)) aNil))) (mName 4))
    (sSeq (sAsg (eCall LBT.m_law_odd (aTape 0 aNil)) (mName 5))
    (sSeq (sIf (tOf (e1 (gIsi .tuple) (bVar 1))) (sSeq (sAsg (eCall LFD.m_law_draw (aTape 0 (aCons (e2 gAdd (eCal cLen (lCons (bVar 1) lNil)) (eC (.int 1))) aNil))) (mName 3))
    (sSeq (sAsg (eList (nLst (lCons (eList (nCal cList (lCons (bVar 1) lNil))) (lCons (e2 gAdd (e2 gAdd (eCut (bVar 1) pNone (pSome (bVar 3))) (eTup (lCons (eVar 5) lNil))) (eCut (bVar 1) (pSome (bVar 3)) pNone)) (lCons (e2 gAdd (eCut (bVar 1) pNone (pSome (bVar 3))) (eCut (bVar 1) (pSome (e2 gAdd (bVar 3) (eC (.int 1)))) pNone)) (lCons (e2 gAdd (eCut (bVar 1) pNone (pSome (e2 gAdd (bVar 3) (eC (.int 1))))) (eCut (bVar 1) (pSome (bVar 3)) pNone)) lNil)))))) (mName 6))
    (sRet (e2 gIx (e2 gAdd (bVar 6) (eList (nLst (lCons (e2 gAdd (e2 gAdd (eCut (bVar 1) pNone (pSome (bVar 3))) (e1 gRevA (eCut (bVar 1) (pSome (bVar 3)) (pSome (e2 gAdd (bVar 3) (eC (.int 2))))))) (eCut (bVar 1) (pSome (e2 gAdd (bVar 3) (eC (.int 2)))) pNone)) (lCons (e1 gRevA (bVar 1)) lNil))))) (bVar 4))))) sNext)
    (sSeq (sIf (bAnd (tOf (e1 (gIsi .int) (bVar 1))) (bNot (tOf (e1 (gIsi .bool) (bVar 1))))) (sRet (e2 gIx (eList (nLst (lCons (e2 gAdd (bVar 1) (eC (.int 1))) (lCons (e2 gSub (bVar 1) (eC (.int 1))) (lCons (e2 gSub (eC (.int 0)) (bVar 1)) (lCons (e2 gEq (bVar 1) (eC (.int 1))) (lCons (eCal cStr (lCons (bVar 1) lNil)) (lCons (eVar 5) lNil)))))))) (bVar 4))) sNext)
    (sRet (eVar 5)))))))
def m_law_bent_0 : MF := fun _ => M.fail
def m_law_bent_1 : MF := st_law_bent m_law_bent_0
def m_law_bent_2 : MF := st_law_bent m_law_bent_1
def m_law_bent_3 : MF := st_law_bent m_law_bent_2
def m_law_bent : MF := st_law_bent m_law_bent_3
def b_law : MS :=
    (sRet (eC (.bool true)))
end LBT

/-! mirrors of cm (printed by gen.py) -/
namespace LCM
open DL
def m_law_common : MF := mfn 2 3
    (sSeq (sIf (bOr (tOf (e2 gEq (bVar 0) (eC (.int 0)))) (tOf (e2 gEq (bVar 1) (eC (.int 0))))) (sRet (e2 gAdd (bVar 0) (bVar 1))) sNext)
    (sSeq (sAsg (eC (.int 1)) (mName 2))
    (sSeq (sWhile (fuelS) (bAnd (tOf (e2 gEq (e2 gMod (bVar 0) (eC (.int 2))) (eC (.int 0)))) (tOf (e2 gEq (e2 gMod (bVar 1) (eC (.int 2))) (eC (.int 0))))) (sPar3 0 1 2 (lCons (e2 gDiv (bVar 0) (eC (.int 2))) (lCons (e2 gDiv (bVar 1) (eC (.int 2))) (lCons (e2 gMulI (bVar 2) (eC (.int 2))) lNil)))))
    (sSeq (sWhile (fuelS) (tOf (e2 gNe (bVar 0) (bVar 1))) (sSeq (sWhile (fuelS) (tOf (e2 gEq (e2 gMod (bVar 0) (eC (.int 2))) (eC (.int 0)))) (sAsg (e2 gDiv (bVar 0) (eC (.int 2))) (mName 0)))
    (sSeq (sWhile (fuelS) (tOf (e2 gEq (e2 gMod (bVar 1) (eC (.int 2))) (eC (.int 0)))) (sAsg (e2 gDiv (bVar 1) (eC (.int 2))) (mName 1)))
    (sIf (tOf (e2 gGtD (bVar 0) (bVar 1))) (sAsg (e2 gSub (bVar 0) (bVar 1)) (mName 0)) (sIf (tOf (e2 gGtD (bVar 1) (bVar 0))) (sAsg (e2 gSub (bVar 1) (bVar 0)) (mName 1)) sNext)))))
    (sRet (e2 gMulI (bVar 0) (bVar 2)))))))
def b_law : MS :=
    (sRet (eC (.bool true)))
end LCM

/-! mirrors of k15 (printed by gen.py) -/
namespace LK15
open DL
def m_law_second : MF := mfn 2 8
    (sSeq (sAsg (eCall LFD.m_law_draw (aTape 0 (aCons (eC (.int 3)) aNil))) (mName 2))
    (sSeq (sIf (tOf (e2 gEq (bVar 2) (eC (.int 0)))) (sRet (eCall LFD.m_law_field (aTape 0 (aCons (eC (.int 9)) aNil)))) sNext)
    (sSeq (sIf (tOf (e2 gEq (bVar 2) (eC (.int 1)))) (sSeq (sAsg (eIf (tOf (e2 gLtD (e2 gIx (e2 gIx (bVar 1) (e1 gNeg (eC (.int 1)))) (eC (.int 0))) (eC (.int 1000)))) (eC (.int 1)) (e1 gNeg (eC (.int 1)))) (mName 3))
    (sSeq (sAsg (eCal cTuple (lCons (eList (nComp (lSeq (eVar 1)) (mName 5) [5] bYes (eTup (lCons (e2 gAdd (e2 gIx (bVar 5) (eC (.int 0))) (bVar 3)) (lCons (e2 gIx (bVar 5) (eC (.int 1))) lNil))))) lNil)) (mName 4))
    (sRet (eIf (tOf (e2 gGeD (e2 gIx (eCal cMinT (lCons (bVar 4) lNil)) (eC (.int 0))) (e1 gNeg (eC (.int 1000))))) (eVar 4) (eVar 1))))) sNext)
    (sSeq (sAsg (eCall LFD.m_law_draw (aTape 0 (aCons (eCal cLen (lCons (bVar 1) lNil)) aNil))) (mName 6))
    (sSeq (sAsg (eList (nCal cSortSetT (lCons (e2 gAdd (e2 gAdd (eCut (bVar 1) pNone (pSome (bVar 6))) (eCut (bVar 1) (pSome (e2 gAdd (bVar 6) (eC (.int 1)))) pNone)) (eTup (lCons (eTup (lCons (eCall LFD.m_law_draw (aTape 0 (aCons (eC (.int 9)) aNil))) (lCons (eCall LFD.m_law_draw (aTape 0 (aCons (eC (.int 9)) aNil))) lNil))) lNil))) lNil))) (mName 7))
    (sRet (eIf (bOr (tOf (e2 gLtD (eCal cLen (lCons (bVar 7) lNil)) (eC (.int 3)))) (tOf (eCall LFD.m_law_on_line (aCons (eVar 7) aNil)))) (eVar 1) (eCal cTuple (lCons (bVar 7) lNil)))))))))
def m_law_asked : MF := mfn 2 4
    (sSeq (sIf (tOf (e2 gEq (bVar 0) (eC (.int 0)))) (sRet (eCall LPR.m_hull (aCons (eVar 1) aNil))) sNext)
    (sSeq (sIf (tOf (e2 gEq (bVar 0) (eC (.int 1)))) (sRet (eCall LPR.m_hull_area (aCons (eVar 1) aNil))) sNext)
    (sSeq (sIf (tOf (e2 gEq (bVar 0) (eC (.int 2)))) (sRet (eCall LPR.m_lower (aCons (eVar 1) aNil))) sNext)
    (sSeq (sIf (tOf (e2 gEq (bVar 0) (eC (.int 3)))) (sRet (eCall LPR.m_upper (aCons (eVar 1) aNil))) sNext)
    (sSeq (sIf (tOf (e2 gEq (bVar 0) (eC (.int 4)))) (sRet (eCall LPR.m_ties (aCons (eVar 1) aNil))) sNext)
    (sSeq (sIf (tOf (e2 gEq (bVar 0) (eC (.int 5)))) (sRet (eCall LPR.m_triangles (aCons (eVar 1) aNil))) sNext)
    (sSeq (sIf (tOf (e2 gInX (bVar 0) (eTup (lCons (eC (.int 6)) (lCons (eC (.int 7)) lNil))))) (sSeq (sAsg (eCall LPR.m_ties (aCons (eVar 1) aNil)) (mName 2))
    (sRet (eCall LP2.m_crossing (aCons (eVar 1) (aCons (e2 gIx (bVar 2) (e2 gDiv (e2 gSub (e2 gAdd (eCal cLen (lCons (bVar 2) lNil)) (bVar 0)) (eC (.int 7))) (eC (.int 2)))) aNil))))) sNext)
    (sRet (eCal cTuple (lCons (eList (nComp (lSeq (eCall LPR.m_triangles (aCons (eVar 1) aNil))) (mName 3) [3] bYes (eCall LPR.m_least_corner (aCons (eVar 3) aNil)))) lNil))))))))))
def m_law_again_right : MF := mfn 2 6
    (sSeq (sPar 2 3 (lCons (eCall LPR.m_ties (aCons (eVar 1) aNil)) (lCons (eCall LPR.m_triangles (aCons (eVar 1) aNil)) lNil)))
    (sSeq (sFor (lSeq (eCall LPR.m_ties (aCons (eVar 0) aNil))) (mName 4) (sIf (bOr (tOf (e2 gNe (eCal cReprX (lCons (eCall LP2.m_is_tie (aCons (eVar 0) (aCons (eVar 4) aNil))) lNil)) (eCal cReprX (lCons (eC (.bool true)) lNil)))) (tOf (e2 gNe (eCal cReprX (lCons (eCall LP2.m_is_tie (aCons (eVar 1) (aCons (eVar 4) aNil))) lNil)) (eCal cReprX (lCons (e2 gInX (bVar 4) (bVar 2)) lNil))))) (sRet (eC (.bool false))) sNext))
    (sSeq (sFor (lSeq (eCall LPR.m_triangles (aCons (eVar 0) aNil))) (mName 5) (sIf (bOr (tOf (e2 gNe (eCal cReprX (lCons (eCall LPR.m_is_triangle (aCons (eVar 0) (aCons (eVar 5) aNil))) lNil)) (eCal cReprX (lCons (eC (.bool true)) lNil)))) (tOf (e2 gNe (eCal cReprX (lCons (eCall LPR.m_is_triangle (aCons (eVar 1) (aCons (eVar 5) aNil))) lNil)) (eCal cReprX (lCons (e2 gInX (bVar 5) (bVar 3)) lNil))))) (sRet (eC (.bool false))) sNext))
    (sRet (eC (.bool true))))))
def b_law : MS :=
    (sSeq (sAsg (eCall LFD.m_law_field (aTape 1 (aCons (eC (.int 9)) aNil))) (mName 2))
    (sSeq (sAsg (eList (nLst (lCons (eVar 2) (lCons (eCall LK15.m_law_second (aTape 1 (aCons (eVar 2) aNil))) lNil)))) (mName 3))
    (sSeq (sAsg (eCal cReprX (lCons (bVar 3) lNil)) (mName 4))
    (sSeq (sAsg (eList (nComp (lSeq (eVar 3)) (mName 7) [7] bYes (eList (nComp (nCal rng1 (lCons (eC (.int 9)) lNil)) (mName 6) [6] bYes (eCal cReprX (lCons (eCall LK15.m_law_asked (aCons (eVar 6) (aCons (eVar 7) aNil))) lNil)))))) (mName 5))
    (sSeq (sFor (nCal rng1 (lCons (eC (.int 24)) lNil)) (mName 8) (sSeq (sPar 9 6 (lCons (e2 gMod (e2 gAdd (bVar 8) (eCall LFD.m_law_draw (aTape 1 (aCons (eC (.int 2)) aNil)))) (eC (.int 2))) (lCons (eCall LFD.m_law_draw (aTape 1 (aCons (eC (.int 9)) aNil))) lNil)))
    (sSeq (sAsg (eCall LK15.m_law_asked (aCons (eVar 6) (aCons (e2 gIx (bVar 3) (bVar 9)) aNil))) (mName 10))
    (sIf (bOr (tOf (e2 gNe (eCal cReprX (lCons (bVar 10) lNil)) (e2 gIx (e2 gIx (bVar 5) (bVar 9)) (bVar 6)))) (tOf (e2 gEq (e1 (gIsi .tuple) (bVar 10)) (e2 gEq (bVar 6) (eC (.int 1)))))) (sRet (eC (.bool false))) sNext))))
    (sSeq (sIf (bOr (bNot (tOf (eCall LK15.m_law_again_right (aCons (e2 gIx (bVar 3) (eC (.int 0))) (aCons (e2 gIx (bVar 3) (eC (.int 1))) aNil))))) (bNot (tOf (eCall LK15.m_law_again_right (aCons (e2 gIx (bVar 3) (eC (.int 1))) (aCons (e2 gIx (bVar 3) (eC (.int 0))) aNil)))))) (sRet (eC (.bool false))) sNext)
    (sRet (e2 gEq (eCal cReprX (lCons (bVar 3) lNil)) (bVar 4)))))))))
end LK15

set_option maxHeartbeats 1000000
namespace LFD
open DL PySem
local macro_rules | `(tactic| walk_at "ev") => `(tactic| (try simp only [x_pb, x_fb, x_ba, x_ls, x_ln, x_eVar, x_bVar, x_rdF, x_rdB, x_eC, x_e2, x_e1, x_eList, x_eTup, x_nLst, x_lNil, x_lCons, x_aNil, x_aCons, x_aTape, x_isTp, x_eCal, x_nCal, x_eCall, x_eCut, x_pNone, x_pSome, x_tOf, x_bAnd, x_bOr, x_bNot, x_eIf, x_eAnd, x_eOr, x_eNot, x_eChain, x_lSeq, x_nComp, x_sNext, x_sSeq, x_atN, x_atR, x_atB, x_atC, x_sDrop, x_sRet, x_sIf, x_sAsg, x_mName, x_mSeq, x_mgNil, x_mgCons, x_sOwn, x_sFrz, x_frz, x_sApp, x_owOf, x_sSetI, x_sPar, x_sPar3, x_sFor, x_forN, x_forC, x_loN, x_loC, x_loB, x_loR, x_cN, x_cC, x_bYes, x_oR, x_oN, x_mf0, x_mf1, x_mf2, x_mf3, x_mf4, x_mf5, x_tput, x_sExt, x_nRev, v_isII, v_isBI, v_in3, v_ltDI, v_gtDI, v_leDI, v_geDI, List.getElem?_cons_zero, List.getElem?_cons_succ, List.set_cons_zero, List.set_cons_succ, List.replicate_succ, List.replicate_zero, List.cons_append, List.nil_append, List.length_cons, List.length_nil, v_sub, v_add, v_neg, v_lt, v_le, v_gt, v_ge, v_abs, v_max, v_min, v_intI, v_intB, v_lenL, v_lenT, v_tupL, v_tupT, v_listL, v_listT, v_ixL, v_ixT, v_at0, v_at1, v_at2, v_bool, v_seqL, v_seqT, v_intOf, v_ok0, v_ok1, v_ok2, v_ok3, v_ok4, v_okn, v_ok5, v_ok6, v_ok7, v_ok8, v_ok9, v_ok10, v_ok11, v_ok12, v_ok13, v_ok14, v_ok15, v_ok16, v_ok17, v_ok18, v_ok19, v_ok20, v_ok21, v_ok22, v_ok23, v_ok24, v_ok25, v_ok26, v_ok27, v_ok28, v_ok29, v_ok30, v_ok31, v_ok32, gEq_int, gNe_int, v_rng1, v_rng2, okRg, Int.reducePow, Nat.sub_self, Nat.reduceSub, Nat.reduceAdd, unAll, if_true, if_false, Option.bind_some, Option.bind_none, ite_true, ite_false, Bool.false_eq_true, rgD, Int.reduceBEq, Int.reduceToNat, Int.reduceLT, Int.reduceLE, Int.reduceMul, Int.reduceAdd, Int.reduceSub, Int.reduceNeg, Nat.reduceMul, Nat.reduceLT, Nat.reduceBEq, decide_true, decide_false, Bool.and_true, Bool.true_and, Bool.and_self, Bool.not_true, Bool.not_false, BEq.rfl, reduceIte]))
local macro_rules | `(tactic| walk_at "evt") => `(tactic| (try simp only [x_pb, x_fb, x_ba, x_ls, x_ln, x_eVar, x_bVar, x_rdF, x_rdB, x_eC, x_e2, x_e1, x_eList, x_eTup, x_nLst, x_lNil, x_lCons, x_aNil, x_aCons, x_aTape, x_isTp, x_eCal, x_nCal, x_eCall, x_eCut, x_pNone, x_pSome, x_tOf, x_bAnd, x_bOr, x_bNot, x_eIf, x_eAnd, x_eOr, x_eNot, x_eChain, x_lSeq, x_nComp, x_sNext, x_sSeq, x_atN, x_atR, x_atB, x_atC, x_sDrop, x_sRet, x_sIf, x_sAsg, x_mName, x_mSeq, x_mgNil, x_mgCons, x_sOwn, x_sFrz, x_frz, x_sApp, x_owOf, x_sSetI, x_sPar, x_sPar3, x_sFor, x_forN, x_forC, x_loN, x_loC, x_loB, x_loR, x_cN, x_cC, x_bYes, x_oR, x_oN, x_mf0, x_mf1, x_mf2, x_mf3, x_mf4, x_mf5, x_tput, x_sExt, x_nRev, v_isII, v_isBI, v_in3, v_ltDI, v_gtDI, v_leDI, v_geDI, List.getElem?_cons_zero, List.getElem?_cons_succ, List.set_cons_zero, List.set_cons_succ, List.replicate_succ, List.replicate_zero, List.cons_append, List.nil_append, List.length_cons, List.length_nil, v_sub, v_add, v_neg, v_lt, v_le, v_gt, v_ge, v_abs, v_max, v_min, v_intI, v_intB, v_lenL, v_lenT, v_tupL, v_tupT, v_listL, v_listT, v_ixL, v_ixT, v_at0, v_at1, v_at2, v_bool, v_seqL, v_seqT, v_intOf, v_ok0, v_ok1, v_ok2, v_ok3, v_ok4, v_okn, v_ok5, v_ok6, v_ok7, v_ok8, v_ok9, v_ok10, v_ok11, v_ok12, v_ok13, v_ok14, v_ok15, v_ok16, v_ok17, v_ok18, v_ok19, v_ok20, v_ok21, v_ok22, v_ok23, v_ok24, v_ok25, v_ok26, v_ok27, v_ok28, v_ok29, v_ok30, v_ok31, v_ok32, gEq_int, gNe_int, v_rng1, v_rng2, okRg, Int.reducePow, Nat.sub_self, Nat.reduceSub, Nat.reduceAdd, unAll, if_true, if_false, Option.bind_some, Option.bind_none, ite_true, ite_false, Bool.false_eq_true, rgD, Int.reduceBEq, Int.reduceToNat, Int.reduceLT, Int.reduceLE, Int.reduceMul, Int.reduceAdd, Int.reduceSub, Int.reduceNeg, Nat.reduceMul, Nat.reduceLT, Nat.reduceBEq, decide_true, decide_false, Bool.and_true, Bool.true_and, Bool.and_self, Bool.not_true, Bool.not_false, BEq.rfl, reduceIte, bnd_ap, pure_ap, lift_ap, fail_ap, ite_ap, x_tget, x_doPut, fldOf, tSet, Option.map_some, Option.map_none, beq_self_eq_true, Bool.and_true, Bool.true_and]))
local macro_rules | `(tactic| walk_at "ev1") => `(tactic| (try simp only [x_pb, x_fb, x_ba, x_ls, x_ln, x_eVar, x_bVar, x_rdF, x_rdB, x_eC, x_e2, x_e1, x_eList, x_eTup, x_nLst, x_lNil, x_lCons, x_aNil, x_aCons, x_aTape, x_isTp, x_eCal, x_nCal, x_eCall, x_eCut, x_pNone, x_pSome, x_tOf, x_bAnd, x_bOr, x_bNot, x_eIf, x_eAnd, x_eOr, x_eNot, x_eChain, x_lSeq, x_nComp, x_sNext, x_sSeq, x_atN, x_atR, x_atB, x_atC, x_sDrop, x_sRet, x_sIf, x_sAsg, x_mName, x_mSeq, x_mgNil, x_mgCons, x_sOwn, x_sFrz, x_frz, x_sApp, x_owOf, x_sSetI, x_sPar, x_sPar3, x_sFor, x_forN, x_forC, x_loN, x_loC, x_loB, x_loR, x_cN, x_cC, x_bYes, x_oR, x_oN, x_mf0, x_mf1, x_mf2, x_mf3, x_mf4, x_mf5, x_tput, x_sExt, x_nRev, v_isII, v_isBI, v_in3, v_ltDI, v_gtDI, v_leDI, v_geDI, List.getElem?_cons_zero, List.getElem?_cons_succ, List.set_cons_zero, List.set_cons_succ, List.replicate_succ, List.replicate_zero, List.cons_append, List.nil_append, List.length_cons, List.length_nil, v_sub, v_add, v_neg, v_lt, v_le, v_gt, v_ge, v_abs, v_max, v_min, v_intI, v_intB, v_lenL, v_lenT, v_tupL, v_tupT, v_listL, v_listT, v_ixL, v_ixT, v_at0, v_at1, v_at2, v_bool, v_seqL, v_seqT, v_intOf, v_ok0, v_ok1, v_ok2, v_ok3, v_ok4, v_okn, v_ok5, v_ok6, v_ok7, v_ok8, v_ok9, v_ok10, v_ok11, v_ok12, v_ok13, v_ok14, v_ok15, v_ok16, v_ok17, v_ok18, v_ok19, v_ok20, v_ok21, v_ok22, v_ok23, v_ok24, v_ok25, v_ok26, v_ok27, v_ok28, v_ok29, v_ok30, v_ok31, v_ok32, gEq_int, gNe_int, v_rng1, v_rng2, okRg, Int.reducePow, Nat.sub_self, Nat.reduceSub, Nat.reduceAdd, unAll, if_true, if_false, Option.bind_some, Option.bind_none, ite_true, ite_false, Bool.false_eq_true, rgD, Int.reduceBEq, Int.reduceToNat, Int.reduceLT, Int.reduceLE, Int.reduceMul, Int.reduceAdd, Int.reduceSub, Int.reduceNeg, Nat.reduceMul, Nat.reduceLT, Nat.reduceBEq, decide_true, decide_false, Bool.and_true, Bool.true_and, Bool.and_self, Bool.not_true, Bool.not_false, BEq.rfl, reduceIte, v_mulS, v_modS, compGo_M, compM_map, compM_filter, compM_nil, x_ebool, x_bb, x_iband, x_ibor, x_band, x_bor, Bool.or_false, Bool.false_or, Bool.and_false, Bool.false_and, x_sWhile, v_revAL, v_revAT, v_revC0, x_eRevT, abs_ite, v_any3, v_atm1, v_atm2, v_atm3, v_lastT, v_lastL, Nat.add_zero, Nat.zero_add, nc0, nc1, nc2, nc3, nc4, nc5, nc6, x_pbool, Bool.true_or, Bool.or_true]))
theorem draw_gv {n : Int} (h0 : 0 < n) (h1 : n < 1000000000000000000) : Gv 0 (m_law_draw [.tp, .fz (.int n)]) 1 fun d => ∃ r : Int, d = .int r ∧ 0 ≤ r ∧ r < n := by
  intro B t ok hB
  obtain ⟨kd, cells, a, left, turn⟩ := t
  obtain ⟨rfl, a0, a1, t0, t1⟩ := ok
  dsimp only at a0 a1 t0 t1
  have hm : ∀ x : Int, okMod x n = true := fun x => okMod_of h0
  have hd : ∀ x : Int, okDiv x n = true := fun x => okDiv64 h0 (by omega)
  have fin : ∀ x : Int, 0 ≤ x % n ∧ x % n < n := fun x => ⟨Int.emod_nonneg _ (by omega), Int.emod_lt_of_pos _ h0⟩
  unfold m_law_draw
  walk_at "evt"
  by_cases hl : 0 < left
  · simp only [decide_eq_true hl, v_mod (hm _), v_div (hd _)]
    walk_at "evt"
    simp only [v_mod (hm _), v_div (hd _)]
    walk_at "evt"
    exact ⟨_, _, rfl, ⟨rfl, a0, by show a ≤ B + 1; omega, by show 0 ≤ turn + 1; omega, by show turn + 1 ≤ B + 1; omega⟩, _, rfl, fin _⟩
  · simp only [decide_eq_false hl]
    walk_at "evt"
    rw [v_neCells]
    walk_at "evt"
    have sel : ∃ c : Int, ∀ T : Tape, (if (!cells.isEmpty) = true then (Option.map (fun a => (a, T)) (gMod (.int a) (.int (List.map PyData.int cells).length))).bind fun p => Option.map (fun a => (a, p.snd)) (gIx (.list (List.map PyData.int cells)) p.fst) else some (.int 5, T)) = some (PyData.int c, T) := by
      by_cases he : cells = []
      · subst he
        exact ⟨5, fun _ => rfl⟩
      · obtain ⟨c, _, ec⟩ := v_atMod he a
        have hp : (0 : Int) < (List.map PyData.int cells).length := by
          cases cells with
          | nil => exact absurd rfl he
          | cons _ _ => simp
        refine ⟨c, fun T => ?_⟩
        have hne : (!cells.isEmpty) = true := by
          cases cells with
          | nil => exact absurd rfl he
          | cons _ _ => rfl
        rw [if_pos hne, v_mod (okMod_of hp)]
        show Option.map _ (L2.atI _ _) = _
        rw [ec]
        rfl
    obtain ⟨c, ec⟩ := sel
    rw [ec]
    walk_at "evt"
    rw [v_pow (show okPow 10 18 = true from rfl)]
    walk_at "evt"
    have T1 : (turn + 1).natAbs ≤ 100000000 := by omega
    have m1 : okMul (turn + 1) (turn + 1) = true := okMulB (Nat.le_trans T1 (by decide)) (Nat.le_trans T1 (by decide))
    have T2 := mulAbs (c := 10000000000000000) T1 T1 (by decide)
    have m2 : okMul ((turn + 1) * (turn + 1)) 31 = true := okMulB (Nat.le_trans T2 (by decide)) (by decide)
    have T3 := mulAbs (c := 1000000000000000000) (j := 31) (b := 31) T2 (by decide) (by decide)
    have c0 := Int.emod_nonneg c (show (1999999943 : Int) ≠ 0 by decide)
    have c1 := Int.emod_lt_of_pos c (show (0 : Int) < 1999999943 by decide)
    have T4 : (c % 1999999943 + 7).natAbs ≤ 2000000000 := by omega
    have T5 : ((turn + 1) * (turn + 1) * 31 + 40014).natAbs ≤ 1000000000000050000 := by omega
    have m3 : okMul (c % 1999999943 + 7) ((turn + 1) * (turn + 1) * 31 + 40014) = true := okMulB (Nat.le_trans T4 (by decide)) (Nat.le_trans T5 (by decide))
    rw [ite_pair]
    walk_at "evt"
    generalize (decide ((1000000000000000000 : Int) ≤ c) && decide (a < ((List.map PyData.int cells).length : Int))) = k
    cases k with
    | true =>
      walk_at "evt"
      simp only [v_mod (hm _), v_div (hd _)]
      walk_at "evt"
      simp only [v_mod (hm _)]
      walk_at "evt"
      exact ⟨_, _, rfl, ⟨rfl, by show 0 ≤ a + 1; omega, by show a + 1 ≤ B + 1; omega, by show 0 ≤ turn + 1; omega, by show turn + 1 ≤ B + 1; omega⟩, _, rfl, fin _⟩
    | false =>
      walk_at "evt"
      rw [v_mod (okMod_of (show (0 : Int) < 1999999943 by decide))]
      walk_at "evt"
      rw [v_mul m1]
      walk_at "evt"
      rw [v_mul m2]
      walk_at "evt"
      rw [v_mul m3]
      walk_at "evt"
      rw [v_mod (okMod_of (show (0 : Int) < 2147483563 by decide))]
      walk_at "evt"
      generalize hx : (c % 1999999943 + 7) * ((turn + 1) * (turn + 1) * 31 + 40014) % 2147483563 = x
      have x0 : 0 ≤ x := hx ▸ Int.emod_nonneg _ (by decide)
      have x1 : x < 2147483563 := hx ▸ Int.emod_lt_of_pos _ (by decide)
      have T6 : x.natAbs ≤ 2147483563 := by omega
      have m4 : okMul x x = true := okMulB (Nat.le_trans T6 (by decide)) (Nat.le_trans T6 (by decide))
      have m5 : okMul 104729 (turn + 1) = true := okMulB (by decide) (Nat.le_trans T1 (by decide))
      rw [v_mul m4]
      walk_at "evt"
      rw [v_mul m5]
      walk_at "evt"
      rw [v_mod (okMod_of (show (0 : Int) < 2147483399 by decide))]
      walk_at "evt"
      generalize hy : (x * x + 104729 * (turn + 1)) % 2147483399 = y
      have y0 : 0 ≤ y := hy ▸ Int.emod_nonneg _ (by decide)
      have y1 : y < 2147483399 := hy ▸ Int.emod_lt_of_pos _ (by decide)
      have m6 : okMul y 16807 = true := okMulB (Nat.le_trans (show y.natAbs ≤ 2147483399 by omega) (by decide)) (by decide)
      rw [v_mul m6]
      walk_at "evt"
      rw [v_mod (okMod_of (show (0 : Int) < 2147483647 by decide))]
      walk_at "evt"
      rw [v_div (okDiv64 (show (0 : Int) < 32 by decide) (by decide))]
      walk_at "evt"
      rw [v_mod (hm _)]
      walk_at "evt"
      exact ⟨_, _, rfl, ⟨rfl, by show 0 ≤ a + 1; omega, by show a + 1 ≤ B + 1; omega, by show 0 ≤ turn + 1; omega, by show turn + 1 ≤ B + 1; omega⟩, _, rfl, fin _⟩
theorem draw1 {α : Type} {n : Int} {f : PyData → M α} {e : Nat} {Q : α → Prop} (h0 : 0 < n) (h1 : n < 1000000000000000000) (k : ∀ r : Int, 0 ≤ r → r < n → Gv 0 (f (.int r)) (e - 1) Q) (he : 1 ≤ e := by decide) : Gv 0 (m_law_draw [.tp, .fz (.int n)] >>= f) e Q :=
  Gv.step (draw_gv h0 h1) (fun a ⟨r, ea, r0, r1⟩ => ea ▸ k r r0 r1) he
theorem sm {x : Int} (h : x.natAbs ≤ 1000000000000000000000000000000) : x.natAbs ≤ 10 ^ 60 := Nat.le_trans h (by decide)
/-! ### geometry -/
def Tp (a b c : Pt) : Int := (b.1 - a.1) * (c.2 - a.2) - (b.2 - a.2) * (c.1 - a.1)
def Col (ps : List Pt) : Prop := ∀ a ∈ ps, ∀ b ∈ ps, ∀ c ∈ ps, Tp a b c = 0
def NonCol (ps : List Pt) : Prop := ∃ a ∈ ps, ∃ b ∈ ps, ∃ c ∈ ps, Tp a b c ≠ 0
theorem line {u v a b c : Pt} (h : u ≠ v) (ha : Tp u v a = 0) (hb : Tp u v b = 0) (hc : Tp u v c = 0) : Tp a b c = 0 := by
  unfold Tp at *
  have e1 : (v.1 - u.1) * ((b.1 - a.1) * (c.2 - a.2) - (b.2 - a.2) * (c.1 - a.1)) = 0 := by grind
  have e2 : (v.2 - u.2) * ((b.1 - a.1) * (c.2 - a.2) - (b.2 - a.2) * (c.1 - a.1)) = 0 := by grind
  rcases Int.mul_eq_zero.mp e1 with z1 | z1
  · rcases Int.mul_eq_zero.mp e2 with z2 | z2
    · exact absurd (Prod.ext (by omega) (by omega)) h
    · exact z2
  · exact z1
/-- within 1000 -/
def Bd (ps : List Pt) : Prop := ∀ p ∈ ps, p.1.natAbs ≤ 1000 ∧ p.2.natAbs ≤ 1000
theorem lay_pts : ∀ ps : List Pt, PyData.canLayAll0 (ps.map ptK) = true
  | [] => rfl
  | p :: r => by rw [List.map_cons, PyData.canLayAll0, lay_pts r]; rfl
theorem shaped_pts (ps : List Pt) : SeqAt.shaped (.list (ps.map ptK)) = true := by
  unfold SeqAt.shaped
  rw [Bool.and_eq_true]
  refine ⟨lay_pts ps, decide_eq_true ?_⟩
  show PyData.depthAll (ps.map ptK) + 1 ≤ 64
  have := depth_pts ps
  omega
theorem v_eqNil (ps : List Pt) : gEq (.list (ps.map ptK)) (.list []) = some (.bool ps.isEmpty) := by
  unfold gEq
  rw [shaped_pts, show SeqAt.shaped (.list []) = true from rfl]
  cases ps <;> rfl
theorem filt_pts (F : Pt → Bool) (ps : List Pt) : ((ps.map ptK).filter fun d => F (keyP d)).map id = (ps.filter F).map ptK := by
  rw [List.map_id, List.filter_map]
  rfl
theorem online_eq {ps : List Pt} (h0 : ps ≠ []) (hb : Bd ps) (hl : ps.length ≤ 100) : ∃ b : Bool, m_law_on_line [.fz (.list (ps.map ptK))] = pure (.bool b) ∧ (b = true → Col ps) ∧ (b = false → NonCol ps) := by
  obtain ⟨a, ha, ea, la⟩ := v_minL h0
  obtain ⟨z, hz, ez, lz⟩ := v_maxL h0
  have ba := hb a ha
  have bz := hb z hz
  let F : Pt → Bool := fun c => !((z.1 - a.1) * (c.2 - a.2) == (z.2 - a.2) * (c.1 - a.1))
  have hF : ∀ c, F c = false ↔ Tp a z c = 0 := fun c => by
    show (!_) = false ↔ _
    unfold Tp
    rw [Bool.not_eq_false', beq_iff_eq]
    omega
  refine ⟨(ps.filter F).isEmpty, ?_, fun h => ?_, fun h => ?_⟩
  · unfold m_law_on_line
    walk_at "ev"
    rw [ea]
    walk_at "ev"
    rw [ez]
    walk_at "ev"
    rw [show okLen (ps.map ptK).length = true from decide_eq_true (by rw [List.length_map]; omega)]
    walk_at "ev"
    rw [compGo_eq (fun d => F (keyP d)) id (ps.map ptK) fun d hd => ?_]
    · walk_at "ev"
      rw [filt_pts, v_eqNil]
      walk_at "ev"
    · obtain ⟨c, hc, rfl⟩ := List.mem_map.mp hd
      have bc := hb c hc
      refine ⟨_, rfl, ?_, fun _ => ?_⟩
      · walk_at "ev"
        rw [v_mul (okMulB (sm (by omega)) (sm (by omega)))]
        walk_at "ev"
        rw [v_mul (okMulB (sm (by omega)) (sm (by omega)))]
        walk_at "ev"
        rfl
      · walk_at "ev"
        rfl
  · have all : ∀ c ∈ ps, Tp a z c = 0 := fun c hc => by
      rw [← hF]
      cases e : F c with
      | false => rfl
      | true =>
        have : c ∈ ps.filter F := List.mem_filter.mpr ⟨hc, e⟩
        rw [List.isEmpty_iff.mp h] at this
        cases this
    by_cases e : a = z
    · have same : ∀ c ∈ ps, c = a := fun c hc => by
        have h1 := lx_no.mp (la c hc)
        have h2 := lx_no.mp (lz c hc)
        rw [← e] at h2
        exact Prod.ext (by omega) (by omega)
      intro p hp q hq r hr
      rw [same p hp, same q hq, same r hr]
      unfold Tp
      omega
    · exact fun p hp q hq r hr => line e (all p hp) (all q hq) (all r hr)
  · cases e : ps.filter F with
    | nil => rw [e] at h; cases h
    | cons c r =>
      have hc : c ∈ ps.filter F := by rw [e]; simp
      obtain ⟨h1, h2⟩ := List.mem_filter.mp hc
      refine ⟨a, ha, z, hz, c, h1, fun q => ?_⟩
      rw [(hF c).mpr q] at h2
      cases h2
theorem row_eq : m_law_far_row [] = pure (.list [pt (-1000) (-700), pt (-10) 7, pt 987 719, pt (-1000) (-400), pt (-11) 12, pt 990 429, pt (-1000) 200, pt (-13) 570, pt 982 943, pt (-999) (-1000), pt (-10) (-87), pt 992 838]) := by
  unfold m_law_far_row
  walk_at "ev"
  rfl
def IsP (d : PyData) : Prop := ∃ p : Pt, d = ptK p ∧ p.1.natAbs ≤ 1000 ∧ p.2.natAbs ≤ 1000
theorem far_ix (r : Int) (h0 : 0 ≤ r) (h1 : r < 12) : ∃ d, gIx (.list [pt (-1000) (-700), pt (-10) 7, pt 987 719, pt (-1000) (-400), pt (-11) 12, pt 990 429, pt (-1000) 200, pt (-13) 570, pt 982 943, pt (-999) (-1000), pt (-10) (-87), pt 992 838]) (.int r) = some d ∧ IsP d := by
  rcases (show r = 0 ∨ r = 1 ∨ r = 2 ∨ r = 3 ∨ r = 4 ∨ r = 5 ∨ r = 6 ∨ r = 7 ∨ r = 8 ∨ r = 9 ∨ r = 10 ∨ r = 11 by omega) with rfl | rfl | rfl | rfl | rfl | rfl | rfl | rfl | rfl | rfl | rfl | rfl
  all_goals exact ⟨_, rfl, (_, _), rfl, by decide, by decide⟩
theorem cir_ix (r : Int) (h0 : 0 ≤ r) (h1 : r < 12) : ∃ d, gIx (.list [pt 5 0, pt 4 3, pt 3 4, pt 0 5, pt (-3) 4, pt (-4) 3, pt (-5) 0, pt (-4) (-3), pt (-3) (-4), pt 0 (-5), pt 3 (-4), pt 4 (-3)]) (.int r) = some d ∧ IsP d := by
  rcases (show r = 0 ∨ r = 1 ∨ r = 2 ∨ r = 3 ∨ r = 4 ∨ r = 5 ∨ r = 6 ∨ r = 7 ∨ r = 8 ∨ r = 9 ∨ r = 10 ∨ r = 11 by omega) with rfl | rfl | rfl | rfl | rfl | rfl | rfl | rfl | rfl | rfl | rfl | rfl
  all_goals exact ⟨_, rfl, (_, _), rfl, by decide, by decide⟩
theorem spot_gv {kd k : Int} (h0 : 0 ≤ kd) (h1 : kd < 8) (k0 : 0 ≤ k) (k1 : k < 16) : Gv 0 (m_law_spot [.tp, .fz (.int kd), .fz (.int k)]) 3 IsP := by
  rcases (show kd = 0 ∨ kd = 1 ∨ kd = 2 ∨ kd = 3 ∨ kd = 4 ∨ kd = 5 ∨ kd = 6 ∨ kd = 7 by omega) with rfl | rfl | rfl | rfl | rfl | rfl | rfl | rfl
  all_goals
    unfold m_law_spot
    walk_at "ev"
  · refine draw1 (by decide) (by decide) fun x x0 x1 => ?_
    walk_at "ev"
    refine draw1 (by decide) (by decide) fun y y0 y1 => ?_
    walk_at "ev"
    exact Gv.ret ⟨(x, y), rfl, by show x.natAbs ≤ 1000; omega, by show y.natAbs ≤ 1000; omega⟩
  · refine draw1 (by decide) (by decide) fun x x0 x1 => ?_
    walk_at "ev"
    refine draw1 (by decide) (by decide) fun y y0 y1 => ?_
    walk_at "ev"
    exact Gv.ret ⟨(x, y), rfl, by show x.natAbs ≤ 1000; omega, by show y.natAbs ≤ 1000; omega⟩
  · refine draw1 (by decide) (by decide) fun z z0 z1 => ?_
    rcases (show z = 0 ∨ z = 1 by omega) with rfl | rfl
    · walk_at "ev"
      rw [row_eq]
      walk_at "ev"
      rw [v_mod (okMod_of (by decide))]
      walk_at "ev"
      obtain ⟨d, ed, hd⟩ := far_ix (k % 12) (by omega) (by omega)
      rw [show L2.atI _ (k % 12) = some d from ed]
      walk_at "ev"
      exact Gv.ret hd
    · walk_at "ev"
      refine draw1 (by decide) (by decide) fun x x0 x1 => ?_
      walk_at "ev"
      refine draw1 (by decide) (by decide) fun y y0 y1 => ?_
      walk_at "ev"
      exact Gv.ret ⟨(x - 1000, y - 1000), rfl, by show (x - 1000).natAbs ≤ 1000; omega, by show (y - 1000).natAbs ≤ 1000; omega⟩
  · rw [v_mul (okMulB (sm (by omega)) (sm (by omega)))]
    walk_at "ev"
    have := mulAbs (c := 225) (show k.natAbs ≤ 15 by omega) (show k.natAbs ≤ 15 by omega) (by decide)
    exact Gv.ret ⟨(k, k * k), rfl, by show k.natAbs ≤ 1000; omega, by show (k * k).natAbs ≤ 1000; omega⟩
  · refine draw1 (by decide) (by decide) fun r r0 r1 => ?_
    obtain ⟨d, ed, hd⟩ := cir_ix r r0 r1
    rw [ed]
    walk_at "ev"
    exact Gv.ret hd
  · refine draw1 (by decide) (by decide) fun x x0 x1 => ?_
    walk_at "ev"
    rw [v_mul (okMulB (by decide) (sm (by omega)))]
    walk_at "ev"
    rw [v_mul (okMulB (by decide) (sm (by omega)))]
    walk_at "ev"
    exact Gv.ret ⟨(3 * x - 18, 2 * x - 12), rfl, by show (3 * x - 18).natAbs ≤ 1000; omega, by show (2 * x - 12).natAbs ≤ 1000; omega⟩
  · refine draw1 (by decide) (by decide) fun x x0 x1 => ?_
    walk_at "ev"
    rw [v_mul (okMulB (sm (by omega)) (sm (by omega)))]
    walk_at "ev"
    have hm := mulAbs (c := 36) (show x.natAbs ≤ 6 by omega) (show (6 - x).natAbs ≤ 6 by omega) (by decide)
    refine draw1 (by decide) (by decide) fun z z0 z1 => ?_
    generalize x * (6 - x) = m at *
    rcases (show z = 0 ∨ z = 1 by omega) with rfl | rfl
    · walk_at "ev"
      exact Gv.ret ⟨(x, m), rfl, by show x.natAbs ≤ 1000; omega, by show m.natAbs ≤ 1000; omega⟩
    · walk_at "ev"
      exact Gv.ret ⟨(x, 40 - m), rfl, by show x.natAbs ≤ 1000; omega, by show (40 - m).natAbs ≤ 1000; omega⟩
  · rw [v_mod (okMod_of (by decide))]
    walk_at "ev"
    rw [v_div (okDiv64 (by decide) (by decide))]
    walk_at "ev"
    exact Gv.ret ⟨(k % 4, k / 4), rfl, by show (k % 4).natAbs ≤ 1000; omega, by show (k / 4).natAbs ≤ 1000; omega⟩
end LFD

set_option maxHeartbeats 1000000
namespace LFD
open DL PySem
local macro_rules | `(tactic| walk_at "ev") => `(tactic| (try simp only [x_pb, x_fb, x_ba, x_ls, x_ln, x_eVar, x_bVar, x_rdF, x_rdB, x_eC, x_e2, x_e1, x_eList, x_eTup, x_nLst, x_lNil, x_lCons, x_aNil, x_aCons, x_aTape, x_isTp, x_eCal, x_nCal, x_eCall, x_eCut, x_pNone, x_pSome, x_tOf, x_bAnd, x_bOr, x_bNot, x_eIf, x_eAnd, x_eOr, x_eNot, x_eChain, x_lSeq, x_nComp, x_sNext, x_sSeq, x_atN, x_atR, x_atB, x_atC, x_sDrop, x_sRet, x_sIf, x_sAsg, x_mName, x_mSeq, x_mgNil, x_mgCons, x_sOwn, x_sFrz, x_frz, x_sApp, x_owOf, x_sSetI, x_sPar, x_sPar3, x_sFor, x_forN, x_forC, x_loN, x_loC, x_loB, x_loR, x_cN, x_cC, x_bYes, x_oR, x_oN, x_mf0, x_mf1, x_mf2, x_mf3, x_mf4, x_mf5, x_tput, x_sExt, x_nRev, v_isII, v_isBI, v_in3, v_ltDI, v_gtDI, v_leDI, v_geDI, List.getElem?_cons_zero, List.getElem?_cons_succ, List.set_cons_zero, List.set_cons_succ, List.replicate_succ, List.replicate_zero, List.cons_append, List.nil_append, List.length_cons, List.length_nil, v_sub, v_add, v_neg, v_lt, v_le, v_gt, v_ge, v_abs, v_max, v_min, v_intI, v_intB, v_lenL, v_lenT, v_tupL, v_tupT, v_listL, v_listT, v_ixL, v_ixT, v_at0, v_at1, v_at2, v_bool, v_seqL, v_seqT, v_intOf, v_ok0, v_ok1, v_ok2, v_ok3, v_ok4, v_okn, v_ok5, v_ok6, v_ok7, v_ok8, v_ok9, v_ok10, v_ok11, v_ok12, v_ok13, v_ok14, v_ok15, v_ok16, v_ok17, v_ok18, v_ok19, v_ok20, v_ok21, v_ok22, v_ok23, v_ok24, v_ok25, v_ok26, v_ok27, v_ok28, v_ok29, v_ok30, v_ok31, v_ok32, gEq_int, gNe_int, v_rng1, v_rng2, okRg, Int.reducePow, Nat.sub_self, Nat.reduceSub, Nat.reduceAdd, unAll, if_true, if_false, Option.bind_some, Option.bind_none, ite_true, ite_false, Bool.false_eq_true, rgD, Int.reduceBEq, Int.reduceToNat, Int.reduceLT, Int.reduceLE, Int.reduceMul, Int.reduceAdd, Int.reduceSub, Int.reduceNeg, Nat.reduceMul, Nat.reduceLT, Nat.reduceBEq, decide_true, decide_false, Bool.and_true, Bool.true_and, Bool.and_self, Bool.not_true, Bool.not_false, BEq.rfl, reduceIte]))
local macro_rules | `(tactic| walk_at "evt") => `(tactic| (try simp only [x_pb, x_fb, x_ba, x_ls, x_ln, x_eVar, x_bVar, x_rdF, x_rdB, x_eC, x_e2, x_e1, x_eList, x_eTup, x_nLst, x_lNil, x_lCons, x_aNil, x_aCons, x_aTape, x_isTp, x_eCal, x_nCal, x_eCall, x_eCut, x_pNone, x_pSome, x_tOf, x_bAnd, x_bOr, x_bNot, x_eIf, x_eAnd, x_eOr, x_eNot, x_eChain, x_lSeq, x_nComp, x_sNext, x_sSeq, x_atN, x_atR, x_atB, x_atC, x_sDrop, x_sRet, x_sIf, x_sAsg, x_mName, x_mSeq, x_mgNil, x_mgCons, x_sOwn, x_sFrz, x_frz, x_sApp, x_owOf, x_sSetI, x_sPar, x_sPar3, x_sFor, x_forN, x_forC, x_loN, x_loC, x_loB, x_loR, x_cN, x_cC, x_bYes, x_oR, x_oN, x_mf0, x_mf1, x_mf2, x_mf3, x_mf4, x_mf5, x_tput, x_sExt, x_nRev, v_isII, v_isBI, v_in3, v_ltDI, v_gtDI, v_leDI, v_geDI, List.getElem?_cons_zero, List.getElem?_cons_succ, List.set_cons_zero, List.set_cons_succ, List.replicate_succ, List.replicate_zero, List.cons_append, List.nil_append, List.length_cons, List.length_nil, v_sub, v_add, v_neg, v_lt, v_le, v_gt, v_ge, v_abs, v_max, v_min, v_intI, v_intB, v_lenL, v_lenT, v_tupL, v_tupT, v_listL, v_listT, v_ixL, v_ixT, v_at0, v_at1, v_at2, v_bool, v_seqL, v_seqT, v_intOf, v_ok0, v_ok1, v_ok2, v_ok3, v_ok4, v_okn, v_ok5, v_ok6, v_ok7, v_ok8, v_ok9, v_ok10, v_ok11, v_ok12, v_ok13, v_ok14, v_ok15, v_ok16, v_ok17, v_ok18, v_ok19, v_ok20, v_ok21, v_ok22, v_ok23, v_ok24, v_ok25, v_ok26, v_ok27, v_ok28, v_ok29, v_ok30, v_ok31, v_ok32, gEq_int, gNe_int, v_rng1, v_rng2, okRg, Int.reducePow, Nat.sub_self, Nat.reduceSub, Nat.reduceAdd, unAll, if_true, if_false, Option.bind_some, Option.bind_none, ite_true, ite_false, Bool.false_eq_true, rgD, Int.reduceBEq, Int.reduceToNat, Int.reduceLT, Int.reduceLE, Int.reduceMul, Int.reduceAdd, Int.reduceSub, Int.reduceNeg, Nat.reduceMul, Nat.reduceLT, Nat.reduceBEq, decide_true, decide_false, Bool.and_true, Bool.true_and, Bool.and_self, Bool.not_true, Bool.not_false, BEq.rfl, reduceIte, bnd_ap, pure_ap, lift_ap, fail_ap, ite_ap, x_tget, x_doPut, fldOf, tSet, Option.map_some, Option.map_none, beq_self_eq_true, Bool.and_true, Bool.true_and]))
local macro_rules | `(tactic| walk_at "ev1") => `(tactic| (try simp only [x_pb, x_fb, x_ba, x_ls, x_ln, x_eVar, x_bVar, x_rdF, x_rdB, x_eC, x_e2, x_e1, x_eList, x_eTup, x_nLst, x_lNil, x_lCons, x_aNil, x_aCons, x_aTape, x_isTp, x_eCal, x_nCal, x_eCall, x_eCut, x_pNone, x_pSome, x_tOf, x_bAnd, x_bOr, x_bNot, x_eIf, x_eAnd, x_eOr, x_eNot, x_eChain, x_lSeq, x_nComp, x_sNext, x_sSeq, x_atN, x_atR, x_atB, x_atC, x_sDrop, x_sRet, x_sIf, x_sAsg, x_mName, x_mSeq, x_mgNil, x_mgCons, x_sOwn, x_sFrz, x_frz, x_sApp, x_owOf, x_sSetI, x_sPar, x_sPar3, x_sFor, x_forN, x_forC, x_loN, x_loC, x_loB, x_loR, x_cN, x_cC, x_bYes, x_oR, x_oN, x_mf0, x_mf1, x_mf2, x_mf3, x_mf4, x_mf5, x_tput, x_sExt, x_nRev, v_isII, v_isBI, v_in3, v_ltDI, v_gtDI, v_leDI, v_geDI, List.getElem?_cons_zero, List.getElem?_cons_succ, List.set_cons_zero, List.set_cons_succ, List.replicate_succ, List.replicate_zero, List.cons_append, List.nil_append, List.length_cons, List.length_nil, v_sub, v_add, v_neg, v_lt, v_le, v_gt, v_ge, v_abs, v_max, v_min, v_intI, v_intB, v_lenL, v_lenT, v_tupL, v_tupT, v_listL, v_listT, v_ixL, v_ixT, v_at0, v_at1, v_at2, v_bool, v_seqL, v_seqT, v_intOf, v_ok0, v_ok1, v_ok2, v_ok3, v_ok4, v_okn, v_ok5, v_ok6, v_ok7, v_ok8, v_ok9, v_ok10, v_ok11, v_ok12, v_ok13, v_ok14, v_ok15, v_ok16, v_ok17, v_ok18, v_ok19, v_ok20, v_ok21, v_ok22, v_ok23, v_ok24, v_ok25, v_ok26, v_ok27, v_ok28, v_ok29, v_ok30, v_ok31, v_ok32, gEq_int, gNe_int, v_rng1, v_rng2, okRg, Int.reducePow, Nat.sub_self, Nat.reduceSub, Nat.reduceAdd, unAll, if_true, if_false, Option.bind_some, Option.bind_none, ite_true, ite_false, Bool.false_eq_true, rgD, Int.reduceBEq, Int.reduceToNat, Int.reduceLT, Int.reduceLE, Int.reduceMul, Int.reduceAdd, Int.reduceSub, Int.reduceNeg, Nat.reduceMul, Nat.reduceLT, Nat.reduceBEq, decide_true, decide_false, Bool.and_true, Bool.true_and, Bool.and_self, Bool.not_true, Bool.not_false, BEq.rfl, reduceIte, v_mulS, v_modS, compGo_M, compM_map, compM_filter, compM_nil, x_ebool, x_bb, x_iband, x_ibor, x_band, x_bor, Bool.or_false, Bool.false_or, Bool.and_false, Bool.false_and, x_sWhile, v_revAL, v_revAT, v_revC0, x_eRevT, abs_ite, v_any3, v_atm1, v_atm2, v_atm3, v_lastT, v_lastL, Nat.add_zero, Nat.zero_add, nc0, nc1, nc2, nc3, nc4, nc5, nc6, x_pbool, Bool.true_or, Bool.or_true]))
/-! ### the four candidates -/
theorem col_few {ps : List Pt} (h : (dedP ps).length < 3) : Col ps := by
  have key : ∀ l : List Pt, l.length < 3 → ∀ a ∈ l, ∀ b ∈ l, ∀ c ∈ l, Tp a b c = 0 := by
    intro l hl a ha b hb c hc
    have two : a = b ∨ b = c ∨ a = c := by
      match l, hl with
      | [], _ => cases ha
      | [x], _ =>
        simp only [List.mem_singleton] at ha hb
        exact .inl (ha.trans hb.symm)
      | [x, y], _ =>
        simp only [List.mem_cons, List.not_mem_nil, or_false] at ha hb hc
        rcases ha with rfl | rfl <;> rcases hb with rfl | rfl <;> rcases hc with rfl | rfl <;> simp
      | _ :: _ :: _ :: _, hl => exact absurd hl (by simp only [List.length_cons]; omega)
    unfold Tp
    rcases two with rfl | rfl | rfl
    · simp
    · grind
    · simp
  intro a ha b hb c hc
  exact key (dedP ps) h a (dedP_mem.mpr ha) b (dedP_mem.mpr hb) c (dedP_mem.mpr hc)
/-- one candidate -/
def Step (m : Nat) (ps : List Pt) (c : Pt) (qs : List Pt) : Prop := (Col ps ∧ qs = (sortK (dedP ps)).take (m - 1) ++ [c]) ∨ (NonCol ps ∧ qs = ps)
theorem not_both {ps : List Pt} (h : Col ps) (h' : NonCol ps) : False := by
  obtain ⟨a, ha, b, hb, c, hc, n⟩ := h'
  exact n (h a ha b hb c hc)
theorem Step.len {m : Nat} {ps qs : List Pt} {c : Pt} (s : Step m ps c qs) (h : ps.length ≤ m) (hm : 1 ≤ m) : qs.length ≤ m := by
  rcases s with ⟨_, rfl⟩ | ⟨_, rfl⟩
  · rw [List.length_append, List.length_take]
    show min _ _ + 1 ≤ m
    omega
  · exact h
theorem Step.bd {m : Nat} {ps qs : List Pt} {c : Pt} (s : Step m ps c qs) (h : Bd ps) (hc : c.1.natAbs ≤ 1000 ∧ c.2.natAbs ≤ 1000) : Bd qs := by
  rcases s with ⟨_, rfl⟩ | ⟨_, rfl⟩
  · intro p hp
    rcases List.mem_append.mp hp with hp | hp
    · exact h p (dedP_mem.mp ((sortK_perm _).mem_iff.mp (List.mem_of_mem_take hp)))
    · rw [List.mem_singleton.mp hp]
      exact hc
  · exact h
theorem ded_len : ∀ ps : List Pt, (dedP ps).length ≤ ps.length
  | [] => Nat.le_refl _
  | a :: r => by
    rw [dedP]
    split
    · exact Nat.le_succ_of_le (ded_len r)
    · exact Nat.succ_le_succ (ded_len r)
/-- what is left of a set behind the cut: all, or as many as the cut lets through -/
theorem cut_all {m : Nat} {ps : List Pt} (h : (dedP ps).length ≤ m - 1) {p : Pt} (hp : p ∈ ps) : p ∈ (sortK (dedP ps)).take (m - 1) := by
  rw [List.take_of_length_le (by rw [(sortK_perm _).length_eq]; exact h)]
  exact (sortK_perm _).mem_iff.mpr (dedP_mem.mpr hp)
theorem three_cands {m : Nat} (hm : 9 ≤ m) {f0 f1 f2 f3 : List Pt} (h0 : f0.length ≤ m) (s1 : Step m f0 (0, 0) f1) (s2 : Step m f1 (1, 2) f2) (s3 : Step m f2 (2, -1) f3) : NonCol f3 := by
  rcases s3 with ⟨c2, e3⟩ | ⟨n2, e3⟩
  case inr => rw [e3]; exact n2
  rcases s2 with ⟨c1, e2⟩ | ⟨n1, e2⟩
  case inr => rw [e2] at c2; exact (not_both c2 n1).elim
  rcases s1 with ⟨c0, e1⟩ | ⟨n0, e1⟩
  case inr => rw [e1] at c1; exact (not_both c1 n0).elim
  apply Classical.byContradiction
  intro no
  have c3 : Col f3 := fun a ha b hb c hc => Classical.byContradiction fun q => no ⟨a, ha, b, hb, c, hc, q⟩
  have m1 : ((0, 0) : Pt) ∈ f1 := by rw [e1]; simp
  have m2 : ((1, 2) : Pt) ∈ f2 := by rw [e2]; simp
  have m3 : ((2, -1) : Pt) ∈ f3 := by rw [e3]; simp
  have bad : Tp (0, 0) (1, 2) (2, -1) ≠ 0 := by decide
  have sub2 : ∀ p ∈ (sortK (dedP f1)).take (m - 1), p ∈ f1 ∧ p ∈ f2 := fun p hp => ⟨dedP_mem.mp ((sortK_perm _).mem_iff.mp (List.mem_of_mem_take hp)), by rw [e2]; exact List.mem_append_left _ hp⟩
  have sub3 : ∀ p ∈ (sortK (dedP f2)).take (m - 1), p ∈ f2 ∧ p ∈ f3 := fun p hp => ⟨dedP_mem.mp ((sortK_perm _).mem_iff.mp (List.mem_of_mem_take hp)), by rw [e3]; exact List.mem_append_left _ hp⟩
  have nd2 : ((sortK (dedP f2)).take (m - 1)).Nodup := ((sortK_perm _).nodup_iff.mpr (dedP_nodup f2)).sublist (List.take_sublist _ _)
  have nd1 : ((sortK (dedP f1)).take (m - 1)).Nodup := ((sortK_perm _).nodup_iff.mpr (dedP_nodup f1)).sublist (List.take_sublist _ _)
  have two : ∀ l : List Pt, l.Nodup → 2 ≤ l.length → ∃ u ∈ l, ∃ v ∈ l, u ≠ v := by
    intro l hn hl
    match l, hl with
    | u :: v :: r, _ =>
      refine ⟨u, by simp, v, by simp, fun e => ?_⟩
      have := (List.nodup_cons.mp hn).1
      exact this (by simp [e])
  by_cases k2 : (dedP f2).length ≤ m - 1
  · by_cases k1 : (dedP f1).length ≤ m - 1
    · -- nothing is cut
      have a1 : ((0, 0) : Pt) ∈ f2 := (sub2 _ (cut_all k1 m1)).2
      have b1 : ((0, 0) : Pt) ∈ f3 := (sub3 _ (cut_all k2 a1)).2
      have b2 : ((1, 2) : Pt) ∈ f3 := (sub3 _ (cut_all k2 m2)).2
      exact bad (c3 _ b1 _ b2 _ m3)
    · -- the first set is cut
      have l1 : ((sortK (dedP f1)).take (m - 1)).length = m - 1 := by
        rw [List.length_take, (sortK_perm _).length_eq]
        omega
      obtain ⟨u, hu, v, hv, ne⟩ := two _ nd1 (by omega)
      obtain ⟨u1, u2⟩ := sub2 u hu
      obtain ⟨v1, v2⟩ := sub2 v hv
      have u3 := (sub3 u (cut_all k2 u2)).2
      have v3 := (sub3 v (cut_all k2 v2)).2
      exact bad (line ne (c1 u u1 v v1 _ m1) (c2 u u2 v v2 _ m2) (c3 u u3 v v3 _ m3))
  · have l2 : ((sortK (dedP f2)).take (m - 1)).length = m - 1 := by
      rw [List.length_take, (sortK_perm _).length_eq]
      omega
    by_cases k1 : (dedP f1).length ≤ m - 1
    · obtain ⟨u, hu, v, hv, ne⟩ := two _ nd2 (by omega)
      obtain ⟨u2, u3⟩ := sub3 u hu
      obtain ⟨v2, v3⟩ := sub3 v hv
      have a1 : ((0, 0) : Pt) ∈ f2 := (sub2 _ (cut_all k1 m1)).2
      exact bad (line ne (c2 u u2 v v2 _ a1) (c2 u u2 v v2 _ m2) (c3 u u3 v v3 _ m3))
    · -- both are cut: of the second's rest all but one lie in the first's
      have e : ∀ p ∈ (sortK (dedP f2)).take (m - 1), p ≠ (1, 2) → p ∈ f1 := fun p hp np => by
        have := (sub3 p hp).1
        rw [e2] at this
        rcases List.mem_append.mp this with h | h
        · exact (sub2 p h).1
        · exact absurd (List.mem_singleton.mp h) np
      obtain ⟨u, hu, v, hv, ne, nu, nv⟩ : ∃ u ∈ (sortK (dedP f2)).take (m - 1), ∃ v ∈ (sortK (dedP f2)).take (m - 1), u ≠ v ∧ u ≠ (1, 2) ∧ v ≠ (1, 2) := by
        generalize (sortK (dedP f2)).take (m - 1) = l at *
        have h3 : 3 ≤ l.length := by omega
        match l, h3 with
        | x :: y :: z :: r, _ =>
          have hx := List.nodup_cons.mp nd2
          have hy := List.nodup_cons.mp hx.2
          have xy : x ≠ y := fun q => hx.1 (by simp [q])
          have xz : x ≠ z := fun q => hx.1 (by simp [q])
          have yz : y ≠ z := fun q => hy.1 (by simp [q])
          by_cases q1 : x = (1, 2)
          · exact ⟨y, by simp, z, by simp, yz, fun q => xy (q1.trans q.symm), fun q => xz (q1.trans q.symm)⟩
          · by_cases q2 : y = (1, 2)
            · exact ⟨x, by simp, z, by simp, xz, q1, fun q => yz (q2.trans q.symm)⟩
            · exact ⟨x, by simp, y, by simp, xy, q1, q2⟩
      obtain ⟨u2, u3⟩ := sub3 u hu
      obtain ⟨v2, v3⟩ := sub3 v hv
      exact bad (line ne (c1 u (e u hu nu) v (e v hv nv) _ m1) (c2 u u2 v v2 _ m2) (c3 u u3 v v3 _ m3))
end LFD

set_option maxHeartbeats 1000000
namespace LFD
open DL PySem
local macro_rules | `(tactic| walk_at "ev") => `(tactic| (try simp only [x_pb, x_fb, x_ba, x_ls, x_ln, x_eVar, x_bVar, x_rdF, x_rdB, x_eC, x_e2, x_e1, x_eList, x_eTup, x_nLst, x_lNil, x_lCons, x_aNil, x_aCons, x_aTape, x_isTp, x_eCal, x_nCal, x_eCall, x_eCut, x_pNone, x_pSome, x_tOf, x_bAnd, x_bOr, x_bNot, x_eIf, x_eAnd, x_eOr, x_eNot, x_eChain, x_lSeq, x_nComp, x_sNext, x_sSeq, x_atN, x_atR, x_atB, x_atC, x_sDrop, x_sRet, x_sIf, x_sAsg, x_mName, x_mSeq, x_mgNil, x_mgCons, x_sOwn, x_sFrz, x_frz, x_sApp, x_owOf, x_sSetI, x_sPar, x_sPar3, x_sFor, x_forN, x_forC, x_loN, x_loC, x_loB, x_loR, x_cN, x_cC, x_bYes, x_oR, x_oN, x_mf0, x_mf1, x_mf2, x_mf3, x_mf4, x_mf5, x_tput, x_sExt, x_nRev, v_isII, v_isBI, v_in3, v_ltDI, v_gtDI, v_leDI, v_geDI, List.getElem?_cons_zero, List.getElem?_cons_succ, List.set_cons_zero, List.set_cons_succ, List.replicate_succ, List.replicate_zero, List.cons_append, List.nil_append, List.length_cons, List.length_nil, v_sub, v_add, v_neg, v_lt, v_le, v_gt, v_ge, v_abs, v_max, v_min, v_intI, v_intB, v_lenL, v_lenT, v_tupL, v_tupT, v_listL, v_listT, v_ixL, v_ixT, v_at0, v_at1, v_at2, v_bool, v_seqL, v_seqT, v_intOf, v_ok0, v_ok1, v_ok2, v_ok3, v_ok4, v_okn, v_ok5, v_ok6, v_ok7, v_ok8, v_ok9, v_ok10, v_ok11, v_ok12, v_ok13, v_ok14, v_ok15, v_ok16, v_ok17, v_ok18, v_ok19, v_ok20, v_ok21, v_ok22, v_ok23, v_ok24, v_ok25, v_ok26, v_ok27, v_ok28, v_ok29, v_ok30, v_ok31, v_ok32, gEq_int, gNe_int, v_rng1, v_rng2, okRg, Int.reducePow, Nat.sub_self, Nat.reduceSub, Nat.reduceAdd, unAll, if_true, if_false, Option.bind_some, Option.bind_none, ite_true, ite_false, Bool.false_eq_true, rgD, Int.reduceBEq, Int.reduceToNat, Int.reduceLT, Int.reduceLE, Int.reduceMul, Int.reduceAdd, Int.reduceSub, Int.reduceNeg, Nat.reduceMul, Nat.reduceLT, Nat.reduceBEq, decide_true, decide_false, Bool.and_true, Bool.true_and, Bool.and_self, Bool.not_true, Bool.not_false, BEq.rfl, reduceIte]))
local macro_rules | `(tactic| walk_at "evt") => `(tactic| (try simp only [x_pb, x_fb, x_ba, x_ls, x_ln, x_eVar, x_bVar, x_rdF, x_rdB, x_eC, x_e2, x_e1, x_eList, x_eTup, x_nLst, x_lNil, x_lCons, x_aNil, x_aCons, x_aTape, x_isTp, x_eCal, x_nCal, x_eCall, x_eCut, x_pNone, x_pSome, x_tOf, x_bAnd, x_bOr, x_bNot, x_eIf, x_eAnd, x_eOr, x_eNot, x_eChain, x_lSeq, x_nComp, x_sNext, x_sSeq, x_atN, x_atR, x_atB, x_atC, x_sDrop, x_sRet, x_sIf, x_sAsg, x_mName, x_mSeq, x_mgNil, x_mgCons, x_sOwn, x_sFrz, x_frz, x_sApp, x_owOf, x_sSetI, x_sPar, x_sPar3, x_sFor, x_forN, x_forC, x_loN, x_loC, x_loB, x_loR, x_cN, x_cC, x_bYes, x_oR, x_oN, x_mf0, x_mf1, x_mf2, x_mf3, x_mf4, x_mf5, x_tput, x_sExt, x_nRev, v_isII, v_isBI, v_in3, v_ltDI, v_gtDI, v_leDI, v_geDI, List.getElem?_cons_zero, List.getElem?_cons_succ, List.set_cons_zero, List.set_cons_succ, List.replicate_succ, List.replicate_zero, List.cons_append, List.nil_append, List.length_cons, List.length_nil, v_sub, v_add, v_neg, v_lt, v_le, v_gt, v_ge, v_abs, v_max, v_min, v_intI, v_intB, v_lenL, v_lenT, v_tupL, v_tupT, v_listL, v_listT, v_ixL, v_ixT, v_at0, v_at1, v_at2, v_bool, v_seqL, v_seqT, v_intOf, v_ok0, v_ok1, v_ok2, v_ok3, v_ok4, v_okn, v_ok5, v_ok6, v_ok7, v_ok8, v_ok9, v_ok10, v_ok11, v_ok12, v_ok13, v_ok14, v_ok15, v_ok16, v_ok17, v_ok18, v_ok19, v_ok20, v_ok21, v_ok22, v_ok23, v_ok24, v_ok25, v_ok26, v_ok27, v_ok28, v_ok29, v_ok30, v_ok31, v_ok32, gEq_int, gNe_int, v_rng1, v_rng2, okRg, Int.reducePow, Nat.sub_self, Nat.reduceSub, Nat.reduceAdd, unAll, if_true, if_false, Option.bind_some, Option.bind_none, ite_true, ite_false, Bool.false_eq_true, rgD, Int.reduceBEq, Int.reduceToNat, Int.reduceLT, Int.reduceLE, Int.reduceMul, Int.reduceAdd, Int.reduceSub, Int.reduceNeg, Nat.reduceMul, Nat.reduceLT, Nat.reduceBEq, decide_true, decide_false, Bool.and_true, Bool.true_and, Bool.and_self, Bool.not_true, Bool.not_false, BEq.rfl, reduceIte, bnd_ap, pure_ap, lift_ap, fail_ap, ite_ap, x_tget, x_doPut, fldOf, tSet, Option.map_some, Option.map_none, beq_self_eq_true, Bool.and_true, Bool.true_and]))
local macro_rules | `(tactic| walk_at "ev1") => `(tactic| (try simp only [x_pb, x_fb, x_ba, x_ls, x_ln, x_eVar, x_bVar, x_rdF, x_rdB, x_eC, x_e2, x_e1, x_eList, x_eTup, x_nLst, x_lNil, x_lCons, x_aNil, x_aCons, x_aTape, x_isTp, x_eCal, x_nCal, x_eCall, x_eCut, x_pNone, x_pSome, x_tOf, x_bAnd, x_bOr, x_bNot, x_eIf, x_eAnd, x_eOr, x_eNot, x_eChain, x_lSeq, x_nComp, x_sNext, x_sSeq, x_atN, x_atR, x_atB, x_atC, x_sDrop, x_sRet, x_sIf, x_sAsg, x_mName, x_mSeq, x_mgNil, x_mgCons, x_sOwn, x_sFrz, x_frz, x_sApp, x_owOf, x_sSetI, x_sPar, x_sPar3, x_sFor, x_forN, x_forC, x_loN, x_loC, x_loB, x_loR, x_cN, x_cC, x_bYes, x_oR, x_oN, x_mf0, x_mf1, x_mf2, x_mf3, x_mf4, x_mf5, x_tput, x_sExt, x_nRev, v_isII, v_isBI, v_in3, v_ltDI, v_gtDI, v_leDI, v_geDI, List.getElem?_cons_zero, List.getElem?_cons_succ, List.set_cons_zero, List.set_cons_succ, List.replicate_succ, List.replicate_zero, List.cons_append, List.nil_append, List.length_cons, List.length_nil, v_sub, v_add, v_neg, v_lt, v_le, v_gt, v_ge, v_abs, v_max, v_min, v_intI, v_intB, v_lenL, v_lenT, v_tupL, v_tupT, v_listL, v_listT, v_ixL, v_ixT, v_at0, v_at1, v_at2, v_bool, v_seqL, v_seqT, v_intOf, v_ok0, v_ok1, v_ok2, v_ok3, v_ok4, v_okn, v_ok5, v_ok6, v_ok7, v_ok8, v_ok9, v_ok10, v_ok11, v_ok12, v_ok13, v_ok14, v_ok15, v_ok16, v_ok17, v_ok18, v_ok19, v_ok20, v_ok21, v_ok22, v_ok23, v_ok24, v_ok25, v_ok26, v_ok27, v_ok28, v_ok29, v_ok30, v_ok31, v_ok32, gEq_int, gNe_int, v_rng1, v_rng2, okRg, Int.reducePow, Nat.sub_self, Nat.reduceSub, Nat.reduceAdd, unAll, if_true, if_false, Option.bind_some, Option.bind_none, ite_true, ite_false, Bool.false_eq_true, rgD, Int.reduceBEq, Int.reduceToNat, Int.reduceLT, Int.reduceLE, Int.reduceMul, Int.reduceAdd, Int.reduceSub, Int.reduceNeg, Nat.reduceMul, Nat.reduceLT, Nat.reduceBEq, decide_true, decide_false, Bool.and_true, Bool.true_and, Bool.and_self, Bool.not_true, Bool.not_false, BEq.rfl, reduceIte, v_mulS, v_modS, compGo_M, compM_map, compM_filter, compM_nil, x_ebool, x_bb, x_iband, x_ibor, x_band, x_bor, Bool.or_false, Bool.false_or, Bool.and_false, Bool.false_and, x_sWhile, v_revAL, v_revAT, v_revC0, x_eRevT, abs_ite, v_any3, v_atm1, v_atm2, v_atm3, v_lastT, v_lastL, Nat.add_zero, Nat.zero_add, nc0, nc1, nc2, nc3, nc4, nc5, nc6, x_pbool, Bool.true_or, Bool.or_true]))
theorem v_cutTake {xs : List PyData} {i : Int} (h : 0 ≤ i) : gCut (.list xs) none (some i) = some (.list (xs.take i.toNat)) := by
  show some (PyData.list (cutD xs none (some i))) = _
  unfold cutD
  rw [show HT.sIx xs.length 0 none = 0 from rfl]
  obtain ⟨k, rfl⟩ : ∃ k : Nat, i = k := ⟨i.toNat, by omega⟩
  rw [HT.sIx_nat, List.drop_zero, Nat.sub_zero, Int.toNat_natCast]
  congr 2
  rw [← List.take_take, List.take_length]
theorem mem_rgD {d : PyData} {lo : Int} {n : Nat} (h : d ∈ rgD lo n) : ∃ i : Nat, i < n ∧ d = .int (lo + i) := by
  obtain ⟨i, hi⟩ := List.getElem?_of_mem h
  exact ⟨i, rgD_get lo n i hi⟩
theorem ix_of {n : Nat} {i : Int} (h0 : 0 ≤ i) (h1 : i < n) : ixOf n (.int i) = some i.toNat := by
  show L2.ixN n i = _
  unfold L2.ixN
  rw [if_pos h0, if_pos h1]
/-- the body of the first loop -/
theorem spots_gv {m kd : Int} {n : Nat} (hn : n ≤ 16) (k0 : 0 ≤ kd) (k1 : kd < 8) (s4 s5 s6 s7 s8 : Sl) :
    Gv 0 (forGo (mName 4) (sSeq (sAsg (eCall m_law_spot (aTape 0 (aCons (eVar 2) (aCons (eVar 4) aNil)))) (mName 5)) (sIf (tOf (e2 gNinX (bVar 5) (bVar 3))) (sApp 3 (eVar 5)) sNext)) (rgD 0 n) [.tp, .fz (.int m), .fz (.int kd), .ow [], s4, s5, s6, s7, s8]) 48
      fun o => ∃ (ps : List Pt) (s4 s5 s6 s7 s8 : Sl), o = .nx [.tp, .fz (.int m), .fz (.int kd), .ow (ps.map ptK), s4, s5, s6, s7, s8] ∧ Bd ps ∧ ps.length ≤ n ∧ (0 < n → ps ≠ []) := by
  refine Gv.mono (Gv.forI (c := 3) (fun j ρ => ∃ (ps : List Pt) (s4 s5 s6 s7 s8 : Sl), ρ = [.tp, .fz (.int m), .fz (.int kd), .ow (ps.map ptK), s4, s5, s6, s7, s8] ∧ Bd ps ∧ ps.length ≤ j ∧ (0 < j → ps ≠ [])) (rgD 0 n) 0 _ (fun d hd j ρ hj hρ => ?_) ⟨[], _, _, _, _, _, rfl, fun _ h => (nomatch h), Nat.le_refl _, fun h => absurd h (Nat.lt_irrefl _)⟩) (by rw [rgD_len]; omega) fun o ho => ?_
  · obtain ⟨ps, s4, s5, s6, s7, s8, rfl, hb, hl, hne⟩ := hρ
    obtain ⟨i, hi, rfl⟩ := mem_rgD hd
    rw [rgD_len] at hj
    walk_at "ev"
    refine Gv.step (spot_gv k0 k1 (by omega) (by omega)) fun a ha => ?_
    obtain ⟨p, rfl, p1, p2⟩ := ha
    walk_at "ev"
    rw [v_ninL]
    walk_at "ev"
    by_cases hp : p ∈ ps
    · rw [decide_eq_true hp]
      walk_at "ev"
      refine Gv.ret ⟨_, rfl, ps, _, _, _, _, _, rfl, hb, Nat.le_succ_of_le hl, fun _ e => ?_⟩
      rw [e] at hp
      cases hp
    · rw [decide_eq_false hp]
      walk_at "ev"
      rw [show okLen (ps.map ptK).length = true from decide_eq_true (by rw [List.length_map]; omega)]
      walk_at "ev"
      refine Gv.ret ⟨_, rfl, ps ++ [p], _, _, _, _, _, by rw [List.map_append]; rfl, fun q hq => ?_, ?_, fun _ e => ?_⟩
      · rcases List.mem_append.mp hq with hq | hq
        · exact hb q hq
        · rw [List.mem_singleton.mp hq]
          exact ⟨p1, p2⟩
      · rw [List.length_append]
        show ps.length + 1 ≤ j + 1
        omega
      · have := congrArg List.length e
        rw [List.length_append] at this
        simp at this
  · obtain ⟨ρ', rfl, ps, s4, s5, s6, s7, s8, rfl, hb, hl, hne⟩ := ho
    rw [rgD_len, Nat.zero_add] at hl hne
    exact ⟨ps, _, _, _, _, _, rfl, hb, hl, hne⟩
/-- one candidate, by the mirror -/
def mCand : MS := sFrz 3 (sIf (bOr (tOf (e2 gLtD (eCal cLenSet (lCons (bVar 3) lNil)) (eC (.int 3)))) (tOf (eCall m_law_on_line (aCons (eVar 3) aNil)))) (sAsg (e2 gAdd (eCut (eList (nCal cSortSet (lCons (bVar 3) lNil))) pNone (pSome (e2 gSub (bVar 1) (eC (.int 1))))) (eList (nLst (lCons (eVar 5) lNil)))) (mName 3)) sNext)
theorem cand_eq {m : Int} (m1 : 9 ≤ m) (m2 : m ≤ 16) {ps : List Pt} (h0 : ps ≠ []) (hb : Bd ps) (hl : ps.length ≤ m.toNat) (c : Pt) (s2 s4 s6 s7 s8 : Sl) (s3 : Sl) (hs : s3 = .ow (ps.map ptK) ∨ s3 = .fz (.list (ps.map ptK))) :
    ∃ qs : List Pt, Step m.toNat ps c qs ∧ mCand [.tp, .fz (.int m), s2, s3, s4, .fz (ptK c), s6, s7, s8] = pure (.nx [.tp, .fz (.int m), s2, .fz (.list (qs.map ptK)), s4, .fz (ptK c), s6, s7, s8]) := by
  obtain ⟨b, eb, b1, b2⟩ := online_eq h0 hb (by omega)
  have l64 : ps.length < 64 := by omega
  have frz_eq : frz 3 [.tp, .fz (.int m), s2, s3, s4, .fz (ptK c), s6, s7, s8] = [.tp, .fz (.int m), s2, .fz (.list (ps.map ptK)), s4, .fz (ptK c), s6, s7, s8] := by
    rcases hs with rfl | rfl <;> rfl
  unfold mCand
  rw [x_sFrz, frz_eq]
  clear frz_eq hs
  have fin : (if (decide (((dedP ps).length : Int) < 3) || b) = true then Col ps else NonCol ps) := by
    cases h : decide (((dedP ps).length : Int) < 3) with
    | true =>
      rw [Bool.true_or, if_pos rfl]
      exact col_few (by have := of_decide_eq_true h; omega)
    | false =>
      cases b with
      | true => exact b1 rfl
      | false => exact b2 rfl
  walk_at "ev"
  rw [v_lenSet l64]
  walk_at "ev"
  rw [eb]
  walk_at "ev"
  rw [show (if decide (((dedP ps).length : Int) < 3) = true then (pure true : M Bool) else pure b) = pure (decide (((dedP ps).length : Int) < 3) || b) by cases decide (((dedP ps).length : Int) < 3) <;> rfl]
  walk_at "ev"
  cases h : decide (((dedP ps).length : Int) < 3) || b with
  | true =>
    rw [h, if_pos rfl] at fin
    refine ⟨_, .inl ⟨fin, rfl⟩, ?_⟩
    walk_at "ev"
    rw [v_sortSet l64]
    walk_at "ev"
    rw [v_cutTake (by omega)]
    walk_at "ev"
    rw [v_addL (by
      refine decide_eq_true ?_
      rw [List.length_take]
      show min _ _ + 1 ≤ 1000000
      omega)]
    walk_at "ev"
    rw [List.map_append, List.map_take, show (m - 1).toNat = m.toNat - 1 by omega]
    rfl
  | false =>
    rw [h, if_neg (by decide)] at fin
    refine ⟨_, .inr ⟨fin, rfl⟩, ?_⟩
    walk_at "ev"
end LFD

set_option maxHeartbeats 1000000
namespace LFD
open DL PySem
local macro_rules | `(tactic| walk_at "ev") => `(tactic| (try simp only [x_pb, x_fb, x_ba, x_ls, x_ln, x_eVar, x_bVar, x_rdF, x_rdB, x_eC, x_e2, x_e1, x_eList, x_eTup, x_nLst, x_lNil, x_lCons, x_aNil, x_aCons, x_aTape, x_isTp, x_eCal, x_nCal, x_eCall, x_eCut, x_pNone, x_pSome, x_tOf, x_bAnd, x_bOr, x_bNot, x_eIf, x_eAnd, x_eOr, x_eNot, x_eChain, x_lSeq, x_nComp, x_sNext, x_sSeq, x_atN, x_atR, x_atB, x_atC, x_sDrop, x_sRet, x_sIf, x_sAsg, x_mName, x_mSeq, x_mgNil, x_mgCons, x_sOwn, x_sFrz, x_frz, x_sApp, x_owOf, x_sSetI, x_sPar, x_sPar3, x_sFor, x_forN, x_forC, x_loN, x_loC, x_loB, x_loR, x_cN, x_cC, x_bYes, x_oR, x_oN, x_mf0, x_mf1, x_mf2, x_mf3, x_mf4, x_mf5, x_tput, x_sExt, x_nRev, v_isII, v_isBI, v_in3, v_ltDI, v_gtDI, v_leDI, v_geDI, List.getElem?_cons_zero, List.getElem?_cons_succ, List.set_cons_zero, List.set_cons_succ, List.replicate_succ, List.replicate_zero, List.cons_append, List.nil_append, List.length_cons, List.length_nil, v_sub, v_add, v_neg, v_lt, v_le, v_gt, v_ge, v_abs, v_max, v_min, v_intI, v_intB, v_lenL, v_lenT, v_tupL, v_tupT, v_listL, v_listT, v_ixL, v_ixT, v_at0, v_at1, v_at2, v_bool, v_seqL, v_seqT, v_intOf, v_ok0, v_ok1, v_ok2, v_ok3, v_ok4, v_okn, v_ok5, v_ok6, v_ok7, v_ok8, v_ok9, v_ok10, v_ok11, v_ok12, v_ok13, v_ok14, v_ok15, v_ok16, v_ok17, v_ok18, v_ok19, v_ok20, v_ok21, v_ok22, v_ok23, v_ok24, v_ok25, v_ok26, v_ok27, v_ok28, v_ok29, v_ok30, v_ok31, v_ok32, gEq_int, gNe_int, v_rng1, v_rng2, okRg, Int.reducePow, Nat.sub_self, Nat.reduceSub, Nat.reduceAdd, unAll, if_true, if_false, Option.bind_some, Option.bind_none, ite_true, ite_false, Bool.false_eq_true, rgD, Int.reduceBEq, Int.reduceToNat, Int.reduceLT, Int.reduceLE, Int.reduceMul, Int.reduceAdd, Int.reduceSub, Int.reduceNeg, Nat.reduceMul, Nat.reduceLT, Nat.reduceBEq, decide_true, decide_false, Bool.and_true, Bool.true_and, Bool.and_self, Bool.not_true, Bool.not_false, BEq.rfl, reduceIte]))
local macro_rules | `(tactic| walk_at "evt") => `(tactic| (try simp only [x_pb, x_fb, x_ba, x_ls, x_ln, x_eVar, x_bVar, x_rdF, x_rdB, x_eC, x_e2, x_e1, x_eList, x_eTup, x_nLst, x_lNil, x_lCons, x_aNil, x_aCons, x_aTape, x_isTp, x_eCal, x_nCal, x_eCall, x_eCut, x_pNone, x_pSome, x_tOf, x_bAnd, x_bOr, x_bNot, x_eIf, x_eAnd, x_eOr, x_eNot, x_eChain, x_lSeq, x_nComp, x_sNext, x_sSeq, x_atN, x_atR, x_atB, x_atC, x_sDrop, x_sRet, x_sIf, x_sAsg, x_mName, x_mSeq, x_mgNil, x_mgCons, x_sOwn, x_sFrz, x_frz, x_sApp, x_owOf, x_sSetI, x_sPar, x_sPar3, x_sFor, x_forN, x_forC, x_loN, x_loC, x_loB, x_loR, x_cN, x_cC, x_bYes, x_oR, x_oN, x_mf0, x_mf1, x_mf2, x_mf3, x_mf4, x_mf5, x_tput, x_sExt, x_nRev, v_isII, v_isBI, v_in3, v_ltDI, v_gtDI, v_leDI, v_geDI, List.getElem?_cons_zero, List.getElem?_cons_succ, List.set_cons_zero, List.set_cons_succ, List.replicate_succ, List.replicate_zero, List.cons_append, List.nil_append, List.length_cons, List.length_nil, v_sub, v_add, v_neg, v_lt, v_le, v_gt, v_ge, v_abs, v_max, v_min, v_intI, v_intB, v_lenL, v_lenT, v_tupL, v_tupT, v_listL, v_listT, v_ixL, v_ixT, v_at0, v_at1, v_at2, v_bool, v_seqL, v_seqT, v_intOf, v_ok0, v_ok1, v_ok2, v_ok3, v_ok4, v_okn, v_ok5, v_ok6, v_ok7, v_ok8, v_ok9, v_ok10, v_ok11, v_ok12, v_ok13, v_ok14, v_ok15, v_ok16, v_ok17, v_ok18, v_ok19, v_ok20, v_ok21, v_ok22, v_ok23, v_ok24, v_ok25, v_ok26, v_ok27, v_ok28, v_ok29, v_ok30, v_ok31, v_ok32, gEq_int, gNe_int, v_rng1, v_rng2, okRg, Int.reducePow, Nat.sub_self, Nat.reduceSub, Nat.reduceAdd, unAll, if_true, if_false, Option.bind_some, Option.bind_none, ite_true, ite_false, Bool.false_eq_true, rgD, Int.reduceBEq, Int.reduceToNat, Int.reduceLT, Int.reduceLE, Int.reduceMul, Int.reduceAdd, Int.reduceSub, Int.reduceNeg, Nat.reduceMul, Nat.reduceLT, Nat.reduceBEq, decide_true, decide_false, Bool.and_true, Bool.true_and, Bool.and_self, Bool.not_true, Bool.not_false, BEq.rfl, reduceIte, bnd_ap, pure_ap, lift_ap, fail_ap, ite_ap, x_tget, x_doPut, fldOf, tSet, Option.map_some, Option.map_none, beq_self_eq_true, Bool.and_true, Bool.true_and]))
local macro_rules | `(tactic| walk_at "ev1") => `(tactic| (try simp only [x_pb, x_fb, x_ba, x_ls, x_ln, x_eVar, x_bVar, x_rdF, x_rdB, x_eC, x_e2, x_e1, x_eList, x_eTup, x_nLst, x_lNil, x_lCons, x_aNil, x_aCons, x_aTape, x_isTp, x_eCal, x_nCal, x_eCall, x_eCut, x_pNone, x_pSome, x_tOf, x_bAnd, x_bOr, x_bNot, x_eIf, x_eAnd, x_eOr, x_eNot, x_eChain, x_lSeq, x_nComp, x_sNext, x_sSeq, x_atN, x_atR, x_atB, x_atC, x_sDrop, x_sRet, x_sIf, x_sAsg, x_mName, x_mSeq, x_mgNil, x_mgCons, x_sOwn, x_sFrz, x_frz, x_sApp, x_owOf, x_sSetI, x_sPar, x_sPar3, x_sFor, x_forN, x_forC, x_loN, x_loC, x_loB, x_loR, x_cN, x_cC, x_bYes, x_oR, x_oN, x_mf0, x_mf1, x_mf2, x_mf3, x_mf4, x_mf5, x_tput, x_sExt, x_nRev, v_isII, v_isBI, v_in3, v_ltDI, v_gtDI, v_leDI, v_geDI, List.getElem?_cons_zero, List.getElem?_cons_succ, List.set_cons_zero, List.set_cons_succ, List.replicate_succ, List.replicate_zero, List.cons_append, List.nil_append, List.length_cons, List.length_nil, v_sub, v_add, v_neg, v_lt, v_le, v_gt, v_ge, v_abs, v_max, v_min, v_intI, v_intB, v_lenL, v_lenT, v_tupL, v_tupT, v_listL, v_listT, v_ixL, v_ixT, v_at0, v_at1, v_at2, v_bool, v_seqL, v_seqT, v_intOf, v_ok0, v_ok1, v_ok2, v_ok3, v_ok4, v_okn, v_ok5, v_ok6, v_ok7, v_ok8, v_ok9, v_ok10, v_ok11, v_ok12, v_ok13, v_ok14, v_ok15, v_ok16, v_ok17, v_ok18, v_ok19, v_ok20, v_ok21, v_ok22, v_ok23, v_ok24, v_ok25, v_ok26, v_ok27, v_ok28, v_ok29, v_ok30, v_ok31, v_ok32, gEq_int, gNe_int, v_rng1, v_rng2, okRg, Int.reducePow, Nat.sub_self, Nat.reduceSub, Nat.reduceAdd, unAll, if_true, if_false, Option.bind_some, Option.bind_none, ite_true, ite_false, Bool.false_eq_true, rgD, Int.reduceBEq, Int.reduceToNat, Int.reduceLT, Int.reduceLE, Int.reduceMul, Int.reduceAdd, Int.reduceSub, Int.reduceNeg, Nat.reduceMul, Nat.reduceLT, Nat.reduceBEq, decide_true, decide_false, Bool.and_true, Bool.true_and, Bool.and_self, Bool.not_true, Bool.not_false, BEq.rfl, reduceIte, v_mulS, v_modS, compGo_M, compM_map, compM_filter, compM_nil, x_ebool, x_bb, x_iband, x_ibor, x_band, x_bor, Bool.or_false, Bool.false_or, Bool.and_false, Bool.false_and, x_sWhile, v_revAL, v_revAT, v_revC0, x_eRevT, abs_ite, v_any3, v_atm1, v_atm2, v_atm3, v_lastT, v_lastL, Nat.add_zero, Nat.zero_add, nc0, nc1, nc2, nc3, nc4, nc5, nc6, x_pbool, Bool.true_or, Bool.or_true]))
structure FieldOk (m : Nat) (ps : List Pt) : Prop where
  bd : Bd ps
  rise : Rise ps
  len : ps.length ≤ m
  non : NonCol ps
theorem comp_swap {ps : List Pt} {g : MG} {q : MB} {e : ME} {ρ : List Sl} (h : Pt → Pt) (H : ∀ p, ∃ ρ', g (ptK p) ρ = some ρ' ∧ q ρ' = pure true ∧ e ρ' = pure (ptK (h p))) : compGo g q e ρ (ps.map ptK) = pure ((ps.map h).map ptK) := by
  rw [compGo_eq (fun _ => true) (fun d => ptK (h (keyP d))) (ps.map ptK) fun d hd => ?_]
  · rw [List.filter_eq_self.mpr fun _ _ => rfl, List.map_map, List.map_map]
    rfl
  · obtain ⟨p, _, rfl⟩ := List.mem_map.mp hd
    obtain ⟨ρ', h1, h2, h3⟩ := H p
    exact ⟨ρ', h1, h2, fun _ => h3⟩
/-- the state between the statements -/
def Mid (m kd : Int) (o : Out) : Prop := ∃ (ps : List Pt) (s4 s5 s6 s7 s8 : Sl), o = .nx [.tp, .fz (.int m), .fz (.int kd), .ow (ps.map ptK), s4, s5, s6, s7, s8] ∧ Bd ps ∧ ps.length ≤ m.toNat ∧ ps ≠ []
def MidW (m kd w : Int) (o : Out) : Prop := ∃ (ps : List Pt) (s4 s5 s7 s8 : Sl), o = .nx [.tp, .fz (.int m), .fz (.int kd), .ow (ps.map ptK), s4, s5, .fz (.int w), s7, s8] ∧ Bd ps ∧ ps.length ≤ m.toNat ∧ ps ≠ []
theorem bd_set {ps : List Pt} {i : Nat} {q : Pt} (h : Bd ps) (hq : q.1.natAbs ≤ 1000 ∧ q.2.natAbs ≤ 1000) : Bd (ps.set i q) := fun p hp => by
  rcases List.mem_or_eq_of_mem_set hp with h1 | h1
  · exact h p h1
  · rw [h1]; exact hq
theorem set_ne {ps : List Pt} {i : Nat} {q : Pt} (h : ps ≠ []) : ps.set i q ≠ [] := fun e => by
  have := congrArg List.length e
  rw [List.length_set] at this
  exact h (List.length_eq_zero_iff.mp this)
theorem map_set (ps : List Pt) (i : Nat) (q : Pt) : (ps.map ptK).set i (ptK q) = (ps.set i q).map ptK := (List.map_set ..).symm
theorem field_gv {m : Int} (m1 : 9 ≤ m) (m2 : m ≤ 16) : Gv 0 (m_law_field [.tp, .fz (.int m)]) 70 fun d => ∃ ps : List Pt, d = .tuple (ps.map ptK) ∧ FieldOk m.toNat ps := by
  unfold m_law_field
  walk_at "ev"
  refine draw1 (by decide) (by decide) fun kd k0 k1 => ?_
  walk_at "ev"
  refine draw1 (by omega) (by omega) fun r r0 r1 => ?_
  walk_at "ev"
  rw [v_rng1 (by unfold okRg; rw [Bool.and_eq_true]; exact ⟨decide_eq_true (by omega), decide_eq_true (by omega)⟩)]
  walk_at "ev"
  refine Gv.step (c := 48) (P := Mid m kd) ?_ fun o ho => ?_
  · refine Gv.imp (spots_gv (n := (3 + r).toNat) (by omega) k0 k1 _ _ _ _ _) fun o ho => ?_
    obtain ⟨ps, s4, s5, s6, s7, s8, rfl, hb, hl, hne⟩ := ho
    exact ⟨ps, _, _, _, _, _, rfl, hb, by omega, hne (by omega)⟩
  obtain ⟨ps, s4, s5, s6, s7, s8, rfl, hb, hl, hne⟩ := ho
  walk_at "ev"
  refine draw1 (by decide) (by decide) fun z z0 z1 => ?_
  walk_at "ev"
  refine Gv.step (c := 3) (P := Mid m kd) (Gv.ite (fun _ => ?_) fun _ => ?_) fun o ho => ?_
  · refine draw1 (by decide) (by decide) fun x x0 x1 => ?_
    walk_at "ev"
    refine draw1 (by decide) (by decide) fun y y0 y1 => ?_
    walk_at "ev"
    have lp : 0 < ps.length := List.length_pos_iff.mpr hne
    rw [List.length_map]
    refine draw1 (by omega) (by omega) fun i i0 i1 => ?_
    walk_at "ev"
    rw [ix_of i0 i1]
    walk_at "ev"
    exact Gv.ret ⟨ps.set i.toNat (x - 3, y - 3), _, _, _, _, _, by rw [← map_set], bd_set hb ⟨by show (x - 3).natAbs ≤ 1000; omega, by show (y - 3).natAbs ≤ 1000; omega⟩, by rw [List.length_set]; exact hl, set_ne hne⟩
  · exact Gv.ret ⟨ps, _, _, _, _, _, rfl, hb, hl, hne⟩
  clear hb hl hne
  obtain ⟨ps, s4, s5, s6, s7, s8, rfl, hb, hl, hne⟩ := ho
  walk_at "ev"
  refine draw1 (by decide) (by decide) fun w w0 w1 => ?_
  walk_at "ev"
  refine Gv.step (c := 0) (P := MidW m kd w) (Gv.ite (fun _ => ?_) fun _ => ?_) fun o ho => ?_
  · rw [show okLen (ps.map ptK).length = true from decide_eq_true (by rw [List.length_map]; omega)]
    walk_at "ev"
    rw [comp_swap (fun p => (p.2, p.1)) fun p => ⟨_, rfl, rfl, rfl⟩]
    walk_at "ev"
    refine Gv.ret ⟨_, _, _, _, _, rfl, fun q hq => ?_, by rw [List.length_map]; exact hl, fun e => hne (List.map_eq_nil_iff.mp e)⟩
    obtain ⟨p, hp, rfl⟩ := List.mem_map.mp hq
    exact ⟨(hb p hp).2, (hb p hp).1⟩
  · exact Gv.ret ⟨ps, _, _, _, _, rfl, hb, hl, hne⟩
  clear hb hl hne
  obtain ⟨ps, s4, s5, s7, s8, rfl, hb, hl, hne⟩ := ho
  walk_at "ev"
  rw [v_mod (okMod_of (by decide))]
  walk_at "ev"
  refine Gv.step (c := 0) (P := MidW m kd w) (Gv.ite (fun _ => ?_) fun _ => ?_) fun o ho => ?_
  · rw [show okLen (ps.map ptK).length = true from decide_eq_true (by rw [List.length_map]; omega)]
    walk_at "ev"
    rw [comp_swap (fun p => (0 - p.1, p.2)) fun p => ⟨_, rfl, rfl, rfl⟩]
    walk_at "ev"
    refine Gv.ret ⟨_, _, _, _, _, rfl, fun q hq => ?_, by rw [List.length_map]; exact hl, fun e => hne (List.map_eq_nil_iff.mp e)⟩
    obtain ⟨p, hp, rfl⟩ := List.mem_map.mp hq
    have := hb p hp
    exact ⟨by show (0 - p.1).natAbs ≤ 1000; omega, this.2⟩
  · exact Gv.ret ⟨ps, _, _, _, _, rfl, hb, hl, hne⟩
  clear hb hl hne
  obtain ⟨ps, s4, s5, s7, s8, rfl, hb, hl, hne⟩ := ho
  walk_at "ev"
  refine draw1 (by decide) (by decide) fun z z0 z1 => ?_
  walk_at "ev"
  refine Gv.step (c := 2) (P := MidW m kd w) (Gv.ite (fun _ => ?_) fun _ => ?_) fun o ho => ?_
  · have px : ∀ x : Int, 0 ≤ x → x < 2 → ∃ u : Int, gIx (PyData.list [PyData.int 1, PyData.int (-1)]) (PyData.int x) = some (.int u) ∧ u.natAbs ≤ 1 := fun x h0 h1 => by
      rcases (show x = 0 ∨ x = 1 by omega) with rfl | rfl
      · exact ⟨1, rfl, by decide⟩
      · exact ⟨-1, rfl, by decide⟩
    refine draw1 (by decide) (by decide) fun x x0 x1 => ?_
    obtain ⟨u, eu, hu⟩ := px x x0 x1
    rw [eu]
    walk_at "ev"
    rw [v_mul (okMulB (by decide) (Nat.le_trans hu (by decide)))]
    walk_at "ev"
    refine draw1 (by decide) (by decide) fun y y0 y1 => ?_
    obtain ⟨v, ev, hv⟩ := px y y0 y1
    rw [ev]
    walk_at "ev"
    rw [v_mul (okMulB (by decide) (Nat.le_trans hv (by decide)))]
    walk_at "ev"
    have lp : 0 < ps.length := List.length_pos_iff.mpr hne
    rw [List.length_map, ix_of (by decide) (by omega)]
    walk_at "ev"
    exact Gv.ret ⟨ps.set 0 (1000 * u, 1000 * v), _, _, _, _, by rw [← map_set], bd_set hb ⟨by show (1000 * u).natAbs ≤ 1000; omega, by show (1000 * v).natAbs ≤ 1000; omega⟩, by rw [List.length_set]; exact hl, set_ne hne⟩
  · exact Gv.ret ⟨ps, _, _, _, _, rfl, hb, hl, hne⟩
  clear hb hl hne
  obtain ⟨f0, s4, s5, s7, s8, rfl, hb, hl, hne⟩ := ho
  rw [x_atN, x_sSeq, x_sFor]
  have hi : ∀ ρ, lSeq (eList (nLst (lCons (eTup (lCons (eC (.int 0)) (lCons (eC (.int 0)) lNil))) (lCons (eTup (lCons (eC (.int 1)) (lCons (eC (.int 2)) lNil))) (lCons (eTup (lCons (eC (.int 2)) (lCons (e1 gNeg (eC (.int 1))) lNil))) (lCons (eTup (lCons (eC (.int 7)) (lCons (eC (.int 1)) lNil))) lNil)))))) ρ = pure [ptK (0, 0), ptK (1, 2), ptK (2, -1), ptK (7, 1)] := fun ρ => rfl
  rw [hi, x_pb]
  have hm : 9 ≤ m.toNat := by omega
  have hcand : sFrz 3 (sIf (bOr (tOf (e2 gLtD (eCal cLenSet (lCons (bVar 3) lNil)) (eC (.int 3)))) (tOf (eCall m_law_on_line (aCons (eVar 3) aNil)))) (sAsg (e2 gAdd (eCut (eList (nCal cSortSet (lCons (bVar 3) lNil))) pNone (pSome (e2 gSub (bVar 1) (eC (.int 1))))) (eList (nLst (lCons (eVar 5) lNil)))) (mName 3)) sNext) = mCand := rfl
  rw [hcand]
  have one : ∀ (c : Pt) (rest : List PyData) (ps : List Pt) (s3 s5 : Sl), ps ≠ [] → Bd ps → ps.length ≤ m.toNat → (s3 = .ow (ps.map ptK) ∨ s3 = .fz (.list (ps.map ptK))) → ∃ qs : List Pt, Step m.toNat ps c qs ∧ qs ≠ [] ∧
      forGo (mName 5) mCand (ptK c :: rest) [.tp, .fz (.int m), .fz (.int kd), s3, s4, s5, .fz (.int w), s7, s8] = forGo (mName 5) mCand rest [.tp, .fz (.int m), .fz (.int kd), .fz (.list (qs.map ptK)), s4, .fz (ptK c), .fz (.int w), s7, s8] := by
    intro c rest ps s3 s5 h0 h1 h2 hs
    obtain ⟨qs, st, e⟩ := cand_eq m1 m2 h0 h1 h2 c (.fz (.int kd)) s4 (.fz (.int w)) s7 s8 s3 hs
    refine ⟨qs, st, ?_, ?_⟩
    · rcases st with ⟨_, rfl⟩ | ⟨_, rfl⟩
      · simp
      · exact h0
    · rw [x_forC, x_mName, x_ls, x_pb]
      show mCand [.tp, .fz (.int m), .fz (.int kd), s3, s4, .fz (ptK c), .fz (.int w), s7, s8] >>= _ = _
      rw [e, x_pb, x_loN]
  obtain ⟨f1, t1, n1, e1⟩ := one (0, 0) [ptK (1, 2), ptK (2, -1), ptK (7, 1)] f0 _ s5 hne hb hl (.inl rfl)
  have b1 := t1.bd hb ⟨by decide, by decide⟩
  have l1 := t1.len hl (by omega)
  obtain ⟨f2, t2, n2, e2⟩ := one (1, 2) [ptK (2, -1), ptK (7, 1)] f1 _ (.fz (ptK (0, 0))) n1 b1 l1 (.inr rfl)
  have b2 := t2.bd b1 ⟨by decide, by decide⟩
  have l2 := t2.len l1 (by omega)
  obtain ⟨f3, t3, n3, e3⟩ := one (2, -1) [ptK (7, 1)] f2 _ (.fz (ptK (1, 2))) n2 b2 l2 (.inr rfl)
  have b3 := t3.bd b2 ⟨by decide, by decide⟩
  have l3 := t3.len l2 (by omega)
  obtain ⟨f4, t4, n4, e4⟩ := one (7, 1) [] f3 _ (.fz (ptK (2, -1))) n3 b3 l3 (.inr rfl)
  have non : NonCol f3 := three_cands hm hl t1 t2 t3
  have e34 : f4 = f3 := by
    rcases t4 with ⟨c, _⟩ | ⟨_, e⟩
    · exact (not_both c non).elim
    · exact e
  subst e34
  rw [e1, e2, e3, e4, x_forN, x_pb, x_atN]
  walk_at "ev"
  rw [v_sortSet (by omega)]
  walk_at "ev"
  refine Gv.ret ⟨sortK (dedP f4), rfl, fun p hp => b3 p (dedP_mem.mp ((sortK_perm _).mem_iff.mp hp)), sortK_rise (dedP_nodup f4), ?_, ?_⟩
  · rw [(sortK_perm _).length_eq]
    exact Nat.le_trans (ded_len f4) l3
  · obtain ⟨a, ha, b, hb', c, hc, n⟩ := non
    exact ⟨a, (sortK_perm _).mem_iff.mpr (dedP_mem.mpr ha), b, (sortK_perm _).mem_iff.mpr (dedP_mem.mpr hb'), c, (sortK_perm _).mem_iff.mpr (dedP_mem.mpr hc), n⟩
end LFD

set_option maxHeartbeats 1000000
namespace LPR
open DL PySem LFD
local macro_rules | `(tactic| walk_at "ev") => `(tactic| (try simp only [x_pb, x_fb, x_ba, x_ls, x_ln, x_eVar, x_bVar, x_rdF, x_rdB, x_eC, x_e2, x_e1, x_eList, x_eTup, x_nLst, x_lNil, x_lCons, x_aNil, x_aCons, x_aTape, x_isTp, x_eCal, x_nCal, x_eCall, x_eCut, x_pNone, x_pSome, x_tOf, x_bAnd, x_bOr, x_bNot, x_eIf, x_eAnd, x_eOr, x_eNot, x_eChain, x_lSeq, x_nComp, x_sNext, x_sSeq, x_atN, x_atR, x_atB, x_atC, x_sDrop, x_sRet, x_sIf, x_sAsg, x_mName, x_mSeq, x_mgNil, x_mgCons, x_sOwn, x_sFrz, x_frz, x_sApp, x_owOf, x_sSetI, x_sPar, x_sPar3, x_sFor, x_forN, x_forC, x_loN, x_loC, x_loB, x_loR, x_cN, x_cC, x_bYes, x_oR, x_oN, x_mf0, x_mf1, x_mf2, x_mf3, x_mf4, x_mf5, x_tput, x_sExt, x_nRev, v_isII, v_isBI, v_in3, v_ltDI, v_gtDI, v_leDI, v_geDI, List.getElem?_cons_zero, List.getElem?_cons_succ, List.set_cons_zero, List.set_cons_succ, List.replicate_succ, List.replicate_zero, List.cons_append, List.nil_append, List.length_cons, List.length_nil, v_sub, v_add, v_neg, v_lt, v_le, v_gt, v_ge, v_abs, v_max, v_min, v_intI, v_intB, v_lenL, v_lenT, v_tupL, v_tupT, v_listL, v_listT, v_ixL, v_ixT, v_at0, v_at1, v_at2, v_bool, v_seqL, v_seqT, v_intOf, v_ok0, v_ok1, v_ok2, v_ok3, v_ok4, v_okn, v_ok5, v_ok6, v_ok7, v_ok8, v_ok9, v_ok10, v_ok11, v_ok12, v_ok13, v_ok14, v_ok15, v_ok16, v_ok17, v_ok18, v_ok19, v_ok20, v_ok21, v_ok22, v_ok23, v_ok24, v_ok25, v_ok26, v_ok27, v_ok28, v_ok29, v_ok30, v_ok31, v_ok32, gEq_int, gNe_int, v_rng1, v_rng2, okRg, Int.reducePow, Nat.sub_self, Nat.reduceSub, Nat.reduceAdd, unAll, if_true, if_false, Option.bind_some, Option.bind_none, ite_true, ite_false, Bool.false_eq_true, rgD, Int.reduceBEq, Int.reduceToNat, Int.reduceLT, Int.reduceLE, Int.reduceMul, Int.reduceAdd, Int.reduceSub, Int.reduceNeg, Nat.reduceMul, Nat.reduceLT, Nat.reduceBEq, decide_true, decide_false, Bool.and_true, Bool.true_and, Bool.and_self, Bool.not_true, Bool.not_false, BEq.rfl, reduceIte]))
local macro_rules | `(tactic| walk_at "evt") => `(tactic| (try simp only [x_pb, x_fb, x_ba, x_ls, x_ln, x_eVar, x_bVar, x_rdF, x_rdB, x_eC, x_e2, x_e1, x_eList, x_eTup, x_nLst, x_lNil, x_lCons, x_aNil, x_aCons, x_aTape, x_isTp, x_eCal, x_nCal, x_eCall, x_eCut, x_pNone, x_pSome, x_tOf, x_bAnd, x_bOr, x_bNot, x_eIf, x_eAnd, x_eOr, x_eNot, x_eChain, x_lSeq, x_nComp, x_sNext, x_sSeq, x_atN, x_atR, x_atB, x_atC, x_sDrop, x_sRet, x_sIf, x_sAsg, x_mName, x_mSeq, x_mgNil, x_mgCons, x_sOwn, x_sFrz, x_frz, x_sApp, x_owOf, x_sSetI, x_sPar, x_sPar3, x_sFor, x_forN, x_forC, x_loN, x_loC, x_loB, x_loR, x_cN, x_cC, x_bYes, x_oR, x_oN, x_mf0, x_mf1, x_mf2, x_mf3, x_mf4, x_mf5, x_tput, x_sExt, x_nRev, v_isII, v_isBI, v_in3, v_ltDI, v_gtDI, v_leDI, v_geDI, List.getElem?_cons_zero, List.getElem?_cons_succ, List.set_cons_zero, List.set_cons_succ, List.replicate_succ, List.replicate_zero, List.cons_append, List.nil_append, List.length_cons, List.length_nil, v_sub, v_add, v_neg, v_lt, v_le, v_gt, v_ge, v_abs, v_max, v_min, v_intI, v_intB, v_lenL, v_lenT, v_tupL, v_tupT, v_listL, v_listT, v_ixL, v_ixT, v_at0, v_at1, v_at2, v_bool, v_seqL, v_seqT, v_intOf, v_ok0, v_ok1, v_ok2, v_ok3, v_ok4, v_okn, v_ok5, v_ok6, v_ok7, v_ok8, v_ok9, v_ok10, v_ok11, v_ok12, v_ok13, v_ok14, v_ok15, v_ok16, v_ok17, v_ok18, v_ok19, v_ok20, v_ok21, v_ok22, v_ok23, v_ok24, v_ok25, v_ok26, v_ok27, v_ok28, v_ok29, v_ok30, v_ok31, v_ok32, gEq_int, gNe_int, v_rng1, v_rng2, okRg, Int.reducePow, Nat.sub_self, Nat.reduceSub, Nat.reduceAdd, unAll, if_true, if_false, Option.bind_some, Option.bind_none, ite_true, ite_false, Bool.false_eq_true, rgD, Int.reduceBEq, Int.reduceToNat, Int.reduceLT, Int.reduceLE, Int.reduceMul, Int.reduceAdd, Int.reduceSub, Int.reduceNeg, Nat.reduceMul, Nat.reduceLT, Nat.reduceBEq, decide_true, decide_false, Bool.and_true, Bool.true_and, Bool.and_self, Bool.not_true, Bool.not_false, BEq.rfl, reduceIte, bnd_ap, pure_ap, lift_ap, fail_ap, ite_ap, x_tget, x_doPut, fldOf, tSet, Option.map_some, Option.map_none, beq_self_eq_true, Bool.and_true, Bool.true_and]))
local macro_rules | `(tactic| walk_at "ev1") => `(tactic| (try simp only [x_pb, x_fb, x_ba, x_ls, x_ln, x_eVar, x_bVar, x_rdF, x_rdB, x_eC, x_e2, x_e1, x_eList, x_eTup, x_nLst, x_lNil, x_lCons, x_aNil, x_aCons, x_aTape, x_isTp, x_eCal, x_nCal, x_eCall, x_eCut, x_pNone, x_pSome, x_tOf, x_bAnd, x_bOr, x_bNot, x_eIf, x_eAnd, x_eOr, x_eNot, x_eChain, x_lSeq, x_nComp, x_sNext, x_sSeq, x_atN, x_atR, x_atB, x_atC, x_sDrop, x_sRet, x_sIf, x_sAsg, x_mName, x_mSeq, x_mgNil, x_mgCons, x_sOwn, x_sFrz, x_frz, x_sApp, x_owOf, x_sSetI, x_sPar, x_sPar3, x_sFor, x_forN, x_forC, x_loN, x_loC, x_loB, x_loR, x_cN, x_cC, x_bYes, x_oR, x_oN, x_mf0, x_mf1, x_mf2, x_mf3, x_mf4, x_mf5, x_tput, x_sExt, x_nRev, v_isII, v_isBI, v_in3, v_ltDI, v_gtDI, v_leDI, v_geDI, List.getElem?_cons_zero, List.getElem?_cons_succ, List.set_cons_zero, List.set_cons_succ, List.replicate_succ, List.replicate_zero, List.cons_append, List.nil_append, List.length_cons, List.length_nil, v_sub, v_add, v_neg, v_lt, v_le, v_gt, v_ge, v_abs, v_max, v_min, v_intI, v_intB, v_lenL, v_lenT, v_tupL, v_tupT, v_listL, v_listT, v_ixL, v_ixT, v_at0, v_at1, v_at2, v_bool, v_seqL, v_seqT, v_intOf, v_ok0, v_ok1, v_ok2, v_ok3, v_ok4, v_okn, v_ok5, v_ok6, v_ok7, v_ok8, v_ok9, v_ok10, v_ok11, v_ok12, v_ok13, v_ok14, v_ok15, v_ok16, v_ok17, v_ok18, v_ok19, v_ok20, v_ok21, v_ok22, v_ok23, v_ok24, v_ok25, v_ok26, v_ok27, v_ok28, v_ok29, v_ok30, v_ok31, v_ok32, gEq_int, gNe_int, v_rng1, v_rng2, okRg, Int.reducePow, Nat.sub_self, Nat.reduceSub, Nat.reduceAdd, unAll, if_true, if_false, Option.bind_some, Option.bind_none, ite_true, ite_false, Bool.false_eq_true, rgD, Int.reduceBEq, Int.reduceToNat, Int.reduceLT, Int.reduceLE, Int.reduceMul, Int.reduceAdd, Int.reduceSub, Int.reduceNeg, Nat.reduceMul, Nat.reduceLT, Nat.reduceBEq, decide_true, decide_false, Bool.and_true, Bool.true_and, Bool.and_self, Bool.not_true, Bool.not_false, BEq.rfl, reduceIte, v_mulS, v_modS, compGo_M, compM_map, compM_filter, compM_nil, x_ebool, x_bb, x_iband, x_ibor, x_band, x_bor, Bool.or_false, Bool.false_or, Bool.and_false, Bool.false_and, x_sWhile, v_revAL, v_revAT, v_revC0, x_eRevT, abs_ite, v_any3, v_atm1, v_atm2, v_atm3, v_lastT, v_lastL, Nat.add_zero, Nat.zero_add, nc0, nc1, nc2, nc3, nc4, nc5, nc6, x_pbool, Bool.true_or, Bool.or_true]))
theorem turning_eq (a b c : BP) : m_turning [.fz (ptB a), .fz (ptB b), .fz (ptB c)] = pure (.int (Tp a.1 b.1 c.1)) := by
  unfold m_turning
  walk_at "ev1"
  rfl
local macro_rules | `(tactic| walk_at "ev2") => `(tactic| (try simp only [x_pb, x_fb, x_ba, x_ls, x_ln, x_eVar, x_bVar, x_rdF, x_rdB, x_eC, x_e2, x_e1, x_eList, x_eTup, x_nLst, x_lNil, x_lCons, x_aNil, x_aCons, x_aTape, x_isTp, x_eCal, x_nCal, x_eCall, x_eCut, x_pNone, x_pSome, x_tOf, x_bAnd, x_bOr, x_bNot, x_eIf, x_eAnd, x_eOr, x_eNot, x_eChain, x_lSeq, x_nComp, x_sNext, x_sSeq, x_atN, x_atR, x_atB, x_atC, x_sDrop, x_sRet, x_sIf, x_sAsg, x_mName, x_mSeq, x_mgNil, x_mgCons, x_sOwn, x_sFrz, x_frz, x_sApp, x_owOf, x_sSetI, x_sPar, x_sPar3, x_sFor, x_forN, x_forC, x_loN, x_loC, x_loB, x_loR, x_cN, x_cC, x_bYes, x_oR, x_oN, x_mf0, x_mf1, x_mf2, x_mf3, x_mf4, x_mf5, x_tput, x_sExt, x_nRev, v_isII, v_isBI, v_in3, v_ltDI, v_gtDI, v_leDI, v_geDI, List.getElem?_cons_zero, List.getElem?_cons_succ, List.set_cons_zero, List.set_cons_succ, List.replicate_succ, List.replicate_zero, List.cons_append, List.nil_append, List.length_cons, List.length_nil, v_sub, v_add, v_neg, v_lt, v_le, v_gt, v_ge, v_abs, v_max, v_min, v_intI, v_intB, v_lenL, v_lenT, v_tupL, v_tupT, v_listL, v_listT, v_ixL, v_ixT, v_at0, v_at1, v_at2, v_bool, v_seqL, v_seqT, v_intOf, v_ok0, v_ok1, v_ok2, v_ok3, v_ok4, v_okn, v_ok5, v_ok6, v_ok7, v_ok8, v_ok9, v_ok10, v_ok11, v_ok12, v_ok13, v_ok14, v_ok15, v_ok16, v_ok17, v_ok18, v_ok19, v_ok20, v_ok21, v_ok22, v_ok23, v_ok24, v_ok25, v_ok26, v_ok27, v_ok28, v_ok29, v_ok30, v_ok31, v_ok32, gEq_int, gNe_int, v_rng1, v_rng2, okRg, Int.reducePow, Nat.sub_self, Nat.reduceSub, Nat.reduceAdd, unAll, if_true, if_false, Option.bind_some, Option.bind_none, ite_true, ite_false, Bool.false_eq_true, rgD, Int.reduceBEq, Int.reduceToNat, Int.reduceLT, Int.reduceLE, Int.reduceMul, Int.reduceAdd, Int.reduceSub, Int.reduceNeg, Nat.reduceMul, Nat.reduceLT, Nat.reduceBEq, decide_true, decide_false, Bool.and_true, Bool.true_and, Bool.and_self, Bool.not_true, Bool.not_false, BEq.rfl, reduceIte, v_mulS, v_modS, compGo_M, compM_map, compM_filter, compM_nil, x_ebool, x_bb, x_iband, x_ibor, x_band, x_bor, Bool.or_false, Bool.false_or, Bool.and_false, Bool.false_and, x_sWhile, v_revAL, v_revAT, v_revC0, x_eRevT, abs_ite, v_any3, v_atm1, v_atm2, v_atm3, v_lastT, v_lastL, Nat.add_zero, Nat.zero_add, nc0, nc1, nc2, nc3, nc4, nc5, nc6, x_pbool, Bool.true_or, Bool.or_true, turning_eq]))
theorem area_eq (a b c : BP) : m_area [.fz (ptB a), .fz (ptB b), .fz (ptB c)] = pure (.int (Tp a.1 b.1 c.1).natAbs) := by
  unfold m_area
  walk_at "ev2"
/-- the sign -/
def sg (x : Int) : Int := (if decide (0 < x) = true then 1 else 0) - (if decide (x < 0) = true then 1 else 0)
theorem sg_cases (x : Int) : (0 < x ∧ sg x = 1) ∨ (x = 0 ∧ sg x = 0) ∨ (x < 0 ∧ sg x = -1) := by
  unfold sg
  rcases (show 0 < x ∨ x = 0 ∨ x < 0 by omega) with h | h | h
  · exact .inl ⟨h, by rw [decide_eq_true h, decide_eq_false (by omega)]; rfl⟩
  · exact .inr (.inl ⟨h, by subst h; rfl⟩)
  · exact .inr (.inr ⟨h, by rw [decide_eq_true h, decide_eq_false (by omega)]; rfl⟩)
instance szSg {x : Int} : Sz (sg x) 2 := ⟨by have := sg_cases x; omega⟩
abbrev Sd (a b c : Pt) : Int := sg (Tp a b c)
theorem side_eq (a b c : BP) : m_side [.fz (ptB a), .fz (ptB b), .fz (ptB c)] = pure (.int (Sd a.1 b.1 c.1)) := by
  unfold m_side
  walk_at "ev2"
  rfl
local macro_rules | `(tactic| walk_at "ev3") => `(tactic| (try simp only [x_pb, x_fb, x_ba, x_ls, x_ln, x_eVar, x_bVar, x_rdF, x_rdB, x_eC, x_e2, x_e1, x_eList, x_eTup, x_nLst, x_lNil, x_lCons, x_aNil, x_aCons, x_aTape, x_isTp, x_eCal, x_nCal, x_eCall, x_eCut, x_pNone, x_pSome, x_tOf, x_bAnd, x_bOr, x_bNot, x_eIf, x_eAnd, x_eOr, x_eNot, x_eChain, x_lSeq, x_nComp, x_sNext, x_sSeq, x_atN, x_atR, x_atB, x_atC, x_sDrop, x_sRet, x_sIf, x_sAsg, x_mName, x_mSeq, x_mgNil, x_mgCons, x_sOwn, x_sFrz, x_frz, x_sApp, x_owOf, x_sSetI, x_sPar, x_sPar3, x_sFor, x_forN, x_forC, x_loN, x_loC, x_loB, x_loR, x_cN, x_cC, x_bYes, x_oR, x_oN, x_mf0, x_mf1, x_mf2, x_mf3, x_mf4, x_mf5, x_tput, x_sExt, x_nRev, v_isII, v_isBI, v_in3, v_ltDI, v_gtDI, v_leDI, v_geDI, List.getElem?_cons_zero, List.getElem?_cons_succ, List.set_cons_zero, List.set_cons_succ, List.replicate_succ, List.replicate_zero, List.cons_append, List.nil_append, List.length_cons, List.length_nil, v_sub, v_add, v_neg, v_lt, v_le, v_gt, v_ge, v_abs, v_max, v_min, v_intI, v_intB, v_lenL, v_lenT, v_tupL, v_tupT, v_listL, v_listT, v_ixL, v_ixT, v_at0, v_at1, v_at2, v_bool, v_seqL, v_seqT, v_intOf, v_ok0, v_ok1, v_ok2, v_ok3, v_ok4, v_okn, v_ok5, v_ok6, v_ok7, v_ok8, v_ok9, v_ok10, v_ok11, v_ok12, v_ok13, v_ok14, v_ok15, v_ok16, v_ok17, v_ok18, v_ok19, v_ok20, v_ok21, v_ok22, v_ok23, v_ok24, v_ok25, v_ok26, v_ok27, v_ok28, v_ok29, v_ok30, v_ok31, v_ok32, gEq_int, gNe_int, v_rng1, v_rng2, okRg, Int.reducePow, Nat.sub_self, Nat.reduceSub, Nat.reduceAdd, unAll, if_true, if_false, Option.bind_some, Option.bind_none, ite_true, ite_false, Bool.false_eq_true, rgD, Int.reduceBEq, Int.reduceToNat, Int.reduceLT, Int.reduceLE, Int.reduceMul, Int.reduceAdd, Int.reduceSub, Int.reduceNeg, Nat.reduceMul, Nat.reduceLT, Nat.reduceBEq, decide_true, decide_false, Bool.and_true, Bool.true_and, Bool.and_self, Bool.not_true, Bool.not_false, BEq.rfl, reduceIte, v_mulS, v_modS, compGo_M, compM_map, compM_filter, compM_nil, x_ebool, x_bb, x_iband, x_ibor, x_band, x_bor, Bool.or_false, Bool.false_or, Bool.and_false, Bool.false_and, x_sWhile, v_revAL, v_revAT, v_revC0, x_eRevT, abs_ite, v_any3, v_atm1, v_atm2, v_atm3, v_lastT, v_lastL, Nat.add_zero, Nat.zero_add, nc0, nc1, nc2, nc3, nc4, nc5, nc6, x_pbool, Bool.true_or, Bool.or_true, turning_eq, side_eq, area_eq]))
/-- squared distance -/
def sq (a b : Pt) : Int := (a.1 - b.1) * (a.1 - b.1) + (a.2 - b.2) * (a.2 - b.2)
def dot (a b c : Pt) : Int := (b.1 - a.1) * (c.1 - a.1) + (b.2 - a.2) * (c.2 - a.2)
theorem dot_sq (a b c : Pt) : 2 * dot a b c = sq a b + sq a c - sq b c := by unfold dot sq; grind
theorem cdiv_eq (a b : Int) (ha : 0 ≤ a) (hb : 0 ≤ b) : m_common_divisor [.fz (.int a), .fz (.int b)] = pure (.int (Int.gcd a b)) := by
  unfold m_common_divisor
  rw [x_mf2]
  show (sSeq _ _ [.fz (.int a), .fz (.int b), .un] >>= outD) = _
  rw [x_sSeq, x_sWhile]
  obtain ⟨z, ⟨z1, z2, z3⟩, zg, e, _⟩ := while_eq (c := tOf (e2 gGtD (bVar 1) (eC (.int 0)))) (b := sSeq (sAsg (e2 gMod (bVar 0) (bVar 1)) (mName 2)) (sSeq (sAsg (eVar 1) (mName 0)) (sAsg (eVar 2) (mName 1))))
    (fun s : Int × Int × Sl => [.fz (.int s.1), .fz (.int s.2.1), s.2.2]) (fun s => decide (0 < s.2.1)) (fun s => (s.2.1, s.1 % s.2.1, .fz (.int (s.1 % s.2.1)))) (fun s => s.2.1.natAbs) (fun s => 0 ≤ s.1 ∧ 0 ≤ s.2.1 ∧ Int.gcd s.1 s.2.1 = Int.gcd a b)
    (fun s h => by walk_at "ev1") (fun s h hg => by
      have hg := of_decide_eq_true hg
      have h0 := Int.emod_nonneg s.1 (show s.2.1 ≠ 0 by omega)
      have h1 := Int.emod_lt_of_pos s.1 hg
      refine ⟨?_, ⟨by dsimp only; omega, h0, ?_⟩, by dsimp only; omega⟩
      · walk_at "ev1"
        rw [v_modS hg]
        walk_at "ev1"
      · dsimp only
        rw [gcd_md]
        exact h.2.2) (fuelS [.fz (.int a), .fz (.int b), .un]) (a, b, .un) ⟨ha, hb, rfl⟩ (by
      have := natD_le (ρ := [.fz (.int a), .fz (.int b), .un]) (i := b) (by simp)
      dsimp only
      omega)
  rw [e, x_pb]
  walk_at "ev1"
  have z0 : z.2.1 = 0 := by
    have := of_decide_eq_false zg
    omega
  rw [z0, Int.gcd_zero_right] at z3
  congr 2
  omega
/-- a fraction in lowest terms -/
def frN (t b : Int) : Int := t / (Int.gcd t b : Int)
def frD (t b : Int) : Int := b / (Int.gcd t b : Int)
abbrev frP (t b : Int) : PyData := .tuple [.int (frN t b), .int (frD t b)]
instance szN {t b : Int} {n : Nat} [Sz t n] : Sz (frN t b) n := szDiv
instance szD {t b : Int} {n : Nat} [Sz b n] : Sz (frD t b) n := szDiv
theorem gcd_pos {t b : Int} (h : 0 < b) : (0 : Int) < (Int.gcd t b : Int) := by
  have := Int.gcd_pos_of_ne_zero_right t (show b ≠ 0 by omega)
  omega
theorem fraction_eq {t b : Int} {n m : Nat} [Sz t n] [Sz b m] (hb : 0 < b) (hn : n + m < 9000) : m_fraction [.fz (.int t), .fz (.int b)] = pure (frP t b) := by
  have g0 := gcd_pos (t := t) hb
  unfold m_fraction
  walk_at "ev1"
  rw [decide_eq_false (by omega)]
  walk_at "ev1"
  rw [cdiv_eq _ _ (by omega) (by omega)]
  walk_at "ev1"
  have e : ((((t.natAbs : Int)).gcd b : Nat) : Int) = (t.gcd b : Int) := by
    show ((Nat.gcd _ _ : Nat) : Int) = ((Nat.gcd _ _ : Nat) : Int)
    rw [Int.natAbs_natCast]
  rw [e, v_divS g0 hn]
  walk_at "ev1"
  rw [v_divS g0 hn]
  walk_at "ev1"
  rfl
theorem less_eq {a b c d : Int} {n m k l : Nat} [Sz a n] [Sz b m] [Sz c k] [Sz d l] (h1 : n + l < 300000) (h2 : k + m < 300000) : m_less [.fz (.tuple [.int a, .int b]), .fz (.tuple [.int c, .int d])] = pure (.bool (decide (a * d < c * b))) := by
  unfold m_less
  walk_at "ev1"
  rw [v_mulS h1]
  walk_at "ev1"
  rw [v_mulS h2]
  walk_at "ev1"
theorem fr_eqs {t b : Int} (hb : 0 < b) : ∃ g : Int, 0 < g ∧ t = g * frN t b ∧ b = g * frD t b := by
  refine ⟨_, gcd_pos (t := t) hb, ?_, ?_⟩
  · exact (Int.mul_ediv_cancel' (Int.gcd_dvd_left t b)).symm
  · exact (Int.mul_ediv_cancel' (Int.gcd_dvd_right t b)).symm
theorem frD_pos {t b : Int} (hb : 0 < b) : 0 < frD t b := by
  obtain ⟨g, g0, _, e⟩ := fr_eqs (t := t) hb
  rw [e] at hb
  exact Int.pos_of_mul_pos_right hb g0
/-- fractions over one bottom compare as their tops -/
theorem fr_lt {t u b : Int} (hb : 0 < b) : frN t b * frD u b < frN u b * frD t b ↔ t < u := by
  obtain ⟨g, g0, e1, e2⟩ := fr_eqs (t := t) hb
  obtain ⟨h, h0, e3, e4⟩ := fr_eqs (t := u) hb
  have p : 0 < g * h := Int.mul_pos g0 h0
  generalize frN t b = x at *
  generalize frD t b = y at *
  generalize frN u b = z at *
  generalize frD u b = w at *
  have l : (g * h) * (x * w) = t * b := by rw [e1, e4]; grind
  have r : (g * h) * (z * y) = u * b := by rw [e3, e2]; grind
  constructor
  · intro q
    have := Int.mul_lt_mul_of_pos_left q p
    rw [l, r] at this
    exact Int.lt_of_mul_lt_mul_right this (by omega)
  · intro q
    have := Int.mul_lt_mul_of_pos_right q hb
    rw [← l, ← r] at this
    exact Int.lt_of_mul_lt_mul_left this (by omega)
theorem fr_two {t b : Int} : frN (2 * t) (2 * b) = frN t b ∧ frD (2 * t) (2 * b) = frD t b := by
  unfold frN frD
  have e : ((Int.gcd (2 * t) (2 * b) : Nat) : Int) = 2 * (Int.gcd t b : Int) := by
    rw [Int.gcd_mul_left]
    rfl
  rw [e]
  exact ⟨Int.mul_ediv_mul_of_pos _ _ (by decide), Int.mul_ediv_mul_of_pos _ _ (by decide)⟩
theorem corner_eq (a b c : BP) (h : Tp a.1 b.1 c.1 ≠ 0) : m_corner [.fz (ptB a), .fz (ptB b), .fz (ptB c)] = pure (frP (dot a.1 b.1 c.1) ((Tp a.1 b.1 c.1).natAbs)) := by
  unfold m_corner
  walk_at "ev3"
  have e : dot a.1 b.1 c.1 = (b.val.fst - a.val.fst) * (c.val.fst - a.val.fst) + (b.val.snd - a.val.snd) * (c.val.snd - a.val.snd) := rfl
  rw [← e]
  haveI s1 : Sz (dot a.1 b.1 c.1) _ := e ▸ (inferInstance : Sz ((b.val.fst - a.val.fst) * (c.val.fst - a.val.fst) + (b.val.snd - a.val.snd) * (c.val.snd - a.val.snd)) _)
  haveI s2 : Sz (Tp a.1 b.1 c.1) _ := (inferInstance : Sz ((b.val.fst - a.val.fst) * (c.val.snd - a.val.snd) - (b.val.snd - a.val.snd) * (c.val.fst - a.val.fst)) _)
  rw [fraction_eq (by omega) (by decide)]
  walk_at "ev3"
instance szDot {a b c : BP} : Sz (dot a.1 b.1 c.1) 85 := (inferInstance : Sz ((b.val.fst - a.val.fst) * (c.val.fst - a.val.fst) + (b.val.snd - a.val.snd) * (c.val.snd - a.val.snd)) _)
instance szTp {a b c : BP} : Sz (Tp a.1 b.1 c.1) 85 := (inferInstance : Sz ((b.val.fst - a.val.fst) * (c.val.snd - a.val.snd) - (b.val.snd - a.val.snd) * (c.val.fst - a.val.fst)) _)
theorem area_rot (a b c : Pt) : (Tp b c a).natAbs = (Tp a b c).natAbs := by rw [show Tp b c a = Tp a b c by unfold Tp; grind]
theorem area_swap (a b c : Pt) : (Tp b a c).natAbs = (Tp a b c).natAbs := by rw [show Tp b a c = -Tp a b c by unfold Tp; grind, Int.natAbs_neg]
/-- the greatest of three dots -/
def dmax (a b c : Pt) : Int := let d0 := dot a b c; let d1 := if d0 < dot b a c then dot b a c else d0; if d1 < dot c a b then dot c a b else d1
theorem dmax_ge (a b c : Pt) : dot a b c ≤ dmax a b c ∧ dot b a c ≤ dmax a b c ∧ dot c a b ≤ dmax a b c ∧ (dmax a b c = dot a b c ∨ dmax a b c = dot b a c ∨ dmax a b c = dot c a b) := by
  unfold dmax
  dsimp only
  split <;> split <;> omega
theorem lcorner_eq (a b c : BP) (h : Tp a.1 b.1 c.1 ≠ 0) : m_least_corner [.fz (.tuple [ptB a, ptB b, ptB c])] = pure (frP (dmax a.1 b.1 c.1) ((Tp a.1 b.1 c.1).natAbs)) := by
  have e1 : (Tp b.1 a.1 c.1).natAbs = (Tp a.1 b.1 c.1).natAbs := area_swap ..
  have e2 : (Tp c.1 a.1 b.1).natAbs = (Tp a.1 b.1 c.1).natAbs := by rw [area_rot, area_rot]
  have hA : (0 : Int) < ((Tp a.1 b.1 c.1).natAbs : Int) := by omega
  unfold m_least_corner
  walk_at "ev1"
  rw [corner_eq a b c h]
  walk_at "ev1"
  rw [corner_eq b a c (by omega), corner_eq c a b (by omega), e1, e2]
  walk_at "ev1"
  rw [less_eq (by decide) (by decide), decide_eq_decide.mpr (fr_lt hA)]
  walk_at "ev1"
  unfold dmax
  dsimp only
  by_cases h1 : dot a.1 b.1 c.1 < dot b.1 a.1 c.1
  · rw [decide_eq_true h1, if_pos h1]
    walk_at "ev1"
    rw [less_eq (by decide) (by decide), decide_eq_decide.mpr (fr_lt hA)]
    walk_at "ev1"
    by_cases h2 : dot b.1 a.1 c.1 < dot c.1 a.1 b.1
    · rw [decide_eq_true h2, if_pos h2]
      walk_at "ev1"
    · rw [decide_eq_false h2, if_neg h2]
      walk_at "ev1"
  · rw [decide_eq_false h1, if_neg h1]
    walk_at "ev1"
    rw [less_eq (by decide) (by decide), decide_eq_decide.mpr (fr_lt hA)]
    walk_at "ev1"
    by_cases h2 : dot a.1 b.1 c.1 < dot c.1 a.1 b.1
    · rw [decide_eq_true h2, if_pos h2]
      walk_at "ev1"
    · rw [decide_eq_false h2, if_neg h2]
      walk_at "ev1"
end LPR

set_option maxHeartbeats 1000000
namespace LTR
open DL PySem LFD
local macro_rules | `(tactic| walk_at "ev") => `(tactic| (try simp only [x_pb, x_fb, x_ba, x_ls, x_ln, x_eVar, x_bVar, x_rdF, x_rdB, x_eC, x_e2, x_e1, x_eList, x_eTup, x_nLst, x_lNil, x_lCons, x_aNil, x_aCons, x_aTape, x_isTp, x_eCal, x_nCal, x_eCall, x_eCut, x_pNone, x_pSome, x_tOf, x_bAnd, x_bOr, x_bNot, x_eIf, x_eAnd, x_eOr, x_eNot, x_eChain, x_lSeq, x_nComp, x_sNext, x_sSeq, x_atN, x_atR, x_atB, x_atC, x_sDrop, x_sRet, x_sIf, x_sAsg, x_mName, x_mSeq, x_mgNil, x_mgCons, x_sOwn, x_sFrz, x_frz, x_sApp, x_owOf, x_sSetI, x_sPar, x_sPar3, x_sFor, x_forN, x_forC, x_loN, x_loC, x_loB, x_loR, x_cN, x_cC, x_bYes, x_oR, x_oN, x_mf0, x_mf1, x_mf2, x_mf3, x_mf4, x_mf5, x_tput, x_sExt, x_nRev, v_isII, v_isBI, v_in3, v_ltDI, v_gtDI, v_leDI, v_geDI, List.getElem?_cons_zero, List.getElem?_cons_succ, List.set_cons_zero, List.set_cons_succ, List.replicate_succ, List.replicate_zero, List.cons_append, List.nil_append, List.length_cons, List.length_nil, v_sub, v_add, v_neg, v_lt, v_le, v_gt, v_ge, v_abs, v_max, v_min, v_intI, v_intB, v_lenL, v_lenT, v_tupL, v_tupT, v_listL, v_listT, v_ixL, v_ixT, v_at0, v_at1, v_at2, v_bool, v_seqL, v_seqT, v_intOf, v_ok0, v_ok1, v_ok2, v_ok3, v_ok4, v_okn, v_ok5, v_ok6, v_ok7, v_ok8, v_ok9, v_ok10, v_ok11, v_ok12, v_ok13, v_ok14, v_ok15, v_ok16, v_ok17, v_ok18, v_ok19, v_ok20, v_ok21, v_ok22, v_ok23, v_ok24, v_ok25, v_ok26, v_ok27, v_ok28, v_ok29, v_ok30, v_ok31, v_ok32, gEq_int, gNe_int, v_rng1, v_rng2, okRg, Int.reducePow, Nat.sub_self, Nat.reduceSub, Nat.reduceAdd, unAll, if_true, if_false, Option.bind_some, Option.bind_none, ite_true, ite_false, Bool.false_eq_true, rgD, Int.reduceBEq, Int.reduceToNat, Int.reduceLT, Int.reduceLE, Int.reduceMul, Int.reduceAdd, Int.reduceSub, Int.reduceNeg, Nat.reduceMul, Nat.reduceLT, Nat.reduceBEq, decide_true, decide_false, Bool.and_true, Bool.true_and, Bool.and_self, Bool.not_true, Bool.not_false, BEq.rfl, reduceIte]))
local macro_rules | `(tactic| walk_at "evt") => `(tactic| (try simp only [x_pb, x_fb, x_ba, x_ls, x_ln, x_eVar, x_bVar, x_rdF, x_rdB, x_eC, x_e2, x_e1, x_eList, x_eTup, x_nLst, x_lNil, x_lCons, x_aNil, x_aCons, x_aTape, x_isTp, x_eCal, x_nCal, x_eCall, x_eCut, x_pNone, x_pSome, x_tOf, x_bAnd, x_bOr, x_bNot, x_eIf, x_eAnd, x_eOr, x_eNot, x_eChain, x_lSeq, x_nComp, x_sNext, x_sSeq, x_atN, x_atR, x_atB, x_atC, x_sDrop, x_sRet, x_sIf, x_sAsg, x_mName, x_mSeq, x_mgNil, x_mgCons, x_sOwn, x_sFrz, x_frz, x_sApp, x_owOf, x_sSetI, x_sPar, x_sPar3, x_sFor, x_forN, x_forC, x_loN, x_loC, x_loB, x_loR, x_cN, x_cC, x_bYes, x_oR, x_oN, x_mf0, x_mf1, x_mf2, x_mf3, x_mf4, x_mf5, x_tput, x_sExt, x_nRev, v_isII, v_isBI, v_in3, v_ltDI, v_gtDI, v_leDI, v_geDI, List.getElem?_cons_zero, List.getElem?_cons_succ, List.set_cons_zero, List.set_cons_succ, List.replicate_succ, List.replicate_zero, List.cons_append, List.nil_append, List.length_cons, List.length_nil, v_sub, v_add, v_neg, v_lt, v_le, v_gt, v_ge, v_abs, v_max, v_min, v_intI, v_intB, v_lenL, v_lenT, v_tupL, v_tupT, v_listL, v_listT, v_ixL, v_ixT, v_at0, v_at1, v_at2, v_bool, v_seqL, v_seqT, v_intOf, v_ok0, v_ok1, v_ok2, v_ok3, v_ok4, v_okn, v_ok5, v_ok6, v_ok7, v_ok8, v_ok9, v_ok10, v_ok11, v_ok12, v_ok13, v_ok14, v_ok15, v_ok16, v_ok17, v_ok18, v_ok19, v_ok20, v_ok21, v_ok22, v_ok23, v_ok24, v_ok25, v_ok26, v_ok27, v_ok28, v_ok29, v_ok30, v_ok31, v_ok32, gEq_int, gNe_int, v_rng1, v_rng2, okRg, Int.reducePow, Nat.sub_self, Nat.reduceSub, Nat.reduceAdd, unAll, if_true, if_false, Option.bind_some, Option.bind_none, ite_true, ite_false, Bool.false_eq_true, rgD, Int.reduceBEq, Int.reduceToNat, Int.reduceLT, Int.reduceLE, Int.reduceMul, Int.reduceAdd, Int.reduceSub, Int.reduceNeg, Nat.reduceMul, Nat.reduceLT, Nat.reduceBEq, decide_true, decide_false, Bool.and_true, Bool.true_and, Bool.and_self, Bool.not_true, Bool.not_false, BEq.rfl, reduceIte, bnd_ap, pure_ap, lift_ap, fail_ap, ite_ap, x_tget, x_doPut, fldOf, tSet, Option.map_some, Option.map_none, beq_self_eq_true, Bool.and_true, Bool.true_and]))
local macro_rules | `(tactic| walk_at "ev1") => `(tactic| (try simp only [x_pb, x_fb, x_ba, x_ls, x_ln, x_eVar, x_bVar, x_rdF, x_rdB, x_eC, x_e2, x_e1, x_eList, x_eTup, x_nLst, x_lNil, x_lCons, x_aNil, x_aCons, x_aTape, x_isTp, x_eCal, x_nCal, x_eCall, x_eCut, x_pNone, x_pSome, x_tOf, x_bAnd, x_bOr, x_bNot, x_eIf, x_eAnd, x_eOr, x_eNot, x_eChain, x_lSeq, x_nComp, x_sNext, x_sSeq, x_atN, x_atR, x_atB, x_atC, x_sDrop, x_sRet, x_sIf, x_sAsg, x_mName, x_mSeq, x_mgNil, x_mgCons, x_sOwn, x_sFrz, x_frz, x_sApp, x_owOf, x_sSetI, x_sPar, x_sPar3, x_sFor, x_forN, x_forC, x_loN, x_loC, x_loB, x_loR, x_cN, x_cC, x_bYes, x_oR, x_oN, x_mf0, x_mf1, x_mf2, x_mf3, x_mf4, x_mf5, x_tput, x_sExt, x_nRev, v_isII, v_isBI, v_in3, v_ltDI, v_gtDI, v_leDI, v_geDI, List.getElem?_cons_zero, List.getElem?_cons_succ, List.set_cons_zero, List.set_cons_succ, List.replicate_succ, List.replicate_zero, List.cons_append, List.nil_append, List.length_cons, List.length_nil, v_sub, v_add, v_neg, v_lt, v_le, v_gt, v_ge, v_abs, v_max, v_min, v_intI, v_intB, v_lenL, v_lenT, v_tupL, v_tupT, v_listL, v_listT, v_ixL, v_ixT, v_at0, v_at1, v_at2, v_bool, v_seqL, v_seqT, v_intOf, v_ok0, v_ok1, v_ok2, v_ok3, v_ok4, v_okn, v_ok5, v_ok6, v_ok7, v_ok8, v_ok9, v_ok10, v_ok11, v_ok12, v_ok13, v_ok14, v_ok15, v_ok16, v_ok17, v_ok18, v_ok19, v_ok20, v_ok21, v_ok22, v_ok23, v_ok24, v_ok25, v_ok26, v_ok27, v_ok28, v_ok29, v_ok30, v_ok31, v_ok32, gEq_int, gNe_int, v_rng1, v_rng2, okRg, Int.reducePow, Nat.sub_self, Nat.reduceSub, Nat.reduceAdd, unAll, if_true, if_false, Option.bind_some, Option.bind_none, ite_true, ite_false, Bool.false_eq_true, rgD, Int.reduceBEq, Int.reduceToNat, Int.reduceLT, Int.reduceLE, Int.reduceMul, Int.reduceAdd, Int.reduceSub, Int.reduceNeg, Nat.reduceMul, Nat.reduceLT, Nat.reduceBEq, decide_true, decide_false, Bool.and_true, Bool.true_and, Bool.and_self, Bool.not_true, Bool.not_false, BEq.rfl, reduceIte, v_mulS, v_modS, compGo_M, compM_map, compM_filter, compM_nil, x_ebool, x_bb, x_iband, x_ibor, x_band, x_bor, Bool.or_false, Bool.false_or, Bool.and_false, Bool.false_and, x_sWhile, v_revAL, v_revAT, v_revC0, x_eRevT, abs_ite, v_any3, v_atm1, v_atm2, v_atm3, v_lastT, v_lastL, Nat.add_zero, Nat.zero_add, nc0, nc1, nc2, nc3, nc4, nc5, nc6, x_pbool, Bool.true_or, Bool.or_true]))
abbrev B1 (p : Pt) : Prop := p.1.natAbs ≤ 1000 ∧ p.2.natAbs ≤ 1000
theorem lturn_eq {a b c : Pt} (ha : B1 a) (hb : B1 b) (hc : B1 c) : m_law_turn [.fz (ptK a), .fz (ptK b), .fz (ptK c)] = pure (.int (Tp a b c)) := by
  have A := sm (x := a.1) (by omega)
  have B := sm (x := a.2) (by omega)
  have C := sm (x := b.1) (by omega)
  have D := sm (x := b.2) (by omega)
  have E := sm (x := c.1) (by omega)
  have F := sm (x := c.2) (by omega)
  unfold m_law_turn
  walk_at "ev"
  rw [v_mul (okMulB A D)]
  walk_at "ev"
  rw [v_mul (okMulB B C)]
  walk_at "ev"
  rw [v_mul (okMulB C F)]
  walk_at "ev"
  rw [v_mul (okMulB D E)]
  walk_at "ev"
  rw [v_mul (okMulB E B)]
  walk_at "ev"
  rw [v_mul (okMulB F A)]
  walk_at "ev"
  have e : a.1 * b.2 - a.2 * b.1 + b.1 * c.2 - b.2 * c.1 + c.1 * a.2 - c.2 * a.1 = Tp a b c := by unfold Tp; grind
  rw [e]
/-- p is in the triangle or on its rim, and none of its corners -/
def Inn (a b c p : Pt) : Bool := !decide (p ∈ [a, b, c]) && decide ((Tp a b p).natAbs + (Tp b c p).natAbs + (Tp c a p).natAbs = (Tp a b c).natAbs)
/-- a triangle of three points without another one -/
def Vd (all : List Pt) (a b c : Pt) : Bool := !decide (Tp a b c = 0) && !all.any (Inn a b c)
theorem void_eq {all : List Pt} (hb : Bd all) {a b c : Pt} (ha : B1 a) (hb' : B1 b) (hc : B1 c) : m_law_is_void [.fz (.tuple (all.map ptK)), .fz (ptK a), .fz (ptK b), .fz (ptK c)] = pure (.bool (Vd all a b c)) := by
  unfold m_law_is_void
  walk_at "ev"
  rw [lturn_eq ha hb' hc]
  walk_at "ev"
  rw [abs_ite]
  unfold Vd
  by_cases h : Tp a b c = 0
  · rw [show (((Tp a b c).natAbs : Int) == 0) = true by simp [h], decide_eq_true h]
    walk_at "ev"
    rfl
  · rw [show (((Tp a b c).natAbs : Int) == 0) = false by simpa using h, decide_eq_false h]
    walk_at "ev"
    obtain ⟨ρ', ⟨s5, s6, rfl⟩, e⟩ := forGo_any (mg := mName 5) (b := sSeq (sAsg (e2 gAdd (eCal cAbs (lCons (eCall m_law_turn (aCons (eVar 1) (aCons (eVar 2) (aCons (eVar 5) aNil)))) lNil)) (eCal cAbs (lCons (eCall m_law_turn (aCons (eVar 2) (aCons (eVar 3) (aCons (eVar 5) aNil)))) lNil))) (mName 6))
        (sIf (bAnd (tOf (e2 gNinX (bVar 5) (eTup (lCons (eVar 1) (lCons (eVar 2) (lCons (eVar 3) lNil)))))) (tOf (e2 gEq (e2 gAdd (bVar 6) (eCal cAbs (lCons (eCall m_law_turn (aCons (eVar 3) (aCons (eVar 1) (aCons (eVar 5) aNil)))) lNil))) (bVar 4)))) (sRet (eC (.bool false))) sNext))
      (fun ρ => ∃ s5 s6 : Sl, ρ = [.fz (.tuple (all.map ptK)), .fz (ptK a), .fz (ptK b), .fz (ptK c), .fz (.int ((Tp a b c).natAbs : Int)), s5, s6]) (fun d => Inn a b c (keyP d)) (.bool false) (all.map ptK) [.fz (.tuple (all.map ptK)), .fz (ptK a), .fz (ptK b), .fz (ptK c), .fz (.int ((Tp a b c).natAbs : Int)), .un, .un] ⟨_, _, rfl⟩ (fun d hd ρ hρ => by
        obtain ⟨s5, s6, rfl⟩ := hρ
        obtain ⟨p, hp, rfl⟩ := List.mem_map.mp hd
        have bp := hb p hp
        refine ⟨[.fz (.tuple (all.map ptK)), .fz (ptK a), .fz (ptK b), .fz (ptK c), .fz (.int ((Tp a b c).natAbs : Int)), .fz (ptK p), .fz (.int (((Tp a b p).natAbs : Int) + ((Tp b c p).natAbs : Int)))], ⟨_, _, rfl⟩, ?_⟩
        walk_at "ev"
        rw [lturn_eq ha hb' bp]
        walk_at "ev"
        rw [lturn_eq hb' hc bp]
        walk_at "ev"
        rw [abs_ite, abs_ite, show gNinX (ptK p) (.tuple [ptK a, ptK b, ptK c]) = some (.bool (!decide (p ∈ [a, b, c]))) from v_ninT p [a, b, c]]
        walk_at "ev"
        show _ = if Inn a b c p = true then _ else _
        unfold Inn
        cases h1 : decide (p ∈ [a, b, c]) with
        | true =>
          walk_at "ev"
          rfl
        | false =>
          walk_at "ev"
          rw [lturn_eq hc ha bp]
          walk_at "ev"
          rw [abs_ite]
          have e : ((((Tp a b p).natAbs : Int) + ((Tp b c p).natAbs : Int) + ((Tp c a p).natAbs : Int)) == ((Tp a b c).natAbs : Int)) = decide ((Tp a b p).natAbs + (Tp b c p).natAbs + (Tp c a p).natAbs = (Tp a b c).natAbs) := by
            rw [Bool.eq_iff_iff, beq_iff_eq, decide_eq_true_eq]
            omega
          rw [e])
    rw [e, List.any_map, show ((fun d => Inn a b c (keyP d)) ∘ ptK) = Inn a b c from rfl]
    cases all.any (Inn a b c) <;> rfl
/-! ### all void triangles, as the law lists them -/
abbrev tri (t : Pt × Pt × Pt) : PyData := .tuple [ptK t.1, ptK t.2.1, ptK t.2.2]
def triR (all : List Pt) (i j : Nat) : List (Pt × Pt × Pt) := match all[i]?, all[j]? with
  | some a, some b => ((all.drop (j + 1)).filter (Vd all a b)).map fun c => (a, b, c)
  | _, _ => []
def triJ (all : List Pt) (i : Nat) : Nat → List (Pt × Pt × Pt)
  | 0 => []
  | n + 1 => triJ all i n ++ triR all i (i + 1 + n)
def triA (all : List Pt) : Nat → List (Pt × Pt × Pt)
  | 0 => []
  | i + 1 => triA all i ++ triJ all i (all.length - (i + 1))
theorem triR_eq {all : List Pt} {i j : Nat} {a b : Pt} (ha : all[i]? = some a) (hb : all[j]? = some b) : triR all i j = ((all.drop (j + 1)).filter (Vd all a b)).map fun c => (a, b, c) := by
  unfold triR
  rw [ha, hb]
theorem triR_len (all : List Pt) (i j : Nat) : (triR all i j).length ≤ all.length := by
  unfold triR
  split
  · rw [List.length_map]
    refine Nat.le_trans (List.length_filter_le _ _) ?_
    rw [List.length_drop]
    omega
  · exact Nat.zero_le _
theorem triJ_len (all : List Pt) (i : Nat) : ∀ n, (triJ all i n).length ≤ n * all.length
  | 0 => Nat.zero_le _
  | n + 1 => by
    rw [triJ, List.length_append, Nat.add_mul, Nat.one_mul]
    exact Nat.add_le_add (triJ_len all i n) (triR_len all i _)
theorem triA_len (all : List Pt) : ∀ i, (triA all i).length ≤ i * (all.length * all.length)
  | 0 => Nat.zero_le _
  | i + 1 => by
    rw [triA, List.length_append, Nat.add_mul, Nat.one_mul]
    exact Nat.add_le_add (triA_len all i) (Nat.le_trans (triJ_len all i _) (Nat.mul_le_mul_right _ (by omega)))
theorem triangles_gv {all : List Pt} (hb : Bd all) (hl : all.length ≤ 16) : Gv 0 (m_law_triangles [.fz (.tuple (all.map ptK))]) 0 fun d => d = .list ((triA all all.length).map tri) := by
  have okr : ∀ n : Nat, n ≤ 1000 → okRg (n : Int) = true := fun n h => by unfold okRg; rw [Bool.and_eq_true]; exact ⟨decide_eq_true (by omega), decide_eq_true (by omega)⟩
  unfold m_law_triangles
  walk_at "ev"
  rw [List.length_map, v_rng1 (okr _ (by omega))]
  walk_at "ev"
  refine Gv.step (c := 0) (P := fun o => ∃ s2 s3 s4 s5 s6 : Sl, o = .nx [.fz (.tuple (all.map ptK)), .ow ((triA all all.length).map tri), s2, s3, s4, s5, s6]) ?_ fun o ho => ?_
  · refine Gv.mono (Gv.forX (c := 0) (fun i ρ => ∃ s2 s3 s4 s5 s6 : Sl, ρ = [.fz (.tuple (all.map ptK)), .ow ((triA all i).map tri), s2, s3, s4, s5, s6]) (rgD 0 _) 0 _ (fun i d hd ρ hρ => ?_) ⟨_, _, _, _, _, rfl⟩) (by simp) fun o ho => ?_
    · rw [Nat.zero_add] at hρ ⊢
      obtain ⟨s2, s3, s4, s5, s6, rfl⟩ := hρ
      obtain ⟨hi, rfl⟩ := rgD_at hd
      have hi' : i < all.length := by simpa using hi
      obtain ⟨a, ha⟩ : ∃ a, all[i]? = some a := ⟨all[i], List.getElem?_eq_getElem hi'⟩
      have ba : B1 a := hb a (List.mem_of_getElem? ha)
      have l1 := triA_len all i
      have l3 : i * (all.length * all.length) ≤ 16 * (16 * 16) := Nat.mul_le_mul (by omega) (Nat.mul_le_mul hl hl)
      rw [x_mName, x_ls, x_pb]
      show Gv 0 (sFor _ _ _ [.fz (.tuple (all.map ptK)), .ow ((triA all i).map tri), .fz (.int (0 + i)), s3, s4, s5, s6]) 0 _
      rw [x_sFor]
      have hr2 : nCal rng2 (lCons (e2 gAdd (bVar 2) (eC (.int 1))) (lCons (eCal cLen (lCons (bVar 0) lNil)) lNil)) [.fz (.tuple (all.map ptK)), .ow ((triA all i).map tri), .fz (.int (0 + i)), s3, s4, s5, s6] = pure (rgD ((i + 1 : Nat) : Int) (all.length - (i + 1))) := by
        walk_at "ev"
        rw [List.length_map, Int.zero_add, show ((i : Int) + 1) = ((i + 1 : Nat) : Int) by omega, v_rng2 (okr _ (by omega)) (okr _ (by omega))]
        walk_at "ev"
        rw [show ((all.length : Int) - ((i + 1 : Nat) : Int)).toNat = all.length - (i + 1) by omega]
      rw [hr2, x_pb]
      refine Gv.mono (Gv.forX (c := 0) (fun n ρ => ∃ s3 s4 s5 s6 : Sl, ρ = [.fz (.tuple (all.map ptK)), .ow ((triA all i ++ triJ all i n).map tri), .fz (.int (0 + i)), s3, s4, s5, s6]) (rgD _ _) 0 _ (fun n d hd ρ hρ => ?_) ⟨s3, s4, s5, s6, by rw [triJ, List.append_nil]⟩) (by simp) fun o ho => ?_
      · rw [Nat.zero_add] at hρ ⊢
        obtain ⟨s3, s4, s5, s6, rfl⟩ := hρ
        obtain ⟨hn, rfl⟩ := rgD_at hd
        have hj : i + 1 + n < all.length := by omega
        obtain ⟨b, hb2⟩ : ∃ b, all[i + 1 + n]? = some b := ⟨all[i + 1 + n], List.getElem?_eq_getElem hj⟩
        have bb : B1 b := hb b (List.mem_of_getElem? hb2)
        have l2 := triJ_len all i n
        have l4 : n * all.length ≤ 16 * 16 := Nat.mul_le_mul (by omega) hl
        have l5 := triR_len all i (i + 1 + n)
        rw [show (((i + 1 : Nat) : Int) + (n : Int)) = ((i + 1 + n : Nat) : Int) by omega]
        walk_at "ev"
        rw [Int.zero_add, at_map ha]
        walk_at "ev"
        rw [at_map hb2]
        walk_at "ev"
        rw [show (((i + 1 + n : Nat) : Int) + 1) = ((i + 1 + n + 1 : Nat) : Int) by omega, v_cutDropT]
        walk_at "ev"
        rw [← List.map_drop, show okLen ((all.drop (i + 1 + n + 1)).map ptK).length = true from decide_eq_true (by rw [List.length_map, List.length_drop]; omega)]
        walk_at "ev"
        rw [compGo_map ptK (Vd all a b) (fun c => tri (a, b, c)) (all.drop (i + 1 + n + 1)) fun c hc => ?_]
        · walk_at "ev"
          have e : List.map (fun c => tri (a, b, c)) ((all.drop (i + 1 + n + 1)).filter (Vd all a b)) = (triR all i (i + 1 + n)).map tri := by
            rw [triR_eq ha hb2, List.map_map]
            rfl
          rw [e, show okLen (((triA all i ++ triJ all i n).map tri).length + ((triR all i (i + 1 + n)).map tri).length) = true from decide_eq_true (by rw [List.length_map, List.length_map, List.length_append]; omega)]
          walk_at "ev"
          refine Gv.ret ⟨_, rfl, .fz (.int ((i + 1 + n : Nat) : Int)), .fz (ptK a), .fz (ptK b), s6, ?_⟩
          rw [triJ, ← List.append_assoc, List.map_append (l₁ := triA all i ++ triJ all i n)]
        · have bc : B1 c := hb c (List.mem_of_mem_drop hc)
          refine ⟨_, rfl, ?_, fun _ => ?_⟩
          · walk_at "ev"
            rw [void_eq hb ba bb bc]
            walk_at "ev"
          · walk_at "ev"
      · obtain ⟨ρ', rfl, s3, s4, s5, s6, rfl⟩ := ho
        refine ⟨_, rfl, .fz (.int (0 + i)), s3, s4, s5, s6, ?_⟩
        rw [rgD_len, Nat.zero_add, triA]
    · obtain ⟨ρ', rfl, s2, s3, s4, s5, s6, rfl⟩ := ho
      refine ⟨s2, s3, s4, s5, s6, ?_⟩
      rw [rgD_len, Nat.zero_add, Int.toNat_natCast]
  · obtain ⟨s2, s3, s4, s5, s6, rfl⟩ := ho
    walk_at "ev"
    exact Gv.ret rfl
end LTR

set_option maxHeartbeats 1000000
namespace LTR
open DL PySem LFD
theorem tp_rot (a b c : Pt) : Tp b c a = Tp a b c := by unfold Tp; grind
theorem tp_swap (a b c : Pt) : Tp b a c = - Tp a b c := by unfold Tp; grind
theorem tp_swap' (a b c : Pt) : Tp a c b = - Tp a b c := by unfold Tp; grind
/-- a point within makes a smaller triangle -/
theorem smaller {a b c p : Pt} (h : Inn a b c p = true) (ht : Tp a b c ≠ 0) : (Tp a b p ≠ 0 ∧ (Tp a b p).natAbs < (Tp a b c).natAbs) ∨ (Tp b c p ≠ 0 ∧ (Tp b c p).natAbs < (Tp a b c).natAbs) ∨ (Tp c a p ≠ 0 ∧ (Tp c a p).natAbs < (Tp a b c).natAbs) := by
  unfold Inn at h
  rw [Bool.and_eq_true, Bool.not_eq_true', decide_eq_false_iff_not, decide_eq_true_eq] at h
  obtain ⟨np, hs⟩ := h
  have na : p ≠ a := fun e => np (by simp [e])
  have nb : p ≠ b := fun e => np (by simp [e])
  have nc : p ≠ c := fun e => np (by simp [e])
  have key : ∀ {x y z : Pt}, p ≠ z → Tp y z p = 0 → Tp z x p = 0 → Tp x y z = 0 := fun {x y z} ne h1 h2 => by
    have e1 : Tp z p x = 0 := by rw [tp_swap', h2]; rfl
    have e2 : Tp z p y = 0 := by
      have : Tp z p y = Tp y z p := by unfold Tp; grind
      rw [this, h1]
    have e3 : Tp z p z = 0 := by unfold Tp; grind
    exact line (Ne.symm ne) e1 e2 e3
  have k1 : ¬ (Tp b c p = 0 ∧ Tp c a p = 0) := fun q => ht (key nc q.1 q.2)
  have k2 : ¬ (Tp c a p = 0 ∧ Tp a b p = 0) := fun q => ht (by rw [← tp_rot]; exact key na q.1 q.2)
  have k3 : ¬ (Tp a b p = 0 ∧ Tp b c p = 0) := fun q => ht (by rw [← tp_rot, ← tp_rot]; exact key nb q.1 q.2)
  omega
theorem inn_rot (a b c p : Pt) : Inn b c a p = Inn a b c p := by
  unfold Inn
  rw [tp_rot a b c]
  congr 1
  · congr 1
    apply decide_eq_decide.mpr
    simp only [List.mem_cons, List.not_mem_nil, or_false]
    exact ⟨fun h => by rcases h with h | h | h <;> simp [h], fun h => by rcases h with h | h | h <;> simp [h]⟩
  · apply decide_eq_decide.mpr
    omega
theorem inn_swap (a b c p : Pt) : Inn b a c p = Inn a b c p := by
  unfold Inn
  have e1 : (Tp b a p).natAbs = (Tp a b p).natAbs := by rw [tp_swap, Int.natAbs_neg]
  have e2 : (Tp a c p).natAbs = (Tp c a p).natAbs := by rw [tp_swap, Int.natAbs_neg]
  have e3 : (Tp c b p).natAbs = (Tp b c p).natAbs := by rw [tp_swap, Int.natAbs_neg]
  have e4 : (Tp b a c).natAbs = (Tp a b c).natAbs := by rw [tp_swap, Int.natAbs_neg]
  rw [e1, e2, e3, e4]
  congr 1
  · congr 1
    apply decide_eq_decide.mpr
    simp only [List.mem_cons, List.not_mem_nil, or_false]
    exact ⟨fun h => by rcases h with h | h | h <;> simp [h], fun h => by rcases h with h | h | h <;> simp [h]⟩
  · apply decide_eq_decide.mpr
    omega
theorem vd_rot (all : List Pt) (a b c : Pt) : Vd all b c a = Vd all a b c := by
  unfold Vd
  rw [tp_rot a b c, show Inn b c a = Inn a b c from funext fun p => inn_rot a b c p]
theorem vd_swap (all : List Pt) (a b c : Pt) : Vd all b a c = Vd all a b c := by
  unfold Vd
  rw [show Inn b a c = Inn a b c from funext fun p => inn_swap a b c p]
  congr 2
  apply decide_eq_decide.mpr
  rw [tp_swap]
  omega
theorem vd_least {all : List Pt} : ∀ (n : Nat) (a b c : Pt), a ∈ all → b ∈ all → c ∈ all → Tp a b c ≠ 0 → (Tp a b c).natAbs ≤ n → ∃ x ∈ all, ∃ y ∈ all, ∃ z ∈ all, Vd all x y z = true
  | 0, a, b, c, _, _, _, ht, hn => absurd (by omega) ht
  | n + 1, a, b, c, ha, hb, hc, ht, hn => by
    cases h : Vd all a b c with
    | true => exact ⟨a, ha, b, hb, c, hc, h⟩
    | false =>
      unfold Vd at h
      rw [decide_eq_false ht, Bool.not_false, Bool.true_and, Bool.not_eq_false', List.any_eq_true] at h
      obtain ⟨p, hp, hi⟩ := h
      rcases smaller hi ht with ⟨q1, q2⟩ | ⟨q1, q2⟩ | ⟨q1, q2⟩
      · exact vd_least n a b p ha hb hp q1 (by omega)
      · exact vd_least n b c p hb hc hp q1 (by omega)
      · exact vd_least n c a p hc ha hp q1 (by omega)
theorem triJ_mem {all : List Pt} {i n m : Nat} {t : Pt × Pt × Pt} (h : t ∈ triR all i (i + 1 + n)) (hm : n < m) : t ∈ triJ all i m := by
  induction m with
  | zero => omega
  | succ m ih =>
    rw [triJ]
    by_cases e : n = m
    · subst e; exact List.mem_append_right _ h
    · exact List.mem_append_left _ (ih (by omega))
theorem triA_mem {all : List Pt} {i m : Nat} {t : Pt × Pt × Pt} (h : t ∈ triJ all i (all.length - (i + 1))) (hm : i < m) : t ∈ triA all m := by
  induction m with
  | zero => omega
  | succ m ih =>
    rw [triA]
    by_cases e : i = m
    · subst e; exact List.mem_append_right _ h
    · exact List.mem_append_left _ (ih (by omega))
theorem tri_mem {all : List Pt} {i j k : Nat} {a b c : Pt} (ha : all[i]? = some a) (hb : all[j]? = some b) (hc : all[k]? = some c) (h1 : i < j) (h2 : j < k) (hv : Vd all a b c = true) : (a, b, c) ∈ triA all all.length := by
  have hi := (List.getElem?_eq_some_iff.mp ha).1
  have hj := (List.getElem?_eq_some_iff.mp hb).1
  have hk := (List.getElem?_eq_some_iff.mp hc).1
  obtain ⟨n, rfl⟩ : ∃ n, j = i + 1 + n := ⟨j - (i + 1), by omega⟩
  refine triA_mem (i := i) (triJ_mem (n := n) ?_ (by omega)) hi
  rw [triR_eq ha hb]
  refine List.mem_map.mpr ⟨c, List.mem_filter.mpr ⟨?_, hv⟩, rfl⟩
  obtain ⟨d, rfl⟩ : ∃ d, k = i + 1 + n + 1 + d := ⟨k - (i + 1 + n + 1), by omega⟩
  refine List.mem_of_getElem? (i := d) ?_
  rw [List.getElem?_drop]
  exact hc
theorem tri_ne {all : List Pt} (h : NonCol all) : triA all all.length ≠ [] := by
  obtain ⟨a0, ha0, b0, hb0, c0, hc0, n0⟩ := h
  obtain ⟨a, ha, b, hb, c, hc, hv⟩ := vd_least _ a0 b0 c0 ha0 hb0 hc0 n0 (Nat.le_refl _)
  obtain ⟨i, hi⟩ := List.getElem?_of_mem ha
  obtain ⟨j, hj⟩ := List.getElem?_of_mem hb
  obtain ⟨k, hk⟩ := List.getElem?_of_mem hc
  have ht : Tp a b c ≠ 0 := fun e => by
    unfold Vd at hv
    rw [decide_eq_true e] at hv
    cases hv
  have nij : i ≠ j := fun e => by
    subst e
    rw [hi] at hj
    cases hj
    exact ht (by unfold Tp; grind)
  have njk : j ≠ k := fun e => by
    subst e
    rw [hj] at hk
    cases hk
    exact ht (by unfold Tp; grind)
  have nik : i ≠ k := fun e => by
    subst e
    rw [hi] at hk
    cases hk
    exact ht (by unfold Tp; grind)
  have fin : ∀ t, t ∈ triA all all.length → triA all all.length ≠ [] := fun t m e => by rw [e] at m; cases m
  have s1 := vd_swap all a b c
  have r1 := vd_rot all a b c
  have r2 := vd_rot all b c a
  have s2 := vd_swap all b c a
  have s3 := vd_swap all c a b
  rcases (show (i < j ∧ j < k) ∨ (i < k ∧ k < j) ∨ (j < i ∧ i < k) ∨ (j < k ∧ k < i) ∨ (k < i ∧ i < j) ∨ (k < j ∧ j < i) by omega) with ⟨h1, h2⟩ | ⟨h1, h2⟩ | ⟨h1, h2⟩ | ⟨h1, h2⟩ | ⟨h1, h2⟩ | ⟨h1, h2⟩
  · exact fin _ (tri_mem hi hj hk h1 h2 hv)
  · exact fin _ (tri_mem hi hk hj h1 h2 (by rw [s3, r2, r1]; exact hv))
  · exact fin _ (tri_mem hj hi hk h1 h2 (by rw [s1]; exact hv))
  · exact fin _ (tri_mem hj hk hi h1 h2 (by rw [r1]; exact hv))
  · exact fin _ (tri_mem hk hi hj h1 h2 (by rw [r2, r1]; exact hv))
  · exact fin _ (tri_mem hk hj hi h1 h2 (by rw [s2, r1]; exact hv))
end LTR

set_option maxHeartbeats 1000000
/-! plane geometry: triangles over one another, by homogeneous points -/
namespace GE
open DL LFD
abbrev H := Int × Int × Int
def comb (α : Int) (z : H) (β : Int) (w : H) : H := (α * z.1 + β * w.1, α * z.2.1 + β * w.2.1, α * z.2.2 + β * w.2.2)
def emb (p : Pt) : H := (p.1, p.2, 1)
/-- side of a homogeneous point -/
def F (a b : Pt) (z : H) : Int := (b.1 - a.1) * (z.2.1 - a.2 * z.2.2) - (b.2 - a.2) * (z.1 - a.1 * z.2.2)
theorem F_emb (a b p : Pt) : F a b (emb p) = Tp a b p := by unfold F emb Tp; grind
def Ln (g : H → Int) : Prop := ∀ α z β w, g (comb α z β w) = α * g z + β * g w
theorem F_ln (a b : Pt) : Ln (F a b) := fun α z β w => by unfold F comb; grind
theorem sF_ln (s : Int) (a b : Pt) : Ln (fun z => s * F a b z) := fun α z β w => by
  show s * F a b (comb α z β w) = _
  rw [F_ln a b α z β w]; grind
theorem W_ln : Ln (fun z => z.2.2) := fun α z β w => rfl
/-! ### Helly for four -/
def P (S : List (H → Int)) (z : H) : Prop := 0 < z.2.2 ∧ ∀ g ∈ S, 0 < g z
def wsum : List (Int × H) → H
  | [] => (0, 0, 0)
  | (c, x) :: l => comb c x 1 (wsum l)
theorem Ln.zero {g : H → Int} (h : Ln g) : g (0, 0, 0) = 0 := by
  have := h 0 (0, 0, 0) 0 (0, 0, 0)
  have e : comb 0 (0, 0, 0) 0 (0, 0, 0) = ((0, 0, 0) : H) := by simp [comb]
  rw [e] at this
  omega
def wval (g : H → Int) : List (Int × H) → Int
  | [] => 0
  | (c, x) :: l => c * g x + wval g l
theorem Ln.wsum {g : H → Int} (h : Ln g) : ∀ l, g (wsum l) = wval g l
  | [] => h.zero
  | (c, x) :: l => by
    rw [GE.wsum, h, h.wsum l, wval]
    omega
theorem wval_pos {g : H → Int} : ∀ l : List (Int × H), (∀ q ∈ l, 0 ≤ q.1 ∧ (0 < q.1 → 0 < g q.2)) → 0 ≤ wval g l ∧ ((∃ q ∈ l, 0 < q.1) → 0 < wval g l)
  | [], _ => ⟨Int.le_refl _, fun ⟨q, h, _⟩ => nomatch h⟩
  | (c, x) :: l, h => by
    obtain ⟨i1, i2⟩ := wval_pos l fun q hq => h q (List.mem_cons_of_mem _ hq)
    obtain ⟨h1, h2⟩ := h (c, x) (by simp)
    dsimp only at h1 h2
    rw [wval]
    by_cases hc : 0 < c
    · have := Int.mul_pos hc (h2 hc)
      exact ⟨by omega, fun _ => by omega⟩
    · have e : c = 0 := by omega
      subst e
      rw [Int.zero_mul]
      refine ⟨by omega, fun ⟨q, hq, hp⟩ => ?_⟩
      rcases List.mem_cons.mp hq with rfl | hq
      · exact absurd hp (by simp)
      · have := i2 ⟨q, hq, hp⟩
        omega
theorem dep3 (u1 v1 u2 v2 u3 v3 : Int) : ∃ c1 c2 c3 : Int, ¬ (c1 = 0 ∧ c2 = 0 ∧ c3 = 0) ∧ c1 * u1 + c2 * u2 + c3 * u3 = 0 ∧ c1 * v1 + c2 * v2 + c3 * v3 = 0 := by
  by_cases h : u1 * v2 - u2 * v1 = 0
  · by_cases hu : u1 = 0
    · by_cases hv : v1 = 0
      · subst hu; subst hv
        exact ⟨1, 0, 0, by omega, by simp, by simp⟩
      · refine ⟨v2, -v1, 0, by omega, by grind, by grind⟩
    · refine ⟨u2, -u1, 0, by omega, by grind, by grind⟩
  · exact ⟨u2 * v3 - u3 * v2, u3 * v1 - u1 * v3, u1 * v2 - u2 * v1, fun q => h q.2.2, by grind, by grind⟩
theorem dep4 (x1 x2 x3 x4 : H) (h4 : 0 < x4.2.2) : ∃ c1 c2 c3 c4 : Int, ¬ (c1 = 0 ∧ c2 = 0 ∧ c3 = 0 ∧ c4 = 0) ∧ ∀ g : H → Int, (g = (·.1) ∨ g = (·.2.1) ∨ g = (·.2.2)) → c1 * g x1 + c2 * g x2 + c3 * g x3 + c4 * g x4 = 0 := by
  obtain ⟨a1, b1, w1⟩ := x1
  obtain ⟨a2, b2, w2⟩ := x2
  obtain ⟨a3, b3, w3⟩ := x3
  obtain ⟨a4, b4, w4⟩ := x4
  dsimp only at h4
  obtain ⟨c1, c2, c3, hn, e1, e2⟩ := dep3 (w4 * a1 - w1 * a4) (w4 * b1 - w1 * b4) (w4 * a2 - w2 * a4) (w4 * b2 - w2 * b4) (w4 * a3 - w3 * a4) (w4 * b3 - w3 * b4)
  refine ⟨c1 * w4, c2 * w4, c3 * w4, -(c1 * w1 + c2 * w2 + c3 * w3), fun q => hn ?_, fun g hg => ?_⟩
  · have k : ∀ c : Int, c * w4 = 0 → c = 0 := fun c hc => by
      rcases Int.mul_eq_zero.mp hc with h | h
      · exact h
      · omega
    exact ⟨k _ q.1, k _ q.2.1, k _ q.2.2.1⟩
  · rcases hg with rfl | rfl | rfl
    · dsimp only; grind
    · dsimp only; grind
    · dsimp only; grind
theorem helly4 {S1 S2 S3 S4 : List (H → Int)} (hl : ∀ g ∈ S1 ++ S2 ++ S3 ++ S4, Ln g) (h1 : ∃ z, P (S2 ++ S3 ++ S4) z) (h2 : ∃ z, P (S1 ++ S3 ++ S4) z) (h3 : ∃ z, P (S1 ++ S2 ++ S4) z) (h4 : ∃ z, P (S1 ++ S2 ++ S3) z) : ∃ z, P (S1 ++ S2 ++ S3 ++ S4) z := by
  obtain ⟨x1, w1, p1⟩ := h1
  obtain ⟨x2, w2, p2⟩ := h2
  obtain ⟨x3, w3, p3⟩ := h3
  obtain ⟨x4, w4, p4⟩ := h4
  obtain ⟨c1, c2, c3, c4, hn, hc⟩ := dep4 x1 x2 x3 x4 w4
  have eW : c1 * x1.2.2 + c2 * x2.2.2 + c3 * x3.2.2 + c4 * x4.2.2 = 0 := hc (fun z => z.2.2) (.inr (.inr rfl))
  let ps : List (Int × H) := [(max c1 0, x1), (max c2 0, x2), (max c3 0, x3), (max c4 0, x4)]
  let ns : List (Int × H) := [(max (-c1) 0, x1), (max (-c2) 0, x2), (max (-c3) 0, x3), (max (-c4) 0, x4)]
  have key : ∀ (c x : Int), max c 0 * x - max (-c) 0 * x = c * x := fun c x => by
    rw [← Int.sub_mul]
    congr 1
    omega
  have dif : ∀ g : H → Int, wval g ps - wval g ns = c1 * g x1 + c2 * g x2 + c3 * g x3 + c4 * g x4 := fun g => by
    show max c1 0 * g x1 + (max c2 0 * g x2 + (max c3 0 * g x3 + (max c4 0 * g x4 + 0))) - (max (-c1) 0 * g x1 + (max (-c2) 0 * g x2 + (max (-c3) 0 * g x3 + (max (-c4) 0 * g x4 + 0)))) = _
    have := key c1 (g x1)
    have := key c2 (g x2)
    have := key c3 (g x3)
    have := key c4 (g x4)
    omega
  have eq : wsum ps = wsum ns := by
    have l1 : Ln (fun z : H => z.1) := fun α z β w => rfl
    have l2 : Ln (fun z : H => z.2.1) := fun α z β w => rfl
    have q1 := dif (·.1)
    have q2 := dif (·.2.1)
    have q3 := dif (·.2.2)
    rw [hc _ (.inl rfl), ← l1.wsum, ← l1.wsum] at q1
    rw [hc _ (.inr (.inl rfl)), ← l2.wsum, ← l2.wsum] at q2
    rw [hc _ (.inr (.inr rfl)), ← W_ln.wsum, ← W_ln.wsum] at q3
    exact Prod.ext (by omega) (Prod.ext (by omega) (by omega))
  have sg : (∃ q ∈ ps, 0 < q.1) ∧ (∃ q ∈ ns, 0 < q.1) := by
    have pos : ∀ c w : Int, 0 < w → (0 < c → 0 < c * w) ∧ (c < 0 → c * w < 0) ∧ (c = 0 → c * w = 0) := fun c w hw => ⟨fun h => Int.mul_pos h hw, fun h => Int.mul_neg_of_neg_of_pos h hw, fun h => by rw [h, Int.zero_mul]⟩
    have s1 := pos c1 _ w1
    have s2 := pos c2 _ w2
    have s3 := pos c3 _ w3
    have s4 := pos c4 _ w4
    have ex : (0 < c1 ∨ 0 < c2 ∨ 0 < c3 ∨ 0 < c4) ∧ (c1 < 0 ∨ c2 < 0 ∨ c3 < 0 ∨ c4 < 0) := by
      generalize c1 * x1.2.2 = y1 at *
      generalize c2 * x2.2.2 = y2 at *
      generalize c3 * x3.2.2 = y3 at *
      generalize c4 * x4.2.2 = y4 at *
      omega
    constructor
    · rcases ex.1 with h | h | h | h
      · exact ⟨(max c1 0, x1), by simp [ps], by show 0 < max c1 0; omega⟩
      · exact ⟨(max c2 0, x2), by simp [ps], by show 0 < max c2 0; omega⟩
      · exact ⟨(max c3 0, x3), by simp [ps], by show 0 < max c3 0; omega⟩
      · exact ⟨(max c4 0, x4), by simp [ps], by show 0 < max c4 0; omega⟩
    · rcases ex.2 with h | h | h | h
      · exact ⟨(max (-c1) 0, x1), by simp [ns], by show 0 < max (-c1) 0; omega⟩
      · exact ⟨(max (-c2) 0, x2), by simp [ns], by show 0 < max (-c2) 0; omega⟩
      · exact ⟨(max (-c3) 0, x3), by simp [ns], by show 0 < max (-c3) 0; omega⟩
      · exact ⟨(max (-c4) 0, x4), by simp [ns], by show 0 < max (-c4) 0; omega⟩
  have gp : ∀ g : H → Int, Ln g → (0 < c1 → 0 < g x1) → (0 < c2 → 0 < g x2) → (0 < c3 → 0 < g x3) → (0 < c4 → 0 < g x4) → 0 < g (wsum ps) := fun g lg k1 k2 k3 k4 => by
    rw [lg.wsum]
    refine (wval_pos ps fun q hq => ?_).2 sg.1
    simp only [ps, List.mem_cons, List.not_mem_nil, or_false] at hq
    rcases hq with rfl | rfl | rfl | rfl
    · exact ⟨by show 0 ≤ max c1 0; omega, fun h => k1 (by have : 0 < max c1 0 := h; omega)⟩
    · exact ⟨by show 0 ≤ max c2 0; omega, fun h => k2 (by have : 0 < max c2 0 := h; omega)⟩
    · exact ⟨by show 0 ≤ max c3 0; omega, fun h => k3 (by have : 0 < max c3 0 := h; omega)⟩
    · exact ⟨by show 0 ≤ max c4 0; omega, fun h => k4 (by have : 0 < max c4 0 := h; omega)⟩
  have gn : ∀ g : H → Int, Ln g → (c1 < 0 → 0 < g x1) → (c2 < 0 → 0 < g x2) → (c3 < 0 → 0 < g x3) → (c4 < 0 → 0 < g x4) → 0 < g (wsum ps) := fun g lg k1 k2 k3 k4 => by
    rw [eq, lg.wsum]
    refine (wval_pos ns fun q hq => ?_).2 sg.2
    simp only [ns, List.mem_cons, List.not_mem_nil, or_false] at hq
    rcases hq with rfl | rfl | rfl | rfl
    · exact ⟨by show 0 ≤ max (-c1) 0; omega, fun h => k1 (by have : 0 < max (-c1) 0 := h; omega)⟩
    · exact ⟨by show 0 ≤ max (-c2) 0; omega, fun h => k2 (by have : 0 < max (-c2) 0 := h; omega)⟩
    · exact ⟨by show 0 ≤ max (-c3) 0; omega, fun h => k3 (by have : 0 < max (-c3) 0 := h; omega)⟩
    · exact ⟨by show 0 ≤ max (-c4) 0; omega, fun h => k4 (by have : 0 < max (-c4) 0 := h; omega)⟩
  refine ⟨wsum ps, gp _ W_ln (fun _ => w1) (fun _ => w2) (fun _ => w3) (fun _ => w4), fun g hg => ?_⟩
  have lg := hl g hg
  simp only [List.mem_append] at hg p1 p2 p3 p4
  rcases hg with ((hg | hg) | hg) | hg
  · by_cases h : 0 < c1
    · exact gn g lg (fun q => absurd q (by omega)) (fun _ => p2 g (by simp [hg])) (fun _ => p3 g (by simp [hg])) (fun _ => p4 g (by simp [hg]))
    · exact gp g lg (fun q => absurd q h) (fun _ => p2 g (by simp [hg])) (fun _ => p3 g (by simp [hg])) (fun _ => p4 g (by simp [hg]))
  · by_cases h : 0 < c2
    · exact gn g lg (fun _ => p1 g (by simp [hg])) (fun q => absurd q (by omega)) (fun _ => p3 g (by simp [hg])) (fun _ => p4 g (by simp [hg]))
    · exact gp g lg (fun _ => p1 g (by simp [hg])) (fun q => absurd q h) (fun _ => p3 g (by simp [hg])) (fun _ => p4 g (by simp [hg]))
  · by_cases h : 0 < c3
    · exact gn g lg (fun _ => p1 g (by simp [hg])) (fun _ => p2 g (by simp [hg])) (fun q => absurd q (by omega)) (fun _ => p4 g (by simp [hg]))
    · exact gp g lg (fun _ => p1 g (by simp [hg])) (fun _ => p2 g (by simp [hg])) (fun q => absurd q h) (fun _ => p4 g (by simp [hg]))
  · by_cases h : 0 < c4
    · exact gn g lg (fun _ => p1 g (by simp [hg])) (fun _ => p2 g (by simp [hg])) (fun _ => p3 g (by simp [hg])) (fun q => absurd q (by omega))
    · exact gp g lg (fun _ => p1 g (by simp [hg])) (fun _ => p2 g (by simp [hg])) (fun _ => p3 g (by simp [hg])) (fun q => absurd q h)
/-! ### two triangles -/
/-- signed side functionals of the triangle a b c, s its sign -/
abbrev fs (s : Int) (a b c : Pt) : List (H → Int) := [fun z => s * F a b z, fun z => s * F b c z, fun z => s * F c a z]
theorem fs_ln {s : Int} {a b c : Pt} : ∀ g ∈ fs s a b c, Ln g := fun g hg => by
  simp only [fs, List.mem_cons, List.not_mem_nil, or_false] at hg
  rcases hg with rfl | rfl | rfl <;> exact sF_ln _ _ _
/-- a point within the triangle a b c on which g is above 0, where some corner has g above 0 -/
theorem nudge {s : Int} {a b c : Pt} (D : 0 < s * Tp a b c) {g : H → Int} (lg : Ln g) (h : 0 < g (emb a) ∨ 0 < g (emb b) ∨ 0 < g (emb c)) : ∃ z, P (fs s a b c ++ [g]) z := by
  have r1 : Tp b c a = Tp a b c := by unfold Tp; grind
  have r2 : Tp c a b = Tp a b c := by unfold Tp; grind
  have z1 : Tp a b a = 0 := by unfold Tp; grind
  have z2 : Tp a b b = 0 := by unfold Tp; grind
  have z3 : Tp b c b = 0 := by unfold Tp; grind
  have z4 : Tp b c c = 0 := by unfold Tp; grind
  have z5 : Tp c a c = 0 := by unfold Tp; grind
  have z6 : Tp c a a = 0 := by unfold Tp; grind
  let m : H := comb 1 (comb 1 (emb a) 1 (emb b)) 1 (emb c)
  have gm : ∀ k : H → Int, Ln k → k m = k (emb a) + k (emb b) + k (emb c) := fun k lk => by
    show k (comb 1 (comb 1 (emb a) 1 (emb b)) 1 (emb c)) = _
    rw [lk, lk]
    omega
  have main : ∀ p : Pt, (p = a ∨ p = b ∨ p = c) → 0 < g (emb p) → ∃ z, P (fs s a b c ++ [g]) z := fun p hp h0 => by
    let N : Int := 1 + (g m).natAbs
    refine ⟨comb N (emb p) 1 m, ?_, fun k hk => ?_⟩
    · show 0 < N * 1 + 1 * (1 * (1 * 1 + 1 * 1) + 1 * 1)
      have : 0 < N := by show 0 < 1 + ((g m).natAbs : Int); omega
      omega
    · have N0 : 0 < N := by show 0 < 1 + ((g m).natAbs : Int); omega
      rcases List.mem_append.mp hk with hk | hk
      · have lk := fs_ln k hk
        rw [lk, gm k lk]
        have : 0 ≤ k (emb p) ∧ 0 < k (emb a) + k (emb b) + k (emb c) := by
          simp only [fs, List.mem_cons, List.not_mem_nil, or_false] at hk
          rcases hk with rfl | rfl | rfl
          · dsimp only
            rw [F_emb, F_emb, F_emb, F_emb, z1, z2, Int.mul_zero]
            refine ⟨?_, by omega⟩
            rcases hp with rfl | rfl | rfl
            · rw [z1, Int.mul_zero]; exact Int.le_refl _
            · rw [z2, Int.mul_zero]; exact Int.le_refl _
            · omega
          · dsimp only
            rw [F_emb, F_emb, F_emb, F_emb, z3, z4, r1, Int.mul_zero]
            refine ⟨?_, by omega⟩
            rcases hp with rfl | rfl | rfl
            · rw [r1]; omega
            · rw [z3, Int.mul_zero]; exact Int.le_refl _
            · rw [z4, Int.mul_zero]; exact Int.le_refl _
          · dsimp only
            rw [F_emb, F_emb, F_emb, F_emb, z5, z6, r2, Int.mul_zero]
            refine ⟨?_, by omega⟩
            rcases hp with rfl | rfl | rfl
            · rw [z6, Int.mul_zero]; exact Int.le_refl _
            · rw [r2]; omega
            · rw [z5, Int.mul_zero]; exact Int.le_refl _
        have q := Int.mul_nonneg (Int.le_of_lt N0) this.1
        omega
      · have e : k = g := by simpa using hk
        subst e
        rw [lg]
        have q : N * 1 ≤ N * k (emb p) := Int.mul_le_mul_of_nonneg_left (by omega) (by omega)
        have : N = 1 + (k m).natAbs := rfl
        omega
  rcases h with h | h | h
  · exact main a (.inl rfl) h
  · exact main b (.inr (.inl rfl)) h
  · exact main c (.inr (.inr rfl)) h
theorem P_sub {S T : List (H → Int)} (h : ∀ g ∈ T, g ∈ S) : (∃ z, P S z) → ∃ z, P T z := fun ⟨z, w, p⟩ => ⟨z, w, fun g hg => p g (h g hg)⟩
/-- no side parts them: a common point within -/
theorem common {s r : Int} {a b c d e f : Pt} (D1 : 0 < s * Tp a b c) (D2 : 0 < r * Tp d e f)
    (n1 : ∀ g ∈ fs s a b c, 0 < g (emb d) ∨ 0 < g (emb e) ∨ 0 < g (emb f)) (n2 : ∀ g ∈ fs r d e f, 0 < g (emb a) ∨ 0 < g (emb b) ∨ 0 < g (emb c)) : ∃ z, P (fs s a b c ++ fs r d e f) z := by
  have u : ∀ g ∈ fs r d e f, ∃ z, P (fs s a b c ++ [g]) z := fun g hg => nudge D1 (fs_ln g hg) (n2 g hg)
  have v : ∀ g ∈ fs s a b c, ∃ z, P (fs r d e f ++ [g]) z := fun g hg => nudge D2 (fs_ln g hg) (n1 g hg)
  have A : ∀ g ∈ fs s a b c, ∀ g' ∈ fs s a b c, ∀ k ∈ fs r d e f, ∀ k' ∈ fs r d e f, ∃ z, P ([g] ++ [g'] ++ [k] ++ [k']) z := fun g hg g' hg' k hk k' hk' => by
    refine helly4 (fun x hx => ?_) ?_ ?_ ?_ ?_
    · simp only [List.mem_append, List.mem_singleton] at hx
      rcases hx with ((rfl | rfl) | rfl) | rfl
      · exact fs_ln _ hg
      · exact fs_ln _ hg'
      · exact fs_ln _ hk
      · exact fs_ln _ hk'
    · refine P_sub (fun x hx => ?_) (v g' hg')
      simp only [List.mem_append, List.mem_singleton] at hx ⊢
      rcases hx with (rfl | rfl) | rfl
      · exact .inr rfl
      · exact .inl hk
      · exact .inl hk'
    · refine P_sub (fun x hx => ?_) (v g hg)
      simp only [List.mem_append, List.mem_singleton] at hx ⊢
      rcases hx with (rfl | rfl) | rfl
      · exact .inr rfl
      · exact .inl hk
      · exact .inl hk'
    · refine P_sub (fun x hx => ?_) (u k' hk')
      simp only [List.mem_append, List.mem_singleton] at hx ⊢
      rcases hx with (rfl | rfl) | rfl
      · exact .inl hg
      · exact .inl hg'
      · exact .inr rfl
    · refine P_sub (fun x hx => ?_) (u k hk)
      simp only [List.mem_append, List.mem_singleton] at hx ⊢
      rcases hx with (rfl | rfl) | rfl
      · exact .inl hg
      · exact .inl hg'
      · exact .inr rfl
  have B : ∀ g ∈ fs s a b c, ∀ g' ∈ fs s a b c, ∃ z, P ([g, g'] ++ [fun z => r * F d e z] ++ [fun z => r * F e f z] ++ [fun z => r * F f d z]) z := fun g hg g' hg' => by
    have m1 : (fun z => r * F d e z) ∈ fs r d e f := by simp [fs]
    have m2 : (fun z => r * F e f z) ∈ fs r d e f := by simp [fs]
    have m3 : (fun z => r * F f d z) ∈ fs r d e f := by simp [fs]
    refine helly4 (fun x hx => ?_) ?_ ?_ ?_ ?_
    · simp only [List.mem_append, List.mem_singleton, List.mem_cons, List.not_mem_nil, or_false] at hx
      rcases hx with (((rfl | rfl) | rfl) | rfl) | rfl
      · exact fs_ln _ hg
      · exact fs_ln _ hg'
      · exact fs_ln _ m1
      · exact fs_ln _ m2
      · exact fs_ln _ m3
    · refine P_sub (fun x hx => ?_) (v g hg)
      simp only [List.mem_append, List.mem_singleton] at hx ⊢
      rcases hx with (rfl | rfl) | rfl
      · exact .inl m1
      · exact .inl m2
      · exact .inl m3
    · refine P_sub (fun x hx => ?_) (A g hg g' hg' _ m2 _ m3)
      simp only [List.mem_append, List.mem_singleton, List.mem_cons, List.not_mem_nil, or_false] at hx ⊢
      rcases hx with ((rfl | rfl) | rfl) | rfl <;> simp
    · refine P_sub (fun x hx => ?_) (A g hg g' hg' _ m1 _ m3)
      simp only [List.mem_append, List.mem_singleton, List.mem_cons, List.not_mem_nil, or_false] at hx ⊢
      rcases hx with ((rfl | rfl) | rfl) | rfl <;> simp
    · refine P_sub (fun x hx => ?_) (A g hg g' hg' _ m1 _ m2)
      simp only [List.mem_append, List.mem_singleton, List.mem_cons, List.not_mem_nil, or_false] at hx ⊢
      rcases hx with ((rfl | rfl) | rfl) | rfl <;> simp
  have m1 : (fun z => s * F a b z) ∈ fs s a b c := by simp [fs]
  have m2 : (fun z => s * F b c z) ∈ fs s a b c := by simp [fs]
  have m3 : (fun z => s * F c a z) ∈ fs s a b c := by simp [fs]
  have k1 : (fun z => r * F d e z) ∈ fs r d e f := by simp [fs]
  refine P_sub (S := [fun z => s * F a b z] ++ [fun z => s * F b c z] ++ [fun z => s * F c a z] ++ fs r d e f) (fun x hx => ?_) (helly4 (fun x hx => ?_) ?_ ?_ ?_ ?_)
  · simp only [fs, List.mem_append, List.mem_singleton, List.mem_cons, List.not_mem_nil, or_false] at hx ⊢
    rcases hx with (h | h | h) | h
    · exact .inl (.inl (.inl h))
    · exact .inl (.inl (.inr h))
    · exact .inl (.inr h)
    · exact .inr h
  · rcases List.mem_append.mp hx with hx | hx
    · refine fs_ln (s := s) (a := a) (b := b) (c := c) x ?_
      simp only [fs, List.mem_append, List.mem_singleton, List.mem_cons, List.not_mem_nil, or_false] at hx ⊢
      rcases hx with (h | h) | h
      · exact .inl h
      · exact .inr (.inl h)
      · exact .inr (.inr h)
    · exact fs_ln x hx
  · refine P_sub (fun x hx => ?_) (B _ m2 _ m3)
    simp only [fs, List.mem_append, List.mem_singleton, List.mem_cons, List.not_mem_nil, or_false] at hx ⊢
    rcases hx with (h | h) | h | h | h <;> simp [h]
  · refine P_sub (fun x hx => ?_) (B _ m1 _ m3)
    simp only [fs, List.mem_append, List.mem_singleton, List.mem_cons, List.not_mem_nil, or_false] at hx ⊢
    rcases hx with (h | h) | h | h | h <;> simp [h]
  · refine P_sub (fun x hx => ?_) (B _ m1 _ m2)
    simp only [fs, List.mem_append, List.mem_singleton, List.mem_cons, List.not_mem_nil, or_false] at hx ⊢
    rcases hx with (h | h) | h | h | h <;> simp [h]
  · refine P_sub (fun x hx => ?_) (u _ k1)
    simp only [fs, List.mem_append, List.mem_singleton, List.mem_cons, List.not_mem_nil, or_false] at hx ⊢
    rcases hx with (h | h) | h <;> simp [h]
end GE

set_option maxHeartbeats 1000000
namespace GE
open DL LFD
/-- the first one to be left -/
theorem first_out : ∀ l : List (Int × Int), (∀ q ∈ l, 0 < q.1) → (∃ q ∈ l, q.2 < 0) → ∃ q ∈ l, q.2 < 0 ∧ ∀ k ∈ l, 0 ≤ -q.2 * k.1 + q.1 * k.2
  | [], _, ⟨q, h, _⟩ => nomatch h
  | (x, y) :: l, hp, he => by
    have x0 : 0 < x := hp (x, y) (by simp)
    have pl : ∀ q ∈ l, 0 < q.1 := fun q hq => hp q (List.mem_cons_of_mem _ hq)
    by_cases hl : ∃ q ∈ l, q.2 < 0
    · obtain ⟨q, hq, q0, hk⟩ := first_out l pl hl
      have qp := pl q hq
      by_cases hy : 0 ≤ -q.2 * x + q.1 * y
      · refine ⟨q, List.mem_cons_of_mem _ hq, q0, fun k hk' => ?_⟩
        rcases List.mem_cons.mp hk' with rfl | hk'
        · exact hy
        · exact hk k hk'
      · have y0 : y < 0 := by
          apply Classical.byContradiction
          intro h
          have h1 := Int.mul_pos (show 0 < -q.2 by omega) x0
          have h2 := Int.mul_nonneg (Int.le_of_lt qp) (show 0 ≤ y by omega)
          omega
        refine ⟨(x, y), by simp, y0, fun k hk' => ?_⟩
        dsimp only
        rcases List.mem_cons.mp hk' with rfl | hk'
        · dsimp only
          rw [show -y * x + x * y = 0 by grind]
          exact Int.le_refl _
        · have kp := pl k hk'
          by_cases h : 0 ≤ k.2
          · have h1 := Int.mul_nonneg (show 0 ≤ -y by omega) (Int.le_of_lt kp)
            have h2 := Int.mul_nonneg (Int.le_of_lt x0) h
            omega
          · have h1 := hk k hk'
            apply Classical.byContradiction
            intro hn
            have e1 : 0 ≤ (-y) * (-q.2 * k.1 + q.1 * k.2) := Int.mul_nonneg (by omega) h1
            have e2 : 0 < (-k.2) * -(-q.2 * x + q.1 * y) := Int.mul_pos (by omega) (by omega)
            have e3 : 0 < (-q.2) * -(-y * k.1 + x * k.2) := Int.mul_pos (by omega) (by omega)
            grind
    · refine ⟨(x, y), by simp, ?_, fun k hk' => ?_⟩
      · obtain ⟨q, hq, q0⟩ := he
        rcases List.mem_cons.mp hq with rfl | hq
        · exact q0
        · exact absurd ⟨q, hq, q0⟩ hl
      · have y0 : y < 0 := by
          obtain ⟨q, hq, q0⟩ := he
          rcases List.mem_cons.mp hq with rfl | hq
          · exact q0
          · exact absurd ⟨q, hq, q0⟩ hl
        dsimp only
        rcases List.mem_cons.mp hk' with rfl | hk'
        · dsimp only
          rw [show -y * x + x * y = 0 by grind]
          exact Int.le_refl _
        · have kp := pl k hk'
          have k2 : 0 ≤ k.2 := by
            apply Classical.byContradiction
            intro h
            exact hl ⟨k, hk', by omega⟩
          have h1 := Int.mul_nonneg (show 0 ≤ -y by omega) (Int.le_of_lt kp)
          have h2 := Int.mul_nonneg (Int.le_of_lt x0) k2
          omega
/-- a point given is a corner or without -/
def Out (s : Int) (a b c p : Pt) : Prop := (p = a ∨ p = b ∨ p = c) ∨ s * Tp a b p < 0 ∨ s * Tp b c p < 0 ∨ s * Tp c a p < 0
theorem sgn_ne {s x : Int} (h : 0 < s * x) : s ≠ 0 ∧ x ≠ 0 := ⟨fun e => by rw [e, Int.zero_mul] at h; omega, fun e => by rw [e, Int.mul_zero] at h; omega⟩
/-- the last step: from w on the side a b, within d e f, towards a, out by the side d e -/
theorem fin {s r : Int} {a b c d e f : Pt} (D1 : 0 < s * Tp a b c) (D2 : 0 < r * Tp d e f) (w : H) (w0 : 0 < w.2.2) (wab : s * F a b w = 0) (wbc : 0 ≤ s * F b c w) (wca : 0 ≤ s * F c a w)
    (gde : 0 < r * F d e w) (pa : r * Tp d e a < 0)
    (b1 : 0 ≤ -(r * Tp d e a) * (r * F e f w) + (r * F d e w) * (r * Tp e f a)) (b2 : 0 ≤ -(r * Tp d e a) * (r * F f d w) + (r * F d e w) * (r * Tp f d a))
    (Od : Out s a b c d) (Oe : Out s a b c e) : Tp d e a * Tp d e b < 0 ∧ Tp a b d * Tp a b e < 0 := by
  obtain ⟨s0, t0⟩ := sgn_ne D1
  obtain ⟨r0, u0⟩ := sgn_ne D2
  have nab : a ≠ b := fun q => t0 (by rw [q]; unfold Tp; grind)
  -- (1)
  have i1 : (s * Tp a b c) * (r * F d e w) = (s * F b c w) * (r * Tp d e a) + (s * F c a w) * (r * Tp d e b) + (s * F a b w) * (r * Tp d e c) := by unfold F Tp; grind
  have hb : 0 < r * Tp d e b := by
    rw [wab, Int.zero_mul] at i1
    have h1 := Int.mul_pos D1 gde
    have h2 : 0 ≤ (s * F b c w) * -(r * Tp d e a) := Int.mul_nonneg wbc (by omega)
    rw [Int.mul_neg] at h2
    have h3 : 0 < (s * F c a w) * (r * Tp d e b) := by omega
    exact Int.pos_of_mul_pos_right h3 (by
      rcases Int.lt_or_eq_of_le wca with q | q
      · exact q
      · rw [← q, Int.zero_mul] at h3; omega)
  have c1 : Tp d e a * Tp d e b < 0 := by
    have h := Int.mul_neg_of_neg_of_pos pa hb
    have ee : r * Tp d e a * (r * Tp d e b) = (r * r) * (Tp d e a * Tp d e b) := by grind
    rw [ee] at h
    have rr : 0 < r * r := by
      rcases Int.lt_or_gt_of_ne r0 with q | q
      · exact Int.mul_pos_of_neg_of_neg q q
      · exact Int.mul_pos q q
    apply Classical.byContradiction
    intro hn
    have := Int.mul_nonneg (Int.le_of_lt rr) (show 0 ≤ Tp d e a * Tp d e b by omega)
    omega
  refine ⟨c1, ?_⟩
  -- (2): the point v
  let v : H := comb (-(r * Tp d e a)) w (r * F d e w) (emb a)
  have vW : 0 < v.2.2 := by
    show 0 < -(r * Tp d e a) * w.2.2 + (r * F d e w) * 1
    have := Int.mul_pos (show 0 < -(r * Tp d e a) by omega) w0
    omega
  have vF : ∀ p q : Pt, F p q v = -(r * Tp d e a) * F p q w + (r * F d e w) * Tp p q a := fun p q => by
    show F p q (comb _ _ _ _) = _
    rw [F_ln, F_emb]
  have m0 : 0 ≤ r * F e f v := by rw [vF]; have : r * (-(r * Tp d e a) * F e f w + r * F d e w * Tp e f a) = -(r * Tp d e a) * (r * F e f w) + (r * F d e w) * (r * Tp e f a) := by grind
                                  omega
  have n0 : 0 ≤ r * F f d v := by rw [vF]; have : r * (-(r * Tp d e a) * F f d w + r * F d e w * Tp f d a) = -(r * Tp d e a) * (r * F f d w) + (r * F d e w) * (r * Tp f d a) := by grind
                                  omega
  have vde : r * F d e v = 0 := by rw [vF]; grind
  have bary : ∀ p q : Pt, (r * Tp d e f) * F p q v = (r * F e f v) * Tp p q d + (r * F f d v) * Tp p q e + (r * F d e v) * Tp p q f := fun p q => by unfold F Tp; grind
  have baryW : (r * Tp d e f) * v.2.2 = (r * F e f v) + (r * F f d v) + (r * F d e v) := by unfold F Tp; grind
  rw [vde] at baryW
  simp only [vde, Int.zero_mul, Int.add_zero] at bary baryW
  have mn := Int.mul_pos D2 vW
  rw [baryW] at mn
  have vab : F a b v = 0 := by
    rw [vF]
    have h1 : F a b w = 0 := by
      rcases Int.mul_eq_zero.mp wab with q | q
      · exact absurd q s0
      · exact q
    rw [h1, show Tp a b a = 0 by unfold Tp; grind]
    omega
  have vbc : 0 ≤ s * F b c v := by
    rw [vF, show s * (-(r * Tp d e a) * F b c w + r * F d e w * Tp b c a) = -(r * Tp d e a) * (s * F b c w) + (r * F d e w) * (s * Tp a b c) by unfold Tp; grind]
    have h1 := Int.mul_nonneg (show 0 ≤ -(r * Tp d e a) by omega) wbc
    have h2 := Int.mul_pos gde D1
    omega
  have vca : 0 ≤ s * F c a v := by
    rw [vF, show s * (-(r * Tp d e a) * F c a w + r * F d e w * Tp c a a) = -(r * Tp d e a) * (s * F c a w) by unfold Tp; grind]
    exact Int.mul_nonneg (by omega) wca
  have q := bary a b
  rw [vab, Int.mul_zero] at q
  generalize hm : r * F e f v = m at *
  generalize hn : r * F f d v = n at *
  -- a corner at v is none
  have corner : ∀ p : Pt, Out s a b c p → (∃ k : Int, 0 < k ∧ ∀ x y : Pt, (r * Tp d e f) * F x y v = k * Tp x y p) → Tp d e p = 0 → False := fun p Op ⟨k, k0, hk⟩ hz => by
    have e1 : Tp a b p = 0 := by
      have := hk a b
      rw [vab, Int.mul_zero] at this
      rcases Int.mul_eq_zero.mp this.symm with h | h
      · omega
      · exact h
    have pos : ∀ x y : Pt, 0 ≤ s * F x y v → 0 ≤ s * Tp x y p := fun x y h => by
      have h1 := Int.mul_nonneg (Int.le_of_lt D2) h
      have h2 : (r * Tp d e f) * (s * F x y v) = k * (s * Tp x y p) := by
        have := hk x y
        grind
      rw [h2] at h1
      apply Classical.byContradiction
      intro hn
      have := Int.mul_pos k0 (show 0 < -(s * Tp x y p) by omega)
      rw [Int.mul_neg] at this
      omega
    have e2 := pos b c vbc
    have e3 := pos c a vca
    rcases Op with (h | h | h) | h | h | h
    · subst h; rw [hz, Int.mul_zero] at pa; omega
    · subst h; rw [hz, Int.mul_zero] at hb; omega
    · subst h; exact t0 e1
    · rw [e1, Int.mul_zero] at h; omega
    · omega
    · omega
  have zd : Tp d e d = 0 := by unfold Tp; grind
  have ze : Tp d e e = 0 := by unfold Tp; grind
  rcases Int.lt_or_eq_of_le m0 with mp | mz
  · rcases Int.lt_or_eq_of_le n0 with np | nz
    · by_cases hd : Tp a b d = 0
      · exfalso
        rw [hd, Int.mul_zero, Int.zero_add] at q
        have he : Tp a b e = 0 := by
          rcases Int.mul_eq_zero.mp q.symm with h | h
          · omega
          · exact h
        have := line nab hd he (show Tp a b a = 0 by unfold Tp; grind)
        rw [this, Int.mul_zero] at pa
        omega
      · apply Classical.byContradiction
        intro hx
        have k1 : m * (Tp a b d * Tp a b d) + n * (Tp a b d * Tp a b e) = 0 := by grind
        have k2 : 0 < Tp a b d * Tp a b d := by
          rcases Int.lt_or_gt_of_ne hd with h | h
          · exact Int.mul_pos_of_neg_of_neg h h
          · exact Int.mul_pos h h
        have k3 := Int.mul_pos mp k2
        have k4 := Int.mul_nonneg (Int.le_of_lt np) (show 0 ≤ Tp a b d * Tp a b e by omega)
        omega
    · exfalso
      exact corner d Od ⟨m, mp, fun x y => by rw [bary x y, ← nz]; omega⟩ zd
  · exfalso
    exact corner e Oe ⟨n, by omega, fun x y => by rw [bary x y, ← mz]; omega⟩ ze
/-- two segments cross properly -/
def Cx (a b c d : Pt) : Prop := Tp a b c * Tp a b d < 0 ∧ Tp c d a * Tp c d b < 0
theorem Cx.symm {a b c d : Pt} (h : Cx a b c d) : Cx c d a b := ⟨h.2, h.1⟩
theorem Cx.swap {a b c d : Pt} (h : Cx a b c d) : Cx b a c d := ⟨by
  have := h.1
  rw [show Tp b a c = -Tp a b c by unfold Tp; grind, show Tp b a d = -Tp a b d by unfold Tp; grind, Int.neg_mul_neg]
  exact this, by rw [Int.mul_comm]; exact h.2⟩
theorem Cx.swap' {a b c d : Pt} (h : Cx a b c d) : Cx a b d c := h.symm.swap.symm
/-- some sides of both cross -/
def CxT (a b c d e f : Pt) : Prop := ∃ p ∈ [(a, b), (a, c), (b, c)], ∃ q ∈ [(d, e), (d, f), (e, f)], Cx p.1 p.2 q.1 q.2
theorem CxT.of {a b c d e f p q x y : Pt} (h : Cx p q x y) (hp : (p = a ∨ p = b ∨ p = c) ∧ (q = a ∨ q = b ∨ q = c)) (hx : (x = d ∨ x = e ∨ x = f) ∧ (y = d ∨ y = e ∨ y = f)) : CxT a b c d e f := by
  have npq : p ≠ q := fun z => by have := h.1; rw [z, show Tp q q x = 0 by unfold Tp; grind, Int.zero_mul] at this; omega
  have nxy : x ≠ y := fun z => by have := h.2; rw [z, show Tp y y p = 0 by unfold Tp; grind, Int.zero_mul] at this; omega
  have k1 : ∃ u ∈ [(a, b), (a, c), (b, c)], (u = (p, q) ∨ u = (q, p)) := by
    obtain ⟨h1, h2⟩ := hp
    rcases h1 with rfl | rfl | rfl <;> rcases h2 with rfl | rfl | rfl
    · exact absurd rfl npq
    · exact ⟨(p, q), by simp, .inl rfl⟩
    · exact ⟨(p, q), by simp, .inl rfl⟩
    · exact ⟨(q, p), by simp, .inr rfl⟩
    · exact absurd rfl npq
    · exact ⟨(p, q), by simp, .inl rfl⟩
    · exact ⟨(q, p), by simp, .inr rfl⟩
    · exact ⟨(q, p), by simp, .inr rfl⟩
    · exact absurd rfl npq
  have k2 : ∃ u ∈ [(d, e), (d, f), (e, f)], (u = (x, y) ∨ u = (y, x)) := by
    obtain ⟨h1, h2⟩ := hx
    rcases h1 with rfl | rfl | rfl <;> rcases h2 with rfl | rfl | rfl
    · exact absurd rfl nxy
    · exact ⟨(x, y), by simp, .inl rfl⟩
    · exact ⟨(x, y), by simp, .inl rfl⟩
    · exact ⟨(y, x), by simp, .inr rfl⟩
    · exact absurd rfl nxy
    · exact ⟨(x, y), by simp, .inl rfl⟩
    · exact ⟨(y, x), by simp, .inr rfl⟩
    · exact ⟨(y, x), by simp, .inr rfl⟩
    · exact absurd rfl nxy
  obtain ⟨u, hu, eu⟩ := k1
  obtain ⟨v, hv, ev⟩ := k2
  refine ⟨u, hu, v, hv, ?_⟩
  rcases eu with rfl | rfl <;> rcases ev with rfl | rfl
  · exact h
  · exact h.swap'
  · exact h.swap
  · exact h.swap.swap'
theorem towards {s r : Int} {a b c d e f : Pt} (D1 : 0 < s * Tp a b c) (D2 : 0 < r * Tp d e f) (w : H) (w0 : 0 < w.2.2) (wab : s * F a b w = 0) (wbc : 0 ≤ s * F b c w) (wca : 0 ≤ s * F c a w)
    (g1 : 0 < r * F d e w) (g2 : 0 < r * F e f w) (g3 : 0 < r * F f d w) (pa : r * Tp d e a < 0 ∨ r * Tp e f a < 0 ∨ r * Tp f d a < 0)
    (Od : Out s a b c d) (Oe : Out s a b c e) (Of : Out s a b c f) : ∃ x y, (x = d ∨ x = e ∨ x = f) ∧ (y = d ∨ y = e ∨ y = f) ∧ Cx a b x y := by
  have r1 : Tp e f d = Tp d e f := by unfold Tp; grind
  have r2 : Tp f d e = Tp d e f := by unfold Tp; grind
  obtain ⟨q, hq, q0, hk⟩ := first_out [(r * F d e w, r * Tp d e a), (r * F e f w, r * Tp e f a), (r * F f d w, r * Tp f d a)] (fun q hq => by
    simp only [List.mem_cons, List.not_mem_nil, or_false] at hq
    rcases hq with rfl | rfl | rfl
    · exact g1
    · exact g2
    · exact g3) (by
    rcases pa with h | h | h
    · exact ⟨_, List.mem_cons_self .., h⟩
    · exact ⟨_, List.mem_cons_of_mem _ (List.mem_cons_self ..), h⟩
    · exact ⟨_, List.mem_cons_of_mem _ (List.mem_cons_of_mem _ (List.mem_cons_self ..)), h⟩)
  have k1 := hk _ (List.mem_cons_self ..)
  have k2 := hk _ (List.mem_cons_of_mem _ (List.mem_cons_self ..))
  have k3 := hk _ (List.mem_cons_of_mem _ (List.mem_cons_of_mem _ (List.mem_cons_self ..)))
  dsimp only at k1 k2 k3
  simp only [List.mem_cons, List.not_mem_nil, or_false] at hq
  rcases hq with rfl | rfl | rfl
  · have := fin D1 D2 w w0 wab wbc wca g1 q0 k2 k3 Od Oe
    exact ⟨d, e, .inl rfl, .inr (.inl rfl), this.2, this.1⟩
  · have := fin D1 (by rw [r1]; exact D2) w w0 wab wbc wca g2 q0 k3 k1 Oe Of
    exact ⟨e, f, .inr (.inl rfl), .inr (.inr rfl), this.2, this.1⟩
  · have := fin D1 (by rw [r2]; exact D2) w w0 wab wbc wca g3 q0 k1 k2 Of Od
    exact ⟨f, d, .inr (.inr rfl), .inl rfl, this.2, this.1⟩
theorem Out.flip {s : Int} {a b c p : Pt} (h : Out s a b c p) : Out (-s) b a c p := by
  have e1 : -s * Tp b a p = s * Tp a b p := by unfold Tp; grind
  have e2 : -s * Tp a c p = s * Tp c a p := by unfold Tp; grind
  have e3 : -s * Tp c b p = s * Tp b c p := by unfold Tp; grind
  unfold Out
  rw [e1, e2, e3]
  rcases h with (h | h | h) | h | h | h
  · exact .inl (.inr (.inl h))
  · exact .inl (.inl h)
  · exact .inl (.inr (.inr h))
  · exact .inr (.inl h)
  · exact .inr (.inr (.inr h))
  · exact .inr (.inr (.inl h))
theorem Out.rot {s : Int} {a b c p : Pt} (h : Out s a b c p) : Out s b c a p := by
  rcases h with (h | h | h) | h | h | h
  · exact .inl (.inr (.inr h))
  · exact .inl (.inl h)
  · exact .inl (.inr (.inl h))
  · exact .inr (.inr (.inr h))
  · exact .inr (.inl h)
  · exact .inr (.inr (.inl h))
theorem on_side {s r : Int} {a b c d e f : Pt} (D1 : 0 < s * Tp a b c) (D2 : 0 < r * Tp d e f) (w : H) (w0 : 0 < w.2.2) (wab : s * F a b w = 0) (wbc : 0 ≤ s * F b c w) (wca : 0 ≤ s * F c a w)
    (g1 : 0 < r * F d e w) (g2 : 0 < r * F e f w) (g3 : 0 < r * F f d w) (Oa : Out r d e f a) (Ob : Out r d e f b)
    (Od : Out s a b c d) (Oe : Out s a b c e) (Of : Out s a b c f) : ∃ x y, (x = d ∨ x = e ∨ x = f) ∧ (y = d ∨ y = e ∨ y = f) ∧ Cx a b x y := by
  have nab : a ≠ b := fun q => (sgn_ne D1).2 (by rw [q]; unfold Tp; grind)
  rcases Oa with ha | pa
  · rcases Ob with hb | pb
    · exfalso
      have i1 : ∀ x y : Pt, (s * Tp a b c) * (r * F x y w) = (s * F b c w) * (r * Tp x y a) + (s * F c a w) * (r * Tp x y b) + (s * F a b w) * (r * Tp x y c) := fun x y => by unfold F Tp; grind
      have i2 : ∀ x y : Pt, 0 < r * F x y w → Tp x y a = 0 → Tp x y b = 0 → False := fun x y h1 h2 h3 => by
        have := i1 x y
        rw [h2, h3, wab, Int.mul_zero, Int.mul_zero, Int.mul_zero, Int.zero_mul] at this
        have := Int.mul_pos D1 h1
        omega
      have z1 : ∀ x y : Pt, Tp x y x = 0 := fun x y => by unfold Tp; grind
      have z2 : ∀ x y : Pt, Tp x y y = 0 := fun x y => by unfold Tp; grind
      rcases ha with rfl | rfl | rfl <;> rcases hb with rfl | rfl | rfl
      · exact nab rfl
      · exact i2 _ _ g1 (z1 _ _) (z2 _ _)
      · exact i2 _ _ g3 (z2 _ _) (z1 _ _)
      · exact i2 _ _ g1 (z2 _ _) (z1 _ _)
      · exact nab rfl
      · exact i2 _ _ g2 (z1 _ _) (z2 _ _)
      · exact i2 _ _ g3 (z1 _ _) (z2 _ _)
      · exact i2 _ _ g2 (z2 _ _) (z1 _ _)
      · exact nab rfl
    · obtain ⟨x, y, hx, hy, h⟩ := towards (s := -s) (a := b) (b := a) (c := c) (by rw [show -s * Tp b a c = s * Tp a b c by unfold Tp; grind]; exact D1) D2 w w0 (by rw [show -s * F b a w = s * F a b w by unfold F; grind]; exact wab)
        (by rw [show -s * F a c w = s * F c a w by unfold F; grind]; exact wca) (by rw [show -s * F c b w = s * F b c w by unfold F; grind]; exact wbc) g1 g2 g3 pb Od.flip Oe.flip Of.flip
      exact ⟨x, y, hx, hy, h.swap⟩
  · exact towards D1 D2 w w0 wab wbc wca g1 g2 g3 pa Od Oe Of
theorem from_in {s r : Int} {a b c d e f p : Pt} (D1 : 0 < s * Tp a b c) (D2 : 0 < r * Tp d e f) (z : H) (hz : P (fs s a b c ++ fs r d e f) z) (hp : p = d ∨ p = e ∨ p = f)
    (pa : s * Tp a b p < 0) (k2 : 0 ≤ -(s * Tp a b p) * (s * F b c z) + (s * F a b z) * (s * Tp b c p)) (k3 : 0 ≤ -(s * Tp a b p) * (s * F c a z) + (s * F a b z) * (s * Tp c a p))
    (Oa : Out r d e f a) (Ob : Out r d e f b) (Od : Out s a b c d) (Oe : Out s a b c e) (Of : Out s a b c f) : ∃ x y, (x = d ∨ x = e ∨ x = f) ∧ (y = d ∨ y = e ∨ y = f) ∧ Cx a b x y := by
  obtain ⟨zW, hz⟩ := hz
  have f1 : 0 < s * F a b z := hz (fun z => s * F a b z) (by simp [fs])
  have g1 : 0 < r * F d e z := hz (fun z => r * F d e z) (by simp [fs])
  have g2 : 0 < r * F e f z := hz (fun z => r * F e f z) (by simp [fs])
  have g3 : 0 < r * F f d z := hz (fun z => r * F f d z) (by simp [fs])
  have al : 0 < -(s * Tp a b p) := by omega
  let w : H := comb (-(s * Tp a b p)) z (s * F a b z) (emb p)
  have wF : ∀ x y : Pt, F x y w = -(s * Tp a b p) * F x y z + (s * F a b z) * Tp x y p := fun x y => by
    show F x y (comb _ _ _ _) = _
    rw [F_ln, F_emb]
  have gw : ∀ x y : Pt, 0 < r * F x y z → 0 ≤ r * Tp x y p → 0 < r * F x y w := fun x y h1 h2 => by
    rw [wF, show r * (-(s * Tp a b p) * F x y z + s * F a b z * Tp x y p) = -(s * Tp a b p) * (r * F x y z) + (s * F a b z) * (r * Tp x y p) by grind]
    have := Int.mul_pos al h1
    have := Int.mul_nonneg (Int.le_of_lt f1) h2
    omega
  have r1 : Tp e f d = Tp d e f := by unfold Tp; grind
  have r2 : Tp f d e = Tp d e f := by unfold Tp; grind
  have c0 : 0 ≤ r * Tp d e p ∧ 0 ≤ r * Tp e f p ∧ 0 ≤ r * Tp f d p := by
    rcases hp with rfl | rfl | rfl
    · rw [show Tp p e p = 0 by unfold Tp; grind, show Tp f p p = 0 by unfold Tp; grind, r1]; omega
    · rw [show Tp d p p = 0 by unfold Tp; grind, show Tp p f p = 0 by unfold Tp; grind, r2]; omega
    · rw [show Tp e p p = 0 by unfold Tp; grind, show Tp p d p = 0 by unfold Tp; grind]; omega
  refine on_side D1 D2 w ?_ ?_ ?_ ?_ (gw _ _ g1 c0.1) (gw _ _ g2 c0.2.1) (gw _ _ g3 c0.2.2) Oa Ob Od Oe Of
  · show 0 < -(s * Tp a b p) * z.2.2 + (s * F a b z) * 1
    have := Int.mul_pos al zW
    omega
  · rw [wF]; grind
  · rw [wF, show s * (-(s * Tp a b p) * F b c z + s * F a b z * Tp b c p) = -(s * Tp a b p) * (s * F b c z) + (s * F a b z) * (s * Tp b c p) by grind]
    exact k2
  · rw [wF, show s * (-(s * Tp a b p) * F c a z + s * F a b z * Tp c a p) = -(s * Tp a b p) * (s * F c a z) + (s * F a b z) * (s * Tp c a p) by grind]
    exact k3
/-- triangles that no side parts, of which none has a point of the other, cross or are alike -/
theorem crosses {s r : Int} {a b c d e f : Pt} (D1 : 0 < s * Tp a b c) (D2 : 0 < r * Tp d e f)
    (n1 : ∀ g ∈ fs s a b c, 0 < g (emb d) ∨ 0 < g (emb e) ∨ 0 < g (emb f)) (n2 : ∀ g ∈ fs r d e f, 0 < g (emb a) ∨ 0 < g (emb b) ∨ 0 < g (emb c))
    (Oa : Out r d e f a) (Ob : Out r d e f b) (Oc : Out r d e f c) (Od : Out s a b c d) (Oe : Out s a b c e) (Of : Out s a b c f) :
    ((d = a ∨ d = b ∨ d = c) ∧ (e = a ∨ e = b ∨ e = c) ∧ (f = a ∨ f = b ∨ f = c)) ∨ CxT a b c d e f := by
  obtain ⟨z, hz⟩ := common D1 D2 n1 n2
  have r1 : Tp b c a = Tp a b c := by unfold Tp; grind
  have r2 : Tp c a b = Tp a b c := by unfold Tp; grind
  have f1 : 0 < s * F a b z := hz.2 (fun z => s * F a b z) (by simp [fs])
  have f2 : 0 < s * F b c z := hz.2 (fun z => s * F b c z) (by simp [fs])
  have f3 : 0 < s * F c a z := hz.2 (fun z => s * F c a z) (by simp [fs])
  have main : ∀ p : Pt, (p = d ∨ p = e ∨ p = f) → (s * Tp a b p < 0 ∨ s * Tp b c p < 0 ∨ s * Tp c a p < 0) → CxT a b c d e f := fun p hp pa => by
    obtain ⟨q, hq, q0, hk⟩ := first_out [(s * F a b z, s * Tp a b p), (s * F b c z, s * Tp b c p), (s * F c a z, s * Tp c a p)] (fun q hq => by
      simp only [List.mem_cons, List.not_mem_nil, or_false] at hq
      rcases hq with rfl | rfl | rfl
      · exact f1
      · exact f2
      · exact f3) (by
      rcases pa with h | h | h
      · exact ⟨_, List.mem_cons_self .., h⟩
      · exact ⟨_, List.mem_cons_of_mem _ (List.mem_cons_self ..), h⟩
      · exact ⟨_, List.mem_cons_of_mem _ (List.mem_cons_of_mem _ (List.mem_cons_self ..)), h⟩)
    have k1 := hk _ (List.mem_cons_self ..)
    have k2 := hk _ (List.mem_cons_of_mem _ (List.mem_cons_self ..))
    have k3 := hk _ (List.mem_cons_of_mem _ (List.mem_cons_of_mem _ (List.mem_cons_self ..)))
    dsimp only at k1 k2 k3
    have hz2 : P (fs s b c a ++ fs r d e f) z := ⟨hz.1, fun g hg => hz.2 g (by
      simp only [fs, List.mem_append, List.mem_cons, List.not_mem_nil, or_false] at hg ⊢
      rcases hg with (h | h | h) | h
      · exact .inl (.inr (.inl h))
      · exact .inl (.inr (.inr h))
      · exact .inl (.inl h)
      · exact .inr h)⟩
    have hz3 : P (fs s c a b ++ fs r d e f) z := ⟨hz.1, fun g hg => hz.2 g (by
      simp only [fs, List.mem_append, List.mem_cons, List.not_mem_nil, or_false] at hg ⊢
      rcases hg with (h | h | h) | h
      · exact .inl (.inr (.inr h))
      · exact .inl (.inl h)
      · exact .inl (.inr (.inl h))
      · exact .inr h)⟩
    simp only [List.mem_cons, List.not_mem_nil, or_false] at hq
    rcases hq with rfl | rfl | rfl
    · obtain ⟨x, y, hx, hy, h⟩ := from_in D1 D2 z hz hp q0 k2 k3 Oa Ob Od Oe Of
      exact CxT.of h ⟨.inl rfl, .inr (.inl rfl)⟩ ⟨hx, hy⟩
    · obtain ⟨x, y, hx, hy, h⟩ := from_in (by rw [r1]; exact D1) D2 z hz2 hp q0 k3 k1 Ob Oc Od.rot Oe.rot Of.rot
      exact CxT.of h ⟨.inr (.inl rfl), .inr (.inr rfl)⟩ ⟨hx, hy⟩
    · obtain ⟨x, y, hx, hy, h⟩ := from_in (by rw [r2]; exact D1) D2 z hz3 hp q0 k1 k2 Oc Oa Od.rot.rot Oe.rot.rot Of.rot.rot
      exact CxT.of h ⟨.inr (.inr rfl), .inl rfl⟩ ⟨hx, hy⟩
  rcases Od with hd | hd
  · rcases Oe with he | he
    · rcases Of with hf | hf
      · exact .inl ⟨hd, he, hf⟩
      · exact .inr (main f (.inr (.inr rfl)) hf)
    · exact .inr (main e (.inr (.inl rfl)) he)
  · exact .inr (main d (.inl rfl) hd)
/-- where sides cross, no side parts -/
theorem not_parted {s : Int} {a b c p q x y : Pt} (D1 : 0 < s * Tp a b c) (h : Cx p q x y) (hp : (p = a ∨ p = b ∨ p = c) ∧ (q = a ∨ q = b ∨ q = c)) : 0 < s * Tp a b x ∨ 0 < s * Tp a b y := by
  have z1 : Tp a b a = 0 := by unfold Tp; grind
  have z2 : Tp a b b = 0 := by unfold Tp; grind
  have pos : ∀ u : Pt, (u = a ∨ u = b ∨ u = c) → 0 ≤ s * Tp a b u := fun u hu => by
    rcases hu with rfl | rfl | rfl
    · rw [z1]; omega
    · rw [z2]; omega
    · omega
  have p0 := pos p hp.1
  have q0 := pos q hp.2
  apply Classical.byContradiction
  intro hn
  have x0 : s * Tp a b x ≤ 0 := by omega
  have y0 : s * Tp a b y ≤ 0 := by omega
  have id : Tp x y q * (s * Tp a b p) - Tp x y p * (s * Tp a b q) = Tp p q x * (s * Tp a b y) - Tp p q y * (s * Tp a b x) := by unfold Tp; grind
  have id2 : Tp x y q - Tp x y p = Tp p q x - Tp p q y := by unfold Tp; grind
  obtain ⟨h1, h2⟩ := h
  have nab : a ≠ b := fun z => (sgn_ne D1).2 (by rw [z]; unfold Tp; grind)
  have s0 := (sgn_ne D1).1
  have col : s * Tp a b x = 0 → s * Tp a b y = 0 → s * Tp a b p = 0 → False := fun e1 e2 e3 => by
    have k : ∀ u : Pt, s * Tp a b u = 0 → Tp a b u = 0 := fun u hu => by
      rcases Int.mul_eq_zero.mp hu with z | z
      · exact absurd z s0
      · exact z
    have := line nab (k _ e1) (k _ e2) (k _ e3)
    rw [this, Int.zero_mul] at h2
    omega
  have sgn : ∀ u v : Int, u * v < 0 → (u < 0 ∧ 0 < v) ∨ (0 < u ∧ v < 0) := fun u v h => by
    rcases (show u < 0 ∨ u = 0 ∨ 0 < u by omega) with hu | hu | hu
    · left
      refine ⟨hu, ?_⟩
      apply Classical.byContradiction
      intro hv
      have := Int.mul_nonneg_of_nonpos_of_nonpos (Int.le_of_lt hu) (show v ≤ 0 by omega)
      omega
    · rw [hu, Int.zero_mul] at h; omega
    · right
      refine ⟨hu, ?_⟩
      apply Classical.byContradiction
      intro hv
      have := Int.mul_nonneg (Int.le_of_lt hu) (show 0 ≤ v by omega)
      omega
  have zz : ∀ k l : Int, 0 < k → 0 ≤ l → k * l ≤ 0 → l = 0 := fun k l hk hl h => by
    apply Classical.byContradiction
    intro hne
    have := Int.mul_pos hk (show 0 < l by omega)
    omega
  rcases sgn _ _ h2 with ⟨u1, u2⟩ | ⟨u1, u2⟩ <;> rcases sgn _ _ h1 with ⟨v1, v2⟩ | ⟨v1, v2⟩
  · omega
  · have e1 := Int.mul_nonneg (Int.le_of_lt u2) p0
    have e2 := Int.mul_nonneg (show 0 ≤ -Tp x y p by omega) q0
    have e3 := Int.mul_nonneg (Int.le_of_lt v1) (show 0 ≤ -(s * Tp a b y) by omega)
    have e4 := Int.mul_nonneg (show 0 ≤ -Tp p q y by omega) (show 0 ≤ -(s * Tp a b x) by omega)
    simp only [Int.neg_mul, Int.mul_neg, Int.neg_neg] at e2 e3 e4
    refine col ?_ ?_ ?_
    · have := zz (-Tp p q y) (-(s * Tp a b x)) (by omega) (by omega) (by simp only [Int.neg_mul, Int.mul_neg, Int.neg_neg]; omega)
      omega
    · have := zz (Tp p q x) (-(s * Tp a b y)) (by omega) (by omega) (by simp only [Int.neg_mul, Int.mul_neg, Int.neg_neg]; omega)
      omega
    · exact zz (Tp x y q) _ u2 p0 (by omega)
  · have e1 := Int.mul_nonneg (show 0 ≤ -Tp x y q by omega) p0
    have e2 := Int.mul_nonneg (Int.le_of_lt u1) q0
    have e3 := Int.mul_nonneg (show 0 ≤ -Tp p q x by omega) (show 0 ≤ -(s * Tp a b y) by omega)
    have e4 := Int.mul_nonneg (Int.le_of_lt v2) (show 0 ≤ -(s * Tp a b x) by omega)
    simp only [Int.neg_mul, Int.mul_neg, Int.neg_neg] at e1 e3 e4
    refine col ?_ ?_ ?_
    · have := zz (Tp p q y) (-(s * Tp a b x)) (by omega) (by omega) (by simp only [Int.neg_mul, Int.mul_neg, Int.neg_neg]; omega)
      omega
    · have := zz (-Tp p q x) (-(s * Tp a b y)) (by omega) (by omega) (by simp only [Int.neg_mul, Int.mul_neg, Int.neg_neg]; omega)
      omega
    · exact zz (-Tp x y q) _ (by omega) p0 (by simp only [Int.neg_mul]; omega)
  · omega
end GE

set_option maxHeartbeats 1000000
namespace LPR
open DL PySem LFD
local macro_rules | `(tactic| walk_at "ev") => `(tactic| (try simp only [x_pb, x_fb, x_ba, x_ls, x_ln, x_eVar, x_bVar, x_rdF, x_rdB, x_eC, x_e2, x_e1, x_eList, x_eTup, x_nLst, x_lNil, x_lCons, x_aNil, x_aCons, x_aTape, x_isTp, x_eCal, x_nCal, x_eCall, x_eCut, x_pNone, x_pSome, x_tOf, x_bAnd, x_bOr, x_bNot, x_eIf, x_eAnd, x_eOr, x_eNot, x_eChain, x_lSeq, x_nComp, x_sNext, x_sSeq, x_atN, x_atR, x_atB, x_atC, x_sDrop, x_sRet, x_sIf, x_sAsg, x_mName, x_mSeq, x_mgNil, x_mgCons, x_sOwn, x_sFrz, x_frz, x_sApp, x_owOf, x_sSetI, x_sPar, x_sPar3, x_sFor, x_forN, x_forC, x_loN, x_loC, x_loB, x_loR, x_cN, x_cC, x_bYes, x_oR, x_oN, x_mf0, x_mf1, x_mf2, x_mf3, x_mf4, x_mf5, x_tput, x_sExt, x_nRev, v_isII, v_isBI, v_in3, v_ltDI, v_gtDI, v_leDI, v_geDI, List.getElem?_cons_zero, List.getElem?_cons_succ, List.set_cons_zero, List.set_cons_succ, List.replicate_succ, List.replicate_zero, List.cons_append, List.nil_append, List.length_cons, List.length_nil, v_sub, v_add, v_neg, v_lt, v_le, v_gt, v_ge, v_abs, v_max, v_min, v_intI, v_intB, v_lenL, v_lenT, v_tupL, v_tupT, v_listL, v_listT, v_ixL, v_ixT, v_at0, v_at1, v_at2, v_bool, v_seqL, v_seqT, v_intOf, v_ok0, v_ok1, v_ok2, v_ok3, v_ok4, v_okn, v_ok5, v_ok6, v_ok7, v_ok8, v_ok9, v_ok10, v_ok11, v_ok12, v_ok13, v_ok14, v_ok15, v_ok16, v_ok17, v_ok18, v_ok19, v_ok20, v_ok21, v_ok22, v_ok23, v_ok24, v_ok25, v_ok26, v_ok27, v_ok28, v_ok29, v_ok30, v_ok31, v_ok32, gEq_int, gNe_int, v_rng1, v_rng2, okRg, Int.reducePow, Nat.sub_self, Nat.reduceSub, Nat.reduceAdd, unAll, if_true, if_false, Option.bind_some, Option.bind_none, ite_true, ite_false, Bool.false_eq_true, rgD, Int.reduceBEq, Int.reduceToNat, Int.reduceLT, Int.reduceLE, Int.reduceMul, Int.reduceAdd, Int.reduceSub, Int.reduceNeg, Nat.reduceMul, Nat.reduceLT, Nat.reduceBEq, decide_true, decide_false, Bool.and_true, Bool.true_and, Bool.and_self, Bool.not_true, Bool.not_false, BEq.rfl, reduceIte]))
local macro_rules | `(tactic| walk_at "evt") => `(tactic| (try simp only [x_pb, x_fb, x_ba, x_ls, x_ln, x_eVar, x_bVar, x_rdF, x_rdB, x_eC, x_e2, x_e1, x_eList, x_eTup, x_nLst, x_lNil, x_lCons, x_aNil, x_aCons, x_aTape, x_isTp, x_eCal, x_nCal, x_eCall, x_eCut, x_pNone, x_pSome, x_tOf, x_bAnd, x_bOr, x_bNot, x_eIf, x_eAnd, x_eOr, x_eNot, x_eChain, x_lSeq, x_nComp, x_sNext, x_sSeq, x_atN, x_atR, x_atB, x_atC, x_sDrop, x_sRet, x_sIf, x_sAsg, x_mName, x_mSeq, x_mgNil, x_mgCons, x_sOwn, x_sFrz, x_frz, x_sApp, x_owOf, x_sSetI, x_sPar, x_sPar3, x_sFor, x_forN, x_forC, x_loN, x_loC, x_loB, x_loR, x_cN, x_cC, x_bYes, x_oR, x_oN, x_mf0, x_mf1, x_mf2, x_mf3, x_mf4, x_mf5, x_tput, x_sExt, x_nRev, v_isII, v_isBI, v_in3, v_ltDI, v_gtDI, v_leDI, v_geDI, List.getElem?_cons_zero, List.getElem?_cons_succ, List.set_cons_zero, List.set_cons_succ, List.replicate_succ, List.replicate_zero, List.cons_append, List.nil_append, List.length_cons, List.length_nil, v_sub, v_add, v_neg, v_lt, v_le, v_gt, v_ge, v_abs, v_max, v_min, v_intI, v_intB, v_lenL, v_lenT, v_tupL, v_tupT, v_listL, v_listT, v_ixL, v_ixT, v_at0, v_at1, v_at2, v_bool, v_seqL, v_seqT, v_intOf, v_ok0, v_ok1, v_ok2, v_ok3, v_ok4, v_okn, v_ok5, v_ok6, v_ok7, v_ok8, v_ok9, v_ok10, v_ok11, v_ok12, v_ok13, v_ok14, v_ok15, v_ok16, v_ok17, v_ok18, v_ok19, v_ok20, v_ok21, v_ok22, v_ok23, v_ok24, v_ok25, v_ok26, v_ok27, v_ok28, v_ok29, v_ok30, v_ok31, v_ok32, gEq_int, gNe_int, v_rng1, v_rng2, okRg, Int.reducePow, Nat.sub_self, Nat.reduceSub, Nat.reduceAdd, unAll, if_true, if_false, Option.bind_some, Option.bind_none, ite_true, ite_false, Bool.false_eq_true, rgD, Int.reduceBEq, Int.reduceToNat, Int.reduceLT, Int.reduceLE, Int.reduceMul, Int.reduceAdd, Int.reduceSub, Int.reduceNeg, Nat.reduceMul, Nat.reduceLT, Nat.reduceBEq, decide_true, decide_false, Bool.and_true, Bool.true_and, Bool.and_self, Bool.not_true, Bool.not_false, BEq.rfl, reduceIte, bnd_ap, pure_ap, lift_ap, fail_ap, ite_ap, x_tget, x_doPut, fldOf, tSet, Option.map_some, Option.map_none, beq_self_eq_true, Bool.and_true, Bool.true_and]))
local macro_rules | `(tactic| walk_at "ev1") => `(tactic| (try simp only [x_pb, x_fb, x_ba, x_ls, x_ln, x_eVar, x_bVar, x_rdF, x_rdB, x_eC, x_e2, x_e1, x_eList, x_eTup, x_nLst, x_lNil, x_lCons, x_aNil, x_aCons, x_aTape, x_isTp, x_eCal, x_nCal, x_eCall, x_eCut, x_pNone, x_pSome, x_tOf, x_bAnd, x_bOr, x_bNot, x_eIf, x_eAnd, x_eOr, x_eNot, x_eChain, x_lSeq, x_nComp, x_sNext, x_sSeq, x_atN, x_atR, x_atB, x_atC, x_sDrop, x_sRet, x_sIf, x_sAsg, x_mName, x_mSeq, x_mgNil, x_mgCons, x_sOwn, x_sFrz, x_frz, x_sApp, x_owOf, x_sSetI, x_sPar, x_sPar3, x_sFor, x_forN, x_forC, x_loN, x_loC, x_loB, x_loR, x_cN, x_cC, x_bYes, x_oR, x_oN, x_mf0, x_mf1, x_mf2, x_mf3, x_mf4, x_mf5, x_tput, x_sExt, x_nRev, v_isII, v_isBI, v_in3, v_ltDI, v_gtDI, v_leDI, v_geDI, List.getElem?_cons_zero, List.getElem?_cons_succ, List.set_cons_zero, List.set_cons_succ, List.replicate_succ, List.replicate_zero, List.cons_append, List.nil_append, List.length_cons, List.length_nil, v_sub, v_add, v_neg, v_lt, v_le, v_gt, v_ge, v_abs, v_max, v_min, v_intI, v_intB, v_lenL, v_lenT, v_tupL, v_tupT, v_listL, v_listT, v_ixL, v_ixT, v_at0, v_at1, v_at2, v_bool, v_seqL, v_seqT, v_intOf, v_ok0, v_ok1, v_ok2, v_ok3, v_ok4, v_okn, v_ok5, v_ok6, v_ok7, v_ok8, v_ok9, v_ok10, v_ok11, v_ok12, v_ok13, v_ok14, v_ok15, v_ok16, v_ok17, v_ok18, v_ok19, v_ok20, v_ok21, v_ok22, v_ok23, v_ok24, v_ok25, v_ok26, v_ok27, v_ok28, v_ok29, v_ok30, v_ok31, v_ok32, gEq_int, gNe_int, v_rng1, v_rng2, okRg, Int.reducePow, Nat.sub_self, Nat.reduceSub, Nat.reduceAdd, unAll, if_true, if_false, Option.bind_some, Option.bind_none, ite_true, ite_false, Bool.false_eq_true, rgD, Int.reduceBEq, Int.reduceToNat, Int.reduceLT, Int.reduceLE, Int.reduceMul, Int.reduceAdd, Int.reduceSub, Int.reduceNeg, Nat.reduceMul, Nat.reduceLT, Nat.reduceBEq, decide_true, decide_false, Bool.and_true, Bool.true_and, Bool.and_self, Bool.not_true, Bool.not_false, BEq.rfl, reduceIte, v_mulS, v_modS, compGo_M, compM_map, compM_filter, compM_nil, x_ebool, x_bb, x_iband, x_ibor, x_band, x_bor, Bool.or_false, Bool.false_or, Bool.and_false, Bool.false_and, x_sWhile, v_revAL, v_revAT, v_revC0, x_eRevT, abs_ite, v_any3, v_atm1, v_atm2, v_atm3, v_lastT, v_lastL, Nat.add_zero, Nat.zero_add, nc0, nc1, nc2, nc3, nc4, nc5, nc6, x_pbool, Bool.true_or, Bool.or_true]))
/-! members of the list of triangles -/
theorem triR_of {all : List Pt} {i j : Nat} {t : Pt × Pt × Pt} (h : t ∈ LTR.triR all i j) : t.1 ∈ all ∧ t.2.1 ∈ all ∧ t.2.2 ∈ all ∧ LTR.Vd all t.1 t.2.1 t.2.2 = true := by
  unfold LTR.triR at h
  split at h
  · rename_i a b ha hb
    obtain ⟨c, hc, rfl⟩ := List.mem_map.mp h
    obtain ⟨h1, h2⟩ := List.mem_filter.mp hc
    exact ⟨List.mem_of_getElem? ha, List.mem_of_getElem? hb, List.mem_of_mem_drop h1, h2⟩
  · cases h
theorem rise_at {all : List Pt} (hr : Rise all) {i j : Nat} {a b : Pt} (ha : all[i]? = some a) (hb : all[j]? = some b) (h : i < j) : lx a b = true := by
  obtain ⟨hi, rfl⟩ := List.getElem?_eq_some_iff.mp ha
  obtain ⟨hj, rfl⟩ := List.getElem?_eq_some_iff.mp hb
  exact List.pairwise_iff_getElem.mp hr i j hi hj h
theorem triR_lx {all : List Pt} (hr : Rise all) {i j : Nat} (hij : i < j) {t : Pt × Pt × Pt} (h : t ∈ LTR.triR all i j) : lx t.1 t.2.1 = true ∧ lx t.2.1 t.2.2 = true := by
  unfold LTR.triR at h
  split at h
  · rename_i a b ha hb
    obtain ⟨c, hc, rfl⟩ := List.mem_map.mp h
    obtain ⟨h1, h2⟩ := List.mem_filter.mp hc
    obtain ⟨k, hk⟩ := List.getElem?_of_mem h1
    rw [List.getElem?_drop] at hk
    exact ⟨rise_at hr ha hb hij, rise_at hr hb hk (by omega)⟩
  · cases h
theorem triJ_of {all : List Pt} (hr : Rise all) {i n : Nat} {t : Pt × Pt × Pt} (h : t ∈ LTR.triJ all i n) : (t.1 ∈ all ∧ t.2.1 ∈ all ∧ t.2.2 ∈ all ∧ LTR.Vd all t.1 t.2.1 t.2.2 = true) ∧ lx t.1 t.2.1 = true ∧ lx t.2.1 t.2.2 = true := by
  induction n with
  | zero => cases h
  | succ n ih =>
    rw [LTR.triJ] at h
    rcases List.mem_append.mp h with h | h
    · exact ih h
    · exact ⟨triR_of h, triR_lx hr (by omega) h⟩
theorem triA_of {all : List Pt} (hr : Rise all) {n : Nat} {t : Pt × Pt × Pt} (h : t ∈ LTR.triA all n) : (t.1 ∈ all ∧ t.2.1 ∈ all ∧ t.2.2 ∈ all ∧ LTR.Vd all t.1 t.2.1 t.2.2 = true) ∧ lx t.1 t.2.1 = true ∧ lx t.2.1 t.2.2 = true := by
  induction n with
  | zero => cases h
  | succ n ih =>
    rw [LTR.triA] at h
    rcases List.mem_append.mp h with h | h
    · exact ih h
    · exact triJ_of hr h
abbrev TB := BP × BP × BP
abbrev triB (t : TB) : PyData := .tuple [ptB t.1, ptB t.2.1, ptB t.2.2]
abbrev TpB (t : TB) : Int := Tp t.1.1 t.2.1.1 t.2.2.1
/-- a void triangle of the field, rising -/
structure TriOk (all : List Pt) (t : TB) : Prop where
  a : t.1.1 ∈ all
  b : t.2.1.1 ∈ all
  c : t.2.2.1 ∈ all
  vd : LTR.Vd all t.1.1 t.2.1.1 t.2.2.1 = true
  ab : lx t.1.1 t.2.1.1 = true
  bc : lx t.2.1.1 t.2.2.1 = true
theorem TriOk.ne {all : List Pt} {t : TB} (h : TriOk all t) : TpB t ≠ 0 := fun e => by
  have hv := h.vd
  unfold LTR.Vd at hv
  rw [decide_eq_true (show Tp t.1.1 t.2.1.1 t.2.2.1 = 0 from e)] at hv
  cases hv
theorem tri_typed {all : List Pt} (hb : Bd all) (hr : Rise all) : ∃ ts : List TB, ts.map triB = (LTR.triA all all.length).map LTR.tri ∧ ∀ t ∈ ts, TriOk all t := by
  refine lift_list _ fun d hd => ?_
  obtain ⟨t, ht, rfl⟩ := List.mem_map.mp hd
  obtain ⟨⟨h1, h2, h3, hv⟩, h4, h5⟩ := triA_of hr ht
  exact ⟨(⟨t.1, hb _ h1⟩, ⟨t.2.1, hb _ h2⟩, ⟨t.2.2, hb _ h3⟩), rfl, ⟨h1, h2, h3, hv, h4, h5⟩⟩
/-! how many there are at most -/
def cntJ (L i : Nat) : Nat → Nat
  | 0 => 0
  | n + 1 => cntJ L i n + (L - (i + 1 + n + 1))
def cntA (L : Nat) : Nat → Nat
  | 0 => 0
  | i + 1 => cntA L i + cntJ L i (L - (i + 1))
theorem triR_cnt (all : List Pt) (i j : Nat) : (LTR.triR all i j).length ≤ all.length - (j + 1) := by
  unfold LTR.triR
  split
  · rw [List.length_map]
    refine Nat.le_trans (List.length_filter_le _ _) ?_
    rw [List.length_drop]
    exact Nat.le_refl _
  · exact Nat.zero_le _
theorem triJ_cnt (all : List Pt) (i : Nat) : ∀ n, (LTR.triJ all i n).length ≤ cntJ all.length i n
  | 0 => Nat.le_refl _
  | n + 1 => by
    rw [LTR.triJ, List.length_append, cntJ]
    exact Nat.add_le_add (triJ_cnt all i n) (triR_cnt all i _)
theorem triA_cnt (all : List Pt) : ∀ i, (LTR.triA all i).length ≤ cntA all.length i
  | 0 => Nat.le_refl _
  | i + 1 => by
    rw [LTR.triA, List.length_append, cntA]
    exact Nat.add_le_add (triA_cnt all i) (triJ_cnt all i _)
theorem cnt12 : ∀ L : Nat, L ≤ 12 → cntA L L ≤ 220 := by decide
theorem cnt16 : ∀ L : Nat, L ≤ 16 → cntA L L ≤ 560 := by decide
/-! equality of triangles -/
theorem eqv_tri (t u : TB) : PyData.eqv (triB t) (triB u) = decide (t = u) := by
  show (PyData.eqv (ptK t.1.1) (ptK u.1.1) && (PyData.eqv (ptK t.2.1.1) (ptK u.2.1.1) && (PyData.eqv (ptK t.2.2.1) (ptK u.2.2.1) && true))) = _
  rw [eqv_pt, eqv_pt, eqv_pt, Bool.and_true]
  obtain ⟨a, b, c⟩ := t
  obtain ⟨d, e, f⟩ := u
  rw [Bool.eq_iff_iff]
  simp only [Bool.and_eq_true, decide_eq_true_eq, Prod.mk.injEq, Subtype.ext_iff]
theorem v_eqTri {t u : TB} : gEq (triB t) (triB u) = some (.bool (decide (t = u))) := by
  show (if SeqAt.shaped (triB t) && SeqAt.shaped (triB u) then some (PyData.bool (PyData.eqv (triB t) (triB u))) else none) = _
  rw [eqv_tri]
  rfl
/-! cross, over -/
def Crb (a b c d : Pt) : Bool := decide (Sd a b c * Sd a b d < 0) && decide (Sd c d a * Sd c d b < 0)
theorem sg_mul (x y : Int) : sg x * sg y < 0 ↔ x * y < 0 := by
  rcases sg_cases x with ⟨h1, e1⟩ | ⟨h1, e1⟩ | ⟨h1, e1⟩ <;> rcases sg_cases y with ⟨h2, e2⟩ | ⟨h2, e2⟩ | ⟨h2, e2⟩ <;> rw [e1, e2]
  · have := Int.mul_pos h1 h2; omega
  · rw [h2, Int.mul_zero]; omega
  · have := Int.mul_neg_of_pos_of_neg h1 h2; omega
  · rw [h1, Int.zero_mul]; omega
  · rw [h1, Int.zero_mul]; omega
  · rw [h1, Int.zero_mul]; omega
  · have := Int.mul_neg_of_neg_of_pos h1 h2; omega
  · rw [h2, Int.mul_zero]; omega
  · have := Int.mul_pos_of_neg_of_neg h1 h2; omega
theorem Crb_iff {a b c d : Pt} : Crb a b c d = true ↔ GE.Cx a b c d := by
  unfold Crb GE.Cx
  rw [Bool.and_eq_true, decide_eq_true_eq, decide_eq_true_eq, sg_mul, sg_mul]
local macro_rules | `(tactic| walk_at "ev2") => `(tactic| (try simp only [x_pb, x_fb, x_ba, x_ls, x_ln, x_eVar, x_bVar, x_rdF, x_rdB, x_eC, x_e2, x_e1, x_eList, x_eTup, x_nLst, x_lNil, x_lCons, x_aNil, x_aCons, x_aTape, x_isTp, x_eCal, x_nCal, x_eCall, x_eCut, x_pNone, x_pSome, x_tOf, x_bAnd, x_bOr, x_bNot, x_eIf, x_eAnd, x_eOr, x_eNot, x_eChain, x_lSeq, x_nComp, x_sNext, x_sSeq, x_atN, x_atR, x_atB, x_atC, x_sDrop, x_sRet, x_sIf, x_sAsg, x_mName, x_mSeq, x_mgNil, x_mgCons, x_sOwn, x_sFrz, x_frz, x_sApp, x_owOf, x_sSetI, x_sPar, x_sPar3, x_sFor, x_forN, x_forC, x_loN, x_loC, x_loB, x_loR, x_cN, x_cC, x_bYes, x_oR, x_oN, x_mf0, x_mf1, x_mf2, x_mf3, x_mf4, x_mf5, x_tput, x_sExt, x_nRev, v_isII, v_isBI, v_in3, v_ltDI, v_gtDI, v_leDI, v_geDI, List.getElem?_cons_zero, List.getElem?_cons_succ, List.set_cons_zero, List.set_cons_succ, List.replicate_succ, List.replicate_zero, List.cons_append, List.nil_append, List.length_cons, List.length_nil, v_sub, v_add, v_neg, v_lt, v_le, v_gt, v_ge, v_abs, v_max, v_min, v_intI, v_intB, v_lenL, v_lenT, v_tupL, v_tupT, v_listL, v_listT, v_ixL, v_ixT, v_at0, v_at1, v_at2, v_bool, v_seqL, v_seqT, v_intOf, v_ok0, v_ok1, v_ok2, v_ok3, v_ok4, v_okn, v_ok5, v_ok6, v_ok7, v_ok8, v_ok9, v_ok10, v_ok11, v_ok12, v_ok13, v_ok14, v_ok15, v_ok16, v_ok17, v_ok18, v_ok19, v_ok20, v_ok21, v_ok22, v_ok23, v_ok24, v_ok25, v_ok26, v_ok27, v_ok28, v_ok29, v_ok30, v_ok31, v_ok32, gEq_int, gNe_int, v_rng1, v_rng2, okRg, Int.reducePow, Nat.sub_self, Nat.reduceSub, Nat.reduceAdd, unAll, if_true, if_false, Option.bind_some, Option.bind_none, ite_true, ite_false, Bool.false_eq_true, rgD, Int.reduceBEq, Int.reduceToNat, Int.reduceLT, Int.reduceLE, Int.reduceMul, Int.reduceAdd, Int.reduceSub, Int.reduceNeg, Nat.reduceMul, Nat.reduceLT, Nat.reduceBEq, decide_true, decide_false, Bool.and_true, Bool.true_and, Bool.and_self, Bool.not_true, Bool.not_false, BEq.rfl, reduceIte, v_mulS, v_modS, compGo_M, compM_map, compM_filter, compM_nil, x_ebool, x_bb, x_iband, x_ibor, x_band, x_bor, Bool.or_false, Bool.false_or, Bool.and_false, Bool.false_and, x_sWhile, v_revAL, v_revAT, v_revC0, x_eRevT, abs_ite, v_any3, v_atm1, v_atm2, v_atm3, v_lastT, v_lastL, Nat.add_zero, Nat.zero_add, nc0, nc1, nc2, nc3, nc4, nc5, nc6, x_pbool, Bool.true_or, Bool.or_true, side_eq]))
theorem cross_eq (a b c d : BP) : m_cross [.fz (.tuple [ptB a, ptB b]), .fz (.tuple [ptB c, ptB d])] = pure (.bool (Crb a.1 b.1 c.1 d.1)) := by
  unfold m_cross Crb
  walk_at "ev2"
theorem sides_eq (t : TB) : m_sides_of [.fz (triB t)] = pure (.list [.tuple [ptB t.1, ptB t.2.1], .tuple [ptB t.1, ptB t.2.2], .tuple [ptB t.2.1, ptB t.2.2]]) := by
  unfold m_sides_of
  walk_at "ev2"
local macro_rules | `(tactic| walk_at "ev3") => `(tactic| (try simp only [x_pb, x_fb, x_ba, x_ls, x_ln, x_eVar, x_bVar, x_rdF, x_rdB, x_eC, x_e2, x_e1, x_eList, x_eTup, x_nLst, x_lNil, x_lCons, x_aNil, x_aCons, x_aTape, x_isTp, x_eCal, x_nCal, x_eCall, x_eCut, x_pNone, x_pSome, x_tOf, x_bAnd, x_bOr, x_bNot, x_eIf, x_eAnd, x_eOr, x_eNot, x_eChain, x_lSeq, x_nComp, x_sNext, x_sSeq, x_atN, x_atR, x_atB, x_atC, x_sDrop, x_sRet, x_sIf, x_sAsg, x_mName, x_mSeq, x_mgNil, x_mgCons, x_sOwn, x_sFrz, x_frz, x_sApp, x_owOf, x_sSetI, x_sPar, x_sPar3, x_sFor, x_forN, x_forC, x_loN, x_loC, x_loB, x_loR, x_cN, x_cC, x_bYes, x_oR, x_oN, x_mf0, x_mf1, x_mf2, x_mf3, x_mf4, x_mf5, x_tput, x_sExt, x_nRev, v_isII, v_isBI, v_in3, v_ltDI, v_gtDI, v_leDI, v_geDI, List.getElem?_cons_zero, List.getElem?_cons_succ, List.set_cons_zero, List.set_cons_succ, List.replicate_succ, List.replicate_zero, List.cons_append, List.nil_append, List.length_cons, List.length_nil, v_sub, v_add, v_neg, v_lt, v_le, v_gt, v_ge, v_abs, v_max, v_min, v_intI, v_intB, v_lenL, v_lenT, v_tupL, v_tupT, v_listL, v_listT, v_ixL, v_ixT, v_at0, v_at1, v_at2, v_bool, v_seqL, v_seqT, v_intOf, v_ok0, v_ok1, v_ok2, v_ok3, v_ok4, v_okn, v_ok5, v_ok6, v_ok7, v_ok8, v_ok9, v_ok10, v_ok11, v_ok12, v_ok13, v_ok14, v_ok15, v_ok16, v_ok17, v_ok18, v_ok19, v_ok20, v_ok21, v_ok22, v_ok23, v_ok24, v_ok25, v_ok26, v_ok27, v_ok28, v_ok29, v_ok30, v_ok31, v_ok32, gEq_int, gNe_int, v_rng1, v_rng2, okRg, Int.reducePow, Nat.sub_self, Nat.reduceSub, Nat.reduceAdd, unAll, if_true, if_false, Option.bind_some, Option.bind_none, ite_true, ite_false, Bool.false_eq_true, rgD, Int.reduceBEq, Int.reduceToNat, Int.reduceLT, Int.reduceLE, Int.reduceMul, Int.reduceAdd, Int.reduceSub, Int.reduceNeg, Nat.reduceMul, Nat.reduceLT, Nat.reduceBEq, decide_true, decide_false, Bool.and_true, Bool.true_and, Bool.and_self, Bool.not_true, Bool.not_false, BEq.rfl, reduceIte, v_mulS, v_modS, compGo_M, compM_map, compM_filter, compM_nil, x_ebool, x_bb, x_iband, x_ibor, x_band, x_bor, Bool.or_false, Bool.false_or, Bool.and_false, Bool.false_and, x_sWhile, v_revAL, v_revAT, v_revC0, x_eRevT, abs_ite, v_any3, v_atm1, v_atm2, v_atm3, v_lastT, v_lastL, Nat.add_zero, Nat.zero_add, nc0, nc1, nc2, nc3, nc4, nc5, nc6, x_pbool, Bool.true_or, Bool.or_true, side_eq, cross_eq, sides_eq, v_eqTri]))
def sdl (t : TB) : List (Pt × Pt) := [(t.1.1, t.2.1.1), (t.1.1, t.2.2.1), (t.2.1.1, t.2.2.1)]
def Ov (t u : TB) : Bool := decide (t = u) || (sdl t).any fun p => (sdl u).any fun q => Crb p.1 p.2 q.1 q.2
theorem over_eq (t u : TB) : m_over [.fz (triB t), .fz (triB u)] = pure (.bool (Ov t u)) := by
  unfold m_over Ov
  walk_at "ev3"
  cases decide (t = u) with
  | true =>
    walk_at "ev3"
    try rfl
  | false =>
    walk_at "ev3"
    simp only [sdl, List.any_cons, List.any_nil, Bool.or_false]
/-! over, by sides that part -/
/-- the hand of a triangle -/
def hnd (a b c : Pt) : Int := if decide (0 < Tp a b c) = true then 1 else -1
theorem hnd_pos {a b c : Pt} (h : Tp a b c ≠ 0) : 0 < hnd a b c * Tp a b c := by
  unfold hnd
  by_cases q : 0 < Tp a b c
  · rw [decide_eq_true q, if_pos rfl]; omega
  · rw [decide_eq_false q, if_neg (by decide)]; omega
theorem hnd_one (a b c : Pt) : hnd a b c = 1 ∨ hnd a b c = -1 := by
  unfold hnd
  split
  · exact .inl rfl
  · exact .inr rfl
theorem hnd_rot (a b c : Pt) : hnd b c a = hnd a b c := by unfold hnd; rw [LTR.tp_rot]
theorem out_of {all : List Pt} {t : TB} (h : TriOk all t) {p : Pt} (hp : p ∈ all) : GE.Out (hnd t.1.1 t.2.1.1 t.2.2.1) t.1.1 t.2.1.1 t.2.2.1 p := by
  have hv := h.vd
  unfold LTR.Vd at hv
  rw [Bool.and_eq_true, Bool.not_eq_true', Bool.not_eq_true', List.any_eq_false] at hv
  have := hv.2 p hp
  unfold LTR.Inn at this
  rw [Bool.and_eq_true, Bool.not_eq_true', decide_eq_false_iff_not, decide_eq_true_eq] at this
  by_cases hm : p ∈ [t.1.1, t.2.1.1, t.2.2.1]
  · simp only [List.mem_cons, List.not_mem_nil, or_false] at hm
    exact .inl hm
  · right
    apply Classical.byContradiction
    intro hn
    apply this
    refine ⟨hm, ?_⟩
    have sum : Tp t.1.1 t.2.1.1 p + Tp t.2.1.1 t.2.2.1 p + Tp t.2.2.1 t.1.1 p = Tp t.1.1 t.2.1.1 t.2.2.1 := by unfold Tp; grind
    rcases hnd_one t.1.1 t.2.1.1 t.2.2.1 with e | e <;> rw [e] at hn <;> omega
/-- the side a b of a triangle a b c parts it from u -/
def Part (a b c : Pt) (u : TB) : Bool := !(decide (0 < Tp a b u.1.1 * hnd a b c) || (decide (0 < Tp a b u.2.1.1 * hnd a b c) || decide (0 < Tp a b u.2.2.1 * hnd a b c)))
def Parts (t u : TB) : Bool := Part t.2.1.1 t.2.2.1 t.1.1 u || (Part t.2.2.1 t.1.1 t.2.1.1 u || Part t.1.1 t.2.1.1 t.2.2.1 u)
theorem lx_irr {a : Pt} : lx a a = false := by rw [lx_no]; omega
theorem same_of {all : List Pt} {t u : TB} (ht : TriOk all t) (hu : TriOk all u) (h : ((u.1.1 = t.1.1 ∨ u.1.1 = t.2.1.1 ∨ u.1.1 = t.2.2.1) ∧ (u.2.1.1 = t.1.1 ∨ u.2.1.1 = t.2.1.1 ∨ u.2.1.1 = t.2.2.1) ∧ (u.2.2.1 = t.1.1 ∨ u.2.2.1 = t.2.1.1 ∨ u.2.2.1 = t.2.2.1))) : t = u := by
  have a1 := lx_iff.mp ht.ab
  have a2 := lx_iff.mp ht.bc
  have b1 := lx_iff.mp hu.ab
  have b2 := lx_iff.mp hu.bc
  obtain ⟨a, b, c⟩ := t
  obtain ⟨d, e, f⟩ := u
  dsimp only at *
  obtain ⟨h1, h2, h3⟩ := h
  have : d.1 = a.1 ∧ e.1 = b.1 ∧ f.1 = c.1 := by
    rcases h1 with h1 | h1 | h1 <;> rcases h2 with h2 | h2 | h2 <;> rcases h3 with h3 | h3 | h3 <;> first | exact ⟨h1, h2, h3⟩ | (exfalso; rw [h1, h2] at b1; rw [h2, h3] at b2; omega)
  rw [Prod.mk.injEq, Prod.mk.injEq]
  exact ⟨Subtype.ext this.1.symm, Subtype.ext this.2.1.symm, Subtype.ext this.2.2.symm⟩
theorem part_no {a b c : Pt} {u : TB} : Part a b c u = false ↔ (0 < hnd a b c * Tp a b u.1.1 ∨ 0 < hnd a b c * Tp a b u.2.1.1 ∨ 0 < hnd a b c * Tp a b u.2.2.1) := by
  unfold Part
  rw [Bool.not_eq_false', Bool.or_eq_true, Bool.or_eq_true, decide_eq_true_eq, decide_eq_true_eq, decide_eq_true_eq, Int.mul_comm (Tp a b u.1.1), Int.mul_comm (Tp a b u.2.1.1), Int.mul_comm (Tp a b u.2.2.1)]
theorem parts_no {t u : TB} : Parts t u = false ↔ ∀ g ∈ GE.fs (hnd t.1.1 t.2.1.1 t.2.2.1) t.1.1 t.2.1.1 t.2.2.1, 0 < g (GE.emb u.1.1) ∨ 0 < g (GE.emb u.2.1.1) ∨ 0 < g (GE.emb u.2.2.1) := by
  unfold Parts
  rw [Bool.or_eq_false_iff, Bool.or_eq_false_iff, part_no, part_no, part_no, hnd_rot t.1.1 t.2.1.1 t.2.2.1, hnd_rot t.2.1.1 t.2.2.1 t.1.1, hnd_rot t.1.1 t.2.1.1 t.2.2.1]
  constructor
  · intro ⟨h1, h2, h3⟩ g hg
    simp only [GE.fs, List.mem_cons, List.not_mem_nil, or_false] at hg
    rcases hg with rfl | rfl | rfl
    · simp only [GE.F_emb]; exact h3
    · simp only [GE.F_emb]; exact h1
    · simp only [GE.F_emb]; exact h2
  · intro h
    have h1 := h _ (List.mem_cons_self ..)
    have h2 := h _ (List.mem_cons_of_mem _ (List.mem_cons_self ..))
    have h3 := h _ (List.mem_cons_of_mem _ (List.mem_cons_of_mem _ (List.mem_cons_self ..)))
    simp only [GE.F_emb] at h1 h2 h3
    exact ⟨h2, h3, h1⟩
theorem parts_self {all : List Pt} {t : TB} (h : TriOk all t) : Parts t t = false := by
  rw [parts_no]
  have D := hnd_pos h.ne
  intro g hg
  simp only [GE.fs, List.mem_cons, List.not_mem_nil, or_false] at hg
  rcases hg with rfl | rfl | rfl
  · simp only [GE.F_emb]; exact .inr (.inr D)
  · simp only [GE.F_emb]; exact .inl (by rw [LTR.tp_rot t.1.1 t.2.1.1 t.2.2.1]; exact D)
  · simp only [GE.F_emb]; exact .inr (.inl (by rw [LTR.tp_rot t.2.1.1 t.2.2.1 t.1.1, LTR.tp_rot t.1.1 t.2.1.1 t.2.2.1]; exact D))
theorem cx_parts {all : List Pt} {t u : TB} (ht : TriOk all t) {p q : Pt × Pt} (hp : p ∈ sdl t) (hq : q ∈ sdl u) (h : GE.Cx p.1 p.2 q.1 q.2) : Parts t u = false := by
  have D := hnd_pos ht.ne
  have mp : (p.1 = t.1.1 ∨ p.1 = t.2.1.1 ∨ p.1 = t.2.2.1) ∧ (p.2 = t.1.1 ∨ p.2 = t.2.1.1 ∨ p.2 = t.2.2.1) := by
    simp only [sdl, List.mem_cons, List.not_mem_nil, or_false] at hp
    rcases hp with rfl | rfl | rfl <;> simp
  have mq : (q.1 = u.1.1 ∨ q.1 = u.2.1.1 ∨ q.1 = u.2.2.1) ∧ (q.2 = u.1.1 ∨ q.2 = u.2.1.1 ∨ q.2 = u.2.2.1) := by
    simp only [sdl, List.mem_cons, List.not_mem_nil, or_false] at hq
    rcases hq with rfl | rfl | rfl <;> simp
  have key : ∀ a b c : Pt, 0 < hnd t.1.1 t.2.1.1 t.2.2.1 * Tp a b c → ((p.1 = a ∨ p.1 = b ∨ p.1 = c) ∧ (p.2 = a ∨ p.2 = b ∨ p.2 = c)) → (0 < hnd t.1.1 t.2.1.1 t.2.2.1 * Tp a b u.1.1 ∨ 0 < hnd t.1.1 t.2.1.1 t.2.2.1 * Tp a b u.2.1.1 ∨ 0 < hnd t.1.1 t.2.1.1 t.2.2.1 * Tp a b u.2.2.1) := fun a b c D hp => by
    rcases GE.not_parted D h hp with z | z
    · rcases mq.1 with e | e | e <;> rw [e] at z <;> simp [z]
    · rcases mq.2 with e | e | e <;> rw [e] at z <;> simp [z]
  rw [parts_no]
  intro g hg
  simp only [GE.fs, List.mem_cons, List.not_mem_nil, or_false] at hg
  have rotm : ∀ {x a b c : Pt}, (x = a ∨ x = b ∨ x = c) → (x = b ∨ x = c ∨ x = a) := fun h => by
    rcases h with h | h | h <;> simp [h]
  rcases hg with rfl | rfl | rfl
  · simp only [GE.F_emb]; exact key _ _ _ D mp
  · simp only [GE.F_emb]; exact key _ _ t.1.1 (by rw [LTR.tp_rot]; exact D) ⟨rotm mp.1, rotm mp.2⟩
  · simp only [GE.F_emb]; exact key _ _ t.2.1.1 (by rw [LTR.tp_rot, LTR.tp_rot]; exact D) ⟨rotm (rotm mp.1), rotm (rotm mp.2)⟩
theorem ov_parts {all : List Pt} {t u : TB} (ht : TriOk all t) (hu : TriOk all u) : Ov t u = (!Parts t u && !Parts u t) := by
  rw [Bool.eq_iff_iff, Bool.and_eq_true, Bool.not_eq_true', Bool.not_eq_true']
  unfold Ov
  rw [Bool.or_eq_true, decide_eq_true_eq, List.any_eq_true]
  constructor
  · intro h
    rcases h with rfl | ⟨p, hp, h⟩
    · exact ⟨parts_self ht, parts_self ht⟩
    · obtain ⟨q, hq, h⟩ := List.any_eq_true.mp h
      have cx := Crb_iff.mp h
      exact ⟨cx_parts ht hp hq cx, cx_parts hu hq hp cx.symm⟩
  · intro ⟨h1, h2⟩
    have := GE.crosses (hnd_pos ht.ne) (hnd_pos hu.ne) (parts_no.mp h1) (parts_no.mp h2) (out_of hu ht.a) (out_of hu ht.b) (out_of hu ht.c) (out_of ht hu.a) (out_of ht hu.b) (out_of ht hu.c)
    rcases this with h | ⟨p, hp, q, hq, h⟩
    · exact .inl (same_of ht hu h)
    · exact .inr ⟨p, hp, List.any_eq_true.mpr ⟨q, hq, Crb_iff.mpr h⟩⟩
theorem Rpb.tri (t : TB) : Rpb (triB t) 2 71 := by
  have p1 := Rpb.pt t.1.2
  have p2 := Rpb.pt t.2.1.2
  have p3 := Rpb.pt t.2.2.2
  refine ⟨?_, ?_, ?_⟩
  · rw [leafOk, leafOkA, leafOkA, leafOkA, leafOkA, p1.leaf, p2.leaf, p3.leaf]; rfl
  · exact Nat.le_of_eq rfl
  · rw [PyData.weight, PyData.weightAll, PyData.weightAll, PyData.weightAll, PyData.weightAll]
    have : (ptB t.1).weight ≤ 22 := p1.wt
    have : (ptB t.2.1).weight ≤ 22 := p2.wt
    have : (ptB t.2.2).weight ≤ 22 := p3.wt
    omega
end LPR

set_option maxHeartbeats 1000000
/-! plane geometry: the chain of a sorted row -/
namespace HU
open DL LFD
def cr (u v : Pt) : Int := u.1 * v.2 - u.2 * v.1
def lpos (u : Pt) : Prop := 0 < u.1 ∨ (u.1 = 0 ∧ 0 < u.2)
def sb (a b : Pt) : Pt := (b.1 - a.1, b.2 - a.2)
theorem lpos_of {a b : Pt} (h : lx a b = true) : lpos (sb a b) := by
  have := lx_iff.mp h
  unfold lpos sb
  dsimp only
  omega
theorem tp_cr (a b c : Pt) : Tp a b c = cr (sb a b) (sb a c) := by unfold Tp cr sb; grind
theorem cr_le {u v z : Pt} (hu : lpos u) (hv : lpos v) (hz : lpos z) (h1 : 0 ≤ cr u v) (h2 : 0 ≤ cr v z) : 0 ≤ cr u z := by
  have id : v.1 * cr u z = u.1 * cr v z + z.1 * cr u v := by unfold cr; grind
  unfold lpos at hu hv hz
  rcases hv with hv | ⟨hv, hv2⟩
  · have a1 := Int.mul_nonneg (show 0 ≤ u.1 by omega) h2
    have a2 := Int.mul_nonneg (show 0 ≤ z.1 by omega) h1
    apply Classical.byContradiction
    intro hn
    have := Int.mul_pos hv (show 0 < -cr u z by omega)
    rw [Int.mul_neg] at this
    omega
  · have e : cr v z = -(v.2 * z.1) := by unfold cr; rw [hv]; grind
    have z0 : z.1 = 0 := by
      apply Classical.byContradiction
      intro hn
      have := Int.mul_pos hv2 (show 0 < z.1 by omega)
      omega
    have e2 : cr u z = u.1 * z.2 := by unfold cr; rw [z0]; grind
    rw [e2]
    exact Int.mul_nonneg (by omega) (by omega)
theorem cr_lt {b d e : Pt} (hb : lpos b) (hd : lpos d) (he : lpos e) (h1 : 0 < cr b d) (h2 : 0 ≤ cr d e) : 0 < cr b e := by
  have id : d.1 * cr b e = b.1 * cr d e + e.1 * cr b d := by unfold cr; grind
  unfold lpos at hb hd he
  rcases hd with hd | ⟨hd, hd2⟩
  · have b1 : 0 < b.1 := by
      apply Classical.byContradiction
      intro hn
      have b0 : b.1 = 0 := by omega
      have e1 : cr b d = -(b.2 * d.1) := by unfold cr; rw [b0]; grind
      have := Int.mul_pos (show 0 < b.2 by omega) hd
      omega
    rcases he with he | ⟨he, he2⟩
    · have a1 := Int.mul_nonneg (Int.le_of_lt b1) h2
      have a2 := Int.mul_pos he h1
      apply Classical.byContradiction
      intro hn
      have := Int.mul_nonneg (Int.le_of_lt hd) (show 0 ≤ -cr b e by omega)
      rw [Int.mul_neg] at this
      omega
    · have e2 : cr b e = b.1 * e.2 := by unfold cr; rw [he]; grind
      rw [e2]
      exact Int.mul_pos b1 he2
  · have e1 : cr b d = b.1 * d.2 := by unfold cr; rw [hd]; grind
    have b1 : 0 < b.1 := by
      apply Classical.byContradiction
      intro hn
      have b0 : b.1 = 0 := by omega
      rw [e1, b0, Int.zero_mul] at h1
      omega
    have e3 : cr d e = -(d.2 * e.1) := by unfold cr; rw [hd]; grind
    have e0 : e.1 = 0 := by
      apply Classical.byContradiction
      intro hn
      have := Int.mul_pos hd2 (show 0 < e.1 by omega)
      omega
    have e2 : cr b e = b.1 * e.2 := by unfold cr; rw [e0]; grind
    rw [e2]
    exact Int.mul_pos b1 (by omega)
/-! ### the chain -/
def pops (q : Pt) : List Pt → List Pt
  | y :: x :: r => if Tp x y q < 0 then pops q (x :: r) else y :: x :: r
  | [y] => [y]
  | [] => []
def chR (l : List Pt) : List Pt := l.foldl (fun st q => q :: pops q st) []
def chain (l : List Pt) : List Pt := (chR l).reverse
structure EdgeOk (pre : List Pt) (x y : Pt) : Prop where
  lt : lx x y = true
  ge : ∀ p ∈ pre, 0 ≤ Tp x y p
  gt : ∀ p ∈ pre, lx x p = true → lx p y = true → 0 < Tp x y p
def Adj (R : Pt → Pt → Prop) : List Pt → Prop
  | x :: y :: r => R x y ∧ Adj R (y :: r)
  | _ => True
theorem Adj.tail {R : Pt → Pt → Prop} {x : Pt} {l : List Pt} (h : Adj R (x :: l)) : Adj R l := by
  cases l with
  | nil => trivial
  | cons y r => exact h.2
theorem Adj.imp {R S : Pt → Pt → Prop} : ∀ {l : List Pt}, (∀ x ∈ l, ∀ y ∈ l, R x y → S x y) → Adj R l → Adj S l
  | [], _, _ => trivial
  | [_], _, _ => trivial
  | x :: y :: r, h, a => ⟨h x (by simp) y (by simp) a.1, Adj.imp (fun u hu v hv => h u (List.mem_cons_of_mem _ hu) v (List.mem_cons_of_mem _ hv)) a.2⟩
theorem Adj.and {R S : Pt → Pt → Prop} : ∀ {l : List Pt}, Adj R l → Adj S l → Adj (fun x y => R x y ∧ S x y) l
  | [], _, _ => trivial
  | [_], _, _ => trivial
  | x :: y :: r, a, b => ⟨⟨a.1, b.1⟩, Adj.and a.2 b.2⟩
/-- deeper edges have q to the left too -/
theorem deeper {pre : List Pt} {q : Pt} : ∀ {st : List Pt} {y x : Pt}, Adj (fun y x => EdgeOk pre x y) (y :: x :: st) → (∀ p ∈ y :: x :: st, p ∈ pre) → lx y q = true → 0 ≤ Tp x y q → Adj (fun y x => 0 ≤ Tp x y q) (y :: x :: st)
  | [], y, x, _, _, _, h => ⟨h, trivial⟩
  | w :: st, y, x, a, hm, hq, h => by
    obtain ⟨e1, e2, e3⟩ := a
    have hxq : lx x q = true := by
      have h1 := lx_iff.mp e1.lt
      have h2 := lx_iff.mp hq
      rw [lx_iff]
      omega
    have k : 0 ≤ Tp w x q := by
      have g1 : 0 ≤ Tp w x y := e2.ge y (hm y (by simp))
      have l1 := lpos_of e2.lt
      have l2 := lpos_of e1.lt
      have l3 := lpos_of hq
      have c1 : cr (sb w x) (sb x y) = Tp w x y := by unfold Tp cr sb; grind
      have c2 : cr (sb x y) (sb y q) = Tp x y q := by unfold Tp cr sb; grind
      have := cr_le l1 l2 l3 (by rw [c1]; exact g1) (by rw [c2]; exact h)
      have c3 : Tp w x q = Tp w x y + cr (sb w x) (sb y q) := by unfold Tp cr sb; grind
      omega
    exact ⟨h, deeper ⟨e2, e3⟩ (fun p hp => hm p (List.mem_cons_of_mem _ hp)) hxq k⟩
structure PopOk (pre st : List Pt) (q : Pt) (y : Pt) (r : List Pt) : Prop where
  adj : Adj (fun y x => EdgeOk pre x y) (y :: r)
  nn : Adj (fun y x => 0 ≤ Tp x y q) (y :: r)
  mem : ∀ p ∈ y :: r, p ∈ pre
  last : (y :: r).getLast? = st.getLast?
  top : st.head? = some y ∨ ∃ s ∈ pre, EdgeOk pre y s ∧ Tp y s q < 0
theorem pops_ok {pre : List Pt} {q : Pt} (hq : ∀ p ∈ pre, lx p q = true) : ∀ {st : List Pt}, st ≠ [] → Adj (fun y x => EdgeOk pre x y) st → (∀ p ∈ st, p ∈ pre) → ∃ y r, pops q st = y :: r ∧ PopOk pre st q y r
  | [], h, _, _ => absurd rfl h
  | [y], _, _, hm => ⟨y, [], rfl, ⟨trivial, trivial, hm, rfl, .inl rfl⟩⟩
  | y :: x :: st, _, a, hm => by
    rw [pops]
    by_cases h : Tp x y q < 0
    · rw [if_pos h]
      obtain ⟨y', r, e, ok⟩ := pops_ok hq (st := x :: st) (by simp) a.2 fun p hp => hm p (List.mem_cons_of_mem _ hp)
      refine ⟨y', r, e, ⟨ok.adj, ok.nn, ok.mem, by rw [ok.last, List.getLast?_cons_cons], .inr ?_⟩⟩
      rcases ok.top with t | t
      · cases t
        exact ⟨y, hm y (by simp), a.1, h⟩
      · exact t
    · rw [if_neg h]
      exact ⟨y, x :: st, rfl, ⟨a, deeper a hm (hq y (hm y (by simp))) (by omega), hm, rfl, .inl rfl⟩⟩
structure StOk (pre st : List Pt) : Prop where
  adj : Adj (fun y x => EdgeOk pre x y) st
  mem : ∀ p ∈ st, p ∈ pre
  top : st.head? = pre.getLast?
  bot : st.getLast? = pre.head?
theorem rise_last {pre : List Pt} (hr : Rise pre) {y p : Pt} (hy : pre.getLast? = some y) (hp : p ∈ pre) : lx y p = false := by
  obtain ⟨ys, rfl⟩ := List.getLast?_eq_some_iff.mp hy
  rcases List.mem_append.mp hp with h | h
  · have := (List.pairwise_append.mp hr).2.2 p h y (by simp)
    rw [lx_iff] at this
    rw [lx_no]
    omega
  · rw [List.mem_singleton.mp h, lx_no]; omega
theorem rise_head {pre : List Pt} (hr : Rise pre) {y p : Pt} (hy : pre.head? = some y) (hp : p ∈ pre) : lx p y = false := by
  cases pre with
  | nil => cases hy
  | cons z r =>
    cases hy
    rcases List.mem_cons.mp hp with h | h
    · rw [h, lx_no]; omega
    · have := (List.pairwise_cons.mp hr).1 p h
      rw [lx_iff] at this
      rw [lx_no]
      omega
theorem step_ok {pre st : List Pt} {q : Pt} (hr : Rise (pre ++ [q])) (h : StOk pre st) : StOk (pre ++ [q]) (q :: pops q st) := by
  have hrp : Rise pre := (List.pairwise_append.mp hr).1
  have hq : ∀ p ∈ pre, lx p q = true := fun p hp => (List.pairwise_append.mp hr).2.2 p hp q (by simp)
  have irr : ∀ p : Pt, lx p p = false := fun p => by rw [lx_no]; omega
  have asym : ∀ {a b : Pt}, lx a b = true → lx b a = true → False := fun {a b} h1 h2 => by
    rw [lx_iff] at h1 h2
    omega
  by_cases e0 : st = []
  · subst e0
    have : pre = [] := by
      have := h.top
      cases pre with
      | nil => rfl
      | cons a l => exact absurd (List.getLast?_eq_none_iff.mp this.symm) (by simp)
    subst this
    exact ⟨trivial, fun p hp => by simpa [pops] using hp, rfl, rfl⟩
  · obtain ⟨y, r, e, ok⟩ := pops_ok hq e0 h.adj h.mem
    rw [e]
    have hyp : y ∈ pre := ok.mem y (by simp)
    have hyq := hq y hyp
    have new : EdgeOk (pre ++ [q]) y q := by
      have zz : Tp y q q = 0 := by unfold Tp; grind
      have main : ∀ p ∈ pre, 0 ≤ Tp y q p ∧ (lx y p = true → 0 < Tp y q p) := fun p hp => by
        have lq := lpos_of hyq
        rcases (show lx p y = true ∨ p = y ∨ lx y p = true by
          by_cases e : p = y
          · exact .inr (.inl e)
          · rw [lx_iff, lx_iff]
            have : p.1 ≠ y.1 ∨ p.2 ≠ y.2 := by
              apply Classical.byContradiction
              intro hn
              exact e (Prod.ext (by omega) (by omega))
            omega) with hpy | hpy | hpy
        · refine ⟨?_, fun h2 => (asym hpy h2).elim⟩
          cases r with
          | nil =>
            have hl := ok.last
            rw [List.getLast?_singleton, h.bot] at hl
            have := rise_head hrp hl.symm hp
            rw [this] at hpy
            cases hpy
          | cons x r' =>
            have ed := ok.adj.1
            have l1 := lpos_of hpy
            have l2 := lpos_of ed.lt
            have g1 := ed.ge p hp
            have g2 := ok.nn.1
            have c1 : cr (sb p y) (sb x y) = Tp x y p := by unfold Tp cr sb; grind
            have c2 : cr (sb x y) (sb y q) = Tp x y q := by unfold Tp cr sb; grind
            have := cr_le l1 l2 lq (by rw [c1]; exact g1) (by rw [c2]; exact g2)
            have c3 : cr (sb p y) (sb y q) = Tp y q p := by unfold Tp cr sb; grind
            rw [c3] at this
            exact this
        · subst hpy
          exact ⟨by rw [show Tp p q p = 0 by unfold Tp; grind]; exact Int.le_refl _, fun h2 => by rw [irr] at h2; cases h2⟩
        · have : 0 < Tp y q p := by
            rcases ok.top with t | ⟨s, hs, ed, hneg⟩
            · rw [h.top] at t
              have := rise_last hrp t hp
              rw [this] at hpy
              cases hpy
            · have l1 := lpos_of ed.lt
              have l2 := lpos_of hpy
              have g := ed.ge p hp
              have c1 : cr (sb y q) (sb y s) = -Tp y s q := by unfold Tp cr sb; grind
              have c2 : cr (sb y s) (sb y p) = Tp y s p := (tp_cr y s p).symm
              have := cr_lt lq l1 l2 (by rw [c1]; omega) (by rw [c2]; exact g)
              rw [← tp_cr] at this
              exact this
          exact ⟨by omega, fun _ => this⟩
      refine ⟨hyq, fun p hp => ?_, fun p hp h1 h2 => ?_⟩
      · rcases List.mem_append.mp hp with hp | hp
        · exact (main p hp).1
        · rw [List.mem_singleton.mp hp, zz]; exact Int.le_refl _
      · rcases List.mem_append.mp hp with hp | hp
        · exact (main p hp).2 h1
        · rw [List.mem_singleton.mp hp, irr] at h2; cases h2
    have old : Adj (fun y x => EdgeOk (pre ++ [q]) x y) (y :: r) := by
      refine Adj.imp (fun u hu v hv hR => ?_) (ok.adj.and ok.nn)
      obtain ⟨ed, hn⟩ := hR
      refine ⟨ed.lt, fun p hp => ?_, fun p hp h1 h2 => ?_⟩
      · rcases List.mem_append.mp hp with hp | hp
        · exact ed.ge p hp
        · rw [List.mem_singleton.mp hp]; exact hn
      · rcases List.mem_append.mp hp with hp | hp
        · exact ed.gt p hp h1 h2
        · rw [List.mem_singleton.mp hp] at h2
          exact (asym h2 (hq u (ok.mem u hu))).elim
    refine ⟨⟨new, old⟩, fun p hp => ?_, ?_, ?_⟩
    · rcases List.mem_cons.mp hp with rfl | hp
      · simp
      · exact List.mem_append_left _ (ok.mem p hp)
    · simp
    · rw [List.getLast?_cons_cons, ok.last, h.bot]
      cases pre with
      | nil => exact absurd hyp (by simp)
      | cons a l => rfl
theorem fold_ok : ∀ (l pre st : List Pt), Rise (pre ++ l) → StOk pre st → StOk (pre ++ l) (l.foldl (fun st q => q :: pops q st) st)
  | [], pre, st, _, h => by simpa using h
  | q :: l, pre, st, hr, h => by
    have e : pre ++ q :: l = (pre ++ [q]) ++ l := by simp
    rw [e] at hr ⊢
    exact fold_ok l (pre ++ [q]) _ hr (step_ok (List.pairwise_append.mp hr).1 h)
theorem chR_ok {l : List Pt} (hr : Rise l) : StOk l (chR l) := by
  have := fold_ok l [] [] (by simpa using hr) ⟨trivial, by simp, rfl, rfl⟩
  simpa [chR] using this
theorem Adj.append {R : Pt → Pt → Prop} : ∀ {l : List Pt} {x y : Pt}, Adj R (l ++ [x]) → R x y → Adj R (l ++ [x] ++ [y])
  | [], x, y, _, h => ⟨h, trivial⟩
  | [a], x, y, ha, h => ⟨ha.1, h, trivial⟩
  | a :: b :: l, x, y, ha, h => ⟨ha.1, Adj.append (l := b :: l) ha.2 h⟩
theorem Adj.reverse {R : Pt → Pt → Prop} : ∀ {l : List Pt}, Adj R l → Adj (fun x y => R y x) l.reverse
  | [], _ => trivial
  | [_], _ => trivial
  | x :: y :: r, h => by
    have ih := Adj.reverse h.2
    rw [List.reverse_cons, List.reverse_cons]
    rw [List.reverse_cons] at ih
    exact Adj.append ih h.1
/-- what a chain of a rising row is -/
structure ChainOk (l c : List Pt) : Prop where
  adj : Adj (EdgeOk l) c
  mem : ∀ p ∈ c, p ∈ l
  head : c.head? = l.head?
  last : c.getLast? = l.getLast?
theorem chain_ok {l : List Pt} (hr : Rise l) : ChainOk l (chain l) := by
  have h := chR_ok hr
  refine ⟨h.adj.reverse, fun p hp => h.mem p (List.mem_reverse.mp hp), ?_, ?_⟩
  · unfold chain
    rw [List.head?_reverse, h.bot]
  · unfold chain
    rw [List.getLast?_reverse, h.top]
theorem chain_rise {l c : List Pt} (h : ChainOk l c) : Rise c := by
  have : ∀ c : List Pt, Adj (EdgeOk l) c → Rise c := fun c => by
    induction c with
    | nil => intro _; exact List.Pairwise.nil
    | cons x c ih =>
      intro a
      have r := ih a.tail
      refine List.pairwise_cons.mpr ⟨fun p hp => ?_, r⟩
      cases c with
      | nil => cases hp
      | cons y c =>
        have h1 := a.1.lt
        rcases List.mem_cons.mp hp with rfl | hp
        · exact h1
        · have h2 := (List.pairwise_cons.mp r).1 p hp
          rw [lx_iff] at h1 h2 ⊢
          omega
  exact this c h.adj
end HU

set_option maxHeartbeats 1000000
namespace HU
open DL LFD
/-! ### the chain back -/
def ng (p : Pt) : Pt := (-p.1, -p.2)
theorem ng_ng (p : Pt) : ng (ng p) = p := by unfold ng; exact Prod.ext (Int.neg_neg _) (Int.neg_neg _)
theorem tp_ng (a b c : Pt) : Tp (ng a) (ng b) (ng c) = Tp a b c := by unfold Tp ng; grind
theorem lx_ng (a b : Pt) : lx (ng a) (ng b) = lx b a := by
  rw [Bool.eq_iff_iff, lx_iff, lx_iff]
  unfold ng
  dsimp only
  omega
theorem pops_ng (q : Pt) : ∀ st : List Pt, pops (ng q) (st.map ng) = (pops q st).map ng
  | [] => rfl
  | [y] => rfl
  | y :: x :: r => by
    rw [List.map_cons, List.map_cons, pops, pops, tp_ng]
    split
    · have := pops_ng q (x :: r)
      rwa [List.map_cons] at this
    · rfl
theorem fold_ng : ∀ (l st : List Pt), (l.map ng).foldl (fun st q => q :: pops q st) (st.map ng) = (l.foldl (fun st q => q :: pops q st) st).map ng
  | [], st => rfl
  | q :: l, st => by
    rw [List.map_cons, List.foldl_cons, List.foldl_cons, pops_ng]
    exact fold_ng l (q :: pops q st)
theorem chain_ng (l : List Pt) : chain (l.map ng) = (chain l).map ng := by
  unfold chain chR
  rw [List.map_reverse]
  congr 1
  exact fold_ng l []
theorem map_ng_ng (l : List Pt) : (l.map ng).map ng = l := by
  rw [List.map_map]
  exact (List.map_congr_left fun p _ => ng_ng p).trans (List.map_id l)
theorem rise_rev {l : List Pt} (h : Rise l) : Rise (l.reverse.map ng) := by
  rw [Rise, List.pairwise_map, List.pairwise_reverse]
  exact h.imp fun {a b} hab => by rw [lx_ng]; exact hab
/-- an edge of the hull, from x to y -/
structure Edge (l : List Pt) (x y : Pt) : Prop where
  ne : x ≠ y
  ge : ∀ p ∈ l, 0 ≤ Tp x y p
  gt : ∀ p ∈ l, (lx x p = true ∧ lx p y = true) ∨ (lx y p = true ∧ lx p x = true) → 0 < Tp x y p
theorem lx_ne {a b : Pt} (h : lx a b = true) : a ≠ b := fun e => by rw [e, lx_iff] at h; omega
theorem lx_asym {a b : Pt} (h1 : lx a b = true) (h2 : lx b a = true) : False := by rw [lx_iff] at h1 h2; omega
theorem lx_trans {a b c : Pt} (h1 : lx a b = true) (h2 : lx b c = true) : lx a c = true := by rw [lx_iff] at *; omega
theorem EdgeOk.up {l : List Pt} {x y : Pt} (h : EdgeOk l x y) : Edge l x y :=
  ⟨lx_ne h.lt, h.ge, fun p hp q => by
    rcases q with ⟨q1, q2⟩ | ⟨q1, q2⟩
    · exact h.gt p hp q1 q2
    · exact (lx_asym h.lt (lx_trans q1 q2)).elim⟩
/-- an edge of the chain back -/
structure EdgeDn (l : List Pt) (x y : Pt) : Prop where
  lt : lx y x = true
  ed : Edge l x y
structure BackOk (l d : List Pt) : Prop where
  adj : Adj (EdgeDn l) d
  mem : ∀ p ∈ d, p ∈ l
  head : d.head? = l.getLast?
  last : d.getLast? = l.head?
theorem Adj.map {R S : Pt → Pt → Prop} {f : Pt → Pt} (h : ∀ x y, R x y → S (f x) (f y)) : ∀ {l : List Pt}, Adj R l → Adj S (l.map f)
  | [], _ => trivial
  | [_], _ => trivial
  | x :: y :: r, a => ⟨h x y a.1, Adj.map (l := y :: r) h a.2⟩
theorem back_ok {l : List Pt} (hr : Rise l) : BackOk l (chain l.reverse) := by
  have h := chain_ok (rise_rev hr)
  have e : chain l.reverse = (chain (l.reverse.map ng)).map ng := by rw [chain_ng, map_ng_ng]
  rw [e]
  have mm : ∀ p, p ∈ l.reverse.map ng ↔ ng p ∈ l := fun p => by
    rw [List.mem_map]
    constructor
    · rintro ⟨a, ha, rfl⟩
      rw [ng_ng]
      exact List.mem_reverse.mp ha
    · intro hp
      exact ⟨ng p, List.mem_reverse.mpr hp, ng_ng p⟩
  refine ⟨Adj.map (fun x y q => ?_) h.adj, fun p hp => ?_, ?_, ?_⟩
  · have pl : ∀ p ∈ l, ng p ∈ l.reverse.map ng := fun p hp => (mm _).mpr (by rw [ng_ng]; exact hp)
    have t : ∀ p, Tp (ng x) (ng y) p = Tp x y (ng p) := fun p => by
      have := tp_ng x y (ng p)
      rw [ng_ng] at this
      exact this
    have lt : lx (ng y) (ng x) = true := by rw [lx_ng]; exact q.lt
    refine ⟨lt, ⟨fun z => lx_ne lt z.symm, fun p hp => by rw [t]; exact q.ge _ (pl p hp), fun p hp z => ?_⟩⟩
    rw [t]
    rcases z with ⟨z1, z2⟩ | ⟨z1, z2⟩
    · exact (lx_asym lt (lx_trans z1 z2)).elim
    · refine q.gt _ (pl p hp) ?_ ?_
      · rw [← lx_ng, ng_ng]; exact z2
      · rw [← lx_ng, ng_ng]; exact z1
  · obtain ⟨a, ha, rfl⟩ := List.mem_map.mp hp
    exact (mm _).mp (h.mem a ha)
  · rw [List.head?_map, h.head, List.head?_map, List.head?_reverse]
    cases l.getLast? with
    | none => rfl
    | some a => show some (ng (ng a)) = _; rw [ng_ng]
  · rw [List.getLast?_map, h.last, List.getLast?_map, List.getLast?_reverse]
    cases l.head? with
    | none => rfl
    | some a => show some (ng (ng a)) = _; rw [ng_ng]
theorem back_fall {l d : List Pt} (h : BackOk l d) : d.Pairwise fun a b => lx b a = true := by
  have : ∀ d : List Pt, Adj (EdgeDn l) d → d.Pairwise fun a b => lx b a = true := fun c => by
    induction c with
    | nil => intro _; exact List.Pairwise.nil
    | cons x c ih =>
      intro a
      have r := ih a.tail
      refine List.pairwise_cons.mpr ⟨fun p hp => ?_, r⟩
      cases c with
      | nil => cases hp
      | cons y c =>
        have h1 := a.1.lt
        rcases List.mem_cons.mp hp with rfl | hp
        · exact h1
        · exact lx_trans ((List.pairwise_cons.mp r).1 p hp) h1
  exact this d h.adj
/-! ### the hull -/
def hullL (l : List Pt) : List Pt := (chain l).dropLast ++ (chain l.reverse).dropLast
theorem drop_last {α : Type} {c : List α} {z : α} (h : c.getLast? = some z) : c = c.dropLast ++ [z] := by
  obtain ⟨ys, rfl⟩ := List.getLast?_eq_some_iff.mp h
  rw [List.dropLast_concat]
theorem Adj.join {R : Pt → Pt → Prop} : ∀ {c : List Pt} {z : Pt} {d : List Pt}, Adj R (c ++ [z]) → Adj R (z :: d) → Adj R (c ++ z :: d)
  | [], z, d, _, h => h
  | [a], z, d, ha, h => ⟨ha.1, h⟩
  | a :: b :: c, z, d, ha, h => ⟨ha.1, Adj.join (c := b :: c) ha.2 h⟩
/-- the parts of the hull of a rising row that is no line -/
structure HullOk (l : List Pt) (c d : List Pt) (a z : Pt) : Prop where
  c1 : chain l = c ++ [z]
  d1 : chain l.reverse = d ++ [a]
  az : lx a z = true
  chd : c.head? = some a
  dhd : d.head? = some z
  lhd : l.head? = some a
  llast : l.getLast? = some z
  adj : Adj (Edge l) (c ++ d ++ [a])
  mem : ∀ p ∈ c ++ d, p ∈ l
  crise : Rise (c ++ [z])
  dfall : (d ++ [a]).Pairwise fun a b => lx b a = true
theorem hull_parts {l : List Pt} (hr : Rise l) (h2 : 2 ≤ l.length) : ∃ c d a z, HullOk l c d a z ∧ hullL l = c ++ d := by
  have hc := chain_ok hr
  have hd := back_ok hr
  match l, h2 with
  | a :: b :: r, _ =>
    obtain ⟨z, hz⟩ : ∃ z, (a :: b :: r).getLast? = some z := ⟨_, List.getLast?_eq_some_getLast (by simp)⟩
    have hz2 : z ∈ b :: r := by
      rw [List.getLast?_cons_cons] at hz
      exact List.mem_of_getLast? hz
    have az : lx a z = true := (List.pairwise_cons.mp hr).1 z hz2
    have ec := drop_last (hc.last.trans hz)
    have ed := drop_last (hd.last.trans (show (a :: b :: r).head? = some a from rfl))
    have h1 : ((chain (a :: b :: r)).dropLast).head? = some a := by
      have := hc.head
      rw [ec] at this
      cases e : (chain (a :: b :: r)).dropLast with
      | nil =>
        rw [e] at this
        cases this
        rw [lx_iff] at az
        omega
      | cons x y => rw [e] at this; exact this
    have h2 : ((chain (a :: b :: r).reverse).dropLast).head? = some z := by
      have := hd.head
      rw [ed, hz] at this
      cases e : (chain (a :: b :: r).reverse).dropLast with
      | nil =>
        rw [e] at this
        cases this
        rw [lx_iff] at az
        omega
      | cons x y => rw [e] at this; exact this
    refine ⟨_, _, a, z, ⟨ec, ed, az, h1, h2, rfl, hz, ?_, ?_, by rw [← ec]; exact chain_rise hc, by rw [← ed]; exact back_fall hd⟩, rfl⟩
    · have a1 : Adj (Edge (a :: b :: r)) ((chain (a :: b :: r)).dropLast ++ [z]) := by rw [← ec]; exact Adj.imp (fun _ _ _ _ q => q.up) hc.adj
      have a2 : Adj (Edge (a :: b :: r)) ((chain (a :: b :: r).reverse).dropLast ++ [a]) := by rw [← ed]; exact Adj.imp (fun _ _ _ _ q => q.ed) hd.adj
      cases e : (chain (a :: b :: r).reverse).dropLast with
      | nil => rw [e] at h2; cases h2
      | cons x y =>
        rw [e] at h2 a2
        cases h2
        rw [List.append_assoc]
        exact Adj.join a1 a2
    · intro p hp
      rcases List.mem_append.mp hp with hp | hp
      · exact hc.mem p (List.dropLast_subset _ hp)
      · exact hd.mem p (List.dropLast_subset _ hp)
/-- the point behind x is alone -/
theorem edge_one {l : List Pt} (hn : NonCol l) {x y y' : Pt} (h : Edge l x y) (h' : Edge l x y') (hy : y ∈ l) (hy' : y' ∈ l) (hx : x ∈ l) : y = y' := by
  apply Classical.byContradiction
  intro ne
  have t : Tp x y y' = 0 := by
    have a1 := h.ge y' hy'
    have a2 := h'.ge y hy
    have : Tp x y' y = -Tp x y y' := by unfold Tp; grind
    omega
  have tri : ∀ a b : Pt, a ≠ b → lx a b = true ∨ lx b a = true := fun a b e => by
    rw [lx_iff, lx_iff]
    have : a.1 ≠ b.1 ∨ a.2 ≠ b.2 := by
      apply Classical.byContradiction
      intro hn
      exact e (Prod.ext (by omega) (by omega))
    omega
  -- x between the two: all points lie on the line
  have opp : (∀ p ∈ l, Tp x y p = 0) → False := fun hall => by
    obtain ⟨a, ha, b, hb, c, hc, n⟩ := hn
    exact n (line h.ne (hall a ha) (hall b hb) (hall c hc))
  have flat : (lx x y = true ∧ lx y' x = true) ∨ (lx y x = true ∧ lx x y' = true) → False := fun z => by
    refine opp fun p hp => ?_
    have g1 := h.ge p hp
    have g2 := h'.ge p hp
    have e1 : Tp x y y' = cr (sb x y) (sb x y') := tp_cr x y y'
    have e2 : Tp x y p = cr (sb x y) (sb x p) := tp_cr x y p
    have e3 : Tp x y' p = cr (sb x y') (sb x p) := tp_cr x y' p
    have id1 : (sb x y).1 * cr (sb x y') (sb x p) - (sb x y').1 * cr (sb x y) (sb x p) = -(sb x p).1 * cr (sb x y) (sb x y') := by unfold cr; grind
    have id2 : (sb x y).2 * cr (sb x y') (sb x p) - (sb x y').2 * cr (sb x y) (sb x p) = -(sb x p).2 * cr (sb x y) (sb x y') := by unfold cr; grind
    rw [← e1, t, Int.mul_zero, ← e2, ← e3] at id1 id2
    have key : ∀ u v : Int, 0 < u → v < 0 → u * Tp x y' p - v * Tp x y p = 0 → Tp x y p = 0 := fun u v hu hv h0 => by
      have m1 := Int.mul_nonneg (Int.le_of_lt hu) g2
      apply Classical.byContradiction
      intro hne
      have m2 := Int.mul_pos (show 0 < -v by omega) (show 0 < Tp x y p by omega)
      rw [Int.neg_mul] at m2
      omega
    have key' : ∀ u v : Int, u < 0 → 0 < v → u * Tp x y' p - v * Tp x y p = 0 → Tp x y p = 0 := fun u v hu hv h0 => by
      refine key (-u) (-v) (by omega) (by omega) ?_
      rw [Int.neg_mul, Int.neg_mul]
      omega
    have z0 : ∀ u v : Int, (u < 0 ∧ v = 0) → u * Tp x y' p - v * Tp x y p = 0 → Tp x y' p = 0 := fun u v ⟨hu, hv⟩ h0 => by
      rw [hv, Int.zero_mul, Int.sub_zero] at h0
      rcases Int.mul_eq_zero.mp h0 with q | q
      · omega
      · exact q
    -- first coordinates decide, else second
    unfold sb at id1 id2
    dsimp only at id1 id2
    have zt : (y.1 - x.1) * (y'.2 - x.2) - (y.2 - x.2) * (y'.1 - x.1) = 0 := by
      have : Tp x y y' = (y.1 - x.1) * (y'.2 - x.2) - (y.2 - x.2) * (y'.1 - x.1) := rfl
      omega
    rcases z with ⟨z1, z2⟩ | ⟨z1, z2⟩
    · rw [lx_iff] at z1 z2
      rcases z1 with z1 | ⟨z1, z1'⟩
      · rcases z2 with z2 | ⟨z2, z2'⟩
        · exact key _ _ (show 0 < y.1 - x.1 by omega) (show y'.1 - x.1 < 0 by omega) id1
        · exfalso
          have : y'.1 - x.1 = 0 := by omega
          rw [this, Int.mul_zero, Int.sub_zero] at zt
          rcases Int.mul_eq_zero.mp zt with q | q <;> omega
      · rcases z2 with z2 | ⟨z2, z2'⟩
        · exfalso
          have : y.1 - x.1 = 0 := by omega
          rw [this, Int.zero_mul, Int.zero_sub] at zt
          have zt' : (y.2 - x.2) * (y'.1 - x.1) = 0 := by omega
          rcases Int.mul_eq_zero.mp zt' with q | q <;> omega
        · exact key _ _ (show 0 < y.2 - x.2 by omega) (show y'.2 - x.2 < 0 by omega) id2
    · rw [lx_iff] at z1 z2
      rcases z1 with z1 | ⟨z1, z1'⟩
      · rcases z2 with z2 | ⟨z2, z2'⟩
        · exact key' _ _ (show y.1 - x.1 < 0 by omega) (show 0 < y'.1 - x.1 by omega) id1
        · exfalso
          have : y'.1 - x.1 = 0 := by omega
          rw [this, Int.mul_zero, Int.sub_zero] at zt
          rcases Int.mul_eq_zero.mp zt with q | q <;> omega
      · rcases z2 with z2 | ⟨z2, z2'⟩
        · exfalso
          have : y.1 - x.1 = 0 := by omega
          rw [this, Int.zero_mul, Int.zero_sub] at zt
          have zt' : (y.2 - x.2) * (y'.1 - x.1) = 0 := by omega
          rcases Int.mul_eq_zero.mp zt' with q | q <;> omega
        · exact key' _ _ (show y.2 - x.2 < 0 by omega) (show 0 < y'.2 - x.2 by omega) id2
  have t' : Tp x y' y = 0 := by
    have : Tp x y' y = -Tp x y y' := by unfold Tp; grind
    omega
  rcases tri x y h.ne with h1 | h1 <;> rcases tri x y' h'.ne with h2 | h2
  · rcases tri y y' ne with h3 | h3
    · have := h'.gt y hy (.inl ⟨h1, h3⟩); omega
    · have := h.gt y' hy' (.inl ⟨h2, h3⟩); omega
  · exact flat (.inl ⟨h1, h2⟩)
  · exact flat (.inr ⟨h1, h2⟩)
  · rcases tri y y' ne with h3 | h3
    · have := h.gt y' hy' (.inr ⟨h3, h2⟩); omega
    · have := h'.gt y hy (.inr ⟨h3, h1⟩); omega
end HU

set_option maxHeartbeats 1000000
namespace HU
open DL LFD
theorem Adj.succ {R : Pt → Pt → Prop} : ∀ {l : List Pt} {z p : Pt}, Adj R (l ++ [z]) → p ∈ l → ∃ v ∈ l ++ [z], R p v
  | [], _, _, _, h => nomatch h
  | [a], z, p, ha, h => by
    rw [List.mem_singleton.mp h]
    exact ⟨z, by simp, ha.1⟩
  | a :: b :: l, z, p, ha, h => by
    rcases List.mem_cons.mp h with rfl | h
    · exact ⟨b, by simp, ha.1⟩
    · obtain ⟨v, hv, hR⟩ := Adj.succ (l := b :: l) ha.2 h
      exact ⟨v, List.mem_cons_of_mem _ hv, hR⟩
section
variable {l c d : List Pt} {a z : Pt}
theorem HullOk.cadj (h : HullOk l c d a z) (hr : Rise l) : Adj (EdgeOk l) (c ++ [z]) := by rw [← h.c1]; exact (chain_ok hr).adj
theorem HullOk.dadj (h : HullOk l c d a z) (hr : Rise l) : Adj (EdgeDn l) (d ++ [a]) := by rw [← h.d1]; exact (back_ok hr).adj
theorem HullOk.cmem (h : HullOk l c d a z) (hr : Rise l) : ∀ p ∈ c ++ [z], p ∈ l := by rw [← h.c1]; exact (chain_ok hr).mem
theorem HullOk.dmem (h : HullOk l c d a z) (hr : Rise l) : ∀ p ∈ d ++ [a], p ∈ l := by rw [← h.d1]; exact (back_ok hr).mem
theorem HullOk.apart (h : HullOk l c d a z) (hr : Rise l) (hn : NonCol l) : ∀ p ∈ c, p ∈ d → False := fun p hc hd => by
  obtain ⟨v, hv, e1⟩ := Adj.succ (h.cadj hr) hc
  obtain ⟨u, hu, e2⟩ := Adj.succ (h.dadj hr) hd
  have := edge_one hn e1.up e2.ed (h.cmem hr v hv) (h.dmem hr u hu) (h.cmem hr p (List.mem_append_left _ hc))
  subst this
  exact lx_asym e1.lt e2.lt
theorem HullOk.nodup (h : HullOk l c d a z) (hr : Rise l) (hn : NonCol l) : (c ++ d).Nodup := by
  refine List.nodup_append.mpr ⟨?_, ?_, fun x hx y hy e => h.apart hr hn x hx (e ▸ hy)⟩
  · exact (List.pairwise_append.mp h.crise).1.imp fun {x y} q => lx_ne q
  · exact (List.pairwise_append.mp h.dfall).1.imp fun {x y} q => (lx_ne q).symm
/-- the first one comes once -/
theorem HullOk.first (h : HullOk l c d a z) : ∃ t, c ++ d = a :: t ∧ ∀ p ∈ t, lx a p = true := by
  have hc := h.chd
  cases c with
  | nil => cases hc
  | cons x c' =>
    cases hc
    refine ⟨c' ++ d, rfl, fun p hp => ?_⟩
    rcases List.mem_append.mp hp with hp | hp
    · exact (List.pairwise_cons.mp h.crise).1 p (List.mem_append_left _ hp)
    · exact (List.pairwise_append.mp h.dfall).2.2 p hp _ (by simp)
end
theorem nodup_len {α : Type} [BEq α] [LawfulBEq α] : ∀ {l m : List α}, l.Nodup → (∀ x ∈ l, x ∈ m) → l.length ≤ m.length
  | [], _, _, _ => Nat.zero_le _
  | a :: l, m, hn, hs => by
    have ha := hs a (by simp)
    have := nodup_len (l := l) (m := m.erase a) (List.nodup_cons.mp hn).2 fun x hx => by
      refine (List.mem_erase_of_ne fun e => ?_).mpr (hs x (List.mem_cons_of_mem _ hx))
      rw [e] at hx
      exact (List.nodup_cons.mp hn).1 hx
    rw [List.length_erase_of_mem ha] at this
    have := List.length_pos_of_mem ha
    rw [List.length_cons]
    omega
/-! ### areas -/
def crs (a b : Pt) : Int := a.1 * b.2 - a.2 * b.1
def fan (r : Pt) : List Pt → Int
  | x :: y :: l => Tp r x y + fan r (y :: l)
  | _ => 0
def sho : List Pt → Int
  | x :: y :: l => crs x y + sho (y :: l)
  | _ => 0
def lastP (x : Pt) : List Pt → Pt
  | [] => x
  | y :: l => lastP y l
theorem fan_sho (r : Pt) : ∀ (x : Pt) (l : List Pt), fan r (x :: l) = sho (x :: l) + crs r x - crs r (lastP x l)
  | x, [] => by
    show (0 : Int) = 0 + crs r x - crs r x
    omega
  | x, y :: l => by
    have ih := fan_sho r y l
    show Tp r x y + fan r (y :: l) = crs x y + sho (y :: l) + crs r x - crs r (lastP y l)
    rw [ih]
    have e : Tp r x y = crs r x + crs x y - crs r y := by unfold Tp crs; grind
    rw [e]
    omega
end HU

set_option maxHeartbeats 1000000
namespace LPR
open DL PySem LFD
local macro_rules | `(tactic| walk_at "ev") => `(tactic| (try simp only [x_pb, x_fb, x_ba, x_ls, x_ln, x_eVar, x_bVar, x_rdF, x_rdB, x_eC, x_e2, x_e1, x_eList, x_eTup, x_nLst, x_lNil, x_lCons, x_aNil, x_aCons, x_aTape, x_isTp, x_eCal, x_nCal, x_eCall, x_eCut, x_pNone, x_pSome, x_tOf, x_bAnd, x_bOr, x_bNot, x_eIf, x_eAnd, x_eOr, x_eNot, x_eChain, x_lSeq, x_nComp, x_sNext, x_sSeq, x_atN, x_atR, x_atB, x_atC, x_sDrop, x_sRet, x_sIf, x_sAsg, x_mName, x_mSeq, x_mgNil, x_mgCons, x_sOwn, x_sFrz, x_frz, x_sApp, x_owOf, x_sSetI, x_sPar, x_sPar3, x_sFor, x_forN, x_forC, x_loN, x_loC, x_loB, x_loR, x_cN, x_cC, x_bYes, x_oR, x_oN, x_mf0, x_mf1, x_mf2, x_mf3, x_mf4, x_mf5, x_tput, x_sExt, x_nRev, v_isII, v_isBI, v_in3, v_ltDI, v_gtDI, v_leDI, v_geDI, List.getElem?_cons_zero, List.getElem?_cons_succ, List.set_cons_zero, List.set_cons_succ, List.replicate_succ, List.replicate_zero, List.cons_append, List.nil_append, List.length_cons, List.length_nil, v_sub, v_add, v_neg, v_lt, v_le, v_gt, v_ge, v_abs, v_max, v_min, v_intI, v_intB, v_lenL, v_lenT, v_tupL, v_tupT, v_listL, v_listT, v_ixL, v_ixT, v_at0, v_at1, v_at2, v_bool, v_seqL, v_seqT, v_intOf, v_ok0, v_ok1, v_ok2, v_ok3, v_ok4, v_okn, v_ok5, v_ok6, v_ok7, v_ok8, v_ok9, v_ok10, v_ok11, v_ok12, v_ok13, v_ok14, v_ok15, v_ok16, v_ok17, v_ok18, v_ok19, v_ok20, v_ok21, v_ok22, v_ok23, v_ok24, v_ok25, v_ok26, v_ok27, v_ok28, v_ok29, v_ok30, v_ok31, v_ok32, gEq_int, gNe_int, v_rng1, v_rng2, okRg, Int.reducePow, Nat.sub_self, Nat.reduceSub, Nat.reduceAdd, unAll, if_true, if_false, Option.bind_some, Option.bind_none, ite_true, ite_false, Bool.false_eq_true, rgD, Int.reduceBEq, Int.reduceToNat, Int.reduceLT, Int.reduceLE, Int.reduceMul, Int.reduceAdd, Int.reduceSub, Int.reduceNeg, Nat.reduceMul, Nat.reduceLT, Nat.reduceBEq, decide_true, decide_false, Bool.and_true, Bool.true_and, Bool.and_self, Bool.not_true, Bool.not_false, BEq.rfl, reduceIte]))
local macro_rules | `(tactic| walk_at "evt") => `(tactic| (try simp only [x_pb, x_fb, x_ba, x_ls, x_ln, x_eVar, x_bVar, x_rdF, x_rdB, x_eC, x_e2, x_e1, x_eList, x_eTup, x_nLst, x_lNil, x_lCons, x_aNil, x_aCons, x_aTape, x_isTp, x_eCal, x_nCal, x_eCall, x_eCut, x_pNone, x_pSome, x_tOf, x_bAnd, x_bOr, x_bNot, x_eIf, x_eAnd, x_eOr, x_eNot, x_eChain, x_lSeq, x_nComp, x_sNext, x_sSeq, x_atN, x_atR, x_atB, x_atC, x_sDrop, x_sRet, x_sIf, x_sAsg, x_mName, x_mSeq, x_mgNil, x_mgCons, x_sOwn, x_sFrz, x_frz, x_sApp, x_owOf, x_sSetI, x_sPar, x_sPar3, x_sFor, x_forN, x_forC, x_loN, x_loC, x_loB, x_loR, x_cN, x_cC, x_bYes, x_oR, x_oN, x_mf0, x_mf1, x_mf2, x_mf3, x_mf4, x_mf5, x_tput, x_sExt, x_nRev, v_isII, v_isBI, v_in3, v_ltDI, v_gtDI, v_leDI, v_geDI, List.getElem?_cons_zero, List.getElem?_cons_succ, List.set_cons_zero, List.set_cons_succ, List.replicate_succ, List.replicate_zero, List.cons_append, List.nil_append, List.length_cons, List.length_nil, v_sub, v_add, v_neg, v_lt, v_le, v_gt, v_ge, v_abs, v_max, v_min, v_intI, v_intB, v_lenL, v_lenT, v_tupL, v_tupT, v_listL, v_listT, v_ixL, v_ixT, v_at0, v_at1, v_at2, v_bool, v_seqL, v_seqT, v_intOf, v_ok0, v_ok1, v_ok2, v_ok3, v_ok4, v_okn, v_ok5, v_ok6, v_ok7, v_ok8, v_ok9, v_ok10, v_ok11, v_ok12, v_ok13, v_ok14, v_ok15, v_ok16, v_ok17, v_ok18, v_ok19, v_ok20, v_ok21, v_ok22, v_ok23, v_ok24, v_ok25, v_ok26, v_ok27, v_ok28, v_ok29, v_ok30, v_ok31, v_ok32, gEq_int, gNe_int, v_rng1, v_rng2, okRg, Int.reducePow, Nat.sub_self, Nat.reduceSub, Nat.reduceAdd, unAll, if_true, if_false, Option.bind_some, Option.bind_none, ite_true, ite_false, Bool.false_eq_true, rgD, Int.reduceBEq, Int.reduceToNat, Int.reduceLT, Int.reduceLE, Int.reduceMul, Int.reduceAdd, Int.reduceSub, Int.reduceNeg, Nat.reduceMul, Nat.reduceLT, Nat.reduceBEq, decide_true, decide_false, Bool.and_true, Bool.true_and, Bool.and_self, Bool.not_true, Bool.not_false, BEq.rfl, reduceIte, bnd_ap, pure_ap, lift_ap, fail_ap, ite_ap, x_tget, x_doPut, fldOf, tSet, Option.map_some, Option.map_none, beq_self_eq_true, Bool.and_true, Bool.true_and]))
local macro_rules | `(tactic| walk_at "ev1") => `(tactic| (try simp only [x_pb, x_fb, x_ba, x_ls, x_ln, x_eVar, x_bVar, x_rdF, x_rdB, x_eC, x_e2, x_e1, x_eList, x_eTup, x_nLst, x_lNil, x_lCons, x_aNil, x_aCons, x_aTape, x_isTp, x_eCal, x_nCal, x_eCall, x_eCut, x_pNone, x_pSome, x_tOf, x_bAnd, x_bOr, x_bNot, x_eIf, x_eAnd, x_eOr, x_eNot, x_eChain, x_lSeq, x_nComp, x_sNext, x_sSeq, x_atN, x_atR, x_atB, x_atC, x_sDrop, x_sRet, x_sIf, x_sAsg, x_mName, x_mSeq, x_mgNil, x_mgCons, x_sOwn, x_sFrz, x_frz, x_sApp, x_owOf, x_sSetI, x_sPar, x_sPar3, x_sFor, x_forN, x_forC, x_loN, x_loC, x_loB, x_loR, x_cN, x_cC, x_bYes, x_oR, x_oN, x_mf0, x_mf1, x_mf2, x_mf3, x_mf4, x_mf5, x_tput, x_sExt, x_nRev, v_isII, v_isBI, v_in3, v_ltDI, v_gtDI, v_leDI, v_geDI, List.getElem?_cons_zero, List.getElem?_cons_succ, List.set_cons_zero, List.set_cons_succ, List.replicate_succ, List.replicate_zero, List.cons_append, List.nil_append, List.length_cons, List.length_nil, v_sub, v_add, v_neg, v_lt, v_le, v_gt, v_ge, v_abs, v_max, v_min, v_intI, v_intB, v_lenL, v_lenT, v_tupL, v_tupT, v_listL, v_listT, v_ixL, v_ixT, v_at0, v_at1, v_at2, v_bool, v_seqL, v_seqT, v_intOf, v_ok0, v_ok1, v_ok2, v_ok3, v_ok4, v_okn, v_ok5, v_ok6, v_ok7, v_ok8, v_ok9, v_ok10, v_ok11, v_ok12, v_ok13, v_ok14, v_ok15, v_ok16, v_ok17, v_ok18, v_ok19, v_ok20, v_ok21, v_ok22, v_ok23, v_ok24, v_ok25, v_ok26, v_ok27, v_ok28, v_ok29, v_ok30, v_ok31, v_ok32, gEq_int, gNe_int, v_rng1, v_rng2, okRg, Int.reducePow, Nat.sub_self, Nat.reduceSub, Nat.reduceAdd, unAll, if_true, if_false, Option.bind_some, Option.bind_none, ite_true, ite_false, Bool.false_eq_true, rgD, Int.reduceBEq, Int.reduceToNat, Int.reduceLT, Int.reduceLE, Int.reduceMul, Int.reduceAdd, Int.reduceSub, Int.reduceNeg, Nat.reduceMul, Nat.reduceLT, Nat.reduceBEq, decide_true, decide_false, Bool.and_true, Bool.true_and, Bool.and_self, Bool.not_true, Bool.not_false, BEq.rfl, reduceIte, v_mulS, v_modS, compGo_M, compM_map, compM_filter, compM_nil, x_ebool, x_bb, x_iband, x_ibor, x_band, x_bor, Bool.or_false, Bool.false_or, Bool.and_false, Bool.false_and, x_sWhile, v_revAL, v_revAT, v_revC0, x_eRevT, abs_ite, v_any3, v_atm1, v_atm2, v_atm3, v_lastT, v_lastL, Nat.add_zero, Nat.zero_add, nc0, nc1, nc2, nc3, nc4, nc5, nc6, x_pbool, Bool.true_or, Bool.or_true]))
/-! the chain -/
def popsB (q : BP) : List BP → List BP
  | y :: x :: r => if Tp x.1 y.1 q.1 < 0 then popsB q (x :: r) else y :: x :: r
  | [y] => [y]
  | [] => []
def chRB (l : List BP) : List BP := l.foldl (fun st q => q :: popsB q st) []
def chainB (l : List BP) : List BP := (chRB l).reverse
abbrev vals (l : List BP) : List Pt := l.map (·.1)
theorem popsB_val (q : BP) : ∀ st : List BP, vals (popsB q st) = HU.pops q.1 (vals st)
  | [] => rfl
  | [y] => rfl
  | y :: x :: r => by
    show (popsB q (y :: x :: r)).map (·.1) = HU.pops q.1 (y.1 :: x.1 :: vals r)
    rw [popsB, HU.pops]
    split
    · exact popsB_val q (x :: r)
    · rfl
theorem chRB_val : ∀ (l st : List BP), vals (l.foldl (fun st q => q :: popsB q st) st) = (vals l).foldl (fun st q => q :: HU.pops q st) (vals st)
  | [], st => rfl
  | q :: l, st => by
    rw [List.foldl_cons, chRB_val l (q :: popsB q st)]
    show (vals l).foldl _ (q.1 :: vals (popsB q st)) = _
    rw [popsB_val]
    rfl
theorem chainB_val (l : List BP) : vals (chainB l) = HU.chain (vals l) := by
  unfold chainB HU.chain HU.chR chRB
  rw [vals, List.map_reverse]
  congr 1
  exact chRB_val l []
theorem popsB_len (q : BP) : ∀ st : List BP, (popsB q st).length ≤ st.length
  | [] => Nat.le_refl _
  | [y] => Nat.le_refl _
  | y :: x :: r => by
    rw [popsB]
    split
    · exact Nat.le_succ_of_le (popsB_len q (x :: r))
    · exact Nat.le_refl _
theorem chRB_len : ∀ (l st : List BP), (l.foldl (fun st q => q :: popsB q st) st).length ≤ l.length + st.length
  | [], st => by simp
  | q :: l, st => by
    rw [List.foldl_cons]
    refine Nat.le_trans (chRB_len l _) ?_
    have := popsB_len q st
    rw [List.length_cons, List.length_cons]
    omega
theorem chainB_len (l : List BP) : (chainB l).length ≤ l.length := by
  unfold chainB chRB
  rw [List.length_reverse]
  exact chRB_len l []
def popGo (q : BP) : List BP → Bool
  | y :: x :: _ => decide (Tp x.1 y.1 q.1 < 0)
  | _ => false
theorem popGo_end {q : BP} : ∀ {st : List BP}, popGo q st = false → popsB q st = st
  | [], _ => rfl
  | [y], _ => rfl
  | y :: x :: r, h => by
    rw [popsB, if_neg (of_decide_eq_false h)]
theorem popGo_step {q : BP} : ∀ {st : List BP}, popGo q st = true → popsB q st = popsB q st.tail ∧ st ≠ []
  | [], h => by cases h
  | [y], h => by cases h
  | y :: x :: r, h => ⟨by rw [popsB, if_pos (of_decide_eq_true h)]; rfl, by simp⟩
theorem sg_neg (x : Int) : decide (sg x < 0) = decide (x < 0) := by
  apply decide_eq_decide.mpr
  have := sg_cases x
  omega
local macro_rules | `(tactic| walk_at "ev2") => `(tactic| (try simp only [x_pb, x_fb, x_ba, x_ls, x_ln, x_eVar, x_bVar, x_rdF, x_rdB, x_eC, x_e2, x_e1, x_eList, x_eTup, x_nLst, x_lNil, x_lCons, x_aNil, x_aCons, x_aTape, x_isTp, x_eCal, x_nCal, x_eCall, x_eCut, x_pNone, x_pSome, x_tOf, x_bAnd, x_bOr, x_bNot, x_eIf, x_eAnd, x_eOr, x_eNot, x_eChain, x_lSeq, x_nComp, x_sNext, x_sSeq, x_atN, x_atR, x_atB, x_atC, x_sDrop, x_sRet, x_sIf, x_sAsg, x_mName, x_mSeq, x_mgNil, x_mgCons, x_sOwn, x_sFrz, x_frz, x_sApp, x_owOf, x_sSetI, x_sPar, x_sPar3, x_sFor, x_forN, x_forC, x_loN, x_loC, x_loB, x_loR, x_cN, x_cC, x_bYes, x_oR, x_oN, x_mf0, x_mf1, x_mf2, x_mf3, x_mf4, x_mf5, x_tput, x_sExt, x_nRev, v_isII, v_isBI, v_in3, v_ltDI, v_gtDI, v_leDI, v_geDI, List.getElem?_cons_zero, List.getElem?_cons_succ, List.set_cons_zero, List.set_cons_succ, List.replicate_succ, List.replicate_zero, List.cons_append, List.nil_append, List.length_cons, List.length_nil, v_sub, v_add, v_neg, v_lt, v_le, v_gt, v_ge, v_abs, v_max, v_min, v_intI, v_intB, v_lenL, v_lenT, v_tupL, v_tupT, v_listL, v_listT, v_ixL, v_ixT, v_at0, v_at1, v_at2, v_bool, v_seqL, v_seqT, v_intOf, v_ok0, v_ok1, v_ok2, v_ok3, v_ok4, v_okn, v_ok5, v_ok6, v_ok7, v_ok8, v_ok9, v_ok10, v_ok11, v_ok12, v_ok13, v_ok14, v_ok15, v_ok16, v_ok17, v_ok18, v_ok19, v_ok20, v_ok21, v_ok22, v_ok23, v_ok24, v_ok25, v_ok26, v_ok27, v_ok28, v_ok29, v_ok30, v_ok31, v_ok32, gEq_int, gNe_int, v_rng1, v_rng2, okRg, Int.reducePow, Nat.sub_self, Nat.reduceSub, Nat.reduceAdd, unAll, if_true, if_false, Option.bind_some, Option.bind_none, ite_true, ite_false, Bool.false_eq_true, rgD, Int.reduceBEq, Int.reduceToNat, Int.reduceLT, Int.reduceLE, Int.reduceMul, Int.reduceAdd, Int.reduceSub, Int.reduceNeg, Nat.reduceMul, Nat.reduceLT, Nat.reduceBEq, decide_true, decide_false, Bool.and_true, Bool.true_and, Bool.and_self, Bool.not_true, Bool.not_false, BEq.rfl, reduceIte, v_mulS, v_modS, compGo_M, compM_map, compM_filter, compM_nil, x_ebool, x_bb, x_iband, x_ibor, x_band, x_bor, Bool.or_false, Bool.false_or, Bool.and_false, Bool.false_and, x_sWhile, v_revAL, v_revAT, v_revC0, x_eRevT, abs_ite, v_any3, v_atm1, v_atm2, v_atm3, v_lastT, v_lastL, Nat.add_zero, Nat.zero_add, nc0, nc1, nc2, nc3, nc4, nc5, nc6, x_pbool, Bool.true_or, Bool.or_true, side_eq, sg_neg, v_atL1, v_atL2, x_sPop]))
theorem chain_eq (d : PyData) (l : List BP) (hd : d = .tuple (l.map ptB) ∨ d = .list (l.map ptB)) (hl : l.length ≤ 1000) : m_chain [.fz d] = pure (.list ((chainB l).map ptB)) := by
  have sq : seqOf d = some (l.map ptB) := by rcases hd with rfl | rfl <;> rfl
  unfold m_chain
  rw [x_mf1, x_sSeq]
  show (sOwn 1 (nLst lNil) [.fz d, .un, .un] >>= _) >>= _ = _
  rw [x_ba, show sOwn 1 (nLst lNil) [.fz d, .un, .un] = pure (.nx [.fz d, .ow [], .un]) from rfl, x_pb, x_atN, x_sSeq, x_sFor, x_lSeq]
  rw [show eVar 0 [.fz d, .ow [], .un] = pure d from rfl, x_pb, sq, x_ls, x_pb, x_ba]
  have slen : ∀ k, ((l.take k).foldl (fun st q => q :: popsB q st) []).length ≤ 1000 := fun k => by
    refine Nat.le_trans (chRB_len _ _) ?_
    rw [List.length_take, List.length_nil]
    omega
  refine for_ik (fun k ρ => ∃ s2, ρ = [.fz d, .ow (((l.take k).foldl (fun st q => q :: popsB q st) []).reverse.map ptB), s2]) l ⟨_, rfl⟩ (fun k q hq ρ hρ => ?_) fun ρ' hI => ?_
  · obtain ⟨s2, rfl⟩ := hρ
    have hs := slen k
    have hs1 := slen (k + 1)
    rw [List.take_succ, hq] at hs1 ⊢
    rw [show (some q).toList = [q] from rfl, List.foldl_append] at hs1 ⊢
    simp only [List.foldl_cons, List.foldl_nil] at hs1 ⊢
    generalize (l.take k).foldl (fun st q => q :: popsB q st) [] = st at *
    rw [x_mName, x_ls, x_pb]
    show ∃ ρ', (sSeq _ _ [.fz d, .ow (st.reverse.map ptB), .fz (ptB q)]) = _ ∧ _
    refine ⟨[.fz d, .ow ((q :: popsB q st).reverse.map ptB), .fz (ptB q)], ?_, _, rfl⟩
    rw [x_sSeq, x_sWhile]
    refine while_k (fun s : List BP => [.fz d, .ow (s.reverse.map ptB), .fz (ptB q)]) (popGo q) List.tail List.length (fun s => popsB q s = popsB q st ∧ s.length ≤ 1000) st ⟨rfl, hs⟩ (fun s h => ?_) (fun s h hg => ?_) ?_ fun z hz hg => ?_
    · match s with
      | [] => walk_at "ev2"; rfl
      | [y] => walk_at "ev2"; rfl
      | y :: x :: r =>
        have e : ((y :: x :: r).reverse.map ptB) = (r.reverse.map ptB) ++ [ptB x, ptB y] := by simp
        have e' : ((y :: x :: r).reverse.map ptB) = ((x :: r).reverse.map ptB) ++ [ptB y] := by simp
        walk_at "ev2"
        rw [decide_eq_true (by simp; omega)]
        walk_at "ev2"
        rw [e, v_atL2]
        walk_at "ev2"
        rw [← e, e', v_atL1]
        walk_at "ev2"
        rfl
    · obtain ⟨p1, p2⟩ := popGo_step hg
      match s, p2 with
      | y :: r, _ =>
        refine ⟨?_, ⟨by rw [← h.1, p1], Nat.le_trans (Nat.le_succ _) h.2⟩, Nat.lt_succ_self _⟩
        have e : ((y :: r).reverse.map ptB) = (r.reverse.map ptB) ++ [ptB y] := by simp
        walk_at "ev2"
        rw [e]
        rw [List.dropLast_concat, show (List.map ptB r.reverse ++ [ptB y]).isEmpty = false by rw [List.isEmpty_eq_false_iff]; simp]
        rfl
    · show st.length < 2 + (natD (.fz d) + ((st.reverse.map ptB).length + ((natD (.fz (ptB q))) + 0)))
      rw [List.length_map, List.length_reverse]
      omega
    · have ez : z = popsB q st := by rw [← popGo_end hg]; exact hz.1
      subst ez
      walk_at "ev2"
      rw [okLen_of (by rw [List.length_map, List.length_reverse]; have := hz.2; omega)]
      walk_at "ev2"
      simp
  · obtain ⟨s2, rfl⟩ := hI
    rw [List.take_length]
    walk_at "ev2"
    rfl
def lowB (l : List BP) : List BP := chainB l
def uppB (l : List BP) : List BP := (chainB l.reverse).reverse
def hullB (l : List BP) : List BP := (chainB l).dropLast ++ (chainB l.reverse).dropLast
theorem lower_eq (l : List BP) (hl : l.length ≤ 1000) : m_lower [.fz (.tuple (l.map ptB))] = pure (.tuple ((lowB l).map ptB)) := by
  unfold m_lower
  walk_at "ev2"
  rw [chain_eq _ l (.inl rfl) hl]
  walk_at "ev2"
  rfl
theorem upper_eq (l : List BP) (hl : l.length ≤ 1000) : m_upper [.fz (.tuple (l.map ptB))] = pure (.tuple ((uppB l).map ptB)) := by
  unfold m_upper
  walk_at "ev2"
  rw [chain_eq _ l.reverse (.inl (by rw [List.map_reverse])) (by rw [List.length_reverse]; exact hl)]
  walk_at "ev2"
  unfold uppB
  rw [← List.map_reverse]
theorem v_addT {xs ys : List PyData} (h0 : xs ≠ []) (h : okLen (xs.length + ys.length) = true) : gAdd (.tuple xs) (.tuple ys) = some (.tuple (xs ++ ys)) := by
  cases xs with
  | nil => exact absurd rfl h0
  | cons x xs =>
    show (none : Option PyData).or ((none : Option PyData).or ((gCatT (.tuple (x :: xs)) (.tuple ys)).or _)) = _
    unfold gCatT
    simp only [h, if_true]
    rfl
/-- a field of points within 1000 -/
structure FB (m : Nat) (l : List BP) : Prop where
  rise : Rise (vals l)
  len : l.length ≤ m
  non : NonCol (vals l)
theorem FB.two {m : Nat} {l : List BP} (h : FB m l) : 2 ≤ (vals l).length := by
  obtain ⟨a, ha, b, hb, c, hc, n⟩ := h.non
  match e : vals l with
  | [] => rw [e] at ha; cases ha
  | [x] =>
    rw [e] at ha hb hc
    rw [List.mem_singleton.mp ha, List.mem_singleton.mp hb, List.mem_singleton.mp hc] at n
    exact absurd (by unfold Tp; omega) n
  | x :: y :: r => simp
theorem hullB_val (l : List BP) : vals (hullB l) = HU.hullL (vals l) := by
  unfold hullB HU.hullL
  rw [vals, List.map_append, List.map_dropLast, List.map_dropLast]
  congr 1
  · congr 1; exact chainB_val l
  · congr 1
    have := chainB_val l.reverse
    rwa [vals, vals, List.map_reverse] at this
theorem hull_eq {m : Nat} {l : List BP} (h : FB m l) (hm : m ≤ 100) : m_hull [.fz (.tuple (l.map ptB))] = pure (.tuple ((hullB l).map ptB)) := by
  have hl := h.len
  obtain ⟨c, d, a, z, ok, e⟩ := HU.hull_parts h.rise h.two
  have ne : (chainB l).dropLast ≠ [] := fun q => by
    have e1 : vals (chainB l).dropLast = c := by
      rw [vals, List.map_dropLast]
      show (vals (chainB l)).dropLast = c
      rw [chainB_val, ok.c1, List.dropLast_concat]
    rw [q] at e1
    have := ok.chd
    rw [← e1] at this
    cases this
  have l1 := chainB_len l
  have l2 := chainB_len l.reverse
  rw [List.length_reverse] at l2
  unfold m_hull
  walk_at "ev2"
  rw [lower_eq l (by omega)]
  walk_at "ev2"
  rw [upper_eq l (by omega)]
  walk_at "ev2"
  unfold lowB uppB
  have e2 : (List.drop 1 (List.map ptB (chainB l.reverse).reverse)).reverse = (chainB l.reverse).dropLast.map ptB := by
    rw [← List.map_drop, ← List.map_reverse, List.drop_one, List.tail_reverse, List.reverse_reverse]
  rw [e2, ← List.map_dropLast, v_addT (fun q => ne (List.map_eq_nil_iff.mp q)) (okLen_of (by rw [List.length_map, List.length_map, List.length_dropLast, List.length_dropLast]; omega))]
  walk_at "ev2"
  unfold hullB
  rw [List.map_append]
end LPR

set_option maxHeartbeats 1000000
namespace LHL
open DL PySem LFD LPR
local macro_rules | `(tactic| walk_at "ev") => `(tactic| (try simp only [x_pb, x_fb, x_ba, x_ls, x_ln, x_eVar, x_bVar, x_rdF, x_rdB, x_eC, x_e2, x_e1, x_eList, x_eTup, x_nLst, x_lNil, x_lCons, x_aNil, x_aCons, x_aTape, x_isTp, x_eCal, x_nCal, x_eCall, x_eCut, x_pNone, x_pSome, x_tOf, x_bAnd, x_bOr, x_bNot, x_eIf, x_eAnd, x_eOr, x_eNot, x_eChain, x_lSeq, x_nComp, x_sNext, x_sSeq, x_atN, x_atR, x_atB, x_atC, x_sDrop, x_sRet, x_sIf, x_sAsg, x_mName, x_mSeq, x_mgNil, x_mgCons, x_sOwn, x_sFrz, x_frz, x_sApp, x_owOf, x_sSetI, x_sPar, x_sPar3, x_sFor, x_forN, x_forC, x_loN, x_loC, x_loB, x_loR, x_cN, x_cC, x_bYes, x_oR, x_oN, x_mf0, x_mf1, x_mf2, x_mf3, x_mf4, x_mf5, x_tput, x_sExt, x_nRev, v_isII, v_isBI, v_in3, v_ltDI, v_gtDI, v_leDI, v_geDI, List.getElem?_cons_zero, List.getElem?_cons_succ, List.set_cons_zero, List.set_cons_succ, List.replicate_succ, List.replicate_zero, List.cons_append, List.nil_append, List.length_cons, List.length_nil, v_sub, v_add, v_neg, v_lt, v_le, v_gt, v_ge, v_abs, v_max, v_min, v_intI, v_intB, v_lenL, v_lenT, v_tupL, v_tupT, v_listL, v_listT, v_ixL, v_ixT, v_at0, v_at1, v_at2, v_bool, v_seqL, v_seqT, v_intOf, v_ok0, v_ok1, v_ok2, v_ok3, v_ok4, v_okn, v_ok5, v_ok6, v_ok7, v_ok8, v_ok9, v_ok10, v_ok11, v_ok12, v_ok13, v_ok14, v_ok15, v_ok16, v_ok17, v_ok18, v_ok19, v_ok20, v_ok21, v_ok22, v_ok23, v_ok24, v_ok25, v_ok26, v_ok27, v_ok28, v_ok29, v_ok30, v_ok31, v_ok32, gEq_int, gNe_int, v_rng1, v_rng2, okRg, Int.reducePow, Nat.sub_self, Nat.reduceSub, Nat.reduceAdd, unAll, if_true, if_false, Option.bind_some, Option.bind_none, ite_true, ite_false, Bool.false_eq_true, rgD, Int.reduceBEq, Int.reduceToNat, Int.reduceLT, Int.reduceLE, Int.reduceMul, Int.reduceAdd, Int.reduceSub, Int.reduceNeg, Nat.reduceMul, Nat.reduceLT, Nat.reduceBEq, decide_true, decide_false, Bool.and_true, Bool.true_and, Bool.and_self, Bool.not_true, Bool.not_false, BEq.rfl, reduceIte]))
local macro_rules | `(tactic| walk_at "evt") => `(tactic| (try simp only [x_pb, x_fb, x_ba, x_ls, x_ln, x_eVar, x_bVar, x_rdF, x_rdB, x_eC, x_e2, x_e1, x_eList, x_eTup, x_nLst, x_lNil, x_lCons, x_aNil, x_aCons, x_aTape, x_isTp, x_eCal, x_nCal, x_eCall, x_eCut, x_pNone, x_pSome, x_tOf, x_bAnd, x_bOr, x_bNot, x_eIf, x_eAnd, x_eOr, x_eNot, x_eChain, x_lSeq, x_nComp, x_sNext, x_sSeq, x_atN, x_atR, x_atB, x_atC, x_sDrop, x_sRet, x_sIf, x_sAsg, x_mName, x_mSeq, x_mgNil, x_mgCons, x_sOwn, x_sFrz, x_frz, x_sApp, x_owOf, x_sSetI, x_sPar, x_sPar3, x_sFor, x_forN, x_forC, x_loN, x_loC, x_loB, x_loR, x_cN, x_cC, x_bYes, x_oR, x_oN, x_mf0, x_mf1, x_mf2, x_mf3, x_mf4, x_mf5, x_tput, x_sExt, x_nRev, v_isII, v_isBI, v_in3, v_ltDI, v_gtDI, v_leDI, v_geDI, List.getElem?_cons_zero, List.getElem?_cons_succ, List.set_cons_zero, List.set_cons_succ, List.replicate_succ, List.replicate_zero, List.cons_append, List.nil_append, List.length_cons, List.length_nil, v_sub, v_add, v_neg, v_lt, v_le, v_gt, v_ge, v_abs, v_max, v_min, v_intI, v_intB, v_lenL, v_lenT, v_tupL, v_tupT, v_listL, v_listT, v_ixL, v_ixT, v_at0, v_at1, v_at2, v_bool, v_seqL, v_seqT, v_intOf, v_ok0, v_ok1, v_ok2, v_ok3, v_ok4, v_okn, v_ok5, v_ok6, v_ok7, v_ok8, v_ok9, v_ok10, v_ok11, v_ok12, v_ok13, v_ok14, v_ok15, v_ok16, v_ok17, v_ok18, v_ok19, v_ok20, v_ok21, v_ok22, v_ok23, v_ok24, v_ok25, v_ok26, v_ok27, v_ok28, v_ok29, v_ok30, v_ok31, v_ok32, gEq_int, gNe_int, v_rng1, v_rng2, okRg, Int.reducePow, Nat.sub_self, Nat.reduceSub, Nat.reduceAdd, unAll, if_true, if_false, Option.bind_some, Option.bind_none, ite_true, ite_false, Bool.false_eq_true, rgD, Int.reduceBEq, Int.reduceToNat, Int.reduceLT, Int.reduceLE, Int.reduceMul, Int.reduceAdd, Int.reduceSub, Int.reduceNeg, Nat.reduceMul, Nat.reduceLT, Nat.reduceBEq, decide_true, decide_false, Bool.and_true, Bool.true_and, Bool.and_self, Bool.not_true, Bool.not_false, BEq.rfl, reduceIte, bnd_ap, pure_ap, lift_ap, fail_ap, ite_ap, x_tget, x_doPut, fldOf, tSet, Option.map_some, Option.map_none, beq_self_eq_true, Bool.and_true, Bool.true_and]))
local macro_rules | `(tactic| walk_at "ev1") => `(tactic| (try simp only [x_pb, x_fb, x_ba, x_ls, x_ln, x_eVar, x_bVar, x_rdF, x_rdB, x_eC, x_e2, x_e1, x_eList, x_eTup, x_nLst, x_lNil, x_lCons, x_aNil, x_aCons, x_aTape, x_isTp, x_eCal, x_nCal, x_eCall, x_eCut, x_pNone, x_pSome, x_tOf, x_bAnd, x_bOr, x_bNot, x_eIf, x_eAnd, x_eOr, x_eNot, x_eChain, x_lSeq, x_nComp, x_sNext, x_sSeq, x_atN, x_atR, x_atB, x_atC, x_sDrop, x_sRet, x_sIf, x_sAsg, x_mName, x_mSeq, x_mgNil, x_mgCons, x_sOwn, x_sFrz, x_frz, x_sApp, x_owOf, x_sSetI, x_sPar, x_sPar3, x_sFor, x_forN, x_forC, x_loN, x_loC, x_loB, x_loR, x_cN, x_cC, x_bYes, x_oR, x_oN, x_mf0, x_mf1, x_mf2, x_mf3, x_mf4, x_mf5, x_tput, x_sExt, x_nRev, v_isII, v_isBI, v_in3, v_ltDI, v_gtDI, v_leDI, v_geDI, List.getElem?_cons_zero, List.getElem?_cons_succ, List.set_cons_zero, List.set_cons_succ, List.replicate_succ, List.replicate_zero, List.cons_append, List.nil_append, List.length_cons, List.length_nil, v_sub, v_add, v_neg, v_lt, v_le, v_gt, v_ge, v_abs, v_max, v_min, v_intI, v_intB, v_lenL, v_lenT, v_tupL, v_tupT, v_listL, v_listT, v_ixL, v_ixT, v_at0, v_at1, v_at2, v_bool, v_seqL, v_seqT, v_intOf, v_ok0, v_ok1, v_ok2, v_ok3, v_ok4, v_okn, v_ok5, v_ok6, v_ok7, v_ok8, v_ok9, v_ok10, v_ok11, v_ok12, v_ok13, v_ok14, v_ok15, v_ok16, v_ok17, v_ok18, v_ok19, v_ok20, v_ok21, v_ok22, v_ok23, v_ok24, v_ok25, v_ok26, v_ok27, v_ok28, v_ok29, v_ok30, v_ok31, v_ok32, gEq_int, gNe_int, v_rng1, v_rng2, okRg, Int.reducePow, Nat.sub_self, Nat.reduceSub, Nat.reduceAdd, unAll, if_true, if_false, Option.bind_some, Option.bind_none, ite_true, ite_false, Bool.false_eq_true, rgD, Int.reduceBEq, Int.reduceToNat, Int.reduceLT, Int.reduceLE, Int.reduceMul, Int.reduceAdd, Int.reduceSub, Int.reduceNeg, Nat.reduceMul, Nat.reduceLT, Nat.reduceBEq, decide_true, decide_false, Bool.and_true, Bool.true_and, Bool.and_self, Bool.not_true, Bool.not_false, BEq.rfl, reduceIte, v_mulS, v_modS, compGo_M, compM_map, compM_filter, compM_nil, x_ebool, x_bb, x_iband, x_ibor, x_band, x_bor, Bool.or_false, Bool.false_or, Bool.and_false, Bool.false_and, x_sWhile, v_revAL, v_revAT, v_revC0, x_eRevT, abs_ite, v_any3, v_atm1, v_atm2, v_atm3, v_lastT, v_lastL, Nat.add_zero, Nat.zero_add, nc0, nc1, nc2, nc3, nc4, nc5, nc6, x_pbool, Bool.true_or, Bool.or_true]))
theorem lturnB (a b c : BP) : LTR.m_law_turn [.fz (ptB a), .fz (ptB b), .fz (ptB c)] = pure (.int (Tp a.1 b.1 c.1)) := LTR.lturn_eq a.2 b.2 c.2
def Am (x y p : Pt) : Bool := decide (Tp x y p = 0) && decide ((x.1 - p.1) * (y.1 - p.1) + (x.2 - p.2) * (y.2 - p.2) < 0)
theorem sqp {x y : Int} (h : ¬ (x = 0 ∧ y = 0)) : 0 < x * x + y * y := by
  have k : ∀ x : Int, 0 ≤ x * x ∧ (x ≠ 0 → 0 < x * x) := fun x => by
    rcases Int.lt_trichotomy x 0 with h | h | h
    · have := Int.mul_pos_of_neg_of_neg h h
      exact ⟨by omega, fun _ => this⟩
    · subst h; exact ⟨by decide, fun q => absurd rfl q⟩
    · have := Int.mul_pos h h
      exact ⟨by omega, fun _ => this⟩
  have := k x
  have := k y
  by_cases hx : x = 0
  · have : y ≠ 0 := fun q => h ⟨hx, q⟩
    have := (k y).2 this
    omega
  · have := (k x).2 hx
    omega
/-- on the line and of contrary directions: between -/
theorem am_iff {x y p : Pt} : Am x y p = true ↔ Tp x y p = 0 ∧ ((lx x p = true ∧ lx p y = true) ∨ (lx y p = true ∧ lx p x = true)) := by
  unfold Am
  rw [Bool.and_eq_true, decide_eq_true_eq, decide_eq_true_eq]
  refine and_congr_right fun ht => ?_
  have hc : (x.1 - p.1) * (y.2 - p.2) - (x.2 - p.2) * (y.1 - p.1) = 0 := by
    have : Tp x y p = (x.1 - p.1) * (y.2 - p.2) - (x.2 - p.2) * (y.1 - p.1) := by unfold Tp; grind
    omega
  rw [lx_iff, lx_iff, lx_iff, lx_iff]
  have t : ∀ a b : Int, (a < b ↔ a - b < 0) ∧ (b < a ↔ 0 < a - b) ∧ (a = b ↔ a - b = 0) ∧ (b = a ↔ a - b = 0) := fun a b => by omega
  rw [(t x.1 p.1).1, (t x.1 p.1).2.2.1, (t x.2 p.2).1, (t y.1 p.1).2.1, (t y.1 p.1).2.2.2, (t y.2 p.2).2.1, (t y.1 p.1).1, (t y.1 p.1).2.2.1, (t y.2 p.2).1, (t x.1 p.1).2.1, (t x.1 p.1).2.2.2, (t x.2 p.2).2.1]
  generalize x.1 - p.1 = a at *
  generalize x.2 - p.2 = b at *
  generalize y.1 - p.1 = c at *
  generalize y.2 - p.2 = d at *
  clear t ht
  have i1 : a * (a * c + b * d) = c * (a * a + b * b) := by grind
  have i2 : b * (a * c + b * d) = d * (a * a + b * b) := by grind
  have sgn : ∀ u v N w : Int, 0 < N → w < 0 → u * w = v * N → (0 < u → v < 0) ∧ (u < 0 → 0 < v) ∧ (u = 0 → v = 0) := fun u v N w hN hw e => by
    refine ⟨fun hu => ?_, fun hu => ?_, fun hu => ?_⟩
    · have := Int.mul_neg_of_pos_of_neg hu hw
      apply Classical.byContradiction
      intro hv
      have := Int.mul_nonneg (show 0 ≤ v by omega) (Int.le_of_lt hN)
      omega
    · have := Int.mul_pos_of_neg_of_neg hu hw
      apply Classical.byContradiction
      intro hv
      have := Int.mul_nonneg (show 0 ≤ -v by omega) (Int.le_of_lt hN)
      rw [Int.neg_mul] at this
      omega
    · rw [hu, Int.zero_mul] at e
      rcases Int.mul_eq_zero.mp e.symm with q | q
      · exact q
      · omega
  constructor
  · intro hw
    have N0 : 0 < a * a + b * b := sqp fun q => by rw [q.1, q.2, Int.zero_mul, Int.zero_mul] at hw; omega
    have s1 := sgn a c _ _ N0 hw i1
    have s2 := sgn b d _ _ N0 hw i2
    have nz : ¬ (a = 0 ∧ b = 0) := fun q => by rw [q.1, q.2, Int.zero_mul, Int.zero_mul] at hw; omega
    omega
  · intro h
    have N0 : 0 < a * a + b * b := sqp fun q => by omega
    have key : ∀ u v w : Int, u * w = v * (a * a + b * b) → (u < 0 ∧ 0 < v) ∨ (0 < u ∧ v < 0) → w < 0 := fun u v w e z => by
      rcases z with ⟨z1, z2⟩ | ⟨z1, z2⟩
      · have := Int.mul_pos z2 N0
        apply Classical.byContradiction
        intro hn
        have := Int.mul_nonneg (show 0 ≤ -u by omega) (show 0 ≤ w by omega)
        rw [Int.neg_mul] at this
        omega
      · have := Int.mul_neg_of_neg_of_pos z2 N0
        apply Classical.byContradiction
        intro hn
        have := Int.mul_nonneg (Int.le_of_lt z1) (show 0 ≤ w by omega)
        omega
    by_cases ha : a = 0
    · have hc0 : c = 0 := by
        have i0 : c * (a * a + b * b) = 0 := by rw [← i1, ha]; exact Int.zero_mul _
        rcases Int.mul_eq_zero.mp i0 with q | q
        · exact q
        · omega
      exact key b d _ i2 (by omega)
    · by_cases hc0 : c = 0
      · exfalso
        rw [hc0, Int.mul_zero, Int.sub_zero] at hc
        rcases Int.mul_eq_zero.mp hc with q | q
        · exact ha q
        · omega
      · exact key a c _ i1 (by omega)
local macro_rules | `(tactic| walk_at "ev2") => `(tactic| (try simp only [x_pb, x_fb, x_ba, x_ls, x_ln, x_eVar, x_bVar, x_rdF, x_rdB, x_eC, x_e2, x_e1, x_eList, x_eTup, x_nLst, x_lNil, x_lCons, x_aNil, x_aCons, x_aTape, x_isTp, x_eCal, x_nCal, x_eCall, x_eCut, x_pNone, x_pSome, x_tOf, x_bAnd, x_bOr, x_bNot, x_eIf, x_eAnd, x_eOr, x_eNot, x_eChain, x_lSeq, x_nComp, x_sNext, x_sSeq, x_atN, x_atR, x_atB, x_atC, x_sDrop, x_sRet, x_sIf, x_sAsg, x_mName, x_mSeq, x_mgNil, x_mgCons, x_sOwn, x_sFrz, x_frz, x_sApp, x_owOf, x_sSetI, x_sPar, x_sPar3, x_sFor, x_forN, x_forC, x_loN, x_loC, x_loB, x_loR, x_cN, x_cC, x_bYes, x_oR, x_oN, x_mf0, x_mf1, x_mf2, x_mf3, x_mf4, x_mf5, x_tput, x_sExt, x_nRev, v_isII, v_isBI, v_in3, v_ltDI, v_gtDI, v_leDI, v_geDI, List.getElem?_cons_zero, List.getElem?_cons_succ, List.set_cons_zero, List.set_cons_succ, List.replicate_succ, List.replicate_zero, List.cons_append, List.nil_append, List.length_cons, List.length_nil, v_sub, v_add, v_neg, v_lt, v_le, v_gt, v_ge, v_abs, v_max, v_min, v_intI, v_intB, v_lenL, v_lenT, v_tupL, v_tupT, v_listL, v_listT, v_ixL, v_ixT, v_at0, v_at1, v_at2, v_bool, v_seqL, v_seqT, v_intOf, v_ok0, v_ok1, v_ok2, v_ok3, v_ok4, v_okn, v_ok5, v_ok6, v_ok7, v_ok8, v_ok9, v_ok10, v_ok11, v_ok12, v_ok13, v_ok14, v_ok15, v_ok16, v_ok17, v_ok18, v_ok19, v_ok20, v_ok21, v_ok22, v_ok23, v_ok24, v_ok25, v_ok26, v_ok27, v_ok28, v_ok29, v_ok30, v_ok31, v_ok32, gEq_int, gNe_int, v_rng1, v_rng2, okRg, Int.reducePow, Nat.sub_self, Nat.reduceSub, Nat.reduceAdd, unAll, if_true, if_false, Option.bind_some, Option.bind_none, ite_true, ite_false, Bool.false_eq_true, rgD, Int.reduceBEq, Int.reduceToNat, Int.reduceLT, Int.reduceLE, Int.reduceMul, Int.reduceAdd, Int.reduceSub, Int.reduceNeg, Nat.reduceMul, Nat.reduceLT, Nat.reduceBEq, decide_true, decide_false, Bool.and_true, Bool.true_and, Bool.and_self, Bool.not_true, Bool.not_false, BEq.rfl, reduceIte, v_mulS, v_modS, compGo_M, compM_map, compM_filter, compM_nil, x_ebool, x_bb, x_iband, x_ibor, x_band, x_bor, Bool.or_false, Bool.false_or, Bool.and_false, Bool.false_and, x_sWhile, v_revAL, v_revAT, v_revC0, x_eRevT, abs_ite, v_any3, v_atm1, v_atm2, v_atm3, v_lastT, v_lastL, Nat.add_zero, Nat.zero_add, nc0, nc1, nc2, nc3, nc4, nc5, nc6, x_pbool, Bool.true_or, Bool.or_true, lturnB]))
theorem amid_eq (x y p : BP) : m_law_amid [.fz (ptB x), .fz (ptB y), .fz (ptB p)] = pure (.bool (Am x.1 y.1 p.1)) := by
  unfold m_law_amid Am
  walk_at "ev2"
  by_cases h : Tp x.1 y.1 p.1 = 0
  · rw [show (Tp x.1 y.1 p.1 == 0) = true by simpa using h, decide_eq_true h]
    walk_at "ev2"
  · rw [show (Tp x.1 y.1 p.1 == 0) = false by simpa using h, decide_eq_false h]
    walk_at "ev2"
local macro_rules | `(tactic| walk_at "ev3") => `(tactic| (try simp only [x_pb, x_fb, x_ba, x_ls, x_ln, x_eVar, x_bVar, x_rdF, x_rdB, x_eC, x_e2, x_e1, x_eList, x_eTup, x_nLst, x_lNil, x_lCons, x_aNil, x_aCons, x_aTape, x_isTp, x_eCal, x_nCal, x_eCall, x_eCut, x_pNone, x_pSome, x_tOf, x_bAnd, x_bOr, x_bNot, x_eIf, x_eAnd, x_eOr, x_eNot, x_eChain, x_lSeq, x_nComp, x_sNext, x_sSeq, x_atN, x_atR, x_atB, x_atC, x_sDrop, x_sRet, x_sIf, x_sAsg, x_mName, x_mSeq, x_mgNil, x_mgCons, x_sOwn, x_sFrz, x_frz, x_sApp, x_owOf, x_sSetI, x_sPar, x_sPar3, x_sFor, x_forN, x_forC, x_loN, x_loC, x_loB, x_loR, x_cN, x_cC, x_bYes, x_oR, x_oN, x_mf0, x_mf1, x_mf2, x_mf3, x_mf4, x_mf5, x_tput, x_sExt, x_nRev, v_isII, v_isBI, v_in3, v_ltDI, v_gtDI, v_leDI, v_geDI, List.getElem?_cons_zero, List.getElem?_cons_succ, List.set_cons_zero, List.set_cons_succ, List.replicate_succ, List.replicate_zero, List.cons_append, List.nil_append, List.length_cons, List.length_nil, v_sub, v_add, v_neg, v_lt, v_le, v_gt, v_ge, v_abs, v_max, v_min, v_intI, v_intB, v_lenL, v_lenT, v_tupL, v_tupT, v_listL, v_listT, v_ixL, v_ixT, v_at0, v_at1, v_at2, v_bool, v_seqL, v_seqT, v_intOf, v_ok0, v_ok1, v_ok2, v_ok3, v_ok4, v_okn, v_ok5, v_ok6, v_ok7, v_ok8, v_ok9, v_ok10, v_ok11, v_ok12, v_ok13, v_ok14, v_ok15, v_ok16, v_ok17, v_ok18, v_ok19, v_ok20, v_ok21, v_ok22, v_ok23, v_ok24, v_ok25, v_ok26, v_ok27, v_ok28, v_ok29, v_ok30, v_ok31, v_ok32, gEq_int, gNe_int, v_rng1, v_rng2, okRg, Int.reducePow, Nat.sub_self, Nat.reduceSub, Nat.reduceAdd, unAll, if_true, if_false, Option.bind_some, Option.bind_none, ite_true, ite_false, Bool.false_eq_true, rgD, Int.reduceBEq, Int.reduceToNat, Int.reduceLT, Int.reduceLE, Int.reduceMul, Int.reduceAdd, Int.reduceSub, Int.reduceNeg, Nat.reduceMul, Nat.reduceLT, Nat.reduceBEq, decide_true, decide_false, Bool.and_true, Bool.true_and, Bool.and_self, Bool.not_true, Bool.not_false, BEq.rfl, reduceIte, v_mulS, v_modS, compGo_M, compM_map, compM_filter, compM_nil, x_ebool, x_bb, x_iband, x_ibor, x_band, x_bor, Bool.or_false, Bool.false_or, Bool.and_false, Bool.false_and, x_sWhile, v_revAL, v_revAT, v_revC0, x_eRevT, abs_ite, v_any3, v_atm1, v_atm2, v_atm3, v_lastT, v_lastL, Nat.add_zero, Nat.zero_add, nc0, nc1, nc2, nc3, nc4, nc5, nc6, x_pbool, Bool.true_or, Bool.or_true, lturnB, amid_eq]))
theorem v_eqNilB (l : List BP) : gEq (.list (l.map ptB)) (.list []) = some (.bool l.isEmpty) := by
  have := v_eqNil (vals l)
  rw [ptB_map] at this
  rw [this]
  cases l <;> rfl
theorem eqv_ptB (a b : BP) : PyData.eqv (ptB a) (ptB b) = decide (a = b) := by
  rw [eqv_pt]
  exact decide_eq_decide.mpr ⟨fun h => Subtype.ext h, fun h => by rw [h]⟩
theorem v_eqPt (a b : BP) : gEq (ptB a) (ptB b) = some (.bool (decide (a = b))) := by
  rw [← eqv_ptB]
  rfl
theorem v_nePt (a b : BP) : gNe (ptB a) (ptB b) = some (.bool (!decide (a = b))) := by
  rw [← eqv_ptB]
  rfl
def good (l : List BP) (x y : BP) : Bool := !decide (y = x) && ((l.filter fun p => decide (Tp x.1 y.1 p.1 < 0)).isEmpty && (l.filter fun p => Am x.1 y.1 p.1).isEmpty)
theorem good_iff {l : List BP} {x y : BP} : good l x y = true ↔ HU.Edge (vals l) x.1 y.1 := by
  unfold good
  rw [Bool.and_eq_true, Bool.and_eq_true, Bool.not_eq_true', decide_eq_false_iff_not, List.isEmpty_iff, List.isEmpty_iff, List.filter_eq_nil_iff, List.filter_eq_nil_iff]
  constructor
  · intro ⟨h1, h2, h3⟩
    have ge : ∀ p ∈ vals l, 0 ≤ Tp x.1 y.1 p := fun p hp => by
      obtain ⟨q, hq, rfl⟩ := List.mem_map.mp hp
      have := h2 q hq
      rw [decide_eq_true_eq] at this
      omega
    refine ⟨fun e => h1 (Subtype.ext e.symm), ge, fun p hp z => ?_⟩
    have g := ge p hp
    obtain ⟨q, hq, rfl⟩ := List.mem_map.mp hp
    rcases Int.lt_or_eq_of_le g with g | g
    · exact g
    · exact absurd (am_iff.mpr ⟨g.symm, z⟩) (h3 q hq)
  · intro h
    refine ⟨fun e => h.ne (by rw [e]), fun p hp => ?_, fun p hp z => ?_⟩
    · have := h.ge p.1 (List.mem_map_of_mem hp)
      rw [decide_eq_true_eq]
      omega
    · obtain ⟨z1, z2⟩ := am_iff.mp z
      have := h.gt p.1 (List.mem_map_of_mem hp) z2
      omega
theorem next_eq (l : List BP) (hl : l.length ≤ 1000) (x : BP) : m_law_next [.fz (.tuple (l.map ptB)), .fz (ptB x)] = pure (ptB ((l.find? (good l x)).getD x)) := by
  unfold m_law_next
  rw [x_mf2]
  show (sSeq _ _ [.fz (.tuple (l.map ptB)), .fz (ptB x), .un, .un, .un, .un] >>= outD) = _
  rw [x_sSeq, x_sFor, x_lSeq, show eVar 0 [.fz (.tuple (l.map ptB)), .fz (ptB x), .un, .un, .un, .un] = pure (.tuple (l.map ptB)) from rfl, x_pb, v_seqT, x_ls, x_pb, x_ba]
  have ok : okLen (l.map ptB).length = true := okLen_of (by rw [List.length_map]; omega)
  refine find_k (fun ρ => ∃ s2 s3 s4 s5 : Sl, ρ = [.fz (.tuple (l.map ptB)), .fz (ptB x), s2, s3, s4, s5]) (good l x) ptB l ⟨_, _, _, _, rfl⟩ (fun y hy ρ hρ => ?_) (fun y e => ?_) fun e ρ' hI => ?_
  · obtain ⟨s2, s3, s4, s5, rfl⟩ := hρ
    refine ⟨[.fz (.tuple (l.map ptB)), .fz (ptB x), .fz (ptB y), .fz (.list ((l.filter fun p => decide (Tp x.1 y.1 p.1 < 0)).map ptB)), s4, .fz (.list ((l.filter fun p => Am x.1 y.1 p.1).map ptB))], ⟨_, _, _, _, rfl⟩, ?_⟩
    walk_at "ev3"
    rw [ok]
    walk_at "ev3"
    rw [v_nePt, v_eqNilB, v_eqNilB]
    walk_at "ev3"
    rfl
  · walk_at "ev3"
    rw [e]
    rfl
  · obtain ⟨s2, s3, s4, s5, rfl⟩ := hI
    walk_at "ev3"
    rw [e]
    rfl
theorem next_of {m : Nat} {l : List BP} (h : FB m l) {x y : BP} (hx : x ∈ l) (hy : y ∈ l) (e : HU.Edge (vals l) x.1 y.1) : (l.find? (good l x)).getD x = y := by
  cases hf : l.find? (good l x) with
  | none =>
    have := List.find?_eq_none.mp hf y hy
    rw [good_iff] at this
    exact absurd e this
  | some y' =>
    have e' := good_iff.mp (List.find?_some hf)
    have hy' := List.mem_of_find?_eq_some hf
    exact (Subtype.ext (HU.edge_one h.non e e' (List.mem_map_of_mem hy) (List.mem_map_of_mem hy') (List.mem_map_of_mem hx))).symm
/-! ### the rim -/
theorem adj_at {R : Pt → Pt → Prop} : ∀ {l : List Pt} {k : Nat} {x y : Pt}, HU.Adj R l → l[k]? = some x → l[k + 1]? = some y → R x y
  | [], _, _, _, _, h, _ => by simp at h
  | [_], 0, _, _, _, _, h => by simp at h
  | [_], k + 1, _, _, _, h, _ => by simp at h
  | a :: b :: l, 0, x, y, ha, h1, h2 => by
    simp at h1 h2
    rw [← h1, ← h2]
    exact ha.1
  | a :: b :: l, k + 1, x, y, ha, h1, h2 => adj_at (l := b :: l) (k := k) ha.2 (by simpa using h1) (by simpa using h2)
/-- what the hull of a field is, typed -/
structure HB (l H : List BP) (a : BP) : Prop where
  first : H[0]? = some a
  lfirst : l[0]? = some a
  mem : ∀ p ∈ H, p ∈ l
  edge : ∀ k x y, H[k]? = some x → H[k + 1]? = some y → HU.Edge (vals l) x.1 y.1
  close : ∀ x, H[H.length - 1]? = some x → HU.Edge (vals l) x.1 a.1
  once : ∀ k x, H[k + 1]? = some x → x ≠ a
  len : H.length ≤ l.length
  ne : H ≠ []
theorem hullB_ok {m : Nat} {l : List BP} (h : FB m l) : ∃ a, HB l (hullB l) a := by
  obtain ⟨c, d, a, z, ok, e⟩ := HU.hull_parts h.rise h.two
  have hv := (hullB_val l).trans e
  obtain ⟨t, et, ht⟩ := ok.first
  have hd := ok.lhd
  cases l with
  | nil => cases hd
  | cons a0 l' =>
    have ea : a0.1 = a := by
      have : (vals (a0 :: l')).head? = some a0.1 := rfl
      rw [this] at hd
      exact Option.some.inj hd
    have mem : ∀ p ∈ hullB (a0 :: l'), p ∈ a0 :: l' := fun p hp => by
      have hp' : p.1 ∈ vals (hullB (a0 :: l')) := List.mem_map_of_mem hp
      rw [hv] at hp'
      obtain ⟨q, hq, e⟩ := List.mem_map.mp (ok.mem _ hp')
      rw [← Subtype.ext e]
      exact hq
    have first : (hullB (a0 :: l'))[0]? = some a0 := by
      cases e0 : hullB (a0 :: l') with
      | nil => rw [e0, et] at hv; cases hv
      | cons x r =>
        rw [e0, et] at hv
        have : x.1 = a := (List.cons.inj hv).1
        rw [List.getElem?_cons_zero, Subtype.ext (this.trans ea.symm)]
    refine ⟨a0, ⟨first, rfl, mem, fun k x y hx hy => ?_, fun x hx => ?_, fun k x hx e1 => ?_, ?_, fun e0 => by rw [e0] at first; cases first⟩⟩
    · have ad := ok.adj
      refine adj_at (k := k) ad ?_ ?_
      · rw [← hv, List.getElem?_append_left (by rw [List.length_map]; exact (List.getElem?_eq_some_iff.mp hx).1), List.getElem?_map, hx]
        rfl
      · rw [← hv, List.getElem?_append_left (by rw [List.length_map]; exact (List.getElem?_eq_some_iff.mp hy).1), List.getElem?_map, hy]
        rfl
    · have ad := ok.adj
      have hlt := (List.getElem?_eq_some_iff.mp hx).1
      rw [ea]
      refine adj_at (k := (hullB (a0 :: l')).length - 1) ad ?_ ?_
      · rw [← hv, List.getElem?_append_left (by rw [List.length_map]; exact hlt), List.getElem?_map, hx]
        rfl
      · rw [← hv, List.getElem?_append_right (by rw [List.length_map]; omega), List.length_map]
        rw [show (hullB (a0 :: l')).length - 1 + 1 - (hullB (a0 :: l')).length = 0 by omega]
        rfl
    · have : (vals (hullB (a0 :: l')))[k + 1]? = some x.1 := by rw [List.getElem?_map, hx]; rfl
      rw [hv, et, List.getElem?_cons_succ] at this
      have := ht _ (List.mem_of_getElem? this)
      rw [e1, ea, lx_iff] at this
      omega
    · have := HU.nodup_len (ok.nodup h.rise h.non) ok.mem
      rw [← hv, List.length_map, List.length_map] at this
      exact this
theorem rim_eq {m : Nat} {l : List BP} (h : FB m l) (hm : m ≤ 100) : m_law_rim [.fz (.tuple (l.map ptB))] = pure (.list ((hullB l).map ptB)) := by
  have hl := h.len
  obtain ⟨a, ok⟩ := hullB_ok h
  generalize hullB l = H at *
  have hH := ok.len
  have hp : 0 < H.length := List.length_pos_iff.mpr ok.ne
  have at0 : L2.atI (l.map ptB) 0 = some (ptB a) := v_atN (n := 0) rfl (by rw [List.getElem?_map, ok.lfirst]; rfl)
  unfold m_law_rim
  rw [x_mf1, x_sSeq]
  show (sOwn 1 _ [.fz (.tuple (l.map ptB)), .un, .un, .un] >>= _) >>= _ = _
  have e0 : sOwn 1 (nLst (lCons (e2 gIx (bVar 0) (eC (.int 0))) lNil)) [.fz (.tuple (l.map ptB)), .un, .un, .un] = pure (.nx [.fz (.tuple (l.map ptB)), .ow [ptB a], .un, .un]) := by
    walk_at "ev3"
    rw [at0]
    walk_at "ev3"
  rw [x_ba, e0, x_pb, x_atN, x_sSeq, x_sFor]
  have er : nCal rng1 (lCons (eCal cLen (lCons (bVar 0) lNil)) lNil) [.fz (.tuple (l.map ptB)), .ow [ptB a], .un, .un] = pure (rgD 0 l.length) := by
    walk_at "ev3"
    rw [List.length_map, v_rng1 (by unfold okRg; rw [Bool.and_eq_true]; exact ⟨decide_eq_true (by omega), decide_eq_true (by omega)⟩)]
    walk_at "ev3"
    rw [Int.toNat_natCast]
  rw [er, x_pb]
  obtain ⟨k, ek⟩ : ∃ k, l.length = (H.length - 1) + (k + 1) := ⟨l.length - H.length, by omega⟩
  rw [ek, rgD_app, rgD_range, x_ba]
  -- the first turns
  obtain ⟨ρ', e2, s2, s3, hI⟩ := for_pre (e0 := fun i : Nat => PyData.int (0 + i)) (g := mName 2) (b := sSeq (sAsg (eCall LHL.m_law_next (aCons (eVar 0) (aCons (e2 gIx (bVar 1) (e1 gNeg (eC (.int 1)))) aNil))) (mName 3))
      (sSeq (sIf (tOf (e2 gEq (bVar 3) (e2 gIx (bVar 0) (eC (.int 0))))) (sFrz 1 (sRet (eVar 1))) sNext) (sApp 1 (eVar 3)))) (fun i ρ => ∃ s2 s3 : Sl, ρ = [.fz (.tuple (l.map ptB)), .ow ((H.take (i + 1)).map ptB), s2, s3]) (rgD (0 + ((H.length - 1 : Nat) : Int)) (k + 1)) (List.range (H.length - 1)) 0 [.fz (.tuple (l.map ptB)), .ow [ptB a], .un, .un]
    (fun i j hj ρ hρ => by
      obtain ⟨s2, s3, rfl⟩ := hρ
      rw [Nat.zero_add] at *
      have hi : i < H.length - 1 := by simpa using (List.getElem?_eq_some_iff.mp hj).1
      obtain ⟨x, hx⟩ : ∃ x, H[i]? = some x := ⟨H[i], List.getElem?_eq_getElem (by omega)⟩
      obtain ⟨y, hy⟩ : ∃ y, H[i + 1]? = some y := ⟨H[i + 1], List.getElem?_eq_getElem (by omega)⟩
      have tk : H.take (i + 1) = H.take i ++ [x] := by rw [List.take_succ, hx]; rfl
      have tk2 : H.take (i + 1 + 1) = H.take (i + 1) ++ [y] := by rw [List.take_succ (i := i + 1), hy]; rfl
      refine ⟨[.fz (.tuple (l.map ptB)), .ow ((H.take (i + 1 + 1)).map ptB), .fz (.int (0 + j)), .fz (ptB y)], ?_, _, _, rfl⟩
      walk_at "ev3"
      rw [tk, List.map_append, List.map_singleton, v_atL1]
      walk_at "ev3"
      rw [next_eq l (by omega), next_of h (ok.mem x (List.mem_of_getElem? hx)) (ok.mem y (List.mem_of_getElem? hy)) (ok.edge i x y hx hy)]
      walk_at "ev3"
      rw [at0]
      walk_at "ev3"
      rw [v_eqPt, decide_eq_false (ok.once i y hy)]
      walk_at "ev3"
      rw [okLen_of (by rw [List.length_append, List.length_map, List.length_take, List.length_singleton]; omega)]
      walk_at "ev3"
      rw [tk2, tk, List.map_append, List.map_append]
      rfl) ⟨_, _, by
      have : H.take (0 + 1) = [a] := by rw [List.take_succ, ok.first]; rfl
      rw [this]; rfl⟩
  rw [e2]
  rw [Nat.zero_add, List.length_range, show H.length - 1 + 1 = H.length by omega, List.take_length] at hI
  rw [hI]
  obtain ⟨x, hx⟩ : ∃ x, H[H.length - 1]? = some x := ⟨H[H.length - 1], List.getElem?_eq_getElem (by omega)⟩
  have sp : H = H.take (H.length - 1) ++ [x] := by
    have := List.take_succ (l := H) (i := H.length - 1)
    rw [hx, show H.length - 1 + 1 = H.length by omega, List.take_length] at this
    exact this
  rw [rgD, x_forC, x_mName, x_ls, x_pb]
  rw [sp, List.map_append, List.map_singleton]
  walk_at "ev3"
  rw [v_atL1]
  walk_at "ev3"
  rw [next_eq l (by omega), next_of h (ok.mem x (List.mem_of_getElem? hx)) (List.mem_of_getElem? ok.lfirst) (ok.close x hx)]
  walk_at "ev3"
  rw [at0]
  walk_at "ev3"
  rw [v_eqPt, decide_eq_true rfl]
  walk_at "ev3"
end LHL

set_option maxHeartbeats 1000000
namespace LPR
open DL PySem LFD LHL
local macro_rules | `(tactic| walk_at "ev") => `(tactic| (try simp only [x_pb, x_fb, x_ba, x_ls, x_ln, x_eVar, x_bVar, x_rdF, x_rdB, x_eC, x_e2, x_e1, x_eList, x_eTup, x_nLst, x_lNil, x_lCons, x_aNil, x_aCons, x_aTape, x_isTp, x_eCal, x_nCal, x_eCall, x_eCut, x_pNone, x_pSome, x_tOf, x_bAnd, x_bOr, x_bNot, x_eIf, x_eAnd, x_eOr, x_eNot, x_eChain, x_lSeq, x_nComp, x_sNext, x_sSeq, x_atN, x_atR, x_atB, x_atC, x_sDrop, x_sRet, x_sIf, x_sAsg, x_mName, x_mSeq, x_mgNil, x_mgCons, x_sOwn, x_sFrz, x_frz, x_sApp, x_owOf, x_sSetI, x_sPar, x_sPar3, x_sFor, x_forN, x_forC, x_loN, x_loC, x_loB, x_loR, x_cN, x_cC, x_bYes, x_oR, x_oN, x_mf0, x_mf1, x_mf2, x_mf3, x_mf4, x_mf5, x_tput, x_sExt, x_nRev, v_isII, v_isBI, v_in3, v_ltDI, v_gtDI, v_leDI, v_geDI, List.getElem?_cons_zero, List.getElem?_cons_succ, List.set_cons_zero, List.set_cons_succ, List.replicate_succ, List.replicate_zero, List.cons_append, List.nil_append, List.length_cons, List.length_nil, v_sub, v_add, v_neg, v_lt, v_le, v_gt, v_ge, v_abs, v_max, v_min, v_intI, v_intB, v_lenL, v_lenT, v_tupL, v_tupT, v_listL, v_listT, v_ixL, v_ixT, v_at0, v_at1, v_at2, v_bool, v_seqL, v_seqT, v_intOf, v_ok0, v_ok1, v_ok2, v_ok3, v_ok4, v_okn, v_ok5, v_ok6, v_ok7, v_ok8, v_ok9, v_ok10, v_ok11, v_ok12, v_ok13, v_ok14, v_ok15, v_ok16, v_ok17, v_ok18, v_ok19, v_ok20, v_ok21, v_ok22, v_ok23, v_ok24, v_ok25, v_ok26, v_ok27, v_ok28, v_ok29, v_ok30, v_ok31, v_ok32, gEq_int, gNe_int, v_rng1, v_rng2, okRg, Int.reducePow, Nat.sub_self, Nat.reduceSub, Nat.reduceAdd, unAll, if_true, if_false, Option.bind_some, Option.bind_none, ite_true, ite_false, Bool.false_eq_true, rgD, Int.reduceBEq, Int.reduceToNat, Int.reduceLT, Int.reduceLE, Int.reduceMul, Int.reduceAdd, Int.reduceSub, Int.reduceNeg, Nat.reduceMul, Nat.reduceLT, Nat.reduceBEq, decide_true, decide_false, Bool.and_true, Bool.true_and, Bool.and_self, Bool.not_true, Bool.not_false, BEq.rfl, reduceIte]))
local macro_rules | `(tactic| walk_at "evt") => `(tactic| (try simp only [x_pb, x_fb, x_ba, x_ls, x_ln, x_eVar, x_bVar, x_rdF, x_rdB, x_eC, x_e2, x_e1, x_eList, x_eTup, x_nLst, x_lNil, x_lCons, x_aNil, x_aCons, x_aTape, x_isTp, x_eCal, x_nCal, x_eCall, x_eCut, x_pNone, x_pSome, x_tOf, x_bAnd, x_bOr, x_bNot, x_eIf, x_eAnd, x_eOr, x_eNot, x_eChain, x_lSeq, x_nComp, x_sNext, x_sSeq, x_atN, x_atR, x_atB, x_atC, x_sDrop, x_sRet, x_sIf, x_sAsg, x_mName, x_mSeq, x_mgNil, x_mgCons, x_sOwn, x_sFrz, x_frz, x_sApp, x_owOf, x_sSetI, x_sPar, x_sPar3, x_sFor, x_forN, x_forC, x_loN, x_loC, x_loB, x_loR, x_cN, x_cC, x_bYes, x_oR, x_oN, x_mf0, x_mf1, x_mf2, x_mf3, x_mf4, x_mf5, x_tput, x_sExt, x_nRev, v_isII, v_isBI, v_in3, v_ltDI, v_gtDI, v_leDI, v_geDI, List.getElem?_cons_zero, List.getElem?_cons_succ, List.set_cons_zero, List.set_cons_succ, List.replicate_succ, List.replicate_zero, List.cons_append, List.nil_append, List.length_cons, List.length_nil, v_sub, v_add, v_neg, v_lt, v_le, v_gt, v_ge, v_abs, v_max, v_min, v_intI, v_intB, v_lenL, v_lenT, v_tupL, v_tupT, v_listL, v_listT, v_ixL, v_ixT, v_at0, v_at1, v_at2, v_bool, v_seqL, v_seqT, v_intOf, v_ok0, v_ok1, v_ok2, v_ok3, v_ok4, v_okn, v_ok5, v_ok6, v_ok7, v_ok8, v_ok9, v_ok10, v_ok11, v_ok12, v_ok13, v_ok14, v_ok15, v_ok16, v_ok17, v_ok18, v_ok19, v_ok20, v_ok21, v_ok22, v_ok23, v_ok24, v_ok25, v_ok26, v_ok27, v_ok28, v_ok29, v_ok30, v_ok31, v_ok32, gEq_int, gNe_int, v_rng1, v_rng2, okRg, Int.reducePow, Nat.sub_self, Nat.reduceSub, Nat.reduceAdd, unAll, if_true, if_false, Option.bind_some, Option.bind_none, ite_true, ite_false, Bool.false_eq_true, rgD, Int.reduceBEq, Int.reduceToNat, Int.reduceLT, Int.reduceLE, Int.reduceMul, Int.reduceAdd, Int.reduceSub, Int.reduceNeg, Nat.reduceMul, Nat.reduceLT, Nat.reduceBEq, decide_true, decide_false, Bool.and_true, Bool.true_and, Bool.and_self, Bool.not_true, Bool.not_false, BEq.rfl, reduceIte, bnd_ap, pure_ap, lift_ap, fail_ap, ite_ap, x_tget, x_doPut, fldOf, tSet, Option.map_some, Option.map_none, beq_self_eq_true, Bool.and_true, Bool.true_and]))
local macro_rules | `(tactic| walk_at "ev1") => `(tactic| (try simp only [x_pb, x_fb, x_ba, x_ls, x_ln, x_eVar, x_bVar, x_rdF, x_rdB, x_eC, x_e2, x_e1, x_eList, x_eTup, x_nLst, x_lNil, x_lCons, x_aNil, x_aCons, x_aTape, x_isTp, x_eCal, x_nCal, x_eCall, x_eCut, x_pNone, x_pSome, x_tOf, x_bAnd, x_bOr, x_bNot, x_eIf, x_eAnd, x_eOr, x_eNot, x_eChain, x_lSeq, x_nComp, x_sNext, x_sSeq, x_atN, x_atR, x_atB, x_atC, x_sDrop, x_sRet, x_sIf, x_sAsg, x_mName, x_mSeq, x_mgNil, x_mgCons, x_sOwn, x_sFrz, x_frz, x_sApp, x_owOf, x_sSetI, x_sPar, x_sPar3, x_sFor, x_forN, x_forC, x_loN, x_loC, x_loB, x_loR, x_cN, x_cC, x_bYes, x_oR, x_oN, x_mf0, x_mf1, x_mf2, x_mf3, x_mf4, x_mf5, x_tput, x_sExt, x_nRev, v_isII, v_isBI, v_in3, v_ltDI, v_gtDI, v_leDI, v_geDI, List.getElem?_cons_zero, List.getElem?_cons_succ, List.set_cons_zero, List.set_cons_succ, List.replicate_succ, List.replicate_zero, List.cons_append, List.nil_append, List.length_cons, List.length_nil, v_sub, v_add, v_neg, v_lt, v_le, v_gt, v_ge, v_abs, v_max, v_min, v_intI, v_intB, v_lenL, v_lenT, v_tupL, v_tupT, v_listL, v_listT, v_ixL, v_ixT, v_at0, v_at1, v_at2, v_bool, v_seqL, v_seqT, v_intOf, v_ok0, v_ok1, v_ok2, v_ok3, v_ok4, v_okn, v_ok5, v_ok6, v_ok7, v_ok8, v_ok9, v_ok10, v_ok11, v_ok12, v_ok13, v_ok14, v_ok15, v_ok16, v_ok17, v_ok18, v_ok19, v_ok20, v_ok21, v_ok22, v_ok23, v_ok24, v_ok25, v_ok26, v_ok27, v_ok28, v_ok29, v_ok30, v_ok31, v_ok32, gEq_int, gNe_int, v_rng1, v_rng2, okRg, Int.reducePow, Nat.sub_self, Nat.reduceSub, Nat.reduceAdd, unAll, if_true, if_false, Option.bind_some, Option.bind_none, ite_true, ite_false, Bool.false_eq_true, rgD, Int.reduceBEq, Int.reduceToNat, Int.reduceLT, Int.reduceLE, Int.reduceMul, Int.reduceAdd, Int.reduceSub, Int.reduceNeg, Nat.reduceMul, Nat.reduceLT, Nat.reduceBEq, decide_true, decide_false, Bool.and_true, Bool.true_and, Bool.and_self, Bool.not_true, Bool.not_false, BEq.rfl, reduceIte, v_mulS, v_modS, compGo_M, compM_map, compM_filter, compM_nil, x_ebool, x_bb, x_iband, x_ibor, x_band, x_bor, Bool.or_false, Bool.false_or, Bool.and_false, Bool.false_and, x_sWhile, v_revAL, v_revAT, v_revC0, x_eRevT, abs_ite, v_any3, v_atm1, v_atm2, v_atm3, v_lastT, v_lastL, Nat.add_zero, Nat.zero_add, nc0, nc1, nc2, nc3, nc4, nc5, nc6, x_pbool, Bool.true_or, Bool.or_true]))
/-! the area of the hull -/
def gp (H : List Pt) (k : Nat) : Pt := H.getD k (0, 0)
def arL (r : Pt) (L : List Pt) (i : Nat) : Int := ((Tp r (gp L i) (gp L (i + 1))).natAbs : Int)
theorem arL_sum (r : Pt) : ∀ L : List Pt, (∀ k x y, L[k]? = some x → L[k + 1]? = some y → 0 ≤ Tp r x y) → ((List.range (L.length - 1)).map (arL r L)).sum = HU.fan r L
  | [], _ => rfl
  | [_], _ => rfl
  | x :: y :: l, h => by
    have ih := arL_sum r (y :: l) fun k u v hu hv => h (k + 1) u v (by simpa using hu) (by simpa using hv)
    have h0 := h 0 x y rfl rfl
    show ((List.range (l.length + 1)).map (arL r (x :: y :: l))).sum = Tp r x y + HU.fan r (y :: l)
    rw [List.range_succ_eq_map, List.map_cons, List.sum_cons, List.map_map, ← ih]
    have e0 : arL r (x :: y :: l) 0 = Tp r x y := by
      show ((Tp r x y).natAbs : Int) = Tp r x y
      omega
    rw [e0]
    rfl
theorem gp_of {H : List BP} {k : Nat} {x : BP} (h : H[k]? = some x) : gp (vals H) k = x.1 := by
  unfold gp
  rw [List.getD_eq_getElem?_getD, List.getElem?_map, h]
  rfl
local macro_rules | `(tactic| walk_at "ev2") => `(tactic| (try simp only [x_pb, x_fb, x_ba, x_ls, x_ln, x_eVar, x_bVar, x_rdF, x_rdB, x_eC, x_e2, x_e1, x_eList, x_eTup, x_nLst, x_lNil, x_lCons, x_aNil, x_aCons, x_aTape, x_isTp, x_eCal, x_nCal, x_eCall, x_eCut, x_pNone, x_pSome, x_tOf, x_bAnd, x_bOr, x_bNot, x_eIf, x_eAnd, x_eOr, x_eNot, x_eChain, x_lSeq, x_nComp, x_sNext, x_sSeq, x_atN, x_atR, x_atB, x_atC, x_sDrop, x_sRet, x_sIf, x_sAsg, x_mName, x_mSeq, x_mgNil, x_mgCons, x_sOwn, x_sFrz, x_frz, x_sApp, x_owOf, x_sSetI, x_sPar, x_sPar3, x_sFor, x_forN, x_forC, x_loN, x_loC, x_loB, x_loR, x_cN, x_cC, x_bYes, x_oR, x_oN, x_mf0, x_mf1, x_mf2, x_mf3, x_mf4, x_mf5, x_tput, x_sExt, x_nRev, v_isII, v_isBI, v_in3, v_ltDI, v_gtDI, v_leDI, v_geDI, List.getElem?_cons_zero, List.getElem?_cons_succ, List.set_cons_zero, List.set_cons_succ, List.replicate_succ, List.replicate_zero, List.cons_append, List.nil_append, List.length_cons, List.length_nil, v_sub, v_add, v_neg, v_lt, v_le, v_gt, v_ge, v_abs, v_max, v_min, v_intI, v_intB, v_lenL, v_lenT, v_tupL, v_tupT, v_listL, v_listT, v_ixL, v_ixT, v_at0, v_at1, v_at2, v_bool, v_seqL, v_seqT, v_intOf, v_ok0, v_ok1, v_ok2, v_ok3, v_ok4, v_okn, v_ok5, v_ok6, v_ok7, v_ok8, v_ok9, v_ok10, v_ok11, v_ok12, v_ok13, v_ok14, v_ok15, v_ok16, v_ok17, v_ok18, v_ok19, v_ok20, v_ok21, v_ok22, v_ok23, v_ok24, v_ok25, v_ok26, v_ok27, v_ok28, v_ok29, v_ok30, v_ok31, v_ok32, gEq_int, gNe_int, v_rng1, v_rng2, okRg, Int.reducePow, Nat.sub_self, Nat.reduceSub, Nat.reduceAdd, unAll, if_true, if_false, Option.bind_some, Option.bind_none, ite_true, ite_false, Bool.false_eq_true, rgD, Int.reduceBEq, Int.reduceToNat, Int.reduceLT, Int.reduceLE, Int.reduceMul, Int.reduceAdd, Int.reduceSub, Int.reduceNeg, Nat.reduceMul, Nat.reduceLT, Nat.reduceBEq, decide_true, decide_false, Bool.and_true, Bool.true_and, Bool.and_self, Bool.not_true, Bool.not_false, BEq.rfl, reduceIte, v_mulS, v_modS, compGo_M, compM_map, compM_filter, compM_nil, x_ebool, x_bb, x_iband, x_ibor, x_band, x_bor, Bool.or_false, Bool.false_or, Bool.and_false, Bool.false_and, x_sWhile, v_revAL, v_revAT, v_revC0, x_eRevT, abs_ite, v_any3, v_atm1, v_atm2, v_atm3, v_lastT, v_lastL, Nat.add_zero, Nat.zero_add, nc0, nc1, nc2, nc3, nc4, nc5, nc6, x_pbool, Bool.true_or, Bool.or_true, area_eq]))
theorem area_hull {m : Nat} {l : List BP} (h : FB m l) (hm : m ≤ 100) : ∃ (a : BP) (R : List BP), hullB l = a :: R ∧ m_hull_area [.fz (.tuple (l.map ptB))] = pure (.int (HU.fan a.1 (vals R))) := by
  have hl := h.len
  obtain ⟨a, ok⟩ := hullB_ok h
  have he := hull_eq h hm
  have hH := ok.len
  match e : hullB l, ok.ne with
  | x :: R, _ =>
    rw [e] at ok he hH
    have ex : x = a := by
      have := ok.first
      simpa using this
    subst ex
    refine ⟨x, R, rfl, ?_⟩
    unfold m_hull_area
    walk_at "ev2"
    rw [he]
    walk_at "ev2"
    have okr : ∀ n : Int, 0 ≤ n → n ≤ 1000 → okRg n = true := fun n h0 h1 => by unfold okRg; rw [Bool.and_eq_true]; exact ⟨decide_eq_true (by omega), decide_eq_true (by omega)⟩
    rw [List.length_map]
    rw [v_rng2 (okr 1 (by decide) (by decide)) (okr _ (by rw [List.length_cons]; omega) (by rw [List.length_cons] at hH ⊢; omega))]
    rw [show (((x :: R).length : Int) - 1 - 1).toNat = R.length - 1 by rw [List.length_cons]; omega]
    walk_at "ev2"
    rw [rgD_len, okLen_of (by rw [List.length_cons] at hH; omega)]
    walk_at "ev2"
    rw [rgD_range, compGo_map (fun i : Nat => PyData.int (1 + i)) (fun _ => true) (fun i => PyData.int (arL x.1 (vals R) i)) _ (fun i hi => ?_)]
    · walk_at "ev2"
      rw [List.filter_eq_self.mpr fun _ _ => rfl, show (fun i => PyData.int (arL x.1 (vals R) i)) = PyData.int ∘ arL x.1 (vals R) from rfl, ← List.map_map, v_sumI]
      walk_at "ev2"
      have := arL_sum x.1 (vals R) fun k u v hu hv => by
        rw [List.getElem?_map] at hu hv
        obtain ⟨u', hu', rfl⟩ := Option.map_eq_some_iff.mp hu
        obtain ⟨v', hv', rfl⟩ := Option.map_eq_some_iff.mp hv
        have ed := ok.edge (k + 1) u' v' (by simpa using hu') (by simpa using hv')
        have := ed.ge x.1 (List.mem_map_of_mem (List.mem_of_getElem? ok.lfirst))
        rw [show Tp x.1 u'.1 v'.1 = Tp u'.1 v'.1 x.1 by unfold Tp; grind]
        exact this
      rw [List.length_map] at this
      rw [this]
    · have hi' := List.mem_range.mp hi
      obtain ⟨u, hu⟩ : ∃ u, R[i]? = some u := ⟨R[i], List.getElem?_eq_getElem (by omega)⟩
      obtain ⟨v, hv⟩ : ∃ v, R[i + 1]? = some v := ⟨R[i + 1], List.getElem?_eq_getElem (by omega)⟩
      refine ⟨_, rfl, rfl, fun _ => ?_⟩
      walk_at "ev2"
      rw [v_atN (n := 0) (i := 0) rfl (d := ptB x) rfl]
      walk_at "ev2"
      rw [v_atN (n := i + 1) (i := 1 + (i : Int)) (by omega) (d := ptB u) (by rw [List.map_cons, List.getElem?_cons_succ, List.getElem?_map, hu]; rfl)]
      walk_at "ev2"
      rw [v_atN (n := i + 2) (i := 1 + (i : Int) + 1) (by omega) (d := ptB v) (by rw [List.map_cons, List.getElem?_cons_succ, List.getElem?_map, hv]; rfl)]
      walk_at "ev2"
      unfold arL
      rw [gp_of hu, gp_of hv]
/-! fields as typed lists -/
theorem field_B {mm : Int} (m1 : 9 ≤ mm) (m2 : mm ≤ 16) : Gv 0 (LFD.m_law_field [.tp, .fz (.int mm)]) 70 fun d => ∃ l : List BP, d = .tuple (l.map ptB) ∧ FB mm.toNat l ∧ FieldOk mm.toNat (vals l) := by
  refine Gv.imp (field_gv m1 m2) fun d ⟨ps, e, ok⟩ => ?_
  obtain ⟨l, rfl⟩ := bp_list ps ok.bd
  exact ⟨l, by rw [e, ptB_map], ⟨ok.rise, by have := ok.len; rwa [List.length_map] at this, ok.non⟩, ok⟩
theorem Rpb.field {l : List BP} {n : Nat} (hn : l.length ≤ n) : Rpb (.tuple (l.map ptB)) 2 (23 * n) := Rpb.tuple (k := 1) (w := 22) (n := n) (fun p hp => Rpb.pt p.2) hn
theorem Rpb.intB {i : Int} (h : i.natAbs < 2 ^ 100) : Rpb (.int i) 0 100 :=
  ⟨by rw [leafOk]; exact decide_eq_true (Nat.lt_of_lt_of_le h (Nat.pow_le_pow_right (by decide) (by decide))), Nat.le_refl _, by
    rw [PyData.weight]
    split
    · exact Nat.zero_le _
    · rename_i hz
      have z : i.natAbs ≠ 0 := by
        intro e
        exact hz (by simp; omega)
      have := (Nat.log2_lt z).mpr h
      omega⟩
end LPR

set_option maxHeartbeats 1000000
namespace LPR
open DL PySem LFD LHL
local macro_rules | `(tactic| walk_at "ev") => `(tactic| (try simp only [x_pb, x_fb, x_ba, x_ls, x_ln, x_eVar, x_bVar, x_rdF, x_rdB, x_eC, x_e2, x_e1, x_eList, x_eTup, x_nLst, x_lNil, x_lCons, x_aNil, x_aCons, x_aTape, x_isTp, x_eCal, x_nCal, x_eCall, x_eCut, x_pNone, x_pSome, x_tOf, x_bAnd, x_bOr, x_bNot, x_eIf, x_eAnd, x_eOr, x_eNot, x_eChain, x_lSeq, x_nComp, x_sNext, x_sSeq, x_atN, x_atR, x_atB, x_atC, x_sDrop, x_sRet, x_sIf, x_sAsg, x_mName, x_mSeq, x_mgNil, x_mgCons, x_sOwn, x_sFrz, x_frz, x_sApp, x_owOf, x_sSetI, x_sPar, x_sPar3, x_sFor, x_forN, x_forC, x_loN, x_loC, x_loB, x_loR, x_cN, x_cC, x_bYes, x_oR, x_oN, x_mf0, x_mf1, x_mf2, x_mf3, x_mf4, x_mf5, x_tput, x_sExt, x_nRev, v_isII, v_isBI, v_in3, v_ltDI, v_gtDI, v_leDI, v_geDI, List.getElem?_cons_zero, List.getElem?_cons_succ, List.set_cons_zero, List.set_cons_succ, List.replicate_succ, List.replicate_zero, List.cons_append, List.nil_append, List.length_cons, List.length_nil, v_sub, v_add, v_neg, v_lt, v_le, v_gt, v_ge, v_abs, v_max, v_min, v_intI, v_intB, v_lenL, v_lenT, v_tupL, v_tupT, v_listL, v_listT, v_ixL, v_ixT, v_at0, v_at1, v_at2, v_bool, v_seqL, v_seqT, v_intOf, v_ok0, v_ok1, v_ok2, v_ok3, v_ok4, v_okn, v_ok5, v_ok6, v_ok7, v_ok8, v_ok9, v_ok10, v_ok11, v_ok12, v_ok13, v_ok14, v_ok15, v_ok16, v_ok17, v_ok18, v_ok19, v_ok20, v_ok21, v_ok22, v_ok23, v_ok24, v_ok25, v_ok26, v_ok27, v_ok28, v_ok29, v_ok30, v_ok31, v_ok32, gEq_int, gNe_int, v_rng1, v_rng2, okRg, Int.reducePow, Nat.sub_self, Nat.reduceSub, Nat.reduceAdd, unAll, if_true, if_false, Option.bind_some, Option.bind_none, ite_true, ite_false, Bool.false_eq_true, rgD, Int.reduceBEq, Int.reduceToNat, Int.reduceLT, Int.reduceLE, Int.reduceMul, Int.reduceAdd, Int.reduceSub, Int.reduceNeg, Nat.reduceMul, Nat.reduceLT, Nat.reduceBEq, decide_true, decide_false, Bool.and_true, Bool.true_and, Bool.and_self, Bool.not_true, Bool.not_false, BEq.rfl, reduceIte]))
local macro_rules | `(tactic| walk_at "evt") => `(tactic| (try simp only [x_pb, x_fb, x_ba, x_ls, x_ln, x_eVar, x_bVar, x_rdF, x_rdB, x_eC, x_e2, x_e1, x_eList, x_eTup, x_nLst, x_lNil, x_lCons, x_aNil, x_aCons, x_aTape, x_isTp, x_eCal, x_nCal, x_eCall, x_eCut, x_pNone, x_pSome, x_tOf, x_bAnd, x_bOr, x_bNot, x_eIf, x_eAnd, x_eOr, x_eNot, x_eChain, x_lSeq, x_nComp, x_sNext, x_sSeq, x_atN, x_atR, x_atB, x_atC, x_sDrop, x_sRet, x_sIf, x_sAsg, x_mName, x_mSeq, x_mgNil, x_mgCons, x_sOwn, x_sFrz, x_frz, x_sApp, x_owOf, x_sSetI, x_sPar, x_sPar3, x_sFor, x_forN, x_forC, x_loN, x_loC, x_loB, x_loR, x_cN, x_cC, x_bYes, x_oR, x_oN, x_mf0, x_mf1, x_mf2, x_mf3, x_mf4, x_mf5, x_tput, x_sExt, x_nRev, v_isII, v_isBI, v_in3, v_ltDI, v_gtDI, v_leDI, v_geDI, List.getElem?_cons_zero, List.getElem?_cons_succ, List.set_cons_zero, List.set_cons_succ, List.replicate_succ, List.replicate_zero, List.cons_append, List.nil_append, List.length_cons, List.length_nil, v_sub, v_add, v_neg, v_lt, v_le, v_gt, v_ge, v_abs, v_max, v_min, v_intI, v_intB, v_lenL, v_lenT, v_tupL, v_tupT, v_listL, v_listT, v_ixL, v_ixT, v_at0, v_at1, v_at2, v_bool, v_seqL, v_seqT, v_intOf, v_ok0, v_ok1, v_ok2, v_ok3, v_ok4, v_okn, v_ok5, v_ok6, v_ok7, v_ok8, v_ok9, v_ok10, v_ok11, v_ok12, v_ok13, v_ok14, v_ok15, v_ok16, v_ok17, v_ok18, v_ok19, v_ok20, v_ok21, v_ok22, v_ok23, v_ok24, v_ok25, v_ok26, v_ok27, v_ok28, v_ok29, v_ok30, v_ok31, v_ok32, gEq_int, gNe_int, v_rng1, v_rng2, okRg, Int.reducePow, Nat.sub_self, Nat.reduceSub, Nat.reduceAdd, unAll, if_true, if_false, Option.bind_some, Option.bind_none, ite_true, ite_false, Bool.false_eq_true, rgD, Int.reduceBEq, Int.reduceToNat, Int.reduceLT, Int.reduceLE, Int.reduceMul, Int.reduceAdd, Int.reduceSub, Int.reduceNeg, Nat.reduceMul, Nat.reduceLT, Nat.reduceBEq, decide_true, decide_false, Bool.and_true, Bool.true_and, Bool.and_self, Bool.not_true, Bool.not_false, BEq.rfl, reduceIte, bnd_ap, pure_ap, lift_ap, fail_ap, ite_ap, x_tget, x_doPut, fldOf, tSet, Option.map_some, Option.map_none, beq_self_eq_true, Bool.and_true, Bool.true_and]))
local macro_rules | `(tactic| walk_at "ev1") => `(tactic| (try simp only [x_pb, x_fb, x_ba, x_ls, x_ln, x_eVar, x_bVar, x_rdF, x_rdB, x_eC, x_e2, x_e1, x_eList, x_eTup, x_nLst, x_lNil, x_lCons, x_aNil, x_aCons, x_aTape, x_isTp, x_eCal, x_nCal, x_eCall, x_eCut, x_pNone, x_pSome, x_tOf, x_bAnd, x_bOr, x_bNot, x_eIf, x_eAnd, x_eOr, x_eNot, x_eChain, x_lSeq, x_nComp, x_sNext, x_sSeq, x_atN, x_atR, x_atB, x_atC, x_sDrop, x_sRet, x_sIf, x_sAsg, x_mName, x_mSeq, x_mgNil, x_mgCons, x_sOwn, x_sFrz, x_frz, x_sApp, x_owOf, x_sSetI, x_sPar, x_sPar3, x_sFor, x_forN, x_forC, x_loN, x_loC, x_loB, x_loR, x_cN, x_cC, x_bYes, x_oR, x_oN, x_mf0, x_mf1, x_mf2, x_mf3, x_mf4, x_mf5, x_tput, x_sExt, x_nRev, v_isII, v_isBI, v_in3, v_ltDI, v_gtDI, v_leDI, v_geDI, List.getElem?_cons_zero, List.getElem?_cons_succ, List.set_cons_zero, List.set_cons_succ, List.replicate_succ, List.replicate_zero, List.cons_append, List.nil_append, List.length_cons, List.length_nil, v_sub, v_add, v_neg, v_lt, v_le, v_gt, v_ge, v_abs, v_max, v_min, v_intI, v_intB, v_lenL, v_lenT, v_tupL, v_tupT, v_listL, v_listT, v_ixL, v_ixT, v_at0, v_at1, v_at2, v_bool, v_seqL, v_seqT, v_intOf, v_ok0, v_ok1, v_ok2, v_ok3, v_ok4, v_okn, v_ok5, v_ok6, v_ok7, v_ok8, v_ok9, v_ok10, v_ok11, v_ok12, v_ok13, v_ok14, v_ok15, v_ok16, v_ok17, v_ok18, v_ok19, v_ok20, v_ok21, v_ok22, v_ok23, v_ok24, v_ok25, v_ok26, v_ok27, v_ok28, v_ok29, v_ok30, v_ok31, v_ok32, gEq_int, gNe_int, v_rng1, v_rng2, okRg, Int.reducePow, Nat.sub_self, Nat.reduceSub, Nat.reduceAdd, unAll, if_true, if_false, Option.bind_some, Option.bind_none, ite_true, ite_false, Bool.false_eq_true, rgD, Int.reduceBEq, Int.reduceToNat, Int.reduceLT, Int.reduceLE, Int.reduceMul, Int.reduceAdd, Int.reduceSub, Int.reduceNeg, Nat.reduceMul, Nat.reduceLT, Nat.reduceBEq, decide_true, decide_false, Bool.and_true, Bool.true_and, Bool.and_self, Bool.not_true, Bool.not_false, BEq.rfl, reduceIte, v_mulS, v_modS, compGo_M, compM_map, compM_filter, compM_nil, x_ebool, x_bb, x_iband, x_ibor, x_band, x_bor, Bool.or_false, Bool.false_or, Bool.and_false, Bool.false_and, x_sWhile, v_revAL, v_revAT, v_revC0, x_eRevT, abs_ite, v_any3, v_atm1, v_atm2, v_atm3, v_lastT, v_lastL, Nat.add_zero, Nat.zero_add, nc0, nc1, nc2, nc3, nc4, nc5, nc6, x_pbool, Bool.true_or, Bool.or_true]))
abbrev PB := BP × BP
abbrev tieB (t : PB) : PyData := .tuple [ptB t.1, ptB t.2]
def Bw (a b p : Pt) : Bool := lx a p && (lx p b && (Sd a b p == 0))
theorem bw_iff {a b p : Pt} : Bw a b p = true ↔ lx a p = true ∧ lx p b = true ∧ Tp a b p = 0 := by
  unfold Bw
  rw [Bool.and_eq_true, Bool.and_eq_true, beq_iff_eq]
  have := sg_cases (Tp a b p)
  show _ ∧ _ ∧ sg (Tp a b p) = 0 ↔ _
  constructor
  · intro ⟨h1, h2, h3⟩; exact ⟨h1, h2, by omega⟩
  · intro ⟨h1, h2, h3⟩; exact ⟨h1, h2, by omega⟩
local macro_rules | `(tactic| walk_at "ev2") => `(tactic| (try simp only [x_pb, x_fb, x_ba, x_ls, x_ln, x_eVar, x_bVar, x_rdF, x_rdB, x_eC, x_e2, x_e1, x_eList, x_eTup, x_nLst, x_lNil, x_lCons, x_aNil, x_aCons, x_aTape, x_isTp, x_eCal, x_nCal, x_eCall, x_eCut, x_pNone, x_pSome, x_tOf, x_bAnd, x_bOr, x_bNot, x_eIf, x_eAnd, x_eOr, x_eNot, x_eChain, x_lSeq, x_nComp, x_sNext, x_sSeq, x_atN, x_atR, x_atB, x_atC, x_sDrop, x_sRet, x_sIf, x_sAsg, x_mName, x_mSeq, x_mgNil, x_mgCons, x_sOwn, x_sFrz, x_frz, x_sApp, x_owOf, x_sSetI, x_sPar, x_sPar3, x_sFor, x_forN, x_forC, x_loN, x_loC, x_loB, x_loR, x_cN, x_cC, x_bYes, x_oR, x_oN, x_mf0, x_mf1, x_mf2, x_mf3, x_mf4, x_mf5, x_tput, x_sExt, x_nRev, v_isII, v_isBI, v_in3, v_ltDI, v_gtDI, v_leDI, v_geDI, List.getElem?_cons_zero, List.getElem?_cons_succ, List.set_cons_zero, List.set_cons_succ, List.replicate_succ, List.replicate_zero, List.cons_append, List.nil_append, List.length_cons, List.length_nil, v_sub, v_add, v_neg, v_lt, v_le, v_gt, v_ge, v_abs, v_max, v_min, v_intI, v_intB, v_lenL, v_lenT, v_tupL, v_tupT, v_listL, v_listT, v_ixL, v_ixT, v_at0, v_at1, v_at2, v_bool, v_seqL, v_seqT, v_intOf, v_ok0, v_ok1, v_ok2, v_ok3, v_ok4, v_okn, v_ok5, v_ok6, v_ok7, v_ok8, v_ok9, v_ok10, v_ok11, v_ok12, v_ok13, v_ok14, v_ok15, v_ok16, v_ok17, v_ok18, v_ok19, v_ok20, v_ok21, v_ok22, v_ok23, v_ok24, v_ok25, v_ok26, v_ok27, v_ok28, v_ok29, v_ok30, v_ok31, v_ok32, gEq_int, gNe_int, v_rng1, v_rng2, okRg, Int.reducePow, Nat.sub_self, Nat.reduceSub, Nat.reduceAdd, unAll, if_true, if_false, Option.bind_some, Option.bind_none, ite_true, ite_false, Bool.false_eq_true, rgD, Int.reduceBEq, Int.reduceToNat, Int.reduceLT, Int.reduceLE, Int.reduceMul, Int.reduceAdd, Int.reduceSub, Int.reduceNeg, Nat.reduceMul, Nat.reduceLT, Nat.reduceBEq, decide_true, decide_false, Bool.and_true, Bool.true_and, Bool.and_self, Bool.not_true, Bool.not_false, BEq.rfl, reduceIte, v_mulS, v_modS, compGo_M, compM_map, compM_filter, compM_nil, x_ebool, x_bb, x_iband, x_ibor, x_band, x_bor, Bool.or_false, Bool.false_or, Bool.and_false, Bool.false_and, x_sWhile, v_revAL, v_revAT, v_revC0, x_eRevT, abs_ite, v_any3, v_atm1, v_atm2, v_atm3, v_lastT, v_lastL, Nat.add_zero, Nat.zero_add, nc0, nc1, nc2, nc3, nc4, nc5, nc6, x_pbool, Bool.true_or, Bool.or_true, side_eq, v_ltB, v_inTB, v_anyM, v_isTT, v_all2, v_all3]))
theorem between_eq (a b p : BP) : m_is_between [.fz (ptB a), .fz (ptB b), .fz (ptB p)] = pure (.bool (Bw a.1 b.1 p.1)) := by
  unfold m_is_between Bw
  walk_at "ev2"
  cases lx a.1 p.1 <;> rfl
def Clr (l : List BP) (a b : BP) : Bool := !l.any fun p => Bw a.1 b.1 p.1
local macro_rules | `(tactic| walk_at "ev3") => `(tactic| (try simp only [x_pb, x_fb, x_ba, x_ls, x_ln, x_eVar, x_bVar, x_rdF, x_rdB, x_eC, x_e2, x_e1, x_eList, x_eTup, x_nLst, x_lNil, x_lCons, x_aNil, x_aCons, x_aTape, x_isTp, x_eCal, x_nCal, x_eCall, x_eCut, x_pNone, x_pSome, x_tOf, x_bAnd, x_bOr, x_bNot, x_eIf, x_eAnd, x_eOr, x_eNot, x_eChain, x_lSeq, x_nComp, x_sNext, x_sSeq, x_atN, x_atR, x_atB, x_atC, x_sDrop, x_sRet, x_sIf, x_sAsg, x_mName, x_mSeq, x_mgNil, x_mgCons, x_sOwn, x_sFrz, x_frz, x_sApp, x_owOf, x_sSetI, x_sPar, x_sPar3, x_sFor, x_forN, x_forC, x_loN, x_loC, x_loB, x_loR, x_cN, x_cC, x_bYes, x_oR, x_oN, x_mf0, x_mf1, x_mf2, x_mf3, x_mf4, x_mf5, x_tput, x_sExt, x_nRev, v_isII, v_isBI, v_in3, v_ltDI, v_gtDI, v_leDI, v_geDI, List.getElem?_cons_zero, List.getElem?_cons_succ, List.set_cons_zero, List.set_cons_succ, List.replicate_succ, List.replicate_zero, List.cons_append, List.nil_append, List.length_cons, List.length_nil, v_sub, v_add, v_neg, v_lt, v_le, v_gt, v_ge, v_abs, v_max, v_min, v_intI, v_intB, v_lenL, v_lenT, v_tupL, v_tupT, v_listL, v_listT, v_ixL, v_ixT, v_at0, v_at1, v_at2, v_bool, v_seqL, v_seqT, v_intOf, v_ok0, v_ok1, v_ok2, v_ok3, v_ok4, v_okn, v_ok5, v_ok6, v_ok7, v_ok8, v_ok9, v_ok10, v_ok11, v_ok12, v_ok13, v_ok14, v_ok15, v_ok16, v_ok17, v_ok18, v_ok19, v_ok20, v_ok21, v_ok22, v_ok23, v_ok24, v_ok25, v_ok26, v_ok27, v_ok28, v_ok29, v_ok30, v_ok31, v_ok32, gEq_int, gNe_int, v_rng1, v_rng2, okRg, Int.reducePow, Nat.sub_self, Nat.reduceSub, Nat.reduceAdd, unAll, if_true, if_false, Option.bind_some, Option.bind_none, ite_true, ite_false, Bool.false_eq_true, rgD, Int.reduceBEq, Int.reduceToNat, Int.reduceLT, Int.reduceLE, Int.reduceMul, Int.reduceAdd, Int.reduceSub, Int.reduceNeg, Nat.reduceMul, Nat.reduceLT, Nat.reduceBEq, decide_true, decide_false, Bool.and_true, Bool.true_and, Bool.and_self, Bool.not_true, Bool.not_false, BEq.rfl, reduceIte, v_mulS, v_modS, compGo_M, compM_map, compM_filter, compM_nil, x_ebool, x_bb, x_iband, x_ibor, x_band, x_bor, Bool.or_false, Bool.false_or, Bool.and_false, Bool.false_and, x_sWhile, v_revAL, v_revAT, v_revC0, x_eRevT, abs_ite, v_any3, v_atm1, v_atm2, v_atm3, v_lastT, v_lastL, Nat.add_zero, Nat.zero_add, nc0, nc1, nc2, nc3, nc4, nc5, nc6, x_pbool, Bool.true_or, Bool.or_true, side_eq, v_ltB, v_inTB, v_anyM, v_isTT, v_all2, v_all3, between_eq]))
theorem clear_eq (l : List BP) (hl : l.length ≤ 1000) (a b : BP) : m_is_clear [.fz (.tuple (l.map ptB)), .fz (ptB a), .fz (ptB b)] = pure (.bool (Clr l a b)) := by
  unfold m_is_clear Clr
  walk_at "ev3"
  rw [okLen_of (by rw [List.length_map]; omega)]
  walk_at "ev3"
/-! all ties -/
def tiesF (all : List BP) : List BP → List PB
  | [] => []
  | a :: r => ((r.filter (Clr all a)).map fun b => (a, b)) ++ tiesF all r
def tiesB (l : List BP) : List PB := tiesF l l
theorem tiesF_len (all : List BP) : ∀ r : List BP, (tiesF all r).length ≤ r.length * r.length
  | [] => Nat.zero_le _
  | a :: r => by
    have ih := tiesF_len all r
    have h1 := List.length_filter_le (Clr all a) r
    rw [tiesF, List.length_append, List.length_map, List.length_cons]
    have : (r.length + 1) * (r.length + 1) = r.length * r.length + 2 * r.length + 1 := by grind
    omega
theorem drop_cons {α : Type} {l : List α} {k : Nat} {a : α} (h : l[k]? = some a) : l.drop k = a :: l.drop (k + 1) := by
  obtain ⟨hk, e⟩ := List.getElem?_eq_some_iff.mp h
  rw [← e]
  exact List.drop_eq_getElem_cons hk
theorem ties_eq (l : List BP) (hl : l.length ≤ 100) : m_ties [.fz (.tuple (l.map ptB))] = pure (.tuple ((tiesB l).map tieB)) := by
  have hT := tiesF_len l l
  have h2 : l.length * l.length ≤ 100 * 100 := Nat.mul_le_mul hl hl
  unfold m_ties
  rw [x_mf1, x_sSeq]
  show (sOwn 1 (nLst lNil) [.fz (.tuple (l.map ptB)), .un, .un, .un] >>= _) >>= _ = _
  rw [x_ba, show sOwn 1 (nLst lNil) [.fz (.tuple (l.map ptB)), .un, .un, .un] = pure (.nx [.fz (.tuple (l.map ptB)), .ow [], .un, .un]) from rfl, x_pb, x_atN, x_sSeq, x_sFor]
  have er : nCal rng1 (lCons (eCal cLen (lCons (bVar 0) lNil)) lNil) [.fz (.tuple (l.map ptB)), .ow [], .un, .un] = pure (rgD 0 l.length) := by
    walk_at "ev1"
    rw [List.length_map, v_rng1 (by unfold okRg; rw [Bool.and_eq_true]; exact ⟨decide_eq_true (by omega), decide_eq_true (by omega)⟩)]
    walk_at "ev1"
    rw [Int.toNat_natCast]
  rw [er, x_pb, rgD_range, x_ba]
  refine for_ik (fun k ρ => ∃ (F : List PB) (s2 s3 : Sl), ρ = [.fz (.tuple (l.map ptB)), .ow (F.map tieB), s2, s3] ∧ F ++ tiesF l (l.drop k) = tiesB l) (List.range l.length) ⟨[], _, _, rfl, rfl⟩ (fun k i hi ρ hρ => ?_) fun ρ' hI => ?_
  · obtain ⟨F, s2, s3, rfl, hF⟩ := hρ
    have hk : k < l.length := by simpa using (List.getElem?_eq_some_iff.mp hi).1
    have ei : i = k := by
      have := List.getElem?_eq_some_iff.mp hi
      simpa using this.2.symm
    subst ei
    obtain ⟨a, ha⟩ : ∃ a, l[i]? = some a := ⟨l[i], List.getElem?_eq_getElem hk⟩
    have aa : L2.atI (l.map ptB) (0 + (i : Int)) = some (ptB a) := v_atN (n := i) (by omega) (by rw [List.getElem?_map, ha]; rfl)
    rw [drop_cons ha, tiesF, ← List.append_assoc] at hF
    have fl : (F ++ (((l.drop (i + 1)).filter (Clr l a)).map fun b => (a, b))).length ≤ 10000 := by
      have : (F ++ (((l.drop (i + 1)).filter (Clr l a)).map fun b => (a, b))).length ≤ (tiesB l).length := by
        have := congrArg List.length hF
        rw [List.length_append] at this
        omega
      unfold tiesB at this
      omega
    refine ⟨[.fz (.tuple (l.map ptB)), .ow ((F ++ (((l.drop (i + 1)).filter (Clr l a)).map fun b => (a, b))).map tieB), .fz (.int (0 + i)), s3], ?_, _, _, _, rfl, hF⟩
    walk_at "ev3"
    rw [v_dropT (by omega)]
    walk_at "ev3"
    rw [show (0 + (i : Int) + 1).toNat = i + 1 by omega, ← List.map_drop]
    rw [okLen_of (by rw [List.length_map, List.length_drop]; omega)]
    walk_at "ev3"
    rw [aa]
    walk_at "ev3"
    simp only [clear_eq l (by omega)]
    walk_at "ev3"
    rw [show (fun a_1 => PyData.tuple [ptB a, ptB a_1]) = tieB ∘ (fun b => (a, b)) from rfl, ← List.map_map]
    rw [okLen_of (by rw [List.length_map, List.length_map, ← List.length_append]; exact Nat.le_trans fl (by decide))]
    walk_at "ev3"
    rw [List.map_append]
  · obtain ⟨F, s2, s3, rfl, hF⟩ := hI
    rw [List.length_range, List.drop_length, tiesF, List.append_nil] at hF
    subst hF
    walk_at "ev3"
theorem ties_mem {l : List BP} (hr : Rise (vals l)) : ∀ {all r : List BP}, (∃ pre, l = pre ++ r) → ∀ t : PB, t ∈ tiesF all r ↔ t.1 ∈ r ∧ t.2 ∈ r ∧ lx t.1.1 t.2.1 = true ∧ Clr all t.1 t.2 = true
  | all, [], _, t => by simp [tiesF]
  | all, a :: r, ⟨pre, hp⟩, t => by
    have ih := ties_mem hr (all := all) (r := r) ⟨pre ++ [a], by rw [hp]; simp⟩ t
    have hr2 : Rise (vals (a :: r)) := by
      rw [hp, vals, List.map_append] at hr
      exact (List.pairwise_append.mp hr).2.1
    have ha : ∀ p ∈ r, lx a.1 p.1 = true := fun p hp => (List.pairwise_cons.mp hr2).1 p.1 (List.mem_map_of_mem hp)
    obtain ⟨x, y⟩ := t
    rw [tiesF, List.mem_append, ih]
    dsimp only
    constructor
    · intro h
      rcases h with h | ⟨h1, h2, h3, h4⟩
      · obtain ⟨b, hb, e⟩ := List.mem_map.mp h
        cases e
        obtain ⟨q1, q2⟩ := List.mem_filter.mp hb
        exact ⟨by simp, List.mem_cons_of_mem _ q1, ha _ q1, q2⟩
      · exact ⟨List.mem_cons_of_mem _ h1, List.mem_cons_of_mem _ h2, h3, h4⟩
    · intro ⟨h1, h2, h3, h4⟩
      rcases List.mem_cons.mp h2 with e2 | hy2
      · subst e2
        rcases List.mem_cons.mp h1 with e1 | h1
        · subst e1; rw [lx_iff] at h3; omega
        · have := ha _ h1
          rw [lx_iff] at h3 this
          omega
      · rcases List.mem_cons.mp h1 with e1 | h1
        · subst e1
          exact .inl (List.mem_map.mpr ⟨y, List.mem_filter.mpr ⟨hy2, h4⟩, rfl⟩)
        · exact .inr ⟨h1, hy2, h3, h4⟩
theorem tiesB_mem {l : List BP} (hr : Rise (vals l)) (t : PB) : t ∈ tiesB l ↔ t.1 ∈ l ∧ t.2 ∈ l ∧ lx t.1.1 t.2.1 = true ∧ Clr l t.1 t.2 = true := ties_mem hr ⟨[], rfl⟩ t
local macro_rules | `(tactic| walk_at "ev4") => `(tactic| (try simp only [x_pb, x_fb, x_ba, x_ls, x_ln, x_eVar, x_bVar, x_rdF, x_rdB, x_eC, x_e2, x_e1, x_eList, x_eTup, x_nLst, x_lNil, x_lCons, x_aNil, x_aCons, x_aTape, x_isTp, x_eCal, x_nCal, x_eCall, x_eCut, x_pNone, x_pSome, x_tOf, x_bAnd, x_bOr, x_bNot, x_eIf, x_eAnd, x_eOr, x_eNot, x_eChain, x_lSeq, x_nComp, x_sNext, x_sSeq, x_atN, x_atR, x_atB, x_atC, x_sDrop, x_sRet, x_sIf, x_sAsg, x_mName, x_mSeq, x_mgNil, x_mgCons, x_sOwn, x_sFrz, x_frz, x_sApp, x_owOf, x_sSetI, x_sPar, x_sPar3, x_sFor, x_forN, x_forC, x_loN, x_loC, x_loB, x_loR, x_cN, x_cC, x_bYes, x_oR, x_oN, x_mf0, x_mf1, x_mf2, x_mf3, x_mf4, x_mf5, x_tput, x_sExt, x_nRev, v_isII, v_isBI, v_in3, v_ltDI, v_gtDI, v_leDI, v_geDI, List.getElem?_cons_zero, List.getElem?_cons_succ, List.set_cons_zero, List.set_cons_succ, List.replicate_succ, List.replicate_zero, List.cons_append, List.nil_append, List.length_cons, List.length_nil, v_sub, v_add, v_neg, v_lt, v_le, v_gt, v_ge, v_abs, v_max, v_min, v_intI, v_intB, v_lenL, v_lenT, v_tupL, v_tupT, v_listL, v_listT, v_ixL, v_ixT, v_at0, v_at1, v_at2, v_bool, v_seqL, v_seqT, v_intOf, v_ok0, v_ok1, v_ok2, v_ok3, v_ok4, v_okn, v_ok5, v_ok6, v_ok7, v_ok8, v_ok9, v_ok10, v_ok11, v_ok12, v_ok13, v_ok14, v_ok15, v_ok16, v_ok17, v_ok18, v_ok19, v_ok20, v_ok21, v_ok22, v_ok23, v_ok24, v_ok25, v_ok26, v_ok27, v_ok28, v_ok29, v_ok30, v_ok31, v_ok32, gEq_int, gNe_int, v_rng1, v_rng2, okRg, Int.reducePow, Nat.sub_self, Nat.reduceSub, Nat.reduceAdd, unAll, if_true, if_false, Option.bind_some, Option.bind_none, ite_true, ite_false, Bool.false_eq_true, rgD, Int.reduceBEq, Int.reduceToNat, Int.reduceLT, Int.reduceLE, Int.reduceMul, Int.reduceAdd, Int.reduceSub, Int.reduceNeg, Nat.reduceMul, Nat.reduceLT, Nat.reduceBEq, decide_true, decide_false, Bool.and_true, Bool.true_and, Bool.and_self, Bool.not_true, Bool.not_false, BEq.rfl, reduceIte, v_mulS, v_modS, compGo_M, compM_map, compM_filter, compM_nil, x_ebool, x_bb, x_iband, x_ibor, x_band, x_bor, Bool.or_false, Bool.false_or, Bool.and_false, Bool.false_and, x_sWhile, v_revAL, v_revAT, v_revC0, x_eRevT, abs_ite, v_any3, v_atm1, v_atm2, v_atm3, v_lastT, v_lastL, Nat.add_zero, Nat.zero_add, nc0, nc1, nc2, nc3, nc4, nc5, nc6, x_pbool, Bool.true_or, Bool.or_true, side_eq, v_ltB, v_inTB, v_anyM, v_isTT, v_all2, v_all3, between_eq, v_isII, v_isBI]))
theorem ispoint_eq (p : BP) : m_is_point [.fz (ptB p)] = pure (.bool true) := by
  unfold m_is_point m_is_number
  walk_at "ev4"
local macro_rules | `(tactic| walk_at "ev5") => `(tactic| (try simp only [x_pb, x_fb, x_ba, x_ls, x_ln, x_eVar, x_bVar, x_rdF, x_rdB, x_eC, x_e2, x_e1, x_eList, x_eTup, x_nLst, x_lNil, x_lCons, x_aNil, x_aCons, x_aTape, x_isTp, x_eCal, x_nCal, x_eCall, x_eCut, x_pNone, x_pSome, x_tOf, x_bAnd, x_bOr, x_bNot, x_eIf, x_eAnd, x_eOr, x_eNot, x_eChain, x_lSeq, x_nComp, x_sNext, x_sSeq, x_atN, x_atR, x_atB, x_atC, x_sDrop, x_sRet, x_sIf, x_sAsg, x_mName, x_mSeq, x_mgNil, x_mgCons, x_sOwn, x_sFrz, x_frz, x_sApp, x_owOf, x_sSetI, x_sPar, x_sPar3, x_sFor, x_forN, x_forC, x_loN, x_loC, x_loB, x_loR, x_cN, x_cC, x_bYes, x_oR, x_oN, x_mf0, x_mf1, x_mf2, x_mf3, x_mf4, x_mf5, x_tput, x_sExt, x_nRev, v_isII, v_isBI, v_in3, v_ltDI, v_gtDI, v_leDI, v_geDI, List.getElem?_cons_zero, List.getElem?_cons_succ, List.set_cons_zero, List.set_cons_succ, List.replicate_succ, List.replicate_zero, List.cons_append, List.nil_append, List.length_cons, List.length_nil, v_sub, v_add, v_neg, v_lt, v_le, v_gt, v_ge, v_abs, v_max, v_min, v_intI, v_intB, v_lenL, v_lenT, v_tupL, v_tupT, v_listL, v_listT, v_ixL, v_ixT, v_at0, v_at1, v_at2, v_bool, v_seqL, v_seqT, v_intOf, v_ok0, v_ok1, v_ok2, v_ok3, v_ok4, v_okn, v_ok5, v_ok6, v_ok7, v_ok8, v_ok9, v_ok10, v_ok11, v_ok12, v_ok13, v_ok14, v_ok15, v_ok16, v_ok17, v_ok18, v_ok19, v_ok20, v_ok21, v_ok22, v_ok23, v_ok24, v_ok25, v_ok26, v_ok27, v_ok28, v_ok29, v_ok30, v_ok31, v_ok32, gEq_int, gNe_int, v_rng1, v_rng2, okRg, Int.reducePow, Nat.sub_self, Nat.reduceSub, Nat.reduceAdd, unAll, if_true, if_false, Option.bind_some, Option.bind_none, ite_true, ite_false, Bool.false_eq_true, rgD, Int.reduceBEq, Int.reduceToNat, Int.reduceLT, Int.reduceLE, Int.reduceMul, Int.reduceAdd, Int.reduceSub, Int.reduceNeg, Nat.reduceMul, Nat.reduceLT, Nat.reduceBEq, decide_true, decide_false, Bool.and_true, Bool.true_and, Bool.and_self, Bool.not_true, Bool.not_false, BEq.rfl, reduceIte, v_mulS, v_modS, compGo_M, compM_map, compM_filter, compM_nil, x_ebool, x_bb, x_iband, x_ibor, x_band, x_bor, Bool.or_false, Bool.false_or, Bool.and_false, Bool.false_and, x_sWhile, v_revAL, v_revAT, v_revC0, x_eRevT, abs_ite, v_any3, v_atm1, v_atm2, v_atm3, v_lastT, v_lastL, Nat.add_zero, Nat.zero_add, nc0, nc1, nc2, nc3, nc4, nc5, nc6, x_pbool, Bool.true_or, Bool.or_true, side_eq, v_ltB, v_inTB, v_anyM, v_isTT, v_all2, v_all3, between_eq, v_isII, v_isBI, ispoint_eq]))
def isTie (l : List BP) (t : PB) : Bool := decide (t.1 ∈ l) && (decide (t.2 ∈ l) && (lx t.1.1 t.2.1 && Clr l t.1 t.2))
theorem istie_eq (l : List BP) (hl : l.length ≤ 1000) (t : PB) : LP2.m_is_tie [.fz (.tuple (l.map ptB)), .fz (tieB t)] = pure (.bool (isTie l t)) := by
  unfold LP2.m_is_tie isTie
  walk_at "ev5"
  cases decide (t.1 ∈ l) with
  | false => walk_at "ev5"
  | true =>
    walk_at "ev5"
    cases decide (t.2 ∈ l) with
    | false => walk_at "ev5"
    | true =>
      walk_at "ev5"
      rw [clear_eq l hl]
      walk_at "ev5"
theorem isTie_mem {l : List BP} (hr : Rise (vals l)) (t : PB) : isTie l t = decide (t ∈ tiesB l) := by
  unfold isTie
  rw [Bool.eq_iff_iff, decide_eq_true_eq, tiesB_mem hr, Bool.and_eq_true, Bool.and_eq_true, Bool.and_eq_true, decide_eq_true_eq, decide_eq_true_eq]
/-! triangles -/
def Wi (a b c p : Pt) : Bool := !(((Sd a b p == 1) || ((Sd b c p == 1) || (Sd c a p == 1))) && ((Sd a b p == -1) || ((Sd b c p == -1) || (Sd c a p == -1))))
theorem v_in3I {i a b c : Int} : gInX (.int i) (.list [.int a, .int b, .int c]) = some (.bool ((a == i) || ((b == i) || (c == i)))) := by
  show (if okIn (.int i) [PyData.int a, .int b, .int c] = true then some (PyData.bool ((a == i) || ((b == i) || ((c == i) || false)))) else none) = _
  rw [Bool.or_false]
  rfl
local macro_rules | `(tactic| walk_at "ev6") => `(tactic| (try simp only [x_pb, x_fb, x_ba, x_ls, x_ln, x_eVar, x_bVar, x_rdF, x_rdB, x_eC, x_e2, x_e1, x_eList, x_eTup, x_nLst, x_lNil, x_lCons, x_aNil, x_aCons, x_aTape, x_isTp, x_eCal, x_nCal, x_eCall, x_eCut, x_pNone, x_pSome, x_tOf, x_bAnd, x_bOr, x_bNot, x_eIf, x_eAnd, x_eOr, x_eNot, x_eChain, x_lSeq, x_nComp, x_sNext, x_sSeq, x_atN, x_atR, x_atB, x_atC, x_sDrop, x_sRet, x_sIf, x_sAsg, x_mName, x_mSeq, x_mgNil, x_mgCons, x_sOwn, x_sFrz, x_frz, x_sApp, x_owOf, x_sSetI, x_sPar, x_sPar3, x_sFor, x_forN, x_forC, x_loN, x_loC, x_loB, x_loR, x_cN, x_cC, x_bYes, x_oR, x_oN, x_mf0, x_mf1, x_mf2, x_mf3, x_mf4, x_mf5, x_tput, x_sExt, x_nRev, v_isII, v_isBI, v_in3, v_ltDI, v_gtDI, v_leDI, v_geDI, List.getElem?_cons_zero, List.getElem?_cons_succ, List.set_cons_zero, List.set_cons_succ, List.replicate_succ, List.replicate_zero, List.cons_append, List.nil_append, List.length_cons, List.length_nil, v_sub, v_add, v_neg, v_lt, v_le, v_gt, v_ge, v_abs, v_max, v_min, v_intI, v_intB, v_lenL, v_lenT, v_tupL, v_tupT, v_listL, v_listT, v_ixL, v_ixT, v_at0, v_at1, v_at2, v_bool, v_seqL, v_seqT, v_intOf, v_ok0, v_ok1, v_ok2, v_ok3, v_ok4, v_okn, v_ok5, v_ok6, v_ok7, v_ok8, v_ok9, v_ok10, v_ok11, v_ok12, v_ok13, v_ok14, v_ok15, v_ok16, v_ok17, v_ok18, v_ok19, v_ok20, v_ok21, v_ok22, v_ok23, v_ok24, v_ok25, v_ok26, v_ok27, v_ok28, v_ok29, v_ok30, v_ok31, v_ok32, gEq_int, gNe_int, v_rng1, v_rng2, okRg, Int.reducePow, Nat.sub_self, Nat.reduceSub, Nat.reduceAdd, unAll, if_true, if_false, Option.bind_some, Option.bind_none, ite_true, ite_false, Bool.false_eq_true, rgD, Int.reduceBEq, Int.reduceToNat, Int.reduceLT, Int.reduceLE, Int.reduceMul, Int.reduceAdd, Int.reduceSub, Int.reduceNeg, Nat.reduceMul, Nat.reduceLT, Nat.reduceBEq, decide_true, decide_false, Bool.and_true, Bool.true_and, Bool.and_self, Bool.not_true, Bool.not_false, BEq.rfl, reduceIte, v_mulS, v_modS, compGo_M, compM_map, compM_filter, compM_nil, x_ebool, x_bb, x_iband, x_ibor, x_band, x_bor, Bool.or_false, Bool.false_or, Bool.and_false, Bool.false_and, x_sWhile, v_revAL, v_revAT, v_revC0, x_eRevT, abs_ite, v_any3, v_atm1, v_atm2, v_atm3, v_lastT, v_lastL, Nat.add_zero, Nat.zero_add, nc0, nc1, nc2, nc3, nc4, nc5, nc6, x_pbool, Bool.true_or, Bool.or_true, side_eq, v_ltB, v_inTB, v_anyM, v_isTT, v_all2, v_all3, between_eq, v_isII, v_isBI, ispoint_eq, v_in3I, clear_eq]))
theorem within_eq (a b c p : BP) : m_has_within [.fz (ptB a), .fz (ptB b), .fz (ptB c), .fz (ptB p)] = pure (.bool (Wi a.1 b.1 c.1 p.1)) := by
  unfold m_has_within Wi
  walk_at "ev6"
def Vo (l : List BP) (a b c : BP) : Bool := !(l.filter fun p => (lx a.1 p.1 && lx p.1 c.1) && !decide (p = b)).any fun p => Wi a.1 b.1 c.1 p.1
local macro_rules | `(tactic| walk_at "ev7") => `(tactic| (try simp only [x_pb, x_fb, x_ba, x_ls, x_ln, x_eVar, x_bVar, x_rdF, x_rdB, x_eC, x_e2, x_e1, x_eList, x_eTup, x_nLst, x_lNil, x_lCons, x_aNil, x_aCons, x_aTape, x_isTp, x_eCal, x_nCal, x_eCall, x_eCut, x_pNone, x_pSome, x_tOf, x_bAnd, x_bOr, x_bNot, x_eIf, x_eAnd, x_eOr, x_eNot, x_eChain, x_lSeq, x_nComp, x_sNext, x_sSeq, x_atN, x_atR, x_atB, x_atC, x_sDrop, x_sRet, x_sIf, x_sAsg, x_mName, x_mSeq, x_mgNil, x_mgCons, x_sOwn, x_sFrz, x_frz, x_sApp, x_owOf, x_sSetI, x_sPar, x_sPar3, x_sFor, x_forN, x_forC, x_loN, x_loC, x_loB, x_loR, x_cN, x_cC, x_bYes, x_oR, x_oN, x_mf0, x_mf1, x_mf2, x_mf3, x_mf4, x_mf5, x_tput, x_sExt, x_nRev, v_isII, v_isBI, v_in3, v_ltDI, v_gtDI, v_leDI, v_geDI, List.getElem?_cons_zero, List.getElem?_cons_succ, List.set_cons_zero, List.set_cons_succ, List.replicate_succ, List.replicate_zero, List.cons_append, List.nil_append, List.length_cons, List.length_nil, v_sub, v_add, v_neg, v_lt, v_le, v_gt, v_ge, v_abs, v_max, v_min, v_intI, v_intB, v_lenL, v_lenT, v_tupL, v_tupT, v_listL, v_listT, v_ixL, v_ixT, v_at0, v_at1, v_at2, v_bool, v_seqL, v_seqT, v_intOf, v_ok0, v_ok1, v_ok2, v_ok3, v_ok4, v_okn, v_ok5, v_ok6, v_ok7, v_ok8, v_ok9, v_ok10, v_ok11, v_ok12, v_ok13, v_ok14, v_ok15, v_ok16, v_ok17, v_ok18, v_ok19, v_ok20, v_ok21, v_ok22, v_ok23, v_ok24, v_ok25, v_ok26, v_ok27, v_ok28, v_ok29, v_ok30, v_ok31, v_ok32, gEq_int, gNe_int, v_rng1, v_rng2, okRg, Int.reducePow, Nat.sub_self, Nat.reduceSub, Nat.reduceAdd, unAll, if_true, if_false, Option.bind_some, Option.bind_none, ite_true, ite_false, Bool.false_eq_true, rgD, Int.reduceBEq, Int.reduceToNat, Int.reduceLT, Int.reduceLE, Int.reduceMul, Int.reduceAdd, Int.reduceSub, Int.reduceNeg, Nat.reduceMul, Nat.reduceLT, Nat.reduceBEq, decide_true, decide_false, Bool.and_true, Bool.true_and, Bool.and_self, Bool.not_true, Bool.not_false, BEq.rfl, reduceIte, v_mulS, v_modS, compGo_M, compM_map, compM_filter, compM_nil, x_ebool, x_bb, x_iband, x_ibor, x_band, x_bor, Bool.or_false, Bool.false_or, Bool.and_false, Bool.false_and, x_sWhile, v_revAL, v_revAT, v_revC0, x_eRevT, abs_ite, v_any3, v_atm1, v_atm2, v_atm3, v_lastT, v_lastL, Nat.add_zero, Nat.zero_add, nc0, nc1, nc2, nc3, nc4, nc5, nc6, x_pbool, Bool.true_or, Bool.or_true, side_eq, v_ltB, v_inTB, v_anyM, v_isTT, v_all2, v_all3, between_eq, v_isII, v_isBI, ispoint_eq, v_in3I, clear_eq, within_eq, v_nePt]))
theorem void_eq (l : List BP) (hl : l.length ≤ 1000) (a b c : BP) : m_is_void [.fz (.tuple (l.map ptB)), .fz (ptB a), .fz (ptB b), .fz (ptB c)] = pure (.bool (Vo l a b c)) := by
  unfold m_is_void Vo
  walk_at "ev7"
  rw [okLen_of (by rw [List.length_map]; omega)]
  walk_at "ev7"
def isTri (l : List BP) (t : TB) : Bool := decide (t.1 ∈ l) && (decide (t.2.1 ∈ l) && (decide (t.2.2 ∈ l) && ((lx t.1.1 t.2.1.1 && lx t.2.1.1 t.2.2.1) && (!(Sd t.1.1 t.2.1.1 t.2.2.1 == 0) && Vo l t.1 t.2.1 t.2.2))))
theorem istri_eq (l : List BP) (hl : l.length ≤ 1000) (t : TB) : m_is_triangle [.fz (.tuple (l.map ptB)), .fz (triB t)] = pure (.bool (isTri l t)) := by
  unfold m_is_triangle isTri
  walk_at "ev7"
  cases decide (t.1 ∈ l) with
  | false => walk_at "ev7"
  | true =>
    walk_at "ev7"
    cases decide (t.2.1 ∈ l) with
    | false => walk_at "ev7"
    | true =>
      walk_at "ev7"
      cases decide (t.2.2 ∈ l) with
      | false => walk_at "ev7"
      | true =>
        walk_at "ev7"
        rw [void_eq l hl]
        walk_at "ev7"
theorem istri3 {l : List BP} (hl : l.length ≤ 1000) (a b c : BP) : m_is_triangle [.fz (.tuple (l.map ptB)), .fz (.tuple [ptB a, ptB b, ptB c])] = pure (.bool (isTri l (a, b, c))) := istri_eq l hl (a, b, c)
theorem istie2 {l : List BP} (hl : l.length ≤ 1000) (a b : BP) : LP2.m_is_tie [.fz (.tuple (l.map ptB)), .fz (.tuple [ptB a, ptB b])] = pure (.bool (isTie l (a, b))) := istie_eq l hl (a, b)
def triG (all : List BP) (a : BP) : List BP → List TB
  | [] => []
  | b :: r => ((r.map fun c => (a, b, c)).filter (isTri all)) ++ triG all a r
def triF (all : List BP) : List BP → List TB
  | [] => []
  | a :: r => triG all a r ++ triF all r
def trisB (l : List BP) : List TB := triF l l
theorem triG_len (all : List BP) (a : BP) : ∀ r : List BP, (triG all a r).length ≤ r.length * r.length
  | [] => Nat.zero_le _
  | b :: r => by
    have ih := triG_len all a r
    have h1 := List.length_filter_le (isTri all) (r.map fun c => (a, b, c))
    rw [List.length_map] at h1
    rw [triG, List.length_append, List.length_cons]
    have : (r.length + 1) * (r.length + 1) = r.length * r.length + 2 * r.length + 1 := by grind
    omega
theorem triF_len (all : List BP) : ∀ r : List BP, (triF all r).length ≤ r.length * (r.length * r.length)
  | [] => Nat.zero_le _
  | a :: r => by
    have ih := triF_len all r
    have h1 := triG_len all a r
    rw [triF, List.length_append, List.length_cons]
    have : (r.length + 1) * ((r.length + 1) * (r.length + 1)) = r.length * (r.length * r.length) + 3 * (r.length * r.length) + 3 * r.length + 1 := by grind
    omega
theorem tris_eq (l : List BP) (hl : l.length ≤ 50) : m_triangles [.fz (.tuple (l.map ptB))] = pure (.tuple ((trisB l).map triB)) := by
  have hT := triF_len l l
  have h2 : l.length * (l.length * l.length) ≤ 50 * (50 * 50) := Nat.mul_le_mul hl (Nat.mul_le_mul hl hl)
  unfold m_triangles
  rw [x_mf1, x_sSeq]
  show (sOwn 1 (nLst lNil) [.fz (.tuple (l.map ptB)), .un, .un, .un, .un, .un, .un] >>= _) >>= _ = _
  rw [x_ba, show sOwn 1 (nLst lNil) [.fz (.tuple (l.map ptB)), .un, .un, .un, .un, .un, .un] = pure (.nx [.fz (.tuple (l.map ptB)), .ow [], .un, .un, .un, .un, .un]) from rfl, x_pb, x_atN, x_sSeq, x_sFor]
  have er : nCal rng1 (lCons (eCal cLen (lCons (bVar 0) lNil)) lNil) [.fz (.tuple (l.map ptB)), .ow [], .un, .un, .un, .un, .un] = pure (rgD 0 l.length) := by
    walk_at "ev1"
    rw [List.length_map, v_rng1 (by unfold okRg; rw [Bool.and_eq_true]; exact ⟨decide_eq_true (by omega), decide_eq_true (by omega)⟩)]
    walk_at "ev1"
    rw [Int.toNat_natCast]
  rw [er, x_pb, rgD_range, x_ba]
  refine for_ik (fun k ρ => ∃ (F : List TB) (s2 s3 s4 s5 s6 : Sl), ρ = [.fz (.tuple (l.map ptB)), .ow (F.map triB), s2, s3, s4, s5, s6] ∧ F ++ triF l (l.drop k) = trisB l) (List.range l.length) ⟨[], _, _, _, _, _, rfl, rfl⟩ (fun k i hi ρ hρ => ?_) fun ρ' hI => ?_
  · obtain ⟨F, s2, s3, s4, s5, s6, rfl, hF⟩ := hρ
    have hk : k < l.length := by simpa using (List.getElem?_eq_some_iff.mp hi).1
    have ei : i = k := by
      have := List.getElem?_eq_some_iff.mp hi
      simpa using this.2.symm
    subst ei
    obtain ⟨a, ha⟩ : ∃ a, l[i]? = some a := ⟨l[i], List.getElem?_eq_getElem hk⟩
    have aa : L2.atI (l.map ptB) (0 + (i : Int)) = some (ptB a) := v_atN (n := i) (by omega) (by rw [List.getElem?_map, ha]; rfl)
    rw [drop_cons ha, triF] at hF
    rw [x_mName, x_ls, x_pb]
    show ∃ ρ', sFor _ _ _ [.fz (.tuple (l.map ptB)), .ow (F.map triB), .fz (.int (0 + i)), s3, s4, s5, s6] = _ ∧ _
    have er2 : nCal rng2 (lCons (e2 gAdd (bVar 2) (eC (.int 1))) (lCons (eCal cLen (lCons (bVar 0) lNil)) lNil)) [.fz (.tuple (l.map ptB)), .ow (F.map triB), .fz (.int (0 + i)), s3, s4, s5, s6] = pure (rgD ((i + 1 : Nat) : Int) (l.length - (i + 1))) := by
      walk_at "ev1"
      rw [List.length_map, v_rng2 (by unfold okRg; rw [Bool.and_eq_true]; exact ⟨decide_eq_true (by omega), decide_eq_true (by omega)⟩) (by unfold okRg; rw [Bool.and_eq_true]; exact ⟨decide_eq_true (by omega), decide_eq_true (by omega)⟩)]
      walk_at "ev1"
      rw [show ((l.length : Int) - (0 + (i : Int) + 1)).toNat = l.length - (i + 1) by omega, show (0 + (i : Int) + 1) = ((i + 1 : Nat) : Int) by omega]
    rw [x_sFor, er2, x_pb, rgD_range]
    refine for_ie (fun n ρ => ∃ (F' : List TB) (s3 s4 s5 s6 : Sl), ρ = [.fz (.tuple (l.map ptB)), .ow (F'.map triB), .fz (.int (0 + i)), s3, s4, s5, s6] ∧ F' ++ triG l a (l.drop (i + 1 + n)) = F ++ triG l a (l.drop (i + 1))) (List.range (l.length - (i + 1))) ⟨F, _, _, _, _, rfl, by rw [Nat.add_zero]⟩ (fun n j hj ρ hρ => by
        obtain ⟨F', s3, s4, s5, s6, rfl, hF'⟩ := hρ
        obtain ⟨rfl, hn⟩ := range_at hj
        obtain ⟨b, hb⟩ : ∃ b, l[i + 1 + j]? = some b := ⟨l[i + 1 + j], List.getElem?_eq_getElem (by omega)⟩
        have ab : L2.atI (l.map ptB) (((i + 1 : Nat) : Int) + (j : Int)) = some (ptB b) := v_atN (n := i + 1 + j) (by omega) (by rw [List.getElem?_map, hb]; rfl)
        rw [drop_cons hb, triG, ← List.append_assoc] at hF'
        have fl : (F' ++ (((l.drop (i + 1 + j + 1)).map fun c => (a, b, c)).filter (isTri l))).length ≤ 125000 := by
          have q1 := congrArg List.length hF'
          have q2 := congrArg List.length hF
          rw [List.length_append] at q1
          rw [← List.append_assoc, List.length_append] at q2
          unfold trisB at q2
          omega
        refine ⟨[.fz (.tuple (l.map ptB)), .ow ((F' ++ (((l.drop (i + 1 + j + 1)).map fun c => (a, b, c)).filter (isTri l))).map triB), .fz (.int (0 + i)), .fz (.int (((i + 1 : Nat) : Int) + j)), .fz (.list ((l.drop (i + 1 + j + 1)).map fun c => triB (a, b, c))), s5, s6], ?_, _, _, _, _, _, rfl, by rw [show i + 1 + (j + 1) = i + 1 + j + 1 by omega]; exact hF'⟩
        walk_at "ev7"
        rw [v_dropT (by omega)]
        walk_at "ev7"
        rw [show (((i + 1 : Nat) : Int) + (j : Int) + 1).toNat = i + 1 + j + 1 by omega, ← List.map_drop]
        rw [okLen_of (by rw [List.length_map, List.length_drop]; omega)]
        walk_at "ev7"
        rw [aa]
        walk_at "ev7"
        rw [ab]
        walk_at "ev7"
        rw [okLen_of (by rw [List.length_map, List.length_drop]; omega)]
        walk_at "ev7"
        simp only [istri3 (show l.length ≤ 1000 by omega)]
        walk_at "ev7"
        have ef : List.map (fun c => PyData.tuple [ptB a, ptB b, ptB c]) ((l.drop (i + 1 + j + 1)).filter fun c => isTri l (a, b, c)) = (((l.drop (i + 1 + j + 1)).map fun c => (a, b, c)).filter (isTri l)).map triB := by
          rw [List.filter_map, List.map_map]
          rfl
        rw [ef, okLen_of (by rw [List.length_map, List.length_map, ← List.length_append]; exact Nat.le_trans fl (by decide))]
        walk_at "ev7"
        rw [List.map_append]) fun ρ' hI => ?_
    obtain ⟨F', s3, s4, s5, s6, rfl, hF'⟩ := hI
    rw [List.length_range, show i + 1 + (l.length - (i + 1)) = l.length by omega, List.drop_length, triG, List.append_nil] at hF'
    exact ⟨F', _, _, _, _, _, rfl, by rw [hF', List.append_assoc]; exact hF⟩
  · obtain ⟨F, s2, s3, s4, s5, s6, rfl, hF⟩ := hI
    rw [List.length_range, List.drop_length, triF, List.append_nil] at hF
    subst hF
    walk_at "ev7"
theorem rise_tail {l pre r : List BP} (hr : Rise (vals l)) (h : l = pre ++ r) : Rise (vals r) := by
  rw [h, vals, List.map_append] at hr
  exact (List.pairwise_append.mp hr).2.1
theorem triG_mem {all : List BP} {a : BP} : ∀ {r : List BP}, Rise (vals r) → ∀ t : TB, t ∈ triG all a r ↔ t.1 = a ∧ t.2.1 ∈ r ∧ t.2.2 ∈ r ∧ isTri all t = true
  | [], _, t => by simp [triG]
  | b :: r, hr, t => by
    have ih := triG_mem (all := all) (a := a) (r := r) (List.pairwise_cons.mp hr).2 t
    have hb : ∀ p ∈ r, lx b.1 p.1 = true := fun p hp => (List.pairwise_cons.mp hr).1 p.1 (List.mem_map_of_mem hp)
    obtain ⟨x, y, z⟩ := t
    rw [triG, List.mem_append, ih]
    dsimp only
    have lt : isTri all (x, y, z) = true → lx y.1 z.1 = true := fun h => by
      unfold isTri at h
      simp only [Bool.and_eq_true] at h
      exact h.2.2.2.1.2
    constructor
    · intro h
      rcases h with h | ⟨h1, h2, h3, h4⟩
      · obtain ⟨q1, q2⟩ := List.mem_filter.mp h
        obtain ⟨c, hc, e⟩ := List.mem_map.mp q1
        cases e
        exact ⟨rfl, by simp, List.mem_cons_of_mem _ hc, q2⟩
      · exact ⟨h1, List.mem_cons_of_mem _ h2, List.mem_cons_of_mem _ h3, h4⟩
    · intro ⟨h1, h2, h3, h4⟩
      have l1 := lt h4
      rcases List.mem_cons.mp h3 with e3 | hz
      · exfalso
        subst e3
        rcases List.mem_cons.mp h2 with e2 | hy
        · rw [e2, lx_iff] at l1; omega
        · have := hb _ hy
          rw [lx_iff] at l1 this
          omega
      · rcases List.mem_cons.mp h2 with e2 | hy
        · left
          rw [List.mem_filter]
          refine ⟨List.mem_map.mpr ⟨z, hz, ?_⟩, h4⟩
          rw [h1, e2]
        · exact .inr ⟨h1, hy, hz, h4⟩
theorem triF_mem {all : List BP} : ∀ {r : List BP}, Rise (vals r) → ∀ t : TB, t ∈ triF all r ↔ t.1 ∈ r ∧ t.2.1 ∈ r ∧ t.2.2 ∈ r ∧ isTri all t = true
  | [], _, t => by simp [triF]
  | a :: r, hr, t => by
    have hr' := (List.pairwise_cons.mp hr).2
    have ih := triF_mem (all := all) (r := r) hr' t
    have g := triG_mem (all := all) (a := a) hr' t
    have ha : ∀ p ∈ r, lx a.1 p.1 = true := fun p hp => (List.pairwise_cons.mp hr).1 p.1 (List.mem_map_of_mem hp)
    obtain ⟨x, y, z⟩ := t
    rw [triF, List.mem_append, ih, g]
    dsimp only
    constructor
    · intro h
      rcases h with ⟨h1, h2, h3, h4⟩ | ⟨h1, h2, h3, h4⟩
      · exact ⟨by rw [h1]; simp, List.mem_cons_of_mem _ h2, List.mem_cons_of_mem _ h3, h4⟩
      · exact ⟨List.mem_cons_of_mem _ h1, List.mem_cons_of_mem _ h2, List.mem_cons_of_mem _ h3, h4⟩
    · intro ⟨h1, h2, h3, h4⟩
      have lt := h4
      unfold isTri at lt
      simp only [Bool.and_eq_true] at lt
      have l1 := lt.2.2.2.1.1
      have l2 := lt.2.2.2.1.2
      have low : ∀ w, w ∈ a :: r → (lx x.1 w.1 = true) → w ∈ r := fun w hw hx => by
        rcases List.mem_cons.mp hw with e | hw
        · exfalso
          subst e
          rcases List.mem_cons.mp h1 with e1 | h1
          · rw [e1, lx_iff] at hx; omega
          · have := ha _ h1
            rw [lx_iff] at hx this
            omega
        · exact hw
      have l3 : lx x.1 z.1 = true := by rw [lx_iff] at *; omega
      have hy := low y h2 l1
      have hz := low z h3 l3
      rcases List.mem_cons.mp h1 with e1 | h1
      · exact .inl ⟨e1, hy, hz, h4⟩
      · exact .inr ⟨h1, hy, hz, h4⟩
theorem trisB_mem {l : List BP} (hr : Rise (vals l)) (t : TB) : t ∈ trisB l ↔ isTri l t = true := by
  rw [trisB, triF_mem hr]
  constructor
  · exact fun h => h.2.2.2
  · intro h
    have h' := h
    unfold isTri at h'
    simp only [Bool.and_eq_true, decide_eq_true_eq] at h'
    exact ⟨h'.1, h'.2.1, h'.2.2.1, h⟩
theorem crossing_eq (l : List BP) (hl : l.length ≤ 100) (a b : BP) : LP2.m_crossing [.fz (.tuple (l.map ptB)), .fz (.tuple [ptB a, ptB b])] = pure (.tuple (((tiesB l).filter fun t => Crb a.1 b.1 t.1.1 t.2.1).map tieB)) := by
  have hT := tiesF_len l l
  have h2 : l.length * l.length ≤ 100 * 100 := Nat.mul_le_mul hl hl
  unfold LP2.m_crossing
  walk_at "ev1"
  rw [ties_eq l hl]
  walk_at "ev1"
  rw [okLen_of (by rw [List.length_map]; unfold tiesB; omega)]
  walk_at "ev1"
  simp only [cross_eq]
  walk_at "ev1"
end LPR

set_option maxHeartbeats 1000000
set_option exponentiation.threshold 1000
namespace LBT
open DL PySem LFD LPR
local macro_rules | `(tactic| walk_at "ev") => `(tactic| (try simp only [x_pb, x_fb, x_ba, x_ls, x_ln, x_eVar, x_bVar, x_rdF, x_rdB, x_eC, x_e2, x_e1, x_eList, x_eTup, x_nLst, x_lNil, x_lCons, x_aNil, x_aCons, x_aTape, x_isTp, x_eCal, x_nCal, x_eCall, x_eCut, x_pNone, x_pSome, x_tOf, x_bAnd, x_bOr, x_bNot, x_eIf, x_eAnd, x_eOr, x_eNot, x_eChain, x_lSeq, x_nComp, x_sNext, x_sSeq, x_atN, x_atR, x_atB, x_atC, x_sDrop, x_sRet, x_sIf, x_sAsg, x_mName, x_mSeq, x_mgNil, x_mgCons, x_sOwn, x_sFrz, x_frz, x_sApp, x_owOf, x_sSetI, x_sPar, x_sPar3, x_sFor, x_forN, x_forC, x_loN, x_loC, x_loB, x_loR, x_cN, x_cC, x_bYes, x_oR, x_oN, x_mf0, x_mf1, x_mf2, x_mf3, x_mf4, x_mf5, x_tput, x_sExt, x_nRev, v_isII, v_isBI, v_in3, v_ltDI, v_gtDI, v_leDI, v_geDI, List.getElem?_cons_zero, List.getElem?_cons_succ, List.set_cons_zero, List.set_cons_succ, List.replicate_succ, List.replicate_zero, List.cons_append, List.nil_append, List.length_cons, List.length_nil, v_sub, v_add, v_neg, v_lt, v_le, v_gt, v_ge, v_abs, v_max, v_min, v_intI, v_intB, v_lenL, v_lenT, v_tupL, v_tupT, v_listL, v_listT, v_ixL, v_ixT, v_at0, v_at1, v_at2, v_bool, v_seqL, v_seqT, v_intOf, v_ok0, v_ok1, v_ok2, v_ok3, v_ok4, v_okn, v_ok5, v_ok6, v_ok7, v_ok8, v_ok9, v_ok10, v_ok11, v_ok12, v_ok13, v_ok14, v_ok15, v_ok16, v_ok17, v_ok18, v_ok19, v_ok20, v_ok21, v_ok22, v_ok23, v_ok24, v_ok25, v_ok26, v_ok27, v_ok28, v_ok29, v_ok30, v_ok31, v_ok32, gEq_int, gNe_int, v_rng1, v_rng2, okRg, Int.reducePow, Nat.sub_self, Nat.reduceSub, Nat.reduceAdd, unAll, if_true, if_false, Option.bind_some, Option.bind_none, ite_true, ite_false, Bool.false_eq_true, rgD, Int.reduceBEq, Int.reduceToNat, Int.reduceLT, Int.reduceLE, Int.reduceMul, Int.reduceAdd, Int.reduceSub, Int.reduceNeg, Nat.reduceMul, Nat.reduceLT, Nat.reduceBEq, decide_true, decide_false, Bool.and_true, Bool.true_and, Bool.and_self, Bool.not_true, Bool.not_false, BEq.rfl, reduceIte]))
local macro_rules | `(tactic| walk_at "evt") => `(tactic| (try simp only [x_pb, x_fb, x_ba, x_ls, x_ln, x_eVar, x_bVar, x_rdF, x_rdB, x_eC, x_e2, x_e1, x_eList, x_eTup, x_nLst, x_lNil, x_lCons, x_aNil, x_aCons, x_aTape, x_isTp, x_eCal, x_nCal, x_eCall, x_eCut, x_pNone, x_pSome, x_tOf, x_bAnd, x_bOr, x_bNot, x_eIf, x_eAnd, x_eOr, x_eNot, x_eChain, x_lSeq, x_nComp, x_sNext, x_sSeq, x_atN, x_atR, x_atB, x_atC, x_sDrop, x_sRet, x_sIf, x_sAsg, x_mName, x_mSeq, x_mgNil, x_mgCons, x_sOwn, x_sFrz, x_frz, x_sApp, x_owOf, x_sSetI, x_sPar, x_sPar3, x_sFor, x_forN, x_forC, x_loN, x_loC, x_loB, x_loR, x_cN, x_cC, x_bYes, x_oR, x_oN, x_mf0, x_mf1, x_mf2, x_mf3, x_mf4, x_mf5, x_tput, x_sExt, x_nRev, v_isII, v_isBI, v_in3, v_ltDI, v_gtDI, v_leDI, v_geDI, List.getElem?_cons_zero, List.getElem?_cons_succ, List.set_cons_zero, List.set_cons_succ, List.replicate_succ, List.replicate_zero, List.cons_append, List.nil_append, List.length_cons, List.length_nil, v_sub, v_add, v_neg, v_lt, v_le, v_gt, v_ge, v_abs, v_max, v_min, v_intI, v_intB, v_lenL, v_lenT, v_tupL, v_tupT, v_listL, v_listT, v_ixL, v_ixT, v_at0, v_at1, v_at2, v_bool, v_seqL, v_seqT, v_intOf, v_ok0, v_ok1, v_ok2, v_ok3, v_ok4, v_okn, v_ok5, v_ok6, v_ok7, v_ok8, v_ok9, v_ok10, v_ok11, v_ok12, v_ok13, v_ok14, v_ok15, v_ok16, v_ok17, v_ok18, v_ok19, v_ok20, v_ok21, v_ok22, v_ok23, v_ok24, v_ok25, v_ok26, v_ok27, v_ok28, v_ok29, v_ok30, v_ok31, v_ok32, gEq_int, gNe_int, v_rng1, v_rng2, okRg, Int.reducePow, Nat.sub_self, Nat.reduceSub, Nat.reduceAdd, unAll, if_true, if_false, Option.bind_some, Option.bind_none, ite_true, ite_false, Bool.false_eq_true, rgD, Int.reduceBEq, Int.reduceToNat, Int.reduceLT, Int.reduceLE, Int.reduceMul, Int.reduceAdd, Int.reduceSub, Int.reduceNeg, Nat.reduceMul, Nat.reduceLT, Nat.reduceBEq, decide_true, decide_false, Bool.and_true, Bool.true_and, Bool.and_self, Bool.not_true, Bool.not_false, BEq.rfl, reduceIte, bnd_ap, pure_ap, lift_ap, fail_ap, ite_ap, x_tget, x_doPut, fldOf, tSet, Option.map_some, Option.map_none, beq_self_eq_true, Bool.and_true, Bool.true_and]))
local macro_rules | `(tactic| walk_at "ev1") => `(tactic| (try simp only [x_pb, x_fb, x_ba, x_ls, x_ln, x_eVar, x_bVar, x_rdF, x_rdB, x_eC, x_e2, x_e1, x_eList, x_eTup, x_nLst, x_lNil, x_lCons, x_aNil, x_aCons, x_aTape, x_isTp, x_eCal, x_nCal, x_eCall, x_eCut, x_pNone, x_pSome, x_tOf, x_bAnd, x_bOr, x_bNot, x_eIf, x_eAnd, x_eOr, x_eNot, x_eChain, x_lSeq, x_nComp, x_sNext, x_sSeq, x_atN, x_atR, x_atB, x_atC, x_sDrop, x_sRet, x_sIf, x_sAsg, x_mName, x_mSeq, x_mgNil, x_mgCons, x_sOwn, x_sFrz, x_frz, x_sApp, x_owOf, x_sSetI, x_sPar, x_sPar3, x_sFor, x_forN, x_forC, x_loN, x_loC, x_loB, x_loR, x_cN, x_cC, x_bYes, x_oR, x_oN, x_mf0, x_mf1, x_mf2, x_mf3, x_mf4, x_mf5, x_tput, x_sExt, x_nRev, v_isII, v_isBI, v_in3, v_ltDI, v_gtDI, v_leDI, v_geDI, List.getElem?_cons_zero, List.getElem?_cons_succ, List.set_cons_zero, List.set_cons_succ, List.replicate_succ, List.replicate_zero, List.cons_append, List.nil_append, List.length_cons, List.length_nil, v_sub, v_add, v_neg, v_lt, v_le, v_gt, v_ge, v_abs, v_max, v_min, v_intI, v_intB, v_lenL, v_lenT, v_tupL, v_tupT, v_listL, v_listT, v_ixL, v_ixT, v_at0, v_at1, v_at2, v_bool, v_seqL, v_seqT, v_intOf, v_ok0, v_ok1, v_ok2, v_ok3, v_ok4, v_okn, v_ok5, v_ok6, v_ok7, v_ok8, v_ok9, v_ok10, v_ok11, v_ok12, v_ok13, v_ok14, v_ok15, v_ok16, v_ok17, v_ok18, v_ok19, v_ok20, v_ok21, v_ok22, v_ok23, v_ok24, v_ok25, v_ok26, v_ok27, v_ok28, v_ok29, v_ok30, v_ok31, v_ok32, gEq_int, gNe_int, v_rng1, v_rng2, okRg, Int.reducePow, Nat.sub_self, Nat.reduceSub, Nat.reduceAdd, unAll, if_true, if_false, Option.bind_some, Option.bind_none, ite_true, ite_false, Bool.false_eq_true, rgD, Int.reduceBEq, Int.reduceToNat, Int.reduceLT, Int.reduceLE, Int.reduceMul, Int.reduceAdd, Int.reduceSub, Int.reduceNeg, Nat.reduceMul, Nat.reduceLT, Nat.reduceBEq, decide_true, decide_false, Bool.and_true, Bool.true_and, Bool.and_self, Bool.not_true, Bool.not_false, BEq.rfl, reduceIte, v_mulS, v_modS, compGo_M, compM_map, compM_filter, compM_nil, x_ebool, x_bb, x_iband, x_ibor, x_band, x_bor, Bool.or_false, Bool.false_or, Bool.and_false, Bool.false_and, x_sWhile, v_revAL, v_revAT, v_revC0, x_eRevT, abs_ite, v_any3, v_atm1, v_atm2, v_atm3, v_lastT, v_lastL, Nat.add_zero, Nat.zero_add, nc0, nc1, nc2, nc3, nc4, nc5, nc6, x_pbool, Bool.true_or, Bool.or_true]))
/-- good leaves -/
inductive Lf (b : Nat) : PyData → Prop
  | non : Lf b .none
  | bl (x : Bool) : Lf b (.bool x)
  | int (i : Int) (h : i.natAbs < 2 ^ 670 + b) : Lf b (.int i)
  | str (x : Str) (h : PyData.strOk x = true) : Lf b (.str x)
  | lst (xs : List PyData) (h : ∀ x ∈ xs, Lf b x) : Lf b (.list xs)
  | tup (xs : List PyData) (h : ∀ x ∈ xs, Lf b x) : Lf b (.tuple xs)
theorem Lf.mono {b c : Nat} (hb : b ≤ c) {d : PyData} (h : Lf b d) : Lf c d := by
  induction h with
  | non => exact .non
  | bl x => exact .bl x
  | int i h => exact .int i (by omega)
  | str x h => exact .str x h
  | lst xs _ ih => exact .lst xs ih
  | tup xs _ ih => exact .tup xs ih
theorem leafA_of : ∀ {xs : List PyData}, (∀ x ∈ xs, leafOk x = true) → leafOkA xs = true
  | [], _ => rfl
  | x :: xs, h => by rw [leafOkA, h x (by simp), leafA_of fun y hy => h y (List.mem_cons_of_mem _ hy)]; rfl
theorem pow69 {n : Nat} (h : n < 2 ^ 670 + 1000) : n < 2 ^ 690 := Nat.lt_of_lt_of_le h (Nat.le_trans (show 2 ^ 670 + 1000 ≤ 2 ^ 671 by decide) (Nat.pow_le_pow_right (by decide) (by decide)))
theorem Lf.leaf {b : Nat} (hb : b ≤ 1000) {d : PyData} (h : Lf b d) : leafOk d = true := by
  induction h with
  | non => rfl
  | bl x => rfl
  | int i h => rw [leafOk]; exact decide_eq_true (pow69 (by omega))
  | str x h => rw [leafOk]; exact h
  | lst xs _ ih => rw [leafOk]; exact leafA_of ih
  | tup xs _ ih => rw [leafOk]; exact leafA_of ih
theorem dAll_le : ∀ {xs : List PyData} {k : Nat}, (∀ x ∈ xs, x.depth ≤ k) → PyData.depthAll xs ≤ k
  | [], _, _ => Nat.zero_le _
  | x :: xs, k, h => by rw [PyData.depthAll]; exact Nat.max_le.mpr ⟨h x (by simp), dAll_le fun y hy => h y (List.mem_cons_of_mem _ hy)⟩
theorem wAll_app : ∀ xs ys : List PyData, PyData.weightAll (xs ++ ys) = PyData.weightAll xs + PyData.weightAll ys
  | [], ys => by rw [List.nil_append, PyData.weightAll]; omega
  | x :: xs, ys => by rw [List.cons_append, PyData.weightAll, PyData.weightAll, wAll_app xs ys]; omega
theorem wAll_rev : ∀ xs : List PyData, PyData.weightAll xs.reverse = PyData.weightAll xs
  | [] => rfl
  | x :: xs => by rw [List.reverse_cons, wAll_app, wAll_rev xs, PyData.weightAll, PyData.weightAll, PyData.weightAll]; omega
theorem wAll_take (xs : List PyData) (n : Nat) : PyData.weightAll (xs.take n) + PyData.weightAll (xs.drop n) = PyData.weightAll xs := by rw [← wAll_app, List.take_append_drop]
structure Sm (b k w : Nat) (d : PyData) : Prop where
  lf : Lf b d
  dp : d.depth ≤ k
  wt : d.weight ≤ w
theorem Sm.mono {b k w b' k' w' : Nat} {d : PyData} (h : Sm b k w d) (hb : b ≤ b') (hk : k ≤ k') (hw : w ≤ w') : Sm b' k' w' d := ⟨h.lf.mono hb, Nat.le_trans h.dp hk, Nat.le_trans h.wt hw⟩
theorem Sm.rpb {b k w : Nat} {d : PyData} (h : Sm b k w d) (hb : b ≤ 1000) : Rpb d k w := ⟨h.lf.leaf hb, h.dp, h.wt⟩
/-- a row of items -/
structure Row (b k w : Nat) (xs : List PyData) : Prop where
  lf : ∀ x ∈ xs, Lf b x
  dp : ∀ x ∈ xs, x.depth ≤ k
  wt : PyData.weightAll xs ≤ w
theorem Sm.row {b k w : Nat} {xs : List PyData} (h : Sm b (k + 1) w (.tuple xs)) : Row b k w xs := by
  obtain ⟨l, d, wt⟩ := h
  refine ⟨?_, fun x hx => ?_, by rw [PyData.weight] at wt; exact wt⟩
  · cases l with
    | tup _ h => exact h
  · rw [PyData.depth] at d
    have := depth_mem hx
    omega
theorem Row.tup {b k w : Nat} {xs : List PyData} (h : Row b k w xs) : Sm b (k + 1) w (.tuple xs) := ⟨.tup xs h.lf, by rw [PyData.depth]; exact Nat.succ_le_succ (dAll_le h.dp), by rw [PyData.weight]; exact h.wt⟩
theorem Row.lst {b k w : Nat} {xs : List PyData} (h : Row b k w xs) : Sm b (k + 1) w (.list xs) := ⟨.lst xs h.lf, by rw [PyData.depth]; exact Nat.succ_le_succ (dAll_le h.dp), by rw [PyData.weight]; exact h.wt⟩
theorem Row.mono {b k w b' k' w' : Nat} {xs : List PyData} (h : Row b k w xs) (hb : b ≤ b') (hk : k ≤ k') (hw : w ≤ w') : Row b' k' w' xs := ⟨fun x hx => (h.lf x hx).mono hb, fun x hx => Nat.le_trans (h.dp x hx) hk, Nat.le_trans h.wt hw⟩
theorem Row.app {b k w w' : Nat} {xs ys : List PyData} (h : Row b k w xs) (h' : Row b k w' ys) : Row b k (w + w') (xs ++ ys) :=
  ⟨fun x hx => (List.mem_append.mp hx).elim (h.lf x) (h'.lf x), fun x hx => (List.mem_append.mp hx).elim (h.dp x) (h'.dp x), by rw [wAll_app]; exact Nat.add_le_add h.wt h'.wt⟩
theorem Row.nil {b k : Nat} : Row b k 0 [] := ⟨by simp, by simp, Nat.le_refl _⟩
theorem Row.cons {b k w w' : Nat} {x : PyData} {xs : List PyData} (h : Sm b k w x) (h' : Row b k w' xs) : Row b k (w + 1 + w') (x :: xs) :=
  ⟨fun y hy => (List.mem_cons.mp hy).elim (fun e => e ▸ h.lf) (h'.lf y), fun y hy => (List.mem_cons.mp hy).elim (fun e => e ▸ h.dp) (h'.dp y), by rw [PyData.weightAll]; have := h.wt; have := h'.wt; omega⟩
theorem Row.rev {b k w : Nat} {xs : List PyData} (h : Row b k w xs) : Row b k w xs.reverse := ⟨fun x hx => h.lf x (List.mem_reverse.mp hx), fun x hx => h.dp x (List.mem_reverse.mp hx), by rw [wAll_rev]; exact h.wt⟩
theorem Row.take {b k w : Nat} {xs : List PyData} (h : Row b k w xs) (n : Nat) : Row b k w (xs.take n) := ⟨fun x hx => h.lf x (List.mem_of_mem_take hx), fun x hx => h.dp x (List.mem_of_mem_take hx), by have := wAll_take xs n; have := h.wt; omega⟩
theorem Row.drop {b k w : Nat} {xs : List PyData} (h : Row b k w xs) (n : Nat) : Row b k w (xs.drop n) := ⟨fun x hx => h.lf x (List.mem_of_mem_drop hx), fun x hx => h.dp x (List.mem_of_mem_drop hx), by have := wAll_take xs n; have := h.wt; omega⟩
theorem Row.item {b k w : Nat} {xs : List PyData} (h : Row b k w xs) {x : PyData} (hx : x ∈ xs) : Sm b k w x := ⟨h.lf x hx, h.dp x hx, by
  obtain ⟨s, t, rfl⟩ := List.append_of_mem hx
  have := h.wt
  rw [wAll_app, PyData.weightAll] at this
  omega⟩
/-- weights of the parts, exactly -/
theorem wAll_at {xs : List PyData} {n : Nat} {x : PyData} (h : xs[n]? = some x) : PyData.weightAll (xs.take n) + (x.weight + 1 + PyData.weightAll (xs.drop (n + 1))) = PyData.weightAll xs := by
  have e := drop_cons h
  have := wAll_take xs n
  rw [e, PyData.weightAll] at this
  omega
/-! ### the odd things -/
def odds : List PyData := [.none, .bool true, .bool false, .str (Str.ofString ""), .str (Str.ofString "a"), .str (Str.ofString "1"), .tuple [], .list [], .tuple [.int 0], .list [.int 1, .int 2], .int (-1), .int 0, .int 1, .int 2, .int 1000000000000000000000000000000000000000000000000000000000000, .tuple [.int 0, .int 1], .tuple [.int 1, .tuple [.int 0, .int 1]], .tuple [.tuple [.int 0, .int 0]]]
theorem sm_int {i : Int} {b k w : Nat} (h : i.natAbs < 2 ^ w) (hw : w ≤ 670) : Sm b k w (.int i) := ⟨.int i (Nat.lt_of_lt_of_le h (Nat.le_trans (Nat.pow_le_pow_right (by decide) hw) (Nat.le_add_right _ _))), Nat.zero_le _, by
  rw [PyData.weight]
  split
  · exact Nat.zero_le _
  · rename_i hz
    have z : i.natAbs ≠ 0 := by
      intro e
      exact hz (by simp; omega)
    have := (Nat.log2_lt z).mpr h
    omega⟩
theorem sm_two {b k w : Nat} {x y : PyData} (hx : Sm b k w x) (hy : Sm b k w y) : Sm b (k + 1) (w + 1 + (w + 1 + 0)) (.tuple [x, y]) := (Row.cons hx (Row.cons hy Row.nil)).tup
theorem odds_sm : ∀ d ∈ odds, Sm 0 3 210 d := by
  have i0 : ∀ i : Int, i.natAbs < 2 ^ 200 → Sm 0 0 200 (.int i) := fun i h => sm_int h (by decide)
  have iw : ∀ (i : Int) (k : Nat), i.natAbs < 2 ^ 3 → Sm 0 k 3 (.int i) := fun i k h => sm_int h (by decide)
  intro d hd
  simp only [odds, List.mem_cons, List.not_mem_nil, or_false] at hd
  rcases hd with rfl | rfl | rfl | rfl | rfl | rfl | rfl | rfl | rfl | rfl | rfl | rfl | rfl | rfl | rfl | rfl | rfl | rfl
  · exact ⟨.non, by decide, by decide⟩
  · exact ⟨.bl _, by decide, by decide⟩
  · exact ⟨.bl _, by decide, by decide⟩
  · exact ⟨.str _ (cok_iff.mpr (cok_of _)), by decide, by decide +kernel⟩
  · exact ⟨.str _ (cok_iff.mpr (cok_of _)), by decide, by decide +kernel⟩
  · exact ⟨.str _ (cok_iff.mpr (cok_of _)), by decide, by decide +kernel⟩
  · exact (Row.nil (b := 0) (k := 2)).tup.mono (by decide) (by decide) (by decide)
  · exact (Row.nil (b := 0) (k := 2)).lst.mono (by decide) (by decide) (by decide)
  · exact (Row.cons (iw 0 2 (by decide)) Row.nil).tup.mono (by decide) (by decide) (by decide)
  · exact (Row.cons (iw 1 2 (by decide)) (Row.cons (iw 2 2 (by decide)) Row.nil)).lst.mono (by decide) (by decide) (by decide)
  · exact (iw _ 3 (by decide)).mono (by decide) (by decide) (by decide)
  · exact (iw _ 3 (by decide)).mono (by decide) (by decide) (by decide)
  · exact (iw _ 3 (by decide)).mono (by decide) (by decide) (by decide)
  · exact (iw _ 3 (by decide)).mono (by decide) (by decide) (by decide)
  · exact (i0 _ (by decide)).mono (by decide) (by decide) (by decide)
  · exact (sm_two (iw 0 2 (by decide)) (iw 1 2 (by decide))).mono (by decide) (by decide) (by decide)
  · exact (sm_two (b := 0) (k := 2) (w := 8) ((iw 1 2 (by decide)).mono (by decide) (by decide) (by decide)) ((sm_two (iw 0 1 (by decide)) (iw 1 1 (by decide))).mono (by decide) (by decide) (by decide))).mono (by decide) (by decide) (by decide)
  · exact (Row.cons (sm_two (iw 0 1 (by decide)) (iw 0 1 (by decide))) Row.nil).tup.mono (by decide) (by decide) (by decide)
local macro_rules | `(tactic| walk_at "ev5") => `(tactic| (try simp only [x_pb, x_fb, x_ba, x_ls, x_ln, x_eVar, x_bVar, x_rdF, x_rdB, x_eC, x_e2, x_e1, x_eList, x_eTup, x_nLst, x_lNil, x_lCons, x_aNil, x_aCons, x_aTape, x_isTp, x_eCal, x_nCal, x_eCall, x_eCut, x_pNone, x_pSome, x_tOf, x_bAnd, x_bOr, x_bNot, x_eIf, x_eAnd, x_eOr, x_eNot, x_eChain, x_lSeq, x_nComp, x_sNext, x_sSeq, x_atN, x_atR, x_atB, x_atC, x_sDrop, x_sRet, x_sIf, x_sAsg, x_mName, x_mSeq, x_mgNil, x_mgCons, x_sOwn, x_sFrz, x_frz, x_sApp, x_owOf, x_sSetI, x_sPar, x_sPar3, x_forN, x_forC, x_loN, x_loC, x_loB, x_loR, x_cN, x_cC, x_bYes, x_oR, x_oN, x_mf0, x_mf1, x_mf2, x_mf3, x_mf4, x_mf5, x_tput, x_sExt, x_nRev, v_isII, v_isBI, v_in3, v_ltDI, v_gtDI, v_leDI, v_geDI, List.getElem?_cons_zero, List.getElem?_cons_succ, List.set_cons_zero, List.set_cons_succ, List.replicate_succ, List.replicate_zero, List.cons_append, List.nil_append, List.length_cons, List.length_nil, v_sub, v_add, v_neg, v_lt, v_le, v_gt, v_ge, v_abs, v_max, v_min, v_intI, v_intB, v_lenL, v_lenT, v_tupL, v_tupT, v_listL, v_listT, v_ixL, v_ixT, v_at0, v_at1, v_at2, v_bool, v_seqL, v_seqT, v_intOf, v_ok0, v_ok1, v_ok2, v_ok3, v_ok4, v_okn, v_ok5, v_ok6, v_ok7, v_ok8, v_ok9, v_ok10, v_ok11, v_ok12, v_ok13, v_ok14, v_ok15, v_ok16, v_ok17, v_ok18, v_ok19, v_ok20, v_ok21, v_ok22, v_ok23, v_ok24, v_ok25, v_ok26, v_ok27, v_ok28, v_ok29, v_ok30, v_ok31, v_ok32, gEq_int, gNe_int, v_rng1, v_rng2, okRg, Int.reducePow, Nat.sub_self, Nat.reduceSub, Nat.reduceAdd, unAll, if_true, if_false, Option.bind_some, Option.bind_none, ite_true, ite_false, Bool.false_eq_true, rgD, Int.reduceBEq, Int.reduceToNat, Int.reduceLT, Int.reduceLE, Int.reduceMul, Int.reduceAdd, Int.reduceSub, Int.reduceNeg, Nat.reduceMul, Nat.reduceLT, Nat.reduceBEq, decide_true, decide_false, Bool.and_true, Bool.true_and, Bool.and_self, Bool.not_true, Bool.not_false, BEq.rfl, reduceIte, v_mulS, v_modS, compGo_M, compM_map, compM_filter, compM_nil, x_ebool, x_bb, x_iband, x_ibor, x_band, x_bor, Bool.or_false, Bool.false_or, Bool.and_false, Bool.false_and, x_sWhile, v_revAL, v_revAT, v_revC0, x_eRevT, abs_ite, v_any3, v_atm1, v_atm2, v_atm3, v_lastT, v_lastL, Nat.add_zero, Nat.zero_add, nc0, nc1, nc2, nc3, nc4, nc5, nc6, x_pbool, Bool.true_or, Bool.or_true]))
local macro_rules | `(tactic| walk_at "ev6") => `(tactic| (try simp only [x_pb, x_fb, x_ba, x_ls, x_ln, x_eVar, x_bVar, x_rdF, x_rdB, x_eC, x_e2, x_e1, x_eList, x_eTup, x_nLst, x_lNil, x_lCons, x_aNil, x_aCons, x_aTape, x_isTp, x_eCal, x_nCal, x_eCall, x_eCut, x_pNone, x_pSome, x_tOf, x_bAnd, x_bOr, x_bNot, x_eIf, x_eAnd, x_eOr, x_eNot, x_eChain, x_lSeq, x_nComp, x_sNext, x_sSeq, x_atN, x_atR, x_atB, x_atC, x_sDrop, x_sRet, x_sIf, x_sAsg, x_mName, x_mSeq, x_mgNil, x_mgCons, x_sOwn, x_sFrz, x_frz, x_sApp, x_owOf, x_sSetI, x_sPar, x_sPar3, x_sFor, x_forN, x_forC, x_loN, x_loC, x_loB, x_loR, x_cN, x_cC, x_bYes, x_oR, x_oN, x_mf0, x_mf1, x_mf2, x_mf3, x_mf4, x_mf5, x_tput, x_sExt, x_nRev, v_isII, v_isBI, v_in3, v_ltDI, v_gtDI, v_leDI, v_geDI, List.getElem?_cons_zero, List.getElem?_cons_succ, List.set_cons_zero, List.set_cons_succ, List.replicate_succ, List.replicate_zero, List.cons_append, List.nil_append, List.length_cons, List.length_nil, v_sub, v_add, v_neg, v_lt, v_le, v_gt, v_ge, v_abs, v_max, v_min, v_intI, v_intB, v_lenL, v_lenT, v_tupL, v_tupT, v_listL, v_listT, v_ixL, v_ixT, v_at0, v_at1, v_at2, v_bool, v_seqL, v_seqT, v_intOf, v_ok0, v_ok1, v_ok2, v_ok3, v_ok4, v_okn, v_ok5, v_ok6, v_ok7, v_ok8, v_ok9, v_ok10, v_ok11, v_ok12, v_ok13, v_ok14, v_ok15, v_ok16, v_ok17, v_ok18, v_ok19, v_ok20, v_ok21, v_ok22, v_ok23, v_ok24, v_ok25, v_ok26, v_ok27, v_ok28, v_ok29, v_ok30, v_ok31, v_ok32, gEq_int, gNe_int, v_rng1, v_rng2, okRg, Int.reducePow, Nat.sub_self, Nat.reduceSub, Nat.reduceAdd, unAll, if_true, if_false, Option.bind_some, Option.bind_none, ite_true, ite_false, Bool.false_eq_true, rgD, Int.reduceBEq, Int.reduceToNat, Int.reduceLT, Int.reduceLE, Int.reduceMul, Int.reduceAdd, Int.reduceSub, Int.reduceNeg, Nat.reduceMul, Nat.reduceLT, Nat.reduceBEq, decide_true, decide_false, Bool.and_true, Bool.true_and, Bool.and_self, Bool.not_true, Bool.not_false, BEq.rfl, reduceIte, v_mulS, v_modS, compGo_M, compM_map, compM_filter, compM_nil, x_ebool, x_bb, x_iband, x_ibor, x_band, x_bor, Bool.or_false, Bool.false_or, Bool.and_false, Bool.false_and, x_sWhile, v_revAL, v_revAT, v_revC0, x_eRevT, abs_ite, v_any3, v_atm1, v_atm2, v_atm3, v_lastT, v_lastL, Nat.add_zero, Nat.zero_add, nc0, nc1, nc2, nc3, nc4, nc5, nc6, x_pbool, Bool.true_or, Bool.or_true, gIsi, isTy]))
theorem odd_gv : Gv 0 (m_law_odd [.tp]) 1 fun d => d ∈ odds := by
  unfold m_law_odd
  walk_at "ev1"
  rw [v_pow (show okPow 10 60 = true from rfl)]
  walk_at "ev1"
  refine draw1 (by decide) (by decide) fun r r0 r1 => ?_
  obtain ⟨n, rfl⟩ : ∃ n : Nat, r = n := ⟨r.toNat, by omega⟩
  walk_at "ev1"
  have hl : odds.length = 18 := rfl
  obtain ⟨d, hd⟩ : ∃ d, odds[n]? = some d := ⟨odds[n]'(by omega), List.getElem?_eq_getElem (by omega)⟩
  show Gv 0 (M.lift (L2.atI odds (n : Int)) >>= fun a => pure a) 0 _
  rw [v_at, hd]
  exact Gv.ret (List.mem_of_getElem? hd)
/-! ### bent -/
theorem len_le : ∀ xs : List PyData, xs.length ≤ PyData.weightAll xs
  | [] => Nat.zero_le _
  | x :: xs => by have := len_le xs; rw [List.length_cons, PyData.weightAll]; omega
theorem v_midT {xs : List PyData} {i j : Nat} (h : i ≤ j) : gCut (.tuple xs) (some (i : Int)) (some (j : Int)) = some (.tuple ((xs.drop i).take (j - i))) := by
  show some (PyData.tuple (cutD xs (some (i : Int)) (some (j : Int)))) = _
  unfold cutD
  rw [HT.sIx_nat, HT.sIx_nat]
  congr 2
  by_cases h1 : i ≤ xs.length
  · by_cases h2 : j ≤ xs.length
    · rw [Nat.min_eq_left h1, Nat.min_eq_left h2]
    · rw [Nat.min_eq_left h1, Nat.min_eq_right (by omega), List.take_of_length_le (by rw [List.length_drop]; omega), List.take_of_length_le (by rw [List.length_drop]; omega)]
  · rw [Nat.min_eq_right (by omega), Nat.min_eq_right (by omega), List.drop_length, List.drop_of_length_le (by omega), List.take_nil, List.take_nil]
theorem v_addTT {xs ys : List PyData} (h : xs.length + ys.length ≤ 1000000) : gAdd (.tuple xs) (.tuple ys) = some (.tuple (xs ++ ys)) := by
  show (none : Option PyData).or ((none : Option PyData).or ((gCatT (.tuple xs) (.tuple ys)).or _)) = _
  unfold gCatT
  simp only [okLen_of h, if_true]
  rfl
theorem int_str {i : Int} (h : i.natAbs < 2 ^ 690) : (PyData.str (toString i)).weight ≤ 700 := by
  have h1 := int_log h
  have h2 := int_text_length_le (k := 690) (by decide) h1
  show (Str.ofString (toString i)).length ≤ 700
  rw [ofString_length]
  omega
/-- what bending leaves of d -/
abbrev Bn (b k : Nat) (d d' : PyData) : Prop := Sm (b + 1) (k + 4) (2 * d.weight + 1000) d'
theorem st_gv {g : MF} {b k c : Nat} {dp : Int} (hb : b ≤ 900) {d : PyData} (hd : Lf b d) (hk : d.depth ≤ k) (hw : d.weight ≤ 100000)
    (hg : 0 < dp → ∀ (x : PyData) (k' : Nat), k' + 1 = k → Lf b x → x.depth ≤ k' → x.weight ≤ 100000 → Gv 0 (g [.tp, .fz x, .fz (.int (dp - 1))]) c fun x' => Bn b k' x x') :
    Gv 0 (st_law_bent g [.tp, .fz d, .fz (.int dp)]) (c + 5) fun d' => Bn b k d d' := by
  -- the second half: no deeper
  have low : Gv 0 (sSeq (sAsg (eCall LFD.m_law_draw (aTape 0 (aCons (eC (.int 6)) aNil))) (mName 4))
      (sSeq (sAsg (eCall LBT.m_law_odd (aTape 0 aNil)) (mName 5))
      (sSeq (sIf (tOf (e1 (gIsi .tuple) (bVar 1))) (sSeq (sAsg (eCall LFD.m_law_draw (aTape 0 (aCons (e2 gAdd (eCal cLen (lCons (bVar 1) lNil)) (eC (.int 1))) aNil))) (mName 3))
      (sSeq (sAsg (eList (nLst (lCons (eList (nCal cList (lCons (bVar 1) lNil))) (lCons (e2 gAdd (e2 gAdd (eCut (bVar 1) pNone (pSome (bVar 3))) (eTup (lCons (eVar 5) lNil))) (eCut (bVar 1) (pSome (bVar 3)) pNone)) (lCons (e2 gAdd (eCut (bVar 1) pNone (pSome (bVar 3))) (eCut (bVar 1) (pSome (e2 gAdd (bVar 3) (eC (.int 1)))) pNone)) (lCons (e2 gAdd (eCut (bVar 1) pNone (pSome (e2 gAdd (bVar 3) (eC (.int 1))))) (eCut (bVar 1) (pSome (bVar 3)) pNone)) lNil)))))) (mName 6))
      (sRet (e2 gIx (e2 gAdd (bVar 6) (eList (nLst (lCons (e2 gAdd (e2 gAdd (eCut (bVar 1) pNone (pSome (bVar 3))) (e1 gRevA (eCut (bVar 1) (pSome (bVar 3)) (pSome (e2 gAdd (bVar 3) (eC (.int 2))))))) (eCut (bVar 1) (pSome (e2 gAdd (bVar 3) (eC (.int 2)))) pNone)) (lCons (e1 gRevA (bVar 1)) lNil))))) (bVar 4))))) sNext)
      (sSeq (sIf (bAnd (tOf (e1 (gIsi .int) (bVar 1))) (bNot (tOf (e1 (gIsi .bool) (bVar 1))))) (sRet (e2 gIx (eList (nLst (lCons (e2 gAdd (bVar 1) (eC (.int 1))) (lCons (e2 gSub (bVar 1) (eC (.int 1))) (lCons (e2 gSub (eC (.int 0)) (bVar 1)) (lCons (e2 gEq (bVar 1) (eC (.int 1))) (lCons (eCal cStr (lCons (bVar 1) lNil)) (lCons (eVar 5) lNil)))))))) (bVar 4))) sNext)
      (sRet (eVar 5))))) [.tp, .fz d, .fz (.int dp), .un, .un, .un, .un] >>= outD) 3 fun d' => Bn b k d d' := by
    walk_at "ev6"
    refine draw1 (by decide) (by decide) fun r r0 r1 => ?_
    walk_at "ev6"
    refine Gv.step (c := 1) odd_gv fun o ho => ?_
    have so : Sm (b + 1) (k + 4) (2 * d.weight + 1000) o := (odds_sm o ho).mono (by omega) (by omega) (by omega)
    have pick : ∀ (e : Nat) (l : List PyData), l.length = 6 → (∀ x ∈ l, Bn b k d x) → Gv 0 (M.lift (L2.atI l r) >>= fun a => (pure a : M PyData)) e fun d' => Bn b k d d' := fun e l hl hx => by
      obtain ⟨n, rfl⟩ : ∃ n : Nat, r = n := ⟨r.toNat, by omega⟩
      have hn : n < l.length := by omega
      rw [v_at, List.getElem?_eq_getElem hn]
      exact Gv.ret (hx _ (List.getElem_mem hn))
    cases d with
    | tuple xs =>
      obtain ⟨k', rfl⟩ : ∃ k', k = k' + 1 := ⟨k - 1, by rw [PyData.depth] at hk; omega⟩
      have row : Row b k' (PyData.tuple xs).weight xs := Sm.row ⟨hd, hk, Nat.le_refl _⟩
      have row' : Row (b + 1) (k' + 4) (PyData.tuple xs).weight xs := row.mono (by omega) (by omega) (Nat.le_refl _)
      have hlen : xs.length ≤ 100000 := Nat.le_trans (len_le xs) (by rw [PyData.weight] at hw; exact hw)
      have ww : (PyData.tuple xs).weight = PyData.weightAll xs := by rw [PyData.weight]
      walk_at "ev6"
      refine draw1 (by omega) (by omega) fun a a0 a1 => ?_
      obtain ⟨n, rfl⟩ : ∃ n : Nat, a = n := ⟨a.toNat, by omega⟩
      have e1 : ((n : Int) + 1) = ((n + 1 : Nat) : Int) := by omega
      have e2 : ((n : Int) + 2) = ((n + 2 : Nat) : Int) := by omega
      walk_at "ev6"
      rw [e1, e2, v_takeT (by omega), v_dropT (by omega), v_dropT (by omega), v_takeT (by omega), v_dropT (by omega), v_midT (by omega)]
      walk_at "ev6"
      rw [Int.toNat_natCast, Int.toNat_natCast, Int.toNat_natCast]
      rw [v_addTT (by rw [List.length_take]; simp; omega)]
      walk_at "ev6"
      rw [v_addTT (by simp only [List.length_append, List.length_take, List.length_drop, List.length_cons, List.length_nil]; omega), v_addTT (by simp only [List.length_take, List.length_drop]; omega), v_addTT (by simp only [List.length_take, List.length_drop]; omega), v_addTT (by simp only [List.length_reverse, List.length_take, List.length_drop]; omega)]
      walk_at "ev6"
      rw [v_addTT (by simp only [List.length_append, List.length_reverse, List.length_take, List.length_drop]; omega)]
      walk_at "ev6"
      rw [v_addL (okLen_of (by simp))]
      walk_at "ev6"
      refine pick 0 _ rfl fun x hx => ?_
      have rt := row'.take n
      have rd := row'.drop n
      have ro : Row (b + 1) (k' + 4) (210 + 1 + 0) [o] := Row.cons ((odds_sm o ho).mono (by omega) (by omega) (Nat.le_refl _)) Row.nil
      have sumw := wAll_take xs n
      have sumw1 := wAll_take xs (n + 1)
      have fin : ∀ ys : List PyData, (∀ y ∈ ys, Lf (b + 1) y) → (∀ y ∈ ys, y.depth ≤ k' + 4) → PyData.weightAll ys ≤ 2 * PyData.weightAll xs + 1000 → Bn b (k' + 1) (.tuple xs) (.tuple ys) := fun ys h1 h2 h3 =>
        (Row.tup ⟨h1, h2, h3⟩).mono (Nat.le_refl _) (by omega) (by omega)
      simp only [List.mem_cons, List.not_mem_nil, or_false] at hx
      rcases hx with rfl | rfl | rfl | rfl | rfl | rfl
      · exact row'.lst.mono (Nat.le_refl _) (by omega) (by omega)
      · have := ((row'.take n).app ro).app (row'.drop n)
        refine fin _ this.lf this.dp ?_
        rw [wAll_app, wAll_app]
        have := ro.wt
        omega
      · have := (row'.take n).app (row'.drop (n + 1))
        refine fin _ this.lf this.dp ?_
        have w2 := (row.drop n).drop 1
        rw [List.drop_drop] at w2
        have q := wAll_take (xs.drop n) 1
        rw [List.drop_drop] at q
        rw [wAll_app]
        omega
      · have := (row'.take (n + 1)).app (row'.drop n)
        refine fin _ this.lf this.dp ?_
        rw [wAll_app]
        omega
      · have := ((row'.take n).app (((row'.drop n).take (n + 2 - n)).rev)).app (row'.drop (n + 2))
        refine fin _ this.lf this.dp ?_
        have q := wAll_take (xs.drop n) (n + 2 - n)
        rw [List.drop_drop] at q
        rw [wAll_app, wAll_app, wAll_rev]
        rw [show n + (n + 2 - n) = n + 2 by omega] at q
        omega
      · have := row'.rev
        exact fin _ this.lf this.dp (by rw [wAll_rev]; omega)
    | int i =>
      have hi : i.natAbs < 2 ^ 670 + b := by
        cases hd with
        | int _ h => exact h
      have h69 : i.natAbs < 2 ^ 690 := pow69 (by omega)
      have wi : ∀ j : Int, j.natAbs ≤ i.natAbs + 1 → Bn b k (.int i) (.int j) := fun j hj => ⟨.int j (by omega), by show 0 ≤ k + 4; omega, by
        have hj9 : j.natAbs < 2 ^ 690 := pow69 (by omega)
        have := int_log hj9
        have w1 : (PyData.int j).weight ≤ 700 := by
          rw [PyData.weight]
          split <;> omega
        omega⟩
      walk_at "ev6"
      rw [show cStr [PyData.int i] = some (.str (toString i)) from if_pos h69]
      walk_at "ev6"
      refine pick 1 _ rfl fun x hx => ?_
      simp only [List.mem_cons, List.not_mem_nil, or_false] at hx
      rcases hx with rfl | rfl | rfl | rfl | rfl | rfl
      · exact wi _ (by omega)
      · exact wi _ (by omega)
      · exact wi _ (by omega)
      · exact ⟨.bl _, by show 0 ≤ _; omega, by show 0 ≤ _; omega⟩
      · exact ⟨.str _ (cok_iff.mpr (cok_of _)), by show 0 ≤ _; omega, by have := int_str h69; omega⟩
      · exact so
    | none =>
      walk_at "ev6"
      exact Gv.ret so
    | bool x =>
      walk_at "ev6"
      exact Gv.ret so
    | str x =>
      walk_at "ev6"
      exact Gv.ret so
    | list xs =>
      walk_at "ev6"
      exact Gv.ret so
    | dict kvs => cases hd
  unfold st_law_bent
  rw [x_mf3, x_sSeq, x_sIf]
  show Gv 0 ((bAnd _ _ [.tp, .fz d, .fz (.int dp), .un, .un, .un, .un] >>= _) >>= _ >>= _) _ _
  have skip : ∀ {cnd : MB} {A R : MS} {e : Nat}, cnd [.tp, .fz d, .fz (.int dp), .un, .un, .un, .un] = pure false → Gv 0 (R [.tp, .fz d, .fz (.int dp), .un, .un, .un, .un] >>= outD) 3 (fun d' => Bn b k d d') → 3 ≤ e →
      Gv 0 (((cnd [.tp, .fz d, .fz (.int dp), .un, .un, .un, .un] >>= fun x => if x = true then A [.tp, .fz d, .fz (.int dp), .un, .un, .un, .un] else sNext [.tp, .fz d, .fz (.int dp), .un, .un, .un, .un]) >>= andThen R) >>= outD) e fun d' => Bn b k d d' := fun hc hl he => by
    rw [hc, x_pb, if_neg (by decide), x_sNext, x_pb, x_atN]
    exact hl.le he
  cases d with
  | tuple xs =>
    by_cases hc : 0 < xs.length ∧ 0 < dp
    · obtain ⟨hx, hdp⟩ := hc
      have hcnd : ∀ ρ' : List Sl, ρ' = [.tp, .fz (.tuple xs), .fz (.int dp), .un, .un, .un, .un] → bAnd (tOf (e1 (gIsi .tuple) (bVar 1))) (bAnd (tOf (e2 gGtD (eCal cLen (lCons (bVar 1) lNil)) (eC (.int 0)))) (bAnd (tOf (e2 gGtD (bVar 2) (eC (.int 0)))) (tOf (e2 gGtD (eCall LFD.m_law_draw (aTape 0 (aCons (eC (.int 4)) aNil))) (eC (.int 0)))))) ρ' = LFD.m_law_draw [.tp, .fz (.int 4)] >>= fun a => M.lift (gGtD a (.int 0)) >>= fun b => M.lift (boolOf (some b)) := fun ρ' e => by
        subst e
        walk_at "ev6"
        rw [decide_eq_true (by omega), decide_eq_true hdp]
        walk_at "ev6"
      rw [hcnd _ rfl, x_ba, x_ba, x_ba]
      refine Gv.mono (c := c + 5) (draw1 (by decide) (by decide) (fun r r0 r1 => ?_) (by omega)) (Nat.le_refl _) fun _ h => h
      rw [v_gtDI, x_ls, x_pb, v_bool, x_ls, x_pb]
      by_cases hr : 0 < r
      · rw [decide_eq_true hr, if_pos rfl]
        obtain ⟨k', rfl⟩ : ∃ k', k = k' + 1 := ⟨k - 1, by rw [PyData.depth] at hk; omega⟩
        have row : Row b k' (PyData.tuple xs).weight xs := Sm.row ⟨hd, hk, Nat.le_refl _⟩
        have ww : (PyData.tuple xs).weight = PyData.weightAll xs := by rw [PyData.weight]
        have hlen : xs.length ≤ 100000 := Nat.le_trans (len_le xs) (by rw [PyData.weight] at hw; exact hw)
        walk_at "ev6"
        refine draw1 (by omega) (by omega) (fun a a0 a1 => ?_) (by omega)
        obtain ⟨n, rfl⟩ : ∃ n : Nat, a = n := ⟨a.toNat, by omega⟩
        obtain ⟨x, hx'⟩ : ∃ x, xs[n]? = some x := ⟨xs[n]'(by omega), List.getElem?_eq_getElem (by omega)⟩
        have sx := row.item (List.mem_of_getElem? hx')
        have wx := wAll_at hx'
        walk_at "ev6"
        rw [v_takeT (by omega), show L2.atI xs (n : Int) = some x by rw [v_at, hx'], show ((n : Int) + 1) = ((n + 1 : Nat) : Int) by omega, v_dropT (by omega)]
        walk_at "ev6"
        refine Gv.step (c := c) (hg hdp x k' rfl sx.lf sx.dp (by omega)) (fun x' hx2 => ?_) (by omega)
        walk_at "ev6"
        rw [Int.toNat_natCast, Int.toNat_natCast, v_addTT (by rw [List.length_take]; simp; omega)]
        walk_at "ev6"
        rw [v_addTT (by simp only [List.length_append, List.length_take, List.length_drop, List.length_cons, List.length_nil]; omega)]
        walk_at "ev6"
        have rt := (row.mono (b' := b + 1) (k' := k' + 4) (by omega) (by omega) (Nat.le_refl _))
        have := ((rt.take n).app (Row.cons hx2 Row.nil)).app (rt.drop (n + 1))
        refine Gv.ret ⟨(Row.tup this).lf, Nat.le_trans (Row.tup this).dp (by omega), ?_⟩
        rw [PyData.weight, wAll_app, wAll_app, PyData.weightAll, PyData.weightAll]
        have := hx2.wt
        omega
      · rw [decide_eq_false hr, if_neg (by decide), x_sNext, x_pb, x_atN]
        exact low.le (by omega)
    · refine skip ?_ low (by omega)
      walk_at "ev6"
      by_cases hx : 0 < xs.length
      · rw [decide_eq_true (by omega), decide_eq_false (by omega)]
        walk_at "ev6"
      · rw [decide_eq_false (by omega)]
        walk_at "ev6"
  | none => exact skip (by walk_at "ev6") low (by omega)
  | bool x => exact skip (by walk_at "ev6") low (by omega)
  | int i => exact skip (by walk_at "ev6") low (by omega)
  | str x => exact skip (by walk_at "ev6") low (by omega)
  | list xs => exact skip (by walk_at "ev6") low (by omega)
  | dict kvs => cases hd
theorem bent_gv {b k : Nat} (hb : b ≤ 900) {d : PyData} (hd : Lf b d) (hk : d.depth ≤ k) (hw : d.weight ≤ 100000) : Gv 0 (m_law_bent [.tp, .fz d, .fz (.int 3)]) 20 fun d' => Bn b k d d' := by
  have g1 : ∀ (d : PyData) (k : Nat), Lf b d → d.depth ≤ k → d.weight ≤ 100000 → Gv 0 (m_law_bent_1 [.tp, .fz d, .fz (.int 0)]) 5 fun d' => Bn b k d d' := fun d k h1 h2 h3 =>
    st_gv (c := 0) hb h1 h2 h3 fun z => absurd z (by decide)
  have g2 : ∀ (d : PyData) (k : Nat), Lf b d → d.depth ≤ k → d.weight ≤ 100000 → Gv 0 (m_law_bent_2 [.tp, .fz d, .fz (.int 1)]) 10 fun d' => Bn b k d d' := fun d k h1 h2 h3 =>
    st_gv (c := 5) hb h1 h2 h3 fun _ x k' _ q1 q2 q3 => g1 x k' q1 q2 q3
  have g3 : ∀ (d : PyData) (k : Nat), Lf b d → d.depth ≤ k → d.weight ≤ 100000 → Gv 0 (m_law_bent_3 [.tp, .fz d, .fz (.int 2)]) 15 fun d' => Bn b k d d' := fun d k h1 h2 h3 =>
    st_gv (c := 10) hb h1 h2 h3 fun _ x k' _ q1 q2 q3 => g2 x k' q1 q2 q3
  exact st_gv (c := 15) hb hd hk hw fun _ x k' _ q1 q2 q3 => g3 x k' q1 q2 q3
end LBT

set_option maxHeartbeats 1000000
namespace LKD
open DL PySem LFD LPR LHL LBT
local macro_rules | `(tactic| walk_at "ev") => `(tactic| (try simp only [x_pb, x_fb, x_ba, x_ls, x_ln, x_eVar, x_bVar, x_rdF, x_rdB, x_eC, x_e2, x_e1, x_eList, x_eTup, x_nLst, x_lNil, x_lCons, x_aNil, x_aCons, x_aTape, x_isTp, x_eCal, x_nCal, x_eCall, x_eCut, x_pNone, x_pSome, x_tOf, x_bAnd, x_bOr, x_bNot, x_eIf, x_eAnd, x_eOr, x_eNot, x_eChain, x_lSeq, x_nComp, x_sNext, x_sSeq, x_atN, x_atR, x_atB, x_atC, x_sDrop, x_sRet, x_sIf, x_sAsg, x_mName, x_mSeq, x_mgNil, x_mgCons, x_sOwn, x_sFrz, x_frz, x_sApp, x_owOf, x_sSetI, x_sPar, x_sPar3, x_sFor, x_forN, x_forC, x_loN, x_loC, x_loB, x_loR, x_cN, x_cC, x_bYes, x_oR, x_oN, x_mf0, x_mf1, x_mf2, x_mf3, x_mf4, x_mf5, x_tput, x_sExt, x_nRev, v_isII, v_isBI, v_in3, v_ltDI, v_gtDI, v_leDI, v_geDI, List.getElem?_cons_zero, List.getElem?_cons_succ, List.set_cons_zero, List.set_cons_succ, List.replicate_succ, List.replicate_zero, List.cons_append, List.nil_append, List.length_cons, List.length_nil, v_sub, v_add, v_neg, v_lt, v_le, v_gt, v_ge, v_abs, v_max, v_min, v_intI, v_intB, v_lenL, v_lenT, v_tupL, v_tupT, v_listL, v_listT, v_ixL, v_ixT, v_at0, v_at1, v_at2, v_bool, v_seqL, v_seqT, v_intOf, v_ok0, v_ok1, v_ok2, v_ok3, v_ok4, v_okn, v_ok5, v_ok6, v_ok7, v_ok8, v_ok9, v_ok10, v_ok11, v_ok12, v_ok13, v_ok14, v_ok15, v_ok16, v_ok17, v_ok18, v_ok19, v_ok20, v_ok21, v_ok22, v_ok23, v_ok24, v_ok25, v_ok26, v_ok27, v_ok28, v_ok29, v_ok30, v_ok31, v_ok32, gEq_int, gNe_int, v_rng1, v_rng2, okRg, Int.reducePow, Nat.sub_self, Nat.reduceSub, Nat.reduceAdd, unAll, if_true, if_false, Option.bind_some, Option.bind_none, ite_true, ite_false, Bool.false_eq_true, rgD, Int.reduceBEq, Int.reduceToNat, Int.reduceLT, Int.reduceLE, Int.reduceMul, Int.reduceAdd, Int.reduceSub, Int.reduceNeg, Nat.reduceMul, Nat.reduceLT, Nat.reduceBEq, decide_true, decide_false, Bool.and_true, Bool.true_and, Bool.and_self, Bool.not_true, Bool.not_false, BEq.rfl, reduceIte]))
local macro_rules | `(tactic| walk_at "evt") => `(tactic| (try simp only [x_pb, x_fb, x_ba, x_ls, x_ln, x_eVar, x_bVar, x_rdF, x_rdB, x_eC, x_e2, x_e1, x_eList, x_eTup, x_nLst, x_lNil, x_lCons, x_aNil, x_aCons, x_aTape, x_isTp, x_eCal, x_nCal, x_eCall, x_eCut, x_pNone, x_pSome, x_tOf, x_bAnd, x_bOr, x_bNot, x_eIf, x_eAnd, x_eOr, x_eNot, x_eChain, x_lSeq, x_nComp, x_sNext, x_sSeq, x_atN, x_atR, x_atB, x_atC, x_sDrop, x_sRet, x_sIf, x_sAsg, x_mName, x_mSeq, x_mgNil, x_mgCons, x_sOwn, x_sFrz, x_frz, x_sApp, x_owOf, x_sSetI, x_sPar, x_sPar3, x_sFor, x_forN, x_forC, x_loN, x_loC, x_loB, x_loR, x_cN, x_cC, x_bYes, x_oR, x_oN, x_mf0, x_mf1, x_mf2, x_mf3, x_mf4, x_mf5, x_tput, x_sExt, x_nRev, v_isII, v_isBI, v_in3, v_ltDI, v_gtDI, v_leDI, v_geDI, List.getElem?_cons_zero, List.getElem?_cons_succ, List.set_cons_zero, List.set_cons_succ, List.replicate_succ, List.replicate_zero, List.cons_append, List.nil_append, List.length_cons, List.length_nil, v_sub, v_add, v_neg, v_lt, v_le, v_gt, v_ge, v_abs, v_max, v_min, v_intI, v_intB, v_lenL, v_lenT, v_tupL, v_tupT, v_listL, v_listT, v_ixL, v_ixT, v_at0, v_at1, v_at2, v_bool, v_seqL, v_seqT, v_intOf, v_ok0, v_ok1, v_ok2, v_ok3, v_ok4, v_okn, v_ok5, v_ok6, v_ok7, v_ok8, v_ok9, v_ok10, v_ok11, v_ok12, v_ok13, v_ok14, v_ok15, v_ok16, v_ok17, v_ok18, v_ok19, v_ok20, v_ok21, v_ok22, v_ok23, v_ok24, v_ok25, v_ok26, v_ok27, v_ok28, v_ok29, v_ok30, v_ok31, v_ok32, gEq_int, gNe_int, v_rng1, v_rng2, okRg, Int.reducePow, Nat.sub_self, Nat.reduceSub, Nat.reduceAdd, unAll, if_true, if_false, Option.bind_some, Option.bind_none, ite_true, ite_false, Bool.false_eq_true, rgD, Int.reduceBEq, Int.reduceToNat, Int.reduceLT, Int.reduceLE, Int.reduceMul, Int.reduceAdd, Int.reduceSub, Int.reduceNeg, Nat.reduceMul, Nat.reduceLT, Nat.reduceBEq, decide_true, decide_false, Bool.and_true, Bool.true_and, Bool.and_self, Bool.not_true, Bool.not_false, BEq.rfl, reduceIte, bnd_ap, pure_ap, lift_ap, fail_ap, ite_ap, x_tget, x_doPut, fldOf, tSet, Option.map_some, Option.map_none, beq_self_eq_true, Bool.and_true, Bool.true_and]))
local macro_rules | `(tactic| walk_at "ev1") => `(tactic| (try simp only [x_pb, x_fb, x_ba, x_ls, x_ln, x_eVar, x_bVar, x_rdF, x_rdB, x_eC, x_e2, x_e1, x_eList, x_eTup, x_nLst, x_lNil, x_lCons, x_aNil, x_aCons, x_aTape, x_isTp, x_eCal, x_nCal, x_eCall, x_eCut, x_pNone, x_pSome, x_tOf, x_bAnd, x_bOr, x_bNot, x_eIf, x_eAnd, x_eOr, x_eNot, x_eChain, x_lSeq, x_nComp, x_sNext, x_sSeq, x_atN, x_atR, x_atB, x_atC, x_sDrop, x_sRet, x_sIf, x_sAsg, x_mName, x_mSeq, x_mgNil, x_mgCons, x_sOwn, x_sFrz, x_frz, x_sApp, x_owOf, x_sSetI, x_sPar, x_sPar3, x_sFor, x_forN, x_forC, x_loN, x_loC, x_loB, x_loR, x_cN, x_cC, x_bYes, x_oR, x_oN, x_mf0, x_mf1, x_mf2, x_mf3, x_mf4, x_mf5, x_tput, x_sExt, x_nRev, v_isII, v_isBI, v_in3, v_ltDI, v_gtDI, v_leDI, v_geDI, List.getElem?_cons_zero, List.getElem?_cons_succ, List.set_cons_zero, List.set_cons_succ, List.replicate_succ, List.replicate_zero, List.cons_append, List.nil_append, List.length_cons, List.length_nil, v_sub, v_add, v_neg, v_lt, v_le, v_gt, v_ge, v_abs, v_max, v_min, v_intI, v_intB, v_lenL, v_lenT, v_tupL, v_tupT, v_listL, v_listT, v_ixL, v_ixT, v_at0, v_at1, v_at2, v_bool, v_seqL, v_seqT, v_intOf, v_ok0, v_ok1, v_ok2, v_ok3, v_ok4, v_okn, v_ok5, v_ok6, v_ok7, v_ok8, v_ok9, v_ok10, v_ok11, v_ok12, v_ok13, v_ok14, v_ok15, v_ok16, v_ok17, v_ok18, v_ok19, v_ok20, v_ok21, v_ok22, v_ok23, v_ok24, v_ok25, v_ok26, v_ok27, v_ok28, v_ok29, v_ok30, v_ok31, v_ok32, gEq_int, gNe_int, v_rng1, v_rng2, okRg, Int.reducePow, Nat.sub_self, Nat.reduceSub, Nat.reduceAdd, unAll, if_true, if_false, Option.bind_some, Option.bind_none, ite_true, ite_false, Bool.false_eq_true, rgD, Int.reduceBEq, Int.reduceToNat, Int.reduceLT, Int.reduceLE, Int.reduceMul, Int.reduceAdd, Int.reduceSub, Int.reduceNeg, Nat.reduceMul, Nat.reduceLT, Nat.reduceBEq, decide_true, decide_false, Bool.and_true, Bool.true_and, Bool.and_self, Bool.not_true, Bool.not_false, BEq.rfl, reduceIte, v_mulS, v_modS, compGo_M, compM_map, compM_filter, compM_nil, x_ebool, x_bb, x_iband, x_ibor, x_band, x_bor, Bool.or_false, Bool.false_or, Bool.and_false, Bool.false_and, x_sWhile, v_revAL, v_revAT, v_revC0, x_eRevT, abs_ite, v_any3, v_atm1, v_atm2, v_atm3, v_lastT, v_lastL, Nat.add_zero, Nat.zero_add, nc0, nc1, nc2, nc3, nc4, nc5, nc6, x_pbool, Bool.true_or, Bool.or_true]))
local macro_rules | `(tactic| walk_at "ev6") => `(tactic| (try simp only [x_pb, x_fb, x_ba, x_ls, x_ln, x_eVar, x_bVar, x_rdF, x_rdB, x_eC, x_e2, x_e1, x_eList, x_eTup, x_nLst, x_lNil, x_lCons, x_aNil, x_aCons, x_aTape, x_isTp, x_eCal, x_nCal, x_eCall, x_eCut, x_pNone, x_pSome, x_tOf, x_bAnd, x_bOr, x_bNot, x_eIf, x_eAnd, x_eOr, x_eNot, x_eChain, x_lSeq, x_nComp, x_sNext, x_sSeq, x_atN, x_atR, x_atB, x_atC, x_sDrop, x_sRet, x_sIf, x_sAsg, x_mName, x_mSeq, x_mgNil, x_mgCons, x_sOwn, x_sFrz, x_frz, x_sApp, x_owOf, x_sSetI, x_sPar, x_sPar3, x_sFor, x_forN, x_forC, x_loN, x_loC, x_loB, x_loR, x_cN, x_cC, x_bYes, x_oR, x_oN, x_mf0, x_mf1, x_mf2, x_mf3, x_mf4, x_mf5, x_tput, x_sExt, x_nRev, v_isII, v_isBI, v_in3, v_ltDI, v_gtDI, v_leDI, v_geDI, List.getElem?_cons_zero, List.getElem?_cons_succ, List.set_cons_zero, List.set_cons_succ, List.replicate_succ, List.replicate_zero, List.cons_append, List.nil_append, List.length_cons, List.length_nil, v_sub, v_add, v_neg, v_lt, v_le, v_gt, v_ge, v_abs, v_max, v_min, v_intI, v_intB, v_lenL, v_lenT, v_tupL, v_tupT, v_listL, v_listT, v_ixL, v_ixT, v_at0, v_at1, v_at2, v_bool, v_seqL, v_seqT, v_intOf, v_ok0, v_ok1, v_ok2, v_ok3, v_ok4, v_okn, v_ok5, v_ok6, v_ok7, v_ok8, v_ok9, v_ok10, v_ok11, v_ok12, v_ok13, v_ok14, v_ok15, v_ok16, v_ok17, v_ok18, v_ok19, v_ok20, v_ok21, v_ok22, v_ok23, v_ok24, v_ok25, v_ok26, v_ok27, v_ok28, v_ok29, v_ok30, v_ok31, v_ok32, gEq_int, gNe_int, v_rng1, v_rng2, okRg, Int.reducePow, Nat.sub_self, Nat.reduceSub, Nat.reduceAdd, unAll, if_true, if_false, Option.bind_some, Option.bind_none, ite_true, ite_false, Bool.false_eq_true, rgD, Int.reduceBEq, Int.reduceToNat, Int.reduceLT, Int.reduceLE, Int.reduceMul, Int.reduceAdd, Int.reduceSub, Int.reduceNeg, Nat.reduceMul, Nat.reduceLT, Nat.reduceBEq, decide_true, decide_false, Bool.and_true, Bool.true_and, Bool.and_self, Bool.not_true, Bool.not_false, BEq.rfl, reduceIte, v_mulS, v_modS, compGo_M, compM_map, compM_filter, compM_nil, x_ebool, x_bb, x_iband, x_ibor, x_band, x_bor, Bool.or_false, Bool.false_or, Bool.and_false, Bool.false_and, x_sWhile, v_revAL, v_revAT, v_revC0, x_eRevT, abs_ite, v_any3, v_atm1, v_atm2, v_atm3, v_lastT, v_lastL, Nat.add_zero, Nat.zero_add, nc0, nc1, nc2, nc3, nc4, nc5, nc6, x_pbool, Bool.true_or, Bool.or_true, gIsi, isTy]))
/-- a point, by its kind -/
def isPt : PyData → Bool
  | .tuple [.int _, .int _] => true
  | _ => false
def isNm : PyData → Bool
  | .int _ => true
  | _ => false
theorem number_eq (d : PyData) : m_is_number [.fz d] = pure (.bool (isNm d)) := by
  unfold m_is_number
  cases d <;> walk_at "ev6" <;> rfl
theorem isPt_iff {d : PyData} : isPt d = true ↔ ∃ p : Pt, d = ptK p := by
  constructor
  · intro h
    unfold isPt at h
    split at h
    · rename_i i j
      exact ⟨(i, j), rfl⟩
    · cases h
  · rintro ⟨p, rfl⟩
    rfl
theorem point_eq (d : PyData) (hl : ∀ kvs, d ≠ .dict kvs) : m_is_point [.fz d] = pure (.bool (isPt d)) := by
  unfold m_is_point
  cases d with
  | tuple xs =>
    match xs with
    | [] => walk_at "ev6"; rfl
    | [x] => walk_at "ev6"; cases x <;> rfl
    | [x, y] =>
      walk_at "ev6"
      rw [number_eq, number_eq]
      walk_at "ev6"
      cases x <;> cases y <;> rfl
    | x :: y :: z :: r =>
      walk_at "ev6"
      rw [show ((r.length + 1 + 1 + 1 : Nat) : Int) = (r.length : Int) + 3 by omega, show ((r.length : Int) + 3 == 2) = false by simp; omega]
      walk_at "ev6"
      cases x <;> cases y <;> rfl
  | dict kvs => exact absurd rfl (hl kvs)
  | _ => walk_at "ev6"; rfl
theorem nodict {b : Nat} {d : PyData} (h : Lf b d) : ∀ kvs, d ≠ .dict kvs := fun kvs e => by subst e; cases h
/-- points of great numbers -/
abbrev QP := { p : Pt // p.1.natAbs < 2 ^ 671 ∧ p.2.natAbs < 2 ^ 671 }
abbrev qK (q : QP) : PyData := ptK q.1
instance szQ1 {q : QP} : Sz q.1.1 671 := ⟨q.2.1⟩
instance szQ2 {q : QP} : Sz q.1.2 671 := ⟨q.2.2⟩
theorem turningQ (a b c : QP) : m_turning [.fz (qK a), .fz (qK b), .fz (qK c)] = pure (.int (Tp a.1 b.1 c.1)) := by
  unfold m_turning
  walk_at "ev1"
  rfl
local macro_rules | `(tactic| walk_at "ev2") => `(tactic| (try simp only [x_pb, x_fb, x_ba, x_ls, x_ln, x_eVar, x_bVar, x_rdF, x_rdB, x_eC, x_e2, x_e1, x_eList, x_eTup, x_nLst, x_lNil, x_lCons, x_aNil, x_aCons, x_aTape, x_isTp, x_eCal, x_nCal, x_eCall, x_eCut, x_pNone, x_pSome, x_tOf, x_bAnd, x_bOr, x_bNot, x_eIf, x_eAnd, x_eOr, x_eNot, x_eChain, x_lSeq, x_nComp, x_sNext, x_sSeq, x_atN, x_atR, x_atB, x_atC, x_sDrop, x_sRet, x_sIf, x_sAsg, x_mName, x_mSeq, x_mgNil, x_mgCons, x_sOwn, x_sFrz, x_frz, x_sApp, x_owOf, x_sSetI, x_sPar, x_sPar3, x_sFor, x_forN, x_forC, x_loN, x_loC, x_loB, x_loR, x_cN, x_cC, x_bYes, x_oR, x_oN, x_mf0, x_mf1, x_mf2, x_mf3, x_mf4, x_mf5, x_tput, x_sExt, x_nRev, v_isII, v_isBI, v_in3, v_ltDI, v_gtDI, v_leDI, v_geDI, List.getElem?_cons_zero, List.getElem?_cons_succ, List.set_cons_zero, List.set_cons_succ, List.replicate_succ, List.replicate_zero, List.cons_append, List.nil_append, List.length_cons, List.length_nil, v_sub, v_add, v_neg, v_lt, v_le, v_gt, v_ge, v_abs, v_max, v_min, v_intI, v_intB, v_lenL, v_lenT, v_tupL, v_tupT, v_listL, v_listT, v_ixL, v_ixT, v_at0, v_at1, v_at2, v_bool, v_seqL, v_seqT, v_intOf, v_ok0, v_ok1, v_ok2, v_ok3, v_ok4, v_okn, v_ok5, v_ok6, v_ok7, v_ok8, v_ok9, v_ok10, v_ok11, v_ok12, v_ok13, v_ok14, v_ok15, v_ok16, v_ok17, v_ok18, v_ok19, v_ok20, v_ok21, v_ok22, v_ok23, v_ok24, v_ok25, v_ok26, v_ok27, v_ok28, v_ok29, v_ok30, v_ok31, v_ok32, gEq_int, gNe_int, v_rng1, v_rng2, okRg, Int.reducePow, Nat.sub_self, Nat.reduceSub, Nat.reduceAdd, unAll, if_true, if_false, Option.bind_some, Option.bind_none, ite_true, ite_false, Bool.false_eq_true, rgD, Int.reduceBEq, Int.reduceToNat, Int.reduceLT, Int.reduceLE, Int.reduceMul, Int.reduceAdd, Int.reduceSub, Int.reduceNeg, Nat.reduceMul, Nat.reduceLT, Nat.reduceBEq, decide_true, decide_false, Bool.and_true, Bool.true_and, Bool.and_self, Bool.not_true, Bool.not_false, BEq.rfl, reduceIte, v_mulS, v_modS, compGo_M, compM_map, compM_filter, compM_nil, x_ebool, x_bb, x_iband, x_ibor, x_band, x_bor, Bool.or_false, Bool.false_or, Bool.and_false, Bool.false_and, x_sWhile, v_revAL, v_revAT, v_revC0, x_eRevT, abs_ite, v_any3, v_atm1, v_atm2, v_atm3, v_lastT, v_lastL, Nat.add_zero, Nat.zero_add, nc0, nc1, nc2, nc3, nc4, nc5, nc6, x_pbool, Bool.true_or, Bool.or_true, turningQ]))
theorem sideQ (a b c : QP) : m_side [.fz (qK a), .fz (qK b), .fz (qK c)] = pure (.int (Sd a.1 b.1 c.1)) := by
  unfold m_side
  walk_at "ev2"
  rfl
theorem lturnQ (a b c : QP) : LTR.m_law_turn [.fz (qK a), .fz (qK b), .fz (qK c)] = pure (.int (Tp a.1 b.1 c.1)) := by
  unfold LTR.m_law_turn
  walk_at "ev1"
  have e : a.1.1 * b.1.2 - a.1.2 * b.1.1 + b.1.1 * c.1.2 - b.1.2 * c.1.1 + c.1.1 * a.1.2 - c.1.2 * a.1.1 = Tp a.1 b.1 c.1 := by unfold Tp; grind
  rw [e]
theorem qp_list {b : Nat} (hb : b ≤ 1000) : ∀ xs : List PyData, (∀ x ∈ xs, Lf b x) → xs.all isPt = true → ∃ qs : List QP, qs.map qK = xs
  | [], _, _ => ⟨[], rfl⟩
  | x :: xs, hl, hp => by
    rw [List.all_cons, Bool.and_eq_true] at hp
    obtain ⟨qs, e⟩ := qp_list hb xs (fun y hy => hl y (List.mem_cons_of_mem _ hy)) hp.2
    obtain ⟨p, rfl⟩ := isPt_iff.mp hp.1
    have h0 := hl (ptK p) (by simp)
    have hm : ∀ i : Int, Lf b (.int i) → i.natAbs < 2 ^ 671 := fun i h => by
      cases h with
      | int _ h => exact Nat.lt_of_lt_of_le h (Nat.le_trans (Nat.add_le_add_left hb _) (by decide))
    cases h0 with
    | tup _ h =>
      exact ⟨⟨p, hm _ (h _ (by simp)), hm _ (h _ (by simp))⟩ :: qs, by rw [List.map_cons, e]⟩
theorem v_ltQ (a b : QP) : gLtD (qK a) (qK b) = some (.bool (lx a.1 b.1)) := v_ltDP
theorem comp_any {g : MG} {q : MB} {m : ME} {ρ : List Sl} (F : PyData → PyData) (xs : List PyData) (h : ∀ x ∈ xs, ∃ ρ', g x ρ = some ρ' ∧ q ρ' = pure true ∧ m ρ' = pure (F x)) : compGo g q m ρ xs = pure (xs.map F) := by
  have := compGo_map (g := g) (q := q) (m := m) (ρ := ρ) (id : PyData → PyData) (fun _ => true) F xs (fun x hx => by
    obtain ⟨ρ', h1, h2, h3⟩ := h x hx
    exact ⟨ρ', h1, h2, fun _ => h3⟩)
  rw [List.map_id, List.filter_eq_self.mpr fun _ _ => rfl] at this
  exact this
theorem okIn_bools {α : Type} (f : α → Bool) (l : List α) : okIn (.bool false) (l.map fun a => PyData.bool (f a)) = true := by
  unfold okIn
  have := plain_bools (l.map f)
  rw [List.map_map] at this
  rw [show (l.map fun a => PyData.bool (f a)) = l.map (PyData.bool ∘ f) from rfl, this]
  rfl
theorem any_false {α : Type} (f : α → Bool) : ∀ l : List α, ((l.map fun a => PyData.bool (f a)).any fun z => PyData.eqv z (.bool false)) = !l.all f
  | [] => rfl
  | a :: l => by
    rw [List.map_cons, List.any_cons, List.all_cons, any_false f l, Bool.not_and]
    congr 1
    show PyData.eqv (.bool (f a)) (.bool false) = !f a
    cases f a <;> rfl
theorem v_ninFM {α : Type} (f : α → Bool) (l : List α) : gNinX (.bool false) (.list (l.map fun a => PyData.bool (f a))) = some (.bool (l.all f)) := by
  show (if okIn (.bool false) (l.map fun a => PyData.bool (f a)) = true then some (PyData.bool (!(l.map fun a => PyData.bool (f a)).any fun z => PyData.eqv z (.bool false))) else none) = _
  rw [if_pos (okIn_bools f l), any_false, Bool.not_not]
theorem v_inFM {α : Type} (f : α → Bool) (l : List α) : gInX (.bool false) (.list (l.map fun a => PyData.bool (f a))) = some (.bool (!l.all f)) := by
  show (if okIn (.bool false) (l.map fun a => PyData.bool (f a)) = true then some (PyData.bool ((l.map fun a => PyData.bool (f a)).any fun z => PyData.eqv z (.bool false))) else none) = _
  rw [if_pos (okIn_bools f l), any_false]
end LKD

set_option maxHeartbeats 1000000
set_option exponentiation.threshold 1000
/-! good things: a check by reckoning, and the common ones -/
namespace LKD
open DL PySem LFD LPR LHL LBT
mutual
def lfB : PyData → Bool
  | .none => true
  | .bool _ => true
  | .int i => decide (i.natAbs < 2 ^ 670)
  | .str x => PyData.strOk x
  | .list xs => lfA xs
  | .tuple xs => lfA xs
  | .dict _ => false
def lfA : List PyData → Bool
  | [] => true
  | x :: xs => lfB x && lfA xs
end
mutual
theorem lf_of {b : Nat} : ∀ d : PyData, lfB d = true → Lf b d
  | .none, _ => .non
  | .bool x, _ => .bl x
  | .int i, h => .int i (Nat.lt_of_lt_of_le (of_decide_eq_true (by rwa [lfB] at h)) (Nat.le_add_right _ _))
  | .str x, h => .str x (by rwa [lfB] at h)
  | .list xs, h => .lst xs (lfA_of xs (by rwa [lfB] at h))
  | .tuple xs, h => .tup xs (lfA_of xs (by rwa [lfB] at h))
  | .dict _, h => by rw [lfB] at h; exact absurd h (by decide)
theorem lfA_of {b : Nat} : ∀ xs : List PyData, lfA xs = true → ∀ x ∈ xs, Lf b x
  | [], _ => fun x hx => absurd hx List.not_mem_nil
  | y :: ys, h => fun x hx => by
    rw [lfA, Bool.and_eq_true] at h
    rcases List.mem_cons.mp hx with e | hx
    · exact e ▸ lf_of y h.1
    · exact lfA_of ys h.2 x hx
end
def smB (k w : Nat) (d : PyData) : Bool := lfB d && decide (d.depth ≤ k) && decide (d.weight ≤ w)
theorem sm_of {b k w : Nat} {d : PyData} (h : smB k w d = true) : Sm b k w d := by
  rw [smB, Bool.and_eq_true, Bool.and_eq_true] at h
  exact ⟨lf_of d h.1.1, of_decide_eq_true h.1.2, of_decide_eq_true h.2⟩
theorem sm_all {b k w : Nat} {xs : List PyData} (h : xs.all (smB k w) = true) : ∀ x ∈ xs, Sm b k w x := fun x hx => sm_of (List.all_eq_true.mp h x hx)
theorem sm_pt (p : BP) (b k : Nat) : Sm b (k + 1) 22 (ptB p) := by
  have hx := p.2.1
  have hy := p.2.2
  exact (sm_two (b := b) (k := k) (w := 10) (sm_int (by omega) (by decide)) (sm_int (by omega) (by decide))).mono (Nat.le_refl _) (Nat.le_refl _) (by decide)
theorem row_pts (l : List BP) (b k : Nat) : Row b (k + 1) (23 * l.length) (l.map ptB) := by
  induction l with
  | nil => exact Row.nil
  | cons p l ih => exact (Row.cons (sm_pt p b k) ih).mono (Nat.le_refl _) (Nat.le_refl _) (by rw [List.length_cons]; omega)
theorem sm_three {b k w : Nat} {x y z : PyData} (hx : Sm b k w x) (hy : Sm b k w y) (hz : Sm b k w z) : Sm b (k + 1) (3 * w + 3) (.tuple [x, y, z]) := (Row.cons hx (Row.cons hy (Row.cons hz Row.nil))).tup.mono (Nat.le_refl _) (Nat.le_refl _) (by omega)
theorem leafSA_of : ∀ {xs : List PyData}, (∀ x ∈ xs, leafS x = true) → leafSA xs = true
  | [], _ => rfl
  | x :: xs, h => by rw [leafSA, h x (by simp), leafSA_of fun y hy => h y (List.mem_cons_of_mem _ hy)]; rfl
theorem leafS_pt (p : BP) : leafS (ptB p) = true := by
  have hx := p.2.1
  have hy := p.2.2
  have e : ∀ i : Int, i.natAbs ≤ 1000 → leafS (.int i) = true := fun i h => by
    rw [leafS]
    exact decide_eq_true (Nat.lt_of_le_of_lt h (by decide))
  show leafS (.tuple [.int _, .int _]) = true
  rw [leafS, leafSA, leafSA, leafSA, e _ hx, e _ hy]
  rfl
theorem okRepr_big {d : PyData} {k w : Nat} (h : Rpb d k w) (hs : isSeqD d = true) (hk : k ≤ 50) (hw : w ≤ 60000) (hS : leafS d = true) : okRepr d = true := by
  unfold okRepr
  rw [hs, h.leaf, hS, decide_eq_true (Nat.le_trans h.dep hk), decide_eq_true (Nat.le_trans h.wt hw)]
  simp
end LKD

set_option maxHeartbeats 1000000
/-! The program's triangles are the law's: no other point within by signs, or by areas added. -/
namespace LPR
open DL PySem LFD LHL
theorem tp_sum (a b c p : Pt) : Tp a b p + Tp b c p + Tp c a p = Tp a b c := by unfold Tp; grind
theorem wi_iff {a b c p : Pt} : Wi a b c p = true ↔ (Tp a b p).natAbs + (Tp b c p).natAbs + (Tp c a p).natAbs = (Tp a b c).natAbs := by
  have h := tp_sum a b c p
  have s1 := sg_cases (Tp a b p)
  have s2 := sg_cases (Tp b c p)
  have s3 := sg_cases (Tp c a p)
  unfold Wi Sd
  rw [Bool.not_eq_true', Bool.and_eq_false_iff, Bool.or_eq_false_iff, Bool.or_eq_false_iff, Bool.or_eq_false_iff, Bool.or_eq_false_iff, beq_eq_false_iff_ne, beq_eq_false_iff_ne, beq_eq_false_iff_ne, beq_eq_false_iff_ne, beq_eq_false_iff_ne, beq_eq_false_iff_ne]
  omega
theorem bary {B C T x1 x2 y1 y2 z1 z2 : Int} (hB : 0 ≤ B) (hC : 0 ≤ C) (hT : 0 < T) (e1 : B * x1 + C * y1 = T * z1) (e2 : B * x2 + C * y2 = T * z2) (hx : 0 < x1 ∨ (x1 = 0 ∧ 0 < x2)) (hy : 0 < y1 ∨ (y1 = 0 ∧ 0 < y2)) : ¬ (z1 < 0 ∨ (z1 = 0 ∧ z2 < 0)) := by
  have p1 : 0 ≤ B * x1 := Int.mul_nonneg hB (by omega)
  have p2 : 0 ≤ C * y1 := Int.mul_nonneg hC (by omega)
  rintro (h | ⟨h, h'⟩)
  · have := Int.mul_neg_of_pos_of_neg hT h
    omega
  · subst h
    rw [Int.mul_zero] at e1
    have q1 : B * x1 = 0 := by omega
    have q2 : C * y1 = 0 := by omega
    have n1 : 0 ≤ B * x2 := by
      rcases Int.mul_eq_zero.mp q1 with h | h
      · rw [h, Int.zero_mul]; omega
      · exact Int.mul_nonneg hB (by omega)
    have n2 : 0 ≤ C * y2 := by
      rcases Int.mul_eq_zero.mp q2 with h | h
      · rw [h, Int.zero_mul]; omega
      · exact Int.mul_nonneg hC (by omega)
    have := Int.mul_neg_of_pos_of_neg hT h'
    omega
theorem wi_lx {a b c p : Pt} (hab : lx a b = true) (hbc : lx b c = true) (ht : Tp a b c ≠ 0) (h : Wi a b c p = true) : (p ≠ a → lx a p = true) ∧ (p ≠ c → lx p c = true) := by
  have hs := tp_sum a b c p
  rw [wi_iff] at h
  have hac : lx a c = true := HU.lx_trans hab hbc
  rw [lx_iff] at hab hbc hac
  have i1 : Tp c a p * (b.1 - a.1) + Tp a b p * (c.1 - a.1) = Tp a b c * (p.1 - a.1) := by unfold Tp; grind
  have i2 : Tp c a p * (b.2 - a.2) + Tp a b p * (c.2 - a.2) = Tp a b c * (p.2 - a.2) := by unfold Tp; grind
  have j1 : Tp b c p * (c.1 - a.1) + Tp c a p * (c.1 - b.1) = Tp a b c * (c.1 - p.1) := by unfold Tp; grind
  have j2 : Tp b c p * (c.2 - a.2) + Tp c a p * (c.2 - b.2) = Tp a b c * (c.2 - p.2) := by unfold Tp; grind
  have ne : ∀ {x y : Pt}, x ≠ y → lx x y = false → (y.1 - x.1 < 0 ∨ (y.1 - x.1 = 0 ∧ y.2 - x.2 < 0)) := fun {x y} n hf => by
    rw [lx_no] at hf
    have : x.1 = y.1 → x.2 ≠ y.2 := fun e1 e2 => n (Prod.ext e1 e2)
    omega
  rcases (show (0 ≤ Tp a b p ∧ 0 ≤ Tp b c p ∧ 0 ≤ Tp c a p) ∨ (Tp a b p ≤ 0 ∧ Tp b c p ≤ 0 ∧ Tp c a p ≤ 0) by omega) with ⟨h1, h2, h3⟩ | ⟨h1, h2, h3⟩
  · refine ⟨fun n => ?_, fun n => ?_⟩
    · cases hf : lx a p with
      | true => rfl
      | false => exact absurd (ne n.symm hf) (bary h3 h1 (by omega) i1 i2 (by omega) (by omega))
    · cases hf : lx p c with
      | true => rfl
      | false => exact absurd (ne n hf) (bary h2 h3 (by omega) j1 j2 (by omega) (by omega))
  · have ng : ∀ {B C T x y z : Int}, B * x + C * y = T * z → -B * x + -C * y = -T * z := fun {B C T x y z} e => by rw [Int.neg_mul, Int.neg_mul, Int.neg_mul]; omega
    refine ⟨fun n => ?_, fun n => ?_⟩
    · cases hf : lx a p with
      | true => rfl
      | false => exact absurd (ne n.symm hf) (bary (B := -Tp c a p) (C := -Tp a b p) (T := -Tp a b c) (by omega) (by omega) (by omega) (ng i1) (ng i2) (by omega) (by omega))
    · cases hf : lx p c with
      | true => rfl
      | false => exact absurd (ne n hf) (bary (B := -Tp b c p) (C := -Tp c a p) (T := -Tp a b c) (by omega) (by omega) (by omega) (ng j1) (ng j2) (by omega) (by omega))
theorem vo_inn {l : List BP} {a b c : BP} (hab : lx a.1 b.1 = true) (hbc : lx b.1 c.1 = true) (ht : Tp a.1 b.1 c.1 ≠ 0) : Vo l a b c = !(vals l).any (LTR.Inn a.1 b.1 c.1) := by
  unfold Vo
  rw [List.any_filter, vals, List.any_map]
  congr 2
  funext p
  rw [Bool.eq_iff_iff, Bool.and_eq_true, Bool.and_eq_true, Bool.and_eq_true, Bool.not_eq_true', decide_eq_false_iff_not, Function.comp]
  unfold LTR.Inn
  rw [Bool.and_eq_true, Bool.not_eq_true', decide_eq_false_iff_not, decide_eq_true_eq, ← wi_iff]
  constructor
  · rintro ⟨⟨⟨h1, h2⟩, h3⟩, h4⟩
    refine ⟨fun hm => ?_, h4⟩
    simp only [List.mem_cons, List.not_mem_nil, or_false] at hm
    rcases hm with e | e | e
    · rw [e, lx_irr] at h1; cases h1
    · exact h3 (Subtype.ext e)
    · rw [e, lx_irr] at h2; cases h2
  · rintro ⟨hm, h4⟩
    have hb := wi_lx hab hbc ht h4
    exact ⟨⟨⟨hb.1 fun e => hm (by simp [e]), hb.2 fun e => hm (by simp [e])⟩, fun e => hm (by simp [e])⟩, h4⟩
theorem isTri_vd {l : List BP} {a b c : BP} (ha : a ∈ l) (hb : b ∈ l) (hc : c ∈ l) (hab : lx a.1 b.1 = true) (hbc : lx b.1 c.1 = true) : isTri l (a, b, c) = LTR.Vd (vals l) a.1 b.1 c.1 := by
  unfold isTri LTR.Vd
  dsimp only
  rw [decide_eq_true ha, decide_eq_true hb, decide_eq_true hc, hab, hbc, Bool.true_and, Bool.true_and, Bool.true_and, Bool.true_and, Bool.true_and]
  have e0 : (Sd a.1 b.1 c.1 == 0) = decide (Tp a.1 b.1 c.1 = 0) := by
    have := sg_cases (Tp a.1 b.1 c.1)
    rw [Bool.eq_iff_iff, beq_iff_eq, decide_eq_true_eq]
    unfold Sd
    omega
  rw [e0]
  by_cases ht : Tp a.1 b.1 c.1 = 0
  · rw [decide_eq_true ht]; rfl
  · rw [vo_inn hab hbc ht]
abbrev v3 (t : TB) : Pt × Pt × Pt := (t.1.1, t.2.1.1, t.2.2.1)
theorem rise_dr {l : List BP} (hr : Rise (vals l)) {i : Nat} {a : BP} (ha : l[i]? = some a) : ∀ b ∈ l.drop (i + 1), lx a.1 b.1 = true := fun b hb => by
  have h := rise_tail hr (List.take_append_drop i l).symm
  rw [drop_cons ha] at h
  exact (List.pairwise_cons.mp h).1 b.1 (List.mem_map_of_mem hb)
theorem triJ_eq {l : List BP} (hr : Rise (vals l)) {i : Nat} {a : BP} (ha : l[i]? = some a) : ∀ n, n ≤ l.length - (i + 1) → LTR.triJ (vals l) i n ++ (triG l a (l.drop (i + 1 + n))).map v3 = (triG l a (l.drop (i + 1))).map v3
  | 0, _ => by rw [LTR.triJ, List.nil_append, Nat.add_zero]
  | n + 1, hn => by
    have ih := triJ_eq hr ha n (by omega)
    obtain ⟨b, hb⟩ : ∃ b, l[i + 1 + n]? = some b := ⟨l[i + 1 + n]'(by omega), List.getElem?_eq_getElem (by omega)⟩
    have hab : lx a.1 b.1 = true := rise_dr hr ha b (List.mem_of_getElem? (i := n) (by rw [List.getElem?_drop]; exact hb))
    have am : a ∈ l := List.mem_of_getElem? ha
    have bm : b ∈ l := List.mem_of_getElem? hb
    have ha' : (vals l)[i]? = some a.1 := by rw [vals, List.getElem?_map, ha]; rfl
    have hb' : (vals l)[i + 1 + n]? = some b.1 := by rw [vals, List.getElem?_map, hb]; rfl
    rw [drop_cons hb, triG, List.map_append, ← List.append_assoc] at ih
    rw [← ih, LTR.triJ, LTR.triR_eq ha' hb', show i + 1 + (n + 1) = i + 1 + n + 1 by omega]
    congr 2
    rw [vals, ← List.map_drop, List.filter_map, List.filter_map, List.map_map, List.map_map]
    have e : (l.drop (i + 1 + n + 1)).filter (LTR.Vd (List.map (fun x => x.1) l) a.1 b.1 ∘ fun x => x.1) = (l.drop (i + 1 + n + 1)).filter (isTri l ∘ fun c => (a, b, c)) := List.filter_congr fun c hc => by
      rw [Function.comp, Function.comp]
      exact (isTri_vd am bm (List.mem_of_mem_drop hc) hab (rise_dr hr hb c hc)).symm
    rw [e]
    rfl
theorem triA_eq {l : List BP} (hr : Rise (vals l)) : ∀ i, i ≤ l.length → LTR.triA (vals l) i ++ (triF l (l.drop i)).map v3 = (trisB l).map v3
  | 0, _ => rfl
  | i + 1, hi => by
    have ih := triA_eq hr i (by omega)
    obtain ⟨a, ha⟩ : ∃ a, l[i]? = some a := ⟨l[i]'(by omega), List.getElem?_eq_getElem (by omega)⟩
    have hj := triJ_eq hr ha (l.length - (i + 1)) (Nat.le_refl _)
    rw [show i + 1 + (l.length - (i + 1)) = l.length by omega, List.drop_length, triG, List.map_nil, List.append_nil] at hj
    rw [drop_cons ha, triF, List.map_append, ← List.append_assoc] at ih
    rw [← ih, LTR.triA, List.length_map, hj]
theorem tris_law {l : List BP} (hr : Rise (vals l)) : (LTR.triA (vals l) (vals l).length).map LTR.tri = (trisB l).map triB := by
  have h := triA_eq hr l.length (Nat.le_refl _)
  rw [List.drop_length, triF, List.map_nil, List.append_nil] at h
  rw [List.length_map, h, List.map_map]
  rfl
/-! how many -/
def c2 : Nat → Nat
  | 0 => 0
  | n + 1 => n + c2 n
def c3 : Nat → Nat
  | 0 => 0
  | n + 1 => c2 n + c3 n
theorem c2_mono {m n : Nat} (h : m ≤ n) : c2 m ≤ c2 n := by
  induction h with
  | refl => exact Nat.le_refl _
  | step _ ih => rw [c2]; omega
theorem c3_mono {m n : Nat} (h : m ≤ n) : c3 m ≤ c3 n := by
  induction h with
  | refl => exact Nat.le_refl _
  | step _ ih => rw [c3]; omega
theorem triG_c2 (all : List BP) (a : BP) : ∀ r : List BP, (triG all a r).length ≤ c2 r.length
  | [] => Nat.le_refl _
  | b :: r => by
    have ih := triG_c2 all a r
    have h1 := List.length_filter_le (isTri all) (r.map fun c => (a, b, c))
    rw [List.length_map] at h1
    rw [triG, List.length_append, List.length_cons, c2]
    omega
theorem triF_c3 (all : List BP) : ∀ r : List BP, (triF all r).length ≤ c3 r.length
  | [] => Nat.le_refl _
  | a :: r => by
    have ih := triF_c3 all r
    have h1 := triG_c2 all a r
    rw [triF, List.length_append, List.length_cons, c3]
    omega
theorem trisB_len {l : List BP} (hl : l.length ≤ 16) : (trisB l).length ≤ 560 := Nat.le_trans (triF_c3 l l) (c3_mono hl)
end LPR

set_option maxHeartbeats 1000000
namespace LK15
open DL PySem LFD LPR LHL LBT LKD
local macro_rules | `(tactic| walk_at "ev") => `(tactic| (try simp only [x_pb, x_fb, x_ba, x_ls, x_ln, x_eVar, x_bVar, x_rdF, x_rdB, x_eC, x_e2, x_e1, x_eList, x_eTup, x_nLst, x_lNil, x_lCons, x_aNil, x_aCons, x_aTape, x_isTp, x_eCal, x_nCal, x_eCall, x_eCut, x_pNone, x_pSome, x_tOf, x_bAnd, x_bOr, x_bNot, x_eIf, x_eAnd, x_eOr, x_eNot, x_eChain, x_lSeq, x_nComp, x_sNext, x_sSeq, x_atN, x_atR, x_atB, x_atC, x_sDrop, x_sRet, x_sIf, x_sAsg, x_mName, x_mSeq, x_mgNil, x_mgCons, x_sOwn, x_sFrz, x_frz, x_sApp, x_owOf, x_sSetI, x_sPar, x_sPar3, x_sFor, x_forN, x_forC, x_loN, x_loC, x_loB, x_loR, x_cN, x_cC, x_bYes, x_oR, x_oN, x_mf0, x_mf1, x_mf2, x_mf3, x_mf4, x_mf5, x_tput, x_sExt, x_nRev, v_isII, v_isBI, v_in3, v_ltDI, v_gtDI, v_leDI, v_geDI, List.getElem?_cons_zero, List.getElem?_cons_succ, List.set_cons_zero, List.set_cons_succ, List.replicate_succ, List.replicate_zero, List.cons_append, List.nil_append, List.length_cons, List.length_nil, v_sub, v_add, v_neg, v_lt, v_le, v_gt, v_ge, v_abs, v_max, v_min, v_intI, v_intB, v_lenL, v_lenT, v_tupL, v_tupT, v_listL, v_listT, v_ixL, v_ixT, v_at0, v_at1, v_at2, v_bool, v_seqL, v_seqT, v_intOf, v_ok0, v_ok1, v_ok2, v_ok3, v_ok4, v_okn, v_ok5, v_ok6, v_ok7, v_ok8, v_ok9, v_ok10, v_ok11, v_ok12, v_ok13, v_ok14, v_ok15, v_ok16, v_ok17, v_ok18, v_ok19, v_ok20, v_ok21, v_ok22, v_ok23, v_ok24, v_ok25, v_ok26, v_ok27, v_ok28, v_ok29, v_ok30, v_ok31, v_ok32, gEq_int, gNe_int, v_rng1, v_rng2, okRg, Int.reducePow, Nat.sub_self, Nat.reduceSub, Nat.reduceAdd, unAll, if_true, if_false, Option.bind_some, Option.bind_none, ite_true, ite_false, Bool.false_eq_true, rgD, Int.reduceBEq, Int.reduceToNat, Int.reduceLT, Int.reduceLE, Int.reduceMul, Int.reduceAdd, Int.reduceSub, Int.reduceNeg, Nat.reduceMul, Nat.reduceLT, Nat.reduceBEq, decide_true, decide_false, Bool.and_true, Bool.true_and, Bool.and_self, Bool.not_true, Bool.not_false, BEq.rfl, reduceIte]))
local macro_rules | `(tactic| walk_at "evt") => `(tactic| (try simp only [x_pb, x_fb, x_ba, x_ls, x_ln, x_eVar, x_bVar, x_rdF, x_rdB, x_eC, x_e2, x_e1, x_eList, x_eTup, x_nLst, x_lNil, x_lCons, x_aNil, x_aCons, x_aTape, x_isTp, x_eCal, x_nCal, x_eCall, x_eCut, x_pNone, x_pSome, x_tOf, x_bAnd, x_bOr, x_bNot, x_eIf, x_eAnd, x_eOr, x_eNot, x_eChain, x_lSeq, x_nComp, x_sNext, x_sSeq, x_atN, x_atR, x_atB, x_atC, x_sDrop, x_sRet, x_sIf, x_sAsg, x_mName, x_mSeq, x_mgNil, x_mgCons, x_sOwn, x_sFrz, x_frz, x_sApp, x_owOf, x_sSetI, x_sPar, x_sPar3, x_sFor, x_forN, x_forC, x_loN, x_loC, x_loB, x_loR, x_cN, x_cC, x_bYes, x_oR, x_oN, x_mf0, x_mf1, x_mf2, x_mf3, x_mf4, x_mf5, x_tput, x_sExt, x_nRev, v_isII, v_isBI, v_in3, v_ltDI, v_gtDI, v_leDI, v_geDI, List.getElem?_cons_zero, List.getElem?_cons_succ, List.set_cons_zero, List.set_cons_succ, List.replicate_succ, List.replicate_zero, List.cons_append, List.nil_append, List.length_cons, List.length_nil, v_sub, v_add, v_neg, v_lt, v_le, v_gt, v_ge, v_abs, v_max, v_min, v_intI, v_intB, v_lenL, v_lenT, v_tupL, v_tupT, v_listL, v_listT, v_ixL, v_ixT, v_at0, v_at1, v_at2, v_bool, v_seqL, v_seqT, v_intOf, v_ok0, v_ok1, v_ok2, v_ok3, v_ok4, v_okn, v_ok5, v_ok6, v_ok7, v_ok8, v_ok9, v_ok10, v_ok11, v_ok12, v_ok13, v_ok14, v_ok15, v_ok16, v_ok17, v_ok18, v_ok19, v_ok20, v_ok21, v_ok22, v_ok23, v_ok24, v_ok25, v_ok26, v_ok27, v_ok28, v_ok29, v_ok30, v_ok31, v_ok32, gEq_int, gNe_int, v_rng1, v_rng2, okRg, Int.reducePow, Nat.sub_self, Nat.reduceSub, Nat.reduceAdd, unAll, if_true, if_false, Option.bind_some, Option.bind_none, ite_true, ite_false, Bool.false_eq_true, rgD, Int.reduceBEq, Int.reduceToNat, Int.reduceLT, Int.reduceLE, Int.reduceMul, Int.reduceAdd, Int.reduceSub, Int.reduceNeg, Nat.reduceMul, Nat.reduceLT, Nat.reduceBEq, decide_true, decide_false, Bool.and_true, Bool.true_and, Bool.and_self, Bool.not_true, Bool.not_false, BEq.rfl, reduceIte, bnd_ap, pure_ap, lift_ap, fail_ap, ite_ap, x_tget, x_doPut, fldOf, tSet, Option.map_some, Option.map_none, beq_self_eq_true, Bool.and_true, Bool.true_and]))
local macro_rules | `(tactic| walk_at "ev1") => `(tactic| (try simp only [x_pb, x_fb, x_ba, x_ls, x_ln, x_eVar, x_bVar, x_rdF, x_rdB, x_eC, x_e2, x_e1, x_eList, x_eTup, x_nLst, x_lNil, x_lCons, x_aNil, x_aCons, x_aTape, x_isTp, x_eCal, x_nCal, x_eCall, x_eCut, x_pNone, x_pSome, x_tOf, x_bAnd, x_bOr, x_bNot, x_eIf, x_eAnd, x_eOr, x_eNot, x_eChain, x_lSeq, x_nComp, x_sNext, x_sSeq, x_atN, x_atR, x_atB, x_atC, x_sDrop, x_sRet, x_sIf, x_sAsg, x_mName, x_mSeq, x_mgNil, x_mgCons, x_sOwn, x_sFrz, x_frz, x_sApp, x_owOf, x_sSetI, x_sPar, x_sPar3, x_sFor, x_forN, x_forC, x_loN, x_loC, x_loB, x_loR, x_cN, x_cC, x_bYes, x_oR, x_oN, x_mf0, x_mf1, x_mf2, x_mf3, x_mf4, x_mf5, x_tput, x_sExt, x_nRev, v_isII, v_isBI, v_in3, v_ltDI, v_gtDI, v_leDI, v_geDI, List.getElem?_cons_zero, List.getElem?_cons_succ, List.set_cons_zero, List.set_cons_succ, List.replicate_succ, List.replicate_zero, List.cons_append, List.nil_append, List.length_cons, List.length_nil, v_sub, v_add, v_neg, v_lt, v_le, v_gt, v_ge, v_abs, v_max, v_min, v_intI, v_intB, v_lenL, v_lenT, v_tupL, v_tupT, v_listL, v_listT, v_ixL, v_ixT, v_at0, v_at1, v_at2, v_bool, v_seqL, v_seqT, v_intOf, v_ok0, v_ok1, v_ok2, v_ok3, v_ok4, v_okn, v_ok5, v_ok6, v_ok7, v_ok8, v_ok9, v_ok10, v_ok11, v_ok12, v_ok13, v_ok14, v_ok15, v_ok16, v_ok17, v_ok18, v_ok19, v_ok20, v_ok21, v_ok22, v_ok23, v_ok24, v_ok25, v_ok26, v_ok27, v_ok28, v_ok29, v_ok30, v_ok31, v_ok32, gEq_int, gNe_int, v_rng1, v_rng2, okRg, Int.reducePow, Nat.sub_self, Nat.reduceSub, Nat.reduceAdd, unAll, if_true, if_false, Option.bind_some, Option.bind_none, ite_true, ite_false, Bool.false_eq_true, rgD, Int.reduceBEq, Int.reduceToNat, Int.reduceLT, Int.reduceLE, Int.reduceMul, Int.reduceAdd, Int.reduceSub, Int.reduceNeg, Nat.reduceMul, Nat.reduceLT, Nat.reduceBEq, decide_true, decide_false, Bool.and_true, Bool.true_and, Bool.and_self, Bool.not_true, Bool.not_false, BEq.rfl, reduceIte, v_mulS, v_modS, compGo_M, compM_map, compM_filter, compM_nil, x_ebool, x_bb, x_iband, x_ibor, x_band, x_bor, Bool.or_false, Bool.false_or, Bool.and_false, Bool.false_and, x_sWhile, v_revAL, v_revAT, v_revC0, x_eRevT, abs_ite, v_any3, v_atm1, v_atm2, v_atm3, v_lastT, v_lastL, Nat.add_zero, Nat.zero_add, nc0, nc1, nc2, nc3, nc4, nc5, nc6, x_pbool, Bool.true_or, Bool.or_true]))
theorem v_minT {ps : List Pt} (h : ps ≠ []) : ∃ m ∈ ps, cMinT [.tuple (ps.map ptK)] = some (ptK m) ∧ ∀ p ∈ ps, lx p m = false := by
  obtain ⟨m, hm, e, hp⟩ := v_minL h
  refine ⟨m, hm, ?_, hp⟩
  rw [← e]
  cases ps with
  | nil => exact absurd rfl h
  | cons a r => rfl
theorem v_sortSetT {ps : List Pt} (h : ps.length < 64) : cSortSetT [.tuple (ps.map ptK)] = some ((sortK (dedP ps)).map ptK) := by
  rw [← v_sortSet h]
  rfl
theorem shift_ok {ps : List Pt} (h : FieldOk 9 ps) (x : Int) (hb : ∀ p ∈ ps, (p.1 + x).natAbs ≤ 1000) : FieldOk 9 (ps.map fun p => (p.1 + x, p.2)) := by
  refine ⟨fun p hp => ?_, ?_, by rw [List.length_map]; exact h.len, ?_⟩
  · obtain ⟨q, hq, rfl⟩ := List.mem_map.mp hp
    exact ⟨hb q hq, (h.bd q hq).2⟩
  · refine List.pairwise_map.mpr (h.rise.imp fun {a b} hab => ?_)
    rw [lx_iff] at hab ⊢
    dsimp only
    omega
  · obtain ⟨a, ha, b, hb', c, hc, ht⟩ := h.non
    refine ⟨_, List.mem_map_of_mem ha, _, List.mem_map_of_mem hb', _, List.mem_map_of_mem hc, fun e => ht ?_⟩
    rw [← e]
    unfold Tp
    dsimp only
    grind
theorem second_gv {ps : List Pt} (h : FieldOk 9 ps) : Gv 0 (m_law_second [.tp, .fz (.tuple (ps.map ptK))]) 73 fun d => ∃ qs : List Pt, d = .tuple (qs.map ptK) ∧ FieldOk 9 qs := by
  have hl := h.len
  have hne : ps ≠ [] := fun e => by
    obtain ⟨a, ha, _⟩ := h.non
    rw [e] at ha
    cases ha
  unfold m_law_second
  walk_at "ev1"
  refine draw1 (by decide) (by decide) fun r r0 r1 => ?_
  walk_at "ev1"
  rcases (show r = 0 ∨ r = 1 ∨ r = 2 by omega) with rfl | rfl | rfl
  · walk_at "ev1"
    refine Gv.step (c := 70) (field_gv (m := 9) (by decide) (by decide)) fun d hd => ?_
    obtain ⟨qs, rfl, ok⟩ := hd
    walk_at "ev1"
    exact Gv.ret ⟨qs, rfl, ok⟩
  · walk_at "ev1"
    obtain ⟨z, hz⟩ : ∃ z, ps.getLast? = some z := ⟨ps.getLast hne, List.getLast?_eq_some_getLast hne⟩
    have az : L2.atI (ps.map ptK) (-1) = some (ptK z) := by
      obtain ⟨r, hr⟩ := List.getLast?_eq_some_iff.mp hz
      rw [hr, List.map_append]
      exact v_atL1
    have hmax : ∀ p ∈ ps, p.1 ≤ z.1 := fun p hp => by
      have := HU.rise_last h.rise hz hp
      rw [lx_no] at this
      omega
    rw [az]
    walk_at "ev1"
    obtain ⟨x, hx, ex⟩ : ∃ x : Int, ((z.1 < 1000 ∧ x = 1) ∨ x = -1) ∧ (if decide (z.1 < 1000) = true then PyData.int 1 else PyData.int (-1)) = .int x := by
      by_cases q : z.1 < 1000
      · exact ⟨1, .inl ⟨q, rfl⟩, by rw [decide_eq_true q]; rfl⟩
      · exact ⟨-1, .inr rfl, by rw [decide_eq_false q]; rfl⟩
    rw [ex, okLen_of (by rw [List.length_map]; omega)]
    walk_at "ev1"
    have em : (ps.map fun a => PyData.tuple [.int (a.1 + x), .int a.2]) = (ps.map fun p => (p.1 + x, p.2)).map ptK := by rw [List.map_map]; rfl
    rw [em]
    obtain ⟨m, hm, ec, hmin⟩ := v_minT (ps := ps.map fun p => (p.1 + x, p.2)) (by rw [Ne, List.map_eq_nil_iff]; exact hne)
    rw [ec]
    walk_at "ev1"
    by_cases q : -1000 ≤ m.1
    · rw [decide_eq_true q]
      walk_at "ev1"
      refine Gv.ret ⟨_, rfl, shift_ok h x fun p hp => ?_⟩
      have h1 := hmin (p.1 + x, p.2) (List.mem_map_of_mem (f := fun p => (p.1 + x, p.2)) hp)
      rw [lx_no] at h1
      dsimp only at h1
      have h2 := hmax p hp
      have h3 := (h.bd p hp).1
      omega
    · rw [decide_eq_false q]
      walk_at "ev1"
      exact Gv.ret ⟨_, rfl, h⟩
  · walk_at "ev1"
    rw [List.length_map]
    have hlp : 0 < ps.length := List.length_pos_iff.mpr hne
    refine draw1 (by omega) (by omega) fun k k0 k1 => ?_
    walk_at "ev1"
    rw [v_takeT k0, v_dropT (by omega)]
    walk_at "ev1"
    rw [v_addTT (by rw [List.length_take, List.length_drop, List.length_map]; omega)]
    walk_at "ev1"
    refine draw1 (by decide) (by decide) fun x x0 x1 => ?_
    walk_at "ev1"
    refine draw1 (by decide) (by decide) fun y y0 y1 => ?_
    walk_at "ev1"
    rw [v_addTT (by rw [List.length_append, List.length_take, List.length_drop, List.length_map]; simp only [List.length_cons, List.length_nil]; omega)]
    walk_at "ev1"
    rw [← List.map_take, ← List.map_drop, ← List.map_append]
    have eq : (ps.take k.toNat ++ ps.drop (k + 1).toNat).map ptK ++ [PyData.tuple [.int x, .int y]] = ((ps.take k.toNat ++ ps.drop (k + 1).toNat) ++ [(x, y)]).map ptK := by rw [List.map_append (l₂ := [(x, y)])]; rfl
    rw [eq]
    have ql : ((ps.take k.toNat ++ ps.drop (k + 1).toNat) ++ [(x, y)]).length ≤ 9 := by
      rw [List.length_append, List.length_append, List.length_take, List.length_drop]
      simp only [List.length_cons, List.length_nil]
      omega
    have qb : Bd ((ps.take k.toNat ++ ps.drop (k + 1).toNat) ++ [(x, y)]) := fun p hp => by
      rcases List.mem_append.mp hp with hp | hp
      · rcases List.mem_append.mp hp with hp | hp
        · exact h.bd p (List.mem_of_mem_take hp)
        · exact h.bd p (List.mem_of_mem_drop hp)
      · rw [List.mem_singleton.mp hp]
        exact ⟨by dsimp only; omega, by dsimp only; omega⟩
    have qn : (x, y) ∈ (ps.take k.toNat ++ ps.drop (k + 1).toNat) ++ [(x, y)] := by simp
    generalize (ps.take k.toNat ++ ps.drop (k + 1).toNat) ++ [(x, y)] = qs at *
    rw [v_sortSetT (by omega)]
    walk_at "ev1"
    have sl : (sortK (dedP qs)).length ≤ 9 := by
      rw [(sortK_perm _).length_eq]
      exact Nat.le_trans (ded_len qs) ql
    have sm : ∀ p, p ∈ sortK (dedP qs) ↔ p ∈ qs := fun p => by rw [(sortK_perm _).mem_iff, dedP_mem]
    obtain ⟨bb, e1, _, e3⟩ := online_eq (ps := sortK (dedP qs)) (fun e => by
      have := (sm _).mpr qn
      rw [e] at this
      cases this) (fun p hp => qb p ((sm p).mp hp)) (by omega)
    rw [e1]
    walk_at "ev1"
    cases decide ((((sortK (dedP qs)).map ptK).length : Int) < 3) with
    | true =>
      walk_at "ev1"
      exact Gv.ret ⟨_, rfl, h⟩
    | false =>
      walk_at "ev1"
      cases bb with
      | true =>
        walk_at "ev1"
        exact Gv.ret ⟨_, rfl, h⟩
      | false =>
        walk_at "ev1"
        exact Gv.ret ⟨_, rfl, ⟨fun p hp => qb p ((sm p).mp hp), sortK_rise (dedP_nodup _), sl, e3 rfl⟩⟩
end LK15

set_option maxHeartbeats 1000000
namespace LK15
open DL PySem LFD LPR LHL LBT LKD
local macro_rules | `(tactic| walk_at "ev") => `(tactic| (try simp only [x_pb, x_fb, x_ba, x_ls, x_ln, x_eVar, x_bVar, x_rdF, x_rdB, x_eC, x_e2, x_e1, x_eList, x_eTup, x_nLst, x_lNil, x_lCons, x_aNil, x_aCons, x_aTape, x_isTp, x_eCal, x_nCal, x_eCall, x_eCut, x_pNone, x_pSome, x_tOf, x_bAnd, x_bOr, x_bNot, x_eIf, x_eAnd, x_eOr, x_eNot, x_eChain, x_lSeq, x_nComp, x_sNext, x_sSeq, x_atN, x_atR, x_atB, x_atC, x_sDrop, x_sRet, x_sIf, x_sAsg, x_mName, x_mSeq, x_mgNil, x_mgCons, x_sOwn, x_sFrz, x_frz, x_sApp, x_owOf, x_sSetI, x_sPar, x_sPar3, x_sFor, x_forN, x_forC, x_loN, x_loC, x_loB, x_loR, x_cN, x_cC, x_bYes, x_oR, x_oN, x_mf0, x_mf1, x_mf2, x_mf3, x_mf4, x_mf5, x_tput, x_sExt, x_nRev, v_isII, v_isBI, v_in3, v_ltDI, v_gtDI, v_leDI, v_geDI, List.getElem?_cons_zero, List.getElem?_cons_succ, List.set_cons_zero, List.set_cons_succ, List.replicate_succ, List.replicate_zero, List.cons_append, List.nil_append, List.length_cons, List.length_nil, v_sub, v_add, v_neg, v_lt, v_le, v_gt, v_ge, v_abs, v_max, v_min, v_intI, v_intB, v_lenL, v_lenT, v_tupL, v_tupT, v_listL, v_listT, v_ixL, v_ixT, v_at0, v_at1, v_at2, v_bool, v_seqL, v_seqT, v_intOf, v_ok0, v_ok1, v_ok2, v_ok3, v_ok4, v_okn, v_ok5, v_ok6, v_ok7, v_ok8, v_ok9, v_ok10, v_ok11, v_ok12, v_ok13, v_ok14, v_ok15, v_ok16, v_ok17, v_ok18, v_ok19, v_ok20, v_ok21, v_ok22, v_ok23, v_ok24, v_ok25, v_ok26, v_ok27, v_ok28, v_ok29, v_ok30, v_ok31, v_ok32, gEq_int, gNe_int, v_rng1, v_rng2, okRg, Int.reducePow, Nat.sub_self, Nat.reduceSub, Nat.reduceAdd, unAll, if_true, if_false, Option.bind_some, Option.bind_none, ite_true, ite_false, Bool.false_eq_true, rgD, Int.reduceBEq, Int.reduceToNat, Int.reduceLT, Int.reduceLE, Int.reduceMul, Int.reduceAdd, Int.reduceSub, Int.reduceNeg, Nat.reduceMul, Nat.reduceLT, Nat.reduceBEq, decide_true, decide_false, Bool.and_true, Bool.true_and, Bool.and_self, Bool.not_true, Bool.not_false, BEq.rfl, reduceIte]))
local macro_rules | `(tactic| walk_at "evt") => `(tactic| (try simp only [x_pb, x_fb, x_ba, x_ls, x_ln, x_eVar, x_bVar, x_rdF, x_rdB, x_eC, x_e2, x_e1, x_eList, x_eTup, x_nLst, x_lNil, x_lCons, x_aNil, x_aCons, x_aTape, x_isTp, x_eCal, x_nCal, x_eCall, x_eCut, x_pNone, x_pSome, x_tOf, x_bAnd, x_bOr, x_bNot, x_eIf, x_eAnd, x_eOr, x_eNot, x_eChain, x_lSeq, x_nComp, x_sNext, x_sSeq, x_atN, x_atR, x_atB, x_atC, x_sDrop, x_sRet, x_sIf, x_sAsg, x_mName, x_mSeq, x_mgNil, x_mgCons, x_sOwn, x_sFrz, x_frz, x_sApp, x_owOf, x_sSetI, x_sPar, x_sPar3, x_sFor, x_forN, x_forC, x_loN, x_loC, x_loB, x_loR, x_cN, x_cC, x_bYes, x_oR, x_oN, x_mf0, x_mf1, x_mf2, x_mf3, x_mf4, x_mf5, x_tput, x_sExt, x_nRev, v_isII, v_isBI, v_in3, v_ltDI, v_gtDI, v_leDI, v_geDI, List.getElem?_cons_zero, List.getElem?_cons_succ, List.set_cons_zero, List.set_cons_succ, List.replicate_succ, List.replicate_zero, List.cons_append, List.nil_append, List.length_cons, List.length_nil, v_sub, v_add, v_neg, v_lt, v_le, v_gt, v_ge, v_abs, v_max, v_min, v_intI, v_intB, v_lenL, v_lenT, v_tupL, v_tupT, v_listL, v_listT, v_ixL, v_ixT, v_at0, v_at1, v_at2, v_bool, v_seqL, v_seqT, v_intOf, v_ok0, v_ok1, v_ok2, v_ok3, v_ok4, v_okn, v_ok5, v_ok6, v_ok7, v_ok8, v_ok9, v_ok10, v_ok11, v_ok12, v_ok13, v_ok14, v_ok15, v_ok16, v_ok17, v_ok18, v_ok19, v_ok20, v_ok21, v_ok22, v_ok23, v_ok24, v_ok25, v_ok26, v_ok27, v_ok28, v_ok29, v_ok30, v_ok31, v_ok32, gEq_int, gNe_int, v_rng1, v_rng2, okRg, Int.reducePow, Nat.sub_self, Nat.reduceSub, Nat.reduceAdd, unAll, if_true, if_false, Option.bind_some, Option.bind_none, ite_true, ite_false, Bool.false_eq_true, rgD, Int.reduceBEq, Int.reduceToNat, Int.reduceLT, Int.reduceLE, Int.reduceMul, Int.reduceAdd, Int.reduceSub, Int.reduceNeg, Nat.reduceMul, Nat.reduceLT, Nat.reduceBEq, decide_true, decide_false, Bool.and_true, Bool.true_and, Bool.and_self, Bool.not_true, Bool.not_false, BEq.rfl, reduceIte, bnd_ap, pure_ap, lift_ap, fail_ap, ite_ap, x_tget, x_doPut, fldOf, tSet, Option.map_some, Option.map_none, beq_self_eq_true, Bool.and_true, Bool.true_and]))
local macro_rules | `(tactic| walk_at "ev1") => `(tactic| (try simp only [x_pb, x_fb, x_ba, x_ls, x_ln, x_eVar, x_bVar, x_rdF, x_rdB, x_eC, x_e2, x_e1, x_eList, x_eTup, x_nLst, x_lNil, x_lCons, x_aNil, x_aCons, x_aTape, x_isTp, x_eCal, x_nCal, x_eCall, x_eCut, x_pNone, x_pSome, x_tOf, x_bAnd, x_bOr, x_bNot, x_eIf, x_eAnd, x_eOr, x_eNot, x_eChain, x_lSeq, x_nComp, x_sNext, x_sSeq, x_atN, x_atR, x_atB, x_atC, x_sDrop, x_sRet, x_sIf, x_sAsg, x_mName, x_mSeq, x_mgNil, x_mgCons, x_sOwn, x_sFrz, x_frz, x_sApp, x_owOf, x_sSetI, x_sPar, x_sPar3, x_sFor, x_forN, x_forC, x_loN, x_loC, x_loB, x_loR, x_cN, x_cC, x_bYes, x_oR, x_oN, x_mf0, x_mf1, x_mf2, x_mf3, x_mf4, x_mf5, x_tput, x_sExt, x_nRev, v_isII, v_isBI, v_in3, v_ltDI, v_gtDI, v_leDI, v_geDI, List.getElem?_cons_zero, List.getElem?_cons_succ, List.set_cons_zero, List.set_cons_succ, List.replicate_succ, List.replicate_zero, List.cons_append, List.nil_append, List.length_cons, List.length_nil, v_sub, v_add, v_neg, v_lt, v_le, v_gt, v_ge, v_abs, v_max, v_min, v_intI, v_intB, v_lenL, v_lenT, v_tupL, v_tupT, v_listL, v_listT, v_ixL, v_ixT, v_at0, v_at1, v_at2, v_bool, v_seqL, v_seqT, v_intOf, v_ok0, v_ok1, v_ok2, v_ok3, v_ok4, v_okn, v_ok5, v_ok6, v_ok7, v_ok8, v_ok9, v_ok10, v_ok11, v_ok12, v_ok13, v_ok14, v_ok15, v_ok16, v_ok17, v_ok18, v_ok19, v_ok20, v_ok21, v_ok22, v_ok23, v_ok24, v_ok25, v_ok26, v_ok27, v_ok28, v_ok29, v_ok30, v_ok31, v_ok32, gEq_int, gNe_int, v_rng1, v_rng2, okRg, Int.reducePow, Nat.sub_self, Nat.reduceSub, Nat.reduceAdd, unAll, if_true, if_false, Option.bind_some, Option.bind_none, ite_true, ite_false, Bool.false_eq_true, rgD, Int.reduceBEq, Int.reduceToNat, Int.reduceLT, Int.reduceLE, Int.reduceMul, Int.reduceAdd, Int.reduceSub, Int.reduceNeg, Nat.reduceMul, Nat.reduceLT, Nat.reduceBEq, decide_true, decide_false, Bool.and_true, Bool.true_and, Bool.and_self, Bool.not_true, Bool.not_false, BEq.rfl, reduceIte, v_mulS, v_modS, compGo_M, compM_map, compM_filter, compM_nil, x_ebool, x_bb, x_iband, x_ibor, x_band, x_bor, Bool.or_false, Bool.false_or, Bool.and_false, Bool.false_and, x_sWhile, v_revAL, v_revAT, v_revC0, x_eRevT, abs_ite, v_any3, v_atm1, v_atm2, v_atm3, v_lastT, v_lastL, Nat.add_zero, Nat.zero_add, nc0, nc1, nc2, nc3, nc4, nc5, nc6, x_pbool, Bool.true_or, Bool.or_true]))
local macro_rules | `(tactic| walk_at "ev2") => `(tactic| (try simp only [x_pb, x_fb, x_ba, x_ls, x_ln, x_eVar, x_bVar, x_rdF, x_rdB, x_eC, x_e2, x_e1, x_eList, x_eTup, x_nLst, x_lNil, x_lCons, x_aNil, x_aCons, x_aTape, x_isTp, x_eCal, x_nCal, x_eCall, x_eCut, x_pNone, x_pSome, x_tOf, x_bAnd, x_bOr, x_bNot, x_eIf, x_eAnd, x_eOr, x_eNot, x_eChain, x_lSeq, x_nComp, x_sNext, x_sSeq, x_atN, x_atR, x_atB, x_atC, x_sDrop, x_sRet, x_sIf, x_sAsg, x_mName, x_mSeq, x_mgNil, x_mgCons, x_sOwn, x_sFrz, x_frz, x_sApp, x_owOf, x_sSetI, x_sPar, x_sPar3, x_sFor, x_forN, x_forC, x_loN, x_loC, x_loB, x_loR, x_cN, x_cC, x_bYes, x_oR, x_oN, x_mf0, x_mf1, x_mf2, x_mf3, x_mf4, x_mf5, x_tput, x_sExt, x_nRev, v_isII, v_isBI, v_in3, v_ltDI, v_gtDI, v_leDI, v_geDI, List.getElem?_cons_zero, List.getElem?_cons_succ, List.set_cons_zero, List.set_cons_succ, List.replicate_succ, List.replicate_zero, List.cons_append, List.nil_append, List.length_cons, List.length_nil, v_sub, v_add, v_neg, v_lt, v_le, v_gt, v_ge, v_abs, v_max, v_min, v_intI, v_intB, v_lenL, v_lenT, v_tupL, v_tupT, v_listL, v_listT, v_ixL, v_ixT, v_at0, v_at1, v_at2, v_bool, v_seqL, v_seqT, v_intOf, v_ok0, v_ok1, v_ok2, v_ok3, v_ok4, v_okn, v_ok5, v_ok6, v_ok7, v_ok8, v_ok9, v_ok10, v_ok11, v_ok12, v_ok13, v_ok14, v_ok15, v_ok16, v_ok17, v_ok18, v_ok19, v_ok20, v_ok21, v_ok22, v_ok23, v_ok24, v_ok25, v_ok26, v_ok27, v_ok28, v_ok29, v_ok30, v_ok31, v_ok32, gEq_int, gNe_int, v_rng1, v_rng2, okRg, Int.reducePow, Nat.sub_self, Nat.reduceSub, Nat.reduceAdd, unAll, if_true, if_false, Option.bind_some, Option.bind_none, ite_true, ite_false, Bool.false_eq_true, rgD, Int.reduceBEq, Int.reduceToNat, Int.reduceLT, Int.reduceLE, Int.reduceMul, Int.reduceAdd, Int.reduceSub, Int.reduceNeg, Nat.reduceMul, Nat.reduceLT, Nat.reduceBEq, decide_true, decide_false, Bool.and_true, Bool.true_and, Bool.and_self, Bool.not_true, Bool.not_false, BEq.rfl, reduceIte, v_mulS, v_modS, compGo_M, compM_map, compM_filter, compM_nil, x_ebool, x_bb, x_iband, x_ibor, x_band, x_bor, Bool.or_false, Bool.false_or, Bool.and_false, Bool.false_and, x_sWhile, v_revAL, v_revAT, v_revC0, x_eRevT, abs_ite, v_any3, v_atm1, v_atm2, v_atm3, v_lastT, v_lastL, Nat.add_zero, Nat.zero_add, nc0, nc1, nc2, nc3, nc4, nc5, nc6, x_pbool, Bool.true_or, Bool.or_true, v_isTT]))
/-- what an asking tells -/
structure Ok (l : List BP) (w : Int) (d : PyData) : Prop where
  eq : m_law_asked [.fz (.int w), .fz (.tuple (l.map ptB))] = pure d
  rep : cReprX [d] = some (.str d.shown)
  leaf : leafOk d = true
  kind : gIsi .tuple d = some (.bool (!(w == 1)))
theorem ok_tup {l : List BP} {w : Int} {xs : List PyData} {k n : Nat} (e : m_law_asked [.fz (.int w), .fz (.tuple (l.map ptB))] = pure (.tuple xs)) (r : Rpb (.tuple xs) k n) (hk : k ≤ 50) (hn : n ≤ 20000) (hw : (w == 1) = false) : Ok l w (.tuple xs) :=
  ⟨e, v_reprR (r.ok rfl hk hn), r.leaf, by rw [v_isTT, hw]; rfl⟩
theorem fan_bd (a : BP) : ∀ R : List BP, (HU.fan a.1 (vals R)).natAbs ≤ R.length * 2 ^ 85
  | [] => by show 0 ≤ _; omega
  | [_] => by show 0 ≤ _; omega
  | x :: y :: l => by
    have ih := fan_bd a (y :: l)
    have h := (szTp (a := a) (b := x) (c := y)).h
    show (Tp a.1 x.1 y.1 + HU.fan a.1 (vals (y :: l))).natAbs ≤ _
    rw [List.length_cons] at ih ⊢
    rw [List.length_cons]
    omega
theorem ties_ne {m : Nat} {l : List BP} (h : FB m l) : tiesB l ≠ [] := by
  have h2 := h.two
  have hr := h.rise
  match l, h2, hr with
  | a :: b :: r, _, hr =>
    have hab : lx a.1 b.1 = true := (List.pairwise_cons.mp hr).1 b.1 (by simp)
    have hbr := List.pairwise_cons.mp (List.pairwise_cons.mp hr).2
    have clr : Clr (a :: b :: r) a b = true := by
      unfold Clr
      rw [Bool.not_eq_true', List.any_eq_false]
      intro p hp q
      obtain ⟨q1, q2, _⟩ := bw_iff.mp q
      rcases List.mem_cons.mp hp with rfl | hp
      · rw [lx_irr] at q1; cases q1
      · rcases List.mem_cons.mp hp with rfl | hp
        · rw [lx_irr] at q2; cases q2
        · have := hbr.1 p.1 (List.mem_map_of_mem hp)
          exact HU.lx_asym this q2
    intro e
    have := (tiesB_mem hr (a, b)).mpr ⟨by simp, by simp, hab, clr⟩
    rw [e] at this
    cases this
theorem ties_len {l : List BP} (hl : l.length ≤ 9) : (tiesB l).length ≤ 81 := by
  have h1 := tiesF_len l l
  have h2 : l.length * l.length ≤ 9 * 9 := Nat.mul_le_mul hl hl
  unfold tiesB
  omega
theorem rpb_ties {ts : List PB} (hl : ts.length ≤ 81) : Rpb (.tuple (ts.map tieB)) 3 3807 := Rpb.tuple (k := 2) (w := 46) (n := 81) (fun t ht => (Rpb.pt t.1.2).two (Rpb.pt t.2.2)) hl
theorem tris_len {l : List BP} (hl : l.length ≤ 9) : (trisB l).length ≤ 84 := Nat.le_trans (triF_c3 l l) (c3_mono hl)
theorem cross_any {l : List BP} (h : FB 9 l) {k : Int} (k0 : 0 ≤ k) (k1 : k < (tiesB l).length) : ∃ ts : List PB, ts.length ≤ 81 ∧ ∃ t : PB, L2.atI ((tiesB l).map tieB) k = some (tieB t) ∧ LP2.m_crossing [.fz (.tuple (l.map ptB)), .fz (tieB t)] = pure (.tuple (ts.map tieB)) := by
  obtain ⟨n, rfl⟩ : ∃ n : Nat, k = n := ⟨k.toNat, by omega⟩
  have hl := h.len
  exact ⟨_, Nat.le_trans (List.length_filter_le _ _) (ties_len hl), (tiesB l)[n]'(by omega), at_map (List.getElem?_eq_getElem (by omega)), crossing_eq l (by omega) _ _⟩
theorem corner_rpb (t : TB) : Rpb (frP (dmax t.1.1 t.2.1.1 t.2.2.1) ((Tp t.1.1 t.2.1.1 t.2.2.1).natAbs)) 1 202 := by
  haveI : Sz (dmax t.1.1 t.2.1.1 t.2.2.1) 85 := ⟨by
    rcases (dmax_ge t.1.1 t.2.1.1 t.2.2.1).2.2.2 with e | e | e <;> rw [e]
    · exact (szDot (a := t.1) (b := t.2.1) (c := t.2.2)).h
    · exact (szDot (a := t.2.1) (b := t.1) (c := t.2.2)).h
    · exact (szDot (a := t.2.2) (b := t.1) (c := t.2.1)).h⟩
  have up : ∀ {n : Nat}, n < 2 ^ 85 → n < 2 ^ 100 := fun h => Nat.lt_of_lt_of_le h (by decide)
  exact (Rpb.intB (up (szN (t := dmax t.1.1 t.2.1.1 t.2.2.1) (b := ((Tp t.1.1 t.2.1.1 t.2.2.1).natAbs : Int)) (n := 85)).h)).two (Rpb.intB (up (szD (t := dmax t.1.1 t.2.1.1 t.2.2.1) (b := ((Tp t.1.1 t.2.1.1 t.2.2.1).natAbs : Int)) (n := 85)).h))
theorem tri_nz {l : List BP} (hr : Rise (vals l)) {t : TB} (h : t ∈ trisB l) : Tp t.1.1 t.2.1.1 t.2.2.1 ≠ 0 := fun e => by
  rw [trisB_mem hr] at h
  unfold isTri Sd at h
  rw [e] at h
  simp [LPR.sg] at h
theorem compM_congr {α : Type} {f g : α → M (Option PyData)} : ∀ {l : List α}, (∀ a ∈ l, f a = g a) → compM f l = compM g l
  | [], _ => rfl
  | a :: l, h => by rw [compM, compM, h a (by simp), compM_congr fun b hb => h b (List.mem_cons_of_mem _ hb)]
theorem asked_ok {l : List BP} (h : FB 9 l) (w : Nat) (hw : w < 9) : ∃ d, Ok l w d := by
  have hl := h.len
  have l100 : l.length ≤ 100 := by omega
  have c1 := chainB_len l
  have c2 := chainB_len l.reverse
  rw [List.length_reverse] at c2
  have tne := ties_ne h
  have tl0 : 0 < (tiesB l).length := List.length_pos_iff.mpr tne
  have tl := ties_len hl
  have in67 : ∀ i : Int, gInX (.int i) (.tuple [.int 6, .int 7]) = some (.bool ((6 == i) || ((7 == i) || false))) := fun i => rfl
  rcases (show w = 0 ∨ w = 1 ∨ w = 2 ∨ w = 3 ∨ w = 4 ∨ w = 5 ∨ w = 6 ∨ w = 7 ∨ w = 8 by omega) with rfl | rfl | rfl | rfl | rfl | rfl | rfl | rfl | rfl
  · have e : m_law_asked [.fz (.int 0), .fz (.tuple (l.map ptB))] = pure (.tuple ((hullB l).map ptB)) := by
      unfold m_law_asked
      walk_at "ev2"
      rw [hull_eq h (by decide)]
      walk_at "ev2"
    exact ⟨_, ok_tup (w := 0) e (Rpb.field (n := 100) (by unfold hullB; rw [List.length_append, List.length_dropLast, List.length_dropLast]; omega)) (by decide) (by decide) rfl⟩
  · obtain ⟨a, R, e1, e2⟩ := area_hull h (by decide)
    have e : m_law_asked [.fz (.int 1), .fz (.tuple (l.map ptB))] = pure (.int (HU.fan a.1 (vals R))) := by
      unfold m_law_asked
      walk_at "ev2"
      rw [e2]
      walk_at "ev2"
    have hR : R.length ≤ 100 := by
      have := congrArg List.length e1
      unfold hullB at this
      rw [List.length_append, List.length_dropLast, List.length_dropLast, List.length_cons] at this
      omega
    have bd := fan_bd a R
    have b2 : (HU.fan a.1 (vals R)).natAbs < 2 ^ 100 := Nat.lt_of_le_of_lt bd (Nat.lt_of_le_of_lt (Nat.mul_le_mul_right _ hR) (by decide))
    have r := Rpb.intB b2
    exact ⟨_, ⟨e, v_reprA (by have := r.leaf; rw [leafOk] at this; exact this), r.leaf, rfl⟩⟩
  · have e : m_law_asked [.fz (.int 2), .fz (.tuple (l.map ptB))] = pure (.tuple ((lowB l).map ptB)) := by
      unfold m_law_asked
      walk_at "ev2"
      rw [lower_eq l (by omega)]
      walk_at "ev2"
    exact ⟨_, ok_tup (w := 2) e (Rpb.field (n := 100) (by unfold lowB; omega)) (by decide) (by decide) rfl⟩
  · have e : m_law_asked [.fz (.int 3), .fz (.tuple (l.map ptB))] = pure (.tuple ((uppB l).map ptB)) := by
      unfold m_law_asked
      walk_at "ev2"
      rw [upper_eq l (by omega)]
      walk_at "ev2"
    exact ⟨_, ok_tup (w := 3) e (Rpb.field (n := 100) (by unfold uppB; rw [List.length_reverse]; omega)) (by decide) (by decide) rfl⟩
  · have e : m_law_asked [.fz (.int 4), .fz (.tuple (l.map ptB))] = pure (.tuple ((tiesB l).map tieB)) := by
      unfold m_law_asked
      walk_at "ev2"
      rw [ties_eq l l100]
      walk_at "ev2"
    exact ⟨_, ok_tup (w := 4) e (rpb_ties tl) (by decide) (by decide) rfl⟩
  · have e : m_law_asked [.fz (.int 5), .fz (.tuple (l.map ptB))] = pure (.tuple ((trisB l).map triB)) := by
      unfold m_law_asked
      walk_at "ev2"
      rw [tris_eq l (by omega)]
      walk_at "ev2"
    exact ⟨_, ok_tup (w := 5) e (Rpb.tuple (k := 2) (w := 71) (n := 84) (fun t ht => Rpb.tri t) (tris_len hl)) (by decide) (by decide) rfl⟩
  · obtain ⟨ts, tsl, t, e1, e2⟩ := cross_any h (k := (((tiesB l).length : Int) + 6 - 7) / 2) (by omega) (by omega)
    have e : m_law_asked [.fz (.int 6), .fz (.tuple (l.map ptB))] = pure (.tuple (ts.map tieB)) := by
      unfold m_law_asked
      walk_at "ev2"
      rw [in67]
      walk_at "ev2"
      rw [ties_eq l l100]
      walk_at "ev2"
      rw [List.length_map, v_divS (by decide) (by decide)]
      walk_at "ev2"
      rw [e1]
      walk_at "ev2"
      rw [e2]
      walk_at "ev2"
    exact ⟨_, ok_tup (w := 6) e (rpb_ties tsl) (by decide) (by decide) rfl⟩
  · obtain ⟨ts, tsl, t, e1, e2⟩ := cross_any h (k := (((tiesB l).length : Int) + 7 - 7) / 2) (by omega) (by omega)
    have e : m_law_asked [.fz (.int 7), .fz (.tuple (l.map ptB))] = pure (.tuple (ts.map tieB)) := by
      unfold m_law_asked
      walk_at "ev2"
      rw [in67]
      walk_at "ev2"
      rw [ties_eq l l100]
      walk_at "ev2"
      rw [List.length_map, v_divS (by decide) (by decide)]
      walk_at "ev2"
      rw [e1]
      walk_at "ev2"
      rw [e2]
      walk_at "ev2"
    exact ⟨_, ok_tup (w := 7) e (rpb_ties tsl) (by decide) (by decide) rfl⟩
  · have e : m_law_asked [.fz (.int 8), .fz (.tuple (l.map ptB))] = pure (.tuple ((trisB l).map fun t => frP (dmax t.1.1 t.2.1.1 t.2.2.1) ((Tp t.1.1 t.2.1.1 t.2.2.1).natAbs))) := by
      have hT := tris_len hl
      unfold m_law_asked
      walk_at "ev2"
      rw [in67]
      walk_at "ev2"
      rw [tris_eq l (by omega)]
      walk_at "ev2"
      rw [okLen_of (by rw [List.length_map]; omega)]
      walk_at "ev2"
      rw [compM_congr (g := fun t => pure (some (frP (dmax t.1.1 t.2.1.1 t.2.2.1) ((Tp t.1.1 t.2.1.1 t.2.2.1).natAbs)))) fun t ht => by
        rw [show m_least_corner [Sl.fz (triB t)] = pure (frP (dmax t.1.1 t.2.1.1 t.2.2.1) ((Tp t.1.1 t.2.1.1 t.2.2.1).natAbs)) from lcorner_eq t.1 t.2.1 t.2.2 (tri_nz h.rise ht), x_pb]]
      walk_at "ev2"
    exact ⟨_, ok_tup (w := 8) e (Rpb.tuple (k := 1) (w := 202) (n := 84) (fun t ht => corner_rpb t) (tris_len hl)) (by decide) (by decide) rfl⟩
end LK15

set_option maxHeartbeats 1000000
namespace LK15
open DL PySem LFD LPR LHL LBT LKD
local macro_rules | `(tactic| walk_at "ev") => `(tactic| (try simp only [x_pb, x_fb, x_ba, x_ls, x_ln, x_eVar, x_bVar, x_rdF, x_rdB, x_eC, x_e2, x_e1, x_eList, x_eTup, x_nLst, x_lNil, x_lCons, x_aNil, x_aCons, x_aTape, x_isTp, x_eCal, x_nCal, x_eCall, x_eCut, x_pNone, x_pSome, x_tOf, x_bAnd, x_bOr, x_bNot, x_eIf, x_eAnd, x_eOr, x_eNot, x_eChain, x_lSeq, x_nComp, x_sNext, x_sSeq, x_atN, x_atR, x_atB, x_atC, x_sDrop, x_sRet, x_sIf, x_sAsg, x_mName, x_mSeq, x_mgNil, x_mgCons, x_sOwn, x_sFrz, x_frz, x_sApp, x_owOf, x_sSetI, x_sPar, x_sPar3, x_sFor, x_forN, x_forC, x_loN, x_loC, x_loB, x_loR, x_cN, x_cC, x_bYes, x_oR, x_oN, x_mf0, x_mf1, x_mf2, x_mf3, x_mf4, x_mf5, x_tput, x_sExt, x_nRev, v_isII, v_isBI, v_in3, v_ltDI, v_gtDI, v_leDI, v_geDI, List.getElem?_cons_zero, List.getElem?_cons_succ, List.set_cons_zero, List.set_cons_succ, List.replicate_succ, List.replicate_zero, List.cons_append, List.nil_append, List.length_cons, List.length_nil, v_sub, v_add, v_neg, v_lt, v_le, v_gt, v_ge, v_abs, v_max, v_min, v_intI, v_intB, v_lenL, v_lenT, v_tupL, v_tupT, v_listL, v_listT, v_ixL, v_ixT, v_at0, v_at1, v_at2, v_bool, v_seqL, v_seqT, v_intOf, v_ok0, v_ok1, v_ok2, v_ok3, v_ok4, v_okn, v_ok5, v_ok6, v_ok7, v_ok8, v_ok9, v_ok10, v_ok11, v_ok12, v_ok13, v_ok14, v_ok15, v_ok16, v_ok17, v_ok18, v_ok19, v_ok20, v_ok21, v_ok22, v_ok23, v_ok24, v_ok25, v_ok26, v_ok27, v_ok28, v_ok29, v_ok30, v_ok31, v_ok32, gEq_int, gNe_int, v_rng1, v_rng2, okRg, Int.reducePow, Nat.sub_self, Nat.reduceSub, Nat.reduceAdd, unAll, if_true, if_false, Option.bind_some, Option.bind_none, ite_true, ite_false, Bool.false_eq_true, rgD, Int.reduceBEq, Int.reduceToNat, Int.reduceLT, Int.reduceLE, Int.reduceMul, Int.reduceAdd, Int.reduceSub, Int.reduceNeg, Nat.reduceMul, Nat.reduceLT, Nat.reduceBEq, decide_true, decide_false, Bool.and_true, Bool.true_and, Bool.and_self, Bool.not_true, Bool.not_false, BEq.rfl, reduceIte]))
local macro_rules | `(tactic| walk_at "evt") => `(tactic| (try simp only [x_pb, x_fb, x_ba, x_ls, x_ln, x_eVar, x_bVar, x_rdF, x_rdB, x_eC, x_e2, x_e1, x_eList, x_eTup, x_nLst, x_lNil, x_lCons, x_aNil, x_aCons, x_aTape, x_isTp, x_eCal, x_nCal, x_eCall, x_eCut, x_pNone, x_pSome, x_tOf, x_bAnd, x_bOr, x_bNot, x_eIf, x_eAnd, x_eOr, x_eNot, x_eChain, x_lSeq, x_nComp, x_sNext, x_sSeq, x_atN, x_atR, x_atB, x_atC, x_sDrop, x_sRet, x_sIf, x_sAsg, x_mName, x_mSeq, x_mgNil, x_mgCons, x_sOwn, x_sFrz, x_frz, x_sApp, x_owOf, x_sSetI, x_sPar, x_sPar3, x_sFor, x_forN, x_forC, x_loN, x_loC, x_loB, x_loR, x_cN, x_cC, x_bYes, x_oR, x_oN, x_mf0, x_mf1, x_mf2, x_mf3, x_mf4, x_mf5, x_tput, x_sExt, x_nRev, v_isII, v_isBI, v_in3, v_ltDI, v_gtDI, v_leDI, v_geDI, List.getElem?_cons_zero, List.getElem?_cons_succ, List.set_cons_zero, List.set_cons_succ, List.replicate_succ, List.replicate_zero, List.cons_append, List.nil_append, List.length_cons, List.length_nil, v_sub, v_add, v_neg, v_lt, v_le, v_gt, v_ge, v_abs, v_max, v_min, v_intI, v_intB, v_lenL, v_lenT, v_tupL, v_tupT, v_listL, v_listT, v_ixL, v_ixT, v_at0, v_at1, v_at2, v_bool, v_seqL, v_seqT, v_intOf, v_ok0, v_ok1, v_ok2, v_ok3, v_ok4, v_okn, v_ok5, v_ok6, v_ok7, v_ok8, v_ok9, v_ok10, v_ok11, v_ok12, v_ok13, v_ok14, v_ok15, v_ok16, v_ok17, v_ok18, v_ok19, v_ok20, v_ok21, v_ok22, v_ok23, v_ok24, v_ok25, v_ok26, v_ok27, v_ok28, v_ok29, v_ok30, v_ok31, v_ok32, gEq_int, gNe_int, v_rng1, v_rng2, okRg, Int.reducePow, Nat.sub_self, Nat.reduceSub, Nat.reduceAdd, unAll, if_true, if_false, Option.bind_some, Option.bind_none, ite_true, ite_false, Bool.false_eq_true, rgD, Int.reduceBEq, Int.reduceToNat, Int.reduceLT, Int.reduceLE, Int.reduceMul, Int.reduceAdd, Int.reduceSub, Int.reduceNeg, Nat.reduceMul, Nat.reduceLT, Nat.reduceBEq, decide_true, decide_false, Bool.and_true, Bool.true_and, Bool.and_self, Bool.not_true, Bool.not_false, BEq.rfl, reduceIte, bnd_ap, pure_ap, lift_ap, fail_ap, ite_ap, x_tget, x_doPut, fldOf, tSet, Option.map_some, Option.map_none, beq_self_eq_true, Bool.and_true, Bool.true_and]))
local macro_rules | `(tactic| walk_at "ev1") => `(tactic| (try simp only [x_pb, x_fb, x_ba, x_ls, x_ln, x_eVar, x_bVar, x_rdF, x_rdB, x_eC, x_e2, x_e1, x_eList, x_eTup, x_nLst, x_lNil, x_lCons, x_aNil, x_aCons, x_aTape, x_isTp, x_eCal, x_nCal, x_eCall, x_eCut, x_pNone, x_pSome, x_tOf, x_bAnd, x_bOr, x_bNot, x_eIf, x_eAnd, x_eOr, x_eNot, x_eChain, x_lSeq, x_nComp, x_sNext, x_sSeq, x_atN, x_atR, x_atB, x_atC, x_sDrop, x_sRet, x_sIf, x_sAsg, x_mName, x_mSeq, x_mgNil, x_mgCons, x_sOwn, x_sFrz, x_frz, x_sApp, x_owOf, x_sSetI, x_sPar, x_sPar3, x_sFor, x_forN, x_forC, x_loN, x_loC, x_loB, x_loR, x_cN, x_cC, x_bYes, x_oR, x_oN, x_mf0, x_mf1, x_mf2, x_mf3, x_mf4, x_mf5, x_tput, x_sExt, x_nRev, v_isII, v_isBI, v_in3, v_ltDI, v_gtDI, v_leDI, v_geDI, List.getElem?_cons_zero, List.getElem?_cons_succ, List.set_cons_zero, List.set_cons_succ, List.replicate_succ, List.replicate_zero, List.cons_append, List.nil_append, List.length_cons, List.length_nil, v_sub, v_add, v_neg, v_lt, v_le, v_gt, v_ge, v_abs, v_max, v_min, v_intI, v_intB, v_lenL, v_lenT, v_tupL, v_tupT, v_listL, v_listT, v_ixL, v_ixT, v_at0, v_at1, v_at2, v_bool, v_seqL, v_seqT, v_intOf, v_ok0, v_ok1, v_ok2, v_ok3, v_ok4, v_okn, v_ok5, v_ok6, v_ok7, v_ok8, v_ok9, v_ok10, v_ok11, v_ok12, v_ok13, v_ok14, v_ok15, v_ok16, v_ok17, v_ok18, v_ok19, v_ok20, v_ok21, v_ok22, v_ok23, v_ok24, v_ok25, v_ok26, v_ok27, v_ok28, v_ok29, v_ok30, v_ok31, v_ok32, gEq_int, gNe_int, v_rng1, v_rng2, okRg, Int.reducePow, Nat.sub_self, Nat.reduceSub, Nat.reduceAdd, unAll, if_true, if_false, Option.bind_some, Option.bind_none, ite_true, ite_false, Bool.false_eq_true, rgD, Int.reduceBEq, Int.reduceToNat, Int.reduceLT, Int.reduceLE, Int.reduceMul, Int.reduceAdd, Int.reduceSub, Int.reduceNeg, Nat.reduceMul, Nat.reduceLT, Nat.reduceBEq, decide_true, decide_false, Bool.and_true, Bool.true_and, Bool.and_self, Bool.not_true, Bool.not_false, BEq.rfl, reduceIte, v_mulS, v_modS, compGo_M, compM_map, compM_filter, compM_nil, x_ebool, x_bb, x_iband, x_ibor, x_band, x_bor, Bool.or_false, Bool.false_or, Bool.and_false, Bool.false_and, x_sWhile, v_revAL, v_revAT, v_revC0, x_eRevT, abs_ite, v_any3, v_atm1, v_atm2, v_atm3, v_lastT, v_lastL, Nat.add_zero, Nat.zero_add, nc0, nc1, nc2, nc3, nc4, nc5, nc6, x_pbool, Bool.true_or, Bool.or_true]))
local macro_rules | `(tactic| walk_at "ev5") => `(tactic| (try simp only [x_pb, x_fb, x_ba, x_ls, x_ln, x_eVar, x_bVar, x_rdF, x_rdB, x_eC, x_e2, x_e1, x_eList, x_eTup, x_nLst, x_lNil, x_lCons, x_aNil, x_aCons, x_aTape, x_isTp, x_eCal, x_nCal, x_eCall, x_eCut, x_pNone, x_pSome, x_tOf, x_bAnd, x_bOr, x_bNot, x_eIf, x_eAnd, x_eOr, x_eNot, x_eChain, x_lSeq, x_nComp, x_sNext, x_sSeq, x_atN, x_atR, x_atB, x_atC, x_sDrop, x_sRet, x_sIf, x_sAsg, x_mName, x_mSeq, x_mgNil, x_mgCons, x_sOwn, x_sFrz, x_frz, x_sApp, x_owOf, x_sSetI, x_sPar, x_sPar3, x_forN, x_forC, x_loN, x_loC, x_loB, x_loR, x_cN, x_cC, x_bYes, x_oR, x_oN, x_mf0, x_mf1, x_mf2, x_mf3, x_mf4, x_mf5, x_tput, x_sExt, x_nRev, v_isII, v_isBI, v_in3, v_ltDI, v_gtDI, v_leDI, v_geDI, List.getElem?_cons_zero, List.getElem?_cons_succ, List.set_cons_zero, List.set_cons_succ, List.replicate_succ, List.replicate_zero, List.cons_append, List.nil_append, List.length_cons, List.length_nil, v_sub, v_add, v_neg, v_lt, v_le, v_gt, v_ge, v_abs, v_max, v_min, v_intI, v_intB, v_lenL, v_lenT, v_tupL, v_tupT, v_listL, v_listT, v_ixL, v_ixT, v_at0, v_at1, v_at2, v_bool, v_seqL, v_seqT, v_intOf, v_ok0, v_ok1, v_ok2, v_ok3, v_ok4, v_okn, v_ok5, v_ok6, v_ok7, v_ok8, v_ok9, v_ok10, v_ok11, v_ok12, v_ok13, v_ok14, v_ok15, v_ok16, v_ok17, v_ok18, v_ok19, v_ok20, v_ok21, v_ok22, v_ok23, v_ok24, v_ok25, v_ok26, v_ok27, v_ok28, v_ok29, v_ok30, v_ok31, v_ok32, gEq_int, gNe_int, v_rng1, v_rng2, okRg, Int.reducePow, Nat.sub_self, Nat.reduceSub, Nat.reduceAdd, unAll, if_true, if_false, Option.bind_some, Option.bind_none, ite_true, ite_false, Bool.false_eq_true, rgD, Int.reduceBEq, Int.reduceToNat, Int.reduceLT, Int.reduceLE, Int.reduceMul, Int.reduceAdd, Int.reduceSub, Int.reduceNeg, Nat.reduceMul, Nat.reduceLT, Nat.reduceBEq, decide_true, decide_false, Bool.and_true, Bool.true_and, Bool.and_self, Bool.not_true, Bool.not_false, BEq.rfl, reduceIte, v_mulS, v_modS, compGo_M, compM_map, compM_filter, compM_nil, x_ebool, x_bb, x_iband, x_ibor, x_band, x_bor, Bool.or_false, Bool.false_or, Bool.and_false, Bool.false_and, x_sWhile, v_revAL, v_revAT, v_revC0, x_eRevT, abs_ite, v_any3, v_atm1, v_atm2, v_atm3, v_lastT, v_lastL, Nat.add_zero, Nat.zero_add, nc0, nc1, nc2, nc3, nc4, nc5, nc6, x_pbool, Bool.true_or, Bool.or_true]))
theorem eqv_tie (t u : PB) : PyData.eqv (tieB t) (tieB u) = decide (t = u) := by
  show (PyData.eqv (ptB t.1) (ptB u.1) && (PyData.eqv (ptB t.2) (ptB u.2) && true)) = _
  rw [eqv_ptB, eqv_ptB, Bool.and_true, Bool.eq_iff_iff, Bool.and_eq_true, decide_eq_true_eq, decide_eq_true_eq, decide_eq_true_eq]
  exact ⟨fun h => Prod.ext h.1 h.2, fun h => by rw [h]; exact ⟨rfl, rfl⟩⟩
theorem eqv_trB (t u : TB) : PyData.eqv (triB t) (triB u) = decide (t = u) := by
  show (PyData.eqv (ptB t.1) (ptB u.1) && (PyData.eqv (ptB t.2.1) (ptB u.2.1) && (PyData.eqv (ptB t.2.2) (ptB u.2.2) && true))) = _
  rw [eqv_ptB, eqv_ptB, eqv_ptB, Bool.and_true, Bool.eq_iff_iff, Bool.and_eq_true, Bool.and_eq_true, decide_eq_true_eq, decide_eq_true_eq, decide_eq_true_eq, decide_eq_true_eq]
  exact ⟨fun h => Prod.ext h.1 (Prod.ext h.2.1 h.2.2), fun h => by rw [h]; exact ⟨rfl, rfl, rfl⟩⟩
theorem plain_of {α : Type} {f : α → PyData} (h : ∀ a, (f a).plain = true) : ∀ l : List α, PyData.plainAll (l.map f) = true
  | [] => rfl
  | a :: l => by rw [List.map_cons, PyData.plainAll, h a, plain_of h l]; rfl
theorem v_inT_of {α : Type} [DecidableEq α] {f : α → PyData} (hp : ∀ a, (f a).plain = true) (hd : ∀ a, (f a).depth ≤ 64) (he : ∀ a b, PyData.eqv (f a) (f b) = decide (a = b)) (a : α) (l : List α) [inst : Decidable (a ∈ l)] : gInX (f a) (.tuple (l.map f)) = some (.bool (decide (a ∈ l))) := by
  have ok : okIn (f a) (l.map f) = true := by
    unfold okIn
    rw [plain_of hp, hp a, decide_eq_true (hd a)]
    rfl
  show (if okIn (f a) (l.map f) = true then some (PyData.bool ((l.map f).any fun z => PyData.eqv z (f a))) else none) = _
  rw [if_pos ok, List.any_map]
  congr 2
  rw [Bool.eq_iff_iff, List.any_eq_true, decide_eq_true_eq]
  constructor
  · rintro ⟨b, hb, e⟩
    rw [Function.comp, he, decide_eq_true_eq] at e
    rw [← e]
    exact hb
  · intro h
    exact ⟨a, h, by rw [Function.comp, he, decide_eq_true_eq]⟩
theorem in_ties (t : PB) (l : List PB) : gInX (tieB t) (.tuple (l.map tieB)) = some (.bool (decide (t ∈ l))) := v_inT_of (fun _ => rfl) (fun _ => by show 2 ≤ 64; decide) eqv_tie t l
theorem in_tris (t : TB) (l : List TB) : gInX (triB t) (.tuple (l.map triB)) = some (.bool (decide (t ∈ l))) := v_inT_of (fun _ => rfl) (fun _ => by show 2 ≤ 64; decide) eqv_trB t l
theorem rb (b : Bool) : cReprX [.bool b] = some (.str (PyData.bool b).shown) := v_reprA rfl
local macro_rules | `(tactic| walk_at "ev6") => `(tactic| (try simp only [x_pb, x_fb, x_ba, x_ls, x_ln, x_eVar, x_bVar, x_rdF, x_rdB, x_eC, x_e2, x_e1, x_eList, x_eTup, x_nLst, x_lNil, x_lCons, x_aNil, x_aCons, x_aTape, x_isTp, x_eCal, x_nCal, x_eCall, x_eCut, x_pNone, x_pSome, x_tOf, x_bAnd, x_bOr, x_bNot, x_eIf, x_eAnd, x_eOr, x_eNot, x_eChain, x_lSeq, x_nComp, x_sNext, x_sSeq, x_atN, x_atR, x_atB, x_atC, x_sDrop, x_sRet, x_sIf, x_sAsg, x_mName, x_mSeq, x_mgNil, x_mgCons, x_sOwn, x_sFrz, x_frz, x_sApp, x_owOf, x_sSetI, x_sPar, x_sPar3, x_forN, x_forC, x_loN, x_loC, x_loB, x_loR, x_cN, x_cC, x_bYes, x_oR, x_oN, x_mf0, x_mf1, x_mf2, x_mf3, x_mf4, x_mf5, x_tput, x_sExt, x_nRev, v_isII, v_isBI, v_in3, v_ltDI, v_gtDI, v_leDI, v_geDI, List.getElem?_cons_zero, List.getElem?_cons_succ, List.set_cons_zero, List.set_cons_succ, List.replicate_succ, List.replicate_zero, List.cons_append, List.nil_append, List.length_cons, List.length_nil, v_sub, v_add, v_neg, v_lt, v_le, v_gt, v_ge, v_abs, v_max, v_min, v_intI, v_intB, v_lenL, v_lenT, v_tupL, v_tupT, v_listL, v_listT, v_ixL, v_ixT, v_at0, v_at1, v_at2, v_bool, v_seqL, v_seqT, v_intOf, v_ok0, v_ok1, v_ok2, v_ok3, v_ok4, v_okn, v_ok5, v_ok6, v_ok7, v_ok8, v_ok9, v_ok10, v_ok11, v_ok12, v_ok13, v_ok14, v_ok15, v_ok16, v_ok17, v_ok18, v_ok19, v_ok20, v_ok21, v_ok22, v_ok23, v_ok24, v_ok25, v_ok26, v_ok27, v_ok28, v_ok29, v_ok30, v_ok31, v_ok32, gEq_int, gNe_int, v_rng1, v_rng2, okRg, Int.reducePow, Nat.sub_self, Nat.reduceSub, Nat.reduceAdd, unAll, if_true, if_false, Option.bind_some, Option.bind_none, ite_true, ite_false, Bool.false_eq_true, rgD, Int.reduceBEq, Int.reduceToNat, Int.reduceLT, Int.reduceLE, Int.reduceMul, Int.reduceAdd, Int.reduceSub, Int.reduceNeg, Nat.reduceMul, Nat.reduceLT, Nat.reduceBEq, decide_true, decide_false, Bool.and_true, Bool.true_and, Bool.and_self, Bool.not_true, Bool.not_false, BEq.rfl, reduceIte, v_mulS, v_modS, compGo_M, compM_map, compM_filter, compM_nil, x_ebool, x_bb, x_iband, x_ibor, x_band, x_bor, Bool.or_false, Bool.false_or, Bool.and_false, Bool.false_and, x_sWhile, v_revAL, v_revAT, v_revC0, x_eRevT, abs_ite, v_any3, v_atm1, v_atm2, v_atm3, v_lastT, v_lastL, Nat.add_zero, Nat.zero_add, nc0, nc1, nc2, nc3, nc4, nc5, nc6, x_pbool, Bool.true_or, Bool.or_true, istie_eq, istri_eq, in_ties, in_tris, rb]))
theorem again_eq {l l' : List BP} (h : FB 9 l) (h' : FB 9 l') : m_law_again_right [.fz (.tuple (l.map ptB)), .fz (.tuple (l'.map ptB))] = pure (.bool true) := by
  have hl := h.len
  have hl' := h'.len
  have nb : ∀ b : Bool, gNe (.str (PyData.bool b).shown) (.str (PyData.bool b).shown) = some (.bool false) := fun b => ne_shown rfl
  have is1 : ∀ (l : List BP), l.length ≤ 9 → ∀ t : PB, LP2.m_is_tie [.fz (.tuple (l.map ptB)), .fz (tieB t)] = pure (.bool (isTie l t)) := fun l hl t => istie_eq l (by omega) t
  have is2 : ∀ (l : List BP), l.length ≤ 9 → ∀ t : TB, m_is_triangle [.fz (.tuple (l.map ptB)), .fz (triB t)] = pure (.bool (isTri l t)) := fun l hl t => istri_eq l (by omega) t
  unfold m_law_again_right
  walk_at "ev5"
  rw [ties_eq l' (by omega)]
  walk_at "ev5"
  rw [tris_eq l' (by omega)]
  walk_at "ev5"
  rw [x_sFor]
  walk_at "ev5"
  rw [ties_eq l (by omega)]
  walk_at "ev5"
  refine for_ik (fun k ρ => ∃ s4 : Sl, ρ = [.fz (.tuple (l.map ptB)), .fz (.tuple (l'.map ptB)), .fz (.tuple ((tiesB l').map tieB)), .fz (.tuple ((trisB l').map triB)), s4, .un]) (tiesB l) ⟨_, rfl⟩ (fun k t ht ρ hρ => ?_) fun ρ' hI => ?_
  · obtain ⟨s4, rfl⟩ := hρ
    have e1 : isTie l t = true := by rw [isTie_mem h.rise, decide_eq_true (List.mem_of_getElem? ht)]
    walk_at "ev5"
    rw [is1 l hl, e1]
    walk_at "ev5"
    rw [rb]
    walk_at "ev5"
    rw [nb]
    walk_at "ev5"
    rw [is1 l' hl', isTie_mem h'.rise]
    walk_at "ev5"
    rw [rb]
    walk_at "ev5"
    rw [in_ties]
    walk_at "ev5"
    rw [rb]
    walk_at "ev5"
    rw [nb]
    walk_at "ev5"
    exact ⟨_, rfl, _, rfl⟩
  · obtain ⟨s4, rfl⟩ := hI
    walk_at "ev5"
    rw [x_sFor]
    walk_at "ev5"
    rw [tris_eq l (by omega)]
    walk_at "ev5"
    refine for_ik (fun k ρ => ∃ s5 : Sl, ρ = [.fz (.tuple (l.map ptB)), .fz (.tuple (l'.map ptB)), .fz (.tuple ((tiesB l').map tieB)), .fz (.tuple ((trisB l').map triB)), s4, s5]) (trisB l) ⟨_, rfl⟩ (fun k t ht ρ hρ => ?_) fun ρ' hI => ?_
    · obtain ⟨s5, rfl⟩ := hρ
      have e1 : isTri l t = true := (trisB_mem h.rise t).mp (List.mem_of_getElem? ht)
      have e2 : isTri l' t = decide (t ∈ trisB l') := by rw [Bool.eq_iff_iff, decide_eq_true_eq, trisB_mem h'.rise]
      walk_at "ev5"
      rw [is2 l hl, e1]
      walk_at "ev5"
      rw [rb]
      walk_at "ev5"
      rw [nb]
      walk_at "ev5"
      rw [is2 l' hl', e2]
      walk_at "ev5"
      rw [rb]
      walk_at "ev5"
      rw [in_tris]
      walk_at "ev5"
      rw [rb]
      walk_at "ev5"
      rw [nb]
      walk_at "ev5"
      exact ⟨_, rfl, _, rfl⟩
    · obtain ⟨s5, rfl⟩ := hI
      walk_at "ev5"
theorem law_gv : Gv 0 (b_law (.un :: .tp :: List.replicate 9 .un)) 300 fun o => o = .rt (.bool true) := by
  unfold b_law
  walk_at "ev5"
  refine Gv.step (c := 70) (field_gv (m := 9) (by decide) (by decide)) fun p hp => ?_
  obtain ⟨ps, rfl, ok⟩ := hp
  walk_at "ev5"
  refine Gv.step (c := 73) (second_gv ok) fun p hp => ?_
  obtain ⟨qs, rfl, ok'⟩ := hp
  have tb : ∀ ps : List Pt, FieldOk 9 ps → ∃ l : List BP, ps.map ptK = l.map ptB ∧ FB 9 l := fun ps ok => by
    obtain ⟨l, rfl⟩ := bp_list ps ok.bd
    exact ⟨l, ptB_map l, ⟨ok.rise, by have := ok.len; rwa [List.length_map] at this, ok.non⟩⟩
  obtain ⟨l, el, h⟩ := tb ps ok
  obtain ⟨l', el', h'⟩ := tb qs ok'
  rw [el, el']
  clear el el' ok ok' tb
  have hl := h.len
  have hl' := h'.len
  have rp : Rpb (.list [.tuple (l.map ptB), .tuple (l'.map ptB)]) 3 416 := by
    have := Rpb.list (f := fun l : List BP => PyData.tuple (l.map ptB)) (l := [l, l']) (k := 2) (w := 207) (n := 2) (fun x hx => by
      simp only [List.mem_cons, List.not_mem_nil, or_false] at hx
      rcases hx with rfl | rfl
      · exact Rpb.field (n := 9) hl
      · exact Rpb.field (n := 9) hl') (by simp)
    exact this
  have rk := rp.ok rfl (by decide) (by decide)
  walk_at "ev5"
  rw [v_reprR rk]
  walk_at "ev5"
  obtain ⟨D, hD⟩ : ∃ D : Nat → PyData, ∀ w : Nat, w < 9 → Ok l w (D w) := ⟨fun w => if hw : w < 9 then (asked_ok h w hw).choose else .none, fun w hw => by dsimp only; rw [dif_pos hw]; exact (asked_ok h w hw).choose_spec⟩
  obtain ⟨E, hE⟩ : ∃ E : Nat → PyData, ∀ w : Nat, w < 9 → Ok l' w (E w) := ⟨fun w => if hw : w < 9 then (asked_ok h' w hw).choose else .none, fun w hw => by dsimp only; rw [dif_pos hw]; exact (asked_ok h' w hw).choose_spec⟩
  have q0 : m_law_asked [.fz (.int 0), .fz (.tuple (l.map ptB))] = pure (D 0) := (hD 0 (by decide)).eq
  have q1 : m_law_asked [.fz (.int 1), .fz (.tuple (l.map ptB))] = pure (D 1) := (hD 1 (by decide)).eq
  have q2 : m_law_asked [.fz (.int 2), .fz (.tuple (l.map ptB))] = pure (D 2) := (hD 2 (by decide)).eq
  have q3 : m_law_asked [.fz (.int 3), .fz (.tuple (l.map ptB))] = pure (D 3) := (hD 3 (by decide)).eq
  have q4 : m_law_asked [.fz (.int 4), .fz (.tuple (l.map ptB))] = pure (D 4) := (hD 4 (by decide)).eq
  have q5 : m_law_asked [.fz (.int 5), .fz (.tuple (l.map ptB))] = pure (D 5) := (hD 5 (by decide)).eq
  have q6 : m_law_asked [.fz (.int 6), .fz (.tuple (l.map ptB))] = pure (D 6) := (hD 6 (by decide)).eq
  have q7 : m_law_asked [.fz (.int 7), .fz (.tuple (l.map ptB))] = pure (D 7) := (hD 7 (by decide)).eq
  have q8 : m_law_asked [.fz (.int 8), .fz (.tuple (l.map ptB))] = pure (D 8) := (hD 8 (by decide)).eq
  have p0 : m_law_asked [.fz (.int 0), .fz (.tuple (l'.map ptB))] = pure (E 0) := (hE 0 (by decide)).eq
  have p1 : m_law_asked [.fz (.int 1), .fz (.tuple (l'.map ptB))] = pure (E 1) := (hE 1 (by decide)).eq
  have p2 : m_law_asked [.fz (.int 2), .fz (.tuple (l'.map ptB))] = pure (E 2) := (hE 2 (by decide)).eq
  have p3 : m_law_asked [.fz (.int 3), .fz (.tuple (l'.map ptB))] = pure (E 3) := (hE 3 (by decide)).eq
  have p4 : m_law_asked [.fz (.int 4), .fz (.tuple (l'.map ptB))] = pure (E 4) := (hE 4 (by decide)).eq
  have p5 : m_law_asked [.fz (.int 5), .fz (.tuple (l'.map ptB))] = pure (E 5) := (hE 5 (by decide)).eq
  have p6 : m_law_asked [.fz (.int 6), .fz (.tuple (l'.map ptB))] = pure (E 6) := (hE 6 (by decide)).eq
  have p7 : m_law_asked [.fz (.int 7), .fz (.tuple (l'.map ptB))] = pure (E 7) := (hE 7 (by decide)).eq
  have p8 : m_law_asked [.fz (.int 8), .fz (.tuple (l'.map ptB))] = pure (E 8) := (hE 8 (by decide)).eq
  have rD : ∀ w, w < 9 → cReprX [D w] = some (.str (D w).shown) := fun w hw => (hD w hw).rep
  have rE : ∀ w, w < 9 → cReprX [E w] = some (.str (E w).shown) := fun w hw => (hE w hw).rep
  simp only [q0, q1, q2, q3, q4, q5, q6, q7, q8, p0, p1, p2, p3, p4, p5, p6, p7, p8, x_pb, x_ls, rD 0 (by decide), rD 1 (by decide), rD 2 (by decide), rD 3 (by decide), rD 4 (by decide), rD 5 (by decide), rD 6 (by decide), rD 7 (by decide), rD 8 (by decide), rE 0 (by decide), rE 1 (by decide), rE 2 (by decide), rE 3 (by decide), rE 4 (by decide), rE 5 (by decide), rE 6 (by decide), rE 7 (by decide), rE 8 (by decide)]
  clear q0 q1 q2 q3 q4 q5 q6 q7 q8 p0 p1 p2 p3 p4 p5 p6 p7 p8
  walk_at "ev5"
  rw [show [PyData.str (D 0).shown, PyData.str (D 1).shown, PyData.str (D 2).shown, PyData.str (D 3).shown, PyData.str (D 4).shown, PyData.str (D 5).shown, PyData.str (D 6).shown, PyData.str (D 7).shown, PyData.str (D 8).shown] = (List.range 9).map fun w => PyData.str (D w).shown from rfl, show [PyData.str (E 0).shown, PyData.str (E 1).shown, PyData.str (E 2).shown, PyData.str (E 3).shown, PyData.str (E 4).shown, PyData.str (E 5).shown, PyData.str (E 6).shown, PyData.str (E 7).shown, PyData.str (E 8).shown] = (List.range 9).map fun w => PyData.str (E w).shown from rfl]
  rw [x_sFor, x_rng1c rfl, x_pb]
  refine Gv.forR (c := 2) (fun ρ => ∃ s6 s8 s9 s10 : Sl, ρ = [.un, .tp, .fz (.tuple (l.map ptB)), .fz (.list [.tuple (l.map ptB), .tuple (l'.map ptB)]), .fz (.str (PyData.list [PyData.tuple (List.map ptB l), PyData.tuple (List.map ptB l')]).shown), .fz (.list [.list ((List.range 9).map fun w => PyData.str (D w).shown), .list ((List.range 9).map fun w => PyData.str (E w).shown)]), s6, .un, s8, s9, s10]) 0 24 ⟨_, _, _, _, rfl⟩ (fun i hi ρ hρ => ?_) (by decide) fun ρ' hI => ?_
  · obtain ⟨s6, s8, s9, s10, rfl⟩ := hρ
    walk_at "ev5"
    refine draw1 (by decide) (by decide) fun d d0 d1 => ?_
    walk_at "ev5"
    refine draw1 (by decide) (by decide) fun k k0 k1 => ?_
    obtain ⟨n, rfl⟩ : ∃ n : Nat, k = n := ⟨k.toNat, by omega⟩
    have hn : n < 9 := by omega
    walk_at "ev5"
    obtain ⟨f, G, f1, f2, hG⟩ : ∃ (f : List BP) (G : Nat → PyData), L2.atI [PyData.tuple (l.map ptB), .tuple (l'.map ptB)] ((0 + (i : Int) + d) % 2) = some (.tuple (f.map ptB)) ∧ L2.atI [PyData.list ((List.range 9).map fun w => PyData.str (D w).shown), .list ((List.range 9).map fun w => PyData.str (E w).shown)] ((0 + (i : Int) + d) % 2) = some (.list ((List.range 9).map fun w => PyData.str (G w).shown)) ∧ ∀ w : Nat, w < 9 → Ok f w (G w) := by
      rcases (show (0 + (i : Int) + d) % 2 = 0 ∨ (0 + (i : Int) + d) % 2 = 1 by omega) with e | e <;> rw [e]
      · exact ⟨l, D, rfl, rfl, hD⟩
      · exact ⟨l', E, rfl, rfl, hE⟩
    have o := hG n hn
    have an : L2.atI ((List.range 9).map fun w => PyData.str (G w).shown) (n : Int) = some (.str (G n).shown) := at_map (List.getElem?_eq_getElem (by simpa using hn) |>.trans (by simp))
    rw [f1]
    walk_at "ev5"
    rw [o.eq]
    walk_at "ev5"
    rw [o.rep]
    walk_at "ev5"
    rw [f2]
    walk_at "ev5"
    rw [an]
    walk_at "ev5"
    rw [ne_shown o.leaf]
    walk_at "ev5"
    rw [o.kind]
    walk_at "ev5"
    have nb : ∀ b : Bool, gEq (.bool (!b)) (.bool b) = some (.bool false) := fun b => by cases b <;> rfl
    rw [nb]
    walk_at "ev5"
    exact Gv.ret ⟨_, rfl, _, _, _, _, rfl⟩
  · obtain ⟨s6, s8, s9, s10, rfl⟩ := hI
    walk_at "ev5"
    rw [again_eq h h']
    walk_at "ev5"
    rw [again_eq h' h]
    walk_at "ev5"
    rw [v_reprR rk]
    walk_at "ev5"
    rw [eq_shown rp.leaf]
    walk_at "ev5"
    exact Gv.ret rfl
theorem law_true : ∀ ns : List Int, ns.length ≤ 63 → ∃ t1, b_law (.un :: .tp :: List.replicate 9 .un) ⟨0, ns, 0, 0, 0⟩ = some (.rt (.bool true), t1) := fun ns _ => by
  obtain ⟨o, t1, e, _, rfl⟩ := law_gv 0 ⟨0, ns, 0, 0, 0⟩ ⟨rfl, Int.le_refl 0, Int.le_refl 0, Int.le_refl 0, Int.le_refl 0⟩ (by decide)
  exact ⟨t1, e⟩
end LK15

set_option maxHeartbeats 4000000
/-! derivations of k15 (printed by gen.py) -/
namespace LK15
open PySem L2 DL
def topS (i : Nat) : Stmt := PySem.Challenge.pw_threelays_k15_told_things_by_turns.main.body.getD i (.Pass ⟨0, 0, 0, 0⟩)
abbrev s_is_number : Stmt := topS 1
theorem sc_is_number : FnScope ["thing"] ["thing"] (defScope s_is_number) := ⟨rfl, rfl, rfl, by decide +kernel, rfl, by decide +kernel, by decide +kernel⟩
abbrev s_common_divisor : Stmt := topS 2
theorem sc_common_divisor : FnScope ["one", "other", "left"] ["one", "other"] (defScope s_common_divisor) := ⟨rfl, rfl, rfl, by decide +kernel, rfl, by decide +kernel, by decide +kernel⟩
abbrev s_fraction : Stmt := topS 3
theorem sc_fraction : FnScope ["top", "bottom", "shared"] ["top", "bottom"] (defScope s_fraction) := ⟨rfl, rfl, rfl, by decide +kernel, rfl, by decide +kernel, by decide +kernel⟩
abbrev s_less : Stmt := topS 4
theorem sc_less : FnScope ["one", "other"] ["one", "other"] (defScope s_less) := ⟨rfl, rfl, rfl, by decide +kernel, rfl, by decide +kernel, by decide +kernel⟩
abbrev s_is_point : Stmt := topS 6
theorem sc_is_point : FnScope ["thing"] ["thing"] (defScope s_is_point) := ⟨rfl, rfl, rfl, by decide +kernel, rfl, by decide +kernel, by decide +kernel⟩
abbrev s_turning : Stmt := topS 7
theorem sc_turning : FnScope ["a", "b", "c"] ["a", "b", "c"] (defScope s_turning) := ⟨rfl, rfl, rfl, by decide +kernel, rfl, by decide +kernel, by decide +kernel⟩
abbrev s_side : Stmt := topS 8
theorem sc_side : FnScope ["a", "b", "c", "found"] ["a", "b", "c"] (defScope s_side) := ⟨rfl, rfl, rfl, by decide +kernel, rfl, by decide +kernel, by decide +kernel⟩
abbrev s_area : Stmt := topS 9
theorem sc_area : FnScope ["a", "b", "c"] ["a", "b", "c"] (defScope s_area) := ⟨rfl, rfl, rfl, by decide +kernel, rfl, by decide +kernel, by decide +kernel⟩
abbrev s_corner : Stmt := topS 10
theorem sc_corner : FnScope ["a", "b", "c", "dot"] ["a", "b", "c"] (defScope s_corner) := ⟨rfl, rfl, rfl, by decide +kernel, rfl, by decide +kernel, by decide +kernel⟩
abbrev s_chain : Stmt := topS 12
theorem sc_chain : FnScope ["some", "found", "one"] ["some"] (defScope s_chain) := ⟨rfl, rfl, rfl, by decide +kernel, rfl, by decide +kernel, by decide +kernel⟩
abbrev s_lower : Stmt := topS 13
theorem sc_lower : FnScope ["field"] ["field"] (defScope s_lower) := ⟨rfl, rfl, rfl, by decide +kernel, rfl, by decide +kernel, by decide +kernel⟩
abbrev s_upper : Stmt := topS 14
theorem sc_upper : FnScope ["field"] ["field"] (defScope s_upper) := ⟨rfl, rfl, rfl, by decide +kernel, rfl, by decide +kernel, by decide +kernel⟩
abbrev s_hull : Stmt := topS 15
theorem sc_hull : FnScope ["field"] ["field"] (defScope s_hull) := ⟨rfl, rfl, rfl, by decide +kernel, rfl, by decide +kernel, by decide +kernel⟩
abbrev s_hull_area : Stmt := topS 16
theorem sc_hull_area : FnScope ["field", "rim", "k"] ["field"] (defScope s_hull_area) := ⟨rfl, rfl, rfl, by decide +kernel, rfl, by decide +kernel, by decide +kernel⟩
abbrev s_is_between : Stmt := topS 18
theorem sc_is_between : FnScope ["a", "b", "point"] ["a", "b", "point"] (defScope s_is_between) := ⟨rfl, rfl, rfl, by decide +kernel, rfl, by decide +kernel, by decide +kernel⟩
abbrev s_is_clear : Stmt := topS 19
theorem sc_is_clear : FnScope ["field", "a", "b", "point"] ["field", "a", "b"] (defScope s_is_clear) := ⟨rfl, rfl, rfl, by decide +kernel, rfl, by decide +kernel, by decide +kernel⟩
abbrev s_is_tie : Stmt := topS 20
theorem sc_is_tie : FnScope ["field", "thing", "one"] ["field", "thing"] (defScope s_is_tie) := ⟨rfl, rfl, rfl, by decide +kernel, rfl, by decide +kernel, by decide +kernel⟩
abbrev s_ties : Stmt := topS 21
theorem sc_ties : FnScope ["field", "found", "k", "other"] ["field"] (defScope s_ties) := ⟨rfl, rfl, rfl, by decide +kernel, rfl, by decide +kernel, by decide +kernel⟩
abbrev s_cross : Stmt := topS 22
theorem sc_cross : FnScope ["one", "other", "a", "b", "c", "d"] ["one", "other"] (defScope s_cross) := ⟨rfl, rfl, rfl, by decide +kernel, rfl, by decide +kernel, by decide +kernel⟩
abbrev s_crossing : Stmt := topS 23
theorem sc_crossing : FnScope ["field", "tie", "other"] ["field", "tie"] (defScope s_crossing) := ⟨rfl, rfl, rfl, by decide +kernel, rfl, by decide +kernel, by decide +kernel⟩
abbrev s_has_within : Stmt := topS 25
theorem sc_has_within : FnScope ["a", "b", "c", "point", "hands"] ["a", "b", "c", "point"] (defScope s_has_within) := ⟨rfl, rfl, rfl, by decide +kernel, rfl, by decide +kernel, by decide +kernel⟩
abbrev s_is_void : Stmt := topS 26
theorem sc_is_void : FnScope ["field", "a", "b", "c", "point"] ["field", "a", "b", "c"] (defScope s_is_void) := ⟨rfl, rfl, rfl, by decide +kernel, rfl, by decide +kernel, by decide +kernel⟩
abbrev s_is_triangle : Stmt := topS 27
theorem sc_is_triangle : FnScope ["field", "thing", "one", "a", "b", "c"] ["field", "thing"] (defScope s_is_triangle) := ⟨rfl, rfl, rfl, by decide +kernel, rfl, by decide +kernel, by decide +kernel⟩
abbrev s_triangles : Stmt := topS 28
theorem sc_triangles : FnScope ["field", "found", "i", "j", "some", "other", "one"] ["field"] (defScope s_triangles) := ⟨rfl, rfl, rfl, by decide +kernel, rfl, by decide +kernel, by decide +kernel⟩
abbrev s_least_corner : Stmt := topS 29
theorem sc_least_corner : FnScope ["triangle", "a", "b", "c", "found", "fresh"] ["triangle"] (defScope s_least_corner) := ⟨rfl, rfl, rfl, by decide +kernel, rfl, by decide +kernel, by decide +kernel⟩
abbrev s_law_tape : Stmt := topS 31
theorem sc_law_tape : FnScope ["_law_script"] ["_law_script"] (defScope s_law_tape) := ⟨rfl, rfl, rfl, by decide +kernel, rfl, by decide +kernel, by decide +kernel⟩
abbrev s_law_draw : Stmt := topS 32
theorem sc_law_draw : FnScope ["_law_tape_here", "_law_many", "_law_found", "_law_at", "_law_cells", "_law_cell", "_law_turn", "_law_mixed"] ["_law_tape_here", "_law_many"] (defScope s_law_draw) := ⟨rfl, rfl, rfl, by decide +kernel, rfl, by decide +kernel, by decide +kernel⟩
abbrev s_law_far_row : Stmt := topS 33
theorem sc_law_far_row : FnScope ["_law_row"] [] (defScope s_law_far_row) := ⟨rfl, rfl, rfl, by decide +kernel, rfl, by decide +kernel, by decide +kernel⟩
abbrev s_law_spot : Stmt := topS 34
theorem sc_law_spot : FnScope ["_law_tape_here", "_law_kind", "_law_k", "_law_row", "_law_step"] ["_law_tape_here", "_law_kind", "_law_k"] (defScope s_law_spot) := ⟨rfl, rfl, rfl, by decide +kernel, rfl, by decide +kernel, by decide +kernel⟩
abbrev s_law_on_line : Stmt := topS 35
theorem sc_law_on_line : FnScope ["_law_some", "_law_a", "_law_b", "_law_wide", "_law_high", "_law_c"] ["_law_some"] (defScope s_law_on_line) := ⟨rfl, rfl, rfl, by decide +kernel, rfl, by decide +kernel, by decide +kernel⟩
abbrev s_law_field : Stmt := topS 36
theorem sc_law_field : FnScope ["_law_tape_here", "_law_most", "_law_kind", "_law_found", "_law_k", "_law_one", "_law_way", "_law_x", "_law_y"] ["_law_tape_here", "_law_most"] (defScope s_law_field) := ⟨rfl, rfl, rfl, by decide +kernel, rfl, by decide +kernel, by decide +kernel⟩
abbrev s_law_second : Stmt := topS 37
theorem sc_law_second : FnScope ["_law_tape_here", "_law_field_here", "_law_way", "_law_x", "_law_moved", "_law_one", "_law_at", "_law_found"] ["_law_tape_here", "_law_field_here"] (defScope s_law_second) := ⟨rfl, rfl, rfl, by decide +kernel, rfl, by decide +kernel, by decide +kernel⟩
abbrev s_law_asked : Stmt := topS 38
theorem sc_law_asked : FnScope ["_law_way", "_law_field_here", "_law_some", "_law_one"] ["_law_way", "_law_field_here"] (defScope s_law_asked) := ⟨rfl, rfl, rfl, by decide +kernel, rfl, by decide +kernel, by decide +kernel⟩
abbrev s_law_again_right : Stmt := topS 39
theorem sc_law_again_right : FnScope ["_law_field_here", "_law_other", "_law_some", "_law_told", "_law_tie", "_law_three"] ["_law_field_here", "_law_other"] (defScope s_law_again_right) := ⟨rfl, rfl, rfl, by decide +kernel, rfl, by decide +kernel, by decide +kernel⟩
abbrev s_law : Stmt := topS 40
theorem sc_law : FnScope ["_law_script", "_law_tape_here", "_law_one", "_law_some", "_law_kept", "_law_told", "_law_way", "_law_field_here", "_law_turn", "_law_at", "_law_again"] ["_law_script"] (defScope s_law) := ⟨rfl, rfl, rfl, by decide +kernel, rfl, by decide +kernel, by decide +kernel⟩
structure Bt (mg : Str → Option Value) : Prop where
  abs : mg "abs" = none
  all : mg "all" = none
  any : mg "any" = none
  bool : mg "bool" = none
  int : mg "int" = none
  isinstance : mg "isinstance" = none
  len : mg "len" = none
  max : mg "max" = none
  min : mg "min" = none
  range : mg "range" = none
  repr : mg "repr" = none
  set : mg "set" = none
  sorted : mg "sorted" = none
  sum : mg "sum" = none
  tuple : mg "tuple" = none
section
variable {P : Program} {w : World} {K : PySem.W.Frag} {mg : Str → Option Value} {base : Heap}
theorem ok_is_number {f : Addr} {fd : FuncData} (F : Fun K "is_number" "is_number" s_is_number f fd) (B : Bt mg)  : FnG P w K mg base CX0 1 f fd ["thing"] (spD LPR.m_is_number) :=
  fnD_of (k := 0) F sc_is_number fun cdv A ou s0 H hr hG => by
    have nd := sc_is_number.nd
    have D : RSs (cxOf CX0 P w K mg base ["thing"] "is_number" (defScope s_is_number) f cdv A ou s0 H E0).nox (defBody s_is_number) _ _ := (rss_one (rs_ret (re_and (re_isiN K (y := .int) B.isinstance B.int (by decide +kernel) (rb_var (pv 0))) (re_one (re_not (re_isiN K (y := .bool) B.isinstance B.bool (by decide +kernel) (rb_var (pv 0))))))))
    exact ⟨_, D.ps, D.ev⟩
theorem ok_common_divisor {f : Addr} {fd : FuncData} (F : Fun K "common_divisor" "common_divisor" s_common_divisor f fd) (B : Bt mg)  : FnG P w K mg base CX0 1 f fd ["one", "other"] (spD LPR.m_common_divisor) :=
  fnD_of (k := 0) F sc_common_divisor fun cdv A ou s0 H hr hG => by
    have nd := sc_common_divisor.nd
    have D : RSs (cxOf CX0 P w K mg base ["one", "other", "left"] "common_divisor" (defScope s_common_divisor) f cdv A ou s0 H E0).nox (defBody s_common_divisor) _ _ := (rss_cons (rs_while (fuelS) PassesOwn.never (rt_cmp (op_gtD K hr.units) o_gtD (rb_var (pv 1)) re_int.bo (nomark _)) (rss_cons (rs_setE (i := 2) nd rfl (by first | exact Or.inl rfl | exact Or.inr rfl) (re_mod (rb_var (pv 0)) (rb_var (pv 1))))
      (rss_cons (rs_setE (i := 0) nd rfl (by first | exact Or.inl rfl | exact Or.inr rfl) (re_var (pv 1)))
      (rss_one (rs_setE (i := 1) nd rfl (by first | exact Or.inl rfl | exact Or.inr rfl) (re_var (pv 2)))))))
      (rss_one (rs_ret (re_var (pv 0)))))
    exact ⟨_, D.ps, D.ev⟩
theorem ok_fraction {f : Addr} {fd : FuncData} (F : Fun K "fraction" "fraction" s_fraction f fd) (B : Bt mg) (c_common_divisor : Cee P w K mg base 1 "common_divisor" LPR.m_common_divisor) : FnG P w K mg base CX0 2 f fd ["top", "bottom"] (spD LPR.m_fraction) :=
  fnD_of (k := 1) F sc_fraction fun cdv A ou s0 H hr hG => by
    have nd := sc_fraction.nd
    have D : RSs (cxOf CX0 P w K mg base ["top", "bottom", "shared"] "fraction" (defScope s_fraction) f cdv A ou s0 H E0).nox (defBody s_fraction) _ _ := (rss_cons (rs_if (rt_cmp (op_ltD K hr.units) o_ltD (rb_var (pv 1)) re_int.bo (nomark _)) (rss_cons (rs_setE (i := 0) nd rfl (by first | exact Or.inl rfl | exact Or.inr rfl) (re_sub re_int.bo (rb_var (pv 0))))
      (rss_one (rs_setE (i := 1) nd rfl (by first | exact Or.inl rfl | exact Or.inr rfl) (re_sub re_int.bo (rb_var (pv 1)))))) rss_nil)
      (rss_cons (rs_setE (i := 2) nd rfl (by first | exact Or.inl rfl | exact Or.inr rfl) (re_call c_common_divisor hr hG (ra_cons (re_calB call_abs k_abs B.abs (by decide +kernel) (rr_cons (rb_var (pv 0)) rr_nil)) (ra_cons (re_var (pv 1)) ra_nil))))
      (rss_one (rs_ret (re_tup (rl_cons (re_div (rb_var (pv 0)) (rb_var (pv 2))) (rl_cons (re_div (rb_var (pv 1)) (rb_var (pv 2))) rl_nil)))))))
    exact ⟨_, D.ps, D.ev⟩
theorem ok_less {f : Addr} {fd : FuncData} (F : Fun K "less" "less" s_less f fd) (B : Bt mg)  : FnG P w K mg base CX0 1 f fd ["one", "other"] (spD LPR.m_less) :=
  fnD_of (k := 0) F sc_less fun cdv A ou s0 H hr hG => by
    have nd := sc_less.nd
    have D : RSs (cxOf CX0 P w K mg base ["one", "other"] "less" (defScope s_less) f cdv A ou s0 H E0).nox (defBody s_less) _ _ := (rss_one (rs_ret (re_cmp (op_ltD K hr.units) o_ltD (re_mul (re_ixN K (rb_var (pv 0)) re_int.bo).bo (re_ixN K (rb_var (pv 1)) re_int.bo).bo).bo (re_mul (re_ixN K (rb_var (pv 1)) re_int.bo).bo (re_ixN K (rb_var (pv 0)) re_int.bo).bo).bo (nomark _))))
    exact ⟨_, D.ps, D.ev⟩
theorem ok_is_point {f : Addr} {fd : FuncData} (F : Fun K "is_point" "is_point" s_is_point f fd) (B : Bt mg) (c_is_number : Cee P w K mg base 1 "is_number" LPR.m_is_number) : FnG P w K mg base CX0 2 f fd ["thing"] (spD LPR.m_is_point) :=
  fnD_of (k := 1) F sc_is_point fun cdv A ou s0 H hr hG => by
    have nd := sc_is_point.nd
    have D : RSs (cxOf CX0 P w K mg base ["thing"] "is_point" (defScope s_is_point) f cdv A ou s0 H E0).nox (defBody s_is_point) _ _ := (rss_one (rs_ret (re_and (re_isiN K (y := .tuple) B.isinstance B.tuple (by decide +kernel) (rb_var (pv 0))) (re_and (re_cmp (op_eqN K hr.units) o_eq (re_calB (call_lenN K) k_len B.len (by decide +kernel) (rr_cons (rb_var (pv 0)) rr_nil)).bo re_int.bo (nomark _)) (re_and (re_call c_is_number hr hG (ra_cons (re_ixN K (rb_var (pv 0)) re_int.bo) ra_nil)) (re_one (re_call c_is_number hr hG (ra_cons (re_ixN K (rb_var (pv 0)) re_int.bo) ra_nil))))))))
    exact ⟨_, D.ps, D.ev⟩
theorem ok_turning {f : Addr} {fd : FuncData} (F : Fun K "turning" "turning" s_turning f fd) (B : Bt mg)  : FnG P w K mg base CX0 1 f fd ["a", "b", "c"] (spD LPR.m_turning) :=
  fnD_of (k := 0) F sc_turning fun cdv A ou s0 H hr hG => by
    have nd := sc_turning.nd
    have D : RSs (cxOf CX0 P w K mg base ["a", "b", "c"] "turning" (defScope s_turning) f cdv A ou s0 H E0).nox (defBody s_turning) _ _ := (rss_one (rs_ret (re_sub (re_mul (re_sub (re_ixN K (rb_var (pv 1)) re_int.bo).bo (re_ixN K (rb_var (pv 0)) re_int.bo).bo).bo (re_sub (re_ixN K (rb_var (pv 2)) re_int.bo).bo (re_ixN K (rb_var (pv 0)) re_int.bo).bo).bo).bo (re_mul (re_sub (re_ixN K (rb_var (pv 1)) re_int.bo).bo (re_ixN K (rb_var (pv 0)) re_int.bo).bo).bo (re_sub (re_ixN K (rb_var (pv 2)) re_int.bo).bo (re_ixN K (rb_var (pv 0)) re_int.bo).bo).bo).bo)))
    exact ⟨_, D.ps, D.ev⟩
theorem ok_side {f : Addr} {fd : FuncData} (F : Fun K "side" "side" s_side f fd) (B : Bt mg) (c_turning : Cee P w K mg base 1 "turning" LPR.m_turning) : FnG P w K mg base CX0 2 f fd ["a", "b", "c"] (spD LPR.m_side) :=
  fnD_of (k := 1) F sc_side fun cdv A ou s0 H hr hG => by
    have nd := sc_side.nd
    have D : RSs (cxOf CX0 P w K mg base ["a", "b", "c", "found"] "side" (defScope s_side) f cdv A ou s0 H E0).nox (defBody s_side) _ _ := (rss_cons (rs_setE (i := 3) nd rfl (by first | exact Or.inl rfl | exact Or.inr rfl) (re_call c_turning hr hG (ra_cons (re_var (pv 0)) (ra_cons (re_var (pv 1)) (ra_cons (re_var (pv 2)) ra_nil)))))
      (rss_one (rs_ret (re_sub (re_calT call_int1 k_int1 B.int (by decide +kernel) (rr_cons (re_cmp (op_gtD K hr.units) o_gtD (rb_var (pv 3)) re_int.bo (nomark _)).bo rr_nil)).bo (re_calT call_int1 k_int1 B.int (by decide +kernel) (rr_cons (re_cmp (op_ltD K hr.units) o_ltD (rb_var (pv 3)) re_int.bo (nomark _)).bo rr_nil)).bo))))
    exact ⟨_, D.ps, D.ev⟩
theorem ok_area {f : Addr} {fd : FuncData} (F : Fun K "area" "area" s_area f fd) (B : Bt mg) (c_turning : Cee P w K mg base 1 "turning" LPR.m_turning) : FnG P w K mg base CX0 2 f fd ["a", "b", "c"] (spD LPR.m_area) :=
  fnD_of (k := 1) F sc_area fun cdv A ou s0 H hr hG => by
    have nd := sc_area.nd
    have D : RSs (cxOf CX0 P w K mg base ["a", "b", "c"] "area" (defScope s_area) f cdv A ou s0 H E0).nox (defBody s_area) _ _ := (rss_one (rs_ret (re_calB call_abs k_abs B.abs (by decide +kernel) (rr_cons (re_call c_turning hr hG (ra_cons (re_var (pv 0)) (ra_cons (re_var (pv 1)) (ra_cons (re_var (pv 2)) ra_nil)))).bo rr_nil))))
    exact ⟨_, D.ps, D.ev⟩
theorem ok_corner {f : Addr} {fd : FuncData} (F : Fun K "corner" "corner" s_corner f fd) (B : Bt mg) (c_area : Cee P w K mg base 2 "area" LPR.m_area) (c_fraction : Cee P w K mg base 2 "fraction" LPR.m_fraction) : FnG P w K mg base CX0 3 f fd ["a", "b", "c"] (spD LPR.m_corner) :=
  fnD_of (k := 2) F sc_corner fun cdv A ou s0 H hr hG => by
    have nd := sc_corner.nd
    have D : RSs (cxOf CX0 P w K mg base ["a", "b", "c", "dot"] "corner" (defScope s_corner) f cdv A ou s0 H E0).nox (defBody s_corner) _ _ := (rss_cons (rs_setE (i := 3) nd rfl (by first | exact Or.inl rfl | exact Or.inr rfl) (re_addN K (re_mul (re_sub (re_ixN K (rb_var (pv 1)) re_int.bo).bo (re_ixN K (rb_var (pv 0)) re_int.bo).bo).bo (re_sub (re_ixN K (rb_var (pv 2)) re_int.bo).bo (re_ixN K (rb_var (pv 0)) re_int.bo).bo).bo).bo (re_mul (re_sub (re_ixN K (rb_var (pv 1)) re_int.bo).bo (re_ixN K (rb_var (pv 0)) re_int.bo).bo).bo (re_sub (re_ixN K (rb_var (pv 2)) re_int.bo).bo (re_ixN K (rb_var (pv 0)) re_int.bo).bo).bo).bo))
      (rss_one (rs_ret (re_call c_fraction hr hG (ra_cons (re_var (pv 3)) (ra_cons (re_call c_area hr hG (ra_cons (re_var (pv 0)) (ra_cons (re_var (pv 1)) (ra_cons (re_var (pv 2)) ra_nil)))) ra_nil))))))
    exact ⟨_, D.ps, D.ev⟩
theorem ok_chain {f : Addr} {fd : FuncData} (F : Fun K "chain" "chain" s_chain f fd) (B : Bt mg) (c_side : Cee P w K mg base 2 "side" LPR.m_side) : FnG P w K mg base CX0 3 f fd ["some"] (spD LPR.m_chain) :=
  fnD_of (k := 2) F sc_chain fun cdv A ou s0 H hr hG => by
    have nd := sc_chain.nd
    have D : RSs (cxOf CX0 P w K mg base ["some", "found", "one"] "chain" (defScope s_chain) f cdv A ou s0 H E0).nox (defBody s_chain) _ _ := (rss_cons (rs_ownE (i := 1) nd rfl (by first | exact Or.inl rfl | exact Or.inr rfl) (rn_lst rl_nil))
      (rss_cons (rs_for PassesOwn.never rfl (ri_seqN K (re_var (pv 0))) (rg_name (i := 2) nd rfl (by first | exact Or.inl rfl | exact Or.inr rfl)) (rss_cons (rs_while (fuelS) PassesOwn.never (rw_and (rt_cmp (op_gtD K hr.units) o_gtD (re_calB (call_lenN K) k_len B.len (by decide +kernel) (rr_cons (rb_var (pv 1)) rr_nil)).bo re_int.bo (nomark _)) (rw_and1 (rt_cmp (op_ltD K hr.units) o_ltD (re_call c_side hr hG (ra_cons (re_ixN K (rb_var (pv 1)) (re_neg re_int.bo).bo) (ra_cons (re_ixN K (rb_var (pv 1)) (re_neg re_int.bo).bo) (ra_cons (re_var (pv 2)) ra_nil)))).bo re_int.bo (nomark _)))).te (rss_one (rs_popE (pv 1))))
      (rss_one (rs_appE (pv 1) (re_var (pv 2))))))
      (rss_one (RS.frz 1 (rs_ret (re_var (pv 1)))))))
    exact ⟨_, D.ps, D.ev⟩
theorem ok_lower {f : Addr} {fd : FuncData} (F : Fun K "lower" "lower" s_lower f fd) (B : Bt mg) (c_chain : Cee P w K mg base 3 "chain" LPR.m_chain) : FnG P w K mg base CX0 4 f fd ["field"] (spD LPR.m_lower) :=
  fnD_of (k := 3) F sc_lower fun cdv A ou s0 H hr hG => by
    have nd := sc_lower.nd
    have D : RSs (cxOf CX0 P w K mg base ["field"] "lower" (defScope s_lower) f cdv A ou s0 H E0).nox (defBody s_lower) _ _ := (rss_one (rs_ret (re_calT (call_tupleN K) k_tuple B.tuple (by decide +kernel) (rr_cons (re_call c_chain hr hG (ra_cons (re_var (pv 0)) ra_nil)).bo rr_nil))))
    exact ⟨_, D.ps, D.ev⟩
theorem ok_upper {f : Addr} {fd : FuncData} (F : Fun K "upper" "upper" s_upper f fd) (B : Bt mg) (c_chain : Cee P w K mg base 3 "chain" LPR.m_chain) : FnG P w K mg base CX0 4 f fd ["field"] (spD LPR.m_upper) :=
  fnD_of (k := 3) F sc_upper fun cdv A ou s0 H hr hG => by
    have nd := sc_upper.nd
    have D : RSs (cxOf CX0 P w K mg base ["field"] "upper" (defScope s_upper) f cdv A ou s0 H E0).nox (defBody s_upper) _ _ := (rss_one (rs_ret (re_calT (call_tupleN K) k_tuple B.tuple (by decide +kernel) (rr_cons (re_revA (K := K) (re_call c_chain hr hG (ra_cons (re_revA (K := K) (rb_var (pv 0))) ra_nil)).bo).bo rr_nil))))
    exact ⟨_, D.ps, D.ev⟩
theorem ok_hull {f : Addr} {fd : FuncData} (F : Fun K "hull" "hull" s_hull f fd) (B : Bt mg) (c_lower : Cee P w K mg base 4 "lower" LPR.m_lower) (c_upper : Cee P w K mg base 4 "upper" LPR.m_upper) : FnG P w K mg base CX0 5 f fd ["field"] (spD LPR.m_hull) :=
  fnD_of (k := 4) F sc_hull fun cdv A ou s0 H hr hG => by
    have nd := sc_hull.nd
    have D : RSs (cxOf CX0 P w K mg base ["field"] "hull" (defScope s_hull) f cdv A ou s0 H E0).nox (defBody s_hull) _ _ := (rss_one (rs_ret (re_addN K (re_cutN K (re_call c_lower hr hG (ra_cons (re_var (pv 0)) ra_nil)).bo ro_none (ro_some (re_neg re_int.bo).bo)).bo (re_revT (K := K) (re_call c_upper hr hG (ra_cons (re_var (pv 0)) ra_nil)).bo (ro_some re_int.bo)).bo)))
    exact ⟨_, D.ps, D.ev⟩
theorem ok_hull_area {f : Addr} {fd : FuncData} (F : Fun K "hull_area" "hull_area" s_hull_area f fd) (B : Bt mg) (c_area : Cee P w K mg base 2 "area" LPR.m_area) (c_hull : Cee P w K mg base 5 "hull" LPR.m_hull) : FnG P w K mg base CX0 6 f fd ["field"] (spD LPR.m_hull_area) :=
  fnD_of (k := 5) F sc_hull_area fun cdv A ou s0 H hr hG => by
    have nd := sc_hull_area.nd
    have D : RSs (cxOf CX0 P w K mg base ["field", "rim", "k"] "hull_area" (defScope s_hull_area) f cdv A ou s0 H E0).nox (defBody s_hull_area) _ _ := (rss_cons (rs_setE (i := 1) nd rfl (by first | exact Or.inl rfl | exact Or.inr rfl) (re_call c_hull hr hG (ra_cons (re_var (pv 0)) ra_nil)))
      (rss_one (rs_ret (re_calB (call_sumN K rfl) k_sum B.sum (by decide +kernel) (rr_cons (rn_comp [("k", 2)] rfl nd (ri_rg2 B.range (rr_cons re_int.bo (rr_cons (re_sub (re_calB (call_lenN K) k_len B.len (by decide +kernel) (rr_cons (rb_var (pv 1)) rr_nil)).bo re_int.bo).bo rr_nil))) (blkOk_by (N := ["field", "rim", "k"]) (sc := defScope s_hull_area) (by decide +kernel)) (fun _ _ _ _ _ => (rg_name (i := 2) nd rfl (by first | exact Or.inl rfl | exact Or.inr rfl))) (fun _ _ _ _ _ => rts_nil) (fun _ _ _ _ _ => (re_call c_area hr hG (ra_cons (re_ixN K (rb_var (pv 1)) re_int.bo) (ra_cons (re_ixN K (rb_var (pv 1)) (rb_var (pv 2))) (ra_cons (re_ixN K (rb_var (pv 1)) (re_addN K (rb_var (pv 2)) re_int.bo).bo) ra_nil)))))).bo rr_nil)))))
    exact ⟨_, D.ps, D.ev⟩
theorem ok_is_between {f : Addr} {fd : FuncData} (F : Fun K "is_between" "is_between" s_is_between f fd) (B : Bt mg) (c_side : Cee P w K mg base 2 "side" LPR.m_side) : FnG P w K mg base CX0 3 f fd ["a", "b", "point"] (spD LPR.m_is_between) :=
  fnD_of (k := 2) F sc_is_between fun cdv A ou s0 H hr hG => by
    have nd := sc_is_between.nd
    have D : RSs (cxOf CX0 P w K mg base ["a", "b", "point"] "is_between" (defScope s_is_between) f cdv A ou s0 H E0).nox (defBody s_is_between) _ _ := (rss_one (rs_ret (re_and (re_chain (op_ltD K hr.units) (op_ltD K hr.units) o_ltD o_ltD (rb_var (pv 0)) (rb_var (pv 2)) (rb_var (pv 1))) (re_one (re_cmp (op_eqN K hr.units) o_eq (re_call c_side hr hG (ra_cons (re_var (pv 0)) (ra_cons (re_var (pv 1)) (ra_cons (re_var (pv 2)) ra_nil)))).bo re_int.bo (nomark _))))))
    exact ⟨_, D.ps, D.ev⟩
theorem ok_is_clear {f : Addr} {fd : FuncData} (F : Fun K "is_clear" "is_clear" s_is_clear f fd) (B : Bt mg) (c_is_between : Cee P w K mg base 3 "is_between" LPR.m_is_between) : FnG P w K mg base CX0 4 f fd ["field", "a", "b"] (spD LPR.m_is_clear) :=
  fnD_of (k := 3) F sc_is_clear fun cdv A ou s0 H hr hG => by
    have nd := sc_is_clear.nd
    have D : RSs (cxOf CX0 P w K mg base ["field", "a", "b", "point"] "is_clear" (defScope s_is_clear) f cdv A ou s0 H E0).nox (defBody s_is_clear) _ _ := (rss_one (rs_ret (re_not (re_calB (call_anyN K rfl) k_any B.any (by decide +kernel) (rr_cons (rn_comp [("point", 3)] rfl nd (ri_seqN K (re_var (pv 0))) (blkOk_by (N := ["field", "a", "b", "point"]) (sc := defScope s_is_clear) (by decide +kernel)) (fun _ _ _ _ _ => (rg_name (i := 3) nd rfl (by first | exact Or.inl rfl | exact Or.inr rfl))) (fun _ _ _ _ _ => rts_nil) (fun _ _ _ _ _ => (re_call c_is_between hr hG (ra_cons (re_var (pv 1)) (ra_cons (re_var (pv 2)) (ra_cons (re_var (pv 3)) ra_nil)))))).bo rr_nil)))))
    exact ⟨_, D.ps, D.ev⟩
theorem ok_is_tie {f : Addr} {fd : FuncData} (F : Fun K "is_tie" "is_tie" s_is_tie f fd) (B : Bt mg) (c_is_clear : Cee P w K mg base 4 "is_clear" LPR.m_is_clear) (c_is_point : Cee P w K mg base 2 "is_point" LPR.m_is_point) : FnG P w K mg base CX0 5 f fd ["field", "thing"] (spD LP2.m_is_tie) :=
  fnD_of (k := 4) F sc_is_tie fun cdv A ou s0 H hr hG => by
    have nd := sc_is_tie.nd
    have D : RSs (cxOf CX0 P w K mg base ["field", "thing", "one"] "is_tie" (defScope s_is_tie) f cdv A ou s0 H E0).nox (defBody s_is_tie) _ _ := (rss_cons (rs_if (rw_or (rt_not (rt_val (re_isiN K (y := .tuple) B.isinstance B.tuple (by decide +kernel) (rb_var (pv 1))))) (rw_or (rt_cmp (op_neN K hr.units) o_ne (re_calB (call_lenN K) k_len B.len (by decide +kernel) (rr_cons (rb_var (pv 1)) rr_nil)).bo re_int.bo (nomark _)) (rw_or1 (rt_not (rt_val (re_calB (call_allN K rfl) k_all B.all (by decide +kernel) (rr_cons (rn_comp [("one", 2)] rfl nd (ri_seqN K (re_var (pv 1))) (blkOk_by (N := ["field", "thing", "one"]) (sc := defScope s_is_tie) (by decide +kernel)) (fun _ _ _ _ _ => (rg_name (i := 2) nd rfl (by first | exact Or.inl rfl | exact Or.inr rfl))) (fun _ _ _ _ _ => rts_nil) (fun _ _ _ _ _ => (re_and (re_call c_is_point hr hG (ra_cons (re_var (pv 2)) ra_nil)) (re_one (re_cmp (op_inX K hr) o_inX (rb_var (pv 2)) (rb_var (pv 0)) rfl))))).bo rr_nil))))))).te (rss_one (rs_ret re_bl)) rss_nil)
      (rss_one (rs_ret (re_and (re_cmp (op_ltD K hr.units) o_ltD (re_ixN K (rb_var (pv 1)) re_int.bo).bo (re_ixN K (rb_var (pv 1)) re_int.bo).bo (nomark _)) (re_one (re_call c_is_clear hr hG (ra_cons (re_var (pv 0)) (ra_cons (re_ixN K (rb_var (pv 1)) re_int.bo) (ra_cons (re_ixN K (rb_var (pv 1)) re_int.bo) ra_nil)))))))))
    exact ⟨_, D.ps, D.ev⟩
theorem ok_ties {f : Addr} {fd : FuncData} (F : Fun K "ties" "ties" s_ties f fd) (B : Bt mg) (c_is_clear : Cee P w K mg base 4 "is_clear" LPR.m_is_clear) : FnG P w K mg base CX0 5 f fd ["field"] (spD LPR.m_ties) :=
  fnD_of (k := 4) F sc_ties fun cdv A ou s0 H hr hG => by
    have nd := sc_ties.nd
    have D : RSs (cxOf CX0 P w K mg base ["field", "found", "k", "other"] "ties" (defScope s_ties) f cdv A ou s0 H E0).nox (defBody s_ties) _ _ := (rss_cons (rs_ownE (i := 1) nd rfl (by first | exact Or.inl rfl | exact Or.inr rfl) (rn_lst rl_nil))
      (rss_cons (rs_for PassesOwn.never rfl (ri_rg1 B.range (rr_cons (re_calB (call_lenN K) k_len B.len (by decide +kernel) (rr_cons (rb_var (pv 0)) rr_nil)).bo rr_nil)) (rg_name (i := 2) nd rfl (by first | exact Or.inl rfl | exact Or.inr rfl)) (rss_one (rs_extE (pv 1) (rn_comp [("other", 3)] rfl nd (ri_seqN K (re_cutN K (rb_var (pv 0)) (ro_some (re_addN K (rb_var (pv 2)) re_int.bo).bo) ro_none)) (blkOk_by (N := ["field", "found", "k", "other"]) (sc := defScope s_ties) (by decide +kernel)) (fun _ _ _ _ _ => (rg_name (i := 3) nd rfl (by first | exact Or.inl rfl | exact Or.inr rfl))) (fun _ _ _ _ _ => (rts_one (rt_val (re_call c_is_clear hr hG (ra_cons (re_var (pv 0)) (ra_cons (re_ixN K (rb_var (pv 0)) (rb_var (pv 2))) (ra_cons (re_var (pv 3)) ra_nil))))))) (fun _ _ _ _ _ => (re_tup (rl_cons (re_ixN K (rb_var (pv 0)) (rb_var (pv 2))) (rl_cons (re_var (pv 3)) rl_nil))))).bo)))
      (rss_one (rs_ret (re_calT (call_tupleN K) k_tuple B.tuple (by decide +kernel) (rr_cons (rb_var (pv 1)) rr_nil))))))
    exact ⟨_, D.ps, D.ev⟩
theorem ok_cross {f : Addr} {fd : FuncData} (F : Fun K "cross" "cross" s_cross f fd) (B : Bt mg) (c_side : Cee P w K mg base 2 "side" LPR.m_side) : FnG P w K mg base CX0 3 f fd ["one", "other"] (spD LPR.m_cross) :=
  fnD_of (k := 2) F sc_cross fun cdv A ou s0 H hr hG => by
    have nd := sc_cross.nd
    have D : RSs (cxOf CX0 P w K mg base ["one", "other", "a", "b", "c", "d"] "cross" (defScope s_cross) f cdv A ou s0 H E0).nox (defBody s_cross) _ _ := (rss_cons (rs_asg (re_var (pv 0)) (rg_seqN K (n := 2) rfl (rgs_cons' (rg_name (i := 2) nd rfl (by first | exact Or.inl rfl | exact Or.inr rfl)) (rgs_cons' (rg_name (i := 3) nd rfl (by first | exact Or.inl rfl | exact Or.inr rfl)) rgs_nil))))
      (rss_cons (rs_asg (re_var (pv 1)) (rg_seqN K (n := 2) rfl (rgs_cons' (rg_name (i := 4) nd rfl (by first | exact Or.inl rfl | exact Or.inr rfl)) (rgs_cons' (rg_name (i := 5) nd rfl (by first | exact Or.inl rfl | exact Or.inr rfl)) rgs_nil))))
      (rss_one (rs_ret (re_and (re_cmp (op_ltD K hr.units) o_ltD (re_mul (re_call c_side hr hG (ra_cons (re_var (pv 2)) (ra_cons (re_var (pv 3)) (ra_cons (re_var (pv 4)) ra_nil)))).bo (re_call c_side hr hG (ra_cons (re_var (pv 2)) (ra_cons (re_var (pv 3)) (ra_cons (re_var (pv 5)) ra_nil)))).bo).bo re_int.bo (nomark _)) (re_one (re_cmp (op_ltD K hr.units) o_ltD (re_mul (re_call c_side hr hG (ra_cons (re_var (pv 4)) (ra_cons (re_var (pv 5)) (ra_cons (re_var (pv 2)) ra_nil)))).bo (re_call c_side hr hG (ra_cons (re_var (pv 4)) (ra_cons (re_var (pv 5)) (ra_cons (re_var (pv 3)) ra_nil)))).bo).bo re_int.bo (nomark _))))))))
    exact ⟨_, D.ps, D.ev⟩
theorem ok_crossing {f : Addr} {fd : FuncData} (F : Fun K "crossing" "crossing" s_crossing f fd) (B : Bt mg) (c_cross : Cee P w K mg base 3 "cross" LPR.m_cross) (c_ties : Cee P w K mg base 5 "ties" LPR.m_ties) : FnG P w K mg base CX0 6 f fd ["field", "tie"] (spD LP2.m_crossing) :=
  fnD_of (k := 5) F sc_crossing fun cdv A ou s0 H hr hG => by
    have nd := sc_crossing.nd
    have D : RSs (cxOf CX0 P w K mg base ["field", "tie", "other"] "crossing" (defScope s_crossing) f cdv A ou s0 H E0).nox (defBody s_crossing) _ _ := (rss_one (rs_ret (re_calT (call_tupleN K) k_tuple B.tuple (by decide +kernel) (rr_cons (rn_comp [("other", 2)] rfl nd (ri_seqN K (re_call c_ties hr hG (ra_cons (re_var (pv 0)) ra_nil))) (blkOk_by (N := ["field", "tie", "other"]) (sc := defScope s_crossing) (by decide +kernel)) (fun _ _ _ _ _ => (rg_name (i := 2) nd rfl (by first | exact Or.inl rfl | exact Or.inr rfl))) (fun _ _ _ _ _ => (rts_one (rt_val (re_call c_cross hr hG (ra_cons (re_var (pv 1)) (ra_cons (re_var (pv 2)) ra_nil)))))) (fun _ _ _ _ _ => (re_var (pv 2)))).bo rr_nil))))
    exact ⟨_, D.ps, D.ev⟩
theorem ok_has_within {f : Addr} {fd : FuncData} (F : Fun K "has_within" "has_within" s_has_within f fd) (B : Bt mg) (c_side : Cee P w K mg base 2 "side" LPR.m_side) : FnG P w K mg base CX0 3 f fd ["a", "b", "c", "point"] (spD LPR.m_has_within) :=
  fnD_of (k := 2) F sc_has_within fun cdv A ou s0 H hr hG => by
    have nd := sc_has_within.nd
    have D : RSs (cxOf CX0 P w K mg base ["a", "b", "c", "point", "hands"] "has_within" (defScope s_has_within) f cdv A ou s0 H E0).nox (defBody s_has_within) _ _ := (rss_cons (rs_setE (i := 4) nd rfl (by first | exact Or.inl rfl | exact Or.inr rfl) (rn_lst (rl_cons (re_call c_side hr hG (ra_cons (re_var (pv 0)) (ra_cons (re_var (pv 1)) (ra_cons (re_var (pv 3)) ra_nil)))) (rl_cons (re_call c_side hr hG (ra_cons (re_var (pv 1)) (ra_cons (re_var (pv 2)) (ra_cons (re_var (pv 3)) ra_nil)))) (rl_cons (re_call c_side hr hG (ra_cons (re_var (pv 2)) (ra_cons (re_var (pv 0)) (ra_cons (re_var (pv 3)) ra_nil)))) rl_nil)))).fr)
      (rss_one (rs_ret (re_not (re_and (re_cmp (op_inX K hr) o_inX re_int.bo (rb_var (pv 4)) rfl) (re_one (re_cmp (op_inX K hr) o_inX (re_neg re_int.bo).bo (rb_var (pv 4)) rfl)))))))
    exact ⟨_, D.ps, D.ev⟩
theorem ok_is_void {f : Addr} {fd : FuncData} (F : Fun K "is_void" "is_void" s_is_void f fd) (B : Bt mg) (c_has_within : Cee P w K mg base 3 "has_within" LPR.m_has_within) : FnG P w K mg base CX0 4 f fd ["field", "a", "b", "c"] (spD LPR.m_is_void) :=
  fnD_of (k := 3) F sc_is_void fun cdv A ou s0 H hr hG => by
    have nd := sc_is_void.nd
    have D : RSs (cxOf CX0 P w K mg base ["field", "a", "b", "c", "point"] "is_void" (defScope s_is_void) f cdv A ou s0 H E0).nox (defBody s_is_void) _ _ := (rss_one (rs_ret (re_not (re_calB (call_anyN K rfl) k_any B.any (by decide +kernel) (rr_cons (rn_comp [("point", 4)] rfl nd (ri_seqN K (re_var (pv 0))) (blkOk_by (N := ["field", "a", "b", "c", "point"]) (sc := defScope s_is_void) (by decide +kernel)) (fun _ _ _ _ _ => (rg_name (i := 4) nd rfl (by first | exact Or.inl rfl | exact Or.inr rfl))) (fun _ _ _ _ _ => (rts_one (rw_and (rt_chain (op_ltD K hr.units) (op_ltD K hr.units) o_ltD o_ltD (rb_var (pv 1)) (rb_var (pv 4)) (rb_var (pv 3))) (rw_and1 (rt_cmp (op_neN K hr.units) o_ne (rb_var (pv 4)) (rb_var (pv 2)) (nomark _)))).te)) (fun _ _ _ _ _ => (re_call c_has_within hr hG (ra_cons (re_var (pv 1)) (ra_cons (re_var (pv 2)) (ra_cons (re_var (pv 3)) (ra_cons (re_var (pv 4)) ra_nil))))))).bo rr_nil)))))
    exact ⟨_, D.ps, D.ev⟩
theorem ok_is_triangle {f : Addr} {fd : FuncData} (F : Fun K "is_triangle" "is_triangle" s_is_triangle f fd) (B : Bt mg) (c_is_point : Cee P w K mg base 2 "is_point" LPR.m_is_point) (c_is_void : Cee P w K mg base 4 "is_void" LPR.m_is_void) (c_side : Cee P w K mg base 2 "side" LPR.m_side) : FnG P w K mg base CX0 5 f fd ["field", "thing"] (spD LPR.m_is_triangle) :=
  fnD_of (k := 4) F sc_is_triangle fun cdv A ou s0 H hr hG => by
    have nd := sc_is_triangle.nd
    have D : RSs (cxOf CX0 P w K mg base ["field", "thing", "one", "a", "b", "c"] "is_triangle" (defScope s_is_triangle) f cdv A ou s0 H E0).nox (defBody s_is_triangle) _ _ := (rss_cons (rs_if (rw_or (rt_not (rt_val (re_isiN K (y := .tuple) B.isinstance B.tuple (by decide +kernel) (rb_var (pv 1))))) (rw_or (rt_cmp (op_neN K hr.units) o_ne (re_calB (call_lenN K) k_len B.len (by decide +kernel) (rr_cons (rb_var (pv 1)) rr_nil)).bo re_int.bo (nomark _)) (rw_or1 (rt_not (rt_val (re_calB (call_allN K rfl) k_all B.all (by decide +kernel) (rr_cons (rn_comp [("one", 2)] rfl nd (ri_seqN K (re_var (pv 1))) (blkOk_by (N := ["field", "thing", "one", "a", "b", "c"]) (sc := defScope s_is_triangle) (by decide +kernel)) (fun _ _ _ _ _ => (rg_name (i := 2) nd rfl (by first | exact Or.inl rfl | exact Or.inr rfl))) (fun _ _ _ _ _ => rts_nil) (fun _ _ _ _ _ => (re_and (re_call c_is_point hr hG (ra_cons (re_var (pv 2)) ra_nil)) (re_one (re_cmp (op_inX K hr) o_inX (rb_var (pv 2)) (rb_var (pv 0)) rfl))))).bo rr_nil))))))).te (rss_one (rs_ret re_bl)) rss_nil)
      (rss_cons (rs_asg (re_var (pv 1)) (rg_seqN K (n := 3) rfl (rgs_cons' (rg_name (i := 3) nd rfl (by first | exact Or.inl rfl | exact Or.inr rfl)) (rgs_cons' (rg_name (i := 4) nd rfl (by first | exact Or.inl rfl | exact Or.inr rfl)) (rgs_cons' (rg_name (i := 5) nd rfl (by first | exact Or.inl rfl | exact Or.inr rfl)) rgs_nil)))))
      (rss_one (rs_ret (re_and (re_chain (op_ltD K hr.units) (op_ltD K hr.units) o_ltD o_ltD (rb_var (pv 3)) (rb_var (pv 4)) (rb_var (pv 5))) (re_and (re_cmp (op_neN K hr.units) o_ne (re_call c_side hr hG (ra_cons (re_var (pv 3)) (ra_cons (re_var (pv 4)) (ra_cons (re_var (pv 5)) ra_nil)))).bo re_int.bo (nomark _)) (re_one (re_call c_is_void hr hG (ra_cons (re_var (pv 0)) (ra_cons (re_var (pv 3)) (ra_cons (re_var (pv 4)) (ra_cons (re_var (pv 5)) ra_nil))))))))))))
    exact ⟨_, D.ps, D.ev⟩
theorem ok_triangles {f : Addr} {fd : FuncData} (F : Fun K "triangles" "triangles" s_triangles f fd) (B : Bt mg) (c_is_triangle : Cee P w K mg base 5 "is_triangle" LPR.m_is_triangle) : FnG P w K mg base CX0 6 f fd ["field"] (spD LPR.m_triangles) :=
  fnD_of (k := 5) F sc_triangles fun cdv A ou s0 H hr hG => by
    have nd := sc_triangles.nd
    have D : RSs (cxOf CX0 P w K mg base ["field", "found", "i", "j", "some", "other", "one"] "triangles" (defScope s_triangles) f cdv A ou s0 H E0).nox (defBody s_triangles) _ _ := (rss_cons (rs_ownE (i := 1) nd rfl (by first | exact Or.inl rfl | exact Or.inr rfl) (rn_lst rl_nil))
      (rss_cons (rs_for PassesOwn.never rfl (ri_rg1 B.range (rr_cons (re_calB (call_lenN K) k_len B.len (by decide +kernel) (rr_cons (rb_var (pv 0)) rr_nil)).bo rr_nil)) (rg_name (i := 2) nd rfl (by first | exact Or.inl rfl | exact Or.inr rfl)) (rss_one (rs_for PassesOwn.never rfl (ri_rg2 B.range (rr_cons (re_addN K (rb_var (pv 2)) re_int.bo).bo (rr_cons (re_calB (call_lenN K) k_len B.len (by decide +kernel) (rr_cons (rb_var (pv 0)) rr_nil)).bo rr_nil))) (rg_name (i := 3) nd rfl (by first | exact Or.inl rfl | exact Or.inr rfl)) (rss_cons (rs_setC (i := 4) [("other", 5)] rfl nd rfl rfl (sw_true rfl rfl rfl (by decide +kernel)) (ri_seqN K (re_cutN K (rb_var (pv 0)) (ro_some (re_addN K (rb_var (pv 3)) re_int.bo).bo) ro_none)) (blkOk_by (N := ["field", "found", "i", "j", "some", "other", "one"]) (sc := defScope s_triangles) (by decide +kernel)) (fun _ _ _ _ _ => (rg_name (i := 5) nd rfl (by first | exact Or.inl rfl | exact Or.inr rfl))) (fun _ _ _ _ _ => rts_nil) (fun _ _ _ _ _ => (re_tup (rl_cons (re_ixN K (rb_var (pv 0)) (rb_var (pv 2))) (rl_cons (re_ixN K (rb_var (pv 0)) (rb_var (pv 3))) (rl_cons (re_var (pv 5)) rl_nil))))))
      (rss_one (rs_extE (pv 1) (rn_comp [("one", 6)] rfl nd (ri_seqN K (re_var (pv 4))) (blkOk_by (N := ["field", "found", "i", "j", "some", "other", "one"]) (sc := defScope s_triangles) (by decide +kernel)) (fun _ _ _ _ _ => (rg_name (i := 6) nd rfl (by first | exact Or.inl rfl | exact Or.inr rfl))) (fun _ _ _ _ _ => (rts_one (rt_val (re_call c_is_triangle hr hG (ra_cons (re_var (pv 0)) (ra_cons (re_var (pv 6)) ra_nil)))))) (fun _ _ _ _ _ => (re_var (pv 6)))).bo))))))
      (rss_one (rs_ret (re_calT (call_tupleN K) k_tuple B.tuple (by decide +kernel) (rr_cons (rb_var (pv 1)) rr_nil))))))
    exact ⟨_, D.ps, D.ev⟩
theorem ok_least_corner {f : Addr} {fd : FuncData} (F : Fun K "least_corner" "least_corner" s_least_corner f fd) (B : Bt mg) (c_corner : Cee P w K mg base 3 "corner" LPR.m_corner) (c_less : Cee P w K mg base 1 "less" LPR.m_less) : FnG P w K mg base CX0 4 f fd ["triangle"] (spD LPR.m_least_corner) :=
  fnD_of (k := 3) F sc_least_corner fun cdv A ou s0 H hr hG => by
    have nd := sc_least_corner.nd
    have D : RSs (cxOf CX0 P w K mg base ["triangle", "a", "b", "c", "found", "fresh"] "least_corner" (defScope s_least_corner) f cdv A ou s0 H E0).nox (defBody s_least_corner) _ _ := (rss_cons (rs_asg (re_var (pv 0)) (rg_seqN K (n := 3) rfl (rgs_cons' (rg_name (i := 1) nd rfl (by first | exact Or.inl rfl | exact Or.inr rfl)) (rgs_cons' (rg_name (i := 2) nd rfl (by first | exact Or.inl rfl | exact Or.inr rfl)) (rgs_cons' (rg_name (i := 3) nd rfl (by first | exact Or.inl rfl | exact Or.inr rfl)) rgs_nil)))))
      (rss_cons (rs_setE (i := 4) nd rfl (by first | exact Or.inl rfl | exact Or.inr rfl) (re_call c_corner hr hG (ra_cons (re_var (pv 1)) (ra_cons (re_var (pv 2)) (ra_cons (re_var (pv 3)) ra_nil)))))
      (rss_cons (rs_for PassesOwn.never rfl (ri_seqN K (re_tup (rl_cons (re_call c_corner hr hG (ra_cons (re_var (pv 2)) (ra_cons (re_var (pv 1)) (ra_cons (re_var (pv 3)) ra_nil)))) (rl_cons (re_call c_corner hr hG (ra_cons (re_var (pv 3)) (ra_cons (re_var (pv 1)) (ra_cons (re_var (pv 2)) ra_nil)))) rl_nil)))) (rg_name (i := 5) nd rfl (by first | exact Or.inl rfl | exact Or.inr rfl)) (rss_one (rs_if (rt_val (re_call c_less hr hG (ra_cons (re_var (pv 4)) (ra_cons (re_var (pv 5)) ra_nil)))) (rss_one (rs_setE (i := 4) nd rfl (by first | exact Or.inl rfl | exact Or.inr rfl) (re_var (pv 5)))) rss_nil)))
      (rss_one (rs_ret (re_var (pv 4)))))))
    exact ⟨_, D.ps, D.ev⟩
theorem ok_law_tape {f : Addr} {fd : FuncData} (F : Fun K "_law_tape" "_law_tape" s_law_tape f fd) (B : Bt mg) : FnG P w K mg base CX0 1 f fd ["_law_script"] (spTape K 0) :=
  fnT_of (k := 0) F sc_law_tape fun cdv A ou s0 H => ⟨_, (pss_one (ps_ret (pe_disp (pps_cons pe_str (pe_slice sl_list (pv 0) po_none (po_some pe_int)) (pps_cons pe_str pe_int (pps_cons pe_str pe_int (pps_cons pe_str pe_int pps_nil)))) (by rfl) (by rfl) (fun z => by cases z) (by decide)))), (ev_tapeD keys0 cells_cut)⟩
theorem ok_law_draw {f : Addr} {fd : FuncData} (F : Fun K "_law_draw" "_law_draw" s_law_draw f fd) (B : Bt mg)  : FnG P w K mg base CX0 1 f fd ["_law_tape_here", "_law_many"] (spD LFD.m_law_draw) :=
  fnD_of (k := 0) F sc_law_draw fun cdv A ou s0 H hr hG => by
    have nd := sc_law_draw.nd
    have D : RSs (cxOf CX0 P w K mg base ["_law_tape_here", "_law_many", "_law_found", "_law_at", "_law_cells", "_law_cell", "_law_turn", "_law_mixed"] "_law_draw" (defScope s_law_draw) f cdv A ou s0 H E0).nox (defBody s_law_draw) _ _ := (rss_cons (rs_tputD (kd := 0) (k := 3) keys0 (by decide) (by decide) hr.units (pv 0) rfl (re_addN K (re_tgetD (kd := 0) (k := 3) keys0 (by decide) hr.units (pv 0) rfl (fun _ _ => rfl)).bo re_int.bo))
      (rss_cons (rs_if (rt_cmp (op_gtD K hr.units) o_gtD (re_tgetD (kd := 0) (k := 2) keys0 (by decide) hr.units (pv 0) rfl (fun _ _ => rfl)).bo re_int.bo (nomark _)) (rss_cons (rs_setE (i := 2) nd rfl (by first | exact Or.inl rfl | exact Or.inr rfl) (re_mod (re_tgetD (kd := 0) (k := 2) keys0 (by decide) hr.units (pv 0) rfl (fun _ _ => rfl)).bo (rb_var (pv 1))))
      (rss_cons (rs_tputD (kd := 0) (k := 2) keys0 (by decide) (by decide) hr.units (pv 0) rfl (re_div (re_tgetD (kd := 0) (k := 2) keys0 (by decide) hr.units (pv 0) rfl (fun _ _ => rfl)).bo (rb_var (pv 1))))
      (rss_one (rs_ret (re_var (pv 2)))))) rss_nil)
      (rss_cons (rs_setE (i := 3) nd rfl (by first | exact Or.inl rfl | exact Or.inr rfl) (re_tgetD (kd := 0) (k := 1) keys0 (by decide) hr.units (pv 0) rfl (fun _ _ => rfl)))
      (rss_cons (rs_tputD (kd := 0) (k := 1) keys0 (by decide) (by decide) hr.units (pv 0) rfl (re_addN K (rb_var (pv 3)) re_int.bo))
      (rss_cons (rs_setE (i := 4) nd rfl (by first | exact Or.inl rfl | exact Or.inr rfl) (re_tgetD (kd := 0) (k := 0) keys0 (by decide) hr.units (pv 0) rfl (fun _ _ => rfl)))
      (rss_cons (rs_setE (i := 5) nd rfl (by first | exact Or.inl rfl | exact Or.inr rfl) (re_ifx (rt_cmp (op_neN K hr.units) o_ne (rb_var (pv 4)) (rn_lst rl_nil).bo (nomark _)) (re_ixN K (rb_var (pv 4)) (re_mod (rb_var (pv 3)) (re_calB (call_lenN K) k_len B.len (by decide +kernel) (rr_cons (rb_var (pv 4)) rr_nil)).bo).bo) re_int))
      (rss_cons (rs_if (rw_and (rt_cmp (op_geD K hr.units) o_geD (rb_var (pv 5)) (re_pow re_int.bo re_int.bo).bo (nomark _)) (rw_and1 (rt_cmp (op_ltD K hr.units) o_ltD (rb_var (pv 3)) (re_calB (call_lenN K) k_len B.len (by decide +kernel) (rr_cons (rb_var (pv 4)) rr_nil)).bo (nomark _)))).te (rss_cons (rs_tputD (kd := 0) (k := 2) keys0 (by decide) (by decide) hr.units (pv 0) rfl (re_div (rb_var (pv 5)) (rb_var (pv 1))))
      (rss_one (rs_ret (re_mod (rb_var (pv 5)) (rb_var (pv 1)))))) rss_nil)
      (rss_cons (rs_setE (i := 6) nd rfl (by first | exact Or.inl rfl | exact Or.inr rfl) (re_tgetD (kd := 0) (k := 3) keys0 (by decide) hr.units (pv 0) rfl (fun _ _ => rfl)))
      (rss_cons (rs_setE (i := 7) nd rfl (by first | exact Or.inl rfl | exact Or.inr rfl) (re_mod (re_mul (re_addN K (re_mod (rb_var (pv 5)) re_int.bo).bo re_int.bo).bo (re_addN K (re_mul (re_mul (rb_var (pv 6)) (rb_var (pv 6))).bo re_int.bo).bo re_int.bo).bo).bo re_int.bo))
      (rss_cons (rs_setE (i := 7) nd rfl (by first | exact Or.inl rfl | exact Or.inr rfl) (re_mod (re_addN K (re_mul (rb_var (pv 7)) (rb_var (pv 7))).bo (re_mul re_int.bo (rb_var (pv 6))).bo).bo re_int.bo))
      (rss_one (rs_ret (re_mod (re_div (re_mod (re_mul (rb_var (pv 7)) re_int.bo).bo re_int.bo).bo re_int.bo).bo (rb_var (pv 1)))))))))))))))
    exact ⟨_, D.ps, D.ev⟩
theorem ok_law_far_row {f : Addr} {fd : FuncData} (F : Fun K "_law_far_row" "_law_far_row" s_law_far_row f fd) (B : Bt mg)  : FnG P w K mg base CX0 1 f fd [] (spD LFD.m_law_far_row) :=
  fnD_of (k := 0) F sc_law_far_row fun cdv A ou s0 H hr hG => by
    have nd := sc_law_far_row.nd
    have D : RSs (cxOf CX0 P w K mg base ["_law_row"] "_law_far_row" (defScope s_law_far_row) f cdv A ou s0 H E0).nox (defBody s_law_far_row) _ _ := (rss_cons (rs_setE (i := 0) nd rfl (by first | exact Or.inl rfl | exact Or.inr rfl) (rn_lst (rl_cons (re_tup (rl_cons (re_neg re_int.bo) (rl_cons (re_neg re_int.bo) rl_nil))) (rl_cons (re_tup (rl_cons (re_neg re_int.bo) (rl_cons re_int rl_nil))) (rl_cons (re_tup (rl_cons re_int (rl_cons re_int rl_nil))) (rl_cons (re_tup (rl_cons (re_neg re_int.bo) (rl_cons (re_neg re_int.bo) rl_nil))) (rl_cons (re_tup (rl_cons (re_neg re_int.bo) (rl_cons re_int rl_nil))) (rl_cons (re_tup (rl_cons re_int (rl_cons re_int rl_nil))) rl_nil))))))).fr)
      (rss_one (rs_ret (re_addN K (rb_var (pv 0)) (rn_lst (rl_cons (re_tup (rl_cons (re_neg re_int.bo) (rl_cons re_int rl_nil))) (rl_cons (re_tup (rl_cons (re_neg re_int.bo) (rl_cons re_int rl_nil))) (rl_cons (re_tup (rl_cons re_int (rl_cons re_int rl_nil))) (rl_cons (re_tup (rl_cons (re_neg re_int.bo) (rl_cons (re_neg re_int.bo) rl_nil))) (rl_cons (re_tup (rl_cons (re_neg re_int.bo) (rl_cons (re_neg re_int.bo) rl_nil))) (rl_cons (re_tup (rl_cons re_int (rl_cons re_int rl_nil))) rl_nil))))))).bo))))
    exact ⟨_, D.ps, D.ev⟩
theorem ok_law_spot {f : Addr} {fd : FuncData} (F : Fun K "_law_spot" "_law_spot" s_law_spot f fd) (B : Bt mg) (c_law_draw : Cee P w K mg base 1 "_law_draw" LFD.m_law_draw) (c_law_far_row : Cee P w K mg base 1 "_law_far_row" LFD.m_law_far_row) : FnG P w K mg base CX0 2 f fd ["_law_tape_here", "_law_kind", "_law_k"] (spD LFD.m_law_spot) :=
  fnD_of (k := 1) F sc_law_spot fun cdv A ou s0 H hr hG => by
    have nd := sc_law_spot.nd
    have D : RSs (cxOf CX0 P w K mg base ["_law_tape_here", "_law_kind", "_law_k", "_law_row", "_law_step"] "_law_spot" (defScope s_law_spot) f cdv A ou s0 H E0).nox (defBody s_law_spot) _ _ := (rss_cons (rs_if (rt_cmp (op_eqN K hr.units) o_eq (rb_var (pv 1)) re_int.bo (nomark _)) (rss_one (rs_ret (re_tup (rl_cons (re_call c_law_draw hr hG (ra_tape (pv 0) (ra_cons re_int ra_nil))) (rl_cons (re_call c_law_draw hr hG (ra_tape (pv 0) (ra_cons re_int ra_nil))) rl_nil))))) rss_nil)
      (rss_cons (rs_if (rt_cmp (op_eqN K hr.units) o_eq (rb_var (pv 1)) re_int.bo (nomark _)) (rss_one (rs_ret (re_tup (rl_cons (re_call c_law_draw hr hG (ra_tape (pv 0) (ra_cons re_int ra_nil))) (rl_cons (re_call c_law_draw hr hG (ra_tape (pv 0) (ra_cons re_int ra_nil))) rl_nil))))) rss_nil)
      (rss_cons (rs_if (rw_and (rt_cmp (op_eqN K hr.units) o_eq (rb_var (pv 1)) re_int.bo (nomark _)) (rw_and1 (rt_cmp (op_eqN K hr.units) o_eq (re_call c_law_draw hr hG (ra_tape (pv 0) (ra_cons re_int ra_nil))).bo re_int.bo (nomark _)))).te (rss_one (rs_ret (re_ixN K (re_call0 c_law_far_row hr hG).bo (re_mod (rb_var (pv 2)) re_int.bo).bo))) rss_nil)
      (rss_cons (rs_if (rt_cmp (op_eqN K hr.units) o_eq (rb_var (pv 1)) re_int.bo (nomark _)) (rss_one (rs_ret (re_tup (rl_cons (re_sub (re_call c_law_draw hr hG (ra_tape (pv 0) (ra_cons re_int ra_nil))).bo re_int.bo) (rl_cons (re_sub (re_call c_law_draw hr hG (ra_tape (pv 0) (ra_cons re_int ra_nil))).bo re_int.bo) rl_nil))))) rss_nil)
      (rss_cons (rs_if (rt_cmp (op_eqN K hr.units) o_eq (rb_var (pv 1)) re_int.bo (nomark _)) (rss_one (rs_ret (re_tup (rl_cons (re_var (pv 2)) (rl_cons (re_mul (rb_var (pv 2)) (rb_var (pv 2))) rl_nil))))) rss_nil)
      (rss_cons (rs_if (rt_cmp (op_eqN K hr.units) o_eq (rb_var (pv 1)) re_int.bo (nomark _)) (rss_cons (rs_setE (i := 3) nd rfl (by first | exact Or.inl rfl | exact Or.inr rfl) (rn_lst (rl_cons (re_tup (rl_cons re_int (rl_cons re_int rl_nil))) (rl_cons (re_tup (rl_cons re_int (rl_cons re_int rl_nil))) (rl_cons (re_tup (rl_cons re_int (rl_cons re_int rl_nil))) (rl_cons (re_tup (rl_cons re_int (rl_cons re_int rl_nil))) (rl_cons (re_tup (rl_cons (re_neg re_int.bo) (rl_cons re_int rl_nil))) (rl_cons (re_tup (rl_cons (re_neg re_int.bo) (rl_cons re_int rl_nil))) (rl_cons (re_tup (rl_cons (re_neg re_int.bo) (rl_cons re_int rl_nil))) (rl_cons (re_tup (rl_cons (re_neg re_int.bo) (rl_cons (re_neg re_int.bo) rl_nil))) (rl_cons (re_tup (rl_cons (re_neg re_int.bo) (rl_cons (re_neg re_int.bo) rl_nil))) (rl_cons (re_tup (rl_cons re_int (rl_cons (re_neg re_int.bo) rl_nil))) (rl_cons (re_tup (rl_cons re_int (rl_cons (re_neg re_int.bo) rl_nil))) (rl_cons (re_tup (rl_cons re_int (rl_cons (re_neg re_int.bo) rl_nil))) rl_nil))))))))))))).fr)
      (rss_one (rs_ret (re_ixN K (rb_var (pv 3)) (re_call c_law_draw hr hG (ra_tape (pv 0) (ra_cons re_int ra_nil))).bo)))) rss_nil)
      (rss_cons (rs_if (rt_cmp (op_eqN K hr.units) o_eq (rb_var (pv 1)) re_int.bo (nomark _)) (rss_cons (rs_setE (i := 4) nd rfl (by first | exact Or.inl rfl | exact Or.inr rfl) (re_call c_law_draw hr hG (ra_tape (pv 0) (ra_cons re_int ra_nil))))
      (rss_one (rs_ret (re_tup (rl_cons (re_sub (re_mul re_int.bo (rb_var (pv 4))).bo re_int.bo) (rl_cons (re_sub (re_mul re_int.bo (rb_var (pv 4))).bo re_int.bo) rl_nil)))))) rss_nil)
      (rss_cons (rs_if (rt_cmp (op_eqN K hr.units) o_eq (rb_var (pv 1)) re_int.bo (nomark _)) (rss_cons (rs_setE (i := 4) nd rfl (by first | exact Or.inl rfl | exact Or.inr rfl) (re_call c_law_draw hr hG (ra_tape (pv 0) (ra_cons re_int ra_nil))))
      (rss_one (rs_ret (re_tup (rl_cons (re_var (pv 4)) (rl_cons (re_ixN K (rn_lst (rl_cons (re_mul (rb_var (pv 4)) (re_sub re_int.bo (rb_var (pv 4))).bo) (rl_cons (re_sub re_int.bo (re_mul (rb_var (pv 4)) (re_sub re_int.bo (rb_var (pv 4))).bo).bo) rl_nil))).bo (re_call c_law_draw hr hG (ra_tape (pv 0) (ra_cons re_int ra_nil))).bo) rl_nil)))))) rss_nil)
      (rss_one (rs_ret (re_tup (rl_cons (re_mod (rb_var (pv 2)) re_int.bo) (rl_cons (re_div (rb_var (pv 2)) re_int.bo) rl_nil)))))))))))))
    exact ⟨_, D.ps, D.ev⟩
theorem ok_law_on_line {f : Addr} {fd : FuncData} (F : Fun K "_law_on_line" "_law_on_line" s_law_on_line f fd) (B : Bt mg)  : FnG P w K mg base CX0 1 f fd ["_law_some"] (spD LFD.m_law_on_line) :=
  fnD_of (k := 0) F sc_law_on_line fun cdv A ou s0 H hr hG => by
    have nd := sc_law_on_line.nd
    have D : RSs (cxOf CX0 P w K mg base ["_law_some", "_law_a", "_law_b", "_law_wide", "_law_high", "_law_c"] "_law_on_line" (defScope s_law_on_line) f cdv A ou s0 H E0).nox (defBody s_law_on_line) _ _ := (rss_cons (rs_asg (re_tup (rl_cons (re_calB (call_minLN K hr rfl) k_minL B.min (by decide +kernel) (rr_cons (rb_var (pv 0)) rr_nil)) (rl_cons (re_calB (call_maxLN K hr rfl) k_maxL B.max (by decide +kernel) (rr_cons (rb_var (pv 0)) rr_nil)) rl_nil))) (rg_seqN K (n := 2) rfl (rgs_cons' (rg_name (i := 1) nd rfl (by first | exact Or.inl rfl | exact Or.inr rfl)) (rgs_cons' (rg_name (i := 2) nd rfl (by first | exact Or.inl rfl | exact Or.inr rfl)) rgs_nil))))
      (rss_cons (rs_asg (re_tup (rl_cons (re_sub (re_ixN K (rb_var (pv 2)) re_int.bo).bo (re_ixN K (rb_var (pv 1)) re_int.bo).bo) (rl_cons (re_sub (re_ixN K (rb_var (pv 2)) re_int.bo).bo (re_ixN K (rb_var (pv 1)) re_int.bo).bo) rl_nil))) (rg_seqN K (n := 2) rfl (rgs_cons' (rg_name (i := 3) nd rfl (by first | exact Or.inl rfl | exact Or.inr rfl)) (rgs_cons' (rg_name (i := 4) nd rfl (by first | exact Or.inl rfl | exact Or.inr rfl)) rgs_nil))))
      (rss_one (rs_ret (re_cmp (op_eqN K hr.units) o_eq (rn_comp [("_law_c", 5)] rfl nd (ri_seqN K (re_var (pv 0))) (blkOk_by (N := ["_law_some", "_law_a", "_law_b", "_law_wide", "_law_high", "_law_c"]) (sc := defScope s_law_on_line) (by decide +kernel)) (fun _ _ _ _ _ => (rg_name (i := 5) nd rfl (by first | exact Or.inl rfl | exact Or.inr rfl))) (fun _ _ _ _ _ => (rts_one (rt_cmp (op_neN K hr.units) o_ne (re_mul (rb_var (pv 3)) (re_sub (re_ixN K (rb_var (pv 5)) re_int.bo).bo (re_ixN K (rb_var (pv 1)) re_int.bo).bo).bo).bo (re_mul (rb_var (pv 4)) (re_sub (re_ixN K (rb_var (pv 5)) re_int.bo).bo (re_ixN K (rb_var (pv 1)) re_int.bo).bo).bo).bo (nomark _)))) (fun _ _ _ _ _ => (re_var (pv 5)))).bo (rn_lst rl_nil).bo (nomark _))))))
    exact ⟨_, D.ps, D.ev⟩
theorem ok_law_field {f : Addr} {fd : FuncData} (F : Fun K "_law_field" "_law_field" s_law_field f fd) (B : Bt mg) (c_law_draw : Cee P w K mg base 1 "_law_draw" LFD.m_law_draw) (c_law_on_line : Cee P w K mg base 1 "_law_on_line" LFD.m_law_on_line) (c_law_spot : Cee P w K mg base 2 "_law_spot" LFD.m_law_spot) : FnG P w K mg base CX0 3 f fd ["_law_tape_here", "_law_most"] (spD LFD.m_law_field) :=
  fnD_of (k := 2) F sc_law_field fun cdv A ou s0 H hr hG => by
    have nd := sc_law_field.nd
    have D : RSs (cxOf CX0 P w K mg base ["_law_tape_here", "_law_most", "_law_kind", "_law_found", "_law_k", "_law_one", "_law_way", "_law_x", "_law_y"] "_law_field" (defScope s_law_field) f cdv A ou s0 H E0).nox (defBody s_law_field) _ _ := (rss_cons (rs_setE (i := 2) nd rfl (by first | exact Or.inl rfl | exact Or.inr rfl) (re_call c_law_draw hr hG (ra_tape (pv 0) (ra_cons re_int ra_nil))))
      (rss_cons (rs_ownE (i := 3) nd rfl (by first | exact Or.inl rfl | exact Or.inr rfl) (rn_lst rl_nil))
      (rss_cons (rs_for PassesOwn.never rfl (ri_rg1 B.range (rr_cons (re_addN K re_int.bo (re_call c_law_draw hr hG (ra_tape (pv 0) (ra_cons (re_sub (rb_var (pv 1)) re_int.bo) ra_nil))).bo).bo rr_nil)) (rg_name (i := 4) nd rfl (by first | exact Or.inl rfl | exact Or.inr rfl)) (rss_cons (rs_setE (i := 5) nd rfl (by first | exact Or.inl rfl | exact Or.inr rfl) (re_call c_law_spot hr hG (ra_tape (pv 0) (ra_cons (re_var (pv 2)) (ra_cons (re_var (pv 4)) ra_nil)))))
      (rss_one (rs_if (rt_cmp (op_ninX K hr) o_ninX (rb_var (pv 5)) (rb_var (pv 3)) rfl) (rss_one (rs_appE (pv 3) (re_var (pv 5)))) rss_nil))))
      (rss_cons (rs_if (rt_cmp (op_eqN K hr.units) o_eq (re_call c_law_draw hr hG (ra_tape (pv 0) (ra_cons re_int ra_nil))).bo re_int.bo (nomark _)) (rss_one (rs_setIE (pv 3) (re_call c_law_draw hr hG (ra_tape (pv 0) (ra_cons (re_calB (call_lenN K) k_len B.len (by decide +kernel) (rr_cons (rb_var (pv 3)) rr_nil)) ra_nil))).bo (re_tup (rl_cons (re_sub (re_call c_law_draw hr hG (ra_tape (pv 0) (ra_cons re_int ra_nil))).bo re_int.bo) (rl_cons (re_sub (re_call c_law_draw hr hG (ra_tape (pv 0) (ra_cons re_int ra_nil))).bo re_int.bo) rl_nil))) (pg_sub (pv 3) ((re_call c_law_draw hr hG (ra_tape (pv 0) (ra_cons (re_calB (call_lenN K) k_len B.len (by decide +kernel) (rr_cons (rb_var (pv 3)) rr_nil)) ra_nil))).bo).pe set_list))) rss_nil)
      (rss_cons (rs_setE (i := 6) nd rfl (by first | exact Or.inl rfl | exact Or.inr rfl) (re_call c_law_draw hr hG (ra_tape (pv 0) (ra_cons re_int ra_nil))))
      (rss_cons (rs_if (rt_cmp (op_gtD K hr.units) o_gtD (rb_var (pv 6)) re_int.bo (nomark _)) (rss_one (RS.frz 3 (rs_ownC (i := 3) [("_law_x", 7), ("_law_y", 8)] rfl nd rfl rfl (sw_true rfl rfl rfl (by decide +kernel)) (ri_seqN K (re_var (pv 3))) (blkOk_by (N := ["_law_tape_here", "_law_most", "_law_kind", "_law_found", "_law_k", "_law_one", "_law_way", "_law_x", "_law_y"]) (sc := defScope s_law_field) (by decide +kernel)) (fun _ _ _ _ _ => (rg_seqN K (n := 2) rfl (rgs_cons' (rg_name (i := 7) nd rfl (by first | exact Or.inl rfl | exact Or.inr rfl)) (rgs_cons' (rg_name (i := 8) nd rfl (by first | exact Or.inl rfl | exact Or.inr rfl)) rgs_nil)))) (fun _ _ _ _ _ => rts_nil) (fun _ _ _ _ _ => (re_tup (rl_cons (re_var (pv 8)) (rl_cons (re_var (pv 7)) rl_nil))))))) rss_nil)
      (rss_cons (rs_if (rt_cmp (op_eqN K hr.units) o_eq (re_mod (rb_var (pv 6)) re_int.bo).bo re_int.bo (nomark _)) (rss_one (RS.frz 3 (rs_ownC (i := 3) [("_law_x", 7), ("_law_y", 8)] rfl nd rfl rfl (sw_true rfl rfl rfl (by decide +kernel)) (ri_seqN K (re_var (pv 3))) (blkOk_by (N := ["_law_tape_here", "_law_most", "_law_kind", "_law_found", "_law_k", "_law_one", "_law_way", "_law_x", "_law_y"]) (sc := defScope s_law_field) (by decide +kernel)) (fun _ _ _ _ _ => (rg_seqN K (n := 2) rfl (rgs_cons' (rg_name (i := 7) nd rfl (by first | exact Or.inl rfl | exact Or.inr rfl)) (rgs_cons' (rg_name (i := 8) nd rfl (by first | exact Or.inl rfl | exact Or.inr rfl)) rgs_nil)))) (fun _ _ _ _ _ => rts_nil) (fun _ _ _ _ _ => (re_tup (rl_cons (re_sub re_int.bo (rb_var (pv 7))) (rl_cons (re_var (pv 8)) rl_nil))))))) rss_nil)
      (rss_cons (rs_if (rt_cmp (op_eqN K hr.units) o_eq (re_call c_law_draw hr hG (ra_tape (pv 0) (ra_cons re_int ra_nil))).bo re_int.bo (nomark _)) (rss_one (rs_setIE (pv 3) re_int.bo (re_tup (rl_cons (re_mul re_int.bo (re_ixN K (rn_lst (rl_cons re_int (rl_cons (re_neg re_int.bo) rl_nil))).bo (re_call c_law_draw hr hG (ra_tape (pv 0) (ra_cons re_int ra_nil))).bo).bo) (rl_cons (re_mul re_int.bo (re_ixN K (rn_lst (rl_cons re_int (rl_cons (re_neg re_int.bo) rl_nil))).bo (re_call c_law_draw hr hG (ra_tape (pv 0) (ra_cons re_int ra_nil))).bo).bo) rl_nil))) (pg_sub (pv 3) (re_int.bo).pe set_list))) rss_nil)
      (rss_cons (rs_for PassesOwn.never rfl (ri_seqN K (rn_lst (rl_cons (re_tup (rl_cons re_int (rl_cons re_int rl_nil))) (rl_cons (re_tup (rl_cons re_int (rl_cons re_int rl_nil))) (rl_cons (re_tup (rl_cons re_int (rl_cons (re_neg re_int.bo) rl_nil))) (rl_cons (re_tup (rl_cons re_int (rl_cons re_int rl_nil))) rl_nil))))).fr) (rg_name (i := 5) nd rfl (by first | exact Or.inl rfl | exact Or.inr rfl)) (rss_one (RS.frz 3 (rs_if (rw_or (rt_cmp (op_ltD K hr.units) o_ltD (re_lenSet hr rfl B.len B.set (rb_var (pv 3))).bo re_int.bo (nomark _)) (rw_or1 (rt_val (re_call c_law_on_line hr hG (ra_cons (re_var (pv 3)) ra_nil))))).te (rss_one (rs_setE (i := 3) nd rfl (by first | exact Or.inl rfl | exact Or.inr rfl) (re_addN K (re_cutN K (rn_sortSet hr rfl B.sorted B.set (rb_var (pv 3))).bo ro_none (ro_some (re_sub (rb_var (pv 1)) re_int.bo).bo)).bo (rn_lst (rl_cons (re_var (pv 5)) rl_nil)).bo))) rss_nil))))
      (rss_one (rs_ret (re_calT (call_tupleN K) k_tuple B.tuple (by decide +kernel) (rr_cons (rn_sortSet hr rfl B.sorted B.set (rb_var (pv 3))).bo rr_nil)))))))))))))
    exact ⟨_, D.ps, D.ev⟩
theorem ok_law_second {f : Addr} {fd : FuncData} (F : Fun K "_law_second" "_law_second" s_law_second f fd) (B : Bt mg) (c_law_draw : Cee P w K mg base 1 "_law_draw" LFD.m_law_draw) (c_law_field : Cee P w K mg base 3 "_law_field" LFD.m_law_field) (c_law_on_line : Cee P w K mg base 1 "_law_on_line" LFD.m_law_on_line) : FnG P w K mg base CX0 4 f fd ["_law_tape_here", "_law_field_here"] (spD LK15.m_law_second) :=
  fnD_of (k := 3) F sc_law_second fun cdv A ou s0 H hr hG => by
    have nd := sc_law_second.nd
    have D : RSs (cxOf CX0 P w K mg base ["_law_tape_here", "_law_field_here", "_law_way", "_law_x", "_law_moved", "_law_one", "_law_at", "_law_found"] "_law_second" (defScope s_law_second) f cdv A ou s0 H E0).nox (defBody s_law_second) _ _ := (rss_cons (rs_setE (i := 2) nd rfl (by first | exact Or.inl rfl | exact Or.inr rfl) (re_call c_law_draw hr hG (ra_tape (pv 0) (ra_cons re_int ra_nil))))
      (rss_cons (rs_if (rt_cmp (op_eqN K hr.units) o_eq (rb_var (pv 2)) re_int.bo (nomark _)) (rss_one (rs_ret (re_call c_law_field hr hG (ra_tape (pv 0) (ra_cons re_int ra_nil))))) rss_nil)
      (rss_cons (rs_if (rt_cmp (op_eqN K hr.units) o_eq (rb_var (pv 2)) re_int.bo (nomark _)) (rss_cons (rs_setE (i := 3) nd rfl (by first | exact Or.inl rfl | exact Or.inr rfl) (re_ifx (rt_cmp (op_ltD K hr.units) o_ltD (re_ixN K (re_ixN K (rb_var (pv 1)) (re_neg re_int.bo).bo).bo re_int.bo).bo re_int.bo (nomark _)) re_int (re_neg re_int.bo)))
      (rss_cons (rs_setE (i := 4) nd rfl (by first | exact Or.inl rfl | exact Or.inr rfl) (re_calT (call_tupleN K) k_tuple B.tuple (by decide +kernel) (rr_cons (rn_comp [("_law_one", 5)] rfl nd (ri_seqN K (re_var (pv 1))) (blkOk_by (N := ["_law_tape_here", "_law_field_here", "_law_way", "_law_x", "_law_moved", "_law_one", "_law_at", "_law_found"]) (sc := defScope s_law_second) (by decide +kernel)) (fun _ _ _ _ _ => (rg_name (i := 5) nd rfl (by first | exact Or.inl rfl | exact Or.inr rfl))) (fun _ _ _ _ _ => rts_nil) (fun _ _ _ _ _ => (re_tup (rl_cons (re_addN K (re_ixN K (rb_var (pv 5)) re_int.bo).bo (rb_var (pv 3))) (rl_cons (re_ixN K (rb_var (pv 5)) re_int.bo) rl_nil))))).bo rr_nil)))
      (rss_one (rs_ret (re_ifx (rt_cmp (op_geD K hr.units) o_geD (re_ixN K (re_calB (call_minTN K hr rfl) k_minT B.min (by decide +kernel) (rr_cons (rb_var (pv 4)) rr_nil)).bo re_int.bo).bo (re_neg re_int.bo).bo (nomark _)) (re_var (pv 4)) (re_var (pv 1))))))) rss_nil)
      (rss_cons (rs_setE (i := 6) nd rfl (by first | exact Or.inl rfl | exact Or.inr rfl) (re_call c_law_draw hr hG (ra_tape (pv 0) (ra_cons (re_calB (call_lenN K) k_len B.len (by decide +kernel) (rr_cons (rb_var (pv 1)) rr_nil)) ra_nil))))
      (rss_cons (rs_setE (i := 7) nd rfl (by first | exact Or.inl rfl | exact Or.inr rfl) (rn_sortSetT hr rfl B.sorted B.set (re_addN K (re_addN K (re_cutN K (rb_var (pv 1)) ro_none (ro_some (rb_var (pv 6)))).bo (re_cutN K (rb_var (pv 1)) (ro_some (re_addN K (rb_var (pv 6)) re_int.bo).bo) ro_none).bo).bo (re_tup (rl_cons (re_tup (rl_cons (re_call c_law_draw hr hG (ra_tape (pv 0) (ra_cons re_int ra_nil))) (rl_cons (re_call c_law_draw hr hG (ra_tape (pv 0) (ra_cons re_int ra_nil))) rl_nil))) rl_nil)).bo).bo).fr)
      (rss_one (rs_ret (re_ifx (rw_or (rt_cmp (op_ltD K hr.units) o_ltD (re_calB (call_lenN K) k_len B.len (by decide +kernel) (rr_cons (rb_var (pv 7)) rr_nil)).bo re_int.bo (nomark _)) (rw_or1 (rt_val (re_call c_law_on_line hr hG (ra_cons (re_var (pv 7)) ra_nil))))).te (re_var (pv 1)) (re_calT (call_tupleN K) k_tuple B.tuple (by decide +kernel) (rr_cons (rb_var (pv 7)) rr_nil))))))))))
    exact ⟨_, D.ps, D.ev⟩
theorem ok_law_asked {f : Addr} {fd : FuncData} (F : Fun K "_law_asked" "_law_asked" s_law_asked f fd) (B : Bt mg) (c_crossing : Cee P w K mg base 6 "crossing" LP2.m_crossing) (c_hull : Cee P w K mg base 5 "hull" LPR.m_hull) (c_hull_area : Cee P w K mg base 6 "hull_area" LPR.m_hull_area) (c_least_corner : Cee P w K mg base 4 "least_corner" LPR.m_least_corner) (c_lower : Cee P w K mg base 4 "lower" LPR.m_lower) (c_ties : Cee P w K mg base 5 "ties" LPR.m_ties) (c_triangles : Cee P w K mg base 6 "triangles" LPR.m_triangles) (c_upper : Cee P w K mg base 4 "upper" LPR.m_upper) : FnG P w K mg base CX0 7 f fd ["_law_way", "_law_field_here"] (spD LK15.m_law_asked) :=
  fnD_of (k := 6) F sc_law_asked fun cdv A ou s0 H hr hG => by
    have nd := sc_law_asked.nd
    have D : RSs (cxOf CX0 P w K mg base ["_law_way", "_law_field_here", "_law_some", "_law_one"] "_law_asked" (defScope s_law_asked) f cdv A ou s0 H E0).nox (defBody s_law_asked) _ _ := (rss_cons (rs_if (rt_cmp (op_eqN K hr.units) o_eq (rb_var (pv 0)) re_int.bo (nomark _)) (rss_one (rs_ret (re_call c_hull hr hG (ra_cons (re_var (pv 1)) ra_nil)))) rss_nil)
      (rss_cons (rs_if (rt_cmp (op_eqN K hr.units) o_eq (rb_var (pv 0)) re_int.bo (nomark _)) (rss_one (rs_ret (re_call c_hull_area hr hG (ra_cons (re_var (pv 1)) ra_nil)))) rss_nil)
      (rss_cons (rs_if (rt_cmp (op_eqN K hr.units) o_eq (rb_var (pv 0)) re_int.bo (nomark _)) (rss_one (rs_ret (re_call c_lower hr hG (ra_cons (re_var (pv 1)) ra_nil)))) rss_nil)
      (rss_cons (rs_if (rt_cmp (op_eqN K hr.units) o_eq (rb_var (pv 0)) re_int.bo (nomark _)) (rss_one (rs_ret (re_call c_upper hr hG (ra_cons (re_var (pv 1)) ra_nil)))) rss_nil)
      (rss_cons (rs_if (rt_cmp (op_eqN K hr.units) o_eq (rb_var (pv 0)) re_int.bo (nomark _)) (rss_one (rs_ret (re_call c_ties hr hG (ra_cons (re_var (pv 1)) ra_nil)))) rss_nil)
      (rss_cons (rs_if (rt_cmp (op_eqN K hr.units) o_eq (rb_var (pv 0)) re_int.bo (nomark _)) (rss_one (rs_ret (re_call c_triangles hr hG (ra_cons (re_var (pv 1)) ra_nil)))) rss_nil)
      (rss_cons (rs_if (rt_cmp (op_inX K hr) o_inX (rb_var (pv 0)) (re_tup (rl_cons re_int (rl_cons re_int rl_nil))).bo rfl) (rss_cons (rs_setE (i := 2) nd rfl (by first | exact Or.inl rfl | exact Or.inr rfl) (re_call c_ties hr hG (ra_cons (re_var (pv 1)) ra_nil)))
      (rss_one (rs_ret (re_call c_crossing hr hG (ra_cons (re_var (pv 1)) (ra_cons (re_ixN K (rb_var (pv 2)) (re_div (re_sub (re_addN K (re_calB (call_lenN K) k_len B.len (by decide +kernel) (rr_cons (rb_var (pv 2)) rr_nil)).bo (rb_var (pv 0))).bo re_int.bo).bo re_int.bo).bo) ra_nil)))))) rss_nil)
      (rss_one (rs_ret (re_calT (call_tupleN K) k_tuple B.tuple (by decide +kernel) (rr_cons (rn_comp [("_law_one", 3)] rfl nd (ri_seqN K (re_call c_triangles hr hG (ra_cons (re_var (pv 1)) ra_nil))) (blkOk_by (N := ["_law_way", "_law_field_here", "_law_some", "_law_one"]) (sc := defScope s_law_asked) (by decide +kernel)) (fun _ _ _ _ _ => (rg_name (i := 3) nd rfl (by first | exact Or.inl rfl | exact Or.inr rfl))) (fun _ _ _ _ _ => rts_nil) (fun _ _ _ _ _ => (re_call c_least_corner hr hG (ra_cons (re_var (pv 3)) ra_nil)))).bo rr_nil)))))))))))
    exact ⟨_, D.ps, D.ev⟩
theorem ok_law_again_right {f : Addr} {fd : FuncData} (F : Fun K "_law_again_right" "_law_again_right" s_law_again_right f fd) (B : Bt mg) (c_is_tie : Cee P w K mg base 5 "is_tie" LP2.m_is_tie) (c_is_triangle : Cee P w K mg base 5 "is_triangle" LPR.m_is_triangle) (c_ties : Cee P w K mg base 5 "ties" LPR.m_ties) (c_triangles : Cee P w K mg base 6 "triangles" LPR.m_triangles) : FnG P w K mg base CX0 7 f fd ["_law_field_here", "_law_other"] (spD LK15.m_law_again_right) :=
  fnD_of (k := 6) F sc_law_again_right fun cdv A ou s0 H hr hG => by
    have nd := sc_law_again_right.nd
    have D : RSs (cxOf CX0 P w K mg base ["_law_field_here", "_law_other", "_law_some", "_law_told", "_law_tie", "_law_three"] "_law_again_right" (defScope s_law_again_right) f cdv A ou s0 H E0).nox (defBody s_law_again_right) _ _ := (rss_cons (rs_par (i := 2) (j := 3) rfl nd rfl rfl (by decide) rfl rfl (rl_cons (re_call c_ties hr hG (ra_cons (re_var (pv 1)) ra_nil)) (rl_cons (re_call c_triangles hr hG (ra_cons (re_var (pv 1)) ra_nil)) rl_nil)))
      (rss_cons (rs_for PassesOwn.never rfl (ri_seqN K (re_call c_ties hr hG (ra_cons (re_var (pv 0)) ra_nil))) (rg_name (i := 4) nd rfl (by first | exact Or.inl rfl | exact Or.inr rfl)) (rss_one (rs_if (rw_or (rt_cmp (op_neN K hr.units) o_ne (re_calB (call_reprX K hr hG) k_reprX B.repr (by decide +kernel) (rr_cons (re_call c_is_tie hr hG (ra_cons (re_var (pv 0)) (ra_cons (re_var (pv 4)) ra_nil))).bo rr_nil)).bo (re_calB (call_reprX K hr hG) k_reprX B.repr (by decide +kernel) (rr_cons re_bl.bo rr_nil)).bo (nomark _)) (rw_or1 (rt_cmp (op_neN K hr.units) o_ne (re_calB (call_reprX K hr hG) k_reprX B.repr (by decide +kernel) (rr_cons (re_call c_is_tie hr hG (ra_cons (re_var (pv 1)) (ra_cons (re_var (pv 4)) ra_nil))).bo rr_nil)).bo (re_calB (call_reprX K hr hG) k_reprX B.repr (by decide +kernel) (rr_cons (re_cmp (op_inX K hr) o_inX (rb_var (pv 4)) (rb_var (pv 2)) rfl).bo rr_nil)).bo (nomark _)))).te (rss_one (rs_ret re_bl)) rss_nil)))
      (rss_cons (rs_for PassesOwn.never rfl (ri_seqN K (re_call c_triangles hr hG (ra_cons (re_var (pv 0)) ra_nil))) (rg_name (i := 5) nd rfl (by first | exact Or.inl rfl | exact Or.inr rfl)) (rss_one (rs_if (rw_or (rt_cmp (op_neN K hr.units) o_ne (re_calB (call_reprX K hr hG) k_reprX B.repr (by decide +kernel) (rr_cons (re_call c_is_triangle hr hG (ra_cons (re_var (pv 0)) (ra_cons (re_var (pv 5)) ra_nil))).bo rr_nil)).bo (re_calB (call_reprX K hr hG) k_reprX B.repr (by decide +kernel) (rr_cons re_bl.bo rr_nil)).bo (nomark _)) (rw_or1 (rt_cmp (op_neN K hr.units) o_ne (re_calB (call_reprX K hr hG) k_reprX B.repr (by decide +kernel) (rr_cons (re_call c_is_triangle hr hG (ra_cons (re_var (pv 1)) (ra_cons (re_var (pv 5)) ra_nil))).bo rr_nil)).bo (re_calB (call_reprX K hr hG) k_reprX B.repr (by decide +kernel) (rr_cons (re_cmp (op_inX K hr) o_inX (rb_var (pv 5)) (rb_var (pv 3)) rfl).bo rr_nil)).bo (nomark _)))).te (rss_one (rs_ret re_bl)) rss_nil)))
      (rss_one (rs_ret re_bl)))))
    exact ⟨_, D.ps, D.ev⟩
theorem ok_law {f : Addr} {fd : FuncData} (F : Fun K "law" "law" s_law f fd) (B : Bt mg) (c_law_again_right : Cee P w K mg base 7 "_law_again_right" LK15.m_law_again_right) (c_law_asked : Cee P w K mg base 7 "_law_asked" LK15.m_law_asked) (c_law_draw : Cee P w K mg base 1 "_law_draw" LFD.m_law_draw) (c_law_field : Cee P w K mg base 3 "_law_field" LFD.m_law_field) (c_law_second : Cee P w K mg base 4 "_law_second" LK15.m_law_second) (c_tape : CeeT P w K mg base 1 "_law_tape" 0)
    (law : ∀ ns : List Int, ns.length ≤ 63 → ∃ t1, b_law (.un :: .tp :: List.replicate 9 .un) ⟨0, ns, 0, 0, 0⟩ = some (.rt (.bool true), t1)) : FnG P w K mg base CX0 8 f fd ["_law_script"] (spLaw K) := by
  refine fnL_of (k := 7) (b := b_law) F sc_law (fun cdv A ou s0 H hr hG => ?_) law
  have nd := sc_law.nd
  have D : RSs (cxOf CX0 P w K mg base ["_law_script", "_law_tape_here", "_law_one", "_law_some", "_law_kept", "_law_told", "_law_way", "_law_field_here", "_law_turn", "_law_at", "_law_again"] "law" (defScope s_law) f cdv A ou s0 H E0).nox (defBody s_law).tail _ b_law := (rss_cons (rs_setE (i := 2) nd rfl (by first | exact Or.inl rfl | exact Or.inr rfl) (re_call c_law_field hr hG (ra_tape (pv 1) (ra_cons re_int ra_nil))))
      (rss_cons (rs_setE (i := 3) nd rfl (by first | exact Or.inl rfl | exact Or.inr rfl) (rn_lst (rl_cons (re_var (pv 2)) (rl_cons (re_call c_law_second hr hG (ra_tape (pv 1) (ra_cons (re_var (pv 2)) ra_nil))) rl_nil))).fr)
      (rss_cons (rs_setE (i := 4) nd rfl (by first | exact Or.inl rfl | exact Or.inr rfl) (re_calB (call_reprX K hr hG) k_reprX B.repr (by decide +kernel) (rr_cons (rb_var (pv 3)) rr_nil)))
      (rss_cons (rs_setC (i := 5) [("_law_field_here", 7)] rfl nd rfl rfl (sw_true rfl rfl rfl (by decide +kernel)) (ri_seqN K (re_var (pv 3))) (blkOk_by (N := ["_law_script", "_law_tape_here", "_law_one", "_law_some", "_law_kept", "_law_told", "_law_way", "_law_field_here", "_law_turn", "_law_at", "_law_again"]) (sc := defScope s_law) (by decide +kernel)) (fun _ _ _ _ _ => (rg_name (i := 7) nd rfl (by first | exact Or.inl rfl | exact Or.inr rfl))) (fun _ _ _ _ _ => rts_nil) (fun _ _ _ _ _ => (rn_comp [("_law_way", 6)] rfl nd (ri_rg1 B.range (rr_cons re_int.bo rr_nil)) (blkOk_by (by rfl)) (fun _ _ _ _ _ => (rg_name (i := 6) nd rfl (by first | exact Or.inl rfl | exact Or.inr rfl))) (fun _ _ _ _ _ => rts_nil) (fun _ _ _ _ _ => (re_calB (call_reprX K hr hG) k_reprX B.repr (by decide +kernel) (rr_cons (re_call c_law_asked hr hG (ra_cons (re_var (pv 6)) (ra_cons (re_var (pv 7)) ra_nil))).bo rr_nil)))).fr))
      (rss_cons (rs_for PassesOwn.never rfl (ri_rg1 B.range (rr_cons re_int.bo rr_nil)) (rg_name (i := 8) nd rfl (by first | exact Or.inl rfl | exact Or.inr rfl)) (rss_cons (rs_par (i := 9) (j := 6) rfl nd rfl rfl (by decide) rfl rfl (rl_cons (re_mod (re_addN K (rb_var (pv 8)) (re_call c_law_draw hr hG (ra_tape (pv 1) (ra_cons re_int ra_nil))).bo).bo re_int.bo) (rl_cons (re_call c_law_draw hr hG (ra_tape (pv 1) (ra_cons re_int ra_nil))) rl_nil)))
      (rss_cons (rs_setE (i := 10) nd rfl (by first | exact Or.inl rfl | exact Or.inr rfl) (re_call c_law_asked hr hG (ra_cons (re_var (pv 6)) (ra_cons (re_ixN K (rb_var (pv 3)) (rb_var (pv 9))) ra_nil))))
      (rss_one (rs_if (rw_or (rt_cmp (op_neN K hr.units) o_ne (re_calB (call_reprX K hr hG) k_reprX B.repr (by decide +kernel) (rr_cons (rb_var (pv 10)) rr_nil)).bo (re_ixN K (re_ixN K (rb_var (pv 5)) (rb_var (pv 9))).bo (rb_var (pv 6))).bo (nomark _)) (rw_or1 (rt_cmp (op_eqN K hr.units) o_eq (re_isiN K (y := .tuple) B.isinstance B.tuple (by decide +kernel) (rb_var (pv 10))).bo (re_cmp (op_eqN K hr.units) o_eq (rb_var (pv 6)) re_int.bo (nomark _)).bo (nomark _)))).te (rss_one (rs_ret re_bl)) rss_nil)))))
      (rss_cons (rs_if (rw_or (rt_not (rt_val (re_call c_law_again_right hr hG (ra_cons (re_ixN K (rb_var (pv 3)) re_int.bo) (ra_cons (re_ixN K (rb_var (pv 3)) re_int.bo) ra_nil))))) (rw_or1 (rt_not (rt_val (re_call c_law_again_right hr hG (ra_cons (re_ixN K (rb_var (pv 3)) re_int.bo) (ra_cons (re_ixN K (rb_var (pv 3)) re_int.bo) ra_nil))))))).te (rss_one (rs_ret re_bl)) rss_nil)
      (rss_one (rs_ret (re_cmp (op_eqN K hr.units) o_eq (re_calB (call_reprX K hr hG) k_reprX B.repr (by decide +kernel) (rr_cons (rb_var (pv 3)) rr_nil)).bo (rb_var (pv 4)) (nomark _))))))))))
  exact ⟨_, pss_cons (ps_tape c_tape hr hG (by decide) (pv 0) nd rfl (by first | exact Or.inl rfl | exact Or.inr rfl) (by rfl) (by decide) rfl rfl rfl (by first | exact .inl rfl | exact .inr rfl)) D.ps, D.ev⟩
end
theorem all_mk {l : PySem.W.OpenLaw} {w : World} {K : PySem.W.Frag} {h : Heap} {mg : Str → Option Value} {fa f0 f1 f2 f3 f4 f5 f6 f7 f8 f9 f10 f11 f12 f13 f14 f15 f16 f17 f18 f19 f20 f21 f22 f23 f24 f25 f26 f27 f28 f29 f30 f31 f32 f33 f34 : Addr} (X : K.In h) (G : h.Ns mainGlobals mg) (hfa : mg "law" = some (.ref fa))
    {od0 an0 : Option Addr} {sl0 : Array (Option Value)} {oc0 kV0 dc0 pm0 cd0 ct0 : Value}
    {od1 an1 : Option Addr} {sl1 : Array (Option Value)} {oc1 kV1 dc1 pm1 cd1 ct1 : Value}
    {od2 an2 : Option Addr} {sl2 : Array (Option Value)} {oc2 kV2 dc2 pm2 cd2 ct2 : Value}
    {od3 an3 : Option Addr} {sl3 : Array (Option Value)} {oc3 kV3 dc3 pm3 cd3 ct3 : Value}
    {od4 an4 : Option Addr} {sl4 : Array (Option Value)} {oc4 kV4 dc4 pm4 cd4 ct4 : Value}
    {od5 an5 : Option Addr} {sl5 : Array (Option Value)} {oc5 kV5 dc5 pm5 cd5 ct5 : Value}
    {od6 an6 : Option Addr} {sl6 : Array (Option Value)} {oc6 kV6 dc6 pm6 cd6 ct6 : Value}
    {od7 an7 : Option Addr} {sl7 : Array (Option Value)} {oc7 kV7 dc7 pm7 cd7 ct7 : Value}
    {od8 an8 : Option Addr} {sl8 : Array (Option Value)} {oc8 kV8 dc8 pm8 cd8 ct8 : Value}
    {od9 an9 : Option Addr} {sl9 : Array (Option Value)} {oc9 kV9 dc9 pm9 cd9 ct9 : Value}
    {od10 an10 : Option Addr} {sl10 : Array (Option Value)} {oc10 kV10 dc10 pm10 cd10 ct10 : Value}
    {od11 an11 : Option Addr} {sl11 : Array (Option Value)} {oc11 kV11 dc11 pm11 cd11 ct11 : Value}
    {od12 an12 : Option Addr} {sl12 : Array (Option Value)} {oc12 kV12 dc12 pm12 cd12 ct12 : Value}
    {od13 an13 : Option Addr} {sl13 : Array (Option Value)} {oc13 kV13 dc13 pm13 cd13 ct13 : Value}
    {od14 an14 : Option Addr} {sl14 : Array (Option Value)} {oc14 kV14 dc14 pm14 cd14 ct14 : Value}
    {od15 an15 : Option Addr} {sl15 : Array (Option Value)} {oc15 kV15 dc15 pm15 cd15 ct15 : Value}
    {od16 an16 : Option Addr} {sl16 : Array (Option Value)} {oc16 kV16 dc16 pm16 cd16 ct16 : Value}
    {od17 an17 : Option Addr} {sl17 : Array (Option Value)} {oc17 kV17 dc17 pm17 cd17 ct17 : Value}
    {od18 an18 : Option Addr} {sl18 : Array (Option Value)} {oc18 kV18 dc18 pm18 cd18 ct18 : Value}
    {od19 an19 : Option Addr} {sl19 : Array (Option Value)} {oc19 kV19 dc19 pm19 cd19 ct19 : Value}
    {od20 an20 : Option Addr} {sl20 : Array (Option Value)} {oc20 kV20 dc20 pm20 cd20 ct20 : Value}
    {od21 an21 : Option Addr} {sl21 : Array (Option Value)} {oc21 kV21 dc21 pm21 cd21 ct21 : Value}
    {od22 an22 : Option Addr} {sl22 : Array (Option Value)} {oc22 kV22 dc22 pm22 cd22 ct22 : Value}
    {od23 an23 : Option Addr} {sl23 : Array (Option Value)} {oc23 kV23 dc23 pm23 cd23 ct23 : Value}
    {od24 an24 : Option Addr} {sl24 : Array (Option Value)} {oc24 kV24 dc24 pm24 cd24 ct24 : Value}
    {od25 an25 : Option Addr} {sl25 : Array (Option Value)} {oc25 kV25 dc25 pm25 cd25 ct25 : Value}
    {od26 an26 : Option Addr} {sl26 : Array (Option Value)} {oc26 kV26 dc26 pm26 cd26 ct26 : Value}
    {od27 an27 : Option Addr} {sl27 : Array (Option Value)} {oc27 kV27 dc27 pm27 cd27 ct27 : Value}
    {od28 an28 : Option Addr} {sl28 : Array (Option Value)} {oc28 kV28 dc28 pm28 cd28 ct28 : Value}
    {od29 an29 : Option Addr} {sl29 : Array (Option Value)} {oc29 kV29 dc29 pm29 cd29 ct29 : Value}
    {od30 an30 : Option Addr} {sl30 : Array (Option Value)} {oc30 kV30 dc30 pm30 cd30 ct30 : Value}
    {od31 an31 : Option Addr} {sl31 : Array (Option Value)} {oc31 kV31 dc31 pm31 cd31 ct31 : Value}
    {od32 an32 : Option Addr} {sl32 : Array (Option Value)} {oc32 kV32 dc32 pm32 cd32 ct32 : Value}
    {od33 an33 : Option Addr} {sl33 : Array (Option Value)} {oc33 kV33 dc33 pm33 cd33 ct33 : Value}
    {od34 an34 : Option Addr} {sl34 : Array (Option Value)} {oc34 kV34 dc34 pm34 cd34 ct34 : Value}
    (a0 : PySem.W.nsIn K mainGlobals "is_number" = some (some (.ref f0))) (l0 : K.lookup f0 = some ⟨oc0, od0, .func (PySem.W.fnOf "is_number" "is_number" (defArgs s_is_number) (defBody s_is_number) (defScope s_is_number) .none kV0 dc0 pm0 an0 cd0 ct0), sl0⟩) (c0 : PySem.W.codeIn K cd0 "is_number" = true) (k0 : PySem.W.keepIn K (.ref f0) = true)
    (a1 : PySem.W.nsIn K mainGlobals "common_divisor" = some (some (.ref f1))) (l1 : K.lookup f1 = some ⟨oc1, od1, .func (PySem.W.fnOf "common_divisor" "common_divisor" (defArgs s_common_divisor) (defBody s_common_divisor) (defScope s_common_divisor) .none kV1 dc1 pm1 an1 cd1 ct1), sl1⟩) (c1 : PySem.W.codeIn K cd1 "common_divisor" = true) (k1 : PySem.W.keepIn K (.ref f1) = true)
    (a2 : PySem.W.nsIn K mainGlobals "fraction" = some (some (.ref f2))) (l2 : K.lookup f2 = some ⟨oc2, od2, .func (PySem.W.fnOf "fraction" "fraction" (defArgs s_fraction) (defBody s_fraction) (defScope s_fraction) .none kV2 dc2 pm2 an2 cd2 ct2), sl2⟩) (c2 : PySem.W.codeIn K cd2 "fraction" = true) (k2 : PySem.W.keepIn K (.ref f2) = true)
    (a3 : PySem.W.nsIn K mainGlobals "less" = some (some (.ref f3))) (l3 : K.lookup f3 = some ⟨oc3, od3, .func (PySem.W.fnOf "less" "less" (defArgs s_less) (defBody s_less) (defScope s_less) .none kV3 dc3 pm3 an3 cd3 ct3), sl3⟩) (c3 : PySem.W.codeIn K cd3 "less" = true) (k3 : PySem.W.keepIn K (.ref f3) = true)
    (a4 : PySem.W.nsIn K mainGlobals "is_point" = some (some (.ref f4))) (l4 : K.lookup f4 = some ⟨oc4, od4, .func (PySem.W.fnOf "is_point" "is_point" (defArgs s_is_point) (defBody s_is_point) (defScope s_is_point) .none kV4 dc4 pm4 an4 cd4 ct4), sl4⟩) (c4 : PySem.W.codeIn K cd4 "is_point" = true) (k4 : PySem.W.keepIn K (.ref f4) = true)
    (a5 : PySem.W.nsIn K mainGlobals "turning" = some (some (.ref f5))) (l5 : K.lookup f5 = some ⟨oc5, od5, .func (PySem.W.fnOf "turning" "turning" (defArgs s_turning) (defBody s_turning) (defScope s_turning) .none kV5 dc5 pm5 an5 cd5 ct5), sl5⟩) (c5 : PySem.W.codeIn K cd5 "turning" = true) (k5 : PySem.W.keepIn K (.ref f5) = true)
    (a6 : PySem.W.nsIn K mainGlobals "side" = some (some (.ref f6))) (l6 : K.lookup f6 = some ⟨oc6, od6, .func (PySem.W.fnOf "side" "side" (defArgs s_side) (defBody s_side) (defScope s_side) .none kV6 dc6 pm6 an6 cd6 ct6), sl6⟩) (c6 : PySem.W.codeIn K cd6 "side" = true) (k6 : PySem.W.keepIn K (.ref f6) = true)
    (a7 : PySem.W.nsIn K mainGlobals "area" = some (some (.ref f7))) (l7 : K.lookup f7 = some ⟨oc7, od7, .func (PySem.W.fnOf "area" "area" (defArgs s_area) (defBody s_area) (defScope s_area) .none kV7 dc7 pm7 an7 cd7 ct7), sl7⟩) (c7 : PySem.W.codeIn K cd7 "area" = true) (k7 : PySem.W.keepIn K (.ref f7) = true)
    (a8 : PySem.W.nsIn K mainGlobals "corner" = some (some (.ref f8))) (l8 : K.lookup f8 = some ⟨oc8, od8, .func (PySem.W.fnOf "corner" "corner" (defArgs s_corner) (defBody s_corner) (defScope s_corner) .none kV8 dc8 pm8 an8 cd8 ct8), sl8⟩) (c8 : PySem.W.codeIn K cd8 "corner" = true) (k8 : PySem.W.keepIn K (.ref f8) = true)
    (a9 : PySem.W.nsIn K mainGlobals "chain" = some (some (.ref f9))) (l9 : K.lookup f9 = some ⟨oc9, od9, .func (PySem.W.fnOf "chain" "chain" (defArgs s_chain) (defBody s_chain) (defScope s_chain) .none kV9 dc9 pm9 an9 cd9 ct9), sl9⟩) (c9 : PySem.W.codeIn K cd9 "chain" = true) (k9 : PySem.W.keepIn K (.ref f9) = true)
    (a10 : PySem.W.nsIn K mainGlobals "lower" = some (some (.ref f10))) (l10 : K.lookup f10 = some ⟨oc10, od10, .func (PySem.W.fnOf "lower" "lower" (defArgs s_lower) (defBody s_lower) (defScope s_lower) .none kV10 dc10 pm10 an10 cd10 ct10), sl10⟩) (c10 : PySem.W.codeIn K cd10 "lower" = true) (k10 : PySem.W.keepIn K (.ref f10) = true)
    (a11 : PySem.W.nsIn K mainGlobals "upper" = some (some (.ref f11))) (l11 : K.lookup f11 = some ⟨oc11, od11, .func (PySem.W.fnOf "upper" "upper" (defArgs s_upper) (defBody s_upper) (defScope s_upper) .none kV11 dc11 pm11 an11 cd11 ct11), sl11⟩) (c11 : PySem.W.codeIn K cd11 "upper" = true) (k11 : PySem.W.keepIn K (.ref f11) = true)
    (a12 : PySem.W.nsIn K mainGlobals "hull" = some (some (.ref f12))) (l12 : K.lookup f12 = some ⟨oc12, od12, .func (PySem.W.fnOf "hull" "hull" (defArgs s_hull) (defBody s_hull) (defScope s_hull) .none kV12 dc12 pm12 an12 cd12 ct12), sl12⟩) (c12 : PySem.W.codeIn K cd12 "hull" = true) (k12 : PySem.W.keepIn K (.ref f12) = true)
    (a13 : PySem.W.nsIn K mainGlobals "hull_area" = some (some (.ref f13))) (l13 : K.lookup f13 = some ⟨oc13, od13, .func (PySem.W.fnOf "hull_area" "hull_area" (defArgs s_hull_area) (defBody s_hull_area) (defScope s_hull_area) .none kV13 dc13 pm13 an13 cd13 ct13), sl13⟩) (c13 : PySem.W.codeIn K cd13 "hull_area" = true) (k13 : PySem.W.keepIn K (.ref f13) = true)
    (a14 : PySem.W.nsIn K mainGlobals "is_between" = some (some (.ref f14))) (l14 : K.lookup f14 = some ⟨oc14, od14, .func (PySem.W.fnOf "is_between" "is_between" (defArgs s_is_between) (defBody s_is_between) (defScope s_is_between) .none kV14 dc14 pm14 an14 cd14 ct14), sl14⟩) (c14 : PySem.W.codeIn K cd14 "is_between" = true) (k14 : PySem.W.keepIn K (.ref f14) = true)
    (a15 : PySem.W.nsIn K mainGlobals "is_clear" = some (some (.ref f15))) (l15 : K.lookup f15 = some ⟨oc15, od15, .func (PySem.W.fnOf "is_clear" "is_clear" (defArgs s_is_clear) (defBody s_is_clear) (defScope s_is_clear) .none kV15 dc15 pm15 an15 cd15 ct15), sl15⟩) (c15 : PySem.W.codeIn K cd15 "is_clear" = true) (k15 : PySem.W.keepIn K (.ref f15) = true)
    (a16 : PySem.W.nsIn K mainGlobals "is_tie" = some (some (.ref f16))) (l16 : K.lookup f16 = some ⟨oc16, od16, .func (PySem.W.fnOf "is_tie" "is_tie" (defArgs s_is_tie) (defBody s_is_tie) (defScope s_is_tie) .none kV16 dc16 pm16 an16 cd16 ct16), sl16⟩) (c16 : PySem.W.codeIn K cd16 "is_tie" = true) (k16 : PySem.W.keepIn K (.ref f16) = true)
    (a17 : PySem.W.nsIn K mainGlobals "ties" = some (some (.ref f17))) (l17 : K.lookup f17 = some ⟨oc17, od17, .func (PySem.W.fnOf "ties" "ties" (defArgs s_ties) (defBody s_ties) (defScope s_ties) .none kV17 dc17 pm17 an17 cd17 ct17), sl17⟩) (c17 : PySem.W.codeIn K cd17 "ties" = true) (k17 : PySem.W.keepIn K (.ref f17) = true)
    (a18 : PySem.W.nsIn K mainGlobals "cross" = some (some (.ref f18))) (l18 : K.lookup f18 = some ⟨oc18, od18, .func (PySem.W.fnOf "cross" "cross" (defArgs s_cross) (defBody s_cross) (defScope s_cross) .none kV18 dc18 pm18 an18 cd18 ct18), sl18⟩) (c18 : PySem.W.codeIn K cd18 "cross" = true) (k18 : PySem.W.keepIn K (.ref f18) = true)
    (a19 : PySem.W.nsIn K mainGlobals "crossing" = some (some (.ref f19))) (l19 : K.lookup f19 = some ⟨oc19, od19, .func (PySem.W.fnOf "crossing" "crossing" (defArgs s_crossing) (defBody s_crossing) (defScope s_crossing) .none kV19 dc19 pm19 an19 cd19 ct19), sl19⟩) (c19 : PySem.W.codeIn K cd19 "crossing" = true) (k19 : PySem.W.keepIn K (.ref f19) = true)
    (a20 : PySem.W.nsIn K mainGlobals "has_within" = some (some (.ref f20))) (l20 : K.lookup f20 = some ⟨oc20, od20, .func (PySem.W.fnOf "has_within" "has_within" (defArgs s_has_within) (defBody s_has_within) (defScope s_has_within) .none kV20 dc20 pm20 an20 cd20 ct20), sl20⟩) (c20 : PySem.W.codeIn K cd20 "has_within" = true) (k20 : PySem.W.keepIn K (.ref f20) = true)
    (a21 : PySem.W.nsIn K mainGlobals "is_void" = some (some (.ref f21))) (l21 : K.lookup f21 = some ⟨oc21, od21, .func (PySem.W.fnOf "is_void" "is_void" (defArgs s_is_void) (defBody s_is_void) (defScope s_is_void) .none kV21 dc21 pm21 an21 cd21 ct21), sl21⟩) (c21 : PySem.W.codeIn K cd21 "is_void" = true) (k21 : PySem.W.keepIn K (.ref f21) = true)
    (a22 : PySem.W.nsIn K mainGlobals "is_triangle" = some (some (.ref f22))) (l22 : K.lookup f22 = some ⟨oc22, od22, .func (PySem.W.fnOf "is_triangle" "is_triangle" (defArgs s_is_triangle) (defBody s_is_triangle) (defScope s_is_triangle) .none kV22 dc22 pm22 an22 cd22 ct22), sl22⟩) (c22 : PySem.W.codeIn K cd22 "is_triangle" = true) (k22 : PySem.W.keepIn K (.ref f22) = true)
    (a23 : PySem.W.nsIn K mainGlobals "triangles" = some (some (.ref f23))) (l23 : K.lookup f23 = some ⟨oc23, od23, .func (PySem.W.fnOf "triangles" "triangles" (defArgs s_triangles) (defBody s_triangles) (defScope s_triangles) .none kV23 dc23 pm23 an23 cd23 ct23), sl23⟩) (c23 : PySem.W.codeIn K cd23 "triangles" = true) (k23 : PySem.W.keepIn K (.ref f23) = true)
    (a24 : PySem.W.nsIn K mainGlobals "least_corner" = some (some (.ref f24))) (l24 : K.lookup f24 = some ⟨oc24, od24, .func (PySem.W.fnOf "least_corner" "least_corner" (defArgs s_least_corner) (defBody s_least_corner) (defScope s_least_corner) .none kV24 dc24 pm24 an24 cd24 ct24), sl24⟩) (c24 : PySem.W.codeIn K cd24 "least_corner" = true) (k24 : PySem.W.keepIn K (.ref f24) = true)
    (a25 : PySem.W.nsIn K mainGlobals "_law_tape" = some (some (.ref f25))) (l25 : K.lookup f25 = some ⟨oc25, od25, .func (PySem.W.fnOf "_law_tape" "_law_tape" (defArgs s_law_tape) (defBody s_law_tape) (defScope s_law_tape) .none kV25 dc25 pm25 an25 cd25 ct25), sl25⟩) (c25 : PySem.W.codeIn K cd25 "_law_tape" = true) (k25 : PySem.W.keepIn K (.ref f25) = true)
    (a26 : PySem.W.nsIn K mainGlobals "_law_draw" = some (some (.ref f26))) (l26 : K.lookup f26 = some ⟨oc26, od26, .func (PySem.W.fnOf "_law_draw" "_law_draw" (defArgs s_law_draw) (defBody s_law_draw) (defScope s_law_draw) .none kV26 dc26 pm26 an26 cd26 ct26), sl26⟩) (c26 : PySem.W.codeIn K cd26 "_law_draw" = true) (k26 : PySem.W.keepIn K (.ref f26) = true)
    (a27 : PySem.W.nsIn K mainGlobals "_law_far_row" = some (some (.ref f27))) (l27 : K.lookup f27 = some ⟨oc27, od27, .func (PySem.W.fnOf "_law_far_row" "_law_far_row" (defArgs s_law_far_row) (defBody s_law_far_row) (defScope s_law_far_row) .none kV27 dc27 pm27 an27 cd27 ct27), sl27⟩) (c27 : PySem.W.codeIn K cd27 "_law_far_row" = true) (k27 : PySem.W.keepIn K (.ref f27) = true)
    (a28 : PySem.W.nsIn K mainGlobals "_law_spot" = some (some (.ref f28))) (l28 : K.lookup f28 = some ⟨oc28, od28, .func (PySem.W.fnOf "_law_spot" "_law_spot" (defArgs s_law_spot) (defBody s_law_spot) (defScope s_law_spot) .none kV28 dc28 pm28 an28 cd28 ct28), sl28⟩) (c28 : PySem.W.codeIn K cd28 "_law_spot" = true) (k28 : PySem.W.keepIn K (.ref f28) = true)
    (a29 : PySem.W.nsIn K mainGlobals "_law_on_line" = some (some (.ref f29))) (l29 : K.lookup f29 = some ⟨oc29, od29, .func (PySem.W.fnOf "_law_on_line" "_law_on_line" (defArgs s_law_on_line) (defBody s_law_on_line) (defScope s_law_on_line) .none kV29 dc29 pm29 an29 cd29 ct29), sl29⟩) (c29 : PySem.W.codeIn K cd29 "_law_on_line" = true) (k29 : PySem.W.keepIn K (.ref f29) = true)
    (a30 : PySem.W.nsIn K mainGlobals "_law_field" = some (some (.ref f30))) (l30 : K.lookup f30 = some ⟨oc30, od30, .func (PySem.W.fnOf "_law_field" "_law_field" (defArgs s_law_field) (defBody s_law_field) (defScope s_law_field) .none kV30 dc30 pm30 an30 cd30 ct30), sl30⟩) (c30 : PySem.W.codeIn K cd30 "_law_field" = true) (k30 : PySem.W.keepIn K (.ref f30) = true)
    (a31 : PySem.W.nsIn K mainGlobals "_law_second" = some (some (.ref f31))) (l31 : K.lookup f31 = some ⟨oc31, od31, .func (PySem.W.fnOf "_law_second" "_law_second" (defArgs s_law_second) (defBody s_law_second) (defScope s_law_second) .none kV31 dc31 pm31 an31 cd31 ct31), sl31⟩) (c31 : PySem.W.codeIn K cd31 "_law_second" = true) (k31 : PySem.W.keepIn K (.ref f31) = true)
    (a32 : PySem.W.nsIn K mainGlobals "_law_asked" = some (some (.ref f32))) (l32 : K.lookup f32 = some ⟨oc32, od32, .func (PySem.W.fnOf "_law_asked" "_law_asked" (defArgs s_law_asked) (defBody s_law_asked) (defScope s_law_asked) .none kV32 dc32 pm32 an32 cd32 ct32), sl32⟩) (c32 : PySem.W.codeIn K cd32 "_law_asked" = true) (k32 : PySem.W.keepIn K (.ref f32) = true)
    (a33 : PySem.W.nsIn K mainGlobals "_law_again_right" = some (some (.ref f33))) (l33 : K.lookup f33 = some ⟨oc33, od33, .func (PySem.W.fnOf "_law_again_right" "_law_again_right" (defArgs s_law_again_right) (defBody s_law_again_right) (defScope s_law_again_right) .none kV33 dc33 pm33 an33 cd33 ct33), sl33⟩) (c33 : PySem.W.codeIn K cd33 "_law_again_right" = true) (k33 : PySem.W.keepIn K (.ref f33) = true)
    (a34 : PySem.W.nsIn K mainGlobals "law" = some (some (.ref f34))) (l34 : K.lookup f34 = some ⟨oc34, od34, .func (PySem.W.fnOf "law" "law" (defArgs s_law) (defBody s_law) (defScope s_law) .none kV34 dc34 pm34 an34 cd34 ct34), sl34⟩) (c34 : PySem.W.codeIn K cd34 "law" = true) (k34 : PySem.W.keepIn K (.ref f34) = true)
    (z_abs : PySem.W.nsIn K mainGlobals "abs" = some none) (z_all : PySem.W.nsIn K mainGlobals "all" = some none) (z_any : PySem.W.nsIn K mainGlobals "any" = some none) (z_bool : PySem.W.nsIn K mainGlobals "bool" = some none) (z_int : PySem.W.nsIn K mainGlobals "int" = some none) (z_isinstance : PySem.W.nsIn K mainGlobals "isinstance" = some none) (z_len : PySem.W.nsIn K mainGlobals "len" = some none) (z_max : PySem.W.nsIn K mainGlobals "max" = some none) (z_min : PySem.W.nsIn K mainGlobals "min" = some none) (z_range : PySem.W.nsIn K mainGlobals "range" = some none) (z_repr : PySem.W.nsIn K mainGlobals "repr" = some none) (z_set : PySem.W.nsIn K mainGlobals "set" = some none) (z_sorted : PySem.W.nsIn K mainGlobals "sorted" = some none) (z_sum : PySem.W.nsIn K mainGlobals "sum" = some none) (z_tuple : PySem.W.nsIn K mainGlobals "tuple" = some none)
    (law : ∀ ns : List Int, ns.length ≤ 63 → ∃ t1, b_law (.un :: .tp :: List.replicate 9 .un) ⟨0, ns, 0, 0, 0⟩ = some (.rt (.bool true), t1)) :
    ∃ fd : FuncData, (∀ (s : Shared) (v : Value), BindsTo s fd ⟨[v], []⟩ [("_law_script", v)]) ∧ ∀ base : Heap, K.In base → base.Ns mainGlobals mg → FnG l.prog w K mg base CX0 8 fa fd ["_law_script"] (spLaw K) := by
  have e := hfa.symm.trans (PySem.W.mg_of X G a34)
  cases e
  have B : Bt mg := ⟨PySem.W.mg_none_of X G z_abs, PySem.W.mg_none_of X G z_all, PySem.W.mg_none_of X G z_any, PySem.W.mg_none_of X G z_bool, PySem.W.mg_none_of X G z_int, PySem.W.mg_none_of X G z_isinstance, PySem.W.mg_none_of X G z_len, PySem.W.mg_none_of X G z_max, PySem.W.mg_none_of X G z_min, PySem.W.mg_none_of X G z_range, PySem.W.mg_none_of X G z_repr, PySem.W.mg_none_of X G z_set, PySem.W.mg_none_of X G z_sorted, PySem.W.mg_none_of X G z_sum, PySem.W.mg_none_of X G z_tuple⟩
  have F0 := fun_mk (st := s_is_number) l0 c0 k0
  have b0 := F0.binds (ps := ["thing"]) fun _ _ _ _ _ _ us hl => match us, hl with | [_], _ => rfl
  have F1 := fun_mk (st := s_common_divisor) l1 c1 k1
  have b1 := F1.binds (ps := ["one", "other"]) fun _ _ _ _ _ _ us hl => match us, hl with | [_, _], _ => rfl
  have F2 := fun_mk (st := s_fraction) l2 c2 k2
  have b2 := F2.binds (ps := ["top", "bottom"]) fun _ _ _ _ _ _ us hl => match us, hl with | [_, _], _ => rfl
  have F3 := fun_mk (st := s_less) l3 c3 k3
  have b3 := F3.binds (ps := ["one", "other"]) fun _ _ _ _ _ _ us hl => match us, hl with | [_, _], _ => rfl
  have F4 := fun_mk (st := s_is_point) l4 c4 k4
  have b4 := F4.binds (ps := ["thing"]) fun _ _ _ _ _ _ us hl => match us, hl with | [_], _ => rfl
  have F5 := fun_mk (st := s_turning) l5 c5 k5
  have b5 := F5.binds (ps := ["a", "b", "c"]) fun _ _ _ _ _ _ us hl => match us, hl with | [_, _, _], _ => rfl
  have F6 := fun_mk (st := s_side) l6 c6 k6
  have b6 := F6.binds (ps := ["a", "b", "c"]) fun _ _ _ _ _ _ us hl => match us, hl with | [_, _, _], _ => rfl
  have F7 := fun_mk (st := s_area) l7 c7 k7
  have b7 := F7.binds (ps := ["a", "b", "c"]) fun _ _ _ _ _ _ us hl => match us, hl with | [_, _, _], _ => rfl
  have F8 := fun_mk (st := s_corner) l8 c8 k8
  have b8 := F8.binds (ps := ["a", "b", "c"]) fun _ _ _ _ _ _ us hl => match us, hl with | [_, _, _], _ => rfl
  have F9 := fun_mk (st := s_chain) l9 c9 k9
  have b9 := F9.binds (ps := ["some"]) fun _ _ _ _ _ _ us hl => match us, hl with | [_], _ => rfl
  have F10 := fun_mk (st := s_lower) l10 c10 k10
  have b10 := F10.binds (ps := ["field"]) fun _ _ _ _ _ _ us hl => match us, hl with | [_], _ => rfl
  have F11 := fun_mk (st := s_upper) l11 c11 k11
  have b11 := F11.binds (ps := ["field"]) fun _ _ _ _ _ _ us hl => match us, hl with | [_], _ => rfl
  have F12 := fun_mk (st := s_hull) l12 c12 k12
  have b12 := F12.binds (ps := ["field"]) fun _ _ _ _ _ _ us hl => match us, hl with | [_], _ => rfl
  have F13 := fun_mk (st := s_hull_area) l13 c13 k13
  have b13 := F13.binds (ps := ["field"]) fun _ _ _ _ _ _ us hl => match us, hl with | [_], _ => rfl
  have F14 := fun_mk (st := s_is_between) l14 c14 k14
  have b14 := F14.binds (ps := ["a", "b", "point"]) fun _ _ _ _ _ _ us hl => match us, hl with | [_, _, _], _ => rfl
  have F15 := fun_mk (st := s_is_clear) l15 c15 k15
  have b15 := F15.binds (ps := ["field", "a", "b"]) fun _ _ _ _ _ _ us hl => match us, hl with | [_, _, _], _ => rfl
  have F16 := fun_mk (st := s_is_tie) l16 c16 k16
  have b16 := F16.binds (ps := ["field", "thing"]) fun _ _ _ _ _ _ us hl => match us, hl with | [_, _], _ => rfl
  have F17 := fun_mk (st := s_ties) l17 c17 k17
  have b17 := F17.binds (ps := ["field"]) fun _ _ _ _ _ _ us hl => match us, hl with | [_], _ => rfl
  have F18 := fun_mk (st := s_cross) l18 c18 k18
  have b18 := F18.binds (ps := ["one", "other"]) fun _ _ _ _ _ _ us hl => match us, hl with | [_, _], _ => rfl
  have F19 := fun_mk (st := s_crossing) l19 c19 k19
  have b19 := F19.binds (ps := ["field", "tie"]) fun _ _ _ _ _ _ us hl => match us, hl with | [_, _], _ => rfl
  have F20 := fun_mk (st := s_has_within) l20 c20 k20
  have b20 := F20.binds (ps := ["a", "b", "c", "point"]) fun _ _ _ _ _ _ us hl => match us, hl with | [_, _, _, _], _ => rfl
  have F21 := fun_mk (st := s_is_void) l21 c21 k21
  have b21 := F21.binds (ps := ["field", "a", "b", "c"]) fun _ _ _ _ _ _ us hl => match us, hl with | [_, _, _, _], _ => rfl
  have F22 := fun_mk (st := s_is_triangle) l22 c22 k22
  have b22 := F22.binds (ps := ["field", "thing"]) fun _ _ _ _ _ _ us hl => match us, hl with | [_, _], _ => rfl
  have F23 := fun_mk (st := s_triangles) l23 c23 k23
  have b23 := F23.binds (ps := ["field"]) fun _ _ _ _ _ _ us hl => match us, hl with | [_], _ => rfl
  have F24 := fun_mk (st := s_least_corner) l24 c24 k24
  have b24 := F24.binds (ps := ["triangle"]) fun _ _ _ _ _ _ us hl => match us, hl with | [_], _ => rfl
  have F25 := fun_mk (st := s_law_tape) l25 c25 k25
  have b25 := F25.binds (ps := ["_law_script"]) fun _ _ _ _ _ _ us hl => match us, hl with | [_], _ => rfl
  have F26 := fun_mk (st := s_law_draw) l26 c26 k26
  have b26 := F26.binds (ps := ["_law_tape_here", "_law_many"]) fun _ _ _ _ _ _ us hl => match us, hl with | [_, _], _ => rfl
  have F27 := fun_mk (st := s_law_far_row) l27 c27 k27
  have b27 := F27.binds (ps := []) fun _ _ _ _ _ _ us hl => match us, hl with | [], _ => rfl
  have F28 := fun_mk (st := s_law_spot) l28 c28 k28
  have b28 := F28.binds (ps := ["_law_tape_here", "_law_kind", "_law_k"]) fun _ _ _ _ _ _ us hl => match us, hl with | [_, _, _], _ => rfl
  have F29 := fun_mk (st := s_law_on_line) l29 c29 k29
  have b29 := F29.binds (ps := ["_law_some"]) fun _ _ _ _ _ _ us hl => match us, hl with | [_], _ => rfl
  have F30 := fun_mk (st := s_law_field) l30 c30 k30
  have b30 := F30.binds (ps := ["_law_tape_here", "_law_most"]) fun _ _ _ _ _ _ us hl => match us, hl with | [_, _], _ => rfl
  have F31 := fun_mk (st := s_law_second) l31 c31 k31
  have b31 := F31.binds (ps := ["_law_tape_here", "_law_field_here"]) fun _ _ _ _ _ _ us hl => match us, hl with | [_, _], _ => rfl
  have F32 := fun_mk (st := s_law_asked) l32 c32 k32
  have b32 := F32.binds (ps := ["_law_way", "_law_field_here"]) fun _ _ _ _ _ _ us hl => match us, hl with | [_, _], _ => rfl
  have F33 := fun_mk (st := s_law_again_right) l33 c33 k33
  have b33 := F33.binds (ps := ["_law_field_here", "_law_other"]) fun _ _ _ _ _ _ us hl => match us, hl with | [_, _], _ => rfl
  have F34 := fun_mk (st := s_law) l34 c34 k34
  refine ⟨PySem.W.fnOf "law" "law" (defArgs s_law) (defBody s_law) (defScope s_law) .none kV34 dc34 pm34 an34 cd34 ct34, fun s v => .of_eq rfl, fun base _ _ => ?_⟩
  have c_is_number : Cee l.prog w K mg base 1 "is_number" LPR.m_is_number := ⟨⟨f0, _, _, PySem.W.mg_of X G a0, k0, b0, ok_is_number F0 B ⟩⟩
  have c_common_divisor : Cee l.prog w K mg base 1 "common_divisor" LPR.m_common_divisor := ⟨⟨f1, _, _, PySem.W.mg_of X G a1, k1, b1, ok_common_divisor F1 B ⟩⟩
  have c_fraction : Cee l.prog w K mg base 2 "fraction" LPR.m_fraction := ⟨⟨f2, _, _, PySem.W.mg_of X G a2, k2, b2, ok_fraction F2 B c_common_divisor⟩⟩
  have c_less : Cee l.prog w K mg base 1 "less" LPR.m_less := ⟨⟨f3, _, _, PySem.W.mg_of X G a3, k3, b3, ok_less F3 B ⟩⟩
  have c_is_point : Cee l.prog w K mg base 2 "is_point" LPR.m_is_point := ⟨⟨f4, _, _, PySem.W.mg_of X G a4, k4, b4, ok_is_point F4 B c_is_number⟩⟩
  have c_turning : Cee l.prog w K mg base 1 "turning" LPR.m_turning := ⟨⟨f5, _, _, PySem.W.mg_of X G a5, k5, b5, ok_turning F5 B ⟩⟩
  have c_side : Cee l.prog w K mg base 2 "side" LPR.m_side := ⟨⟨f6, _, _, PySem.W.mg_of X G a6, k6, b6, ok_side F6 B c_turning⟩⟩
  have c_area : Cee l.prog w K mg base 2 "area" LPR.m_area := ⟨⟨f7, _, _, PySem.W.mg_of X G a7, k7, b7, ok_area F7 B c_turning⟩⟩
  have c_corner : Cee l.prog w K mg base 3 "corner" LPR.m_corner := ⟨⟨f8, _, _, PySem.W.mg_of X G a8, k8, b8, ok_corner F8 B c_area c_fraction⟩⟩
  have c_chain : Cee l.prog w K mg base 3 "chain" LPR.m_chain := ⟨⟨f9, _, _, PySem.W.mg_of X G a9, k9, b9, ok_chain F9 B c_side⟩⟩
  have c_lower : Cee l.prog w K mg base 4 "lower" LPR.m_lower := ⟨⟨f10, _, _, PySem.W.mg_of X G a10, k10, b10, ok_lower F10 B c_chain⟩⟩
  have c_upper : Cee l.prog w K mg base 4 "upper" LPR.m_upper := ⟨⟨f11, _, _, PySem.W.mg_of X G a11, k11, b11, ok_upper F11 B c_chain⟩⟩
  have c_hull : Cee l.prog w K mg base 5 "hull" LPR.m_hull := ⟨⟨f12, _, _, PySem.W.mg_of X G a12, k12, b12, ok_hull F12 B c_lower c_upper⟩⟩
  have c_hull_area : Cee l.prog w K mg base 6 "hull_area" LPR.m_hull_area := ⟨⟨f13, _, _, PySem.W.mg_of X G a13, k13, b13, ok_hull_area F13 B c_area c_hull⟩⟩
  have c_is_between : Cee l.prog w K mg base 3 "is_between" LPR.m_is_between := ⟨⟨f14, _, _, PySem.W.mg_of X G a14, k14, b14, ok_is_between F14 B c_side⟩⟩
  have c_is_clear : Cee l.prog w K mg base 4 "is_clear" LPR.m_is_clear := ⟨⟨f15, _, _, PySem.W.mg_of X G a15, k15, b15, ok_is_clear F15 B c_is_between⟩⟩
  have c_is_tie : Cee l.prog w K mg base 5 "is_tie" LP2.m_is_tie := ⟨⟨f16, _, _, PySem.W.mg_of X G a16, k16, b16, ok_is_tie F16 B c_is_clear c_is_point⟩⟩
  have c_ties : Cee l.prog w K mg base 5 "ties" LPR.m_ties := ⟨⟨f17, _, _, PySem.W.mg_of X G a17, k17, b17, ok_ties F17 B c_is_clear⟩⟩
  have c_cross : Cee l.prog w K mg base 3 "cross" LPR.m_cross := ⟨⟨f18, _, _, PySem.W.mg_of X G a18, k18, b18, ok_cross F18 B c_side⟩⟩
  have c_crossing : Cee l.prog w K mg base 6 "crossing" LP2.m_crossing := ⟨⟨f19, _, _, PySem.W.mg_of X G a19, k19, b19, ok_crossing F19 B c_cross c_ties⟩⟩
  have c_has_within : Cee l.prog w K mg base 3 "has_within" LPR.m_has_within := ⟨⟨f20, _, _, PySem.W.mg_of X G a20, k20, b20, ok_has_within F20 B c_side⟩⟩
  have c_is_void : Cee l.prog w K mg base 4 "is_void" LPR.m_is_void := ⟨⟨f21, _, _, PySem.W.mg_of X G a21, k21, b21, ok_is_void F21 B c_has_within⟩⟩
  have c_is_triangle : Cee l.prog w K mg base 5 "is_triangle" LPR.m_is_triangle := ⟨⟨f22, _, _, PySem.W.mg_of X G a22, k22, b22, ok_is_triangle F22 B c_is_point c_is_void c_side⟩⟩
  have c_triangles : Cee l.prog w K mg base 6 "triangles" LPR.m_triangles := ⟨⟨f23, _, _, PySem.W.mg_of X G a23, k23, b23, ok_triangles F23 B c_is_triangle⟩⟩
  have c_least_corner : Cee l.prog w K mg base 4 "least_corner" LPR.m_least_corner := ⟨⟨f24, _, _, PySem.W.mg_of X G a24, k24, b24, ok_least_corner F24 B c_corner c_less⟩⟩
  have c_tape : CeeT l.prog w K mg base 1 "_law_tape" 0 := ⟨⟨f25, _, _, PySem.W.mg_of X G a25, k25, b25, ok_law_tape F25 B⟩⟩
  have c_law_draw : Cee l.prog w K mg base 1 "_law_draw" LFD.m_law_draw := ⟨⟨f26, _, _, PySem.W.mg_of X G a26, k26, b26, ok_law_draw F26 B ⟩⟩
  have c_law_far_row : Cee l.prog w K mg base 1 "_law_far_row" LFD.m_law_far_row := ⟨⟨f27, _, _, PySem.W.mg_of X G a27, k27, b27, ok_law_far_row F27 B ⟩⟩
  have c_law_spot : Cee l.prog w K mg base 2 "_law_spot" LFD.m_law_spot := ⟨⟨f28, _, _, PySem.W.mg_of X G a28, k28, b28, ok_law_spot F28 B c_law_draw c_law_far_row⟩⟩
  have c_law_on_line : Cee l.prog w K mg base 1 "_law_on_line" LFD.m_law_on_line := ⟨⟨f29, _, _, PySem.W.mg_of X G a29, k29, b29, ok_law_on_line F29 B ⟩⟩
  have c_law_field : Cee l.prog w K mg base 3 "_law_field" LFD.m_law_field := ⟨⟨f30, _, _, PySem.W.mg_of X G a30, k30, b30, ok_law_field F30 B c_law_draw c_law_on_line c_law_spot⟩⟩
  have c_law_second : Cee l.prog w K mg base 4 "_law_second" LK15.m_law_second := ⟨⟨f31, _, _, PySem.W.mg_of X G a31, k31, b31, ok_law_second F31 B c_law_draw c_law_field c_law_on_line⟩⟩
  have c_law_asked : Cee l.prog w K mg base 7 "_law_asked" LK15.m_law_asked := ⟨⟨f32, _, _, PySem.W.mg_of X G a32, k32, b32, ok_law_asked F32 B c_crossing c_hull c_hull_area c_least_corner c_lower c_ties c_triangles c_upper⟩⟩
  have c_law_again_right : Cee l.prog w K mg base 7 "_law_again_right" LK15.m_law_again_right := ⟨⟨f33, _, _, PySem.W.mg_of X G a33, k33, b33, ok_law_again_right F33 B c_is_tie c_is_triangle c_ties c_triangles⟩⟩
  exact ok_law F34 B c_law_again_right c_law_asked c_law_draw c_law_field c_law_second c_tape law
end LK15
open PySem PySem.W PyProof.Rows
set_option maxRecDepth 100000 in
set_option maxHeartbeats 0 in
theorem PySem.Challenge.cw_threelays_k15_told_things_by_turns_holds : PySem.Challenge.rw_threelays_k15_told_things_by_turns.Holds := by
  w_on; o_law; k_head; (case hw => w_witness2)
  k_fill
  refine DL.walkG (l := PySem.Challenge.rw_threelays_k15_told_things_by_turns) (k := 8) (x := "_law_script") rfl rfl ⟨rfl, by decide, by decide⟩ (fun w h Y => PySem.W.kIn_of Y) ?F
  case F =>
    intro w mg fa h KX G hmg
    refine' LK15.all_mk KX G hmg ?a0 ?l0 ?c0 ?k0 ?a1 ?l1 ?c1 ?k1 ?a2 ?l2 ?c2 ?k2 ?a3 ?l3 ?c3 ?k3 ?a4 ?l4 ?c4 ?k4 ?a5 ?l5 ?c5 ?k5 ?a6 ?l6 ?c6 ?k6 ?a7 ?l7 ?c7 ?k7 ?a8 ?l8 ?c8 ?k8 ?a9 ?l9 ?c9 ?k9 ?a10 ?l10 ?c10 ?k10 ?a11 ?l11 ?c11 ?k11 ?a12 ?l12 ?c12 ?k12 ?a13 ?l13 ?c13 ?k13 ?a14 ?l14 ?c14 ?k14 ?a15 ?l15 ?c15 ?k15 ?a16 ?l16 ?c16 ?k16 ?a17 ?l17 ?c17 ?k17 ?a18 ?l18 ?c18 ?k18 ?a19 ?l19 ?c19 ?k19 ?a20 ?l20 ?c20 ?k20 ?a21 ?l21 ?c21 ?k21 ?a22 ?l22 ?c22 ?k22 ?a23 ?l23 ?c23 ?k23 ?a24 ?l24 ?c24 ?k24 ?a25 ?l25 ?c25 ?k25 ?a26 ?l26 ?c26 ?k26 ?a27 ?l27 ?c27 ?k27 ?a28 ?l28 ?c28 ?k28 ?a29 ?l29 ?c29 ?k29 ?a30 ?l30 ?c30 ?k30 ?a31 ?l31 ?c31 ?k31 ?a32 ?l32 ?c32 ?k32 ?a33 ?l33 ?c33 ?k33 ?a34 ?l34 ?c34 ?k34 ?z_abs ?z_all ?z_any ?z_bool ?z_int ?z_isinstance ?z_len ?z_max ?z_min ?z_range ?z_repr ?z_set ?z_sorted ?z_sum ?z_tuple LK15.law_true
    (case a0 => k_is)
    (case l0 => k_is)
    (case c0 => k_is)
    (case k0 => k_is)
    (case a1 => k_is)
    (case l1 => k_is)
    (case c1 => k_is)
    (case k1 => k_is)
    (case a2 => k_is)
    (case l2 => k_is)
    (case c2 => k_is)
    (case k2 => k_is)
    (case a3 => k_is)
    (case l3 => k_is)
    (case c3 => k_is)
    (case k3 => k_is)
    (case a4 => k_is)
    (case l4 => k_is)
    (case c4 => k_is)
    (case k4 => k_is)
    (case a5 => k_is)
    (case l5 => k_is)
    (case c5 => k_is)
    (case k5 => k_is)
    (case a6 => k_is)
    (case l6 => k_is)
    (case c6 => k_is)
    (case k6 => k_is)
    (case a7 => k_is)
    (case l7 => k_is)
    (case c7 => k_is)
    (case k7 => k_is)
    (case a8 => k_is)
    (case l8 => k_is)
    (case c8 => k_is)
    (case k8 => k_is)
    (case a9 => k_is)
    (case l9 => k_is)
    (case c9 => k_is)
    (case k9 => k_is)
    (case a10 => k_is)
    (case l10 => k_is)
    (case c10 => k_is)
    (case k10 => k_is)
    (case a11 => k_is)
    (case l11 => k_is)
    (case c11 => k_is)
    (case k11 => k_is)
    (case a12 => k_is)
    (case l12 => k_is)
    (case c12 => k_is)
    (case k12 => k_is)
    (case a13 => k_is)
    (case l13 => k_is)
    (case c13 => k_is)
    (case k13 => k_is)
    (case a14 => k_is)
    (case l14 => k_is)
    (case c14 => k_is)
    (case k14 => k_is)
    (case a15 => k_is)
    (case l15 => k_is)
    (case c15 => k_is)
    (case k15 => k_is)
    (case a16 => k_is)
    (case l16 => k_is)
    (case c16 => k_is)
    (case k16 => k_is)
    (case a17 => k_is)
    (case l17 => k_is)
    (case c17 => k_is)
    (case k17 => k_is)
    (case a18 => k_is)
    (case l18 => k_is)
    (case c18 => k_is)
    (case k18 => k_is)
    (case a19 => k_is)
    (case l19 => k_is)
    (case c19 => k_is)
    (case k19 => k_is)
    (case a20 => k_is)
    (case l20 => k_is)
    (case c20 => k_is)
    (case k20 => k_is)
    (case a21 => k_is)
    (case l21 => k_is)
    (case c21 => k_is)
    (case k21 => k_is)
    (case a22 => k_is)
    (case l22 => k_is)
    (case c22 => k_is)
    (case k22 => k_is)
    (case a23 => k_is)
    (case l23 => k_is)
    (case c23 => k_is)
    (case k23 => k_is)
    (case a24 => k_is)
    (case l24 => k_is)
    (case c24 => k_is)
    (case k24 => k_is)
    (case a25 => k_is)
    (case l25 => k_is)
    (case c25 => k_is)
    (case k25 => k_is)
    (case a26 => k_is)
    (case l26 => k_is)
    (case c26 => k_is)
    (case k26 => k_is)
    (case a27 => k_is)
    (case l27 => k_is)
    (case c27 => k_is)
    (case k27 => k_is)
    (case a28 => k_is)
    (case l28 => k_is)
    (case c28 => k_is)
    (case k28 => k_is)
    (case a29 => k_is)
    (case l29 => k_is)
    (case c29 => k_is)
    (case k29 => k_is)
    (case a30 => k_is)
    (case l30 => k_is)
    (case c30 => k_is)
    (case k30 => k_is)
    (case a31 => k_is)
    (case l31 => k_is)
    (case c31 => k_is)
    (case k31 => k_is)
    (case a32 => k_is)
    (case l32 => k_is)
    (case c32 => k_is)
    (case k32 => k_is)
    (case a33 => k_is)
    (case l33 => k_is)
    (case c33 => k_is)
    (case k33 => k_is)
    (case a34 => k_is)
    (case l34 => k_is)
    (case c34 => k_is)
    (case k34 => k_is)
    (case z_abs => k_is)
    (case z_all => k_is)
    (case z_any => k_is)
    (case z_bool => k_is)
    (case z_int => k_is)
    (case z_isinstance => k_is)
    (case z_len => k_is)
    (case z_max => k_is)
    (case z_min => k_is)
    (case z_range => k_is)
    (case z_repr => k_is)
    (case z_set => k_is)
    (case z_sorted => k_is)
    (case z_sum => k_is)
    (case z_tuple => k_is)
