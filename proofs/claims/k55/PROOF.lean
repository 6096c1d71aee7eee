import PyProof.Rows.All
import Wide.All
import OpenK.AllK
import Wide.FinOn
import HandS.ForMost
import HandS.Wide
import HandS.NoneIn
import HandS.TupAny
import HandS.Style
import HandS.SortRule
import HandS.IsInst
import HandS.Deep
import PySem.Challenge.RW_threelays_k55_circles_by_sign
set_option Elab.async false
set_option linter.all false
set_option maxRecDepth 100000
set_option maxHeartbeats 1000000
/-! The data layer, part A: what a value stands for (plain data), the tape, slots, the ghost heap. -/
namespace DL
open PySem L2

mutual
/-- v stands for the datum d, all its objects lie in the ghost heap G -/
inductive Rp (G : Hp) : V → PyData → Prop
  | non : Rp G .non .none
  | bl (b : Bool) : Rp G (.bl b) (.bool b)
  | int (i : Int) : Rp G (.int i) (.int i)
  | str (x : Str) : Rp G (.str x) (.str x)
  | lst {a : Addr} {xs : List V} {ds : List PyData} (h : G a = some (.lst xs)) (r : RpA G xs ds) : Rp G (.ref a) (.list ds)
  | tup {a : Addr} {xs : List V} {ds : List PyData} (h : G a = some (.tup xs)) (r : RpA G xs ds) : Rp G (.ref a) (.tuple ds)
inductive RpA (G : Hp) : List V → List PyData → Prop
  | nil : RpA G [] []
  | cons {v : V} {vs : List V} {d : PyData} {ds : List PyData} (h : Rp G v d) (r : RpA G vs ds) : RpA G (v :: vs) (d :: ds)
end

mutual
theorem Rp.mono {G G' : Hp} (e : Same G G') : ∀ {v : V} {d : PyData}, Rp G v d → Rp G' v d
  | _, _, .non => .non
  | _, _, .bl b => .bl b
  | _, _, .int i => .int i
  | _, _, .str x => .str x
  | _, _, .lst h r => .lst (e _ _ h) (RpA.mono e r)
  | _, _, .tup h r => .tup (e _ _ h) (RpA.mono e r)
theorem RpA.mono {G G' : Hp} (e : Same G G') : ∀ {vs : List V} {ds : List PyData}, RpA G vs ds → RpA G' vs ds
  | _, _, .nil => .nil
  | _, _, .cons h r => .cons (Rp.mono e h) (RpA.mono e r)
end
mutual
theorem Rp.dp {K : PySem.W.Frag} {G : Hp} : ∀ {v : V} {d : PyData}, Rp G v d → Dp K G v d
  | _, _, .non => .non
  | _, _, .bl b => .bl b
  | _, _, .int i => .int i
  | _, _, .str x => .str x
  | _, _, .lst h r => .lst (SqL.of h) (RpA.dp r)
  | _, _, .tup h r => .tup (SqT.of h) (RpA.dp r)
theorem RpA.dp {K : PySem.W.Frag} {G : Hp} : ∀ {vs : List V} {ds : List PyData}, RpA G vs ds → DpAll K G vs ds
  | _, _, .nil => .nil
  | _, _, .cons h r => .cons (Rp.dp h) (RpA.dp r)
end
theorem RpA.length {G : Hp} : ∀ {vs : List V} {ds : List PyData}, RpA G vs ds → vs.length = ds.length
  | _, _, .nil => rfl
  | _, _, .cons _ r => congrArg (· + 1) (RpA.length r)
theorem RpA.get {G : Hp} : ∀ {vs : List V} {ds : List PyData} {i : Nat} {d : PyData}, RpA G vs ds → ds[i]? = some d → ∃ v, vs[i]? = some v ∧ Rp G v d
  | _, _, _, _, .nil, h => by simp at h
  | _, _, 0, _, .cons h r, e => by simp at e; subst e; exact ⟨_, rfl, h⟩
  | _, _, i + 1, d, .cons h r, e => by
    obtain ⟨v, h1, h2⟩ := RpA.get (i := i) (d := d) r (by simpa using e)
    exact ⟨v, by simpa using h1, h2⟩
theorem RpA.get' {G : Hp} : ∀ {vs : List V} {ds : List PyData} {i : Nat} {v : V}, RpA G vs ds → vs[i]? = some v → ∃ d, ds[i]? = some d ∧ Rp G v d
  | _, _, _, _, .nil, h => by simp at h
  | _, _, 0, _, .cons h r, e => by simp at e; subst e; exact ⟨_, rfl, h⟩
  | _, _, i + 1, d, .cons h r, e => by
    obtain ⟨v, h1, h2⟩ := RpA.get' (i := i) (v := d) r (by simpa using e)
    exact ⟨v, by simpa using h1, h2⟩
theorem RpA.append {G : Hp} : ∀ {vs us : List V} {ds es : List PyData}, RpA G vs ds → RpA G us es → RpA G (vs ++ us) (ds ++ es)
  | _, _, _, _, .nil, s => s
  | _, _, _, _, .cons h r, s => .cons h (RpA.append r s)
theorem RpA.snoc {G : Hp} {vs : List V} {ds : List PyData} {v : V} {d : PyData} (r : RpA G vs ds) (h : Rp G v d) : RpA G (vs ++ [v]) (ds ++ [d]) := r.append (.cons h .nil)
theorem RpA.take {G : Hp} : ∀ {vs : List V} {ds : List PyData} (n : Nat), RpA G vs ds → RpA G (vs.take n) (ds.take n)
  | _, _, 0, _ => .nil
  | _, _, _ + 1, .nil => .nil
  | _, _, n + 1, .cons h r => .cons h (RpA.take n r)
theorem RpA.drop {G : Hp} : ∀ {vs : List V} {ds : List PyData} (n : Nat), RpA G vs ds → RpA G (vs.drop n) (ds.drop n)
  | _, _, 0, r => r
  | _, _, _ + 1, .nil => .nil
  | _, _, n + 1, .cons _ r => RpA.drop n r
theorem RpA.set {G : Hp} {v : V} {d : PyData} (h : Rp G v d) : ∀ {vs : List V} {ds : List PyData} (n : Nat), RpA G vs ds → RpA G (vs.set n v) (ds.set n d)
  | _, _, _, .nil => .nil
  | _, _, 0, .cons _ r => .cons h r
  | _, _, n + 1, .cons q r => .cons q (RpA.set h n r)
theorem RpA.ints {G : Hp} : ∀ (ns : List Int), RpA G (ns.map V.int) (ns.map PyData.int)
  | [] => .nil
  | n :: r => .cons (.int n) (RpA.ints r)
theorem RpA.dropLast {G : Hp} {vs : List V} {ds : List PyData} (r : RpA G vs ds) : RpA G vs.dropLast ds.dropLast := by
  rw [List.dropLast_eq_take, List.dropLast_eq_take, r.length]
  exact r.take _
theorem RpA.reverse {G : Hp} : ∀ {vs : List V} {ds : List PyData}, RpA G vs ds → RpA G vs.reverse ds.reverse
  | _, _, .nil => .nil
  | _, _, .cons h r => by
    rw [List.reverse_cons, List.reverse_cons]
    exact (RpA.reverse r).snoc h

/-! ### the tape and the monad -/
structure Tape where
  kind : Nat
  cells : List Int
  at_ : Int
  left : Int
  turn : Int

def M (α : Type) := Tape → Option (α × Tape)
namespace M
def ret {α : Type} (a : α) : M α := fun t => some (a, t)
def bnd {α β : Type} (m : M α) (f : α → M β) : M β := fun t => match m t with
  | none => none
  | some (a, t') => f a t'
def fail {α : Type} : M α := fun _ => none
def lift {α : Type} (o : Option α) : M α := fun t => o.map fun a => (a, t)
end M
instance : Monad M where
  pure := M.ret
  bind := M.bnd
theorem bnd_some {α β : Type} {m : M α} {f : α → M β} {t t2 : Tape} {b : β} (h : (m >>= f) t = some (b, t2)) : ∃ a t1, m t = some (a, t1) ∧ f a t1 = some (b, t2) := by
  have h' : (match m t with | none => none | some (a, t') => f a t') = some (b, t2) := h
  cases e : m t with
  | none => rw [e] at h'; cases h'
  | some p =>
    rw [e] at h'
    exact ⟨p.1, p.2, rfl, h'⟩
theorem pure_some {α : Type} {a b : α} {t t1 : Tape} (h : (pure a : M α) t = some (b, t1)) : a = b ∧ t = t1 := by
  have h' : some (a, t) = some (b, t1) := h
  cases h'
  exact ⟨rfl, rfl⟩
theorem lift_some {α : Type} {o : Option α} {b : α} {t t1 : Tape} (h : M.lift o t = some (b, t1)) : o = some b ∧ t = t1 := by
  unfold M.lift at h
  cases o with
  | none => cases h
  | some a => cases h; exact ⟨rfl, rfl⟩
theorem fail_some {α : Type} {b : α} {t t1 : Tape} (h : (M.fail : M α) t = some (b, t1)) : False := by cases h

/-- a slot of the mirror: unknown, a frozen datum, an owned list, the tape -/
inductive Sl where
  | un
  | fz (d : PyData)
  | ow (xs : List PyData)
  | tp

/-- the frame: where the tape stands; both heaps at the entry -/
structure Fm where
  T : Addr
  G0 : Hp
  H0 : Hp

/-- the keys of a dict tape, by its kind -/
def keyN (kind k : Nat) : Str := match kind, k with
  | 0, 0 => "cells" | 0, 1 => "at" | 0, 2 => "left" | 0, _ => "turn"
  | 2, 0 => "row" | 2, 1 => "next" | 2, 2 => "rest" | 2, _ => "draws"
  | _, 0 => "cells" | _, 1 => "spot" | _, 2 => "rest" | _, _ => "calls"
def tapeObj (c : Addr) (t : Tape) : HO :=
  if t.kind = 1 then .lst [.ref c, .int t.at_, .int t.left]
  else .dK [(Sum.inr (keyN t.kind 0), .ref c), (Sum.inr (keyN t.kind 1), .int t.at_), (Sum.inr (keyN t.kind 2), .int t.left), (Sum.inr (keyN t.kind 3), .int t.turn)]
/-- the tape stands at T, its cells are frozen -/
def TapeAt (T : Addr) (G H : Hp) (t : Tape) : Prop := ∃ c, G c = some (.lst (t.cells.map V.int)) ∧ H T = some (tapeObj c t)

structure Co (F : Fm) (t : Tape) (G H : Hp) : Prop where
  sub : Same G H
  gT : G F.T = none
  tape : TapeAt F.T G H t
  fr : ∀ b o, F.H0 b = some o → b ≠ F.T → H b = some o
  gn : ∀ b o, G b = some o → F.G0 b = some o ∨ F.H0 b = none

def OwAt (F : Fm) (G H : Hp) (p : Addr) (xs : List PyData) : Prop := ∃ vs, G p = none ∧ H p = some (.lst vs) ∧ RpA G vs xs ∧ F.H0 p = none ∧ p ≠ F.T
def SlotOk (F : Fm) (G H : Hp) : Sl → Option V → Prop
  | .un, _ => True
  | .fz d, v => ∃ u, v = some u ∧ Rp G u d
  | .ow xs, v => ∃ p, v = some (.ref p) ∧ OwAt F G H p xs
  | .tp, v => v = some (.ref F.T)

structure Wd (F : Fm) (t : Tape) (ρ : List Sl) (G H : Hp) (σ : St) : Prop where
  co : Co F t G H
  len : ρ.length = σ.length
  sl : ∀ (i : Nat) s v, ρ[i]? = some s → σ[i]? = some v → SlotOk F G H s v
  ap : ∀ (i j : Nat) xs ys v, ρ[i]? = some (.ow xs) → ρ[j]? = some (.ow ys) → σ[i]? = some (some v) → σ[j]? = some (some v) → i = j

section
variable {F : Fm} {t : Tape} {ρ : List Sl} {G H : Hp} {σ : St}
theorem same_upd {H : Hp} {p : Addr} {o : HO} (h : H p = none) : Same H (upd H p o) := fun b x e => by
  rw [upd_ne (ne_of_none e h)]
  exact e
theorem sm_none {G H : Hp} (s : Same G H) {p : Addr} (h : H p = none) : G p = none := s.free h
theorem sm_upd2 {G H : Hp} (s : Same G H) {p : Addr} {o : HO} : Same (upd G p o) (upd H p o) := fun b x e => by
  by_cases hb : b = p
  · subst hb
    rw [upd_same] at e
    rw [upd_same]
    exact e
  · rw [upd_ne hb] at e
    rw [upd_ne hb]
    exact s b x e
theorem Co.T_ne (c : Co F t G H) {p : Addr} (h : H p = none) : p ≠ F.T := by
  obtain ⟨a, _, e⟩ := c.tape
  exact fun z => by rw [z, e] at h; cases h
theorem Co.H0_none (c : Co F t G H) {p : Addr} (h : H p = none) : F.H0 p = none := by
  cases e : F.H0 p with
  | none => rfl
  | some o =>
    have := c.fr p o e (c.T_ne h)
    rw [h] at this; cases this
/-- both heaps grow, the old part of H stays but for the tape -/
theorem Co.grow {G' H' : Hp} {t' : Tape} (c : Co F t G H) (sub : Same G' H') (gg : Same G G') (keep : ∀ b o, H b = some o → b ≠ F.T → H' b = some o) (gT : G' F.T = none) (tp : TapeAt F.T G' H' t')
    (gn : ∀ b o, G' b = some o → G b = some o ∨ F.H0 b = none) : Co F t' G' H' :=
  ⟨sub, gT, tp, fun b o e n => keep b o (c.fr b o e n) n, fun b o e => (gn b o e).elim (fun z => c.gn b o z) .inr⟩
theorem Co.fz {p : Addr} {o : HO} (c : Co F t G H) (h : H p = none) : Co F t (upd G p o) (upd H p o) := by
  have nT := c.T_ne h
  have g0 : G p = none := sm_none c.sub h
  obtain ⟨a, e1, e2⟩ := c.tape
  refine c.grow (sm_upd2 c.sub) (same_upd g0) (fun b u e _ => same_upd h b u e) (by rw [upd_ne nT.symm]; exact c.gT) ⟨a, same_upd g0 _ _ e1, by rw [upd_ne nT.symm]; exact e2⟩ fun b u e => ?_
  by_cases hb : b = p
  · subst hb; exact .inr (c.H0_none h)
  · rw [upd_ne hb] at e; exact .inl e
theorem Co.raw {p : Addr} {o : HO} (c : Co F t G H) (h : H p = none) : Co F t G (upd H p o) := by
  have nT := c.T_ne h
  obtain ⟨a, e1, e2⟩ := c.tape
  exact c.grow (fun b u e => same_upd h b u (c.sub b u e)) (Same.refl G) (fun b u e _ => same_upd h b u e) c.gT ⟨a, e1, by rw [upd_ne nT.symm]; exact e2⟩ fun b u e => .inl e
/-- what every slot needs of a growth -/
theorem SlotOk.grow {G' H' : Hp} {s : Sl} {v : Option V} (h : SlotOk F G H s v) (gg : Same G G') (keep : ∀ b o, H b = some o → b ≠ F.T → H' b = some o) (gn : ∀ b o, b ≠ F.T → G' b = some o → G b = some o ∨ H b = none) : SlotOk F G' H' s v := by
  cases s with
  | un => trivial
  | fz d =>
    obtain ⟨u, e, r⟩ := h
    exact ⟨u, e, r.mono gg⟩
  | ow xs =>
    obtain ⟨p, e, vs, g0, hp, r, h0, nT⟩ := h
    refine ⟨p, e, vs, ?_, keep p _ hp nT, r.mono gg, h0, nT⟩
    cases q : G' p with
    | none => rfl
    | some o =>
      rcases gn p o nT q with z | z
      · rw [g0] at z; cases z
      · rw [hp] at z; cases z
  | tp => exact h
theorem Wd.grow {G' H' : Hp} {t' : Tape} (w : Wd F t ρ G H σ) (c : Co F t' G' H') (gg : Same G G') (keep : ∀ b o, H b = some o → b ≠ F.T → H' b = some o) (gn : ∀ b o, b ≠ F.T → G' b = some o → G b = some o ∨ H b = none) : Wd F t' ρ G' H' σ :=
  ⟨c, w.len, fun i s v h1 h2 => (w.sl i s v h1 h2).grow gg keep gn, w.ap⟩
theorem gn_upd {p : Addr} {o : HO} (h : H p = none) : ∀ b u, b ≠ F.T → (upd G p o) b = some u → G b = some u ∨ H b = none := fun b u _ e => by
  by_cases hb : b = p
  · subst hb; exact .inr h
  · rw [upd_ne hb] at e; exact .inl e
/-- how an expression may change both heaps: nothing that stood but the tape, nothing that stood is frozen -/
structure Gw (F : Fm) (G H G' H' : Hp) : Prop where
  gg : Same G G'
  kp : ∀ b o, H b = some o → b ≠ F.T → H' b = some o
  gn : ∀ b o, b ≠ F.T → G' b = some o → G b = some o ∨ H b = none
theorem Gw.refl : Gw F G H G H := ⟨Same.refl G, fun _ _ e _ => e, fun _ _ _ e => .inl e⟩
theorem Gw.trans {G1 H1 G2 H2 : Hp} (a : Gw F G H G1 H1) (b : Gw F G1 H1 G2 H2) : Gw F G H G2 H2 :=
  ⟨a.gg.trans b.gg, fun c o e n => b.kp c o (a.kp c o e n) n, fun c o n e => by
    rcases b.gn c o n e with z | z
    · exact a.gn c o n z
    · cases q : H c with
      | none => exact .inr rfl
      | some u =>
        have := a.kp c u q n
        rw [z] at this
        cases this⟩
theorem Gw.fz {p : Addr} {o : HO} (w : Wd F t ρ G H σ) (h : H p = none) : Gw F G H (upd G p o) (upd H p o) :=
  ⟨same_upd (sm_none w.co.sub h), fun b u e _ => same_upd h b u e, gn_upd h⟩
theorem Gw.raw {p : Addr} {o : HO} (h : H p = none) : Gw F G H G (upd H p o) := ⟨Same.refl G, fun b u e _ => same_upd h b u e, fun _ _ _ e => .inl e⟩
theorem Wd.gw {G' H' : Hp} {t' : Tape} (w : Wd F t ρ G H σ) (c : Co F t' G' H') (g : Gw F G H G' H') : Wd F t' ρ G' H' σ := w.grow c g.gg g.kp g.gn
/-- a new frozen object -/
theorem Wd.fz {p : Addr} {o : HO} (w : Wd F t ρ G H σ) (h : H p = none) : Wd F t ρ (upd G p o) (upd H p o) σ :=
  w.grow (w.co.fz h) (same_upd (sm_none w.co.sub h)) (fun b u e _ => same_upd h b u e) (gn_upd h)
/-- a new object, not frozen -/
theorem Wd.raw {p : Addr} {o : HO} (w : Wd F t ρ G H σ) (h : H p = none) : Wd F t ρ G (upd H p o) σ :=
  w.grow (w.co.raw h) (Same.refl G) (fun b u e _ => same_upd h b u e) fun b u _ e => .inl e
/-- a slot is set to a frozen datum -/
theorem get_set {α : Type} {l : List α} {i j : Nat} {a b : α} (h : (l.set i a)[j]? = some b) : (j = i ∧ a = b ∧ i < l.length) ∨ (j ≠ i ∧ l[j]? = some b) := by
  by_cases e : i = j
  · subst e
    by_cases hi : i < l.length
    · rw [List.getElem?_set_self hi] at h
      exact .inl ⟨rfl, Option.some.inj h, hi⟩
    · rw [List.getElem?_eq_none (by simpa using hi)] at h; cases h
  · rw [List.getElem?_set_ne e] at h
    exact .inr ⟨fun z => e z.symm, h⟩
/-- a slot that is no owned list is set -/
theorem Wd.set {i : Nat} {s : Sl} {v : Option V} (w : Wd F t ρ G H σ) (h : SlotOk F G H s v) (hs : ∀ xs, s ≠ .ow xs) : Wd F t (ρ.set i s) G H (σ.set i v) := by
  refine ⟨w.co, by rw [List.length_set, List.length_set]; exact w.len, fun j s' v' h1 h2 => ?_, fun j k xs ys u h1 h2 h3 h4 => ?_⟩
  · rcases get_set h1 with ⟨e, e1, _⟩ | ⟨e, e1⟩
    · subst e
      rcases get_set h2 with ⟨_, e2, _⟩ | ⟨e', _⟩
      · subst e1; subst e2; exact h
      · exact absurd rfl e'
    · rcases get_set h2 with ⟨e', _, _⟩ | ⟨_, e2⟩
      · exact absurd e' e
      · exact w.sl j s' v' e1 e2
  · rcases get_set h1 with ⟨_, e1, _⟩ | ⟨e, e1⟩
    · exact absurd e1 (hs xs)
    · rcases get_set h2 with ⟨_, e2, _⟩ | ⟨e', e2⟩
      · exact absurd e2 (hs ys)
      · rcases get_set h3 with ⟨e3, _, _⟩ | ⟨_, e3⟩
        · exact absurd e3 e
        · rcases get_set h4 with ⟨e4, _, _⟩ | ⟨_, e4⟩
          · exact absurd e4 e'
          · exact w.ap j k xs ys u e1 e2 e3 e4
theorem Wd.setF {i : Nat} {d : PyData} {v : V} (w : Wd F t ρ G H σ) (h : Rp G v d) : Wd F t (ρ.set i (.fz d)) G H (σ.set i (some v)) := w.set ⟨v, rfl, h⟩ fun _ e => by cases e
/-- an owned list that no slot has -/
theorem Wd.setO {i : Nat} {xs : List PyData} {p : Addr} (w : Wd F t ρ G H σ) (h : OwAt F G H p xs) (hn : ∀ (j : Nat) ys, ρ[j]? = some (.ow ys) → σ[j]? ≠ some (some (.ref p))) : Wd F t (ρ.set i (.ow xs)) G H (σ.set i (some (.ref p))) := by
  refine ⟨w.co, by rw [List.length_set, List.length_set]; exact w.len, fun j s' v' h1 h2 => ?_, fun j k xs' ys u h1 h2 h3 h4 => ?_⟩
  · rcases get_set h1 with ⟨e, e1, _⟩ | ⟨e, e1⟩
    · subst e
      rcases get_set h2 with ⟨_, e2, _⟩ | ⟨e', _⟩
      · subst e1; subst e2; exact ⟨p, rfl, h⟩
      · exact absurd rfl e'
    · rcases get_set h2 with ⟨e', _, _⟩ | ⟨_, e2⟩
      · exact absurd e' e
      · exact w.sl j s' v' e1 e2
  · rcases get_set h3 with ⟨e3, f3, _⟩ | ⟨e3, f3⟩
    · rcases get_set h4 with ⟨e4, _, _⟩ | ⟨e4, f4⟩
      · rw [e3, e4]
      · cases f3
        rcases get_set h2 with ⟨z, _, _⟩ | ⟨_, g2⟩
        · exact absurd z e4
        · exact absurd f4 (hn k ys g2)
    · rcases get_set h4 with ⟨e4, f4, _⟩ | ⟨e4, f4⟩
      · cases f4
        rcases get_set h1 with ⟨z, _, _⟩ | ⟨_, g1⟩
        · exact absurd z e3
        · exact absurd f3 (hn j xs' g1)
      · rcases get_set h1 with ⟨z, _, _⟩ | ⟨_, g1⟩
        · exact absurd z e3
        · rcases get_set h2 with ⟨z, _, _⟩ | ⟨_, g2⟩
          · exact absurd z e4
          · exact w.ap j k xs' ys u g1 g2 f3 f4
theorem Wd.ow {i : Nat} {xs : List PyData} (w : Wd F t ρ G H σ) (h : ρ[i]? = some (.ow xs)) : ∃ p, σ[i]? = some (some (.ref p)) ∧ OwAt F G H p xs := by
  have hi : i < σ.length := by
    rw [← w.len]
    exact (List.getElem?_eq_some_iff.mp h).1
  obtain ⟨p, e, q⟩ := w.sl i _ _ h (List.getElem?_eq_getElem hi)
  exact ⟨p, by rw [List.getElem?_eq_getElem hi, e], q⟩
theorem Wd.fzv {i : Nat} {d : PyData} (w : Wd F t ρ G H σ) (h : ρ[i]? = some (.fz d)) : ∃ v, σ[i]? = some (some v) ∧ Rp G v d := by
  have hi : i < σ.length := by
    rw [← w.len]
    exact (List.getElem?_eq_some_iff.mp h).1
  obtain ⟨v, e, q⟩ := w.sl i _ _ h (List.getElem?_eq_getElem hi)
  exact ⟨v, by rw [List.getElem?_eq_getElem hi, e], q⟩
theorem Wd.tpv {i : Nat} (w : Wd F t ρ G H σ) (h : ρ[i]? = some .tp) : σ[i]? = some (some (.ref F.T)) := by
  have hi : i < σ.length := by
    rw [← w.len]
    exact (List.getElem?_eq_some_iff.mp h).1
  have e := w.sl i _ _ h (List.getElem?_eq_getElem hi)
  rw [List.getElem?_eq_getElem hi]
  exact congrArg some e
/-- the owned list of slot i is changed in place -/
theorem Wd.mut {i : Nat} {xs ys : List PyData} {p : Addr} {us : List V} (w : Wd F t ρ G H σ) (h : ρ[i]? = some (.ow xs)) (hp : σ[i]? = some (some (.ref p))) (r : RpA G us ys) : Wd F t (ρ.set i (.ow ys)) G (upd H p (.lst us)) σ := by
  obtain ⟨p', e, vs, g0, hl, _, h0, nT⟩ := w.ow h
  rw [hp] at e
  cases e
  have keep : ∀ b o, b ≠ p → H b = some o → upd H p (.lst us) b = some o := fun b o n e => by rw [upd_ne n]; exact e
  have gp : ∀ b o, G b = some o → b ≠ p := fun b o e z => by rw [z, g0] at e; cases e
  obtain ⟨c, c1, c2⟩ := w.co.tape
  have co : Co F t G (upd H p (.lst us)) := by
    refine ⟨fun b o e => keep b o (gp b o e) (w.co.sub b o e), w.co.gT, ⟨c, c1, keep _ _ nT.symm c2⟩, fun b o e n => keep b o (fun z => by rw [z, h0] at e; cases e) (w.co.fr b o e n), w.co.gn⟩
  refine ⟨co, by rw [List.length_set]; exact w.len, fun j s v h1 h2 => ?_, fun j k xs' ys' u h1 h2 h3 h4 => ?_⟩
  · rcases get_set h1 with ⟨ej, es, _⟩ | ⟨ej, es⟩
    · subst ej; subst es
      rw [hp] at h2
      cases h2
      exact ⟨p, rfl, us, g0, upd_same, r, h0, nT⟩
    · have q := w.sl j s v es h2
      cases s with
      | un => trivial
      | fz d => exact q
      | ow zs =>
        obtain ⟨b, e, ws, g1, hb, rb, hb0, nb⟩ := q
        refine ⟨b, e, ws, g1, keep b _ (fun z => ?_) hb, rb, hb0, nb⟩
        subst z
        exact ej (w.ap j i zs xs (.ref b) es h (by rw [h2, e]) hp)
      | tp => exact q
  · have f1 : ∃ zs, ρ[j]? = some (.ow zs) := by
      rcases get_set h1 with ⟨e, _, _⟩ | ⟨_, e⟩
      · exact ⟨xs, by rw [e]; exact h⟩
      · exact ⟨_, e⟩
    have f2 : ∃ zs, ρ[k]? = some (.ow zs) := by
      rcases get_set h2 with ⟨e, _, _⟩ | ⟨_, e⟩
      · exact ⟨xs, by rw [e]; exact h⟩
      · exact ⟨_, e⟩
    obtain ⟨z1, e1⟩ := f1
    obtain ⟨z2, e2⟩ := f2
    exact w.ap j k z1 z2 u e1 e2 h3 h4
/-- an owned list is frozen -/
theorem Wd.freeze {i : Nat} {xs : List PyData} (w : Wd F t ρ G H σ) (h : ρ[i]? = some (.ow xs)) : ∃ G', Same G G' ∧ Wd F t (ρ.set i (.fz (.list xs))) G' H σ := by
  obtain ⟨p, e, vs, g0, hl, r, h0, nT⟩ := w.ow h
  have gg : Same G (upd G p (.lst vs)) := same_upd g0
  obtain ⟨c, c1, c2⟩ := w.co.tape
  have sub : Same (upd G p (.lst vs)) H := fun b o q => by
    by_cases hb : b = p
    · subst hb; rw [upd_same] at q; cases q; exact hl
    · rw [upd_ne hb] at q; exact w.co.sub b o q
  refine ⟨upd G p (.lst vs), gg, ⟨⟨sub, by rw [upd_ne nT.symm]; exact w.co.gT, ⟨c, gg _ _ c1, c2⟩, w.co.fr, fun b o q => ?_⟩, by rw [List.length_set]; exact w.len, fun j s v h1 h2 => ?_, fun j k xs' ys' u h1 h2 h3 h4 => ?_⟩⟩
  · by_cases hb : b = p
    · subst hb; exact .inr h0
    · rw [upd_ne hb] at q; exact w.co.gn b o q
  · rcases get_set h1 with ⟨ej, es, _⟩ | ⟨ej, es⟩
    · subst ej; subst es
      rw [e] at h2
      cases h2
      exact ⟨_, rfl, .lst upd_same (r.mono gg)⟩
    · have q := w.sl j s v es h2
      cases s with
      | un => trivial
      | fz d =>
        obtain ⟨u, e, ru⟩ := q
        exact ⟨u, e, ru.mono gg⟩
      | ow zs =>
        obtain ⟨b, eb, ws, g1, hb, rb, hb0, nb⟩ := q
        refine ⟨b, eb, ws, ?_, hb, rb.mono gg, hb0, nb⟩
        rw [upd_ne fun z => ?_]
        · exact g1
        · subst z
          exact ej (w.ap j i zs xs (.ref b) es h (by rw [h2, eb]) e)
      | tp => exact q
  · rcases get_set h1 with ⟨_, z, _⟩ | ⟨_, e1⟩
    · cases z
    · rcases get_set h2 with ⟨_, z, _⟩ | ⟨_, e2⟩
      · cases z
      · exact w.ap j k xs' ys' u e1 e2 h3 h4
/-- a new list that no slot has is frozen -/
theorem Wd.freezeN {xs : List PyData} {p : Addr} (w : Wd F t ρ G H σ) (h : OwAt F G H p xs) (hn : ∀ (j : Nat) ys, ρ[j]? = some (.ow ys) → σ[j]? ≠ some (some (.ref p))) : ∃ G', Same G G' ∧ (∀ b o, G' b = some o → G b = some o ∨ b = p) ∧ Wd F t ρ G' H σ ∧ Rp G' (.ref p) (.list xs) := by
  obtain ⟨vs, g0, hl, r, h0, nT⟩ := h
  have gg : Same G (upd G p (.lst vs)) := same_upd g0
  obtain ⟨c, c1, c2⟩ := w.co.tape
  have sub : Same (upd G p (.lst vs)) H := fun b o q => by
    by_cases hb : b = p
    · subst hb; rw [upd_same] at q; cases q; exact hl
    · rw [upd_ne hb] at q; exact w.co.sub b o q
  refine ⟨upd G p (.lst vs), gg, fun b o q => ?_, ⟨⟨sub, by rw [upd_ne nT.symm]; exact w.co.gT, ⟨c, gg _ _ c1, c2⟩, w.co.fr, fun b o q => ?_⟩, w.len, fun j s v h1 h2 => ?_, w.ap⟩, .lst upd_same (r.mono gg)⟩
  · by_cases hb : b = p
    · exact .inr hb
    · rw [upd_ne hb] at q; exact .inl q
  · by_cases hb : b = p
    · subst hb; exact .inr h0
    · rw [upd_ne hb] at q; exact w.co.gn b o q
  · have q := w.sl j s v h1 h2
    cases s with
    | un => trivial
    | fz d =>
      obtain ⟨u, e, ru⟩ := q
      exact ⟨u, e, ru.mono gg⟩
    | ow zs =>
      obtain ⟨b, eb, ws, g1, hb, rb, hb0, nb⟩ := q
      refine ⟨b, eb, ws, ?_, hb, rb.mono gg, hb0, nb⟩
      rw [upd_ne fun z => ?_]
      · exact g1
      · subst z
        exact hn j zs h1 (by rw [h2, eb])
    | tp => exact q
/-- a list laid anew is owned by nobody -/
theorem Wd.newL {vs : List V} {xs : List PyData} {p : Addr} (w : Wd F t ρ G H σ) (h : H p = none) (r : RpA G vs xs) : Wd F t ρ G (upd H p (.lst vs)) σ ∧ OwAt F G (upd H p (.lst vs)) p xs ∧ ∀ (j : Nat) ys, ρ[j]? = some (.ow ys) → σ[j]? ≠ some (some (.ref p)) := by
  refine ⟨w.raw h, ⟨vs, sm_none w.co.sub h, upd_same, r, w.co.H0_none h, w.co.T_ne h⟩, fun j ys hj e => ?_⟩
  obtain ⟨q, eq, ws, _, hq, _⟩ := w.ow hj
  rw [e] at eq
  cases eq
  rw [h] at hq
  cases hq
end
end DL

set_option maxHeartbeats 1000000
/-! The data layer, part B: what readings compute, as functions of the slots and the tape. -/
namespace DL
open PySem L2

abbrev ME := List Sl → M PyData
abbrev MB := List Sl → M Bool
abbrev ML := List Sl → M (List PyData)
abbrev MA := List Sl → M (List Sl)

/-- a frozen result -/
def EvF (t : TE) (m : ME) : Prop := ∀ (F : Fm) (t0 t1 : Tape) (ρ : List Sl) (G H : Hp) (σ : St) (d : PyData), m ρ t0 = some (d, t1) → Wd F t0 ρ G H σ →
  ∀ Q : VK, (∀ v G' H', Wd F t1 ρ G' H' σ → Gw F G H G' H' → Rp G' v d → Q v H') → t σ H Q
/-- a result that may be an owned list of a slot, to be read alone -/
def Bo (ρ : List Sl) (G : Hp) (σ : St) (v : V) (d : PyData) : Prop := Rp G v d ∨ ∃ (i : Nat) (xs : List PyData), ρ[i]? = some (.ow xs) ∧ σ[i]? = some (some v) ∧ d = .list xs
def EvB (t : TE) (m : ME) : Prop := ∀ (F : Fm) (t0 t1 : Tape) (ρ : List Sl) (G H : Hp) (σ : St) (d : PyData), m ρ t0 = some (d, t1) → Wd F t0 ρ G H σ →
  ∀ Q : VK, (∀ v G' H', Wd F t1 ρ G' H' σ → Gw F G H G' H' → Bo ρ G' σ v d → Q v H') → t σ H Q
/-- a new list that nobody owns -/
def NewL (F : Fm) (ρ : List Sl) (G H : Hp) (σ : St) (p : Addr) (xs : List PyData) : Prop := OwAt F G H p xs ∧ ∀ (j : Nat) ys, ρ[j]? = some (.ow ys) → σ[j]? ≠ some (some (.ref p))
def EvN (t : TE) (m : ML) : Prop := ∀ (F : Fm) (t0 t1 : Tape) (ρ : List Sl) (G H : Hp) (σ : St) (xs : List PyData), m ρ t0 = some (xs, t1) → Wd F t0 ρ G H σ →
  ∀ Q : VK, (∀ p G' H', Wd F t1 ρ G' H' σ → Gw F G H G' H' → NewL F ρ G' H' σ p xs → H p = none → Q (.ref p) H') → t σ H Q
def EvT (t : TT) (m : MB) : Prop := ∀ (F : Fm) (t0 t1 : Tape) (ρ : List Sl) (G H : Hp) (σ : St) (b : Bool), m ρ t0 = some (b, t1) → Wd F t0 ρ G H σ →
  ∀ Q : Bool → Hp → Prop, (∀ G' H', Wd F t1 ρ G' H' σ → Gw F G H G' H' → Q b H') → t σ H Q
/-- argument lists: frozen data; read data; slots (for a def's call) -/
def EvL (t : TA) (m : ML) : Prop := ∀ (F : Fm) (t0 t1 : Tape) (ρ : List Sl) (G H : Hp) (σ : St) (ds : List PyData), m ρ t0 = some (ds, t1) → Wd F t0 ρ G H σ →
  ∀ Q : List V → Hp → Prop, (∀ vs G' H', Wd F t1 ρ G' H' σ → Gw F G H G' H' → RpA G' vs ds → Q vs H') → t σ H Q
inductive BoA (ρ : List Sl) (G : Hp) (σ : St) : List V → List PyData → Prop
  | nil : BoA ρ G σ [] []
  | cons {v : V} {vs : List V} {d : PyData} {ds : List PyData} (h : Bo ρ G σ v d) (r : BoA ρ G σ vs ds) : BoA ρ G σ (v :: vs) (d :: ds)
def EvR (t : TA) (m : ML) : Prop := ∀ (F : Fm) (t0 t1 : Tape) (ρ : List Sl) (G H : Hp) (σ : St) (ds : List PyData), m ρ t0 = some (ds, t1) → Wd F t0 ρ G H σ →
  ∀ Q : List V → Hp → Prop, (∀ vs G' H', Wd F t1 ρ G' H' σ → Gw F G H G' H' → BoA ρ G' σ vs ds → Q vs H') → t σ H Q
def AgOk (T : Addr) (G : Hp) : Sl → V → Prop
  | .fz d, v => Rp G v d
  | .tp, v => v = .ref T
  | _, _ => False
inductive AgsOk (T : Addr) (G : Hp) : List Sl → List V → Prop
  | nil : AgsOk T G [] []
  | cons {s : Sl} {ss : List Sl} {v : V} {vs : List V} (h : AgOk T G s v) (r : AgsOk T G ss vs) : AgsOk T G (s :: ss) (v :: vs)
def EvA (t : TA) (m : MA) : Prop := ∀ (F : Fm) (t0 t1 : Tape) (ρ : List Sl) (G H : Hp) (σ : St) (as : List Sl), m ρ t0 = some (as, t1) → Wd F t0 ρ G H σ →
  ∀ Q : List V → Hp → Prop, (∀ vs G' H', Wd F t1 ρ G' H' σ → Gw F G H G' H' → AgsOk F.T G' as vs → Q vs H') → t σ H Q

section
variable {F : Fm} {t : Tape} {ρ : List Sl} {G H G' : Hp} {σ : St} {v : V} {d : PyData}
theorem Bo.mono (e : Same G G') (h : Bo ρ G σ v d) : Bo ρ G' σ v d := h.elim (fun r => .inl (r.mono e)) .inr
theorem BoA.mono (e : Same G G') : ∀ {vs : List V} {ds : List PyData}, BoA ρ G σ vs ds → BoA ρ G' σ vs ds
  | _, _, .nil => .nil
  | _, _, .cons h r => .cons (h.mono e) (r.mono e)
theorem AgOk.mono {T : Addr} {s : Sl} (e : Same G G') (h : AgOk T G s v) : AgOk T G' s v := by
  cases s with
  | fz d => exact Rp.mono e h
  | tp => exact h
  | un => exact h
  | ow _ => exact h
theorem AgsOk.mono {T : Addr} (e : Same G G') : ∀ {ss : List Sl} {vs : List V}, AgsOk T G ss vs → AgsOk T G' ss vs
  | _, _, .nil => .nil
  | _, _, .cons h r => .cons (h.mono e) (r.mono e)
theorem AgsOk.length {T : Addr} : ∀ {ss : List Sl} {vs : List V}, AgsOk T G ss vs → ss.length = vs.length
  | _, _, .nil => rfl
  | _, _, .cons _ r => congrArg (· + 1) r.length
theorem Bo.rp (w : Wd F t ρ G H σ) (h : Bo ρ G σ v d) : Rp H v d := by
  rcases h with r | ⟨i, xs, e1, e2, rfl⟩
  · exact r.mono w.co.sub
  · obtain ⟨p, e, vs, _, hp, r, _⟩ := w.ow e1
    rw [e2] at e
    cases e
    exact .lst hp (r.mono w.co.sub)
theorem Bo.lst {ds : List PyData} (w : Wd F t ρ G H σ) (h : Bo ρ G σ v (.list ds)) : ∃ p vs, v = .ref p ∧ H p = some (.lst vs) ∧ RpA G vs ds := by
  rcases h with r | ⟨i, xs, e1, e2, e3⟩
  · cases r with
    | lst h r => exact ⟨_, _, rfl, w.co.sub _ _ h, r⟩
  · cases e3
    obtain ⟨p, e, vs, _, hp, r, _⟩ := w.ow e1
    rw [e2] at e
    cases e
    exact ⟨p, vs, rfl, hp, r⟩
theorem Bo.tup {ds : List PyData} (w : Wd F t ρ G H σ) (h : Bo ρ G σ v (.tuple ds)) : ∃ p vs, v = .ref p ∧ H p = some (.tup vs) ∧ G p = some (.tup vs) ∧ RpA G vs ds := by
  rcases h with r | ⟨i, xs, e1, e2, e3⟩
  · cases r with
    | tup h r => exact ⟨_, _, rfl, w.co.sub _ _ h, h, r⟩
  · cases e3
theorem Bo.int {i : Int} (h : Bo ρ G σ v (.int i)) : v = .int i := by
  rcases h with r | ⟨_, _, _, _, e3⟩
  · cases r; rfl
  · cases e3
theorem Bo.str {x : Str} (h : Bo ρ G σ v (.str x)) : v = .str x := by
  rcases h with r | ⟨_, _, _, _, e3⟩
  · cases r; rfl
  · cases e3
theorem Bo.bool {b : Bool} (h : Bo ρ G σ v (.bool b)) : v = .bl b := by
  rcases h with r | ⟨_, _, _, _, e3⟩
  · cases r; rfl
  · cases e3
theorem Bo.none (h : Bo ρ G σ v .none) : v = .non := by
  rcases h with r | ⟨_, _, _, _, e3⟩
  · cases r; rfl
  · cases e3
end

theorem kp_none {F : Fm} {t : Tape} {ρ : List Sl} {G H G' H' : Hp} {σ : St} {p : Addr} (w : Wd F t ρ G H σ) (s : Gw F G H G' H') (h : H' p = none) (nT : p ≠ F.T) : H p = none := by
  cases q : H p with
  | none => rfl
  | some u =>
    have := s.kp p u q nT
    rw [h] at this
    cases this
theorem EvF.b {t : TE} {m : ME} (h : EvF t m) : EvB t m := fun F t0 t1 ρ G H σ d e w Q q => h F t0 t1 ρ G H σ d e w Q fun v G' H' w' s r => q v G' H' w' s (.inl r)
def eList (m : ML) : ME := fun ρ => do
  let xs ← m ρ
  pure (.list xs)
theorem EvN.f {t : TE} {m : ML} (h : EvN t m) : EvF t (eList m) := fun F t0 t1 ρ G H σ d e w Q q => by
  obtain ⟨xs, t2, e1, e2⟩ := bnd_some e
  obtain ⟨rfl, rfl⟩ := pure_some e2
  refine h F t0 _ ρ G H σ xs e1 w Q fun p G' H' w' s n hp => ?_
  obtain ⟨G2, s2, gn, w2, r2⟩ := w'.freezeN n.1 n.2
  refine q _ G2 H' w2 ⟨s.gg.trans s2, s.kp, fun b o nb e => ?_⟩ r2
  rcases gn b o e with z | z
  · exact s.gn b o nb z
  · exact .inr (z ▸ hp)

/-! ### names, constants -/
def rdF (ρ : List Sl) (i : Nat) : Option PyData := match ρ[i]? with
  | some (.fz d) => some d
  | _ => none
def rdB (ρ : List Sl) (i : Nat) : Option PyData := match ρ[i]? with
  | some (.fz d) => some d
  | some (.ow xs) => some (.list xs)
  | _ => none
def eVar (i : Nat) : ME := fun ρ => M.lift (rdF ρ i)
def bVar (i : Nat) : ME := fun ρ => M.lift (rdB ρ i)
def eC (d : PyData) : ME := fun _ => pure d
theorem ev_var (i : Nat) : EvF (tVar i) (eVar i) := fun F t0 t1 ρ G H σ d e w Q q => by
  obtain ⟨e', rfl⟩ := lift_some e
  unfold rdF at e'
  split at e'
  · rename_i d' hr
    cases e'
    obtain ⟨v, hv, r⟩ := w.fzv hr
    exact ⟨v, hv, q v G H w Gw.refl r⟩
  · cases e'
theorem ev_bvar (i : Nat) : EvB (tVar i) (bVar i) := fun F t0 t1 ρ G H σ d e w Q q => by
  obtain ⟨e', rfl⟩ := lift_some e
  unfold rdB at e'
  split at e'
  · rename_i d' hr
    cases e'
    obtain ⟨v, hv, r⟩ := w.fzv hr
    exact ⟨v, hv, q v G H w Gw.refl (.inl r)⟩
  · rename_i xs hr
    cases e'
    obtain ⟨p, hv, _⟩ := w.ow hr
    exact ⟨_, hv, q _ G H w Gw.refl (.inr ⟨i, xs, hr, hv, rfl⟩)⟩
  · cases e'
theorem ev_c {v : V} {d : PyData} (h : ∀ G, Rp G v d) : EvF (tC v) (eC d) := fun F t0 t1 ρ G H σ d' e w Q q => by
  obtain ⟨rfl, rfl⟩ := pure_some e
  exact q v G H w Gw.refl (h G)

/-! ### operators -/
/-- a two-place operation, by what its values stand for -/
def Op2 (r : R2) (g : PyData → PyData → Option PyData) : Prop := ∀ (F : Fm) (t : Tape) (ρ : List Sl) (G H : Hp) (σ : St) (x y : V) (a b c : PyData), g a b = some c → Wd F t ρ G H σ → Bo ρ G σ x a → Bo ρ G σ y b →
  ∀ Q : VK, (∀ v G' H', Wd F t ρ G' H' σ → Gw F G H G' H' → Rp G' v c → Q v H') → r x y H Q
def e2 (g : PyData → PyData → Option PyData) (ma mb : ME) : ME := fun ρ => do
  let a ← ma ρ
  let b ← mb ρ
  M.lift (g a b)
theorem ev_op {r : R2} {g : PyData → PyData → Option PyData} {ta tb : TE} {ma mb : ME} (hr : Op2 r g) (ha : EvB ta ma) (hb : EvB tb mb) : EvF (tOp r ta tb) (e2 g ma mb) := fun F t0 t1 ρ G H σ d e w Q q => by
  obtain ⟨a, t2, e1, e⟩ := bnd_some e
  obtain ⟨b, t3, e2, e⟩ := bnd_some e
  obtain ⟨e3, rfl⟩ := lift_some e
  refine ha F t0 t2 ρ G H σ a e1 w _ fun x G1 H1 w1 s1 r1 => ?_
  refine hb F t2 _ ρ G1 H1 σ b e2 w1 _ fun y G2 H2 w2 s2 r2 => ?_
  exact hr F _ ρ G2 H2 σ x y a b d e3 w2 (r1.mono s2.gg) r2 Q fun v G3 H3 w3 s3 r3 => q v G3 H3 w3 ((s1.trans s2).trans s3) r3
theorem Op2.or {r r' : R2} {g g' : PyData → PyData → Option PyData} (h : Op2 r g) (h' : Op2 r' g') : Op2 (fun x y H Q => r x y H Q ∨ r' x y H Q) (fun a b => (g a b).or (g' a b)) := fun F t ρ G H σ x y a b c e w hx hy Q q => by
  cases e1 : g a b with
  | some z =>
    have e2 : (some z).or (g' a b) = some c := by rw [← e1]; exact e
    cases e2
    exact .inl (h F t ρ G H σ x y a b c e1 w hx hy Q q)
  | none =>
    have e2 : (none : Option PyData).or (g' a b) = some c := by rw [← e1]; exact e
    exact .inr (h' F t ρ G H σ x y a b c (by simpa using e2) w hx hy Q q)
/-- ints alone -/
def gI (C : Int → Int → Bool) (f : Int → Int → PyData) : PyData → PyData → Option PyData
  | .int i, .int j => if C i j then some (f i j) else none
  | _, _ => none
def gI0 (f : Int → Int → PyData) : PyData → PyData → Option PyData
  | .int i, .int j => some (f i j)
  | _, _ => none
theorem op2_int {C : Int → Int → Bool} {f : Int → Int → PyData} {P : Int → Int → Prop} {k : Int → Int → V} (hP : ∀ i j, C i j = true → P i j) (hk : ∀ i j G, Rp G (k i j) (f i j)) : Op2 (rI P k) (gI C f) := fun F t ρ G H σ x y a b c e w hx hy Q q => by
  unfold gI at e
  split at e
  · rename_i i j
    split at e
    · rename_i hc
      cases e
      exact ⟨i, j, hx.int, hy.int, hP i j hc, q _ G H w Gw.refl (hk i j G)⟩
    · cases e
  · cases e
theorem op2_int0 {f : Int → Int → PyData} {k : Int → Int → V} (hk : ∀ i j G, Rp G (k i j) (f i j)) : Op2 (rI0 k) (gI0 f) := fun F t ρ G H σ x y a b c e w hx hy Q q => by
  unfold gI0 at e
  split at e
  · rename_i i j
    cases e
    exact ⟨i, j, hx.int, hy.int, q _ G H w Gw.refl (hk i j G)⟩
  · cases e
def okMul (i j : Int) : Bool := decide (i.natAbs.log2 + j.natAbs.log2 < 1000000)
def okDiv (_ j : Int) : Bool := decide (0 < j) && decide (j.natAbs.log2 < 9000)
def okMod (_ j : Int) : Bool := decide (0 < j)
def okPow (i j : Int) : Bool := decide (0 ≤ j) && decide (j ≤ 1000000) && decide (i.natAbs < 2 ^ 64)
def gSub := gI0 fun i j => .int (i - j)
def gMulI := gI okMul fun i j => .int (i * j)
def gDiv := gI okDiv fun i j => .int (i / j)
def gMod := gI okMod fun i j => .int (i % j)
def gPow := gI okPow fun i j => .int (i ^ j.toNat)
def gAddI := gI0 fun i j => .int (i + j)
def gLtI := gI0 fun i j => .bool (decide (i < j))
def gLeI := gI0 fun i j => .bool (decide (i ≤ j))
def gGtI := gI0 fun i j => .bool (decide (j < i))
def gGeI := gI0 fun i j => .bool (decide (j ≤ i))
theorem o_sub : Op2 (rI0 fun i j => .int (i - j)) gSub := op2_int0 fun _ _ _ => .int _
theorem o_addI : Op2 (rI0 fun i j => .int (i + j)) gAddI := op2_int0 fun _ _ _ => .int _
theorem o_mulI : Op2 (rI CMulW fun i j => .int (i * j)) gMulI := op2_int (fun i j h => (show i.natAbs.log2 + j.natAbs.log2 < 1000000 from of_decide_eq_true h)) fun _ _ _ => .int _
theorem o_div : Op2 (rI CDivW fun i j => .int (i / j)) gDiv := op2_int (fun i j h => by
  unfold okDiv at h
  rw [Bool.and_eq_true] at h
  exact ⟨of_decide_eq_true h.1, of_decide_eq_true h.2⟩) fun _ _ _ => .int _
theorem o_mod : Op2 (rI (fun _ j => 0 < j) fun i j => .int (i % j)) gMod := op2_int (fun i j h => of_decide_eq_true h) fun _ _ _ => .int _
theorem o_pow : Op2 (rI CPow fun i j => .int (i ^ j.toNat)) gPow := op2_int (fun i j h => by
  unfold okPow at h
  rw [Bool.and_eq_true, Bool.and_eq_true] at h
  exact ⟨of_decide_eq_true h.1.1, of_decide_eq_true h.1.2, of_decide_eq_true h.2⟩) fun _ _ _ => .int _
theorem o_ltI : Op2 (rI0 fun i j => .bl (decide (i < j))) gLtI := op2_int0 fun _ _ _ => .bl _
theorem o_leI : Op2 (rI0 fun i j => .bl (decide (i ≤ j))) gLeI := op2_int0 fun _ _ _ => .bl _
theorem o_gtI : Op2 (rI0 fun i j => .bl (decide (j < i))) gGtI := op2_int0 fun _ _ _ => .bl _
theorem o_geI : Op2 (rI0 fun i j => .bl (decide (j ≤ i))) gGeI := op2_int0 fun _ _ _ => .bl _
/-- == and != of data -/
def gEq (a b : PyData) : Option PyData := if SeqAt.shaped a && SeqAt.shaped b then some (.bool (PyData.eqv a b)) else none
def gNe (a b : PyData) : Option PyData := if SeqAt.shaped a && SeqAt.shaped b then some (.bool (!PyData.eqv a b)) else none
theorem o_eq {K : PySem.W.Frag} : Op2 (rEqD K) gEq := fun F t ρ G H σ x y a b c e w hx hy Q q => by
  unfold gEq at e
  split at e
  · rename_i hc
    rw [Bool.and_eq_true] at hc
    cases e
    exact ⟨a, b, (hx.rp w).dp, (hy.rp w).dp, hc.1, hc.2, q _ G H w Gw.refl (.bl _)⟩
  · cases e
theorem o_ne {K : PySem.W.Frag} : Op2 (rNeD K) gNe := fun F t ρ G H σ x y a b c e w hx hy Q q => by
  unfold gNe at e
  split at e
  · rename_i hc
    rw [Bool.and_eq_true] at hc
    cases e
    exact ⟨a, b, (hx.rp w).dp, (hy.rp w).dp, hc.1, hc.2, q _ G H w Gw.refl (.bl _)⟩
  · cases e
/-- is None, is not None -/
def isNone : PyData → Bool
  | .none => true
  | _ => false
def gIsN (a b : PyData) : Option PyData := if isNone b then some (.bool (isNone a)) else none
def gNotN (a b : PyData) : Option PyData := if isNone b then some (.bool (!isNone a)) else none
theorem Rp.isN {G : Hp} {v : V} {d : PyData} (h : Rp G v d) : decide (v = .non) = isNone d := by
  cases h <;> simp [isNone]
theorem isNone_eq {d : PyData} (h : isNone d = true) : d = .none := by
  cases d <;> simp_all [isNone]
theorem o_isN : Op2 (fun x y H Q => y = .non ∧ Q (.bl (decide (x = .non))) H) gIsN := fun F t ρ G H σ x y a b c e w hx hy Q q => by
  unfold gIsN at e
  split at e
  · rename_i hb
    cases isNone_eq hb
    cases e
    refine ⟨hy.none, q _ G H w Gw.refl ?_⟩
    rw [(hx.rp w).isN]
    exact .bl _
  · cases e
theorem o_notN : Op2 (fun x y H Q => y = .non ∧ Q (.bl (!decide (x = .non))) H) gNotN := fun F t ρ G H σ x y a b c e w hx hy Q q => by
  unfold gNotN at e
  split at e
  · rename_i hb
    cases isNone_eq hb
    cases e
    refine ⟨hy.none, q _ G H w Gw.refl ?_⟩
    rw [(hx.rp w).isN]
    exact .bl _
  · cases e
/-- a list and a list -/
def okLen (n : Nat) : Bool := decide (n ≤ 1000000)
theorem okLen_le {n : Nat} (h : okLen n = true) : n ≤ sizeLine := Nat.le_trans (of_decide_eq_true h) (by decide)
theorem okLen_lt {n : Nat} (h : okLen n = true) : n < sizeLine := Nat.lt_of_le_of_lt (of_decide_eq_true h) (by decide)
def gCatL : PyData → PyData → Option PyData
  | .list xs, .list ys => if okLen (xs.length + ys.length) then some (.list (xs ++ ys)) else none
  | _, _ => none
theorem o_catL : Op2 rCat gCatL := fun F t ρ G H σ x y a b c e w hx hy Q q => by
  unfold gCatL at e
  split at e
  · rename_i xs ys
    split at e
    · rename_i hz
      cases e
      obtain ⟨p, vs, rfl, hp, rp⟩ := hx.lst w
      obtain ⟨p', us, rfl, hp', rp'⟩ := hy.lst w
      refine ⟨p, p', vs, us, rfl, rfl, hp, hp', by rw [rp.length, rp'.length]; exact okLen_le hz, fun z hz' => ?_⟩
      have g0 := sm_none w.co.sub hz'
      exact q _ _ _ (w.fz hz') (Gw.fz w hz') (.lst upd_same ((rp.append rp').mono (same_upd g0)))
    · cases e
  · cases e
def gCatT : PyData → PyData → Option PyData
  | .tuple (x :: xs), .tuple ys => if okLen ((x :: xs).length + ys.length) then some (.tuple ((x :: xs) ++ ys)) else none
  | _, _ => none
theorem o_catT {K : PySem.W.Frag} : Op2 (rCatT K) gCatT := fun F t ρ G H σ x y a b c e w hx hy Q q => by
  unfold gCatT at e
  split at e
  · rename_i d0 xs ys
    split at e
    · rename_i hz
      cases e
      obtain ⟨p, vs, rfl, hp, gp, rp⟩ := hx.tup w
      obtain ⟨p', us, rfl, hp', gp', rp'⟩ := hy.tup w
      refine ⟨p, p', vs, us, rfl, rfl, SqT.of hp, SqT.of hp', fun z => ?_, by rw [rp.length, rp'.length]; exact okLen_le hz, fun z => ?_, fun z p1 hz' => ?_⟩
      · rw [z] at rp
        cases rp
      · have e0 : ys = [] := by
          have := rp'.length
          rw [z] at this
          exact List.length_eq_zero_iff.mp this.symm
        subst e0
        exact q _ G H w Gw.refl (by rw [List.append_nil]; exact .tup gp rp)
      · have g0 := sm_none w.co.sub hz'
        exact q _ _ _ (w.fz hz') (Gw.fz w hz') (.tup upd_same ((rp.append rp').mono (same_upd g0)))
    · cases e
  · cases e
def gCatS : PyData → PyData → Option PyData
  | .str x, .str y => if okLen (x.length + y.length) then some (.str (x ++ y)) else none
  | _, _ => none
theorem o_catS : Op2 (fun x y H Q => ∃ i j, x = .str i ∧ y = .str j ∧ i.length + j.length ≤ sizeLine ∧ Q (.str (i ++ j)) H) gCatS := fun F t ρ G H σ x y a b c e w hx hy Q q => by
  unfold gCatS at e
  split at e
  · rename_i i j
    split at e
    · rename_i hz
      cases e
      exact ⟨i, j, hx.str, hy.str, okLen_le hz, q _ G H w Gw.refl (.str _)⟩
    · cases e
  · cases e
def gAdd (a b : PyData) : Option PyData := (gAddI a b).or ((gCatL a b).or ((gCatT a b).or (gCatS a b)))
/-- a subscript -/
def gIx : PyData → PyData → Option PyData
  | .list xs, .int i => atI xs i
  | .tuple xs, .int i => atI xs i
  | _, _ => none
theorem RpA.atI {G : Hp} {vs : List V} {ds : List PyData} {i : Int} {d : PyData} (r : RpA G vs ds) (h : L2.atI ds i = some d) : ∃ v, L2.atI vs i = some v ∧ Rp G v d := by
  unfold L2.atI at h ⊢
  rw [r.length]
  cases e : ixN ds.length i with
  | none => rw [e] at h; cases h
  | some j =>
    rw [e] at h
    exact r.get h
theorem o_ix {K : PySem.W.Frag} : Op2 (rIx K) gIx := fun F t ρ G H σ x y a b c e w hx hy Q q => by
  unfold gIx at e
  split at e
  · rename_i xs i
    obtain ⟨p, vs, rfl, hp, rp⟩ := hx.lst w
    obtain ⟨v, hv, rv⟩ := rp.atI e
    exact .inl ⟨p, vs, i, v, rfl, hy.int, SqL.of hp, hv, q v G H w Gw.refl rv⟩
  · rename_i xs i
    obtain ⟨p, vs, rfl, hp, gp, rp⟩ := hx.tup w
    obtain ⟨v, hv, rv⟩ := rp.atI e
    exact .inr (.inl ⟨p, vs, i, v, rfl, hy.int, SqT.of hp, hv, q v G H w Gw.refl rv⟩)
  · cases e
/-- one-place operations -/
def e1 (g : PyData → Option PyData) (ma : ME) : ME := fun ρ => do
  let a ← ma ρ
  M.lift (g a)
def gNeg : PyData → Option PyData
  | .int i => some (.int (-i))
  | _ => none
theorem ev_neg {ta : TE} {ma : ME} (ha : EvB ta ma) : EvF (tUn (rU fun i => .int (-i)) ta) (e1 gNeg ma) := fun F t0 t1 ρ G H σ d e w Q q => by
  obtain ⟨a, t2, e1, e⟩ := bnd_some e
  obtain ⟨e3, rfl⟩ := lift_some e
  refine ha F t0 _ ρ G H σ a e1 w _ fun x G1 H1 w1 s1 r1 => ?_
  unfold gNeg at e3
  split at e3
  · cases e3
    exact ⟨_, r1.int, q _ G1 H1 w1 s1 (.int _)⟩
  · cases e3

/-! ### tests, and, or, not, if-else -/
def tOf (m : ME) : MB := fun ρ => do
  match ← m ρ with
  | .bool b => pure b
  | _ => M.fail
theorem tOf_some {m : ME} {ρ : List Sl} {t t1 : Tape} {b : Bool} (h : tOf m ρ t = some (b, t1)) : m ρ t = some (.bool b, t1) := by
  obtain ⟨a, t2, e1, e⟩ := bnd_some h
  split at e
  · obtain ⟨rfl, rfl⟩ := pure_some e
    exact e1
  · exact (fail_some e).elim
theorem ev_test {te : TE} {m : ME} (h : EvB te m) : EvT (tTest te) (tOf m) := fun F t0 t1 ρ G H σ b e w Q q =>
  h F t0 t1 ρ G H σ _ (tOf_some e) w _ fun v G' H' w' s r => ⟨b, r.bool, q G' H' w' s⟩
theorem ev_testB {te : TE} {m : ME} (h : EvB te m) : EvT (tB te) (tOf m) := fun F t0 t1 ρ G H σ b e w Q q =>
  h F t0 t1 ρ G H σ _ (tOf_some e) w _ fun v G' H' w' s r => ⟨b, r.bool, q G' H' w' s⟩
def bAnd (a b : MB) : MB := fun ρ => do
  if ← a ρ then b ρ else pure false
def bOr (a b : MB) : MB := fun ρ => do
  if ← a ρ then pure true else b ρ
def bNot (a : MB) : MB := fun ρ => do
  let b ← a ρ
  pure (!b)
theorem ev_and {t u : TT} {a b : MB} (ha : EvT t a) (hb : EvT u b) : EvT (tAnd t u) (bAnd a b) := fun F t0 t1 ρ G H σ c e w Q q => by
  obtain ⟨x, t2, e1, e⟩ := bnd_some e
  refine ha F t0 t2 ρ G H σ x e1 w _ fun G1 H1 w1 s1 => ?_
  cases x with
  | true =>
    refine iteT (hb F t2 t1 ρ G1 H1 σ c e w1 Q fun G2 H2 w2 s2 => q G2 H2 w2 (s1.trans s2))
  | false =>
    obtain ⟨rfl, rfl⟩ := pure_some (show (pure false : M Bool) t2 = some (c, t1) from e)
    exact iteF (q G1 H1 w1 s1)
theorem ev_or {t u : TT} {a b : MB} (ha : EvT t a) (hb : EvT u b) : EvT (tOr t u) (bOr a b) := fun F t0 t1 ρ G H σ c e w Q q => by
  obtain ⟨x, t2, e1, e⟩ := bnd_some e
  refine ha F t0 t2 ρ G H σ x e1 w _ fun G1 H1 w1 s1 => ?_
  cases x with
  | true =>
    obtain ⟨rfl, rfl⟩ := pure_some (show (pure true : M Bool) t2 = some (c, t1) from e)
    exact iteT (q G1 H1 w1 s1)
  | false => exact iteF (hb F t2 t1 ρ G1 H1 σ c e w1 Q fun G2 H2 w2 s2 => q G2 H2 w2 (s1.trans s2))
theorem ev_not {t : TT} {a : MB} (ha : EvT t a) : EvT (tNot t) (bNot a) := fun F t0 t1 ρ G H σ c e w Q q => by
  obtain ⟨x, t2, e1, e⟩ := bnd_some e
  obtain ⟨rfl, rfl⟩ := pure_some e
  exact ha F t0 _ ρ G H σ x e1 w _ fun G1 H1 w1 s1 => q G1 H1 w1 s1
def eIf (c : MB) (a b : ME) : ME := fun ρ => do
  if ← c ρ then a ρ else b ρ
theorem ev_if {t : TT} {ta tb : TE} {c : MB} {a b : ME} (hc : EvT t c) (ha : EvF ta a) (hb : EvF tb b) : EvF (tIf t ta tb) (eIf c a b) := fun F t0 t1 ρ G H σ d e w Q q => by
  obtain ⟨x, t2, e1, e⟩ := bnd_some e
  refine hc F t0 t2 ρ G H σ x e1 w _ fun G1 H1 w1 s1 => ?_
  cases x with
  | true => exact iteT (ha F t2 t1 ρ G1 H1 σ d e w1 Q fun v G2 H2 w2 s2 r => q v G2 H2 w2 (s1.trans s2) r)
  | false => exact iteF (hb F t2 t1 ρ G1 H1 σ d e w1 Q fun v G2 H2 w2 s2 r => q v G2 H2 w2 (s1.trans s2) r)
/-- and, or, not as values: all but the last are truths -/
def eAnd (a b : ME) : ME := fun ρ => do
  if ← tOf a ρ then b ρ else pure (.bool false)
def eOr (a b : ME) : ME := fun ρ => do
  if ← tOf a ρ then pure (.bool true) else b ρ
def eNot (a : ME) : ME := fun ρ => do
  let x ← tOf a ρ
  pure (.bool (!x))
theorem ev_andV {ta tb : TE} {a b : ME} (ha : EvF ta a) (hb : EvF tb b) : EvF (tAndV ta tb) (eAnd a b) := fun F t0 t1 ρ G H σ d e w Q q => by
  obtain ⟨x, t2, e1, e⟩ := bnd_some e
  refine ha F t0 t2 ρ G H σ _ (tOf_some e1) w _ fun v G1 H1 w1 s1 r => ⟨x, Bo.bool (ρ := ρ) (σ := σ) (.inl r), ?_⟩
  cases x with
  | true => exact iteT (hb F t2 t1 ρ G1 H1 σ d e w1 Q fun v G2 H2 w2 s2 r => q v G2 H2 w2 (s1.trans s2) r)
  | false =>
    obtain ⟨rfl, rfl⟩ := pure_some (show (pure (.bool false) : M PyData) t2 = some (d, t1) from e)
    exact iteF (q _ G1 H1 w1 s1 (.bl _))
theorem ev_orV {ta tb : TE} {a b : ME} (ha : EvF ta a) (hb : EvF tb b) : EvF (tOrV ta tb) (eOr a b) := fun F t0 t1 ρ G H σ d e w Q q => by
  obtain ⟨x, t2, e1, e⟩ := bnd_some e
  refine ha F t0 t2 ρ G H σ _ (tOf_some e1) w _ fun v G1 H1 w1 s1 r => ⟨x, Bo.bool (ρ := ρ) (σ := σ) (.inl r), ?_⟩
  cases x with
  | true =>
    obtain ⟨rfl, rfl⟩ := pure_some (show (pure (.bool true) : M PyData) t2 = some (d, t1) from e)
    exact iteT (q _ G1 H1 w1 s1 (.bl _))
  | false => exact iteF (hb F t2 t1 ρ G1 H1 σ d e w1 Q fun v G2 H2 w2 s2 r => q v G2 H2 w2 (s1.trans s2) r)
theorem ev_notV {ta : TE} {a : ME} (ha : EvF ta a) : EvF (tNotV ta) (eNot a) := fun F t0 t1 ρ G H σ d e w Q q => by
  obtain ⟨x, t2, e1, e⟩ := bnd_some e
  obtain ⟨rfl, rfl⟩ := pure_some e
  exact ha F t0 _ ρ G H σ _ (tOf_some e1) w _ fun v G1 H1 w1 s1 r => ⟨x, Bo.bool (ρ := ρ) (σ := σ) (.inl r), q _ G1 H1 w1 s1 (.bl _)⟩
/-- a < b < c -/
def boolOf : Option PyData → Option Bool
  | some (.bool b) => some b
  | _ => none
theorem boolOf_eq {o : Option PyData} {b : Bool} (h : boolOf o = some b) : o = some (.bool b) := by
  unfold boolOf at h
  split at h
  · cases h; rfl
  · cases h
def eChain (g g' : PyData → PyData → Option PyData) (a b c : ME) : ME := fun ρ => do
  let x ← a ρ
  let y ← b ρ
  if ← M.lift (boolOf (g x y)) then do
    let z ← c ρ
    M.lift (g' y z)
  else pure (.bool false)
theorem ev_chain {r r' : R2} {g g' : PyData → PyData → Option PyData} {ta tb tc : TE} {a b c : ME} (hr : Op2 r g) (hr' : Op2 r' g') (ha : EvB ta a) (hb : EvB tb b) (hc : EvB tc c) : EvF (tChain r r' ta tb tc) (eChain g g' a b c) := fun F t0 t1 ρ G H σ d e w Q q => by
  obtain ⟨x, t2, e1, e⟩ := bnd_some e
  obtain ⟨y, t3, e2, e⟩ := bnd_some e
  obtain ⟨k, t4, e3, e⟩ := bnd_some e
  obtain ⟨hg, rfl⟩ := lift_some e3
  have hg := boolOf_eq hg
  refine ha F t0 t2 ρ G H σ x e1 w _ fun v1 G1 H1 w1 s1 r1 => ?_
  refine hb F t2 t3 ρ G1 H1 σ y e2 w1 _ fun v2 G2 H2 w2 s2 r2 => ?_
  cases k with
  | true =>
    obtain ⟨z, t4, e3, e⟩ := bnd_some (show (c ρ >>= fun z => M.lift (g' y z)) t3 = some (d, t1) from e)
    obtain ⟨e4, rfl⟩ := lift_some e
    refine hr F t3 ρ G2 H2 σ v1 v2 x y _ hg w2 (r1.mono s2.gg) r2 _ fun v3 G3 H3 w3 s3 r3 => ⟨true, Bo.bool (ρ := ρ) (σ := σ) (.inl r3), iteT ?_⟩
    refine hc F t3 _ ρ G3 H3 σ z e3 w3 _ fun v4 G4 H4 w4 s4 r4 => ?_
    exact hr' F _ ρ G4 H4 σ v2 v4 y z d e4 w4 ((r2.mono s3.gg).mono s4.gg) r4 Q fun v G5 H5 w5 s5 r5 => q v G5 H5 w5 ((((s1.trans s2).trans s3).trans s4).trans s5) r5
  | false =>
    obtain ⟨rfl, rfl⟩ := pure_some (show (pure (.bool false) : M PyData) t3 = some (d, t1) from e)
    refine hr F t3 ρ G2 H2 σ v1 v2 x y _ hg w2 (r1.mono s2.gg) r2 _ fun v3 G3 H3 w3 s3 r3 => ⟨false, Bo.bool (ρ := ρ) (σ := σ) (.inl r3), iteF ?_⟩
    exact q _ G3 H3 w3 ((s1.trans s2).trans s3) (.bl _)

/-! ### lists of expressions, displays -/
def lNil : ML := fun _ => pure []
def lCons (m : ME) (l : ML) : ML := fun ρ => do
  let d ← m ρ
  let ds ← l ρ
  pure (d :: ds)
theorem ev_lnil : EvL tNil lNil := fun F t0 t1 ρ G H σ ds e w Q q => by
  obtain ⟨rfl, rfl⟩ := pure_some e
  exact q [] G H w Gw.refl .nil
theorem ev_lcons {ta : TE} {tr : TA} {m : ME} {l : ML} (ha : EvF ta m) (hr : EvL tr l) : EvL (tCons ta tr) (lCons m l) := fun F t0 t1 ρ G H σ ds e w Q q => by
  obtain ⟨x, t2, e1, e⟩ := bnd_some e
  obtain ⟨xs, t3, e2, e⟩ := bnd_some e
  obtain ⟨rfl, rfl⟩ := pure_some e
  refine ha F t0 t2 ρ G H σ x e1 w _ fun v G1 H1 w1 s1 r1 => ?_
  exact hr F t2 _ ρ G1 H1 σ xs e2 w1 _ fun vs G2 H2 w2 s2 r2 => q _ G2 H2 w2 (s1.trans s2) (.cons (r1.mono s2.gg) r2)
theorem ev_rnil : EvR tNil lNil := fun F t0 t1 ρ G H σ ds e w Q q => by
  obtain ⟨rfl, rfl⟩ := pure_some e
  exact q [] G H w Gw.refl .nil
theorem ev_rcons {ta : TE} {tr : TA} {m : ME} {l : ML} (ha : EvB ta m) (hr : EvR tr l) : EvR (tCons ta tr) (lCons m l) := fun F t0 t1 ρ G H σ ds e w Q q => by
  obtain ⟨x, t2, e1, e⟩ := bnd_some e
  obtain ⟨xs, t3, e2, e⟩ := bnd_some e
  obtain ⟨rfl, rfl⟩ := pure_some e
  refine ha F t0 t2 ρ G H σ x e1 w _ fun v G1 H1 w1 s1 r1 => ?_
  exact hr F t2 _ ρ G1 H1 σ xs e2 w1 _ fun vs G2 H2 w2 s2 r2 => q _ G2 H2 w2 (s1.trans s2) (.cons (r1.mono s2.gg) r2)
def aNil : MA := fun _ => pure []
def aCons (m : ME) (l : MA) : MA := fun ρ => do
  let d ← m ρ
  let ds ← l ρ
  pure (.fz d :: ds)
def isTp (ρ : List Sl) (i : Nat) : Bool := match ρ[i]? with
  | some .tp => true
  | _ => false
def aTape (i : Nat) (l : MA) : MA := fun ρ => do
  let ds ← l ρ
  if isTp ρ i then pure (.tp :: ds) else M.fail
theorem isTp_eq {ρ : List Sl} {i : Nat} (h : isTp ρ i = true) : ρ[i]? = some .tp := by
  unfold isTp at h
  split at h
  · assumption
  · cases h
theorem ev_anil : EvA tNil aNil := fun F t0 t1 ρ G H σ ds e w Q q => by
  obtain ⟨rfl, rfl⟩ := pure_some e
  exact q [] G H w Gw.refl .nil
theorem ev_acons {ta : TE} {tr : TA} {m : ME} {l : MA} (ha : EvF ta m) (hr : EvA tr l) : EvA (tCons ta tr) (aCons m l) := fun F t0 t1 ρ G H σ ds e w Q q => by
  obtain ⟨x, t2, e1, e⟩ := bnd_some e
  obtain ⟨xs, t3, e2, e⟩ := bnd_some e
  obtain ⟨rfl, rfl⟩ := pure_some e
  refine ha F t0 t2 ρ G H σ x e1 w _ fun v G1 H1 w1 s1 r1 => ?_
  exact hr F t2 _ ρ G1 H1 σ xs e2 w1 _ fun vs G2 H2 w2 s2 r2 => q _ G2 H2 w2 (s1.trans s2) (.cons (r1.mono s2.gg) r2)
theorem ev_atape {i : Nat} {tr : TA} {l : MA} (hr : EvA tr l) : EvA (tCons (tVar i) tr) (aTape i l) := fun F t0 t1 ρ G H σ ds e w Q q => by
  obtain ⟨xs, t3, e2, e⟩ := bnd_some e
  split at e
  · rename_i hi
    obtain ⟨rfl, rfl⟩ := pure_some e
    exact ⟨_, w.tpv (isTp_eq hi), hr F t0 _ ρ G H σ xs e2 w _ fun vs G2 H2 w2 s2 r2 => q _ G2 H2 w2 s2 (.cons rfl r2)⟩
  · exact (fail_some e).elim
def eTup (l : ML) : ME := fun ρ => do
  let ds ← l ρ
  if okLen ds.length then pure (.tuple ds) else M.fail
theorem ev_tup {t : TA} {l : ML} (h : EvL t l) : EvF (tTup t) (eTup l) := fun F t0 t1 ρ G H σ d e w Q q => by
  obtain ⟨ds, t2, e1, e⟩ := bnd_some e
  split at e
  · rename_i hz
    obtain ⟨rfl, rfl⟩ := pure_some e
    refine h F t0 _ ρ G H σ ds e1 w _ fun vs G1 H1 w1 s1 r1 => ⟨by rw [r1.length]; exact okLen_le hz, fun p hp => ?_⟩
    have g0 := sm_none w1.co.sub hp
    exact q _ _ _ (w1.fz hp) (s1.trans (Gw.fz w1 hp)) (.tup upd_same (r1.mono (same_upd g0)))
  · exact (fail_some e).elim
def nLst (l : ML) : ML := fun ρ => do
  let ds ← l ρ
  if okLen ds.length then pure ds else M.fail
theorem ev_lst {t : TA} {l : ML} (h : EvL t l) : EvN (tLst t) (nLst l) := fun F t0 t1 ρ G H σ d e w Q q => by
  obtain ⟨ds, t2, e1, e⟩ := bnd_some e
  split at e
  · rename_i hz
    obtain ⟨rfl, rfl⟩ := pure_some e
    refine h F t0 _ ρ G H σ ds e1 w _ fun vs G1 H1 w1 s1 r1 => ⟨by rw [r1.length]; exact okLen_le hz, fun p hp => ?_⟩
    obtain ⟨w2, o2, n2⟩ := w1.newL hp r1
    exact q p G1 _ w2 (s1.trans (Gw.raw hp)) ⟨o2, n2⟩ (kp_none w s1 hp (w1.co.T_ne hp))
  · exact (fail_some e).elim
/-! ### calls of built-ins -/
def Cal (r : List V → Hp → VK → Prop) (g : List PyData → Option PyData) : Prop := ∀ (F : Fm) (t : Tape) (ρ : List Sl) (G H : Hp) (σ : St) (vs : List V) (ds : List PyData) (c : PyData), g ds = some c → Wd F t ρ G H σ → BoA ρ G σ vs ds →
  ∀ Q : VK, (∀ v G' H', Wd F t ρ G' H' σ → Gw F G H G' H' → Rp G' v c → Q v H') → r vs H Q
def eCal (g : List PyData → Option PyData) (l : ML) : ME := fun ρ => do
  let ds ← l ρ
  M.lift (g ds)
theorem ev_cal {r : List V → Hp → VK → Prop} {g : List PyData → Option PyData} {t : TA} {l : ML} (hr : Cal r g) (hl : EvR t l) : EvF (tCB r t) (eCal g l) := fun F t0 t1 ρ G H σ d e w Q q => by
  obtain ⟨ds, t2, e1, e⟩ := bnd_some e
  obtain ⟨e2, rfl⟩ := lift_some e
  refine hl F t0 _ ρ G H σ ds e1 w _ fun vs G1 H1 w1 s1 r1 => ?_
  exact hr F _ ρ G1 H1 σ vs ds d e2 w1 r1 Q fun v G2 H2 w2 s2 r2 => q v G2 H2 w2 (s1.trans s2) r2
theorem Cal.or {r r' : List V → Hp → VK → Prop} {g g' : List PyData → Option PyData} (h : Cal r g) (h' : Cal r' g') : Cal (fun xs H Q => r xs H Q ∨ r' xs H Q) (fun ds => (g ds).or (g' ds)) := fun F t ρ G H σ vs ds c e w hx Q q => by
  cases e1 : g ds with
  | some z =>
    have e2 : (some z).or (g' ds) = some c := by rw [← e1]; exact e
    cases e2
    exact .inl (h F t ρ G H σ vs ds c e1 w hx Q q)
  | none =>
    have e2 : (none : Option PyData).or (g' ds) = some c := by rw [← e1]; exact e
    exact .inr (h' F t ρ G H σ vs ds c (by simpa using e2) w hx Q q)
def cAbs : List PyData → Option PyData
  | [.int i] => some (.int (if i < 0 then -i else i))
  | _ => none
theorem k_abs : Cal (fun xs H Q => ∃ i, xs = [.int i] ∧ Q (.int (if i < 0 then -i else i)) H) cAbs := fun F t ρ G H σ vs ds c e w hx Q q => by
  unfold cAbs at e
  split at e
  · cases e
    cases hx with
    | cons h r =>
      cases r
      cases h.int
      exact ⟨_, rfl, q _ G H w Gw.refl (.int _)⟩
  · cases e
def cMax : List PyData → Option PyData
  | [.int i, .int j] => some (.int (if j > i then j else i))
  | _ => none
def cMin : List PyData → Option PyData
  | [.int i, .int j] => some (.int (if j < i then j else i))
  | _ => none
theorem k_max2 : Cal (fun xs H Q => ∃ i j, xs = [.int i, .int j] ∧ Q (.int (if j > i then j else i)) H) cMax := fun F t ρ G H σ vs ds c e w hx Q q => by
  unfold cMax at e
  split at e
  · cases e
    cases hx with
    | cons h r =>
      cases r with
      | cons h2 r2 =>
        cases r2
        cases h.int
        cases h2.int
        exact ⟨_, _, rfl, q _ G H w Gw.refl (.int _)⟩
  · cases e
theorem k_min2 : Cal (fun xs H Q => ∃ i j, xs = [.int i, .int j] ∧ Q (.int (if j < i then j else i)) H) cMin := fun F t ρ G H σ vs ds c e w hx Q q => by
  unfold cMin at e
  split at e
  · cases e
    cases hx with
    | cons h r =>
      cases r with
      | cons h2 r2 =>
        cases r2
        cases h.int
        cases h2.int
        exact ⟨_, _, rfl, q _ G H w Gw.refl (.int _)⟩
  · cases e
def cInt : List PyData → Option PyData
  | [.int i] => some (.int i)
  | [.bool b] => some (.int (if b then 1 else 0))
  | _ => none
theorem k_int1 : Cal (fun xs H Q => (∃ i, xs = [.int i] ∧ Q (.int i) H) ∨ ∃ k, xs = [.bl k] ∧ Q (.int (if k then 1 else 0)) H) cInt := fun F t ρ G H σ vs ds c e w hx Q q => by
  unfold cInt at e
  split at e
  · cases e
    cases hx with
    | cons h r =>
      cases r
      cases h.int
      exact .inl ⟨_, rfl, q _ G H w Gw.refl (.int _)⟩
  · cases e
    cases hx with
    | cons h r =>
      cases r
      cases h.bool
      exact .inr ⟨_, rfl, q _ G H w Gw.refl (.int _)⟩
  · cases e
def cLen : List PyData → Option PyData
  | [.list xs] => some (.int xs.length)
  | [.tuple xs] => some (.int xs.length)
  | _ => none
theorem k_len {K : PySem.W.Frag} : Cal (fun xs H Q => ∃ p ys, xs = [.ref p] ∧ (SqL K H p ys ∨ SqT K H p ys) ∧ Q (.int ys.length) H) cLen := fun F t ρ G H σ vs ds c e w hx Q q => by
  unfold cLen at e
  split at e
  · rename_i xs
    cases e
    cases hx with
    | cons h r =>
      cases r
      obtain ⟨p, us, rfl, hp, rp⟩ := h.lst w
      refine ⟨p, us, rfl, .inl (SqL.of hp), ?_⟩
      rw [rp.length]
      exact q _ G H w Gw.refl (.int _)
  · rename_i xs
    cases e
    cases hx with
    | cons h r =>
      cases r
      obtain ⟨p, us, rfl, hp, gp, rp⟩ := h.tup w
      refine ⟨p, us, rfl, .inr (SqT.of hp), ?_⟩
      rw [rp.length]
      exact q _ G H w Gw.refl (.int _)
  · cases e
/-- tuple(x) of a list, of a tuple -/
def cTuple : List PyData → Option PyData
  | [.list xs] => some (.tuple xs)
  | [.tuple xs] => some (.tuple xs)
  | _ => none
theorem k_tuple {K : PySem.W.Frag} : Cal (fun xs H Q => ∃ p ys, xs = [.ref p] ∧ ((SqL K H p ys ∧ ∀ l, H l = none → Q (.ref l) (upd H l (.tup ys))) ∨ (SqT K H p ys ∧ Q (.ref p) H))) cTuple := fun F t ρ G H σ vs ds c e w hx Q q => by
  unfold cTuple at e
  split at e
  · rename_i xs
    cases e
    cases hx with
    | cons h r =>
      cases r
      obtain ⟨p, us, rfl, hp, rp⟩ := h.lst w
      refine ⟨p, us, rfl, .inl ⟨SqL.of hp, fun l hl => ?_⟩⟩
      have g0 := sm_none w.co.sub hl
      exact q _ _ _ (w.fz hl) (Gw.fz w hl) (.tup upd_same (rp.mono (same_upd g0)))
  · rename_i xs
    cases e
    cases hx with
    | cons h r =>
      cases r
      obtain ⟨p, us, rfl, hp, gp, rp⟩ := h.tup w
      exact ⟨p, us, rfl, .inr ⟨SqT.of hp, q _ G H w Gw.refl (.tup gp rp)⟩⟩
  · cases e
/-- list(x): a new list -/
def CalN (r : List V → Hp → VK → Prop) (g : List PyData → Option (List PyData)) : Prop := ∀ (F : Fm) (t : Tape) (ρ : List Sl) (G H : Hp) (σ : St) (vs : List V) (ds c : List PyData), g ds = some c → Wd F t ρ G H σ → BoA ρ G σ vs ds →
  ∀ Q : VK, (∀ p G' H', Wd F t ρ G' H' σ → Gw F G H G' H' → NewL F ρ G' H' σ p c → H p = none → Q (.ref p) H') → r vs H Q
def nCal (g : List PyData → Option (List PyData)) (l : ML) : ML := fun ρ => do
  let ds ← l ρ
  M.lift (g ds)
theorem ev_calN {r : List V → Hp → VK → Prop} {g : List PyData → Option (List PyData)} {t : TA} {l : ML} (hr : CalN r g) (hl : EvR t l) : EvN (tCB r t) (nCal g l) := fun F t0 t1 ρ G H σ d e w Q q => by
  obtain ⟨ds, t2, e1, e⟩ := bnd_some e
  obtain ⟨e2, rfl⟩ := lift_some e
  refine hl F t0 _ ρ G H σ ds e1 w _ fun vs G1 H1 w1 s1 r1 => ?_
  exact hr F _ ρ G1 H1 σ vs ds d e2 w1 r1 Q fun v G2 H2 w2 s2 r2 hp => q v G2 H2 w2 (s1.trans s2) r2 (kp_none w s1 hp (w1.co.T_ne hp))
def cList : List PyData → Option (List PyData)
  | [.list xs] => some xs
  | [.tuple xs] => some xs
  | _ => none
theorem k_list {K : PySem.W.Frag} : CalN (fun xs H Q => ∃ p ys, xs = [.ref p] ∧ (SqL K H p ys ∨ SqT K H p ys) ∧ ∀ l, H l = none → Q (.ref l) (upd H l (.lst ys))) cList := fun F t ρ G H σ vs ds c e w hx Q q => by
  unfold cList at e
  split at e
  · rename_i xs
    cases e
    cases hx with
    | cons h r =>
      cases r
      obtain ⟨p, us, rfl, hp, rp⟩ := h.lst w
      refine ⟨p, us, rfl, .inl (SqL.of hp), fun l hl => ?_⟩
      obtain ⟨w2, o2, n2⟩ := w.newL hl rp
      exact q l G _ w2 (Gw.raw hl) ⟨o2, n2⟩ hl
  · rename_i xs
    cases e
    cases hx with
    | cons h r =>
      cases r
      obtain ⟨p, us, rfl, hp, gp, rp⟩ := h.tup w
      refine ⟨p, us, rfl, .inr (SqT.of hp), fun l hl => ?_⟩
      obtain ⟨w2, o2, n2⟩ := w.newL hl rp
      exact q l G _ w2 (Gw.raw hl) ⟨o2, n2⟩ hl
  · cases e
end DL

set_option maxHeartbeats 1000000
/-! The data layer, part C: targets, what is walked, comprehensions, statements. -/
namespace DL
open PySem L2

/-! ### targets -/
abbrev MG := PyData → List Sl → Option (List Sl)
abbrev MGs := List PyData → List Sl → Option (List Sl)
def Only (is : List Nat) (σ σ' : St) : Prop := ∀ vs : List Nat, (∀ i ∈ is, i ∈ vs) → wipe σ' vs = wipe σ vs
def EvG (g : TG) (mg : MG) (is : List Nat) : Prop := ∀ (F : Fm) (t : Tape) (ρ ρ' : List Sl) (G H : Hp) (σ : St) (v : V) (d : PyData), mg d ρ = some ρ' → Wd F t ρ G H σ → Rp G v d →
  ∀ Q : St → Hp → Prop, (∀ σ', Wd F t ρ' G H σ' → Only is σ σ' → Q σ' H) → g v σ H Q
def EvGs (g : TGs) (mg : MGs) (is : List Nat) : Prop := ∀ (F : Fm) (t : Tape) (ρ ρ' : List Sl) (G H : Hp) (σ : St) (vs : List V) (ds : List PyData), mg ds ρ = some ρ' → Wd F t ρ G H σ → RpA G vs ds →
  ∀ Q : St → Hp → Prop, (∀ σ', Wd F t ρ' G H σ' → Only is σ σ' → Q σ' H) → g vs σ H Q
theorem set_set_comm {α : Type} : ∀ (l : List α) (i j : Nat) (a b : α), i ≠ j → (l.set i a).set j b = (l.set j b).set i a := fun l i j a b h => List.set_comm a b h
theorem wipe_set_ne {σ : St} {i : Nat} {v : Option V} : ∀ (vs : List Nat), i ∉ vs → wipe (σ.set i v) vs = (wipe σ vs).set i v
  | [], _ => rfl
  | k :: vs, h => by
    have h1 : i ≠ k := fun e => h (by simp [e])
    have h2 : i ∉ vs := fun e => h (List.mem_cons_of_mem _ e)
    show (wipe (σ.set i v) vs).set k none = ((wipe σ vs).set k none).set i v
    rw [wipe_set_ne vs h2, set_set_comm _ _ _ _ _ h1]
theorem wipe_set_in {σ : St} {i : Nat} {v : Option V} : ∀ (vs : List Nat), i ∈ vs → wipe (σ.set i v) vs = wipe σ vs
  | [], h => by simp at h
  | k :: vs, h => by
    show (wipe (σ.set i v) vs).set k none = (wipe σ vs).set k none
    by_cases h2 : i ∈ vs
    · rw [wipe_set_in vs h2]
    · have e : i = k := by
        rcases List.mem_cons.mp h with e | e
        · exact e
        · exact absurd e h2
      subst e
      rw [wipe_set_ne vs h2, List.set_set]
theorem only_set {σ : St} {i : Nat} {v : Option V} : Only [i] σ (σ.set i v) := fun vs h => wipe_set_in vs (h i (by simp))
theorem Only.refl (σ : St) : Only [] σ σ := fun _ _ => rfl
theorem Only.trans {is js : List Nat} {σ σ1 σ2 : St} (a : Only is σ σ1) (b : Only js σ1 σ2) : Only (is ++ js) σ σ2 := fun vs h =>
  (b vs fun i hi => h i (List.mem_append_right _ hi)).trans (a vs fun i hi => h i (List.mem_append_left _ hi))
def mName (i : Nat) : MG := fun d ρ => some (ρ.set i (.fz d))
theorem ev_gname (i : Nat) : EvG (gName i) (mName i) [i] := fun F t ρ ρ' G H σ v d e w r Q q => by
  cases e
  exact q _ (w.setF r) only_set
def mgNil : MGs := fun ds ρ => match ds with
  | [] => some ρ
  | _ => none
def mgCons (a : MG) (r : MGs) : MGs := fun ds ρ => match ds with
  | d :: l => (a d ρ).bind (r l)
  | [] => none
theorem ev_gnil : EvGs gNil mgNil [] := fun F t ρ ρ' G H σ vs ds e w r Q q => by
  unfold mgNil at e
  split at e
  · cases e
    cases r
    exact ⟨rfl, q σ w (Only.refl σ)⟩
  · cases e
theorem ev_gcons {g : TG} {gs : TGs} {a : MG} {r : MGs} {is js : List Nat} (h1 : EvG g a is) (h2 : EvGs gs r js) : EvGs (gCons g gs) (mgCons a r) (is ++ js) := fun F t ρ ρ' G H σ vs ds e w rp Q q => by
  unfold mgCons at e
  split at e
  · cases rp with
    | cons hv rv =>
      rename_i d l v vs'
      cases e1 : a d ρ with
      | none => rw [e1] at e; cases e
      | some ρ1 =>
        rw [e1] at e
        exact ⟨_, _, rfl, h1 F t ρ ρ1 G H σ _ _ e1 w hv _ fun σ1 w1 o1 => h2 F t ρ1 ρ' G H σ1 _ _ e w1 rv Q fun σ2 w2 o2 => q σ2 w2 (o1.trans o2)⟩
  · cases e
def seqOf : PyData → Option (List PyData)
  | .list ds => some ds
  | .tuple ds => some ds
  | _ => none
/-- a, b, .. = a tuple or a list -/
def gSeq (K : PySem.W.Frag) (n : Nat) (t : TGs) : TG := fun v σ H Q => gTup K n t v σ H Q ∨ gUnl K n t v σ H Q
def mSeq (n : Nat) (m : MGs) : MG := fun d ρ => (seqOf d).bind fun ds => if ds.length = n then m ds ρ else none
theorem ev_gseq {K : PySem.W.Frag} {n : Nat} {t : TGs} {m : MGs} {is : List Nat} (h : EvGs t m is) : EvG (gSeq K n t) (mSeq n m) is := fun F tp ρ ρ' G H σ v d e w r Q q => by
  unfold mSeq at e
  cases r with
  | lst hp rp =>
    rename_i a xs ds
    have e : (if ds.length = n then m ds ρ else none) = some ρ' := e
    split at e
    · rename_i hn
      exact .inr ⟨a, xs, rfl, SqL.of (w.co.sub _ _ hp), by rw [rp.length]; exact hn, h F tp ρ ρ' G H σ xs ds e w rp Q q⟩
    · cases e
  | tup hp rp =>
    rename_i a xs ds
    have e : (if ds.length = n then m ds ρ else none) = some ρ' := e
    split at e
    · rename_i hn
      exact .inl ⟨a, xs, rfl, SqT.of (w.co.sub _ _ hp), by rw [rp.length]; exact hn, h F tp ρ ρ' G H σ xs ds e w rp Q q⟩
    · cases e
  | _ => cases e
theorem pg_seq {X : Cx} {es : List Expr} {k : Nat} {t : TGs} {n : Nat} {pos : Pos} (hc : X.calm = true) (h : PGs X es t) (hn : (assignEach es X.env).length = n := by rfl) (hst : (assignEach es X.env).findIdx? (·.1) = none := by rfl) :
    PG X (.Tuple es k pos) (gSeq X.K n t) := ⟨fun pins s σ H v u Q I r hw => hw.elim ((pg_tup hc h hn hst).run pins s σ H v u Q I r) ((pg_unl hc h hn hst).run pins s σ H v u Q I r)⟩

/-! ### what is walked -/
structure ItOk (J : It) (ds : List PyData) (G : Hp) : Prop where
  go : ∀ (F : Fm) (t : Tape) (ρ : List Sl) (G1 H1 : Hp) (σ : St), Same G G1 → Wd F t ρ G1 H1 σ → ∀ (i : Nat) d, ds[i]? = some d → J.go i H1
  yld : ∀ (F : Fm) (t : Tape) (ρ : List Sl) (G1 H1 : Hp) (σ : St), Same G G1 → Wd F t ρ G1 H1 σ → ∀ (i : Nat) d, ds[i]? = some d → ∀ x H2, J.yld i H1 x H2 → ∃ G2, Gw F G1 H1 G2 H2 ∧ Wd F t ρ G2 H2 σ ∧ Rp G2 x d ∧ ∀ b o, H1 b = some o → H2 b = some o
  stop : ∀ (F : Fm) (t : Tape) (ρ : List Sl) (G1 H1 : Hp) (σ : St), Same G G1 → Wd F t ρ G1 H1 σ → ∀ (i : Nat), ds.length ≤ i → J.stop i H1
def EvI (wi : TI) (m : ML) : Prop := ∀ (F : Fm) (t0 t1 : Tape) (ρ : List Sl) (G H : Hp) (σ : St) (ds : List PyData), m ρ t0 = some (ds, t1) → Wd F t0 ρ G H σ →
  ∀ R : It → Hp → Prop, (∀ J G' H', Wd F t1 ρ G' H' σ → Gw F G H G' H' → ItOk J ds G' → R J H') → wi σ H R
def iSeq (K : PySem.W.Frag) (tl : TE) : TI := fun σ H R => iList K tl σ H R ∨ iTup K tl σ H R
def lSeq (m : ME) : ML := fun ρ => do
  let d ← m ρ
  M.lift (seqOf d)
theorem it_lst {K : PySem.W.Frag} {a : Addr} {vs : List V} {ds : List PyData} {G : Hp} (h : G a = some (.lst vs)) (r : RpA G vs ds) : ItOk (Itl K a) ds G where
  go := fun F t ρ G1 H1 σ s w i d e => by
    obtain ⟨v, hv, _⟩ := r.get e
    exact ⟨vs, v, SqL.of (w.co.sub _ _ (s _ _ h)), hv⟩
  yld := fun F t ρ G1 H1 σ s w i d e x H2 y => by
    obtain ⟨rfl, y⟩ := y
    have hx := y vs (SqL.of (w.co.sub _ _ (s _ _ h)))
    obtain ⟨d', e', rd⟩ := r.get' hx
    rw [e] at e'
    cases e'
    exact ⟨G1, Gw.refl, w, rd.mono s, fun _ _ q => q⟩
  stop := fun F t ρ G1 H1 σ s w i e => ⟨vs, SqL.of (w.co.sub _ _ (s _ _ h)), by rw [r.length]; exact e⟩
theorem it_tup {K : PySem.W.Frag} {a : Addr} {vs : List V} {ds : List PyData} {G : Hp} (h : G a = some (.tup vs)) (r : RpA G vs ds) : ItOk (Itt K a) ds G where
  go := fun F t ρ G1 H1 σ s w i d e => by
    obtain ⟨v, hv, _⟩ := r.get e
    exact ⟨vs, v, SqT.of (w.co.sub _ _ (s _ _ h)), hv⟩
  yld := fun F t ρ G1 H1 σ s w i d e x H2 y => by
    obtain ⟨rfl, y⟩ := y
    have hx := y vs (SqT.of (w.co.sub _ _ (s _ _ h)))
    obtain ⟨d', e', rd⟩ := r.get' hx
    rw [e] at e'
    cases e'
    exact ⟨G1, Gw.refl, w, rd.mono s, fun _ _ q => q⟩
  stop := fun F t ρ G1 H1 σ s w i e => ⟨vs, SqT.of (w.co.sub _ _ (s _ _ h)), by rw [r.length]; exact e⟩
/-- lo, lo + 1, .. -/
def rgD (lo : Int) : Nat → List PyData
  | 0 => []
  | n + 1 => .int lo :: rgD (lo + 1) n
theorem rgD_len : ∀ (lo : Int) (n : Nat), (rgD lo n).length = n
  | _, 0 => rfl
  | lo, n + 1 => congrArg (· + 1) (rgD_len (lo + 1) n)
theorem rgD_get : ∀ (lo : Int) (n i : Nat) {d : PyData}, (rgD lo n)[i]? = some d → i < n ∧ d = .int (lo + i)
  | _, 0, _, _, h => by cases h
  | lo, n + 1, 0, d, h => by
    have e : some (PyData.int lo) = some d := h
    cases e
    exact ⟨Nat.succ_pos _, by congr 1; omega⟩
  | lo, n + 1, i + 1, d, h => by
    obtain ⟨h1, h2⟩ := rgD_get (lo + 1) n i (d := d) h
    exact ⟨Nat.succ_lt_succ h1, by rw [h2]; congr 1; omega⟩
theorem it_rg {lo : Int} {n : Nat} {G : Hp} : ItOk (Itr lo n) (rgD lo n) G where
  go := fun F t ρ G1 H1 σ s w i d e => (rgD_get lo n i e).1
  yld := fun F t ρ G1 H1 σ s w i d e x H2 y => by
    obtain ⟨rfl, rfl⟩ := y
    obtain ⟨_, rfl⟩ := rgD_get lo n i e
    exact ⟨G1, Gw.refl, w, .int _, fun _ _ q => q⟩
  stop := fun F t ρ G1 H1 σ s w i e => by
    rw [rgD_len] at e
    exact e
theorem ev_iseq {K : PySem.W.Frag} {tl : TE} {m : ME} (h : EvF tl m) : EvI (iSeq K tl) (lSeq m) := fun F t0 t1 ρ G H σ ds e w R q => by
  obtain ⟨d, t2, e1, e⟩ := bnd_some e
  obtain ⟨e2, rfl⟩ := lift_some e
  cases d with
  | list xs =>
    cases e2
    refine .inl (h F t0 _ ρ G H σ _ e1 w _ fun v G' H' w' s r => ?_)
    cases r with
    | lst hp rp => exact ⟨_, rfl, ⟨_, SqL.of (w'.co.sub _ _ hp)⟩, q _ G' H' w' s (it_lst hp rp)⟩
  | tuple xs =>
    cases e2
    refine .inr (h F t0 _ ρ G H σ _ e1 w _ fun v G' H' w' s r => ?_)
    cases r with
    | tup hp rp => exact ⟨_, rfl, ⟨_, SqT.of (w'.co.sub _ _ hp)⟩, q _ G' H' w' s (it_tup hp rp)⟩
  | _ => cases e2
def okRg (i : Int) : Bool := decide (-(2 ^ 62) ≤ i) && decide (i < 2 ^ 62)
theorem okRg_eq {i : Int} (h : okRg i = true) : -(2 ^ 62) ≤ i ∧ i < 2 ^ 62 := by
  unfold okRg at h
  rw [Bool.and_eq_true] at h
  exact ⟨of_decide_eq_true h.1, of_decide_eq_true h.2⟩
def rng1 : List PyData → Option (List PyData)
  | [.int j] => if okRg j then some (rgD 0 j.toNat) else none
  | _ => none
def rng2 : List PyData → Option (List PyData)
  | [.int i, .int j] => if okRg i && okRg j then some (rgD i (j - i).toNat) else none
  | _ => none
theorem ev_irg1 {ta : TA} {l : ML} (h : EvR ta l) : EvI (iRng1 ta) (nCal rng1 l) := fun F t0 t1 ρ G H σ ds e w R q => by
  obtain ⟨d, t2, e1, e⟩ := bnd_some e
  obtain ⟨e2, rfl⟩ := lift_some e
  refine h F t0 _ ρ G H σ d e1 w _ fun vs G1 H1 w1 s1 r1 => ?_
  unfold rng1 at e2
  split at e2
  · rename_i j
    split at e2
    · rename_i hj
      cases e2
      cases r1 with
      | cons hv r =>
        cases r
        cases hv.int
        obtain ⟨h1, h2⟩ := okRg_eq hj
        exact ⟨j, rfl, h1, h2, q _ G1 H1 w1 s1 it_rg⟩
    · cases e2
  · cases e2
theorem ev_irg2 {ta : TA} {l : ML} (h : EvR ta l) : EvI (iRng2 ta) (nCal rng2 l) := fun F t0 t1 ρ G H σ ds e w R q => by
  obtain ⟨d, t2, e1, e⟩ := bnd_some e
  obtain ⟨e2, rfl⟩ := lift_some e
  refine h F t0 _ ρ G H σ d e1 w _ fun vs G1 H1 w1 s1 r1 => ?_
  unfold rng2 at e2
  split at e2
  · rename_i i j
    split at e2
    · rename_i hj
      rw [Bool.and_eq_true] at hj
      cases e2
      cases r1 with
      | cons hv r =>
        cases r with
        | cons hv2 r2 =>
          cases r2
          cases hv.int
          cases hv2.int
          obtain ⟨h1, h2⟩ := okRg_eq hj.1
          obtain ⟨h3, h4⟩ := okRg_eq hj.2
          exact ⟨i, j, rfl, ⟨h1, h2, h3, h4⟩, q _ G1 H1 w1 s1 it_rg⟩
    · cases e2
  · cases e2
theorem pi_seq {X : Cx} {tg l : Expr} {tl : TE} (hl : PE X l tl) : PI X tg l (iSeq X.K tl) :=
  ⟨fun pins s σ H R I hw => hw.elim ((pi_list hl).run pins s σ H R I) ((pi_tup hl).run pins s σ H R I)⟩

/-! ### comprehensions -/
theorem wipe_wipe (σ : St) : ∀ vs : List Nat, wipe (wipe σ vs) vs = wipe σ vs := fun vs => by
  have key : ∀ (us : List Nat), (∀ i ∈ us, i ∈ vs) → wipe (wipe σ us) vs = wipe σ vs := by
    intro us
    induction us with
    | nil => intro _; rfl
    | cons k us ih =>
      intro h
      show wipe ((wipe σ us).set k none) vs = wipe σ vs
      rw [wipe_set_in vs (h k (by simp)), ih fun i hi => h i (List.mem_cons_of_mem _ hi)]
  exact key vs fun i hi => hi
/-- a list that no slot has is changed in place -/
theorem Wd.mutD {F : Fm} {t : Tape} {ρ : List Sl} {G H : Hp} {σ : St} {D : Addr} {acc us : List V} (w : Wd F t ρ G H σ) (hD : H D = some (.lst acc)) (g0 : G D = none) (h0 : F.H0 D = none) (nT : D ≠ F.T)
    (hn : ∀ (j : Nat) ys, ρ[j]? = some (.ow ys) → σ[j]? ≠ some (some (.ref D))) : Wd F t ρ G (upd H D (.lst us)) σ := by
  have keep : ∀ b o, b ≠ D → H b = some o → upd H D (.lst us) b = some o := fun b o n e => by rw [upd_ne n]; exact e
  obtain ⟨c, c1, c2⟩ := w.co.tape
  have co : Co F t G (upd H D (.lst us)) :=
    ⟨fun b o e => keep b o (fun z => by rw [z, g0] at e; cases e) (w.co.sub b o e), w.co.gT, ⟨c, c1, keep _ _ nT.symm c2⟩, fun b o e n => keep b o (fun z => by rw [z, h0] at e; cases e) (w.co.fr b o e n), w.co.gn⟩
  refine ⟨co, w.len, fun j s v h1 h2 => ?_, w.ap⟩
  have q := w.sl j s v h1 h2
  cases s with
  | un => trivial
  | fz d => exact q
  | ow zs =>
    obtain ⟨b, e, ws, g1, hb, rb, hb0, nb⟩ := q
    exact ⟨b, e, ws, g1, keep b _ (fun z => hn j zs h1 (by rw [h2, e, z])) hb, rb, hb0, nb⟩
  | tp => exact q
def unAll (ρ : List Sl) : List Nat → List Sl
  | [] => ρ
  | v :: vs => (unAll ρ vs).set v .un
theorem Wd.unAll {F : Fm} {t : Tape} {ρ : List Sl} {G H : Hp} {σ : St} (w : Wd F t ρ G H σ) : ∀ vs : List Nat, Wd F t (unAll ρ vs) G H (wipe σ vs)
  | [] => w
  | v :: vs => (Wd.unAll w vs).set trivial fun _ e => by cases e
def compGo (mg : MG) (mt : MB) (me : ME) (ρ : List Sl) : List PyData → M (List PyData)
  | [] => pure []
  | d :: r => do
    let ρ' ← M.lift (mg d ρ)
    if ← mt ρ' then do
      let y ← me ρ'
      let ys ← compGo mg mt me ρ r
      pure (y :: ys)
    else compGo mg mt me ρ r
def nComp (mi : ML) (mg : MG) (vs : List Nat) (mt : MB) (me : ME) : ML := fun ρ => do
  let ds ← mi ρ
  if okLen ds.length then compGo mg mt me (unAll ρ vs) ds else M.fail
def bYes : MB := fun _ => pure true
theorem ev_yes : EvT tYes bYes := fun F t0 t1 ρ G H σ b e w Q q => by
  obtain ⟨rfl, rfl⟩ := pure_some e
  exact q G H w Gw.refl
theorem ev_comp {wi : TI} {g : TG} {tt : TT} {te : TE} {vs : List Nat} {mi : ML} {mg : MG} {mt : MB} {me : ME} (hi : EvI wi mi) (hg : EvG g mg vs) (ht : EvT tt mt) (he : EvF te me) : EvN (tLc wi g tt te vs) (nComp mi mg vs mt me) := fun F t0 t1 ρ G H σ xs e w Q q => by
  obtain ⟨ds, t2, e1, e⟩ := bnd_some e
  split at e
  rotate_left
  · exact (fail_some e).elim
  rename_i hz
  refine hi F t0 t2 ρ G H σ ds e1 w _ fun J G1 H1 w1 s1 ok => ?_
  intro D hD
  have nT : D ≠ F.T := w1.co.T_ne hD
  have wD : Wd F t2 ρ G1 (upd H1 D (.lst [])) σ := w1.raw hD
  refine ⟨fun i m Hi => ∃ (τ : Tape) (don rest : List PyData) (Gi : Hp) (acc : List V), i ≤ ds.length ∧ m = ds.length - i ∧ compGo mg mt me (unAll ρ vs) (ds.drop i) τ = some (rest, t1) ∧ don ++ rest = xs ∧
      Wd F τ (unAll ρ vs) Gi Hi (wipe σ vs) ∧ (∀ b o, H1 b = some o → b ≠ F.T → Hi b = some o) ∧ Same G1 Gi ∧ (∀ b o, b ≠ F.T → Gi b = some o → G1 b = some o ∨ (H1 b = none ∧ b ≠ D)) ∧ Hi D = some (.lst acc) ∧ RpA Gi acc don ∧ don.length ≤ i,
    ⟨ds.length, t2, [], xs, G1, [], Nat.zero_le _, by omega, e, rfl, wD.unAll vs, fun b o eb _ => same_upd hD b o eb, Same.refl G1, fun b o _ eb => .inl eb, upd_same, .nil, Nat.le_refl _⟩, ?_⟩
  rintro i m Hi ⟨τ, don, rest, Gi, acc, hil, rfl, ec, ex, wi', kp, gg, gn, hacc, rp, hdl⟩
  have giD : Gi D = none := by
    cases z : Gi D with
    | none => rfl
    | some o =>
      rcases gn D o nT z with y | ⟨_, y⟩
      · rw [sm_none w1.co.sub hD] at y; cases y
      · exact absurd rfl y
  by_cases hlt : i < ds.length
  · have hget : ds[i]? = some ds[i] := List.getElem?_eq_getElem hlt
    rw [List.drop_eq_getElem_cons hlt] at ec
    obtain ⟨ρ', τ1, e2, ec⟩ := bnd_some ec
    obtain ⟨e2', rfl⟩ := lift_some e2
    obtain ⟨b, τ2, e3, ec⟩ := bnd_some ec
    refine .inr ⟨ok.go F _ _ Gi Hi _ gg wi' i _ hget, fun H' => ∃ (τ : Tape) (don rest : List PyData) (Gi : Hp) (acc : List V), compGo mg mt me (unAll ρ vs) (ds.drop (i + 1)) τ = some (rest, t1) ∧ don ++ rest = xs ∧
        Wd F τ (unAll ρ vs) Gi H' (wipe σ vs) ∧ (∀ b o, H1 b = some o → b ≠ F.T → H' b = some o) ∧ Same G1 Gi ∧ (∀ b o, b ≠ F.T → Gi b = some o → G1 b = some o ∨ (H1 b = none ∧ b ≠ D)) ∧ H' D = some (.lst acc) ∧ RpA Gi acc don ∧ don.length ≤ i + 1, ?_, ?_⟩
    · rintro H' ⟨τ', don', rest', G', acc', a1, a2, a3, a4, a5, a6, a7, a8, a9⟩
      exact ⟨ds.length - (i + 1), by omega, τ', don', rest', G', acc', hlt, rfl, a1, a2, a3, a4, a5, a6, a7, a8, a9⟩
    · intro x H' hy
      obtain ⟨G2, g2, w2, rx, kp2⟩ := ok.yld F _ _ Gi Hi _ gg wi' i _ hget x H' hy
      refine hg F _ _ ρ' G2 H' _ x _ e2' w2 rx _ fun σ3 w3 o3 => ⟨?_, ?_⟩
      · have z := o3 vs fun i hi => hi
        rw [z, wipe_wipe]
      refine ht F _ τ2 ρ' G2 H' σ3 b e3 w3 _ fun G4 H4 w4 s4 => ?_
      have g24 := g2.trans s4
      have gn' : ∀ {Gx Hx : Hp}, Gw F Gi Hi Gx Hx → ∀ c o, c ≠ F.T → Gx c = some o → G1 c = some o ∨ (H1 c = none ∧ c ≠ D) := fun {Gx Hx} gx c o nc ec' => by
        rcases gx.gn c o nc ec' with z | z
        · exact gn c o nc z
        · refine .inr ⟨?_, fun z2 => by rw [z2, hacc] at z; cases z⟩
          cases q1 : H1 c with
          | none => rfl
          | some u =>
            have := kp c u q1 nc
            rw [z] at this
            cases this
      cases b with
      | true =>
        obtain ⟨y, τ3, e4, ec⟩ := bnd_some (show (me ρ' >>= fun y => compGo mg mt me (unAll ρ vs) (List.drop (i + 1) ds) >>= fun ys => pure (y :: ys)) τ2 = some (rest, t1) from ec)
        obtain ⟨ys, τ4, e5, ec⟩ := bnd_some ec
        obtain ⟨rfl, rfl⟩ := pure_some ec
        refine iteT (he F τ2 τ3 ρ' G4 H4 σ3 y e4 w4 _ fun v G5 H5 w5 s5 r5 => ?_)
        have g25 := g24.trans s5
        have hD5 : H5 D = some (.lst acc) := g25.kp D _ hacc nT
        have g5D : G5 D = none := by
          cases z : G5 D with
          | none => rfl
          | some o =>
            rcases g25.gn D o nT z with y | y
            · rw [giD] at y; cases y
            · rw [hacc] at y; cases y
        refine ⟨acc, hD5, by rw [rp.length]; exact okLen_lt (n := don.length) (decide_eq_true (Nat.le_trans (Nat.le_trans hdl hil) (of_decide_eq_true hz))), ?_⟩
        have wb : Wd F τ3 (unAll ρ vs) G5 H5 (wipe σ vs) := wi'.gw w5.co g25
        refine ⟨τ3, don ++ [y], ys, G5, acc ++ [v], e5, by rw [← ex, List.append_assoc]; rfl, ?_, fun c o ec' nc => ?_, gg.trans g25.gg, gn' g25, upd_same, (rp.mono g25.gg).snoc r5, by rw [List.length_append]; exact Nat.succ_le_succ hdl⟩
        · refine wb.mutD hD5 g5D ?_ nT fun j ys' hj ej => ?_
          · exact w1.co.H0_none hD
          · obtain ⟨p, ep, ws, _, hp, _⟩ := (w1.unAll vs).ow hj
            rw [ej] at ep
            cases ep
            rw [hD] at hp
            cases hp
        · rw [upd_ne fun z => by rw [z, hD] at ec'; cases ec']
          exact g25.kp c o (kp c o ec' nc) nc
      | false =>
        have ec : compGo mg mt me (unAll ρ vs) (List.drop (i + 1) ds) τ2 = some (rest, t1) := ec
        refine iteF ⟨τ2, don, rest, G4, acc, ec, ex, wi'.gw w4.co g24, fun c o ec' nc => g24.kp c o (kp c o ec' nc) nc, gg.trans g24.gg, gn' g24, g24.kp D _ hacc nT, rp.mono g24.gg, Nat.le_succ_of_le hdl⟩
  · have ei : i = ds.length := by omega
    subst ei
    rw [List.drop_length] at ec
    obtain ⟨rfl, rfl⟩ := pure_some ec
    rw [List.append_nil] at ex
    subst ex
    have gw : Gw F G1 H1 Gi Hi := ⟨gg, kp, fun c o nc z => (gn c o nc z).elim .inl fun y => .inr y.1⟩
    refine .inl ⟨ok.stop F _ _ Gi Hi _ gg wi' _ (Nat.le_refl _), q D Gi Hi (w1.gw wi'.co gw) (s1.trans gw) ⟨⟨acc, giD, hacc, rp, w1.co.H0_none hD, nT⟩, fun j ys hj ej => ?_⟩ (kp_none w s1 hD nT)⟩
    obtain ⟨p, ep, ws, _, hp, _⟩ := w1.ow hj
    rw [ej] at ep
    cases ep
    rw [hD] at hp
    cases hp
end DL

set_option maxHeartbeats 1000000
/-! The data layer, part D: statements. -/
namespace DL
open PySem L2

inductive Out where
  | nx (ρ : List Sl)
  | bk (ρ : List Sl)
  | ct (ρ : List Sl)
  | rt (d : PyData)
abbrev MS := List Sl → M Out
def Post (F : Fm) (t1 : Tape) (G : Hp) (D : Ends) : Out → Prop
  | .nx ρ => ∀ σ G' H', Wd F t1 ρ G' H' σ → Same G G' → D.nx σ H'
  | .bk ρ => ∀ σ G' H', Wd F t1 ρ G' H' σ → Same G G' → D.bk σ H'
  | .ct ρ => ∀ σ G' H', Wd F t1 ρ G' H' σ → Same G G' → D.ct σ H'
  | .rt d => ∀ v G' H', Co F t1 G' H' → Same G G' → Rp G' v d → D.rt v H'
def EvS (t : TS) (m : MS) : Prop := ∀ (F : Fm) (t0 t1 : Tape) (ρ : List Sl) (G H : Hp) (σ : St) (o : Out), m ρ t0 = some (o, t1) → Wd F t0 ρ G H σ → ∀ D : Ends, Post F t1 G D o → t D σ H
theorem Post.mono {F : Fm} {t1 : Tape} {G G' : Hp} {D : Ends} {o : Out} (s : Same G G') (h : Post F t1 G D o) : Post F t1 G' D o := by
  cases o with
  | nx ρ => exact fun σ G2 H2 w e => h σ G2 H2 w (s.trans e)
  | bk ρ => exact fun σ G2 H2 w e => h σ G2 H2 w (s.trans e)
  | ct ρ => exact fun σ G2 H2 w e => h σ G2 H2 w (s.trans e)
  | rt d => exact fun v G2 H2 w e => h v G2 H2 w (s.trans e)

def sNext : MS := fun ρ => pure (.nx ρ)
theorem ev_next : EvS tNext sNext := fun F t0 t1 ρ G H σ o e w D p => by
  obtain ⟨rfl, rfl⟩ := pure_some e
  exact p σ G H w (Same.refl G)
def sBreak : MS := fun ρ => pure (.bk ρ)
theorem ev_break : EvS tBreak sBreak := fun F t0 t1 ρ G H σ o e w D p => by
  obtain ⟨rfl, rfl⟩ := pure_some e
  exact p σ G H w (Same.refl G)
def sCont : MS := fun ρ => pure (.ct ρ)
theorem ev_cont : EvS tCont sCont := fun F t0 t1 ρ G H σ o e w D p => by
  obtain ⟨rfl, rfl⟩ := pure_some e
  exact p σ G H w (Same.refl G)
def andThen (b : MS) : Out → M Out
  | .nx ρ => b ρ
  | o => pure o
def sSeq (a b : MS) : MS := fun ρ => do
  let o ← a ρ
  andThen b o
theorem ev_seq {t u : TS} {a b : MS} (ha : EvS t a) (hb : EvS u b) : EvS (tSeq t u) (sSeq a b) := fun F t0 t1 ρ G H σ o e w D p => by
  obtain ⟨x, t2, e1, e⟩ := bnd_some e
  refine ha F t0 t2 ρ G H σ x e1 w _ ?_
  cases x with
  | nx ρ' => exact fun σ' G' H' w' s => hb F t2 t1 ρ' G' H' σ' o e w' D (p.mono s)
  | bk ρ' =>
    obtain ⟨rfl, rfl⟩ := pure_some e
    exact p
  | ct ρ' =>
    obtain ⟨rfl, rfl⟩ := pure_some e
    exact p
  | rt d =>
    obtain ⟨rfl, rfl⟩ := pure_some e
    exact p
def sDrop (m : ME) : MS := fun ρ => do
  let _ ← m ρ
  pure (.nx ρ)
theorem ev_drop {te : TE} {m : ME} (h : EvF te m) : EvS (tDrop te) (sDrop m) := fun F t0 t1 ρ G H σ o e w D p => by
  obtain ⟨x, t2, e1, e⟩ := bnd_some e
  obtain ⟨rfl, rfl⟩ := pure_some e
  exact h F t0 _ ρ G H σ x e1 w _ fun v G' H' w' s r => p σ G' H' w' s.gg
def sRet (m : ME) : MS := fun ρ => do
  let d ← m ρ
  pure (.rt d)
theorem ev_ret {te : TE} {m : ME} (h : EvF te m) : EvS (tRet te) (sRet m) := fun F t0 t1 ρ G H σ o e w D p => by
  obtain ⟨x, t2, e1, e⟩ := bnd_some e
  obtain ⟨rfl, rfl⟩ := pure_some e
  exact h F t0 _ ρ G H σ x e1 w _ fun v G' H' w' s r => p v G' H' w'.co s.gg r
def sIf (c : MB) (a b : MS) : MS := fun ρ => do
  if ← c ρ then a ρ else b ρ
theorem ev_ifS {c : TT} {t u : TS} {mc : MB} {a b : MS} (hc : EvT c mc) (ha : EvS t a) (hb : EvS u b) : EvS (tIfS c t u) (sIf mc a b) := fun F t0 t1 ρ G H σ o e w D p => by
  obtain ⟨x, t2, e1, e⟩ := bnd_some e
  refine hc F t0 t2 ρ G H σ x e1 w _ fun G1 H1 w1 s1 => ?_
  cases x with
  | true => exact iteT (ha F t2 t1 ρ G1 H1 σ o e w1 D (p.mono s1.gg))
  | false => exact iteF (hb F t2 t1 ρ G1 H1 σ o e w1 D (p.mono s1.gg))
/-- x = e, a, b = e -/
def sAsg (m : ME) (mg : MG) : MS := fun ρ => do
  let d ← m ρ
  let ρ' ← M.lift (mg d ρ)
  pure (.nx ρ')
theorem ev_asg {te : TE} {g : TG} {m : ME} {mg : MG} {is : List Nat} (he : EvF te m) (hg : EvG g mg is) : EvS (tAsg te g) (sAsg m mg) := fun F t0 t1 ρ G H σ o e w D p => by
  obtain ⟨x, t2, e1, e⟩ := bnd_some e
  obtain ⟨ρ', t3, e2, e⟩ := bnd_some e
  obtain ⟨f2, rfl⟩ := lift_some e2
  obtain ⟨rfl, rfl⟩ := pure_some e
  refine he F t0 _ ρ G H σ x e1 w _ fun v G' H' w' s r => ?_
  exact hg F _ ρ ρ' G' H' σ v x f2 w' r _ fun σ' w2 _ => p σ' G' H' w2 s.gg
/-- x = a new list, which x owns -/
def sOwn (i : Nat) (m : ML) : MS := fun ρ => do
  let xs ← m ρ
  pure (.nx (ρ.set i (.ow xs)))
theorem ev_own {te : TE} {i : Nat} {m : ML} (he : EvN te m) : EvS (tAsg te (gName i)) (sOwn i m) := fun F t0 t1 ρ G H σ o e w D p => by
  obtain ⟨x, t2, e1, e⟩ := bnd_some e
  obtain ⟨rfl, rfl⟩ := pure_some e
  refine he F t0 _ ρ G H σ x e1 w _ fun a G' H' w' s n _ => ?_
  exact p _ G' H' (w'.setO n.1 n.2) s.gg
/-- an owned list is frozen, ahead of a statement -/
def frz (i : Nat) (ρ : List Sl) : List Sl := match ρ[i]? with
  | some (.ow xs) => ρ.set i (.fz (.list xs))
  | _ => ρ
def sFrz (i : Nat) (m : MS) : MS := fun ρ => m (frz i ρ)
theorem ev_frz {t : TS} {i : Nat} {m : MS} (h : EvS t m) : EvS t (sFrz i m) := fun F t0 t1 ρ G H σ o e w D p => by
  unfold sFrz frz at e
  split at e
  · rename_i xs hi
    obtain ⟨G', s, w'⟩ := w.freeze hi
    exact h F t0 t1 _ G' H σ o e w' D (p.mono s)
  · exact h F t0 t1 ρ G H σ o e w D p
/-- a name forgotten, ahead of a statement -/
def sUn (i : Nat) (m : MS) : MS := fun ρ => m (ρ.set i .un)
theorem ev_un {t : TS} {i : Nat} {m : MS} (h : EvS t m) : EvS t (sUn i m) := fun F t0 t1 ρ G H σ o e w D p => by
  refine h F t0 t1 _ G H σ o e ?_ D p
  refine ⟨w.co, by rw [List.length_set]; exact w.len, fun j s v h1 h2 => ?_, fun j k xs ys v h1 h2 h3 h4 => ?_⟩
  · rcases get_set h1 with ⟨_, rfl, _⟩ | ⟨_, e1⟩
    · trivial
    · exact w.sl j s v e1 h2
  · rcases get_set h1 with ⟨_, z, _⟩ | ⟨_, e1⟩
    · cases z
    · rcases get_set h2 with ⟨_, z, _⟩ | ⟨_, e2⟩
      · cases z
      · exact w.ap j k xs ys v e1 e2 h3 h4
/-! ### lists changed in place -/
def owOf (ρ : List Sl) (i : Nat) : Option (List PyData) := match ρ[i]? with
  | some (.ow xs) => some xs
  | _ => none
theorem owOf_eq {ρ : List Sl} {i : Nat} {xs : List PyData} (h : owOf ρ i = some xs) : ρ[i]? = some (.ow xs) := by
  unfold owOf at h
  split at h
  · cases h; assumption
  · cases h
def sApp (i : Nat) (m : ME) : MS := fun ρ => do
  let d ← m ρ
  let xs ← M.lift (owOf ρ i)
  if okLen xs.length then pure (.nx (ρ.set i (.ow (xs ++ [d])))) else M.fail
theorem ev_app {K : PySem.W.Frag} {te : TE} {i : Nat} {m : ME} (he : EvF te m) : EvS (tDrop (tBM K "list" rAppend (tVar i) (tCons te tNil))) (sApp i m) := fun F t0 t1 ρ G H σ o e w D p => by
  obtain ⟨d, t2, e1, e⟩ := bnd_some e
  obtain ⟨xs, t3, e2, e⟩ := bnd_some e
  obtain ⟨f2, rfl⟩ := lift_some e2
  split at e
  · rename_i hz
    obtain ⟨rfl, rfl⟩ := pure_some e
    have hi := owOf_eq f2
    obtain ⟨a, ha, vs, _, hl, _⟩ := w.ow hi
    refine ⟨_, ha, .inl ⟨rfl, vs, SqL.of hl⟩, ?_⟩
    refine he F t0 _ ρ G H σ d e1 w _ fun v G' H' w' s r => ?_
    obtain ⟨a', ha', us, _, hl', rp, _⟩ := w'.ow hi
    rw [ha] at ha'
    cases ha'
    refine ⟨a, us, v, rfl, rfl, hl', by rw [rp.length]; exact okLen_lt hz, ?_⟩
    exact p σ G' _ (w'.mut hi ha (rp.snoc r)) s.gg
  · exact (fail_some e).elim
def sExt (i : Nat) (m : ME) : MS := fun ρ => do
  let d ← m ρ
  let xs ← M.lift (owOf ρ i)
  match d with
  | .list ys => if okLen (xs.length + ys.length) then pure (.nx (ρ.set i (.ow (xs ++ ys)))) else M.fail
  | _ => M.fail
theorem ev_ext {K : PySem.W.Frag} {te : TE} {i : Nat} {m : ME} (he : EvB te m) : EvS (tDrop (tBM K "list" rExtend (tVar i) (tCons te tNil))) (sExt i m) := fun F t0 t1 ρ G H σ o e w D p => by
  obtain ⟨d, t2, e1, e⟩ := bnd_some e
  obtain ⟨xs, t3, e2, e⟩ := bnd_some e
  obtain ⟨f2, rfl⟩ := lift_some e2
  have hi := owOf_eq f2
  cases d with
  | list ys =>
    have e : (if okLen (xs.length + ys.length) then pure (.nx (ρ.set i (.ow (xs ++ ys)))) else M.fail : M Out) t2 = some (o, t1) := e
    split at e
    · rename_i hz
      obtain ⟨rfl, rfl⟩ := pure_some e
      obtain ⟨a, ha, vs, _, hl, _⟩ := w.ow hi
      refine ⟨_, ha, .inl ⟨rfl, vs, SqL.of hl⟩, ?_⟩
      refine he F t0 _ ρ G H σ _ e1 w _ fun v G' H' w' s r => ?_
      obtain ⟨a', ha', us, _, hl', rp, _⟩ := w'.ow hi
      rw [ha] at ha'
      cases ha'
      obtain ⟨b, zs, rfl, hb, rb⟩ := r.lst w'
      refine ⟨a, b, us, zs, rfl, rfl, hl', hb, by rw [rp.length, rb.length]; exact okLen_le hz, ?_⟩
      exact p σ G' _ (w'.mut hi ha (rp.append rb)) s.gg
    · exact (fail_some e).elim
  | _ => exact (fail_some e).elim
/-- x.pop() as a statement -/
def sPop (i : Nat) : MS := fun ρ => do
  let xs ← M.lift (owOf ρ i)
  if xs.isEmpty then M.fail else pure (.nx (ρ.set i (.ow xs.dropLast)))
theorem ev_pop {K : PySem.W.Frag} {i : Nat} : EvS (tDrop (tBM0 K "list" rPop (tVar i))) (sPop i) := fun F t0 t1 ρ G H σ o e w D p => by
  obtain ⟨xs, t3, e2, e⟩ := bnd_some e
  obtain ⟨f2, rfl⟩ := lift_some e2
  have hi := owOf_eq f2
  split at e
  · exact (fail_some e).elim
  · rename_i hz
    obtain ⟨rfl, rfl⟩ := pure_some e
    obtain ⟨a, ha, vs, _, hl, rp, _⟩ := w.ow hi
    have hv : vs.length - 1 < vs.length := by
      have := rp.length
      cases xs with
      | nil => exact absurd rfl hz
      | cons x r =>
        rw [List.length_cons] at this
        omega
    exact ⟨_, ha, .inl ⟨rfl, vs, SqL.of hl⟩, a, vs, _, rfl, rfl, hl, List.getElem?_eq_getElem hv, p σ G _ (w.mut hi ha rp.dropLast) (Same.refl G)⟩
/-- g = x.pop() -/
def sPopTo (i : Nat) (mg : MG) : MS := fun ρ => do
  let xs ← M.lift (owOf ρ i)
  let d ← M.lift xs.getLast?
  let ρ' ← M.lift (mg d (ρ.set i (.ow xs.dropLast)))
  pure (.nx ρ')
theorem ev_popTo {K : PySem.W.Frag} {i : Nat} {g : TG} {mg : MG} {is : List Nat} (hg : EvG g mg is) : EvS (tAsg (tBM0 K "list" rPop (tVar i)) g) (sPopTo i mg) := fun F t0 t1 ρ G H σ o e w D p => by
  obtain ⟨xs, t3, e2, e⟩ := bnd_some e
  obtain ⟨f2, rfl⟩ := lift_some e2
  obtain ⟨d, t4, e3, e⟩ := bnd_some e
  obtain ⟨f3, rfl⟩ := lift_some e3
  obtain ⟨ρ', t5, e4, e⟩ := bnd_some e
  obtain ⟨f4, rfl⟩ := lift_some e4
  obtain ⟨rfl, rfl⟩ := pure_some e
  have hi := owOf_eq f2
  obtain ⟨a, ha, vs, _, hl, rp, _⟩ := w.ow hi
  rw [List.getLast?_eq_getElem?] at f3
  obtain ⟨v, hv, rv⟩ := rp.get f3
  rw [← rp.length] at hv
  exact ⟨_, ha, .inl ⟨rfl, vs, SqL.of hl⟩, a, vs, v, rfl, rfl, hl, hv, hg F _ _ ρ' G _ σ v d f4 (w.mut hi ha rp.dropLast) rv _ fun σ' w2 _ => p σ' G _ w2 (Same.refl G)⟩
/-- x[k] = e -/
def ixOf (n : Nat) : PyData → Option Nat
  | .int i => ixN n i
  | _ => none
def sSetI (i : Nat) (mk m : ME) : MS := fun ρ => do
  let d ← m ρ
  let k ← mk ρ
  let xs ← M.lift (owOf ρ i)
  let j ← M.lift (ixOf xs.length k)
  pure (.nx (ρ.set i (.ow (xs.set j d))))
theorem ev_setI {te tk : TE} {i : Nat} {mk m : ME} (he : EvF te m) (hk : EvB tk mk) : EvS (tAsg te (L2.gSub (tVar i) tk rSetL)) (sSetI i mk m) := fun F t0 t1 ρ G H σ o e w D p => by
  obtain ⟨d, t2, e1, e⟩ := bnd_some e
  obtain ⟨k, t3, e2, e⟩ := bnd_some e
  obtain ⟨xs, t4, e3, e⟩ := bnd_some e
  obtain ⟨f3, rfl⟩ := lift_some e3
  obtain ⟨j, t5, e4, e⟩ := bnd_some e
  obtain ⟨f4, rfl⟩ := lift_some e4
  obtain ⟨rfl, rfl⟩ := pure_some e
  have hi := owOf_eq f3
  refine he F t0 t2 ρ G H σ d e1 w _ fun v G1 H1 w1 s1 r1 => ?_
  obtain ⟨a, ha, _⟩ := w1.ow hi
  refine ⟨_, ha, ?_⟩
  refine hk F t2 _ ρ G1 H1 σ k e2 w1 _ fun u G2 H2 w2 s2 r2 => ?_
  obtain ⟨a', ha', us, _, hl', rp, _⟩ := w2.ow hi
  rw [ha] at ha'
  cases ha'
  cases k with
  | int n =>
    refine ⟨a, us, n, j, rfl, r2.int, hl', by rw [rp.length]; exact f4, ?_⟩
    exact p σ G2 _ (w2.mut hi ha (rp.set (r1.mono s2.gg) j)) (s1.gg.trans s2.gg)
  | _ => cases f4
/-! ### loops -/
def loopOut (go : List Sl → M Out) : Out → M Out
  | .nx ρ => go ρ
  | .ct ρ => go ρ
  | .bk ρ => pure (.nx ρ)
  | .rt d => pure (.rt d)
def forGo (mg : MG) (b : MS) : List PyData → List Sl → M Out
  | [], ρ => pure (.nx ρ)
  | d :: r, ρ => do
    let ρ' ← M.lift (mg d ρ)
    let o ← b ρ'
    loopOut (forGo mg b r) o
def sFor (mi : ML) (mg : MG) (b : MS) : MS := fun ρ => do
  let ds ← mi ρ
  forGo mg b ds ρ
theorem ev_for {wi : TI} {g : TG} {tb : TS} {mi : ML} {mg : MG} {b : MS} {is : List Nat} (hi : EvI wi mi) (hg : EvG g mg is) (hb : EvS tb b) : EvS (tFor wi g tb) (sFor mi mg b) := fun F t0 t1 ρ G H σ o e w D p => by
  obtain ⟨ds, t2, e1, e⟩ := bnd_some e
  refine hi F t0 t2 ρ G H σ ds e1 w _ fun J G1 H1 w1 s1 ok => ?_
  refine ⟨fun i m σi Hi => ∃ (τ : Tape) (ρi : List Sl) (Gi : Hp), i ≤ ds.length ∧ m = ds.length - i ∧ forGo mg b (ds.drop i) ρi τ = some (o, t1) ∧ Wd F τ ρi Gi Hi σi ∧ Same G1 Gi,
    ⟨ds.length, t2, ρ, G1, Nat.zero_le _, by omega, e, w1, Same.refl G1⟩, ?_⟩
  rintro i m σi Hi ⟨τ, ρi, Gi, hil, rfl, ec, wi', gg⟩
  by_cases hlt : i < ds.length
  · have hget : ds[i]? = some ds[i] := List.getElem?_eq_getElem hlt
    rw [List.drop_eq_getElem_cons hlt] at ec
    obtain ⟨ρ', τ1, e2, ec⟩ := bnd_some ec
    obtain ⟨e2', rfl⟩ := lift_some e2
    obtain ⟨x, τ2, e3, ec⟩ := bnd_some ec
    refine .inr ⟨ok.go F _ _ Gi Hi _ gg wi' i _ hget, fun σ' H' => ∃ (τ : Tape) (ρi : List Sl) (Gi : Hp), forGo mg b (ds.drop (i + 1)) ρi τ = some (o, t1) ∧ Wd F τ ρi Gi H' σ' ∧ Same G1 Gi, ?_, ?_⟩
    · rintro σ' H' ⟨τ', ρ2, G', a1, a2, a3⟩
      exact ⟨ds.length - (i + 1), by omega, τ', ρ2, G', hlt, rfl, a1, a2, a3⟩
    · intro v H' hy
      obtain ⟨G2, g2, w2, rx, _⟩ := ok.yld F _ _ Gi Hi _ gg wi' i _ hget v H' hy
      refine hg F _ _ ρ' G2 H' _ v _ e2' w2 rx _ fun σ3 w3 _ => ?_
      refine hb F _ τ2 ρ' G2 H' σ3 x e3 w3 _ ?_
      cases x with
      | nx ρ4 => exact fun σ4 G4 H4 w4 s4 => ⟨τ2, ρ4, G4, ec, w4, (gg.trans g2.gg).trans s4⟩
      | ct ρ4 => exact fun σ4 G4 H4 w4 s4 => ⟨τ2, ρ4, G4, ec, w4, (gg.trans g2.gg).trans s4⟩
      | bk ρ4 =>
        obtain ⟨rfl, rfl⟩ := pure_some (show (pure (.nx ρ4) : M Out) τ2 = some (o, t1) from ec)
        exact fun σ4 G4 H4 w4 s4 => p σ4 G4 H4 w4 (s1.gg.trans ((gg.trans g2.gg).trans s4))
      | rt d =>
        obtain ⟨rfl, rfl⟩ := pure_some (show (pure (.rt d) : M Out) τ2 = some (o, t1) from ec)
        exact fun v4 G4 H4 w4 s4 r4 => p v4 G4 H4 w4 (s1.gg.trans ((gg.trans g2.gg).trans s4)) r4
  · have ei : i = ds.length := by omega
    subst ei
    rw [List.drop_length] at ec
    obtain ⟨rfl, rfl⟩ := pure_some (show (pure (.nx ρi) : M Out) τ = some (o, t1) from ec)
    exact .inl ⟨ok.stop F _ _ Gi Hi _ gg wi' _ (Nat.le_refl _), p σi Gi Hi wi' (s1.gg.trans gg)⟩
def whileGo (c : MB) (b : MS) : Nat → List Sl → M Out
  | 0, _ => M.fail
  | n + 1, ρ => do
    if ← c ρ then do
      let o ← b ρ
      loopOut (whileGo c b n) o
    else pure (.nx ρ)
def sWhile (fuel : List Sl → Nat) (c : MB) (b : MS) : MS := fun ρ => whileGo c b (fuel ρ) ρ
theorem ev_while {tc : TT} {tb : TS} {c : MB} {b : MS} (fuel : List Sl → Nat) (hc : EvT tc c) (hb : EvS tb b) : EvS (tWhile tc tb) (sWhile fuel c b) := fun F t0 t1 ρ G H σ o e w D p => by
  refine ⟨fun m σi Hi => ∃ (τ : Tape) (ρi : List Sl) (Gi : Hp), whileGo c b m ρi τ = some (o, t1) ∧ Wd F τ ρi Gi Hi σi ∧ Same G Gi, ⟨_, t0, ρ, G, e, w, Same.refl G⟩, ?_⟩
  rintro m σi Hi ⟨τ, ρi, Gi, ec, wi', gg⟩
  cases m with
  | zero => exact (fail_some ec).elim
  | succ m =>
    obtain ⟨x, τ2, e1, ec⟩ := bnd_some ec
    refine hc F τ τ2 ρi Gi Hi σi x e1 wi' _ fun G1 H1 w1 s1 => ?_
    cases x with
    | true =>
      obtain ⟨y, τ3, e2, ec⟩ := bnd_some (show (b ρi >>= fun o => loopOut (whileGo c b m) o) τ2 = some (o, t1) from ec)
      refine iteT ⟨fun σ' H' => ∃ (τ : Tape) (ρi : List Sl) (Gi : Hp), whileGo c b m ρi τ = some (o, t1) ∧ Wd F τ ρi Gi H' σ' ∧ Same G Gi, fun σ' H' h => ⟨m, Nat.lt_succ_self m, h⟩, ?_⟩
      refine hb F τ2 τ3 ρi G1 H1 σi y e2 w1 _ ?_
      cases y with
      | nx ρ4 => exact fun σ4 G4 H4 w4 s4 => ⟨τ3, ρ4, G4, ec, w4, (gg.trans s1.gg).trans s4⟩
      | ct ρ4 => exact fun σ4 G4 H4 w4 s4 => ⟨τ3, ρ4, G4, ec, w4, (gg.trans s1.gg).trans s4⟩
      | bk ρ4 =>
        obtain ⟨rfl, rfl⟩ := pure_some (show (pure (.nx ρ4) : M Out) τ3 = some (o, t1) from ec)
        exact fun σ4 G4 H4 w4 s4 => p σ4 G4 H4 w4 ((gg.trans s1.gg).trans s4)
      | rt d =>
        obtain ⟨rfl, rfl⟩ := pure_some (show (pure (.rt d) : M Out) τ3 = some (o, t1) from ec)
        exact fun v4 G4 H4 w4 s4 r4 => p v4 G4 H4 w4 ((gg.trans s1.gg).trans s4) r4
    | false =>
      obtain ⟨rfl, rfl⟩ := pure_some (show (pure (.nx ρi) : M Out) τ2 = some (o, t1) from ec)
      exact iteF (p σi G1 H1 w1 (gg.trans s1.gg))
end DL

set_option maxHeartbeats 1000000
/-! The data layer, part E: rules, defs, calls, the end of a law. -/
namespace DL
open PySem L2 PySem.Spec PyProof.Rows

/-! ### a def's contract, no repr running around -/
structure FnG (P : Program) (w : World) (K : PySem.W.Frag) (mg : Str → Option Value) (base : Heap) (CX : CXT) (k : Nat) (f : Addr) (fd : FuncData) (ps : List Str) (sp : Sp) : Prop where
  len : ∀ vs H Q E, sp vs H Q E → vs.length = ps.length
  run : ∀ (B : Around) (ou : List Env) (s0 : Shared) (H : Hp) (ar : Args) (us : List Value) (vs : List V) (Q : VK) (E : XK), Room k B → B.guards = some [] → Env0 P w K mg base B ou s0 H →
    BindsTo s0 fd ar (ps.zip us) → Vals vs us → sp vs H Q E → codeAny (model P w) B (.call (.ref f) ar) (CR CX ou P w H s0 Q E) s0
theorem fnG_of {CX : CXT} {P : Program} {w : World} {K : PySem.W.Frag} {mg : Str → Option Value} {base : Heap} {k : Nat} {f : Addr} {x qual : Str} {st : Stmt} {fd : FuncData} {N ps : List Str} {sp : Sp}
    (F : Fun K x qual st f fd) (S : FnScope N ps (defScope st)) (len : ∀ vs H Q E, sp vs H Q E → vs.length = ps.length)
    (hb : ∀ (cdv : Value) (B : Around) (ou : List Env) (s0 : Shared) (H : Hp) (vs : List V) (Q : VK) (E : XK), Room k (B.deeper (envOfC qual (defScope st) s0.heap.objs.size f cdv)) → B.guards = some [] → sp vs H Q E →
      ∃ t, PSs (cxOf CX P w K mg base N qual (defScope st) f cdv B ou s0 H E) (defBody st) t ∧ t { nx := fun _ H' => Q .non H', rt := Q } (L2.start N vs) H) : FnG P w K mg base CX (k + 1) f fd ps sp := by
  obtain ⟨oc, od, kV, doc, pm, an, cdv, ct, osl, rfl, lk, hcd⟩ := F.ex
  refine ⟨len, fun B ou s0 H ar us vs Q E hr hG e0 hbind rv hsp => ?_⟩
  have hlen := len _ _ _ _ hsp
  have KX : K.In s0.heap := e0.mod.kin.keeps fun b o q => (e0.bs b o q).1
  have nl : s0.heap.NoLimit := e0.mod.nolimit.keeps fun b o q => (e0.bs b o q).1
  have hki : ∀ y ∈ ps.zip us, (defScope st).names.lookup y.1 = some .local ∨ ((defScope st).names.lookup y.1 = some .cell ∧ ((cellsFrom (s0.heap.objs.size + 1) (defScope st).names []).lookup y.1).isSome = true) := by
    rintro ⟨n, v⟩ hy
    rcases S.par n (List.of_mem_zip hy).1 with z | z
    · exact Or.inl z
    · exact Or.inr ⟨z, PySem.W.cellsFrom_some _ _ _ (Or.inl z)⟩
  refine codeAny_call_function hr.depth (KX _ _ lk) rfl S.co S.gen rfl (PySem.W.codeRec_of KX hcd) (hbind _ _ _ _ ?_)
  refine wpAny_newFunctionEnv_cells S.kind hki fun en hen s1 inc => ?_
  subst hen
  refine ⟨nl.keeps inc.toInCall.keep, codeAny_func ?_⟩
  obtain ⟨t, ht, hq⟩ := hb cdv B ou s0 H vs Q E (hr.deeper _) hG hsp
  have I := inv_start (CX := CX) (E := E) S hr.hd e0 hlen rv inc
  refine wpAny_mono (ht.run [] s1 (L2.start N vs) H _ I hq) (fun fl s' hs => ?_) fun e s' hs => hs
  cases fl with
  | ret u =>
    obtain ⟨v, σ', H', J, rv', q⟩ := hs
    exact ⟨v, H', J.os, J.bare, J.base, J.hok, rv', q⟩
  | next =>
    obtain ⟨σ', H', J, q⟩ := hs
    exact ⟨V.non, H', J.os, J.bare, J.base, J.hok, rfl, q⟩
  | brk =>
    obtain ⟨_, _, _, q⟩ := hs
    exact q.elim
  | cont =>
    obtain ⟨_, _, _, q⟩ := hs
    exact q.elim
section
variable {X : Cx} {CX : CXT} {k : Nat} {f : Addr} {fd : FuncData} {ps : List Str} {sp : Sp} {E : XK} {x : Str} {p pos : Pos} {e : Expr} {es : List Expr} {t : TA}
theorem run_fnG {pins : List (Addr × Obj)} {σ : L2.St} {H : Hp} {s : Shared} {Q : VK} {us : List Value} {vs : List V} (F : FnG X.prog X.w X.K X.mg X.base CX k f fd ps sp) (hr : Room k X.A) (hG : X.A.guards = some []) (hb : Binds X.K fd ps []) (hx : Passes CX X E)
    (I : Inv X pins σ H s) (rv : Vals vs us) (h : sp vs H Q E) : wpAny (model X.prog X.w) X.A (call (.ref f) us) (EP X pins σ Q) X.xe s := by
  have hl : (us ++ []).length = ps.length := by
    rw [List.append_nil, ← rv.length]
    exact F.len _ _ _ _ h
  have hbi := hb s us I.kIn hl
  rw [List.append_nil] at hbi
  refine wpAny_call (codeAny_mono (F.run X.A X.stack s H ⟨us, []⟩ us vs Q E hr hG I.env0 hbi rv h) fun r s' hq => ?_)
  cases r with
  | error e => exact hx pins σ H s e s' I hq
  | ok fl =>
    cases fl with
    | ret u => exact I.after hq
    | next => exact hq.elim
    | brk => exact hq.elim
    | cont => exact hq.elim
theorem pe_callG (F : FnG X.prog X.w X.K X.mg X.base CX k f fd ps sp) (hr : Room k X.A) (hG : X.A.guards = some []) (hg : Gl X x) (hm : X.mg x = some (.ref f)) (hk : PySem.W.keepIn X.K (.ref f) = true) (hb : Binds X.K fd ps []) (hx : Passes CX X E) (ha : PA X (e :: es) t)
    (hdb : (x == ("__debug__" : Str)) = false) (he : starEach (e :: es) X.env = (false, eval e X.env) :: starEach es X.env) (hpl : (backTo pos (starEach es X.env)).any (·.1) = false) :
    PE X (.Call (.Name x p) (e :: es) [] pos) (tCall sp [] E t) := by
  refine ⟨fun pins s σ H Q I h => ?_⟩
  refine wpAny_Call_Name_kw (ld_glob I hg hm ?_ hdb)
  refine PySem.W.callWith_K (h₀ := X.base) I.ok.mod.kin hk (thn (ha.run pos pins s σ H _ I h) fun us s1 hq => ?_) he hpl
  obtain ⟨vs, H1, I1, rv, q⟩ := hq
  rw [List.append_nil] at q
  exact ⟨I1.kIn, run_fnG F hr hG hb hx I1 rv q⟩
theorem pe_callG0 (F : FnG X.prog X.w X.K X.mg X.base CX k f fd ps sp) (hr : Room k X.A) (hG : X.A.guards = some []) (hg : Gl X x) (hm : X.mg x = some (.ref f)) (hk : PySem.W.keepIn X.K (.ref f) = true) (hb : Binds X.K fd ps []) (hx : Passes CX X E)
    (hdb : (x == ("__debug__" : Str)) = false) : PE X (.Call (.Name x p) [] [] pos) (tCall sp [] E tNil) := by
  refine ⟨fun pins s σ H Q I h => ?_⟩
  refine wpAny_Call_Name_kw (ld_glob I hg hm ?_ hdb)
  exact PySem.W.callWith_K0 I.kIn hk (run_fnG (us := []) F hr hG hb hx I .nil h)
end

/-! ### defs as functions of data -/
abbrev MF := List Sl → M PyData
def spD (m : MF) : Sp := fun vs H Q _ => ∃ (T : Addr) (t0 t1 : Tape) (G : Hp) (as : List Sl) (d : PyData), m as t0 = some (d, t1) ∧ Co ⟨T, G, H⟩ t0 G H ∧ AgsOk T G as vs ∧
  ∀ v G' H', Co ⟨T, G, H⟩ t1 G' H' → Same G G' → Rp G' v d → Q v H'
structure Cee (P : Program) (w : World) (K : PySem.W.Frag) (mg : Str → Option Value) (base : Heap) (k : Nat) (x : Str) (m : MF) : Prop where
  ex : ∃ f fd ps, mg x = some (.ref f) ∧ PySem.W.keepIn K (.ref f) = true ∧ Binds K fd ps [] ∧ FnG P w K mg base CX0 k f fd ps (spD m)
def eCall (m : MF) (ma : MA) : ME := fun ρ => do
  let as ← ma ρ
  m as
theorem ev_call {t : TA} {ma : MA} {m : MF} (h : EvA t ma) : EvF (tCall (spD m) [] E0 t) (eCall m ma) := fun F t0 t1 ρ G H σ d e w Q q => by
  obtain ⟨as, t2, e1, e⟩ := bnd_some e
  refine h F t0 t2 ρ G H σ as e1 w _ fun vs G1 H1 w1 s1 r1 => ?_
  rw [List.append_nil]
  refine ⟨F.T, t2, t1, G1, as, d, e, ⟨w1.co.sub, w1.co.gT, w1.co.tape, fun b o q _ => q, fun b o q => .inl q⟩, r1, fun v G2 H2 c2 s2 r2 => ?_⟩
  have gw : Gw F G1 H1 G2 H2 := ⟨s2, fun b o q n => c2.fr b o q n, fun b o _ q => c2.gn b o q⟩
  have co : Co F t1 G2 H2 := by
    refine w1.co.grow c2.sub s2 gw.kp c2.gT c2.tape fun b o q => ?_
    rcases c2.gn b o q with z | z
    · exact .inl z
    · exact .inr (w1.co.H0_none z)
  exact q v G2 H2 (w1.gw co gw) (s1.trans gw) r2
/-- n parameters, N names in all -/
def outD : Out → M PyData
  | .rt d => pure d
  | .nx _ => pure .none
  | _ => M.fail
def mfn (n N : Nat) (b : MS) : MF := fun as => if as.length = n then (do
  let o ← b (as ++ List.replicate (N - n) .un)
  outD o) else M.fail
theorem AgsOk.slot {F : Fm} {G H : Hp} : ∀ {as : List Sl} {vs : List V} {i : Nat} {s : Sl} {v : V}, AgsOk F.T G as vs → as[i]? = some s → vs[i]? = some v → SlotOk F G H s (some v) ∧ ∀ xs, s ≠ .ow xs
  | _, _, _, _, _, .nil, h, _ => by simp at h
  | s0 :: _, v0 :: _, 0, s, v, .cons h r, e1, e2 => by
    have z1 : s0 = s := Option.some.inj e1
    have z2 : v0 = v := Option.some.inj e2
    subst z1 z2
    cases s0 with
    | un => exact h.elim
    | ow xs => exact h.elim
    | fz d => exact ⟨⟨_, rfl, h⟩, fun _ z => by cases z⟩
    | tp => exact ⟨congrArg some h, fun _ z => by cases z⟩
  | _, _, i + 1, s, v, .cons h r, e1, e2 => AgsOk.slot (i := i) r (by simpa using e1) (by simpa using e2)
theorem wd_start {T : Addr} {t : Tape} {G H : Hp} {as : List Sl} {vs : List V} {N : List Str} {n : Nat} (co : Co ⟨T, G, H⟩ t G H) (ag : AgsOk T G as vs) (hn : as.length = n) (hN : n ≤ N.length) : Wd ⟨T, G, H⟩ t (as ++ List.replicate (N.length - n) .un) G H (L2.start N vs) := by
  have hv : vs.length = n := by rw [← ag.length]; exact hn
  have split : ∀ (i : Nat) (s : Sl), (as ++ List.replicate (N.length - n) Sl.un)[i]? = some s → (i < n ∧ as[i]? = some s) ∨ s = .un := fun i s e => by
    by_cases hi : i < as.length
    · rw [List.getElem?_append_left hi] at e
      exact .inl ⟨hn ▸ hi, e⟩
    · rw [List.getElem?_append_right (Nat.le_of_not_lt hi), List.getElem?_replicate] at e
      split at e
      · cases e; exact .inr rfl
      · cases e
  have stv : ∀ (i : Nat), i < n → (L2.start N vs)[i]? = (vs[i]?).map some := fun i hi => by
    unfold L2.start
    rw [List.getElem?_append_left (by rw [List.length_map, hv]; exact hi), List.getElem?_map]
  refine ⟨co, ?_, fun i s v h1 h2 => ?_, fun i j xs ys v h1 h2 h3 h4 => ?_⟩
  · unfold L2.start
    rw [List.length_append, List.length_append, List.length_map, List.length_replicate, List.length_replicate, hn, hv]
  · rcases split i s h1 with ⟨hi, e⟩ | rfl
    · rw [stv i hi] at h2
      cases q : vs[i]? with
      | none => rw [q] at h2; cases h2
      | some u =>
        rw [q] at h2
        cases h2
        exact (ag.slot (F := ⟨T, G, H⟩) e q).1
    · trivial
  · rcases split i _ h1 with ⟨hi, e⟩ | z
    · have : vs[i]? = some vs[i] := List.getElem?_eq_getElem (by rw [hv]; exact hi)
      exact absurd rfl ((ag.slot (F := ⟨T, G, H⟩) (H := H) e this).2 xs)
    · cases z
/-- a def of the text, by its body -/
theorem fnD_of {P : Program} {w : World} {K : PySem.W.Frag} {mg : Str → Option Value} {base : Heap} {k : Nat} {f : Addr} {x qual : Str} {st : Stmt} {fd : FuncData} {N ps : List Str} {b : MS}
    (F : Fun K x qual st f fd) (S : FnScope N ps (defScope st))
    (hb : ∀ (cdv : Value) (B : Around) (ou : List Env) (s0 : Shared) (H : Hp), Room k (B.deeper (envOfC qual (defScope st) s0.heap.objs.size f cdv)) → B.guards = some [] →
      ∃ t, PSs (cxOf CX0 P w K mg base N qual (defScope st) f cdv B ou s0 H E0).nox (defBody st) t ∧ EvS t b) : FnG P w K mg base CX0 (k + 1) f fd ps (spD (mfn ps.length N.length b)) := by
  have hpl : ps.length ≤ N.length := by
    have := congrArg List.length S.pre
    rw [List.length_take] at this
    omega
  have key : ∀ {as : List Sl} {t0 t1 : Tape} {d : PyData}, mfn ps.length N.length b as t0 = some (d, t1) → as.length = ps.length ∧ ∃ o, b (as ++ List.replicate (N.length - ps.length) .un) t0 = some (o, t1) ∧ (o = .rt d ∨ (∃ ρ, o = .nx ρ) ∧ d = .none) := by
    intro as t0 t1 d e
    unfold mfn at e
    split at e
    · rename_i hn
      obtain ⟨o, t2, e1, e2⟩ := bnd_some e
      refine ⟨hn, o, ?_⟩
      cases o with
      | rt d' =>
        obtain ⟨rfl, rfl⟩ := pure_some e2
        exact ⟨e1, .inl rfl⟩
      | nx ρ =>
        obtain ⟨rfl, rfl⟩ := pure_some e2
        exact ⟨e1, .inr ⟨⟨ρ, rfl⟩, rfl⟩⟩
      | bk _ => exact (fail_some (t := t2) e2).elim
      | ct _ => exact (fail_some (t := t2) e2).elim
    · exact (fail_some e).elim
  refine fnG_of F S (fun vs H Q E h => ?_) fun cdv B ou s0 H vs Q E hr hG h => ?_
  · obtain ⟨T, t0, t1, G, as, d, e, _, ag, _⟩ := h
    rw [← ag.length]
    exact (key e).1
  · obtain ⟨T, t0, t1, G, as, d, e, co, ag, q⟩ := h
    obtain ⟨hn, o, e1, ho⟩ := key e
    obtain ⟨t, ht, hev⟩ := hb cdv B ou s0 H hr hG
    refine ⟨t, ?_, hev ⟨T, G, H⟩ t0 t1 _ G H _ o e1 (wd_start co ag hn hpl) _ ?_⟩
    · exact ⟨fun pins s σ H1 D I hw => (PSs.nox (X := cxOf CX0 P w K mg base N qual (defScope st) f cdv B ou s0 H E) ht).run pins s σ H1 D I hw⟩
    · rcases ho with rfl | ⟨⟨ρ, rfl⟩, rfl⟩
      · exact fun v G' H' c s r => q v G' H' c s r
      · exact fun σ G' H' w s => q V.non G' H' w.co s .non
end DL

set_option maxHeartbeats 1000000
/-! The data layer, part F: one rule a construct (syntax, reading, mirror at once). -/
namespace DL
open PySem L2

structure RE (X : Cx) (e : Expr) (t : TE) (m : ME) : Prop where
  pe : PE X e t
  ev : EvF t m
structure RB (X : Cx) (e : Expr) (t : TE) (m : ME) : Prop where
  pe : PE X e t
  ev : EvB t m
structure RN (X : Cx) (e : Expr) (t : TE) (m : ML) : Prop where
  pe : PE X e t
  ev : EvN t m
structure RT (X : Cx) (e : Expr) (t : TT) (m : MB) : Prop where
  pt : PT X e t
  ev : EvT t m
structure RW (X : Cx) (e : Expr) (t : TT) (m : MB) : Prop where
  pw : PW X e t
  ev : EvT t m
structure RL (X : Cx) (es : List Expr) (t : TA) (m : ML) : Prop where
  pa : PA X es t
  ev : EvL t m
structure RR (X : Cx) (es : List Expr) (t : TA) (m : ML) : Prop where
  pa : PA X es t
  ev : EvR t m
structure RA (X : Cx) (es : List Expr) (t : TA) (m : MA) : Prop where
  pa : PA X es t
  ev : EvA t m
structure RG (X : Cx) (e : Expr) (g : TG) (m : MG) (is : List Nat) : Prop where
  pg : PG X e g
  ev : EvG g m is
structure RGs (X : Cx) (es : List Expr) (g : TGs) (m : MGs) (is : List Nat) : Prop where
  pg : PGs X es g
  ev : EvGs g m is
structure RI (X : Cx) (tg e : Expr) (w : TI) (m : ML) : Prop where
  pi : PI X tg e w
  ev : EvI w m
structure RS (X : Cx) (s : Stmt) (t : TS) (m : MS) : Prop where
  ps : PS X s t
  ev : EvS t m
structure RSs (X : Cx) (s : List Stmt) (t : TS) (m : MS) : Prop where
  ps : PSs X s t
  ev : EvS t m

section
variable {X : Cx} {e a b c : Expr} {es : List Expr} {t ta tb tc : TE} {m ma mb mc : ME} {pos : Pos} {i : Nat}
theorem RE.bo (h : RE X e t m) : RB X e t m := ⟨h.pe, h.ev.b⟩
theorem RN.fr {l : ML} (h : RN X e t l) : RE X e t (eList l) := ⟨h.pe, h.ev.f⟩
theorem RN.bo {l : ML} (h : RN X e t l) : RB X e t (eList l) := h.fr.bo
theorem re_var (h : PE X e (tVar i)) : RE X e (tVar i) (eVar i) := ⟨h, ev_var i⟩
theorem rb_var (h : PE X e (tVar i)) : RB X e (tVar i) (bVar i) := ⟨h, ev_bvar i⟩
theorem re_int {z : Int} {j} : RE X (.Constant (.int z) j pos) (tC (.int z)) (eC (.int z)) := ⟨pe_int, ev_c fun _ => .int z⟩
theorem re_bl {z : Bool} {j} : RE X (.Constant (.bool z) j pos) (tC (.bl z)) (eC (.bool z)) := ⟨pe_bl, ev_c fun _ => .bl z⟩
theorem re_non {j} : RE X (.Constant .none j pos) (tC .non) (eC .none) := ⟨pe_non, ev_c fun _ => .non⟩
theorem re_str {z : Str} {j} : RE X (.Constant (.str z) j pos) (tC (.str z)) (eC (.str z)) := ⟨pe_str, ev_c fun _ => .str z⟩
theorem re_neg (h : RB X a ta ma) : RE X (.UnaryOp .USub a pos) (tUn (rU fun i => .int (-i)) ta) (e1 gNeg ma) := ⟨pe_un un_neg h.pe, ev_neg h.ev⟩
/-! operators -/
theorem re_bin {op : Operator} {r : R2} {g : PyData → PyData → Option PyData} (o : OpR X (binaryOp op) r) (hg : Op2 r g) (ha : RB X a ta ma) (hb : RB X b tb mb) : RE X (.BinOp a op b pos) (tOp r ta tb) (e2 g ma mb) :=
  ⟨pe_op o ha.pe hb.pe, ev_op hg ha.ev hb.ev⟩
def rAddK (K : PySem.W.Frag) : R2 := fun x y H Q => rI0 (fun i j => .int (i + j)) x y H Q ∨ (rCat x y H Q ∨ (rCatT K x y H Q ∨ ∃ i j, x = .str i ∧ y = .str j ∧ i.length + j.length ≤ sizeLine ∧ Q (.str (i ++ j)) H))
theorem op_addK : OpR X (binaryOp .Add) (rAddK X.K) := op_add.or (op_cat.or (op_catT.or op_add_str))
theorem o_addK {K : PySem.W.Frag} : Op2 (rAddK K) gAdd := o_addI.or (o_catL.or (o_catT.or o_catS))
theorem re_add (ha : RB X a ta ma) (hb : RB X b tb mb) : RE X (.BinOp a .Add b pos) (tOp (rAddK X.K) ta tb) (e2 gAdd ma mb) := re_bin op_addK o_addK ha hb
theorem re_sub (ha : RB X a ta ma) (hb : RB X b tb mb) : RE X (.BinOp a .Sub b pos) (tOp (rI0 fun i j => .int (i - j)) ta tb) (e2 gSub ma mb) := re_bin op_sub o_sub ha hb
theorem re_mul (ha : RB X a ta ma) (hb : RB X b tb mb) : RE X (.BinOp a .Mult b pos) (tOp (rI CMulW fun i j => .int (i * j)) ta tb) (e2 gMulI ma mb) := re_bin op_mulW o_mulI ha hb
theorem re_div (ha : RB X a ta ma) (hb : RB X b tb mb) : RE X (.BinOp a .FloorDiv b pos) (tOp (rI CDivW fun i j => .int (i / j)) ta tb) (e2 gDiv ma mb) := re_bin op_fdivW o_div ha hb
theorem re_mod (ha : RB X a ta ma) (hb : RB X b tb mb) : RE X (.BinOp a .Mod b pos) (tOp (rI (fun _ j => 0 < j) fun i j => .int (i % j)) ta tb) (e2 gMod ma mb) := re_bin op_mod o_mod ha hb
theorem re_pow (ha : RB X a ta ma) (hb : RB X b tb mb) : RE X (.BinOp a .Pow b pos) (tOp (rI CPow fun i j => .int (i ^ j.toNat)) ta tb) (e2 gPow ma mb) := re_bin op_pow o_pow ha hb
/-! comparisons -/
theorem re_cmp {op : CmpOp} {r : R2} {g : PyData → PyData → Option PyData} (o : OpR X (compareOp op) r) (hg : Op2 r g) (ha : RB X a ta ma) (hb : RB X b tb mb) (hm : behindInMarks op b = false) : RE X (.Compare a [op] [b] pos) (tOp r ta tb) (e2 g ma mb) :=
  ⟨pe_cmpR o ha.pe hb.pe hm, ev_op hg ha.ev hb.ev⟩
theorem rt_cmp {op : CmpOp} {r : R2} {g : PyData → PyData → Option PyData} (o : OpR X (compareOp op) r) (hg : Op2 r g) (ha : RB X a ta ma) (hb : RB X b tb mb) (hm : behindInMarks op b = false) : RT X (.Compare a [op] [b] pos) (tTest (tOp r ta tb)) (tOf (e2 g ma mb)) :=
  ⟨pt_cmpR o ha.pe hb.pe hm, ev_test (ev_op hg ha.ev hb.ev).b⟩
theorem re_chain {op op' : CmpOp} {r r' : R2} {g g' : PyData → PyData → Option PyData} (o : OpR X (compareOp op) r) (o' : OpR X (compareOp op') r') (hg : Op2 r g) (hg' : Op2 r' g') (ha : RB X a ta ma) (hb : RB X b tb mb) (hc : RB X c tc mc) (hm : lastMarks [op, op'] [b, c] = false := by rfl) :
    RE X (.Compare a [op, op'] [b, c] pos) (tChain r r' ta tb tc) (eChain g g' ma mb mc) := ⟨pe_chain o o' ha.pe hb.pe hc.pe hm, ev_chain hg hg' ha.ev hb.ev hc.ev⟩
theorem rt_chain {op op' : CmpOp} {r r' : R2} {g g' : PyData → PyData → Option PyData} (o : OpR X (compareOp op) r) (o' : OpR X (compareOp op') r') (hg : Op2 r g) (hg' : Op2 r' g') (ha : RB X a ta ma) (hb : RB X b tb mb) (hc : RB X c tc mc) (hm : lastMarks [op, op'] [b, c] = false := by rfl) :
    RT X (.Compare a [op, op'] [b, c] pos) (tTest (tChain r r' ta tb tc)) (tOf (eChain g g' ma mb mc)) := ⟨pt_chain o o' ha.pe hb.pe hc.pe hm, ev_test (ev_chain hg hg' ha.ev hb.ev hc.ev).b⟩
theorem re_ix (ha : RB X a ta ma) (hb : RB X b tb mb) (hs : PlainIx b := by exact fun _ _ => rfl) : RE X (.Subscript a b pos) (tOp (rIx X.K) ta tb) (e2 gIx ma mb) := ⟨pe_ix ix_seq ha.pe hb.pe hs, ev_op o_ix ha.ev hb.ev⟩
/-! tests -/
theorem rt_val (h : RE X e t m) (he : ∀ whole, isTrue e X.env whole = (do let v ← whole; standAt e.pos; holding [v] (truthy v)) := by intro _; rfl) : RT X e (tB t) (tOf m) := ⟨pt_val h.pe he, ev_testB h.ev.b⟩
theorem rt_not {u : TT} {k : MB} (h : RT X a u k) : RT X (.UnaryOp .Not a pos) (tNot u) (bNot k) := ⟨pt_not h.pt, ev_not h.ev⟩
theorem rw_and1 {u : TT} {k : MB} (h : RT X a u k) : RW X (.BoolOp .And [a] pos) u k := ⟨pw_and1 h.pt, h.ev⟩
theorem rw_or1 {u : TT} {k : MB} (h : RT X a u k) : RW X (.BoolOp .Or [a] pos) u k := ⟨pw_or1 h.pt, h.ev⟩
theorem rw_and {u u' : TT} {k k' : MB} {rest : List Expr} (h : RT X a u k) (h' : RW X (.BoolOp .And (b :: rest) pos) u' k') : RW X (.BoolOp .And (a :: b :: rest) pos) (tAnd u u') (bAnd k k') := ⟨pw_and h.pt h'.pw, ev_and h.ev h'.ev⟩
theorem rw_or {u u' : TT} {k k' : MB} {rest : List Expr} (h : RT X a u k) (h' : RW X (.BoolOp .Or (b :: rest) pos) u' k') : RW X (.BoolOp .Or (a :: b :: rest) pos) (tOr u u') (bOr k k') := ⟨pw_or h.pt h'.pw, ev_or h.ev h'.ev⟩
theorem RW.te {u : TT} {k : MB} (h : RW X e u k) : RT X e u k := ⟨h.pw.pt, h.ev⟩
theorem re_one {op} (h : RE X a ta ma) : RE X (.BoolOp op [a] pos) ta ma := ⟨pe_one h.pe, h.ev⟩
theorem re_and {rest : List Expr} (h : RE X a ta ma) (h' : RE X (.BoolOp .And (b :: rest) pos) tb mb) : RE X (.BoolOp .And (a :: b :: rest) pos) (tAndV ta tb) (eAnd ma mb) := ⟨pe_and h.pe h'.pe, ev_andV h.ev h'.ev⟩
theorem re_or {rest : List Expr} (h : RE X a ta ma) (h' : RE X (.BoolOp .Or (b :: rest) pos) tb mb) : RE X (.BoolOp .Or (a :: b :: rest) pos) (tOrV ta tb) (eOr ma mb) := ⟨pe_or h.pe h'.pe, ev_orV h.ev h'.ev⟩
theorem re_not (h : RE X a ta ma) : RE X (.UnaryOp .Not a pos) (tNotV ta) (eNot ma) := ⟨pe_not h.pe, ev_notV h.ev⟩
theorem re_ifx {u : TT} {k : MB} (hc : RT X c u k) (ha : RE X a ta ma) (hb : RE X b tb mb) : RE X (.IfExp c a b pos) (tIf u ta tb) (eIf k ma mb) := ⟨pe_ifExp hc.pt ha.pe hb.pe, ev_if hc.ev ha.ev hb.ev⟩
/-! lists of expressions, displays -/
theorem rl_nil : RL X [] tNil lNil := ⟨pa_nil, ev_lnil⟩
theorem rl_cons {u : TA} {l : ML} (h : RE X e t m) (r : RL X es u l) (hs : starEach (e :: es) X.env = (false, eval e X.env) :: starEach es X.env := by rfl) : RL X (e :: es) (tCons t u) (lCons m l) := ⟨pa_cons h.pe r.pa hs, ev_lcons h.ev r.ev⟩
theorem rr_nil : RR X [] tNil lNil := ⟨pa_nil, ev_rnil⟩
theorem rr_cons {u : TA} {l : ML} (h : RB X e t m) (r : RR X es u l) (hs : starEach (e :: es) X.env = (false, eval e X.env) :: starEach es X.env := by rfl) : RR X (e :: es) (tCons t u) (lCons m l) := ⟨pa_cons h.pe r.pa hs, ev_rcons h.ev r.ev⟩
theorem ra_nil : RA X [] tNil aNil := ⟨pa_nil, ev_anil⟩
theorem ra_cons {u : TA} {l : MA} (h : RE X e t m) (r : RA X es u l) (hs : starEach (e :: es) X.env = (false, eval e X.env) :: starEach es X.env := by rfl) : RA X (e :: es) (tCons t u) (aCons m l) := ⟨pa_cons h.pe r.pa hs, ev_acons h.ev r.ev⟩
theorem ra_tape {u : TA} {l : MA} (h : PE X e (tVar i)) (r : RA X es u l) (hs : starEach (e :: es) X.env = (false, eval e X.env) :: starEach es X.env := by rfl) : RA X (e :: es) (tCons (tVar i) u) (aTape i l) := ⟨pa_cons h r.pa hs, ev_atape r.ev⟩
theorem re_tup {x1} {u : TA} {l : ML} (h : RL X es u l) : RE X (.Tuple es x1 pos) (tTup u) (eTup l) := ⟨pe_tup h.pa, ev_tup h.ev⟩
theorem rn_lst {u : TA} {l : ML} (h : RL X es u l) : RN X (.List es pos) (tLst u) (nLst l) := ⟨pe_lst h.pa, ev_lst h.ev⟩
/-! calls -/
theorem re_calB {u : TA} {l : ML} {x : Str} {p : Pos} {id : String} {r : List V → Hp → VK → Prop} {g : List PyData → Option PyData} (hc : CallR X (.builtin id) r) (hg : Cal r g) (hm : X.mg x = none) (hv : bootBuiltins x = some (.builtin id)) (h : RR X (e :: es) u l)
    (gl : Gl X x := by rfl) (hn : x ≠ "__name__" := by decide) (hdb : (x == ("__debug__" : Str)) = false := by decide)
    (he : starEach (e :: es) X.env = (false, eval e X.env) :: starEach es X.env := by rfl) (hpl : (backTo pos (starEach es X.env)).any (·.1) = false := by rfl) : RE X (.Call (.Name x p) (e :: es) [] pos) (tCB r u) (eCal g l) :=
  ⟨pe_callB hc gl hm hv h.pa hn hdb he hpl, ev_cal hg h.ev⟩
theorem re_calT {u : TA} {l : ML} {x : Str} {p : Pos} {T : String} {r : List V → Hp → VK → Prop} {g : List PyData → Option PyData} (hc : CallR X (.type T) r) (hg : Cal r g) (hm : X.mg x = none) (hv : bootBuiltins x = some (.type T)) (h : RR X (e :: es) u l)
    (gl : Gl X x := by rfl) (hn : x ≠ "__name__" := by decide) (hdb : (x == ("__debug__" : Str)) = false := by decide)
    (he : starEach (e :: es) X.env = (false, eval e X.env) :: starEach es X.env := by rfl) (hpl : (backTo pos (starEach es X.env)).any (·.1) = false := by rfl) : RE X (.Call (.Name x p) (e :: es) [] pos) (tCB r u) (eCal g l) :=
  ⟨pe_callTy hc gl hm hv h.pa hn hdb he hpl, ev_cal hg h.ev⟩
theorem rn_calT {u : TA} {l : ML} {x : Str} {p : Pos} {T : String} {r : List V → Hp → VK → Prop} {g : List PyData → Option (List PyData)} (hc : CallR X (.type T) r) (hg : CalN r g) (hm : X.mg x = none) (hv : bootBuiltins x = some (.type T)) (h : RR X (e :: es) u l)
    (gl : Gl X x := by rfl) (hn : x ≠ "__name__" := by decide) (hdb : (x == ("__debug__" : Str)) = false := by decide)
    (he : starEach (e :: es) X.env = (false, eval e X.env) :: starEach es X.env := by rfl) (hpl : (backTo pos (starEach es X.env)).any (·.1) = false := by rfl) : RN X (.Call (.Name x p) (e :: es) [] pos) (tCB r u) (nCal g l) :=
  ⟨pe_callTy hc gl hm hv h.pa hn hdb he hpl, ev_calN hg h.ev⟩
theorem rn_calB {u : TA} {l : ML} {x : Str} {p : Pos} {id : String} {r : List V → Hp → VK → Prop} {g : List PyData → Option (List PyData)} (hc : CallR X (.builtin id) r) (hg : CalN r g) (hm : X.mg x = none) (hv : bootBuiltins x = some (.builtin id)) (h : RR X (e :: es) u l)
    (gl : Gl X x := by rfl) (hn : x ≠ "__name__" := by decide) (hdb : (x == ("__debug__" : Str)) = false := by decide)
    (he : starEach (e :: es) X.env = (false, eval e X.env) :: starEach es X.env := by rfl) (hpl : (backTo pos (starEach es X.env)).any (·.1) = false := by rfl) : RN X (.Call (.Name x p) (e :: es) [] pos) (tCB r u) (nCal g l) :=
  ⟨pe_callB hc gl hm hv h.pa hn hdb he hpl, ev_calN hg h.ev⟩
theorem re_call {j k : Nat} {u : TA} {l : MA} {x : Str} {p : Pos} {f : MF} (C : Cee X.prog X.w X.K X.mg X.base j x f) (hr : Room k X.A) (hG : X.A.guards = some []) (h : RA X (e :: es) u l) (hjk : j ≤ k := by decide)
    (gl : Gl X x := by rfl) (hdb : (x == ("__debug__" : Str)) = false := by decide) (he : starEach (e :: es) X.env = (false, eval e X.env) :: starEach es X.env := by rfl) (hpl : (backTo pos (starEach es X.env)).any (·.1) = false := by rfl) :
    RE X (.Call (.Name x p) (e :: es) [] pos) (tCall (spD f) [] E0 u) (eCall f l) := by
  obtain ⟨a, fd, ps, hm, hk, hb, F⟩ := C.ex
  exact ⟨pe_callG F (hr.mono hjk) hG gl hm hk hb pass0 h.pa hdb he hpl, ev_call h.ev⟩
theorem re_call0 {j k : Nat} {x : Str} {p : Pos} {f : MF} (C : Cee X.prog X.w X.K X.mg X.base j x f) (hr : Room k X.A) (hG : X.A.guards = some []) (hjk : j ≤ k := by decide)
    (gl : Gl X x := by rfl) (hdb : (x == ("__debug__" : Str)) = false := by decide) : RE X (.Call (.Name x p) [] [] pos) (tCall (spD f) [] E0 tNil) (eCall f aNil) := by
  obtain ⟨a, fd, ps, hm, hk, hb, F⟩ := C.ex
  exact ⟨pe_callG0 F (hr.mono hjk) hG gl hm hk hb pass0 hdb, ev_call ev_anil⟩
end
/-! slices -/
def okSl (o : Option PyData) : Option (Option Int) := match o with
  | none => some none
  | some (.int i) => some (some i)
  | _ => none
def EvO (t : TO) (mo : List Sl → M (Option Int)) : Prop := ∀ (F : Fm) (t0 t1 : Tape) (ρ : List Sl) (G H : Hp) (σ : St) (o : Option Int), mo ρ t0 = some (o, t1) → Wd F t0 ρ G H σ →
  ∀ Q : Option Int → Hp → Prop, (∀ G' H', Wd F t1 ρ G' H' σ → Gw F G H G' H' → Q o H') → t σ H Q
def pNone : List Sl → M (Option Int) := fun _ => pure none
def intOf : PyData → Option Int
  | .int i => some i
  | _ => none
def pSome (m : ME) : List Sl → M (Option Int) := fun ρ => do
  let d ← m ρ
  let i ← M.lift (intOf d)
  pure (some i)
structure RO (X : Cx) (e : Option Expr) (t : TO) (m : List Sl → M (Option Int)) : Prop where
  po : PO X e t
  ev : EvO t m
def cutD (xs : List PyData) (lo hi : Option Int) : List PyData := (xs.drop (HT.sIx xs.length 0 lo)).take (HT.sIx xs.length xs.length hi - HT.sIx xs.length 0 lo)
theorem RpA.cut {G : Hp} {vs : List V} {ds : List PyData} {lo hi : Option Int} (r : RpA G vs ds) : RpA G (cutV vs lo hi) (cutD ds lo hi) := by
  unfold cutV cutD
  rw [r.length]
  exact (r.drop _).take _
def gCut (d : PyData) (lo hi : Option Int) : Option PyData := match d with
  | .list xs => some (.list (cutD xs lo hi))
  | .tuple xs => some (.tuple (cutD xs lo hi))
  | _ => none
def rCutK (K : PySem.W.Frag) : V → Option Int → Option Int → Hp → VK → Prop := fun x lo hi H Q => rSlL K x lo hi H Q ∨ rSlA K x lo hi H Q
def eCut (ma : ME) (ml mh : List Sl → M (Option Int)) : ME := fun ρ => do
  let d ← ma ρ
  let lo ← ml ρ
  let hi ← mh ρ
  M.lift (gCut d lo hi)
def nCut (ma : ME) (ml mh : List Sl → M (Option Int)) : ML := fun ρ => do
  let d ← ma ρ
  let lo ← ml ρ
  let hi ← mh ρ
  M.lift (match d with
    | .list xs => some (cutD xs lo hi)
    | _ => none)
section
variable {X : Cx} {e a b c : Expr} {es : List Expr} {t ta tb tc : TE} {m ma mb mc : ME} {pos p2 : Pos} {i : Nat} {lo hi : Option Expr} {tl th : TO} {ml mh : List Sl → M (Option Int)}
theorem ro_none : RO X none tNoPart pNone := ⟨po_none, fun F t0 t1 ρ G H σ o e w Q q => by
  obtain ⟨rfl, rfl⟩ := pure_some e
  exact q G H w Gw.refl⟩
theorem ro_some (h : RB X e t m) : RO X (some e) (tPart t) (pSome m) := ⟨po_some h.pe, fun F t0 t1 ρ G H σ o e w Q q => by
  obtain ⟨d, t2, e1, e⟩ := bnd_some e
  obtain ⟨j, t3, e2, e⟩ := bnd_some e
  obtain ⟨f2, rfl⟩ := lift_some e2
  obtain ⟨rfl, rfl⟩ := pure_some e
  refine h.ev F t0 _ ρ G H σ d e1 w _ fun v G' H' w' s r => ?_
  cases d with
  | int z =>
    cases f2
    exact ⟨_, r.int, q G' H' w' s⟩
  | _ => cases f2⟩
theorem re_cut (ha : RB X a ta ma) (hl : RO X lo tl ml) (hh : RO X hi th mh) : RE X (.Subscript a (.Slice lo hi none p2) pos) (tSl (rCutK X.K) ta tl th) (eCut ma ml mh) :=
  ⟨pe_slice (sl_list.or sl_tupA) ha.pe hl.po hh.po, fun F t0 t1 ρ G H σ d e w Q q => by
    obtain ⟨x, t2, e1, e⟩ := bnd_some e
    obtain ⟨l, t3, e2, e⟩ := bnd_some e
    obtain ⟨u, t4, e3, e⟩ := bnd_some e
    obtain ⟨f4, rfl⟩ := lift_some e
    refine ha.ev F t0 t2 ρ G H σ x e1 w _ fun v G1 H1 w1 s1 r1 => ?_
    refine hl.ev F t2 t3 ρ G1 H1 σ l e2 w1 _ fun G2 H2 w2 s2 => ?_
    refine hh.ev F t3 _ ρ G2 H2 σ u e3 w2 _ fun G3 H3 w3 s3 => ?_
    have r3 := (r1.mono s2.gg).mono s3.gg
    have s03 := (s1.trans s2).trans s3
    cases x with
    | list xs =>
      cases f4
      obtain ⟨p, vs, rfl, hp, rp⟩ := r3.lst w3
      refine .inl ⟨p, vs, rfl, SqL.of hp, fun z hz => ?_⟩
      exact q _ _ _ (w3.fz hz) (s03.trans (Gw.fz w3 hz)) (.lst upd_same (rp.cut.mono (Gw.fz w3 hz).gg))
    | tuple xs =>
      cases f4
      obtain ⟨p, vs, rfl, hp, gp, rp⟩ := r3.tup w3
      refine .inr ⟨p, vs, rfl, SqT.of hp, fun hw => ?_, fun hw z hz => ?_⟩
      · have ew : cutD xs l u = xs := by
          unfold cutD
          rw [← rp.length, hw.1, hw.2, List.drop_zero, Nat.sub_zero, rp.length]
          exact List.take_length
        exact q _ G3 H3 w3 s03 (by rw [ew]; exact .tup gp rp)
      · exact q _ _ _ (w3.fz hz) (s03.trans (Gw.fz w3 hz)) (.tup upd_same (rp.cut.mono (Gw.fz w3 hz).gg))
    | _ => cases f4⟩
theorem rn_cut (ha : RB X a ta ma) (hl : RO X lo tl ml) (hh : RO X hi th mh) : RN X (.Subscript a (.Slice lo hi none p2) pos) (tSl (rSlL X.K) ta tl th) (nCut ma ml mh) :=
  ⟨pe_slice sl_list ha.pe hl.po hh.po, fun F t0 t1 ρ G H σ d e w Q q => by
    obtain ⟨x, t2, e1, e⟩ := bnd_some e
    obtain ⟨l, t3, e2, e⟩ := bnd_some e
    obtain ⟨u, t4, e3, e⟩ := bnd_some e
    obtain ⟨f4, rfl⟩ := lift_some e
    refine ha.ev F t0 t2 ρ G H σ x e1 w _ fun v G1 H1 w1 s1 r1 => ?_
    refine hl.ev F t2 t3 ρ G1 H1 σ l e2 w1 _ fun G2 H2 w2 s2 => ?_
    refine hh.ev F t3 _ ρ G2 H2 σ u e3 w2 _ fun G3 H3 w3 s3 => ?_
    have r3 := (r1.mono s2.gg).mono s3.gg
    have s03 := (s1.trans s2).trans s3
    cases x with
    | list xs =>
      cases f4
      obtain ⟨p, vs, rfl, hp, rp⟩ := r3.lst w3
      refine ⟨p, vs, rfl, SqL.of hp, fun z hz => ?_⟩
      obtain ⟨w4, o4, n4⟩ := w3.newL hz (rp.cut (lo := l) (hi := u))
      exact q z G3 _ w4 (s03.trans (Gw.raw hz)) ⟨o4, n4⟩ (kp_none w s03 hz (w3.co.T_ne hz))
    | _ => cases f4⟩
/-! targets, what is walked, comprehensions -/
theorem rg_name {x : Str} (nd : X.N.Nodup) (hi : X.N[i]? = some x) (hx : Loc X.env.scope x) (hf : X.fn x = true ∨ X.env.scope.names.lookup x = some .local := by first | exact .inl rfl | exact .inr rfl | assumption) : RG X (.Name x pos) (gName i) (mName i) [i] :=
  ⟨pg_name nd hi hx hf, ev_gname i⟩
theorem rgs_nil : RGs X [] gNil mgNil [] := ⟨pgs_nil, ev_gnil⟩
theorem rgs_cons {g : TG} {gs : TGs} {k : MG} {ks : MGs} {is js : List Nat} (h : RG X e g k is) (r : RGs X es gs ks js) (hp : PGs X (e :: es) (gCons g gs)) : RGs X (e :: es) (gCons g gs) (mgCons k ks) (is ++ js) := ⟨hp, ev_gcons h.ev r.ev⟩
theorem rg_seq {k : Nat} {g : TGs} {ks : MGs} {is : List Nat} {n : Nat} (hc : X.calm = true) (h : RGs X es g ks is) (hn : (assignEach es X.env).length = n := by rfl) (hst : (assignEach es X.env).findIdx? (·.1) = none := by rfl) :
    RG X (.Tuple es k pos) (gSeq X.K n g) (mSeq n ks) is := ⟨pg_seq hc h.pg hn hst, ev_gseq h.ev⟩
theorem ri_seq {tg : Expr} (h : RE X e t m) : RI X tg e (iSeq X.K t) (lSeq m) := ⟨pi_seq h.pe, ev_iseq h.ev⟩
theorem ri_rg1 {tg : Expr} {u : TA} {l : ML} {p : Pos} (hm : X.mg "range" = none) (h : RR X [a] u l) (hg : Gl X "range" := by rfl) (hs : starEach [a] X.env = [(false, eval a X.env)] := by rfl) : RI X tg (.Call (.Name "range" p) [a] [] pos) (iRng1 u) (nCal rng1 l) := ⟨pi_range1 hg hm h.pa hs, ev_irg1 h.ev⟩
theorem ri_rg2 {tg : Expr} {u : TA} {l : ML} {p : Pos} (hm : X.mg "range" = none) (h : RR X [a, b] u l) (hg : Gl X "range" := by rfl) (hs : starEach [a, b] X.env = [(false, eval a X.env), (false, eval b X.env)] := by rfl) (hs2 : starEach [b] X.env = [(false, eval b X.env)] := by rfl) :
    RI X tg (.Call (.Name "range" p) [a, b] [] pos) (iRng2 u) (nCal rng2 l) := ⟨pi_range2 hg hm h.pa hs hs2, ev_irg2 h.ev⟩
structure RTs (X : Cx) (es : List Expr) (t : TT) (m : MB) : Prop where
  pt : PTs X es t
  ev : EvT t m
theorem rts_nil : RTs X [] tYes bYes := ⟨pts_nil, ev_yes⟩
theorem rts_one {u : TT} {k : MB} (h : RT X c u k) : RTs X [c] u k := ⟨pts_one h.pt, h.ev⟩
theorem rn_comp {elt tg iter : Expr} {ifs : List Expr} {scope : Scope} (own : List (Str × Nat)) {w : TI} {mi : ML} {g : TG} {k : MG} {u : TT} {q : MB} (hc : X.calm = true) (nd : X.N.Nodup) (hi : RI X tg iter w mi) (ok : BlkOk X.N X.env.scope scope own)
    (hg : ∀ (s : Shared) (H : Hp) (C : Addr) (cl : List (Str × Addr)) (fp : List Addr), RG (X.blk s H scope (compEnvC scope cl C X.env) fp) tg g k (own.map (·.2)))
    (ht : ∀ (s : Shared) (H : Hp) (C : Addr) (cl : List (Str × Addr)) (fp : List Addr), RTs (X.blk s H scope (compEnvC scope cl C X.env) fp) ifs u q)
    (he : ∀ (s : Shared) (H : Hp) (C : Addr) (cl : List (Str × Addr)) (fp : List Addr), RE (X.blk s H scope (compEnvC scope cl C X.env) fp) elt t m) (hs : ∀ x, foldedSetIterable iter X.env x = pure x := by intro _; rfl) :
    RN X (.ListComp elt [⟨tg, iter, ifs, 0⟩] scope pos) (tLc w g u t (own.map (·.2))) (nComp mi k (own.map (·.2)) q m) :=
  ⟨pe_lc hc nd hi.pi ok (fun s H C cl fp => (hg s H C cl fp).pg) (fun s H C cl fp => (ht s H C cl fp).pt) (fun s H C cl fp => (he s H C cl fp).pe) hs,
    ev_comp hi.ev (hg X.s_0 X.H_0 0 [] []).ev (ht X.s_0 X.H_0 0 [] []).ev (he X.s_0 X.H_0 0 [] []).ev⟩
/-! statements -/
variable {s : Stmt} {ss : List Stmt} {u u' : TS} {k k' : MS}
theorem rss_nil : RSs X [] tNext sNext := ⟨pss_nil, ev_next⟩
theorem rss_one (h : RS X s u k) : RSs X [s] u k := ⟨pss_one h.ps, h.ev⟩
theorem rss_cons (h : RS X s u k) (r : RSs X ss u' k') : RSs X (s :: ss) (tSeq u u') (sSeq k k') := ⟨pss_cons h.ps r.ps, ev_seq h.ev r.ev⟩
theorem RSs.frz (i : Nat) (h : RSs X ss u k) : RSs X ss u (sFrz i k) := ⟨h.ps, ev_frz h.ev⟩
theorem RS.frz (i : Nat) (h : RS X s u k) : RS X s u (sFrz i k) := ⟨h.ps, ev_frz h.ev⟩
theorem rs_pass : RS X (.Pass pos) tNext sNext := ⟨ps_pass, ev_next⟩
theorem rs_break : RS X (.Break pos) tBreak sBreak := ⟨ps_break, ev_break⟩
theorem rs_cont : RS X (.Continue pos) tCont sCont := ⟨ps_continue, ev_cont⟩
theorem rs_ret (h : RE X e t m) : RS X (.Return (some e) pos) (tRet t) (sRet m) := ⟨ps_ret h.pe, ev_ret h.ev⟩
theorem rs_if {v : TT} {q : MB} {sa sb : List Stmt} (hc : RT X c v q) (ha : RSs X sa u k) (hb : RSs X sb u' k') : RS X (.If c sa sb pos) (tIfS v u u') (sIf q k k') := ⟨ps_if hc.pt ha.ps hb.ps, ev_ifS hc.ev ha.ev hb.ev⟩
theorem rs_expr (h : RE X e t m) (hs : swapsWith e none pos.line X.env = pure false := by rfl) : RS X (.Expr e pos) (tDrop t) (sDrop m) := ⟨ps_expr h.pe hs, ev_drop h.ev⟩
/-- x = e (the statement's rule handed in: ps_set or ps_setLc) -/
theorem rs_set (hp : PS X s (tAsg t (gName i))) (h : EvF t m) : RS X s (tAsg t (gName i)) (sAsg m (mName i)) := ⟨hp, ev_asg h (ev_gname i)⟩
theorem rs_own {l : ML} (hp : PS X s (tAsg t (gName i))) (h : EvN t l) : RS X s (tAsg t (gName i)) (sOwn i l) := ⟨hp, ev_own h⟩
theorem rs_asg {tg : Expr} {g : TG} {q : MG} {is : List Nat} (he : RE X e t m) (hg : RG X tg g q is) (hs : swapsWithSole [tg] e pos.line X.env = pure false := by rfl) (hw : swappedStores [tg] e X.env = pure none := by rfl) (h1 : (assignEach [tg] X.env).map (·.2) = [assign tg X.env] := by rfl) : RS X (.Assign [tg] e pos) (tAsg t g) (sAsg m q) :=
  ⟨ps_asg he.pe hg.pg hs hw h1, ev_asg he.ev hg.ev⟩
theorem rs_app (hp : PS X s (tDrop (tBM X.K "list" rAppend (tVar i) (tCons t tNil)))) (h : EvF t m) : RS X s (tDrop (tBM X.K "list" rAppend (tVar i) (tCons t tNil))) (sApp i m) := ⟨hp, ev_app h⟩
theorem rs_ext (hp : PS X s (tDrop (tBM X.K "list" rExtend (tVar i) (tCons t tNil)))) (h : EvB t m) : RS X s (tDrop (tBM X.K "list" rExtend (tVar i) (tCons t tNil))) (sExt i m) := ⟨hp, ev_ext h⟩
theorem rs_pop (hp : PS X s (tDrop (tBM0 X.K "list" rPop (tVar i)))) : RS X s (tDrop (tBM0 X.K "list" rPop (tVar i))) (sPop i) := ⟨hp, ev_pop⟩
theorem rs_popTo {g : TG} {q : MG} {is : List Nat} (hp : PS X s (tAsg (tBM0 X.K "list" rPop (tVar i)) g)) (hg : EvG g q is) : RS X s (tAsg (tBM0 X.K "list" rPop (tVar i)) g) (sPopTo i q) := ⟨hp, ev_popTo hg⟩
theorem rs_setI (hp : PS X s (tAsg t (L2.gSub (tVar i) tb rSetL))) (h : EvF t m) (hk : EvB tb mb) : RS X s (tAsg t (L2.gSub (tVar i) tb rSetL)) (sSetI i mb m) := ⟨hp, ev_setI h hk⟩
theorem rs_for {tg iter : Expr} {w : TI} {mi : ML} {g : TG} {q : MG} {is : List Nat} (hpo : PassesOwn (model X.prog X.w) X.A X.env X.xe) (hc : X.calm = true) (hi : RI X tg iter w mi) (hg : RG X tg g q is) (hb : RSs X ss u k)
    (hs : ∀ x, foldedSetIterable iter X.env x = pure x := by intro _; rfl) : RS X (.For tg iter ss [] pos) (tFor w g u) (sFor mi q k) := ⟨ps_for hpo hc hi.pi hg.pg hb.ps hs, ev_for hi.ev hg.ev hb.ev⟩
theorem rs_while {v : TT} {q : MB} (fuel : List Sl → Nat) (hpo : PassesOwn (model X.prog X.w) X.A X.env X.xe) (hc : RT X c v q) (hb : RSs X ss u k) : RS X (.While c ss [] pos) (tWhile v u) (sWhile fuel q k) := ⟨ps_while hpo hc.pt hb.ps, ev_while fuel hc.ev hb.ev⟩
end
end DL

set_option maxHeartbeats 1000000
/-! The data layer, part G: the tape's fields, repr, the end of a law. -/
namespace DL
open PySem L2

/-! ### the tape's fields -/
def fldOf (t : Tape) (k : Nat) : PyData := match k with
  | 0 => .list (t.cells.map PyData.int)
  | 1 => .int t.at_
  | 2 => .int t.left
  | _ => .int t.turn
def fldV (c : Addr) (t : Tape) (k : Nat) : V := match k with
  | 0 => .ref c
  | 1 => .int t.at_
  | 2 => .int t.left
  | _ => .int t.turn
theorem fld_rp {G : Hp} {c : Addr} {t : Tape} (h : G c = some (.lst (t.cells.map V.int))) : ∀ k, Rp G (fldV c t k) (fldOf t k)
  | 0 => .lst h (RpA.ints _)
  | 1 => .int _
  | 2 => .int _
  | _ + 3 => .int _
theorem kne {kd j k : Nat} (h : keyN kd j ≠ keyN kd k) : ¬ (Sum.inr (keyN kd j) : Key) = Sum.inr (keyN kd k) := fun e => h (Sum.inr.inj e)
structure KeysOk (kd : Nat) : Prop where
  n1 : kd ≠ 1
  a01 : keyN kd 0 ≠ keyN kd 1
  a02 : keyN kd 0 ≠ keyN kd 2
  a03 : keyN kd 0 ≠ keyN kd 3
  a12 : keyN kd 1 ≠ keyN kd 2
  a13 : keyN kd 1 ≠ keyN kd 3
  a23 : keyN kd 2 ≠ keyN kd 3
theorem keys0 : KeysOk 0 := ⟨by decide, by decide +kernel, by decide +kernel, by decide +kernel, by decide +kernel, by decide +kernel, by decide +kernel⟩
theorem keys2 : KeysOk 2 := ⟨by decide, by decide +kernel, by decide +kernel, by decide +kernel, by decide +kernel, by decide +kernel, by decide +kernel⟩
theorem keys3 : KeysOk 3 := ⟨by decide, by decide +kernel, by decide +kernel, by decide +kernel, by decide +kernel, by decide +kernel, by decide +kernel⟩
def tKvs (c : Addr) (t : Tape) : List (Key × V) := [(Sum.inr (keyN t.kind 0), .ref c), (Sum.inr (keyN t.kind 1), .int t.at_), (Sum.inr (keyN t.kind 2), .int t.left), (Sum.inr (keyN t.kind 3), .int t.turn)]
theorem tape_get {c : Addr} {t : Tape} (K : KeysOk t.kind) {k : Nat} (hk : k < 4) : valV (tKvs c t) (Sum.inr (keyN t.kind k) : Key) = some (fldV c t k) := by
  unfold tKvs
  match k, hk with
  | 0, _ => exact valV_pos rfl
  | 1, _ => rw [valV_neg (kne K.a01)]; exact valV_pos rfl
  | 2, _ => rw [valV_neg (kne K.a02), valV_neg (kne K.a12)]; exact valV_pos rfl
  | 3, _ => rw [valV_neg (kne K.a03), valV_neg (kne K.a13), valV_neg (kne K.a23)]; exact valV_pos rfl
/-- a field of ints stored -/
def tSet (t : Tape) (k : Nat) (i : Int) : Tape := match k with
  | 1 => { t with at_ := i }
  | 2 => { t with left := i }
  | _ => { t with turn := i }
theorem tape_put {c : Addr} {t : Tape} (K : KeysOk t.kind) {k : Nat} (h0 : 0 < k) (hk : k < 4) (i : Int) : putK (tKvs c t) (Sum.inr (keyN t.kind k) : Key) (.int i) = tKvs c (tSet t k i) := by
  have any : ((tKvs c t).any fun kv => decide (kv.1 = (Sum.inr (keyN t.kind k) : Key))) = true := by
    rw [valV_any, tape_get K hk]
    rfl
  unfold putK
  rw [if_pos any]
  unfold tKvs
  match k, h0, hk with
  | 1, _, _ => simp [tSet, kne K.a01, kne K.a12.symm, kne K.a13.symm]
  | 2, _, _ => simp [tSet, kne K.a02, kne K.a12, kne K.a23.symm]
  | 3, _, _ => simp [tSet, kne K.a03, kne K.a13, kne K.a23]
def eTGet (kd i k : Nat) : ME := fun ρ t => if isTp ρ i && (t.kind == kd) then some (fldOf t k, t) else none
def doPut (kd : Nat) (b : Bool) (ρ : List Sl) (k : Nat) (z : Int) : M Out := fun t => if b && (t.kind == kd) then some (.nx ρ, tSet t k z) else none
def sTPut (kd i k : Nat) (m : ME) : MS := fun ρ => do
  let d ← m ρ
  let z ← M.lift (intOf d)
  doPut kd (isTp ρ i) ρ k z
theorem tSet_kind (t : Tape) (k : Nat) (i : Int) : (tSet t k i).kind = t.kind := by
  unfold tSet
  split <;> rfl
theorem tSet_cells (t : Tape) (k : Nat) (i : Int) : (tSet t k i).cells = t.cells := by
  unfold tSet
  split <;> rfl
theorem tapeObj_d {c : Addr} {t : Tape} (h : t.kind ≠ 1) : tapeObj c t = .dK (tKvs c t) := if_neg h
/-- the tape is changed -/
theorem Wd.tape' {F : Fm} {t t' : Tape} {ρ : List Sl} {G H : Hp} {σ : St} {c : Addr} (w : Wd F t ρ G H σ) (hc : G c = some (.lst (t'.cells.map V.int))) : Wd F t' ρ G (upd H F.T (tapeObj c t')) σ := by
  have kp : ∀ b o, b ≠ F.T → H b = some o → upd H F.T (tapeObj c t') b = some o := fun b o n e => by rw [upd_ne n]; exact e
  have co : Co F t' G (upd H F.T (tapeObj c t')) := ⟨fun b o e => kp b o (fun z => by rw [z, w.co.gT] at e; cases e) (w.co.sub b o e), w.co.gT, ⟨c, hc, upd_same⟩, fun b o e n => kp b o n (w.co.fr b o e n), w.co.gn⟩
  exact w.grow co (Same.refl G) (fun b o e n => kp b o n e) fun _ _ _ e => .inl e
theorem ev_tgetD {kd i k : Nat} (K : KeysOk kd) (hk : k < 4) : EvF (tDGet (tVar i) (tC (.str (keyN kd k)))) (eTGet kd i k) := fun F t0 t1 ρ G H σ d e w Q q => by
  unfold eTGet at e
  split at e
  · rename_i hc
    rw [Bool.and_eq_true] at hc
    cases e
    have hkd : t0.kind = kd := by simpa using hc.2
    subst hkd
    obtain ⟨c, c1, c2⟩ := w.co.tape
    rw [tapeObj_d K.n1] at c2
    refine ⟨_, w.tpv (isTp_eq hc.1), F.T, fldV c t0 k, rfl, ?_, q _ G H w Gw.refl (fld_rp c1 k)⟩
    have := DGet.k (k := (Sum.inr (keyN t0.kind k) : Key)) c2
    rw [tape_get K hk] at this
    exact this
  · cases e
theorem ev_tputD {kd i k : Nat} {tv : TE} {m : ME} (K : KeysOk kd) (h0 : 0 < k) (hk : k < 4) (hv : EvF tv m) : EvS (sDPut (tVar i) (tC (.str (keyN kd k))) tv) (sTPut kd i k m) := fun F t0 t1 ρ G H σ o e w D p => by
  obtain ⟨d, t2, e1, e⟩ := bnd_some e
  obtain ⟨z, t3, e2, e⟩ := bnd_some e
  obtain ⟨f2, rfl⟩ := lift_some e2
  unfold doPut at e
  split at e
  · rename_i hc
    rw [Bool.and_eq_true] at hc
    cases e
    have hkd : t2.kind = kd := by simpa using hc.2
    subst hkd
    refine hv F t0 t2 ρ G H σ d e1 w _ fun v G1 H1 w1 s1 r1 => ?_
    have ed : d = .int z := by
      cases d with
      | int j => cases f2; rfl
      | _ => cases f2
    subst ed
    cases r1
    obtain ⟨c, c1, c2⟩ := w1.co.tape
    rw [tapeObj_d K.n1] at c2
    refine ⟨_, w1.tpv (isTp_eq hc.1), F.T, _, rfl, DPut.k (k := (Sum.inr (keyN t2.kind k) : Key)) c2 (by show 4 < sizeLine; decide), ?_⟩
    rw [tape_put K h0 hk]
    have e3 : HO.dK (tKvs c (tSet t2 k z)) = tapeObj c (tSet t2 k z) := (tapeObj_d (by rw [tSet_kind]; exact K.n1)).symm
    rw [e3]
    exact p σ G1 _ (w1.tape' (by rw [tSet_cells]; exact c1)) s1.gg
  · cases e
/-- the tape as a list -/
theorem ev_tgetL {K : PySem.W.Frag} {i k : Nat} (hk : k < 3) : EvF (tOp (rIx K) (tVar i) (tC (.int k))) (eTGet 1 i k) := fun F t0 t1 ρ G H σ d e w Q q => by
  unfold eTGet at e
  split at e
  · rename_i hc
    rw [Bool.and_eq_true] at hc
    cases e
    have hkd : t0.kind = 1 := by simpa using hc.2
    obtain ⟨c, c1, c2⟩ := w.co.tape
    have c3 : H F.T = some (.lst [.ref c, .int t0.at_, .int t0.left]) := by
      rw [c2]
      unfold tapeObj
      rw [if_pos hkd]
    refine ⟨_, w.tpv (isTp_eq hc.1), .inl ⟨F.T, _, k, fldV c t0 k, rfl, rfl, SqL.of c3, ?_, q _ G H w Gw.refl (fld_rp c1 k)⟩⟩
    match k, hk with
    | 0, _ => rfl
    | 1, _ => rfl
    | 2, _ => rfl
  · cases e
theorem ev_tputL {i k : Nat} {tv : TE} {m : ME} (h0 : 0 < k) (hk : k < 3) (hv : EvF tv m) : EvS (tAsg tv (L2.gSub (tVar i) (tC (.int k)) rSetL)) (sTPut 1 i k m) := fun F t0 t1 ρ G H σ o e w D p => by
  obtain ⟨d, t2, e1, e⟩ := bnd_some e
  obtain ⟨z, t3, e2, e⟩ := bnd_some e
  obtain ⟨f2, rfl⟩ := lift_some e2
  unfold doPut at e
  split at e
  · rename_i hc
    rw [Bool.and_eq_true] at hc
    cases e
    have hkd : t2.kind = 1 := by simpa using hc.2
    refine hv F t0 t2 ρ G H σ d e1 w _ fun v G1 H1 w1 s1 r1 => ?_
    have ed : d = .int z := by
      cases d with
      | int j => cases f2; rfl
      | _ => cases f2
    subst ed
    cases r1
    obtain ⟨c, c1, c2⟩ := w1.co.tape
    have c3 : H1 F.T = some (.lst [.ref c, .int t2.at_, .int t2.left]) := by
      rw [c2]
      unfold tapeObj
      rw [if_pos hkd]
    have e3 : ∀ t' : Tape, t'.kind = 1 → HO.lst [.ref c, .int t'.at_, .int t'.left] = tapeObj c t' := fun t' h => (if_pos h).symm
    refine ⟨_, w1.tpv (isTp_eq hc.1), F.T, _, k, k, rfl, rfl, c3, ?_, ?_⟩
    · match k, hk with
      | 0, _ => rfl
      | 1, _ => rfl
      | 2, _ => rfl
    · have : HO.lst (List.set [V.ref c, V.int t2.at_, V.int t2.left] k (V.int z)) = tapeObj c (tSet t2 k z) := by
        match k, h0, hk with
        | 1, _, _ => exact e3 (tSet t2 1 z) hkd
        | 2, _, _ => exact e3 (tSet t2 2 z) hkd
      rw [this]
      exact p σ G1 _ (w1.tape' (by rw [tSet_cells]; exact c1)) s1.gg
  · cases e

/-! ### repr -/
def isSeqD : PyData → Bool
  | .list _ => true
  | .tuple _ => true
  | _ => false
mutual
/-- leaves of moderate size: ints below 2 ^ 690, texts of good codes -/
def leafOk : PyData → Bool
  | .none => true
  | .bool _ => true
  | .int i => decide (i.natAbs < 2 ^ 690)
  | .str x => PyData.strOk x
  | .list xs => leafOkA xs
  | .tuple xs => leafOkA xs
  | .dict _ => false
def leafOkA : List PyData → Bool
  | [] => true
  | x :: xs => leafOk x && leafOkA xs
end
theorem int_log {i : Int} (h : i.natAbs < 2 ^ 690) : i.natAbs.log2 < 690 := by
  by_cases z : i.natAbs = 0
  · rw [z]; decide
  · exact (Nat.log2_lt z).mpr h
mutual
theorem leaf_lay : ∀ d : PyData, leafOk d = true → d.canLay0 = true
  | .none, _ => rfl
  | .bool _, _ => rfl
  | .int _, _ => rfl
  | .str x, h => h
  | .list xs, h => leaf_layA xs h
  | .tuple xs, h => leaf_layA xs h
  | .dict _, h => nomatch h
theorem leaf_layA : ∀ xs : List PyData, leafOkA xs = true → PyData.canLayAll0 xs = true
  | [], _ => rfl
  | x :: xs, h => by
    rw [leafOkA, Bool.and_eq_true] at h
    rw [PyData.canLayAll0, leaf_lay x h.1, leaf_layA xs h.2]
    rfl
end
mutual
theorem leaf_show : ∀ d : PyData, leafOk d = true → d.showable = true
  | .none, _ => rfl
  | .bool _, _ => rfl
  | .int i, h => by
    have h1 := int_log (i := i) (by simpa [leafOk] using h)
    rw [PyData.showable]
    exact decide_eq_true (by omega)
  | .str x, h => rfl
  | .list xs, h => by rw [PyData.showable]; exact leaf_showA xs h
  | .tuple xs, h => by rw [PyData.showable]; exact leaf_showA xs h
  | .dict _, h => nomatch h
theorem leaf_showA : ∀ xs : List PyData, leafOkA xs = true → PyData.showableAll xs = true
  | [], _ => rfl
  | x :: xs, h => by
    rw [leafOkA, Bool.and_eq_true] at h
    rw [PyData.showableAll, leaf_show x h.1, leaf_showA xs h.2]
    rfl
end
mutual
theorem leaf_short : ∀ d : PyData, leafOk d = true → d.intsShort 700 = true
  | .none, _ => rfl
  | .bool _, _ => rfl
  | .int i, h => by
    have h1 := int_log (i := i) (by simpa [leafOk] using h)
    have h2 := int_text_length_le (k := 690) (by decide) h1
    rw [PyData.intsShort]
    refine decide_eq_true ?_
    show (Str.ofString (toString i)).length ≤ 700
    rw [ofString_length]
    omega
  | .str x, h => rfl
  | .list xs, h => by rw [PyData.intsShort]; exact leaf_shortA xs h
  | .tuple xs, h => by rw [PyData.intsShort]; exact leaf_shortA xs h
  | .dict _, h => nomatch h
theorem leaf_shortA : ∀ xs : List PyData, leafOkA xs = true → PyData.intsShortAll 700 xs = true
  | [], _ => rfl
  | x :: xs, h => by
    rw [leafOkA, Bool.and_eq_true] at h
    rw [PyData.intsShortAll, leaf_short x h.1, leaf_shortA xs h.2]
    rfl
end
mutual
theorem leaf_nodict : ∀ d : PyData, leafOk d = true → d.hasDict = false
  | .none, _ => rfl
  | .bool _, _ => rfl
  | .int i, h => rfl
  | .str x, h => rfl
  | .list xs, h => by rw [PyData.hasDict]; exact leaf_nodictA xs h
  | .tuple xs, h => by rw [PyData.hasDict]; exact leaf_nodictA xs h
  | .dict _, h => nomatch h
theorem leaf_nodictA : ∀ xs : List PyData, leafOkA xs = true → PyData.hasDictAll xs = false
  | [], _ => rfl
  | x :: xs, h => by
    rw [leafOkA, Bool.and_eq_true] at h
    rw [PyData.hasDictAll, leaf_nodict x h.1, leaf_nodictA xs h.2]
    rfl
end
theorem leaf_len {d : PyData} (h : leafOk d = true) (hw : d.weight ≤ 20000) : d.shown.length ≤ sizeLine := by
  have h2 := PyData.shown_le 700 (by decide) d (PyData.leavesShort_of_canLay0 700 d (leaf_lay d h) (leaf_short d h))
  have h3 : (700 + 2) * d.weight + 700 ≤ 14040700 := by omega
  rw [sizeLine_eq]
  omega
def okRepr (d : PyData) : Bool := isSeqD d && leafOk d && decide (d.depth ≤ 50) && decide (d.weight ≤ 20000)
def rRepr (K : PySem.W.Frag) : List V → Hp → VK → Prop := fun xs H Q => ∃ x d, xs = [x] ∧ Dp K H x d ∧ okRepr d = true ∧ Q (.str d.shown) H
theorem call_repr {X : Cx} {k : Nat} (hr : Room k X.A) (hG : X.A.guards = some []) : CallR X (.builtin "repr") (rRepr X.K) := by
  intro pins s σ H xs us Q I r h
  obtain ⟨x, d, rfl, hd, ok, q⟩ := h
  obtain ⟨u, rfl, rx⟩ := vals1 r
  obtain ⟨as, rd⟩ := Dp.reads I d x u hd rx
  unfold okRepr at ok
  simp only [Bool.and_eq_true, decide_eq_true_eq] at ok
  obtain ⟨⟨⟨o1, o2⟩, o4⟩, o5⟩ := ok
  have o3 := leaf_nodict d o2
  have hu := hr.units
  have fin : ∀ a, u = .ref a → wpAny (model X.prog X.w) X.A (call (.builtin "repr") [u]) (EP X pins σ Q) X.xe s := fun a e => by
    subst e
    refine repr_of_reads' rd (leaf_show d o2) (fun z => by rw [o3] at z; cases z) hG (by omega) (fun _ _ z => z) (fun h' w tk hk => ?_) (leaf_len o2 o5)
    exact ⟨.str _, H, I.kept hk, ⟨_, rfl⟩, q⟩
  cases hd with
  | lst _ _ => cases rx; exact fin _ rfl
  | tup _ _ => cases rx; exact fin _ rfl
  | _ => cases o1
def cRepr : List PyData → Option PyData
  | [d] => if okRepr d then some (.str d.shown) else none
  | _ => none
theorem k_repr {K : PySem.W.Frag} : Cal (rRepr K) cRepr := fun F t ρ G H σ vs ds c e w hx Q q => by
  unfold cRepr at e
  split at e
  · rename_i d
    split at e
    · rename_i ok
      cases e
      cases hx with
      | cons h r =>
        cases r
        exact ⟨_, d, rfl, (h.rp w).dp, ok, q _ G H w Gw.refl (.str _)⟩
    · cases e
  · cases e
end DL

set_option maxHeartbeats 1000000
/-! The data layer, part H: how a tape is made, the law's own def, the end. -/
namespace DL
open PySem L2 PySem.Spec PyProof.Rows

def spTape (K : PySem.W.Frag) (kd : Nat) : Sp := fun vs H Q _ => ∃ (a : Addr) (ns : List Int), vs = [.ref a] ∧ SqL K H a (ns.map V.int) ∧ ns.length ≤ 63 ∧
  ∀ (T c : Addr) (H' : Hp), H T = none → H c = none → c ≠ T → Same H H' → H' c = some (.lst (ns.map V.int)) → H' T = some (tapeObj c ⟨kd, ns, 0, 0, 0⟩) → Q (.ref T) H'
/-- the script's cells, a new list -/
def EvCells (K : PySem.W.Frag) (te : TE) : Prop := ∀ (σ : L2.St) (H : Hp) (a : Addr) (ns : List Int), σ[0]? = some (some (.ref a)) → SqL K H a (ns.map V.int) → ns.length ≤ 63 →
  ∀ Q : VK, (∀ c H', H c = none → Same H H' → H' c = some (.lst (ns.map V.int)) → Q (.ref c) H') → te σ H Q
theorem cut63 {ns : List Int} (h : ns.length ≤ 63) : cutV (ns.map V.int) none (some 63) = ns.map V.int := by
  unfold cutV
  rw [show HT.sIx (ns.map V.int).length (ns.map V.int).length (some 63) = min 63 (ns.map V.int).length from HT.sIx_nat _ _ 63, HT.sIx_none, List.drop_zero, Nat.sub_zero]
  refine List.take_of_length_le ?_
  rw [List.length_map]
  omega
theorem cells_cut {K : PySem.W.Frag} : EvCells K (tSl (rSlL K) (tVar 0) tNoPart (tPart (tC (.int 63)))) := fun σ H a ns hσ hS hl Q q => by
  refine ⟨_, hσ, 63, rfl, a, _, rfl, hS, fun p hp => ?_⟩
  rw [cut63 hl]
  exact q p _ hp (same_upd hp) upd_same
theorem cells_list {K : PySem.W.Frag} : EvCells K (tCB (fun xs H Q => ∃ p ys, xs = [.ref p] ∧ (SqL K H p ys ∨ SqT K H p ys) ∧ ∀ l, H l = none → Q (.ref l) (upd H l (.lst ys))) (tCons (tSl (rSlL K) (tVar 0) tNoPart (tPart (tC (.int 63)))) tNil)) :=
  fun σ H a ns hσ hS hl Q q => cells_cut σ H a ns hσ hS hl _ fun c H' _ s e => ⟨c, _, rfl, .inl (SqL.of e), fun l hl' => q l _ (s.free hl') (s.trans (same_upd hl')) upd_same⟩
def EvTape (K : PySem.W.Frag) (kd : Nat) (t : TS) : Prop := ∀ (H : Hp) (a : Addr) (ns : List Int) (Q : VK), SqL K H a (ns.map V.int) → ns.length ≤ 63 →
  (∀ (T c : Addr) (H' : Hp), H T = none → H c = none → c ≠ T → Same H H' → H' c = some (.lst (ns.map V.int)) → H' T = some (tapeObj c ⟨kd, ns, 0, 0, 0⟩) → Q (.ref T) H') →
  t { nx := fun _ H' => Q .non H', rt := Q } [some (.ref a)] H
theorem ev_tapeL {K : PySem.W.Frag} {te : TE} (h : EvCells K te) : EvTape K 1 (tRet (tLst (tCons te (tCons (tC (.int 0)) (tCons (tC (.int 0)) tNil))))) := fun H a ns Q hS hl q =>
  h _ H a ns rfl hS hl _ fun c H' nc s e => ⟨by show 3 ≤ sizeLine; decide, fun p hp => q p c _ (s.free hp) nc (ne_of_none e hp) (s.trans (same_upd hp)) (same_upd hp _ _ e) upd_same⟩
theorem merge4 {c : Addr} {t : Tape} (K : KeysOk t.kind) : mergeK [] (tKvs c t) = tKvs c t := by
  have p0 : putK [] (Sum.inr (keyN t.kind 0) : Key) (V.ref c) = [(Sum.inr (keyN t.kind 0), .ref c)] := rfl
  have p1 : putK [((Sum.inr (keyN t.kind 0) : Key), V.ref c)] (Sum.inr (keyN t.kind 1) : Key) (V.int t.at_) = [(Sum.inr (keyN t.kind 0), .ref c), (Sum.inr (keyN t.kind 1), .int t.at_)] := by
    simp [putK, kne K.a01]
  have p2 : putK [((Sum.inr (keyN t.kind 0) : Key), V.ref c), (Sum.inr (keyN t.kind 1), .int t.at_)] (Sum.inr (keyN t.kind 2) : Key) (V.int t.left) = [(Sum.inr (keyN t.kind 0), .ref c), (Sum.inr (keyN t.kind 1), .int t.at_), (Sum.inr (keyN t.kind 2), .int t.left)] := by
    simp [putK, kne K.a02, kne K.a12]
  have p3 : putK [((Sum.inr (keyN t.kind 0) : Key), V.ref c), (Sum.inr (keyN t.kind 1), .int t.at_), (Sum.inr (keyN t.kind 2), .int t.left)] (Sum.inr (keyN t.kind 3) : Key) (V.int t.turn) = tKvs c t := by
    simp [putK, tKvs, kne K.a03, kne K.a13, kne K.a23]
  show putK (putK (putK (putK [] (Sum.inr (keyN t.kind 0) : Key) (V.ref c)) (Sum.inr (keyN t.kind 1) : Key) (V.int t.at_)) (Sum.inr (keyN t.kind 2) : Key) (V.int t.left)) (Sum.inr (keyN t.kind 3) : Key) (V.int t.turn) = tKvs c t
  rw [p0, p1, p2, p3]
theorem ev_tapeD {K : PySem.W.Frag} {kd : Nat} {te : TE} (KO : KeysOk kd) (h : EvCells K te) :
    EvTape K kd (tRet (tDisp [(tC (.str (keyN kd 0)), te), (tC (.str (keyN kd 1)), tC (.int 0)), (tC (.str (keyN kd 2)), tC (.int 0)), (tC (.str (keyN kd 3)), tC (.int 0))])) := fun H a ns Q hS hl q => by
  intro p hp
  have s0 : Same H (upd H p (.dK [])) := same_upd hp
  have hS' : SqL K (upd H p (.dK [])) a (ns.map V.int) := s0.seq hS
  refine h _ _ a ns rfl hS' hl _ fun c H' nc s e => ?_
  have hpc : c ≠ p := fun z => by rw [z, upd_same] at nc; cases nc
  have hp' : H' p = some (.dK []) := s _ _ upd_same
  refine ⟨hp', tKvs c ⟨kd, ns, 0, 0, 0⟩, rfl, by show 4 ≤ 15; decide, ?_⟩
  rw [merge4 (t := ⟨kd, ns, 0, 0, 0⟩) KO]
  refine q p c _ hp (s0.free nc) hpc (fun b o eb => ?_) (by rw [upd_ne hpc]; exact e) ?_
  · rw [upd_ne (ne_of_none eb hp)]
    exact s _ _ (s0 _ _ eb)
  · rw [upd_same, tapeObj_d (t := ⟨kd, ns, 0, 0, 0⟩) KO.n1]
section
variable {P : Program} {w : World} {K : PySem.W.Frag} {mg : Str → Option Value} {base : Heap}
theorem fnT_of {k kd : Nat} {f : Addr} {x qual p : Str} {st : Stmt} {fd : FuncData} (F : Fun K x qual st f fd) (S : FnScope [p] [p] (defScope st))
    (hb : ∀ (cdv : Value) (B : Around) (ou : List Env) (s0 : Shared) (H : Hp), ∃ t, PSs (cxOf CX0 P w K mg base [p] qual (defScope st) f cdv B ou s0 H E0).nox (defBody st) t ∧ EvTape K kd t) : FnG P w K mg base CX0 (k + 1) f fd [p] (spTape K kd) := by
  refine fnG_of F S (fun vs H Q E h => ?_) fun cdv B ou s0 H vs Q E hr hG h => ?_
  · obtain ⟨a, ns, rfl, _⟩ := h
    rfl
  · obtain ⟨a, ns, rfl, hS, hl, q⟩ := h
    obtain ⟨t, ht, hev⟩ := hb cdv B ou s0 H
    refine ⟨t, ⟨fun pins s σ H1 D I hw => (PSs.nox (X := cxOf CX0 P w K mg base [p] qual (defScope st) f cdv B ou s0 H E) ht).run pins s σ H1 D I hw⟩, ?_⟩
    exact hev H a ns Q hS hl q
/-- a def that makes the tape, as a callee -/
structure CeeT (P : Program) (w : World) (K : PySem.W.Frag) (mg : Str → Option Value) (base : Heap) (k : Nat) (x : Str) (kd : Nat) : Prop where
  ex : ∃ f fd ps, mg x = some (.ref f) ∧ PySem.W.keepIn K (.ref f) = true ∧ Binds K fd ps [] ∧ FnG P w K mg base CX0 k f fd ps (spTape K kd)
def spLaw (K : PySem.W.Frag) : Sp := fun vs H Q _ => ∃ (a : Addr) (ns : List Int), vs = [.ref a] ∧ SqL K H a (ns.map V.int) ∧ ns.length ≤ 63 ∧ ∀ H', Q (.bl true) H'
/-- tape = maker(script): slot 0 the script, slot 1 the tape -/
theorem ps_tape {X : Cx} {j k kd : Nat} {x y : Str} {p p2 p3 pos : Pos} {e : Expr} (C : CeeT X.prog X.w X.K X.mg X.base j x kd) (hr : Room k X.A) (hG : X.A.guards = some []) (hjk : j ≤ k) (h0 : PE X e (tVar 0)) (nd : X.N.Nodup) (hi : X.N[1]? = some y) (hx : Loc X.env.scope y)
    (gl : Gl X x) (hdb : (x == ("__debug__" : Str)) = false) (he : starEach [e] X.env = (false, eval e X.env) :: starEach [] X.env) (hpl : (backTo p2 (starEach [] X.env)).any (·.1) = false)
    (hs : swapsWith (.Call (.Name x p) [e] [] p2) (some (.Name y p3)) pos.line X.env = pure false) (hf : X.fn y = true ∨ X.env.scope.names.lookup y = some .local) :
    PS X (.Assign [.Name y p3] (.Call (.Name x p) [e] [] p2) pos) (tAsg (tCall (spTape X.K kd) [] E0 (tCons (tVar 0) tNil)) (gName 1)) := by
  obtain ⟨a, fd, ps, hm, hk, hb, F⟩ := C.ex
  exact ps_set nd hi hx (pe_callG F (hr.mono hjk) hG gl hm hk hb pass0 (pa_cons h0 pa_nil he) hdb he hpl) hs hf
theorem fnL_of {k kd : Nat} {f : Addr} {x qual p y : Str} {st : Stmt} {fd : FuncData} {N : List Str} {b : MS} (F : Fun K x qual st f fd) (S : FnScope (p :: y :: N) [p] (defScope st))
    (hb : ∀ (cdv : Value) (B : Around) (ou : List Env) (s0 : Shared) (H : Hp), Room k (B.deeper (envOfC qual (defScope st) s0.heap.objs.size f cdv)) → B.guards = some [] →
      ∃ t, PSs (cxOf CX0 P w K mg base (p :: y :: N) qual (defScope st) f cdv B ou s0 H E0).nox (defBody st) (tSeq (tAsg (tCall (spTape K kd) [] E0 (tCons (tVar 0) tNil)) (gName 1)) t) ∧ EvS t b)
    (law : ∀ ns : List Int, ns.length ≤ 63 → ∃ t1, b (.un :: .tp :: List.replicate N.length .un) ⟨kd, ns, 0, 0, 0⟩ = some (.rt (.bool true), t1)) : FnG P w K mg base CX0 (k + 1) f fd [p] (spLaw K) := by
  refine fnG_of F S (fun vs H Q E h => ?_) fun cdv B ou s0 H vs Q E hr hG h => ?_
  · obtain ⟨a, ns, rfl, _⟩ := h
    rfl
  · obtain ⟨a, ns, rfl, hS, hl, q⟩ := h
    obtain ⟨t, ht, hev⟩ := hb cdv B ou s0 H hr hG
    refine ⟨_, ⟨fun pins s σ H1 D I hw => (PSs.nox (X := cxOf CX0 P w K mg base (p :: y :: N) qual (defScope st) f cdv B ou s0 H E) ht).run pins s σ H1 D I hw⟩, ?_⟩
    refine ⟨.ref a, rfl, a, ns, rfl, hS, hl, fun T c H' hT hc ncT s e1 e2 => ?_⟩
    obtain ⟨t1, hlaw⟩ := law ns hl
    have G : Hp := fun _ => none
    let G : Hp := fun b => if b = c then some (.lst (ns.map V.int)) else none
    have gc : G c = some (.lst (ns.map V.int)) := if_pos rfl
    have gn : ∀ b o, G b = some o → b = c ∧ o = .lst (ns.map V.int) := fun b o z => by
      by_cases hb : b = c
      · refine ⟨hb, ?_⟩
        rw [hb, gc] at z
        cases z
        rfl
      · have : G b = none := if_neg hb
        rw [this] at z
        cases z
    have gT : G T = none := if_neg fun z => ncT z.symm
    have co : Co ⟨T, G, H'⟩ ⟨kd, ns, 0, 0, 0⟩ G H' := ⟨fun b o z => by
      obtain ⟨rfl, rfl⟩ := gn b o z
      exact e1, gT, ⟨c, gc, e2⟩, fun _ _ z _ => z, fun _ _ z => .inl z⟩
    refine hev ⟨T, G, H'⟩ ⟨kd, ns, 0, 0, 0⟩ t1 _ G H' _ _ hlaw ⟨co, ?_, fun i sl v h1 h2 => ?_, fun i j xs ys v h1 h2 h3 h4 => ?_⟩ _ fun v G' H2 c2 s2 r2 => ?_
    · simp [L2.start]
    · match i with
      | 0 => cases h1; trivial
      | 1 =>
        cases h1
        cases h2
        rfl
      | i + 2 =>
        have : (List.replicate N.length Sl.un)[i]? = some sl := h1
        rw [List.getElem?_replicate] at this
        split at this
        · cases this; trivial
        · cases this
    · match i with
      | 0 => cases h1
      | 1 => cases h1
      | i + 2 =>
        have : (List.replicate N.length Sl.un)[i]? = some (.ow xs) := h1
        rw [List.getElem?_replicate] at this
        split at this
        · cases this
        · cases this
    · cases r2
      exact q H2
end
/-! ### the end -/
theorem law_callG {P : Program} {w : World} {K : PySem.W.Frag} {mg mb : Str → Option Value} {k : Nat} {fa a : Addr} {fd : FuncData} {x : Str} {s1 : Shared} {us : List Value} {ns : List Int}
    (KX : K.In s1.heap) (hg : s1.heap.Ns mainGlobals mg) (hb : s1.heap.Ns builtinsNs mb) (hbb : ∀ x : Str, x ≠ "__name__" → mb x = bootBuiltins x) (nl : s1.heap.NoLimit) (hgen : s1.gens = #[])
    (ha : s1.heap.get? a = some { cls := .type "list", data := .seq us.toArray }) (hi : IntsAre us ns) (hl : ns.length ≤ 63) (hr : Room k callerA)
    (F : ∀ base : Heap, K.In base → base.Ns mainGlobals mg → FnG P w K mg base CX0 k fa fd [x] (spLaw K)) (hbind : ∀ (s : Shared) (u : Value), BindsTo s fd ⟨[u], []⟩ [(x, u)]) :
    codeAny (model P w) callerA (.call (.ref fa) ⟨[.ref a], []⟩) (fun r s' => r = .ok (.ret (.bool true)) ∧ OldK s1.heap s'.heap ∧ s'.os = s1.os ∧ AllBare s'.gens) s1 := by
  have vi := vals_ints hi
  have hz : ns.length ≤ sizeLine := Nat.le_trans hl (by decide)
  have main : ∀ H : Hp, L2.Only H → SqL K H a (ns.map V.int) → HOk P w H s1.heap → (∀ b, H b ≠ none → b = a) → (H a ≠ none → K.lookup a = none) →
      codeAny (model P w) callerA (.call (.ref fa) ⟨[.ref a], []⟩) (fun r s' => r = .ok (.ret (.bool true)) ∧ OldK s1.heap s'.heap ∧ s'.os = s1.os ∧ AllBare s'.gens) s1 := by
    intro H only sq hok isA noK
    have dictFree : ∀ {b : Addr} {o : Obj} {es : Array DictEntry} {ep : Nat}, s1.heap.get? b = some o → o.data = .dict es ep → H b = none := by
      intro b o es ep e d
      cases q : H b with
      | none => rfl
      | some z =>
        obtain rfl : b = a := isA b (by rw [q]; simp)
        rw [ha] at e
        cases e
        cases d
    have nsH : ∀ {b : Addr} {m : Str → Option Value}, s1.heap.Ns b m → (hidT s1.heap H).Ns b m := by
      rintro b m ⟨o, es, ep, e, d, r⟩
      exact ⟨o, es, ep, hidT_get e (dictFree e d), d, r⟩
    have kH : K.In (hidT s1.heap H) := by
      intro b o e
      refine hidT_get (KX b o e) ?_
      cases q : H b with
      | none => rfl
      | some z =>
        obtain rfl : b = a := isA b (by rw [q]; simp)
        rw [noK (by rw [q]; simp)] at e
        cases e
    obtain ⟨mc, n1, n2⟩ := nl
    have md : Mod K mg (hidT s1.heap H) := ⟨kH, nsH hg, ⟨mb, nsH hb, hbb⟩, ⟨mc, nsH n1, n2⟩⟩
    have e0 : Env0 P w K mg (hidT s1.heap H) callerA [] s1 H :=
      ⟨rfl, md, fun b o e => of_hidT e, Nat.le_of_eq (hidT_size _ _), trivial, fun b z => by simp [frs] at z, hok, .of_eq hgen⟩
    have sp : spLaw K [.ref a] H (fun v _ => v = .bl true) E0 := ⟨a, ns, rfl, sq, hl, fun _ => rfl⟩
    refine codeAny_mono ((F _ kH (nsH hg)).run callerA [] s1 H ⟨[.ref a], []⟩ [.ref a] [.ref a] _ _ hr rfl e0 (hbind s1 (.ref a)) (.cons rfl .nil) sp) fun r s' h => ?_
    cases r with
    | error e => exact h.elim
    | ok fl =>
      cases fl with
      | next => exact h.elim
      | brk => exact h.elim
      | cont => exact h.elim
      | ret u =>
        obtain ⟨v, H', os, bare, un, hok', rv, q⟩ := h
        have q' : v = .bl true := q
        subst q'
        obtain rfl : u = Value.bool true := rv
        refine ⟨rfl, OldK.of_keep fun b o e => ?_, os, bare⟩
        rcases only b with z | ⟨ob, xs, z⟩
        · exact un.keep b o e z (by simp [frs]) (by simp)
        · obtain ⟨f1, _⟩ := hok b _ z
          obtain ⟨f2, _⟩ := hok' b _ (un.frzs b ob _ z)
          rw [e] at f1
          cases f1
          exact f2
  cases hk : K.lookup a with
  | some o =>
    have e := KX a o hk
    rw [ha] at e
    cases e
    refine main (fun _ => none) (fun _ => .inl rfl) (.inr ⟨_, us.toArray, _, hk, rfl, rfl, rfl, by rw [List.size_toArray, hi.length]; exact hz, by simpa using vi⟩) (fun b u z => by cases z) (fun b z => absurd rfl z) fun z => absurd rfl z
  | none =>
    let o0 : Obj := { cls := .type "list", data := .seq us.toArray }
    have ho : (fun b => if b = a then some (HO.frz o0 (.lst (ns.map V.int))) else none : Hp) a = some (HO.frz o0 (.lst (ns.map V.int))) := if_pos rfl
    refine main (fun b => if b = a then some (.frz o0 (.lst (ns.map V.int))) else none) (fun b => ?_) (.inl (.inr ⟨o0, ho⟩)) (fun b u z => ?_) (fun b z => ?_) fun _ => hk
    · by_cases e : b = a
      · exact .inr ⟨_, _, if_pos e⟩
      · exact .inl (if_neg e)
    · by_cases e : b = a
      · subst e
        rw [ho] at z
        cases z
        exact ⟨ha, by rw [List.length_map]; exact hz, us, _, vi, ha⟩
      · have z' := (if_neg e).symm.trans z
        cases z'
    · by_cases e : b = a
      · exact e
      · exact absurd (if_neg e) z
theorem walkG {l : PySem.W.OpenLaw} {k : Nat} {q : Program} {loose : List Str} {XP : (Str → Option Value) → Heap → Prop} {YP : World → Heap → Prop} {d : DefRec} {K : Params → PySem.W.Frag} {x : Str}
    (hn : l.most = some 63) (hdf : d.params.defaults = []) (hr : Room k callerA) (hY : ∀ (w : World) (h : Heap), YP w h → (K w.params).In h)
    (F : ∀ (w : World) (mg : Str → Option Value) (fa : Addr) (h : Heap), (K w.params).In h → h.Ns mainGlobals mg → mg d.name = some (.ref fa) →
      ∃ fd : FuncData, (∀ (s : Shared) (u : Value), BindsTo s fd ⟨[u], []⟩ [(x, u)]) ∧ ∀ base : Heap, (K w.params).In base → base.Ns mainGlobals mg → FnG l.prog w (K w.params) mg base CX0 k fa fd [x] (spLaw (K w.params))) :
    PySem.W.WalkO q loose XP YP l.row.toRowW d [] (fun f vs => PySem.call f vs) := by
  refine Att.attach_call hn hdf fun w s0 s1 mg mb fa o pm cd doc a vs ns G Y ho hd hcd hmg hobj hints hlen hg => ?_
  have KX := hY w _ Y
  obtain ⟨fd, hb, hF⟩ := F w mg fa _ KX G.T.g hmg
  exact law_callG KX G.T.g G.T.b G.T.builtins G.T.nolimit hg hobj hints hlen hr hF hb
end DL

set_option maxHeartbeats 1000000
/-! The data layer, part I: statements with their parts' derivations. -/
namespace DL
open PySem L2
section
variable {X : Cx} {e a b c o : Expr} {es : List Expr} {t ta tb tc : TE} {m ma mb mc : ME} {pos pos' : Pos} {i j k : Nat} {x y : Str} {l : ML}
theorem rs_setE (nd : X.N.Nodup) (hi : X.N[i]? = some x) (hx : Loc X.env.scope x) (h : RE X e t m) (hs : swapsWith e (some (.Name x pos')) pos.line X.env = pure false := by rfl)
    (hf : X.fn x = true ∨ X.env.scope.names.lookup x = some .local := by first | exact .inl rfl | exact .inr rfl) : RS X (.Assign [.Name x pos'] e pos) (tAsg t (gName i)) (sAsg m (mName i)) := ⟨ps_set nd hi hx h.pe hs hf, ev_asg h.ev (ev_gname i)⟩
theorem rs_ownE (nd : X.N.Nodup) (hi : X.N[i]? = some x) (hx : Loc X.env.scope x) (h : RN X e t l) (hs : swapsWith e (some (.Name x pos')) pos.line X.env = pure false := by rfl)
    (hf : X.fn x = true ∨ X.env.scope.names.lookup x = some .local := by first | exact .inl rfl | exact .inr rfl) : RS X (.Assign [.Name x pos'] e pos) (tAsg t (gName i)) (sOwn i l) := ⟨ps_set nd hi hx h.pe hs hf, ev_own h.ev⟩
/-- name = [.. for ..], the name a local -/
theorem ps_lc {elt tg iter : Expr} {ifs : List Expr} {scope : Scope} (own : List (Str × Nat)) {w : TI} {mi : ML} {g : TG} {q : MG} {u : TT} {r : MB} (hc : X.calm = true) (nd : X.N.Nodup) (hy : X.N[i]? = some y) (hyl : X.env.scope.names.lookup y = some .local)
    (hsw : swapsWith (.ListComp elt [⟨tg, iter, ifs, 0⟩] scope pos') (some (.Name y pos)) pos.line X.env = pure true) : True := trivial
theorem rs_setC {elt tg iter : Expr} {ifs : List Expr} {scope : Scope} {py spos : Pos} (own : List (Str × Nat)) {w : TI} {mi : ML} {g : TG} {q : MG} {u : TT} {r : MB} (hc : X.calm = true) (nd : X.N.Nodup) (hy : X.N[i]? = some y) (hyl : X.env.scope.names.lookup y = some .local)
    (hsw : swapsWith (.ListComp elt [⟨tg, iter, ifs, 0⟩] scope pos) (some (.Name y py)) spos.line X.env = pure true) (hi : RI X tg iter w mi) (ok : BlkOk X.N X.env.scope scope own)
    (hg : ∀ (s : Shared) (H : Hp) (C : Addr) (cl : List (Str × Addr)) (fp : List Addr), RG (X.blk s H scope (compEnvC scope cl C X.env) fp) tg g q (own.map (·.2)))
    (ht : ∀ (s : Shared) (H : Hp) (C : Addr) (cl : List (Str × Addr)) (fp : List Addr), RTs (X.blk s H scope (compEnvC scope cl C X.env) fp) ifs u r)
    (he : ∀ (s : Shared) (H : Hp) (C : Addr) (cl : List (Str × Addr)) (fp : List Addr), RE (X.blk s H scope (compEnvC scope cl C X.env) fp) elt t m) (hs : ∀ x, foldedSetIterable iter X.env x = pure x := by intro _; rfl) :
    RS X (.Assign [.Name y py] (.ListComp elt [⟨tg, iter, ifs, 0⟩] scope pos) spos) (tAsg (tLc w g u t (own.map (·.2))) (gName i)) (sAsg (eList (nComp mi q (own.map (·.2)) r m)) (mName i)) :=
  ⟨ps_setLc hc nd hy hyl hsw hi.pi ok (fun s H C cl fp => (hg s H C cl fp).pg) (fun s H C cl fp => (ht s H C cl fp).pt) (fun s H C cl fp => (he s H C cl fp).pe) hs,
    ev_asg (ev_comp hi.ev (hg X.s_0 X.H_0 0 [] []).ev (ht X.s_0 X.H_0 0 [] []).ev (he X.s_0 X.H_0 0 [] []).ev).f (ev_gname i)⟩
theorem rs_ownC {elt tg iter : Expr} {ifs : List Expr} {scope : Scope} {py spos : Pos} (own : List (Str × Nat)) {w : TI} {mi : ML} {g : TG} {q : MG} {u : TT} {r : MB} (hc : X.calm = true) (nd : X.N.Nodup) (hy : X.N[i]? = some y) (hyl : X.env.scope.names.lookup y = some .local)
    (hsw : swapsWith (.ListComp elt [⟨tg, iter, ifs, 0⟩] scope pos) (some (.Name y py)) spos.line X.env = pure true) (hi : RI X tg iter w mi) (ok : BlkOk X.N X.env.scope scope own)
    (hg : ∀ (s : Shared) (H : Hp) (C : Addr) (cl : List (Str × Addr)) (fp : List Addr), RG (X.blk s H scope (compEnvC scope cl C X.env) fp) tg g q (own.map (·.2)))
    (ht : ∀ (s : Shared) (H : Hp) (C : Addr) (cl : List (Str × Addr)) (fp : List Addr), RTs (X.blk s H scope (compEnvC scope cl C X.env) fp) ifs u r)
    (he : ∀ (s : Shared) (H : Hp) (C : Addr) (cl : List (Str × Addr)) (fp : List Addr), RE (X.blk s H scope (compEnvC scope cl C X.env) fp) elt t m) (hs : ∀ x, foldedSetIterable iter X.env x = pure x := by intro _; rfl) :
    RS X (.Assign [.Name y py] (.ListComp elt [⟨tg, iter, ifs, 0⟩] scope pos) spos) (tAsg (tLc w g u t (own.map (·.2))) (gName i)) (sOwn i (nComp mi q (own.map (·.2)) r m)) :=
  ⟨ps_setLc hc nd hy hyl hsw hi.pi ok (fun s H C cl fp => (hg s H C cl fp).pg) (fun s H C cl fp => (ht s H C cl fp).pt) (fun s H C cl fp => (he s H C cl fp).pe) hs,
    ev_own (ev_comp hi.ev (hg X.s_0 X.H_0 0 [] []).ev (ht X.s_0 X.H_0 0 [] []).ev (he X.s_0 X.H_0 0 [] []).ev)⟩
theorem rgs_cons' {g : TG} {gs : TGs} {q : MG} {qs : MGs} {is js : List Nat} (h : RG X e g q is) (r : RGs X es gs qs js) (hs : (assignEach (e :: es) X.env).map (·.2) = assign e X.env :: (assignEach es X.env).map (·.2) := by rfl) :
    RGs X (e :: es) (gCons g gs) (mgCons q qs) (is ++ js) := ⟨pgs_cons h.pg r.pg hs, ev_gcons h.ev r.ev⟩
/-! a, b = x, y -/
def sPar (i j : Nat) (l : ML) : MS := fun ρ => do
  let ds ← l ρ
  M.lift (match ds with
    | [d, e] => some (.nx ((ρ.set i (.fz d)).set j (.fz e)))
    | _ => none)
theorem ev_par {ta : TA} (h : EvL ta l) : EvS (tPar i j ta) (sPar i j l) := fun F t0 t1 ρ G H σ o e w D p => by
  obtain ⟨ds, t2, e1, e⟩ := bnd_some e
  obtain ⟨f2, rfl⟩ := lift_some e
  refine h F t0 _ ρ G H σ ds e1 w _ fun vs G1 H1 w1 s1 r1 => ?_
  split at f2
  · cases f2
    cases r1 with
    | cons h1 r1 =>
      cases r1 with
      | cons h2 r2 =>
        cases r2
        exact ⟨_, _, rfl, p _ G1 H1 ((w1.setF h1).setF h2) s1.gg⟩
  · cases f2
def sPar3 (i j k : Nat) (l : ML) : MS := fun ρ => do
  let ds ← l ρ
  M.lift (match ds with
    | [d, e, f] => some (.nx (((ρ.set i (.fz d)).set j (.fz e)).set k (.fz f)))
    | _ => none)
theorem ev_par3 {ta : TA} (h : EvL ta l) : EvS (tPar3 i j k ta) (sPar3 i j k l) := fun F t0 t1 ρ G H σ o e w D p => by
  obtain ⟨ds, t2, e1, e⟩ := bnd_some e
  obtain ⟨f2, rfl⟩ := lift_some e
  refine h F t0 _ ρ G H σ ds e1 w _ fun vs G1 H1 w1 s1 r1 => ?_
  split at f2
  · cases f2
    cases r1 with
    | cons h1 r1 =>
      cases r1 with
      | cons h2 r2 =>
        cases r2 with
        | cons h3 r3 =>
          cases r3
          exact ⟨_, _, _, rfl, p _ G1 H1 (((w1.setF h1).setF h2).setF h3) s1.gg⟩
  · cases f2
theorem rs_par {px py pt : Pos} {kt k2 pt2} {ta : TA} (hc : X.calm = true) (nd : X.N.Nodup) (hi : X.N[i]? = some x) (hj : X.N[j]? = some y) (hij : i ≠ j) (hx : X.env.scope.names.lookup x = some .local) (hy : X.env.scope.names.lookup y = some .local) (h : RL X [a, b] ta l)
    (hw : swappedStores [.Tuple [.Name x px, .Name y py] kt pt] (.Tuple [a, b] k2 pt2) X.env = pure (some [x, y]) := by rfl)
    (hs : swapsWithSole [.Tuple [.Name x px, .Name y py] kt pt] (.Tuple [a, b] k2 pt2) pos.line X.env = pure false := by rfl) : RS X (.Assign [.Tuple [.Name x px, .Name y py] kt pt] (.Tuple [a, b] k2 pt2) pos) (tPar i j ta) (sPar i j l) :=
  ⟨ps_par hc nd hi hj hij hx hy h.pa hw hs, ev_par h.ev⟩
theorem rs_par3 {px py pz pt : Pos} {kt k2 pt2} {ta : TA} {z : Str} (hc : X.calm = true) (nd : X.N.Nodup) (hi : X.N[i]? = some x) (hj : X.N[j]? = some y) (hk : X.N[k]? = some z) (hij : i ≠ j) (hik : i ≠ k) (hjk : j ≠ k) (hx : X.env.scope.names.lookup x = some .local) (hy : X.env.scope.names.lookup y = some .local) (hz : X.env.scope.names.lookup z = some .local) (h : RL X [a, b, c] ta l)
    (hw : swappedStores [.Tuple [.Name x px, .Name y py, .Name z pz] kt pt] (.Tuple [a, b, c] k2 pt2) X.env = pure (some [x, y, z]) := by rfl)
    (hs : swapsWithSole [.Tuple [.Name x px, .Name y py, .Name z pz] kt pt] (.Tuple [a, b, c] k2 pt2) pos.line X.env = pure false := by rfl) : RS X (.Assign [.Tuple [.Name x px, .Name y py, .Name z pz] kt pt] (.Tuple [a, b, c] k2 pt2) pos) (tPar3 i j k ta) (sPar3 i j k l) :=
  ⟨ps_par3 hc nd hi hj hk hij hik hjk hx hy hz h.pa hw hs, ev_par3 h.ev⟩
/-! methods of lists -/
variable {apos cpos : Pos}
theorem rs_appE (ho : PE X o (tVar i)) (h : RE X e t m)
    (hbase : attributeBase o "append" X.env (eval o X.env) = eval o X.env := by rfl)
    (hfew : ((backTo cpos (starEach [e] X.env)).all (fun x => !x.1) && (backToKw cpos (keywordEach [] X.env)).all (fun x => x.1.isSome) && decide ([e].length + ([] : List Keyword).length + (if ([] : List Keyword).isEmpty then 0 else 1) < 30)) = true := by rfl)
    (hline : (apos.endLine == cpos.line) = true := by rfl) (hst : starEach [e] X.env = (false, eval e X.env) :: starEach [] X.env := by rfl) (hpl : (backTo cpos (starEach [] X.env)).any (·.1) = false := by rfl)
    (hs : swapsWith (.Call (.Attribute o "append" apos) [e] [] cpos) none pos.line X.env = pure false := by rfl) :
    RS X (.Expr (.Call (.Attribute o "append" apos) [e] [] cpos) pos) (tDrop (tBM X.K "list" rAppend (tVar i) (tCons t tNil))) (sApp i m) :=
  ⟨ps_expr (pe_bm PySem.F.plainAttrs_list PySem.F.slot_list_append PySem.F.type_list_append mt_append ho (pa_cons h.pe pa_nil hst) hbase hfew hline hst hpl) hs, ev_app h.ev⟩
theorem rs_extE (ho : PE X o (tVar i)) (h : RB X e t m)
    (hbase : attributeBase o "extend" X.env (eval o X.env) = eval o X.env := by rfl)
    (hfew : ((backTo cpos (starEach [e] X.env)).all (fun x => !x.1) && (backToKw cpos (keywordEach [] X.env)).all (fun x => x.1.isSome) && decide ([e].length + ([] : List Keyword).length + (if ([] : List Keyword).isEmpty then 0 else 1) < 30)) = true := by rfl)
    (hline : (apos.endLine == cpos.line) = true := by rfl) (hst : starEach [e] X.env = (false, eval e X.env) :: starEach [] X.env := by rfl) (hpl : (backTo cpos (starEach [] X.env)).any (·.1) = false := by rfl)
    (hs : swapsWith (.Call (.Attribute o "extend" apos) [e] [] cpos) none pos.line X.env = pure false := by rfl) :
    RS X (.Expr (.Call (.Attribute o "extend" apos) [e] [] cpos) pos) (tDrop (tBM X.K "list" rExtend (tVar i) (tCons t tNil))) (sExt i m) :=
  ⟨ps_expr (pe_bm PySem.F.plainAttrs_list PySem.F.slot_list_extend PySem.F.type_list_extend mt_extend ho (pa_cons h.pe pa_nil hst) hbase hfew hline hst hpl) hs, ev_ext h.ev⟩
theorem rs_popE (ho : PE X o (tVar i)) (hbase : attributeBase o "pop" X.env (eval o X.env) = eval o X.env := by rfl) (hline : (apos.endLine == cpos.line) = true := by rfl)
    (hs : swapsWith (.Call (.Attribute o "pop" apos) [] [] cpos) none pos.line X.env = pure false := by rfl) :
    RS X (.Expr (.Call (.Attribute o "pop" apos) [] [] cpos) pos) (tDrop (tBM0 X.K "list" rPop (tVar i))) (sPop i) :=
  ⟨ps_expr (pe_bm0 PySem.F.plainAttrs_list PySem.F.slot_list_pop PySem.F.type_list_pop mt_pop ho hbase hline) hs, ev_pop⟩
/-- x[k] = e, x an owned list -/
theorem rs_setIE {si : Expr} (ho : PE X o (tVar i)) (hk : RB X si tb mb) (h : RE X e t m) (hp : PG X (.Subscript o si pos') (L2.gSub (tVar i) tb rSetL)) (hs : swapsWithSole [.Subscript o si pos'] e pos.line X.env = pure false := by rfl) (hw : swappedStores [.Subscript o si pos'] e X.env = pure none := by rfl)
    (h1 : (assignEach [.Subscript o si pos'] X.env).map (·.2) = [assign (.Subscript o si pos') X.env] := by rfl) : RS X (.Assign [.Subscript o si pos'] e pos) (tAsg t (L2.gSub (tVar i) tb rSetL)) (sSetI i mb m) :=
  ⟨ps_asg h.pe hp hs hw h1, ev_setI h.ev hk.ev⟩
/-! the tape -/
theorem re_tgetD {kd : Nat} {z : Str} {jj} {p : Pos} (K : KeysOk kd) (hk : k < 4) (hu : X.A.units + 64 < cLine) (ho : PE X o (tVar i)) (hz : z = keyN kd k) (hsl : NoSl (.Constant (.str z) jj p)) : RE X (.Subscript o (.Constant (.str z) jj p) pos) (tDGet (tVar i) (tC (.str (keyN kd k)))) (eTGet kd i k) := by
  subst hz
  exact ⟨pe_dget (by omega) ho pe_str hsl, ev_tgetD K hk⟩
theorem rs_tputD {kd : Nat} {z : Str} {jj} {p : Pos} (K : KeysOk kd) (h0 : 0 < k) (hk : k < 4) (hu : X.A.units + 64 < cLine) (ho : PE X o (tVar i)) (hz : z = keyN kd k) (h : RE X e t m)
    (hs : swapsWith e (some (.Subscript o (.Constant (.str z) jj p) pos')) pos.line X.env = pure false := by rfl) :
    RS X (.Assign [.Subscript o (.Constant (.str z) jj p) pos'] e pos) (sDPut (tVar i) (tC (.str (keyN kd k))) t) (sTPut kd i k m) := by
  subst hz
  exact ⟨ps_dput (by omega) ho pe_str h.pe hs, ev_tputD K h0 hk h.ev⟩
theorem re_tgetL {jj} {p : Pos} {z : Int} (hk : k < 3) (hz : z = k) (ho : PE X o (tVar i)) (hs : PlainIx (.Constant (.int z) jj p)) : RE X (.Subscript o (.Constant (.int z) jj p) pos) (tOp (rIx X.K) (tVar i) (tC (.int k))) (eTGet 1 i k) := by
  subst hz
  exact ⟨pe_ix ix_seq ho pe_int hs, ev_tgetL hk⟩
theorem rs_tputL {jj} {p : Pos} {z : Int} (h0 : 0 < k) (hk : k < 3) (hz : z = k) (hp : PG X (.Subscript o (.Constant (.int z) jj p) pos') (L2.gSub (tVar i) (tC (.int z)) rSetL)) (h : RE X e t m)
    (hs : swapsWithSole [.Subscript o (.Constant (.int z) jj p) pos'] e pos.line X.env = pure false := by rfl) (hw : swappedStores [.Subscript o (.Constant (.int z) jj p) pos'] e X.env = pure none := by rfl)
    (h1 : (assignEach [.Subscript o (.Constant (.int z) jj p) pos'] X.env).map (·.2) = [assign (.Subscript o (.Constant (.int z) jj p) pos') X.env] := by rfl) :
    RS X (.Assign [.Subscript o (.Constant (.int z) jj p) pos'] e pos) (tAsg t (L2.gSub (tVar i) (tC (.int z)) rSetL)) (sTPut 1 i k m) := by
  subst hz
  exact ⟨ps_asg h.pe hp hs hw h1, ev_tputL h0 hk h.ev⟩
end
end DL

set_option maxHeartbeats 1000000
/-! The data layer, part J: reasoning about mirrors. -/
namespace DL
open PySem
/-- an equation that simp takes as a step of its own -/
theorem nr {α : Sort _} {a b : α} (h : a = b) : a = b := h
section
variable {α β : Type} {t : Tape}
theorem bnd_ap (m : M α) (f : α → M β) : (m >>= f) t = (m t).bind fun p => f p.1 p.2 := by
  show (match m t with | none => none | some (a, t') => f a t') = _
  cases m t with
  | none => rfl
  | some p => rfl
theorem pure_ap (a : α) : (pure a : M α) t = some (a, t) := nr rfl
theorem lift_ap (o : Option α) : M.lift o t = o.map fun a => (a, t) := nr rfl
theorem fail_ap : (M.fail : M α) t = none := nr rfl
theorem ite_ap {c : Prop} [Decidable c] (a b : M α) : (if c then a else b) t = if c then a t else b t := by split <;> rfl
end
/-- a tape of the kind kd, its counts at most B -/
structure TOk (kd : Nat) (B : Int) (t : Tape) : Prop where
  kind : t.kind = kd
  a0 : 0 ≤ t.at_
  a1 : t.at_ ≤ B
  t0 : 0 ≤ t.turn
  t1 : t.turn ≤ B
theorem TOk.mono {kd : Nat} {B C : Int} {t : Tape} (h : TOk kd B t) (e : B ≤ C) : TOk kd C t := ⟨h.kind, h.a0, Int.le_trans h.a1 e, h.t0, Int.le_trans h.t1 e⟩
/-- m comes to an end with a value of which P holds, behind at most c draws -/
def Gv (kd : Nat) {α : Type} (m : M α) (c : Nat) (P : α → Prop) : Prop := ∀ (B : Int) (t : Tape), TOk kd B t → B + c ≤ 100000000 → ∃ a t', m t = some (a, t') ∧ TOk kd (B + c) t' ∧ P a
section
variable {kd : Nat} {α β : Type} {m : M α} {f : α → M β} {c d : Nat} {P : α → Prop} {Q : β → Prop}
theorem Gv.pure {a : α} (h : P a) : Gv kd (Pure.pure a : M α) 0 P := fun B t ok _ => ⟨a, t, rfl, ok.mono (by omega), h⟩
theorem Gv.lift {o : Option α} {a : α} (e : o = some a) (h : P a) : Gv kd (M.lift o) 0 P := fun B t ok _ => ⟨a, t, by rw [e]; rfl, ok.mono (by omega), h⟩
theorem Gv.bind (h : Gv kd m c P) (k : ∀ a, P a → Gv kd (f a) d Q) : Gv kd (m >>= f) (c + d) Q := fun B t ok hB => by
  obtain ⟨a, t1, e1, ok1, p1⟩ := h B t ok (by omega)
  obtain ⟨b, t2, e2, ok2, p2⟩ := k a p1 (B + c) t1 ok1 (by omega)
  exact ⟨b, t2, by rw [bnd_ap, e1]; exact e2, ok2.mono (by omega), p2⟩
/-- a step within a budget -/
theorem Gv.step {e : Nat} (h : Gv kd m c P) (k : ∀ a, P a → Gv kd (f a) (e - c) Q) (hc : c ≤ e := by decide) : Gv kd (m >>= f) e Q := fun B t ok hB => by
  obtain ⟨b, t2, e2, ok2, p2⟩ := Gv.bind h k B t ok (by omega)
  exact ⟨b, t2, e2, ok2.mono (by omega), p2⟩
theorem Gv.ret {a : α} {e : Nat} (h : P a) : Gv kd (Pure.pure a : M α) e P := fun B t ok hB => ⟨a, t, rfl, ok.mono (by omega), h⟩
theorem Gv.mono {c' : Nat} {P' : α → Prop} (h : Gv kd m c P) (hc : c ≤ c') (hp : ∀ a, P a → P' a) : Gv kd m c' P' := fun B t ok hB => by
  obtain ⟨a, t1, e1, ok1, p1⟩ := h B t ok (by omega)
  exact ⟨a, t1, e1, ok1.mono (by omega), hp a p1⟩
theorem Gv.imp {P' : α → Prop} (h : Gv kd m c P) (hp : ∀ a, P a → P' a) : Gv kd m c P' := h.mono (Nat.le_refl _) hp
theorem Gv.le {c' : Nat} (h : Gv kd m c P) (hc : c ≤ c') : Gv kd m c' P := h.mono hc fun _ p => p
theorem Gv.eq {m' : M α} (h : Gv kd m c P) (e : m' = m) : Gv kd m' c P := e ▸ h
theorem Gv.of_pure {a : α} (e : m = Pure.pure a) (h : P a) : Gv kd m 0 P := e ▸ Gv.pure h
theorem Gv.ite {p : Prop} [Decidable p] {m' : M α} (h1 : p → Gv kd m c P) (h2 : ¬ p → Gv kd m' c P) : Gv kd (if p then m else m') c P := by
  by_cases hp : p
  · rw [if_pos hp]; exact h1 hp
  · rw [if_neg hp]; exact h2 hp
theorem Gv.and {P' : α → Prop} (h : Gv kd m c P) (h' : Gv kd m c P') : Gv kd m c fun a => P a ∧ P' a := fun B t ok hB => by
  obtain ⟨a, t1, e1, ok1, p1⟩ := h B t ok hB
  obtain ⟨b, t2, e2, _, p2⟩ := h' B t ok hB
  rw [e1] at e2
  cases e2
  exact ⟨a, t1, e1, ok1, p1, p2⟩
end
/-- a for by an invariant: every turn goes on -/
theorem Gv.for {kd : Nat} {c : Nat} {mg : MG} {b : MS} (I : List Sl → Prop) : ∀ (ds : List PyData) (ρ : List Sl), (∀ d ∈ ds, ∀ ρ, I ρ → Gv kd (M.lift (mg d ρ) >>= b) c fun o => ∃ ρ', o = .nx ρ' ∧ I ρ') → I ρ → Gv kd (forGo mg b ds ρ) (ds.length * c) fun o => ∃ ρ', o = .nx ρ' ∧ I ρ'
  | [], ρ, _, h => fun B t ok hB => ⟨.nx ρ, t, rfl, ok.mono (by simp), ρ, rfl, h⟩
  | d :: r, ρ, hb, h => fun B t ok hB => by
    have e0 : ((d :: r).length * c : Nat) = r.length * c + c := by rw [List.length_cons, Nat.add_mul, Nat.one_mul]
    rw [e0] at hB ⊢
    obtain ⟨o, t1, e1, ok1, ρ1, rfl, h1⟩ := hb d (by simp) ρ h B t ok (by omega)
    obtain ⟨o2, t2, e2, ok2, p2⟩ := Gv.for I r ρ1 (fun d' hd => hb d' (List.mem_cons_of_mem _ hd)) h1 (B + c) t1 ok1 (by omega)
    refine ⟨o2, t2, ?_, ok2.mono (by omega), p2⟩
    show (M.lift (mg d ρ) >>= fun ρ' => b ρ' >>= loopOut (forGo mg b r)) t = _
    have : (M.lift (mg d ρ) >>= fun ρ' => b ρ' >>= loopOut (forGo mg b r)) = (M.lift (mg d ρ) >>= b) >>= loopOut (forGo mg b r) := by
      funext t
      rw [bnd_ap, bnd_ap, bnd_ap]
      cases M.lift (mg d ρ) t with
      | none => rfl
      | some p => show (b p.1 >>= loopOut (forGo mg b r)) p.2 = _; rw [bnd_ap]; rfl
    rw [this, bnd_ap, e1]
    exact e2
/-- small factors -/
theorem okMul_of {i j : Int} (hi : i.natAbs < 2 ^ 400000) (hj : j.natAbs < 2 ^ 400000) : okMul i j = true := by
  unfold okMul
  refine decide_eq_true ?_
  have h1 : i.natAbs.log2 < 400001 := by
    by_cases z : i.natAbs = 0
    · rw [z]; decide
    · exact Nat.lt_of_lt_of_le ((Nat.log2_lt z).mpr hi) (by decide)
  have h2 : j.natAbs.log2 < 400001 := by
    by_cases z : j.natAbs = 0
    · rw [z]; decide
    · exact Nat.lt_of_lt_of_le ((Nat.log2_lt z).mpr hj) (by decide)
  omega
theorem pow_big : (2 : Nat) ^ 64 ≤ 2 ^ 400000 := Nat.pow_le_pow_right (by decide) (by decide)
/-- factors below 2 ^ 64 -/
theorem okMul64 {i j : Int} (hi : i.natAbs < 18446744073709551616) (hj : j.natAbs < 18446744073709551616) : okMul i j = true := okMul_of (Nat.lt_of_lt_of_le hi pow_big) (Nat.lt_of_lt_of_le hj pow_big)
theorem okDiv64 {i j : Int} (h0 : 0 < j) (hj : j < 18446744073709551616) : okDiv i j = true := by
  unfold okDiv
  rw [Bool.and_eq_true]
  refine ⟨decide_eq_true h0, decide_eq_true ?_⟩
  have z : j.natAbs ≠ 0 := by omega
  exact Nat.lt_of_lt_of_le ((Nat.log2_lt z).mpr (show j.natAbs < 2 ^ 64 by omega)) (by decide)
theorem mulAbs {i j : Int} {a b c : Nat} (hi : i.natAbs ≤ a) (hj : j.natAbs ≤ b) (h : a * b ≤ c) : (i * j).natAbs ≤ c := by
  rw [Int.natAbs_mul]
  exact Nat.le_trans (Nat.mul_le_mul hi hj) h
/-- products of moderate factors -/
theorem okMulB {i j : Int} (hi : i.natAbs ≤ 10 ^ 60) (hj : j.natAbs ≤ 10 ^ 60) : okMul i j = true :=
  okMul_of (Nat.lt_of_le_of_lt hi (Nat.lt_of_lt_of_le (by decide : 10 ^ 60 < 2 ^ 200) (Nat.pow_le_pow_right (by decide) (by decide)))) (Nat.lt_of_le_of_lt hj (Nat.lt_of_lt_of_le (by decide : 10 ^ 60 < 2 ^ 200) (Nat.pow_le_pow_right (by decide) (by decide))))
theorem okMod_of {i j : Int} (h0 : 0 < j) : okMod i j = true := decide_eq_true h0
end DL

set_option maxHeartbeats 1000000
/-! The data layer, part K: texts that repr shows, equality of data. -/
namespace DL
open PySem PySem.Builtin.Str
def Cok (x : Str) : Prop := ∀ c ∈ x.cps.toList, c < 0x110000
theorem cok_iff {x : Str} : PyData.strOk x = true ↔ Cok x := by
  unfold PyData.strOk Cok
  rw [Array.all_eq_true_iff_forall_mem]
  simp
theorem cok_of (s : String) : Cok (Str.ofString s) := by
  unfold Cok
  rw [Str.ofString_eq_toList]
  intro c hc
  simp only [List.mem_map] at hc
  obtain ⟨ch, _, rfl⟩ := hc
  have := ch.valid
  show ch.val.toNat < 1114112
  rcases this with h | h
  · have : ch.val.toNat < 0xd800 := h
    omega
  · exact h.2
theorem cok_app {x y : Str} (hx : Cok x) (hy : Cok y) : Cok (x ++ y) := by
  intro c hc
  have e : (x ++ y).cps = x.cps ++ y.cps := rfl
  rw [e, Array.toList_append, List.mem_append] at hc
  exact hc.elim (hx c) (hy c)
theorem cok_text : ∀ (ts : List Str) (k : Nat) (acc : Str), Cok acc → (∀ t ∈ ts, Cok t) → Cok (textFrom k acc ts)
  | [], _, _, h, _ => h
  | t :: r, k, acc, h, ht => cok_text r (k + 1) _ (cok_app (cok_app h (cok_of _)) (ht t (by simp))) fun u hu => ht u (List.mem_cons_of_mem _ hu)
theorem cok_list {ts : List Str} (h : ∀ t ∈ ts, Cok t) : Cok (listText ts) := cok_app (cok_text ts 0 _ (cok_of _) h) (cok_of _)
theorem cok_join {sep : Str} (hs : Cok sep) : ∀ {ts : List Str}, (∀ t ∈ ts, Cok t) → Cok (Str.join sep ts)
  | [], _ => fun c hc => by simp [Str.join, Str.empty] at hc
  | [x], h => h x (by simp)
  | x :: y :: r, h => by
    have ih := cok_join hs (ts := y :: r) fun t ht => h t (List.mem_cons_of_mem _ ht)
    exact cok_app (cok_app (h x (by simp)) hs) ih
theorem cok_tup {ts : List Str} (h : ∀ t ∈ ts, Cok t) : Cok (tupleText ts) := cok_app (cok_app (cok_of _) (cok_join (cok_of _) h)) (cok_of _)
theorem cok_char {q c : Nat} (hq : q < 0x110000) (hc : c < 0x110000) : ∀ d ∈ reprChar q c, d < 0x110000 := by
  have dig : ∀ n d, d ∈ (Nat.toDigits 16 n).map Char.toNat → d < 0x110000 := by
    intro n d hd
    obtain ⟨ch, _, rfl⟩ := List.mem_map.mp hd
    have := ch.valid
    show ch.val.toNat < 1114112
    rcases this with h | h
    · have : ch.val.toNat < 0xd800 := h
      omega
    · exact h.2
  intro d hd
  unfold reprChar at hd
  dsimp only at hd
  have hex : ∀ w, d ∈ List.replicate (w - ((Nat.toDigits 16 c).map Char.toNat).length) 48 ++ (Nat.toDigits 16 c).map Char.toNat → d < 0x110000 := fun w h => by
    rcases List.mem_append.mp h with h | h
    · have := (List.mem_replicate.mp h).2
      omega
    · exact dig c d h
  repeat' split at hd
  all_goals first
    | (simp only [List.mem_append, List.mem_cons, List.not_mem_nil, or_false] at hd; omega)
    | (rcases List.mem_append.mp hd with h | h
       · simp at h; omega
       · exact hex _ h)
theorem cok_repr {x : Str} (h : Cok x) : Cok (reprText x) := by
  have hq : reprQuote x < 0x110000 := by
    unfold reprQuote
    split <;> decide
  have key : ∀ (l : List Nat) (acc : Array Nat), (∀ c ∈ l, c < 0x110000) → (∀ c ∈ acc.toList, c < 0x110000) → ∀ c ∈ (l.foldl (fun out c => out ++ (reprChar (reprQuote x) c).toArray) acc).toList, c < 0x110000 := by
    intro l
    induction l with
    | nil => intro acc _ h2; exact h2
    | cons a l ih =>
      intro acc h1 h2
      refine ih _ (fun c hc => h1 c (List.mem_cons_of_mem _ hc)) fun c hc => ?_
      rw [Array.toList_append, List.mem_append] at hc
      rcases hc with hc | hc
      · exact h2 c hc
      · exact cok_char hq (h1 a (by simp)) c (by simpa using hc)
  intro c hc
  unfold reprText at hc
  rw [Array.toList_push, List.mem_append] at hc
  rcases hc with hc | hc
  · rw [← Array.foldl_toList] at hc
    exact key x.cps.toList _ h (fun c hc => by simp at hc; rw [hc]; exact hq) c hc
  · simp at hc
    rw [hc]
    exact hq
mutual
theorem cok_shown : ∀ d : PyData, leafOk d = true → Cok d.shown
  | .none, _ => cok_of _
  | .bool b, _ => by cases b <;> exact cok_of _
  | .int i, _ => cok_of _
  | .str x, h => cok_repr (cok_iff.mp h)
  | .list xs, h => by rw [PyData.shown]; exact cok_list (cok_shownA xs h)
  | .tuple xs, h => by rw [PyData.shown]; exact cok_tup (cok_shownA xs h)
  | .dict _, h => nomatch h
theorem cok_shownA : ∀ xs : List PyData, leafOkA xs = true → ∀ t ∈ PyData.shownAll xs, Cok t
  | [], _, t, ht => by simp [PyData.shownAll] at ht
  | x :: xs, h, t, ht => by
    rw [leafOkA, Bool.and_eq_true] at h
    rw [PyData.shownAll] at ht
    rcases List.mem_cons.mp ht with e | e
    · rw [e]; exact cok_shown x h.1
    · exact cok_shownA xs h.2 t e
end
theorem shown_ok {d : PyData} (h : leafOk d = true) : leafOk (.str d.shown) = true := cok_iff.mpr (cok_shown d h)
theorem okRepr_leaf {d : PyData} (h : okRepr d = true) : leafOk d = true := by
  unfold okRepr at h
  simp only [Bool.and_eq_true] at h
  exact h.1.1.2
/-- == of good data -/
theorem gEq_of {a b : PyData} (ha : leafOk a = true) (hb : leafOk b = true) (da : a.depth ≤ 64) (db : b.depth ≤ 64) : gEq a b = some (.bool (PyData.eqv a b)) := by
  unfold gEq SeqAt.shaped
  rw [leaf_lay a ha, leaf_lay b hb, decide_eq_true da, decide_eq_true db]
  rfl
theorem gNe_of {a b : PyData} (ha : leafOk a = true) (hb : leafOk b = true) (da : a.depth ≤ 64) (db : b.depth ≤ 64) : gNe a b = some (.bool (!PyData.eqv a b)) := by
  unfold gNe SeqAt.shaped
  rw [leaf_lay a ha, leaf_lay b hb, decide_eq_true da, decide_eq_true db]
  rfl
theorem gEq_self {a : PyData} (ha : leafOk a = true) (da : a.depth ≤ 64) : gEq a a = some (.bool true) := by
  rw [gEq_of ha ha da da, SeqAt.eqv_refl a (leaf_lay a ha)]
theorem gEq_int (i j : Int) : gEq (.int i) (.int j) = some (.bool (i == j)) := nr rfl
theorem gNe_int (i j : Int) : gNe (.int i) (.int j) = some (.bool (!(i == j))) := nr rfl
theorem gEq_str {x y : Str} (hx : leafOk (.str x) = true) (hy : leafOk (.str y) = true) : gEq (.str x) (.str y) = some (.bool (x == y)) := gEq_of hx hy (show (0 : Nat) ≤ 64 by decide) (show (0 : Nat) ≤ 64 by decide)
theorem cRepr_of {d : PyData} (h : okRepr d = true) : cRepr [d] = some (.str d.shown) := by
  show (if okRepr d = true then some (PyData.str d.shown) else none) = _
  rw [if_pos h]
/-! ### equations, applied to slots -/
section
variable {ρ : List Sl} {α β γ : Type}
theorem x_pb (a : α) (f : α → M β) : ((pure a : M α) >>= f) = f a := nr rfl
theorem x_fb (f : α → M β) : ((M.fail : M α) >>= f) = M.fail := nr rfl
theorem x_ba (m : M α) (f : α → M β) (g : β → M γ) : (m >>= f) >>= g = m >>= fun a => f a >>= g := by
  funext t
  show (match (match m t with | none => none | some (a, t') => f a t') with | none => none | some (b, t') => g b t') = (match m t with | none => none | some (a, t') => (match f a t' with | none => none | some (b, t'') => g b t''))
  cases m t with
  | none => rfl
  | some p => rfl
theorem x_bp (m : M α) : (m >>= fun a => (pure a : M α)) = m := by
  funext t
  show (match m t with | none => none | some (a, t') => some (a, t')) = m t
  cases m t with
  | none => rfl
  | some p => rfl
theorem x_ls (a : α) : M.lift (some a) = pure a := nr rfl
theorem x_ln : M.lift (none : Option α) = M.fail := nr rfl
theorem x_eVar (i : Nat) : eVar i ρ = M.lift (rdF ρ i) := nr rfl
theorem x_bVar (i : Nat) : bVar i ρ = M.lift (rdB ρ i) := nr rfl
theorem x_rdF (i : Nat) : rdF ρ i = (match ρ[i]? with | some (.fz d) => some d | _ => none) := nr rfl
theorem x_rdB (i : Nat) : rdB ρ i = (match ρ[i]? with | some (.fz d) => some d | some (.ow xs) => some (.list xs) | _ => none) := nr rfl
theorem x_eC (d : PyData) : eC d ρ = pure d := nr rfl
theorem x_e2 (g : PyData → PyData → Option PyData) (a b : ME) : e2 g a b ρ = a ρ >>= fun x => b ρ >>= fun y => M.lift (g x y) := nr rfl
theorem x_e1 (g : PyData → Option PyData) (a : ME) : e1 g a ρ = a ρ >>= fun x => M.lift (g x) := nr rfl
theorem x_eList (m : ML) : eList m ρ = m ρ >>= fun xs => pure (.list xs) := nr rfl
theorem x_eTup (l : ML) : eTup l ρ = l ρ >>= fun ds => if okLen ds.length then pure (.tuple ds) else M.fail := nr rfl
theorem x_nLst (l : ML) : nLst l ρ = l ρ >>= fun ds => if okLen ds.length then pure ds else M.fail := nr rfl
theorem x_lNil : lNil ρ = pure [] := nr rfl
theorem x_lCons (m : ME) (l : ML) : lCons m l ρ = m ρ >>= fun d => l ρ >>= fun ds => pure (d :: ds) := nr rfl
theorem x_aNil : aNil ρ = pure [] := nr rfl
theorem x_aCons (m : ME) (l : MA) : aCons m l ρ = m ρ >>= fun d => l ρ >>= fun ds => pure (.fz d :: ds) := nr rfl
theorem x_aTape (i : Nat) (l : MA) : aTape i l ρ = l ρ >>= fun ds => if isTp ρ i then pure (.tp :: ds) else M.fail := nr rfl
theorem x_isTp (i : Nat) : isTp ρ i = (match ρ[i]? with | some .tp => true | _ => false) := nr rfl
theorem x_eCal (g : List PyData → Option PyData) (l : ML) : eCal g l ρ = l ρ >>= fun ds => M.lift (g ds) := nr rfl
theorem x_nCal (g : List PyData → Option (List PyData)) (l : ML) : nCal g l ρ = l ρ >>= fun ds => M.lift (g ds) := nr rfl
theorem x_eCall (m : MF) (l : MA) : eCall m l ρ = l ρ >>= m := nr rfl
theorem x_eCut (a : ME) (l h : List Sl → M (Option Int)) : eCut a l h ρ = a ρ >>= fun d => l ρ >>= fun lo => h ρ >>= fun hi => M.lift (gCut d lo hi) := nr rfl
theorem x_pNone : pNone ρ = pure none := nr rfl
theorem x_pSome (m : ME) : pSome m ρ = m ρ >>= fun d => M.lift (intOf d) >>= fun i => pure (some i) := nr rfl
theorem x_tOf (m : ME) : tOf m ρ = m ρ >>= fun d => M.lift (boolOf (some d)) := by
  show (m ρ >>= fun d => match d with | .bool b => pure b | _ => M.fail) = _
  congr 1
  funext d
  cases d <;> rfl
theorem x_bAnd (a b : MB) : bAnd a b ρ = a ρ >>= fun x => if x then b ρ else pure false := nr rfl
theorem x_bOr (a b : MB) : bOr a b ρ = a ρ >>= fun x => if x then pure true else b ρ := nr rfl
theorem x_bNot (a : MB) : bNot a ρ = a ρ >>= fun x => pure (!x) := nr rfl
theorem x_eIf (c : MB) (a b : ME) : eIf c a b ρ = c ρ >>= fun x => if x then a ρ else b ρ := nr rfl
theorem x_eAnd (a b : ME) : eAnd a b ρ = tOf a ρ >>= fun x => if x then b ρ else pure (.bool false) := nr rfl
theorem x_eOr (a b : ME) : eOr a b ρ = tOf a ρ >>= fun x => if x then pure (.bool true) else b ρ := nr rfl
theorem x_eNot (a : ME) : eNot a ρ = tOf a ρ >>= fun x => pure (.bool (!x)) := nr rfl
theorem x_eChain (g g' : PyData → PyData → Option PyData) (a b c : ME) : eChain g g' a b c ρ = a ρ >>= fun x => b ρ >>= fun y => M.lift (boolOf (g x y)) >>= fun k => if k then (c ρ >>= fun z => M.lift (g' y z)) else pure (.bool false) := nr rfl
theorem x_lSeq (m : ME) : lSeq m ρ = m ρ >>= fun d => M.lift (seqOf d) := nr rfl
theorem x_nComp (mi : ML) (g : MG) (vs : List Nat) (q : MB) (m : ME) : nComp mi g vs q m ρ = mi ρ >>= fun ds => if okLen ds.length then compGo g q m (unAll ρ vs) ds else M.fail := nr rfl
theorem x_sNext : sNext ρ = pure (.nx ρ) := nr rfl
theorem x_sSeq (a b : MS) : sSeq a b ρ = a ρ >>= andThen b := nr rfl
theorem x_atN (b : MS) : andThen b (.nx ρ) = b ρ := nr rfl
theorem x_atR (b : MS) (d : PyData) : andThen b (.rt d) = pure (.rt d) := nr rfl
theorem x_atB (b : MS) : andThen b (.bk ρ) = pure (.bk ρ) := nr rfl
theorem x_atC (b : MS) : andThen b (.ct ρ) = pure (.ct ρ) := nr rfl
theorem x_sDrop (m : ME) : sDrop m ρ = m ρ >>= fun _ => pure (.nx ρ) := nr rfl
theorem x_sRet (m : ME) : sRet m ρ = m ρ >>= fun d => pure (.rt d) := nr rfl
theorem x_sIf (c : MB) (a b : MS) : sIf c a b ρ = c ρ >>= fun x => if x then a ρ else b ρ := nr rfl
theorem x_sAsg (m : ME) (g : MG) : sAsg m g ρ = m ρ >>= fun d => M.lift (g d ρ) >>= fun ρ' => pure (.nx ρ') := nr rfl
theorem x_mName (i : Nat) (d : PyData) : mName i d ρ = some (ρ.set i (.fz d)) := nr rfl
theorem x_mSeq (n : Nat) (m : MGs) (d : PyData) : mSeq n m d ρ = (seqOf d).bind fun ds => if ds.length = n then m ds ρ else none := nr rfl
theorem x_mgNil : mgNil [] ρ = some ρ := nr rfl
theorem x_mgCons (a : MG) (r : MGs) (d : PyData) (l : List PyData) : mgCons a r (d :: l) ρ = (a d ρ).bind (r l) := nr rfl
theorem x_sOwn (i : Nat) (m : ML) : sOwn i m ρ = m ρ >>= fun xs => pure (.nx (ρ.set i (.ow xs))) := nr rfl
theorem x_sFrz (i : Nat) (m : MS) : sFrz i m ρ = m (frz i ρ) := nr rfl
theorem x_frz (i : Nat) : frz i ρ = (match ρ[i]? with | some (.ow xs) => ρ.set i (.fz (.list xs)) | _ => ρ) := nr rfl
theorem x_sApp (i : Nat) (m : ME) : sApp i m ρ = m ρ >>= fun d => M.lift (owOf ρ i) >>= fun xs => if okLen xs.length then pure (.nx (ρ.set i (.ow (xs ++ [d])))) else M.fail := nr rfl
theorem x_owOf (i : Nat) : owOf ρ i = (match ρ[i]? with | some (.ow xs) => some xs | _ => none) := nr rfl
theorem x_sSetI (i : Nat) (k m : ME) : sSetI i k m ρ = m ρ >>= fun d => k ρ >>= fun z => M.lift (owOf ρ i) >>= fun xs => M.lift (ixOf xs.length z) >>= fun j => pure (.nx (ρ.set i (.ow (xs.set j d)))) := nr rfl
theorem x_sPar (i j : Nat) (l : ML) : sPar i j l ρ = l ρ >>= fun ds => M.lift (match ds with | [d, e] => some (.nx ((ρ.set i (.fz d)).set j (.fz e))) | _ => none) := nr rfl
theorem x_sPar3 (i j k : Nat) (l : ML) : sPar3 i j k l ρ = l ρ >>= fun ds => M.lift (match ds with | [d, e, f] => some (.nx (((ρ.set i (.fz d)).set j (.fz e)).set k (.fz f))) | _ => none) := nr rfl
theorem x_sFor (mi : ML) (g : MG) (b : MS) : sFor mi g b ρ = mi ρ >>= fun ds => forGo g b ds ρ := nr rfl
theorem x_forN (g : MG) (b : MS) : forGo g b [] ρ = pure (.nx ρ) := nr rfl
theorem x_forC (g : MG) (b : MS) (d : PyData) (r : List PyData) : forGo g b (d :: r) ρ = M.lift (g d ρ) >>= fun ρ' => b ρ' >>= loopOut (forGo g b r) := nr rfl
theorem x_loN (go : List Sl → M Out) : loopOut go (.nx ρ) = go ρ := nr rfl
theorem x_loC (go : List Sl → M Out) : loopOut go (.ct ρ) = go ρ := nr rfl
theorem x_loB (go : List Sl → M Out) : loopOut go (.bk ρ) = pure (.nx ρ) := nr rfl
theorem x_loR (go : List Sl → M Out) (d : PyData) : loopOut go (.rt d) = pure (.rt d) := nr rfl
theorem x_cN (g : MG) (q : MB) (m : ME) : compGo g q m ρ [] = pure [] := nr rfl
theorem x_cC (g : MG) (q : MB) (m : ME) (d : PyData) (r : List PyData) : compGo g q m ρ (d :: r) = M.lift (g d ρ) >>= fun ρ' => q ρ' >>= fun k => if k then (m ρ' >>= fun y => compGo g q m ρ r >>= fun ys => pure (y :: ys)) else compGo g q m ρ r := nr rfl
theorem x_bYes : bYes ρ = pure true := nr rfl
theorem x_oR (d : PyData) : outD (.rt d) = pure d := nr rfl
theorem x_oN : outD (.nx ρ) = pure .none := nr rfl
theorem x_mf0 (N : Nat) (b : MS) : mfn 0 N b [] = b ([] ++ List.replicate (N - 0) .un) >>= outD := nr rfl
theorem x_mf1 (N : Nat) (b : MS) (a1 : Sl) : mfn 1 N b [a1] = b ([a1] ++ List.replicate (N - 1) .un) >>= outD := nr rfl
theorem x_mf2 (N : Nat) (b : MS) (a1 a2 : Sl) : mfn 2 N b [a1, a2] = b ([a1, a2] ++ List.replicate (N - 2) .un) >>= outD := nr rfl
theorem x_mf3 (N : Nat) (b : MS) (a1 a2 a3 : Sl) : mfn 3 N b [a1, a2, a3] = b ([a1, a2, a3] ++ List.replicate (N - 3) .un) >>= outD := nr rfl
theorem x_mf4 (N : Nat) (b : MS) (a1 a2 a3 a4 : Sl) : mfn 4 N b [a1, a2, a3, a4] = b ([a1, a2, a3, a4] ++ List.replicate (N - 4) .un) >>= outD := nr rfl
theorem x_mf5 (N : Nat) (b : MS) (a1 a2 a3 a4 a5 : Sl) : mfn 5 N b [a1, a2, a3, a4, a5] = b ([a1, a2, a3, a4, a5] ++ List.replicate (N - 5) .un) >>= outD := nr rfl
theorem x_mfn (n N : Nat) (b : MS) (as : List Sl) (h : as.length = n) : mfn n N b as = b (as ++ List.replicate (N - n) .un) >>= outD := by
  unfold mfn
  rw [if_pos h]
end
end DL

set_option maxHeartbeats 1000000
/-! The data layer, part L: values of operations. -/
namespace DL
open PySem
abbrev pt (x y : Int) : PyData := .tuple [.int x, .int y]
section
variable {x y z : PyData} {i j : Int} {r : List PyData}
theorem v_sub : gSub (.int i) (.int j) = some (.int (i - j)) := nr rfl
theorem v_add : gAdd (.int i) (.int j) = some (.int (i + j)) := nr rfl
theorem v_addL {xs ys : List PyData} (h : okLen (xs.length + ys.length) = true) : gAdd (.list xs) (.list ys) = some (.list (xs ++ ys)) := by
  show (none : Option PyData).or ((gCatL (.list xs) (.list ys)).or _) = _
  unfold gCatL
  simp [h]
theorem v_mul (h : okMul i j = true) : gMulI (.int i) (.int j) = some (.int (i * j)) := by
  show (if okMul i j then some (PyData.int (i * j)) else none) = _
  rw [if_pos h]
theorem v_div (h : okDiv i j = true) : gDiv (.int i) (.int j) = some (.int (i / j)) := by
  show (if okDiv i j then some (PyData.int (i / j)) else none) = _
  rw [if_pos h]
theorem v_mod (h : okMod i j = true) : gMod (.int i) (.int j) = some (.int (i % j)) := by
  show (if okMod i j then some (PyData.int (i % j)) else none) = _
  rw [if_pos h]
theorem v_pow (h : okPow i j = true) : gPow (.int i) (.int j) = some (.int (i ^ j.toNat)) := by
  show (if okPow i j then some (PyData.int (i ^ j.toNat)) else none) = _
  rw [if_pos h]
theorem v_neg : gNeg (.int i) = some (.int (-i)) := nr rfl
theorem v_lt : gLtI (.int i) (.int j) = some (.bool (decide (i < j))) := nr rfl
theorem v_le : gLeI (.int i) (.int j) = some (.bool (decide (i ≤ j))) := nr rfl
theorem v_gt : gGtI (.int i) (.int j) = some (.bool (decide (j < i))) := nr rfl
theorem v_ge : gGeI (.int i) (.int j) = some (.bool (decide (j ≤ i))) := nr rfl
theorem v_abs : cAbs [.int i] = some (.int (if i < 0 then -i else i)) := nr rfl
theorem v_max : cMax [.int i, .int j] = some (.int (if j > i then j else i)) := nr rfl
theorem v_min : cMin [.int i, .int j] = some (.int (if j < i then j else i)) := nr rfl
theorem v_intI : cInt [.int i] = some (.int i) := nr rfl
theorem v_intB {b : Bool} : cInt [.bool b] = some (.int (if b then 1 else 0)) := nr rfl
theorem v_lenL : cLen [.list r] = some (.int r.length) := nr rfl
theorem v_lenT : cLen [.tuple r] = some (.int r.length) := nr rfl
theorem v_tupL : cTuple [.list r] = some (.tuple r) := nr rfl
theorem v_tupT : cTuple [.tuple r] = some (.tuple r) := nr rfl
theorem v_listL : cList [.list r] = some r := nr rfl
theorem v_listT : cList [.tuple r] = some r := nr rfl
theorem v_ixL : gIx (.list r) (.int i) = L2.atI r i := nr rfl
theorem v_ixT : gIx (.tuple r) (.int i) = L2.atI r i := nr rfl
theorem v_at {k : Nat} : L2.atI r (k : Int) = r[k]? := by
  unfold L2.atI L2.ixN
  by_cases h : k < r.length
  · simp [h]
  · rw [if_pos (by omega), if_neg (by omega)]
    simp
    omega
theorem v_at0 : L2.atI (x :: r) 0 = some x := v_at (k := 0)
theorem v_at1 : L2.atI (x :: y :: r) 1 = some y := v_at (k := 1)
theorem v_at2 : L2.atI (x :: y :: z :: r) 2 = some z := v_at (k := 2)
theorem v_bool {b : Bool} : boolOf (some (.bool b)) = some b := nr rfl
theorem v_seqL : seqOf (.list r) = some r := nr rfl
theorem v_seqT : seqOf (.tuple r) = some r := nr rfl
theorem v_intOf : intOf (.int i) = some i := nr rfl
theorem v_rng1 (h : okRg j = true) : rng1 [.int j] = some (rgD 0 j.toNat) := by
  show (if okRg j then some (rgD 0 j.toNat) else none) = _
  rw [if_pos h]
theorem v_rng2 (h : okRg i = true) (h' : okRg j = true) : rng2 [.int i, .int j] = some (rgD i (j - i).toNat) := by
  show (if okRg i && okRg j then some (rgD i (j - i).toNat) else none) = _
  rw [h, h']
  rfl
theorem v_ok0 : okLen 0 = true := nr rfl
theorem v_ok1 : okLen 1 = true := nr rfl
theorem v_ok2 : okLen 2 = true := nr rfl
theorem v_ok3 : okLen 3 = true := nr rfl
theorem v_ok4 : okLen 4 = true := nr rfl
theorem v_okn : okLen (0 + 1) = true := nr rfl
theorem v_ok5 : okLen 5 = true := nr rfl
theorem v_ok6 : okLen 6 = true := nr rfl
theorem v_ok7 : okLen 7 = true := nr rfl
theorem v_ok8 : okLen 8 = true := nr rfl
theorem v_ok9 : okLen 9 = true := nr rfl
theorem v_ok10 : okLen 10 = true := nr rfl
theorem v_ok11 : okLen 11 = true := nr rfl
theorem v_ok12 : okLen 12 = true := nr rfl
theorem v_ok13 : okLen 13 = true := nr rfl
theorem v_ok14 : okLen 14 = true := nr rfl
theorem v_ok15 : okLen 15 = true := nr rfl
theorem v_ok16 : okLen 16 = true := nr rfl
theorem v_ok17 : okLen 17 = true := nr rfl
theorem v_ok18 : okLen 18 = true := nr rfl
theorem v_ok19 : okLen 19 = true := nr rfl
theorem v_ok20 : okLen 20 = true := nr rfl
theorem v_ok21 : okLen 21 = true := nr rfl
theorem v_ok22 : okLen 22 = true := nr rfl
theorem v_ok23 : okLen 23 = true := nr rfl
theorem v_ok24 : okLen 24 = true := nr rfl
theorem v_ok25 : okLen 25 = true := nr rfl
theorem v_ok26 : okLen 26 = true := nr rfl
theorem v_ok27 : okLen 27 = true := nr rfl
theorem v_ok28 : okLen 28 = true := nr rfl
theorem v_ok29 : okLen 29 = true := nr rfl
theorem v_ok30 : okLen 30 = true := nr rfl
theorem v_ok31 : okLen 31 = true := nr rfl
theorem v_ok32 : okLen 32 = true := nr rfl
/-- cells of a tape -/
theorem lay_ints : ∀ ns : List Int, PyData.canLayAll0 (ns.map PyData.int) = true
  | [] => rfl
  | n :: r => by
    rw [List.map_cons, PyData.canLayAll0, lay_ints r]
    rfl
theorem depth_ints : ∀ ns : List Int, PyData.depthAll (ns.map PyData.int) = 0
  | [] => rfl
  | n :: r => by
    rw [List.map_cons, PyData.depthAll, depth_ints r]
    rfl
theorem shaped_ints (ns : List Int) : SeqAt.shaped (.list (ns.map PyData.int)) = true := by
  unfold SeqAt.shaped
  have h1 : PyData.canLay0 (.list (ns.map PyData.int)) = true := lay_ints ns
  have h2 : PyData.depth (.list (ns.map PyData.int)) = 1 := by rw [PyData.depth, depth_ints]
  rw [h1, h2]
  rfl
theorem v_neCells {ns : List Int} : gNe (.list (ns.map PyData.int)) (.list []) = some (.bool (!ns.isEmpty)) := by
  unfold gNe
  rw [shaped_ints, show SeqAt.shaped (.list []) = true from rfl]
  cases ns with
  | nil => rfl
  | cons n r => rfl
theorem v_eqCells {ns : List Int} : gEq (.list (ns.map PyData.int)) (.list []) = some (.bool ns.isEmpty) := by
  unfold gEq
  rw [shaped_ints, show SeqAt.shaped (.list []) = true from rfl]
  cases ns with
  | nil => rfl
  | cons n r => rfl
theorem v_atMod {ns : List Int} (h : ns ≠ []) (a : Int) : ∃ c : Int, c ∈ ns ∧ L2.atI (ns.map PyData.int) (a % ((ns.map PyData.int).length : Int)) = some (.int c) := by
  have hl : 0 < ns.length := by
    cases ns with
    | nil => exact absurd rfl h
    | cons _ _ => simp
  have hl' : (0 : Int) < ((ns.map PyData.int).length : Int) := by rw [List.length_map]; omega
  have h0 := Int.emod_nonneg a (Int.ne_of_gt hl')
  have h1 := Int.emod_lt_of_pos a hl'
  obtain ⟨k, hk⟩ := Int.eq_ofNat_of_zero_le h0
  rw [hk] at h1 ⊢
  rw [v_at, List.getElem?_map]
  have hk' : k < ns.length := by
    rw [List.length_map] at h1
    omega
  exact ⟨ns[k], List.getElem_mem hk', by rw [List.getElem?_eq_getElem hk']; rfl⟩
theorem leaf_ints : ∀ (ns : List Int), (∀ n ∈ ns, n.natAbs < 2 ^ 690) → leafOkA (ns.map PyData.int) = true
  | [], _ => rfl
  | n :: r, h => by
    rw [List.map_cons, leafOkA, leaf_ints r fun m hm => h m (List.mem_cons_of_mem _ hm), Bool.and_true, leafOk]
    exact decide_eq_true (h n (by simp))
theorem weight_ints : ∀ (ns : List Int), (∀ n ∈ ns, n.natAbs < 2 ^ 690) → PyData.weightAll (ns.map PyData.int) ≤ 700 * ns.length
  | [], _ => Nat.le_refl _
  | n :: r, h => by
    have ih := weight_ints r fun m hm => h m (List.mem_cons_of_mem _ hm)
    have h1 := int_log (h n (by simp))
    rw [List.map_cons, PyData.weightAll, List.length_cons, PyData.weight]
    split <;> omega
theorem okRepr_ints {ns : List Int} (h : ∀ n ∈ ns, n.natAbs < 2 ^ 690) (hl : ns.length ≤ 28) : okRepr (.list (ns.map PyData.int)) = true := by
  unfold okRepr
  have h1 : leafOk (.list (ns.map PyData.int)) = true := leaf_ints ns h
  have h2 : PyData.depth (.list (ns.map PyData.int)) = 1 := by rw [PyData.depth, depth_ints]
  have h3 : PyData.weight (.list (ns.map PyData.int)) ≤ 20000 := by
    rw [PyData.weight]
    have := weight_ints ns h
    omega
  rw [h1, h2, decide_eq_true h3]
  rfl
theorem pow690 {n : Nat} (h : n ≤ 10 ^ 60) : n < 2 ^ 690 := Nat.lt_of_le_of_lt h (Nat.lt_of_lt_of_le (by decide : 10 ^ 60 < 2 ^ 200) (Nat.pow_le_pow_right (by decide) (by decide)))
theorem ite_pair {p : Bool} {q : Bool} {T : Tape} : (if p = true then some (q, T) else some (false, T)) = some (p && q, T) := by
  cases p <;> rfl
theorem ite_pairO {p : Bool} {q : Bool} {T : Tape} : (if p = true then some (true, T) else some (q, T)) = some (p || q, T) := by
  cases p <;> rfl
theorem x_tget (kd i k : Nat) (ρ : List Sl) (t : Tape) : eTGet kd i k ρ t = if isTp ρ i && (t.kind == kd) then some (fldOf t k, t) else none := nr rfl
theorem x_tput (kd i k : Nat) (m : ME) (ρ : List Sl) : sTPut kd i k m ρ = m ρ >>= fun d => M.lift (intOf d) >>= fun z => doPut kd (isTp ρ i) ρ k z := nr rfl
theorem x_doPut (kd : Nat) (b : Bool) (ρ : List Sl) (k : Nat) (z : Int) (t : Tape) : doPut kd b ρ k z t = if b && (t.kind == kd) then some (.nx ρ, tSet t k z) else none := nr rfl
end
end DL

set_option maxHeartbeats 1000000
/-! The data layer, part M: in, isinstance, xs[::-1], sorted of pairs. -/
namespace DL
open PySem L2

/-! ### in -/
def gIn (a b : PyData) : Option PyData := match b with
  | .list ds => if SeqAt.shaped a && SeqAt.shaped (.list ds) then some (.bool (ds.any fun z => PyData.eqv z a)) else none
  | _ => none
def gNin (a b : PyData) : Option PyData := match b with
  | .list ds => if SeqAt.shaped a && SeqAt.shaped (.list ds) then some (.bool (!ds.any fun z => PyData.eqv z a)) else none
  | _ => none
theorem o_inK {K : PySem.W.Frag} : Op2 (rInD K) gIn := fun F t ρ G H σ x y a b c e w hx hy Q q => by
  unfold gIn at e
  split at e
  · rename_i ds
    split at e
    · rename_i hc
      rw [Bool.and_eq_true] at hc
      cases e
      exact ⟨a, ds, (hx.rp w).dp, (hy.rp w).dp, hc.1, hc.2, q _ G H w Gw.refl (.bl _)⟩
    · cases e
  · cases e
theorem o_ninK {K : PySem.W.Frag} : Op2 (rNotInD K) gNin := fun F t ρ G H σ x y a b c e w hx hy Q q => by
  unfold gNin at e
  split at e
  · rename_i ds
    split at e
    · rename_i hc
      rw [Bool.and_eq_true] at hc
      cases e
      exact ⟨a, ds, (hx.rp w).dp, (hy.rp w).dp, hc.1, hc.2, q _ G H w Gw.refl (.bl _)⟩
    · cases e
  · cases e
theorem op_inK {X : Cx} (hu : X.A.units + 65 < cLine) : OpR X (compareOp .In) (rInD X.K) := op_inD hu
theorem op_ninK {X : Cx} (hu : X.A.units + 65 < cLine) : OpR X (compareOp .NotIn) (rNotInD X.K) := op_notInD hu

/-! ### isinstance -/
def tyN : PyData → String
  | .none => "NoneType"
  | .bool _ => "bool"
  | .int _ => "int"
  | .str _ => "str"
  | .list _ => "list"
  | .tuple _ => "tuple"
  | .dict _ => "dict"
inductive Ty where
  | int | bool | str | list | tuple
def Ty.nm : Ty → String
  | .int => "int" | .bool => "bool" | .str => "str" | .list => "list" | .tuple => "tuple"
def isTy : Ty → PyData → Bool
  | .int, .int _ => true
  | .int, .bool _ => true
  | .bool, .bool _ => true
  | .str, .str _ => true
  | .list, .list _ => true
  | .tuple, .tuple _ => true
  | _, _ => false
def gIsi (y : Ty) (d : PyData) : Option PyData := some (.bool (isTy y d))
theorem isi_kit (y : Ty) (d : PyData) : kitB (tyN d) y.nm = some (isTy y d) := by
  cases y <;> cases d <;> simp only [tyN, isTy, Ty.nm] <;> decide +kernel
theorem Rp.ty {K : PySem.W.Frag} {H : Hp} {v : V} {d : PyData} (r : Rp H v d) : TyX K H v (.type (tyN d)) := by
  cases r with
  | non => exact .base .non
  | bl b => exact .base (.bl b)
  | int i => exact .base (.int i)
  | str x => exact .base (.str x)
  | lst h _ => exact .base (.lst h)
  | tup h _ => exact .base (.tup h)
section
variable {X : Cx} {e a b c : Expr} {es : List Expr} {t ta tb tc : TE} {m ma mb mc : ME} {pos : Pos} {i : Nat}
theorem re_isi {y : Ty} {x : Str} {p p2 : Pos} (hm : X.mg "isinstance" = none) (hm2 : X.mg x = none) (hv : bootBuiltins x = some (.type y.nm)) (ha : RB X a ta ma)
    (gl : Gl X "isinstance" := by rfl) (gl2 : Gl X x := by rfl) (hn : x ≠ "__name__" := by decide) (hdb : (x == ("__debug__" : Str)) = false := by decide)
    (he : starEach [a, .Name x p2] X.env = (false, eval a X.env) :: starEach [.Name x p2] X.env := by rfl)
    (he2 : starEach [.Name x p2] X.env = (false, eval (.Name x p2) X.env) :: starEach [] X.env := by rfl)
    (hpl : (backTo pos (starEach [.Name x p2] X.env)).any (·.1) = false := by rfl) :
    RE X (.Call (.Name "isinstance" p) [a, .Name x p2] [] pos) (tCB (rIsi X.K) (tCons ta (tCons (tC (.ty y.nm)) tNil))) (e1 (gIsi y) ma) :=
  ⟨pe_callB call_isi gl hm (by decide +kernel) (pa_cons ha.pe (pa_cons (pe_bltn gl2 hm2 hv (show RelV (.ty y.nm) (.type y.nm) from rfl) hn hdb) pa_nil he2) he) (by decide) (by decide) he hpl, fun F t0 t1 ρ G H σ d e w Q q => by
    obtain ⟨x, t2, e1, e⟩ := bnd_some e
    obtain ⟨f4, rfl⟩ := lift_some e
    refine ha.ev F t0 _ ρ G H σ x e1 w _ fun v G1 H1 w1 s1 r1 => ?_
    cases f4
    exact ⟨v, _, _, _, _, rfl, .ty _, (r1.rp w1).ty, kit_ty (isi_kit y x), q _ G1 H1 w1 s1 (.bl _)⟩⟩
/-! ### xs[::-1] -/
def nRev (ma : ME) : ML := fun ρ => do
  let d ← ma ρ
  M.lift (match d with
    | .list xs => some xs.reverse
    | _ => none)
theorem rn_rev {k : Nat} {p1 p2 p3 : Pos} (ha : RB X a ta ma) : RN X (.Subscript a (.Slice none none (some (.UnaryOp .USub (.Constant (.int 1) k p1) p2)) p3) pos) (tRevL X.K ta) (nRev ma) :=
  ⟨pe_revL ha.pe, fun F t0 t1 ρ G H σ d e w Q q => by
    obtain ⟨x, t2, e1, e⟩ := bnd_some e
    obtain ⟨f4, rfl⟩ := lift_some e
    refine ha.ev F t0 _ ρ G H σ x e1 w _ fun v G1 H1 w1 s1 r1 => ?_
    cases x with
    | list xs =>
      cases f4
      obtain ⟨p, vs, rfl, hp, rp⟩ := r1.lst w1
      refine ⟨p, vs, rfl, SqL.of hp, fun z hz => ?_⟩
      obtain ⟨w4, o4, n4⟩ := w1.newL hz rp.reverse
      exact q z G1 _ w4 (s1.trans (Gw.raw hz)) ⟨o4, n4⟩ (kp_none w s1 hz (w1.co.T_ne hz))
    | _ => cases f4⟩
end
/-! ### sorted of pairs of ints -/
def isPairD : PyData → Bool
  | .tuple [.int _, .int _] => true
  | _ => false
def keyP : PyData → Int × Int
  | .tuple [.int i, .int j] => (i, j)
  | _ => (0, 0)
def leP (a b : PyData) : Bool := !SrtO.lexB (keyP b) (keyP a)
def sortP (ds : List PyData) : List PyData := ds.mergeSort leP
def cSortP : List PyData → Option (List PyData)
  | [.list ds] => if ds.all isPairD then some (sortP ds) else none
  | _ => none
theorem isPairD_eq {d : PyData} (h : isPairD d = true) : d = pt (keyP d).1 (keyP d).2 := by
  unfold isPairD at h
  split at h
  · rfl
  · cases h
theorem leP_iff {a b : PyData} : leP a b = true ↔ ¬ ((keyP b).1 < (keyP a).1 ∨ ((keyP b).1 = (keyP a).1 ∧ (keyP b).2 < (keyP a).2)) := by
  unfold leP
  rw [Bool.not_eq_true', SrtO.lexB_no]
theorem leP_trans (a b c : PyData) (h1 : leP a b = true) (h2 : leP b c = true) : leP a c = true := by
  rw [leP_iff] at *
  omega
theorem leP_total (a b : PyData) : (leP a b || leP b a) = true := by
  rw [Bool.or_eq_true, leP_iff, leP_iff]
  omega
theorem sortP_perm (ds : List PyData) : (sortP ds).Perm ds := List.mergeSort_perm _ _
theorem sortP_srtd (ds : List PyData) : (sortP ds).Pairwise fun a b => leP a b = true := List.pairwise_mergeSort leP_trans leP_total ds
theorem leP_anti {a b : PyData} (ha : isPairD a = true) (hb : isPairD b = true) (h1 : leP a b = true) (h2 : leP b a = true) : a = b := by
  rw [leP_iff] at h1 h2
  rw [isPairD_eq ha, isPairD_eq hb]
  have e1 : (keyP a).1 = (keyP b).1 := by omega
  have e2 : (keyP a).2 = (keyP b).2 := by omega
  rw [e1, e2]
theorem sortP_uniq {ds es : List PyData} (hp : es.Perm ds) (ha : ds.all isPairD = true) (hs : es.Pairwise fun a b => leP a b = true) : es = sortP ds := by
  have hd : ∀ d ∈ ds, isPairD d = true := List.all_eq_true.mp ha
  refine List.Perm.eq_of_pairwise (le := fun a b => leP a b = true) (fun a b m1 m2 h1 h2 => leP_anti (hd a (hp.mem_iff.mp m1)) (hd b ((sortP_perm ds).mem_iff.mp m2)) h1 h2) hs (sortP_srtd ds) (hp.trans (sortP_perm ds).symm)
def kV (G : Hp) (v : V) : Int × Int := match v with
  | .ref a => match G a with
    | some (.tup [.int i, .int j]) => (i, j)
    | _ => (0, 0)
  | _ => (0, 0)
def dV (G : Hp) (v : V) : PyData := pt (kV G v).1 (kV G v).2
theorem pair_rp {G : Hp} {v : V} {d : PyData} (r : Rp G v d) (h : isPairD d = true) : ∃ a, v = .ref a ∧ G a = some (.tup [.int (kV G v).1, .int (kV G v).2]) ∧ d = dV G v := by
  have e := isPairD_eq h
  rw [e] at r
  cases r with
  | @tup a xs ds h1 r1 =>
    cases r1 with
    | cons p1 r2 =>
      cases r2 with
      | cons p2 r3 =>
        cases r3
        cases p1
        cases p2
        have ek : kV G (.ref a) = keyP d := by
          unfold kV
          simp only [h1]
        refine ⟨a, rfl, by rw [ek]; exact h1, ?_⟩
        unfold dV
        rw [ek]
        exact e
theorem pairs_rp {G : Hp} : ∀ {vs : List V} {ds : List PyData}, RpA G vs ds → ds.all isPairD = true → ds = vs.map (dV G) ∧ ∀ v ∈ vs, (∃ a, v = .ref a ∧ G a = some (.tup [.int (kV G v).1, .int (kV G v).2])) ∧ Rp G v (dV G v)
  | _, _, .nil, _ => ⟨rfl, fun _ h => nomatch h⟩
  | _, _, .cons h r, hd => by
    rw [List.all_cons, Bool.and_eq_true] at hd
    obtain ⟨e1, h1⟩ := pairs_rp r hd.2
    obtain ⟨a, ea, ga, ed⟩ := pair_rp h hd.1
    refine ⟨by rw [List.map_cons, ← ed, ← e1], fun v hv => ?_⟩
    rcases List.mem_cons.mp hv with rfl | hv
    · exact ⟨⟨a, ea, ga⟩, by rw [← ed]; exact h⟩
    · exact h1 v hv
theorem rpA_map {G : Hp} {f : V → PyData} : ∀ (vs : List V), (∀ v ∈ vs, Rp G v (f v)) → RpA G vs (vs.map f)
  | [], _ => .nil
  | v :: vs, h => .cons (h v (List.mem_cons_self ..)) (rpA_map vs fun u m => h u (List.mem_cons_of_mem _ m))
theorem k_sortP {K : PySem.W.Frag} : CalN (rSortedPO K) cSortP := fun F t ρ G H σ vs ds c e w hx Q q => by
  unfold cSortP at e
  split at e
  · rename_i xs
    split at e
    · rename_i hall
      cases e
      cases hx with
      | cons h r =>
        cases r
        obtain ⟨p, us, rfl, hp, rp⟩ := h.lst w
        obtain ⟨ed, hv⟩ := pairs_rp rp hall
        refine ⟨p, us, kV G, rfl, SqL.of hp, fun x m => ?_, fun ys l hs hb hl => ?_⟩
        · obtain ⟨⟨a, ea, ga⟩, _⟩ := hv x m
          exact ⟨a, ea, w.co.sub _ _ ga⟩
        · have pm : (ys.map (dV G)).Perm xs := by
            rw [ed]
            exact hb.perm.map _
          have es : ys.map (dV G) = sortP xs := by
            refine sortP_uniq pm hall (List.pairwise_map.mpr (hs.imp fun {a b} h => ?_))
            rw [leP_iff]
            exact SrtO.lexB_no.mp h
          have rr : RpA G ys (sortP xs) := by
            rw [← es]
            exact rpA_map ys fun v m => (hv v (hb.perm.mem_iff.mp m)).2
          obtain ⟨w2, o2, n2⟩ := w.newL hl rr
          exact q l G _ w2 (Gw.raw hl) ⟨o2, n2⟩ hl
    · cases e
  · cases e
end DL

set_option maxHeartbeats 1000000
/-! The data layer, part N: the rules with the written part K named (so that they stand within comprehensions). -/
namespace DL
open PySem L2
section
variable {X : Cx} {e a b c : Expr} {es : List Expr} {t ta tb tc : TE} {m ma mb mc : ME} {pos p2 : Pos} {i : Nat} {lo hi : Option Expr} {tl th : TO} {ml mh : List Sl → M (Option Int)} (K : PySem.W.Frag)
theorem re_addN (ha : RB X a ta ma) (hb : RB X b tb mb) (hK : X.K = K := by rfl) : RE X (.BinOp a .Add b pos) (tOp (rAddK K) ta tb) (e2 gAdd ma mb) := hK ▸ re_add ha hb
theorem re_ixN (ha : RB X a ta ma) (hb : RB X b tb mb) (hs : PlainIx b := by exact fun _ _ => rfl) (hK : X.K = K := by rfl) : RE X (.Subscript a b pos) (tOp (rIx K) ta tb) (e2 gIx ma mb) := hK ▸ re_ix ha hb hs
theorem re_cutN (ha : RB X a ta ma) (hl : RO X lo tl ml) (hh : RO X hi th mh) (hK : X.K = K := by rfl) : RE X (.Subscript a (.Slice lo hi none p2) pos) (tSl (rCutK K) ta tl th) (eCut ma ml mh) := hK ▸ re_cut ha hl hh
theorem rn_cutN (ha : RB X a ta ma) (hl : RO X lo tl ml) (hh : RO X hi th mh) (hK : X.K = K := by rfl) : RN X (.Subscript a (.Slice lo hi none p2) pos) (tSl (rSlL K) ta tl th) (nCut ma ml mh) := hK ▸ rn_cut ha hl hh
theorem rg_seqN {k : Nat} {g : TGs} {ks : MGs} {is js : List Nat} {n : Nat} (hc : X.calm = true) (h : RGs X es g ks is) (hj : is = js := by rfl) (hn : (assignEach es X.env).length = n := by rfl) (hst : (assignEach es X.env).findIdx? (·.1) = none := by rfl) (hK : X.K = K := by rfl) :
    RG X (.Tuple es k pos) (gSeq K n g) (mSeq n ks) js := hK ▸ hj ▸ rg_seq hc h hn hst
theorem ri_seqN {tg : Expr} (h : RE X e t m) (hK : X.K = K := by rfl) : RI X tg e (iSeq K t) (lSeq m) := hK ▸ ri_seq h
theorem op_eqN (hu : X.A.units + 64 < cLine) (hK : X.K = K := by rfl) : OpR X (compareOp .Eq) (rEqD K) := hK ▸ op_eqD hu
theorem op_neN (hu : X.A.units + 64 < cLine) (hK : X.K = K := by rfl) : OpR X (compareOp .NotEq) (rNeD K) := hK ▸ op_neD hu
theorem op_inN {k : Nat} (hr : Room k X.A) (hK : X.K = K := by rfl) : OpR X (compareOp .In) (rInD K) := hK ▸ op_inD (by have := hr.un; omega)
theorem op_ninN {k : Nat} (hr : Room k X.A) (hK : X.K = K := by rfl) : OpR X (compareOp .NotIn) (rNotInD K) := hK ▸ op_notInD (by have := hr.un; omega)
theorem call_lenN (hK : X.K = K := by rfl) : CallR X (.builtin "len") (fun xs H Q => ∃ p ys, xs = [.ref p] ∧ (SqL K H p ys ∨ SqT K H p ys) ∧ Q (.int ys.length) H) := hK ▸ call_len_seq
theorem call_listN (hK : X.K = K := by rfl) : CallR X (.type "list") (fun xs H Q => ∃ p ys, xs = [.ref p] ∧ (SqL K H p ys ∨ SqT K H p ys) ∧ ∀ l, H l = none → Q (.ref l) (upd H l (.lst ys))) := hK ▸ call_list_of
theorem call_tupleN (hK : X.K = K := by rfl) : CallR X (.type "tuple") (fun xs H Q => ∃ p ys, xs = [.ref p] ∧ ((SqL K H p ys ∧ ∀ l, H l = none → Q (.ref l) (upd H l (.tup ys))) ∨ (SqT K H p ys ∧ Q (.ref p) H))) := hK ▸ call_tuple_of
theorem call_reprN {k : Nat} (hr : Room k X.A) (hG : X.A.guards = some []) (hK : X.K = K := by rfl) : CallR X (.builtin "repr") (rRepr K) := hK ▸ call_repr hr hG
theorem cr_sortedN (hK : X.K = K := by rfl) : CallR X (.builtin "sorted") (rSortedPO K) := hK ▸ cr_sortedPO
theorem rn_revN {k : Nat} {p1 p2 p3 : Pos} (ha : RB X a ta ma) (hK : X.K = K := by rfl) : RN X (.Subscript a (.Slice none none (some (.UnaryOp .USub (.Constant (.int 1) k p1) p2)) p3) pos) (tRevL K ta) (nRev ma) := hK ▸ rn_rev ha
theorem re_isiN {y : Ty} {x : Str} {p p2 : Pos} (hm : X.mg "isinstance" = none) (hm2 : X.mg x = none) (hv : bootBuiltins x = some (.type y.nm)) (ha : RB X a ta ma)
    (gl : Gl X "isinstance" := by rfl) (gl2 : Gl X x := by rfl) (hn : x ≠ "__name__" := by decide) (hdb : (x == ("__debug__" : Str)) = false := by decide)
    (he : starEach [a, .Name x p2] X.env = (false, eval a X.env) :: starEach [.Name x p2] X.env := by rfl)
    (he2 : starEach [.Name x p2] X.env = (false, eval (.Name x p2) X.env) :: starEach [] X.env := by rfl)
    (hpl : (backTo pos (starEach [.Name x p2] X.env)).any (·.1) = false := by rfl) (hK : X.K = K := by rfl) :
    RE X (.Call (.Name "isinstance" p) [a, .Name x p2] [] pos) (tCB (rIsi K) (tCons ta (tCons (tC (.ty y.nm)) tNil))) (e1 (gIsi y) ma) := hK ▸ re_isi hm hm2 hv ha gl gl2 hn hdb he he2 hpl
end
end DL

set_option maxHeartbeats 1000000
/-! The data layer, part O: more reasoning about mirrors. -/
namespace DL
open PySem
/-- a for by an invariant that counts the turns -/
theorem Gv.forI {kd : Nat} {c : Nat} {mg : MG} {b : MS} (I : Nat → List Sl → Prop) : ∀ (ds : List PyData) (k : Nat) (ρ : List Sl), (∀ d ∈ ds, ∀ j ρ, j < k + ds.length → I j ρ → Gv kd (M.lift (mg d ρ) >>= b) c fun o => ∃ ρ', o = .nx ρ' ∧ I (j + 1) ρ') → I k ρ → Gv kd (forGo mg b ds ρ) (ds.length * c) fun o => ∃ ρ', o = .nx ρ' ∧ I (k + ds.length) ρ'
  | [], k, ρ, _, h => fun B t ok hB => ⟨.nx ρ, t, rfl, ok.mono (by simp), ρ, rfl, h⟩
  | d :: r, k, ρ, hb, h => fun B t ok hB => by
    have e0 : ((d :: r).length * c : Nat) = r.length * c + c := by rw [List.length_cons, Nat.add_mul, Nat.one_mul]
    rw [e0] at hB ⊢
    obtain ⟨o, t1, e1, ok1, ρ1, rfl, h1⟩ := hb d (by simp) k ρ (by rw [List.length_cons]; omega) h B t ok (by omega)
    obtain ⟨o2, t2, e2, ok2, p2⟩ := Gv.forI I r (k + 1) ρ1 (fun d' hd j ρ hj => hb d' (List.mem_cons_of_mem _ hd) j ρ (by rw [List.length_cons]; omega)) h1 (B + c) t1 ok1 (by omega)
    refine ⟨o2, t2, ?_, ok2.mono (by omega), by rw [List.length_cons, show k + (r.length + 1) = k + 1 + r.length by omega]; exact p2⟩
    show (M.lift (mg d ρ) >>= fun ρ' => b ρ' >>= loopOut (forGo mg b r)) t = _
    have : (M.lift (mg d ρ) >>= fun ρ' => b ρ' >>= loopOut (forGo mg b r)) = (M.lift (mg d ρ) >>= b) >>= loopOut (forGo mg b r) := by
      funext t
      rw [bnd_ap, bnd_ap, bnd_ap]
      cases M.lift (mg d ρ) t with
      | none => rfl
      | some p => show (b p.1 >>= loopOut (forGo mg b r)) p.2 = _; rw [bnd_ap]; rfl
    rw [this, bnd_ap, e1]
    exact e2
theorem perm3 {α : Type} {l : List α} {x y z : α} (h : l.Perm [x, y, z]) : l = [x, y, z] ∨ l = [x, z, y] ∨ l = [y, x, z] ∨ l = [y, z, x] ∨ l = [z, x, y] ∨ l = [z, y, x] := by
  have two : ∀ {m : List α} {u v : α}, m.Perm [u, v] → m = [u, v] ∨ m = [v, u] := by
    intro m u v h
    have hl := h.length_eq
    match m, hl with
    | [a, b], _ =>
      have ha : a ∈ [u, v] := h.mem_iff.mp (by simp)
      simp only [List.mem_cons, List.not_mem_nil, or_false] at ha
      rcases ha with rfl | rfl
      · have := List.perm_cons a |>.mp h
        have := List.perm_singleton.mp this
        cases this
        exact .inl rfl
      · have := List.perm_cons a |>.mp (h.trans (List.Perm.swap a u []))
        have := List.perm_singleton.mp this
        cases this
        exact .inr rfl
  have hl := h.length_eq
  match l, hl with
  | [a, b, c], _ =>
    have ha : a ∈ [x, y, z] := h.mem_iff.mp (by simp)
    simp only [List.mem_cons, List.not_mem_nil, or_false] at ha
    rcases ha with rfl | rfl | rfl
    · rcases two (List.perm_cons a |>.mp h) with e | e <;> cases e
      · exact .inl rfl
      · exact .inr (.inl rfl)
    · rcases two (List.perm_cons a |>.mp (h.trans (List.Perm.swap a x [z]))) with e | e <;> cases e
      · exact .inr (.inr (.inl rfl))
      · exact .inr (.inr (.inr (.inl rfl)))
    · rcases two (List.perm_cons a |>.mp (h.trans (((List.Perm.swap a y []).cons x).trans (List.Perm.swap a x [y])))) with e | e <;> cases e
      · exact .inr (.inr (.inr (.inr (.inl rfl))))
      · exact .inr (.inr (.inr (.inr (.inr rfl))))
section
variable {ρ : List Sl} {i : Int} {b : Bool} {xs : List PyData}
theorem x_nRev (a : ME) : nRev a ρ = a ρ >>= fun d => M.lift (match d with | .list xs => some xs.reverse | _ => none) := nr rfl
theorem v_isII : gIsi .int (.int i) = some (.bool true) := nr rfl
theorem v_isBI : gIsi .bool (.int i) = some (.bool false) := nr rfl
theorem v_isIB : gIsi .int (.bool b) = some (.bool true) := nr rfl
theorem v_isBB : gIsi .bool (.bool b) = some (.bool true) := nr rfl
theorem v_isTT : gIsi .tuple (.tuple xs) = some (.bool true) := nr rfl
theorem v_isLL : gIsi .list (.list xs) = some (.bool true) := nr rfl
theorem v_in3 : gIn (.bool false) (.list [.bool true, .bool true, .bool true]) = some (.bool false) := nr rfl
end
/-- the sign -/
def sg (z : Int) : Int := (if decide (0 < z) = true then 1 else 0) - (if decide (z < 0) = true then 1 else 0)
theorem sg_pos {z : Int} (h : 0 < z) : sg z = 1 := by
  unfold sg
  rw [decide_eq_true h, decide_eq_false (by omega)]
  rfl
theorem sg_neg {z : Int} (h : z < 0) : sg z = -1 := by
  unfold sg
  rw [decide_eq_true h, decide_eq_false (by omega)]
  rfl
theorem sg_zero : sg 0 = 0 := rfl
theorem sg_cases (z : Int) : (0 < z ∧ sg z = 1) ∨ (z < 0 ∧ sg z = -1) ∨ (z = 0 ∧ sg z = 0) := by
  rcases (show 0 < z ∨ z < 0 ∨ z = 0 by omega) with h | h | h
  · exact .inl ⟨h, sg_pos h⟩
  · exact .inr (.inl ⟨h, sg_neg h⟩)
  · exact .inr (.inr ⟨h, by rw [h]; rfl⟩)
theorem sg_abs (z : Int) : (sg z).natAbs ≤ 1 := by
  rcases sg_cases z with ⟨_, h⟩ | ⟨_, h⟩ | ⟨_, h⟩ <;> rw [h] <;> decide
theorem sg_mul (x y : Int) : sg x * sg y = sg (x * y) := by
  rcases sg_cases x with ⟨hx, ex⟩ | ⟨hx, ex⟩ | ⟨hx, ex⟩ <;> rcases sg_cases y with ⟨hy, ey⟩ | ⟨hy, ey⟩ | ⟨hy, ey⟩ <;> rw [ex, ey]
  · rw [sg_pos (Int.mul_pos hx hy)]; rfl
  · rw [sg_neg (Int.mul_neg_of_pos_of_neg hx hy)]; rfl
  · subst hy; simp [sg_zero]
  · rw [sg_neg (Int.mul_neg_of_neg_of_pos hx hy)]; rfl
  · rw [sg_pos (Int.mul_pos_of_neg_of_neg hx hy)]; rfl
  · subst hy; simp [sg_zero]
  all_goals (subst hx; simp [sg_zero])
theorem sg_neg' (z : Int) : sg (-z) = - sg z := by
  rcases sg_cases z with ⟨h, e⟩ | ⟨h, e⟩ | ⟨h, e⟩ <;> rw [e]
  · exact sg_neg (by omega)
  · exact sg_pos (by omega)
  · subst h; rfl
end DL

/-! mirrors of k55 (printed by gen.py) -/
namespace LK55
open DL
def m_turning : MF := mfn 3 3
    (sRet (e2 gSub (e2 gMulI (e2 gSub (e2 gIx (bVar 1) (eC (.int 0))) (e2 gIx (bVar 0) (eC (.int 0)))) (e2 gSub (e2 gIx (bVar 2) (eC (.int 1))) (e2 gIx (bVar 0) (eC (.int 1))))) (e2 gMulI (e2 gSub (e2 gIx (bVar 1) (eC (.int 1))) (e2 gIx (bVar 0) (eC (.int 1)))) (e2 gSub (e2 gIx (bVar 2) (eC (.int 0))) (e2 gIx (bVar 0) (eC (.int 0)))))))
def m_side : MF := mfn 3 4
    (sSeq (sAsg (eCall m_turning (aCons (eVar 0) (aCons (eVar 1) (aCons (eVar 2) aNil)))) (mName 3))
    (sRet (e2 gSub (eCal cInt (lCons (e2 gGtI (bVar 3) (eC (.int 0))) lNil)) (eCal cInt (lCons (e2 gLtI (bVar 3) (eC (.int 0))) lNil)))))
def m_seen_from : MF := mfn 2 4
    (sSeq (sAsg (e2 gSub (e2 gIx (bVar 1) (eC (.int 0))) (e2 gIx (bVar 0) (eC (.int 0)))) (mName 2))
    (sSeq (sAsg (e2 gSub (e2 gIx (bVar 1) (eC (.int 1))) (e2 gIx (bVar 0) (eC (.int 1)))) (mName 3))
    (sRet (eTup (lCons (eVar 2) (lCons (eVar 3) (lCons (e2 gAdd (e2 gMulI (bVar 2) (bVar 2)) (e2 gMulI (bVar 3) (bVar 3))) lNil)))))))
def m_circle : MF := mfn 2 7
    (sSeq (sAsg (eList (nComp (lSeq (eVar 0)) (mName 5) [5] bYes (eCall m_seen_from (aCons (eVar 1) (aCons (eVar 5) aNil))))) (mSeq 3 (mgCons (mName 2) (mgCons (mName 3) (mgCons (mName 4) mgNil)))))
    (sSeq (sAsg (e2 gMulI (e2 gIx (bVar 2) (eC (.int 0))) (e2 gSub (e2 gMulI (e2 gIx (bVar 3) (eC (.int 1))) (e2 gIx (bVar 4) (eC (.int 2)))) (e2 gMulI (e2 gIx (bVar 3) (eC (.int 2))) (e2 gIx (bVar 4) (eC (.int 1)))))) (mName 6))
    (sSeq (sAsg (e2 gSub (bVar 6) (e2 gMulI (e2 gIx (bVar 2) (eC (.int 1))) (e2 gSub (e2 gMulI (e2 gIx (bVar 3) (eC (.int 0))) (e2 gIx (bVar 4) (eC (.int 2)))) (e2 gMulI (e2 gIx (bVar 3) (eC (.int 2))) (e2 gIx (bVar 4) (eC (.int 0))))))) (mName 6))
    (sSeq (sAsg (e2 gAdd (bVar 6) (e2 gMulI (e2 gIx (bVar 2) (eC (.int 2))) (e2 gSub (e2 gMulI (e2 gIx (bVar 3) (eC (.int 0))) (e2 gIx (bVar 4) (eC (.int 1)))) (e2 gMulI (e2 gIx (bVar 3) (eC (.int 1))) (e2 gIx (bVar 4) (eC (.int 0))))))) (mName 6))
    (sRet (e2 gMulI (eCall m_side (aCons (e2 gIx (bVar 0) (eC (.int 0))) (aCons (e2 gIx (bVar 0) (eC (.int 1))) (aCons (e2 gIx (bVar 0) (eC (.int 2))) aNil)))) (e2 gSub (eCal cInt (lCons (e2 gGtI (bVar 6) (eC (.int 0))) lNil)) (eCal cInt (lCons (e2 gLtI (bVar 6) (eC (.int 0))) lNil)))))))))
def m_law_draw : MF := mfn 2 6
    (sSeq (sIf (tOf (e2 gGtI (eTGet 1 0 2) (eC (.int 0)))) (sSeq (sAsg (e2 gMod (eTGet 1 0 2) (bVar 1)) (mName 2))
    (sSeq (sTPut 1 0 2 (e2 gDiv (eTGet 1 0 2) (bVar 1)))
    (sRet (eVar 2)))) sNext)
    (sSeq (sAsg (eTGet 1 0 1) (mName 3))
    (sSeq (sTPut 1 0 1 (e2 gAdd (bVar 3) (eC (.int 1))))
    (sSeq (sAsg (eIf (tOf (e2 gNe (eTGet 1 0 0) (eList (nLst lNil)))) (e2 gIx (eTGet 1 0 0) (e2 gMod (bVar 3) (eCal cLen (lCons (eTGet 1 0 0) lNil)))) (eC (.int 4))) (mName 4))
    (sSeq (sIf (bAnd (tOf (e2 gGeI (bVar 4) (e2 gPow (eC (.int 10)) (eC (.int 18))))) (tOf (e2 gLtI (bVar 3) (eCal cLen (lCons (eTGet 1 0 0) lNil))))) (sSeq (sTPut 1 0 2 (e2 gDiv (bVar 4) (bVar 1)))
    (sRet (e2 gMod (bVar 4) (bVar 1)))) sNext)
    (sSeq (sAsg (e2 gMod (e2 gMulI (e2 gAdd (e2 gAdd (e2 gAdd (e2 gMod (bVar 4) (eC (.int 1000003))) (e2 gMulI (e2 gMulI (eC (.int 53)) (bVar 3)) (bVar 3))) (e2 gMulI (eC (.int 17)) (bVar 3))) (eC (.int 11))) (eC (.int 48271))) (eC (.int 2147483647))) (mName 5))
    (sSeq (sAsg (e2 gMod (e2 gAdd (e2 gAdd (e2 gMulI (bVar 5) (bVar 5)) (e2 gMulI (eC (.int 6571)) (bVar 3))) (eC (.int 7))) (eC (.int 2147483629))) (mName 5))
    (sSeq (sAsg (e2 gMod (e2 gAdd (e2 gAdd (e2 gMulI (bVar 5) (bVar 5)) (e2 gMulI (eC (.int 40009)) (bVar 5))) (bVar 3)) (eC (.int 2147483587))) (mName 5))
    (sRet (e2 gMod (e2 gDiv (bVar 5) (eC (.int 64))) (bVar 1)))))))))))
def m_law_four : MF := mfn 1 16
    (sSeq (sAsg (eCall m_law_draw (aTape 0 (aCons (eC (.int 6)) aNil))) (mName 1))
    (sSeq (sIf (tOf (e2 gEq (bVar 1) (eC (.int 4)))) (sSeq (sAsg (eList (nComp (nCal rng1 (lCons (eC (.int 3)) lNil)) (mName 3) [3] bYes (e2 gSub (eCall m_law_draw (aTape 0 (aCons (eC (.int 601)) aNil))) (eC (.int 300))))) (mName 2))
    (sSeq (sAsg (e2 gSub (eCall m_law_draw (aTape 0 (aCons (eC (.int 2001)) aNil))) (eC (.int 1000))) (mName 4))
    (sSeq (sAsg (e2 gSub (eCall m_law_draw (aTape 0 (aCons (eC (.int 2001)) aNil))) (eC (.int 1000))) (mName 5))
    (sRet (eList (nLst (lCons (eTup (lCons (e2 gIx (bVar 2) (eC (.int 0))) (lCons (eVar 4) lNil))) (lCons (eTup (lCons (e2 gIx (bVar 2) (eC (.int 1))) (lCons (eVar 4) lNil))) (lCons (eTup (lCons (e2 gIx (bVar 2) (eC (.int 2))) (lCons (eVar 5) lNil))) (lCons (eTup (lCons (e2 gSub (e2 gAdd (e2 gIx (bVar 2) (eC (.int 0))) (e2 gIx (bVar 2) (eC (.int 1)))) (e2 gIx (bVar 2) (eC (.int 2)))) (lCons (eVar 5) lNil))) lNil)))))))))) sNext)
    (sSeq (sIf (tOf (e2 gEq (bVar 1) (eC (.int 3)))) (sSeq (sAsg (e2 gAdd (eC (.int 1)) (eCall m_law_draw (aTape 0 (aCons (eC (.int 150)) aNil)))) (mName 6))
    (sSeq (sAsg (e2 gSub (eCall m_law_draw (aTape 0 (aCons (eC (.int 501)) aNil))) (eC (.int 250))) (mName 7))
    (sSeq (sAsg (e2 gSub (eCall m_law_draw (aTape 0 (aCons (eC (.int 501)) aNil))) (eC (.int 250))) (mName 8))
    (sSeq (sAsg (eList (nLst (lCons (eTup (lCons (eC (.int 3)) (lCons (eC (.int 4)) lNil))) (lCons (eTup (lCons (eC (.int 4)) (lCons (eC (.int 3)) lNil))) (lCons (eTup (lCons (eC (.int 5)) (lCons (eC (.int 0)) lNil))) (lCons (eTup (lCons (eC (.int 4)) (lCons (e1 gNeg (eC (.int 3))) lNil))) (lCons (eTup (lCons (eC (.int 3)) (lCons (e1 gNeg (eC (.int 4))) lNil))) (lCons (eTup (lCons (eC (.int 0)) (lCons (e1 gNeg (eC (.int 5))) lNil))) (lCons (eTup (lCons (e1 gNeg (eC (.int 3))) (lCons (e1 gNeg (eC (.int 4))) lNil))) (lCons (eTup (lCons (e1 gNeg (eC (.int 4))) (lCons (e1 gNeg (eC (.int 3))) lNil))) (lCons (eTup (lCons (e1 gNeg (eC (.int 5))) (lCons (eC (.int 0)) lNil))) (lCons (eTup (lCons (e1 gNeg (eC (.int 4))) (lCons (eC (.int 3)) lNil))) (lCons (eTup (lCons (e1 gNeg (eC (.int 3))) (lCons (eC (.int 4)) lNil))) (lCons (eTup (lCons (eC (.int 0)) (lCons (eC (.int 5)) lNil))) lNil)))))))))))))) (mName 9))
    (sSeq (sOwn 10 (nComp (nCal rng1 (lCons (eC (.int 4)) lNil)) (mName 3) [3] bYes (e2 gIx (bVar 9) (eCall m_law_draw (aTape 0 (aCons (eC (.int 12)) aNil))))))
    (sFrz 10 (sRet (eList (nComp (lSeq (eVar 10)) (mSeq 2 (mgCons (mName 11) (mgCons (mName 12) mgNil))) [11, 12] bYes (eTup (lCons (e2 gAdd (bVar 7) (e2 gMulI (bVar 6) (bVar 11))) (lCons (e2 gAdd (bVar 8) (e2 gMulI (bVar 6) (bVar 12))) lNil)))))))))))) sNext)
    (sSeq (sAsg (e2 gIx (eList (nLst (lCons (eTup (lCons (eC (.int 4)) (lCons (eC (.int 1)) (lCons (eC (.int 0)) lNil)))) (lCons (eTup (lCons (eC (.int 41)) (lCons (eC (.int 1)) (lCons (eC (.int 0)) lNil)))) (lCons (eTup (lCons (eC (.int 2001)) (lCons (eC (.int 1)) (lCons (eC (.int 1000)) lNil)))) (lCons (eTup (lCons (eC (.int 0)) (lCons (eC (.int 0)) (lCons (eC (.int 0)) lNil)))) (lCons (eTup (lCons (eC (.int 0)) (lCons (eC (.int 0)) (lCons (eC (.int 0)) lNil)))) (lCons (eTup (lCons (eC (.int 3)) (lCons (eC (.int 1000)) (lCons (eC (.int 1000)) lNil)))) lNil)))))))) (bVar 1)) (mSeq 3 (mgCons (mName 13) (mgCons (mName 14) (mgCons (mName 15) mgNil)))))
    (sSeq (sOwn 10 (nLst lNil))
    (sSeq (sFor (nCal rng1 (lCons (eC (.int 4)) lNil)) (mName 3) (sSeq (sAsg (e2 gSub (e2 gMulI (eCall m_law_draw (aTape 0 (aCons (eVar 13) aNil))) (bVar 14)) (bVar 15)) (mName 11))
    (sApp 10 (eTup (lCons (eVar 11) (lCons (e2 gSub (e2 gMulI (eCall m_law_draw (aTape 0 (aCons (eVar 13) aNil))) (bVar 14)) (bVar 15)) lNil))))))
    (sFrz 10 (sRet (eVar 10)))))))))
def m_law_turning : MF := mfn 3 3
    (sRet (e2 gSub (e2 gMulI (e2 gSub (e2 gIx (bVar 1) (eC (.int 0))) (e2 gIx (bVar 0) (eC (.int 0)))) (e2 gSub (e2 gIx (bVar 2) (eC (.int 1))) (e2 gIx (bVar 0) (eC (.int 1))))) (e2 gMulI (e2 gSub (e2 gIx (bVar 1) (eC (.int 1))) (e2 gIx (bVar 0) (eC (.int 1)))) (e2 gSub (e2 gIx (bVar 2) (eC (.int 0))) (e2 gIx (bVar 0) (eC (.int 0)))))))
def m_law_beside : MF := mfn 2 4
    (sSeq (sAsg (eVar 1) (mSeq 2 (mgCons (mName 2) (mgCons (mName 3) mgNil))))
    (sSeq (sIf (tOf (e2 gEq (eCall m_law_draw (aTape 0 (aCons (eC (.int 2)) aNil))) (eC (.int 0)))) (sRet (eTup (lCons (eIf (tOf (e2 gGtI (bVar 2) (eC (.int 0)))) (e2 gSub (bVar 2) (eC (.int 1))) (e2 gAdd (bVar 2) (eC (.int 1)))) (lCons (eVar 3) lNil)))) sNext)
    (sRet (eTup (lCons (eVar 2) (lCons (eIf (tOf (e2 gGtI (bVar 3) (eC (.int 0)))) (e2 gSub (bVar 3) (eC (.int 1))) (e2 gAdd (bVar 3) (eC (.int 1)))) lNil))))))
def m_law_meant : MF := mfn 2 15
    (sSeq (sAsg (eVar 0) (mSeq 3 (mgCons (mName 2) (mgCons (mName 3) (mgCons (mName 4) mgNil)))))
    (sSeq (sPar 5 6 (lCons (e2 gSub (e2 gIx (bVar 3) (eC (.int 0))) (e2 gIx (bVar 2) (eC (.int 0)))) (lCons (e2 gSub (e2 gIx (bVar 3) (eC (.int 1))) (e2 gIx (bVar 2) (eC (.int 1)))) lNil)))
    (sSeq (sPar 7 8 (lCons (e2 gSub (e2 gIx (bVar 4) (eC (.int 0))) (e2 gIx (bVar 2) (eC (.int 0)))) (lCons (e2 gSub (e2 gIx (bVar 4) (eC (.int 1))) (e2 gIx (bVar 2) (eC (.int 1)))) lNil)))
    (sSeq (sAsg (e2 gMulI (eC (.int 2)) (e2 gSub (e2 gMulI (bVar 5) (bVar 8)) (e2 gMulI (bVar 6) (bVar 7)))) (mName 9))
    (sSeq (sAsg (e2 gSub (e2 gMulI (bVar 8) (e2 gAdd (e2 gMulI (bVar 5) (bVar 5)) (e2 gMulI (bVar 6) (bVar 6)))) (e2 gMulI (bVar 6) (e2 gAdd (e2 gMulI (bVar 7) (bVar 7)) (e2 gMulI (bVar 8) (bVar 8))))) (mName 10))
    (sSeq (sAsg (e2 gSub (e2 gMulI (bVar 5) (e2 gAdd (e2 gMulI (bVar 7) (bVar 7)) (e2 gMulI (bVar 8) (bVar 8)))) (e2 gMulI (bVar 7) (e2 gAdd (e2 gMulI (bVar 5) (bVar 5)) (e2 gMulI (bVar 6) (bVar 6))))) (mName 11))
    (sSeq (sAsg (e2 gSub (e2 gMulI (e2 gSub (e2 gIx (bVar 1) (eC (.int 0))) (e2 gIx (bVar 2) (eC (.int 0)))) (bVar 9)) (bVar 10)) (mName 12))
    (sSeq (sAsg (e2 gSub (e2 gMulI (e2 gSub (e2 gIx (bVar 1) (eC (.int 1))) (e2 gIx (bVar 2) (eC (.int 1)))) (bVar 9)) (bVar 11)) (mName 13))
    (sSeq (sAsg (e2 gSub (e2 gSub (e2 gAdd (e2 gMulI (bVar 10) (bVar 10)) (e2 gMulI (bVar 11) (bVar 11))) (e2 gMulI (bVar 12) (bVar 12))) (e2 gMulI (bVar 13) (bVar 13))) (mName 14))
    (sRet (e2 gSub (eCal cInt (lCons (e2 gGtI (bVar 14) (eC (.int 0))) lNil)) (eCal cInt (lCons (e2 gLtI (bVar 14) (eC (.int 0))) lNil)))))))))))))
def m_law_right : MF := mfn 3 4
    (sSeq (sAsg (eCall m_circle (aCons (eVar 0) (aCons (eVar 1) aNil))) (mName 3))
    (sRet (eAnd (e1 (gIsi .int) (bVar 3)) (eAnd (eNot (e1 (gIsi .bool) (bVar 3))) (e2 gEq (bVar 3) (bVar 2))))))
def b_law : MS :=
    (sSeq (sOwn 2 (nLst lNil))
    (sSeq (sFor (nCal rng1 (lCons (eC (.int 8)) lNil)) (mName 3) (sSeq (sAsg (eCall m_law_four (aTape 1 aNil)) (mName 4))
    (sSeq (sAsg (eCal cTuple (lCons (eList (nCal cSortP (lCons (eCut (bVar 4) pNone (pSome (eC (.int 3)))) lNil))) lNil)) (mName 5))
    (sSeq (sIf (tOf (e2 gEq (eCall m_law_turning (aCons (e2 gIx (bVar 5) (eC (.int 0))) (aCons (e2 gIx (bVar 5) (eC (.int 1))) (aCons (e2 gIx (bVar 5) (eC (.int 2))) aNil)))) (eC (.int 0)))) (sAsg (eTup (lCons (eTup (lCons (eC (.int 0)) (lCons (eC (.int 0)) lNil))) (lCons (eTup (lCons (eC (.int 0)) (lCons (e2 gAdd (eC (.int 1)) (eCall m_law_draw (aTape 1 (aCons (eC (.int 900)) aNil)))) lNil))) (lCons (eTup (lCons (e2 gAdd (eC (.int 1)) (eCall m_law_draw (aTape 1 (aCons (eC (.int 900)) aNil)))) (lCons (eC (.int 0)) lNil))) lNil)))) (mName 5)) sNext)
    (sSeq (sAsg (eCall m_law_draw (aTape 1 (aCons (eC (.int 4)) aNil))) (mName 6))
    (sSeq (sAsg (e2 gIx (bVar 4) (eC (.int 3))) (mName 7))
    (sSeq (sIf (tOf (e2 gEq (bVar 6) (eC (.int 1)))) (sAsg (eCall m_law_beside (aTape 1 (aCons (eVar 7) aNil))) (mName 7)) sNext)
    (sSeq (sIf (tOf (e2 gEq (bVar 6) (eC (.int 2)))) (sAsg (e2 gIx (bVar 5) (eCall m_law_draw (aTape 1 (aCons (eC (.int 3)) aNil)))) (mName 7)) sNext)
    (sSeq (sIf (tOf (e2 gEq (bVar 6) (eC (.int 3)))) (sAsg (eTup (lCons (e2 gSub (eCall m_law_draw (aTape 1 (aCons (eC (.int 2001)) aNil))) (eC (.int 1000))) (lCons (e2 gSub (eCall m_law_draw (aTape 1 (aCons (eC (.int 2001)) aNil))) (eC (.int 1000))) lNil))) (mName 7)) sNext)
    (sSeq (sApp 2 (eTup (lCons (eVar 5) (lCons (eVar 7) (lCons (eCall m_law_meant (aCons (eVar 5) (aCons (eVar 7) aNil))) lNil)))))
    (sSeq (sAsg (eCal cTuple (lCons (eList (nCal cSortP (lCons (eList (nComp (lSeq (eVar 5)) (mSeq 2 (mgCons (mName 9) (mgCons (mName 10) mgNil))) [9, 10] bYes (eTup (lCons (e2 gSub (eC (.int 0)) (bVar 9)) (lCons (eVar 10) lNil))))) lNil))) lNil)) (mName 8))
    (sSeq (sAsg (eCal cTuple (lCons (eList (nCal cSortP (lCons (eList (nComp (lSeq (eVar 5)) (mSeq 2 (mgCons (mName 9) (mgCons (mName 10) mgNil))) [9, 10] bYes (eTup (lCons (eVar 10) (lCons (eVar 9) lNil))))) lNil))) lNil)) (mName 11))
    (sSeq (sApp 2 (eTup (lCons (eVar 8) (lCons (eTup (lCons (e2 gSub (eC (.int 0)) (e2 gIx (bVar 7) (eC (.int 0)))) (lCons (e2 gIx (bVar 7) (eC (.int 1))) lNil))) (lCons (e2 gIx (e2 gIx (bVar 2) (e1 gNeg (eC (.int 1)))) (eC (.int 2))) lNil)))))
    (sSeq (sApp 2 (eTup (lCons (eVar 11) (lCons (eTup (lCons (e2 gIx (bVar 7) (eC (.int 1))) (lCons (e2 gIx (bVar 7) (eC (.int 0))) lNil))) (lCons (e2 gIx (e2 gIx (bVar 2) (e1 gNeg (eC (.int 1)))) (eC (.int 2))) lNil)))))
    (sIf (tOf (e2 gIn (eC (.bool false)) (eList (nComp (lSeq (eVar 5)) (mName 12) [12] bYes (eCall m_law_right (aCons (eVar 5) (aCons (eVar 12) (aCons (eC (.int 0)) aNil)))))))) (sRet (eC (.bool false))) sNext)))))))))))))))
    (sSeq (sFor (lSeq (e2 gAdd (bVar 2) (eList (nRev (bVar 2))))) (mSeq 3 (mgCons (mName 5) (mgCons (mName 7) (mgCons (mName 13) mgNil)))) (sIf (bNot (tOf (eCall m_law_right (aCons (eVar 5) (aCons (eVar 7) (aCons (eVar 13) aNil)))))) (sRet (eC (.bool false))) sNext))
    (sRet (eC (.bool true))))))
end LK55

set_option maxHeartbeats 1000000
namespace LK55
open DL PySem
local macro_rules | `(tactic| walk_at "ev") => `(tactic| (try simp only [x_pb, x_fb, x_ba, x_ls, x_ln, x_eVar, x_bVar, x_rdF, x_rdB, x_eC, x_e2, x_e1, x_eList, x_eTup, x_nLst, x_lNil, x_lCons, x_aNil, x_aCons, x_aTape, x_isTp, x_eCal, x_nCal, x_eCall, x_eCut, x_pNone, x_pSome, x_tOf, x_bAnd, x_bOr, x_bNot, x_eIf, x_eAnd, x_eOr, x_eNot, x_eChain, x_lSeq, x_nComp, x_sNext, x_sSeq, x_atN, x_atR, x_atB, x_atC, x_sDrop, x_sRet, x_sIf, x_sAsg, x_mName, x_mSeq, x_mgNil, x_mgCons, x_sOwn, x_sFrz, x_frz, x_sApp, x_owOf, x_sSetI, x_sPar, x_sPar3, x_sFor, x_forN, x_forC, x_loN, x_loC, x_loB, x_loR, x_cN, x_cC, x_bYes, x_oR, x_oN, x_mf0, x_mf1, x_mf2, x_mf3, x_mf4, x_mf5, x_tput, x_nRev, v_isII, v_isBI, v_in3, List.getElem?_cons_zero, List.getElem?_cons_succ, List.set_cons_zero, List.set_cons_succ, List.replicate_succ, List.replicate_zero, List.cons_append, List.nil_append, List.length_cons, List.length_nil, v_sub, v_add, v_neg, v_lt, v_le, v_gt, v_ge, v_abs, v_max, v_min, v_intI, v_intB, v_lenL, v_lenT, v_tupL, v_tupT, v_listL, v_listT, v_ixL, v_ixT, v_at0, v_at1, v_at2, v_bool, v_seqL, v_seqT, v_intOf, v_ok0, v_ok1, v_ok2, v_ok3, v_ok4, v_okn, v_ok5, v_ok6, v_ok7, v_ok8, v_ok9, v_ok10, v_ok11, v_ok12, v_ok13, v_ok14, v_ok15, v_ok16, v_ok17, v_ok18, v_ok19, v_ok20, v_ok21, v_ok22, v_ok23, v_ok24, v_ok25, v_ok26, v_ok27, v_ok28, v_ok29, v_ok30, v_ok31, v_ok32, gEq_int, gNe_int, v_rng1, v_rng2, okRg, Int.reducePow, Nat.sub_self, Nat.reduceSub, Nat.reduceAdd, unAll, if_true, if_false, Option.bind_some, Option.bind_none, ite_true, ite_false, Bool.false_eq_true, rgD, Int.reduceBEq, Int.reduceToNat, Int.reduceLT, Int.reduceLE, Int.reduceMul, Int.reduceAdd, Int.reduceSub, Int.reduceNeg, Nat.reduceMul, Nat.reduceLT, Nat.reduceBEq, decide_true, decide_false, Bool.and_true, Bool.true_and, Bool.and_self, Bool.not_true, Bool.not_false, BEq.rfl, reduceIte]))
local macro_rules | `(tactic| walk_at "evt") => `(tactic| (try simp only [x_pb, x_fb, x_ba, x_ls, x_ln, x_eVar, x_bVar, x_rdF, x_rdB, x_eC, x_e2, x_e1, x_eList, x_eTup, x_nLst, x_lNil, x_lCons, x_aNil, x_aCons, x_aTape, x_isTp, x_eCal, x_nCal, x_eCall, x_eCut, x_pNone, x_pSome, x_tOf, x_bAnd, x_bOr, x_bNot, x_eIf, x_eAnd, x_eOr, x_eNot, x_eChain, x_lSeq, x_nComp, x_sNext, x_sSeq, x_atN, x_atR, x_atB, x_atC, x_sDrop, x_sRet, x_sIf, x_sAsg, x_mName, x_mSeq, x_mgNil, x_mgCons, x_sOwn, x_sFrz, x_frz, x_sApp, x_owOf, x_sSetI, x_sPar, x_sPar3, x_sFor, x_forN, x_forC, x_loN, x_loC, x_loB, x_loR, x_cN, x_cC, x_bYes, x_oR, x_oN, x_mf0, x_mf1, x_mf2, x_mf3, x_mf4, x_mf5, x_tput, x_nRev, v_isII, v_isBI, v_in3, List.getElem?_cons_zero, List.getElem?_cons_succ, List.set_cons_zero, List.set_cons_succ, List.replicate_succ, List.replicate_zero, List.cons_append, List.nil_append, List.length_cons, List.length_nil, v_sub, v_add, v_neg, v_lt, v_le, v_gt, v_ge, v_abs, v_max, v_min, v_intI, v_intB, v_lenL, v_lenT, v_tupL, v_tupT, v_listL, v_listT, v_ixL, v_ixT, v_at0, v_at1, v_at2, v_bool, v_seqL, v_seqT, v_intOf, v_ok0, v_ok1, v_ok2, v_ok3, v_ok4, v_okn, v_ok5, v_ok6, v_ok7, v_ok8, v_ok9, v_ok10, v_ok11, v_ok12, v_ok13, v_ok14, v_ok15, v_ok16, v_ok17, v_ok18, v_ok19, v_ok20, v_ok21, v_ok22, v_ok23, v_ok24, v_ok25, v_ok26, v_ok27, v_ok28, v_ok29, v_ok30, v_ok31, v_ok32, gEq_int, gNe_int, v_rng1, v_rng2, okRg, Int.reducePow, Nat.sub_self, Nat.reduceSub, Nat.reduceAdd, unAll, if_true, if_false, Option.bind_some, Option.bind_none, ite_true, ite_false, Bool.false_eq_true, rgD, Int.reduceBEq, Int.reduceToNat, Int.reduceLT, Int.reduceLE, Int.reduceMul, Int.reduceAdd, Int.reduceSub, Int.reduceNeg, Nat.reduceMul, Nat.reduceLT, Nat.reduceBEq, decide_true, decide_false, Bool.and_true, Bool.true_and, Bool.and_self, Bool.not_true, Bool.not_false, BEq.rfl, reduceIte, bnd_ap, pure_ap, lift_ap, fail_ap, ite_ap, x_tget, x_doPut, fldOf, tSet, Option.map_some, Option.map_none, beq_self_eq_true, Bool.and_true, Bool.true_and]))
theorem draw_gv {n : Int} (h0 : 0 < n) (h1 : n < 1000000000000000000) : Gv 1 (m_law_draw [.tp, .fz (.int n)]) 1 fun d => ∃ r : Int, d = .int r ∧ 0 ≤ r ∧ r < n := by
  intro B t ok hB
  obtain ⟨kd, cells, a, left, turn⟩ := t
  obtain ⟨rfl, a0, a1, t0, t1⟩ := ok
  dsimp only at a0 a1 t0 t1
  have hm : ∀ x : Int, okMod x n = true := fun x => okMod_of h0
  have hd : ∀ x : Int, okDiv x n = true := fun x => okDiv64 h0 (by omega)
  have fin : ∀ x : Int, 0 ≤ x % n ∧ x % n < n := fun x => ⟨Int.emod_nonneg _ (by omega), Int.emod_lt_of_pos _ h0⟩
  unfold m_law_draw
  walk_at "evt"
  by_cases hl : 0 < left
  · simp only [decide_eq_true hl, v_mod (hm _), v_div (hd _)]
    walk_at "evt"
    simp only [v_mod (hm _), v_div (hd _)]
    walk_at "evt"
    exact ⟨_, _, rfl, ⟨rfl, a0, by show a ≤ B + 1; omega, t0, by show turn ≤ B + 1; omega⟩, _, rfl, fin _⟩
  · simp only [decide_eq_false hl]
    walk_at "evt"
    rw [v_neCells]
    walk_at "evt"
    have sel : ∃ c : Int, ∀ T : Tape, (if (!cells.isEmpty) = true then (Option.map (fun a => (a, T)) (gMod (.int a) (.int (List.map PyData.int cells).length))).bind fun p => Option.map (fun a => (a, p.snd)) (gIx (.list (List.map PyData.int cells)) p.fst) else some (.int 4, T)) = some (PyData.int c, T) := by
      by_cases he : cells = []
      · subst he
        exact ⟨4, fun _ => rfl⟩
      · obtain ⟨c, _, ec⟩ := v_atMod he a
        have hp : (0 : Int) < (List.map PyData.int cells).length := by
          cases cells with
          | nil => exact absurd rfl he
          | cons _ _ => simp
        refine ⟨c, fun T => ?_⟩
        have hne : (!cells.isEmpty) = true := by
          cases cells with
          | nil => exact absurd rfl he
          | cons _ _ => rfl
        rw [if_pos hne, v_mod (okMod_of hp)]
        show Option.map _ (L2.atI _ _) = _
        rw [ec]
        rfl
    obtain ⟨c, ec⟩ := sel
    rw [ec]
    walk_at "evt"
    rw [v_pow (show okPow 10 18 = true from rfl)]
    walk_at "evt"
    rw [ite_pair]
    walk_at "evt"
    have T1 : a.natAbs ≤ 100000000 := by omega
    have m0 : okMul 53 a = true := okMulB (by decide) (Nat.le_trans T1 (by decide))
    have T2 := mulAbs (c := 5300000000) (i := 53) (a := 53) (by decide) T1 (by decide)
    have m1 : okMul (53 * a) a = true := okMulB (Nat.le_trans T2 (by decide)) (Nat.le_trans T1 (by decide))
    have T3 := mulAbs (c := 530000000000000000) T2 T1 (by decide)
    have m2 : okMul 17 a = true := okMulB (by decide) (Nat.le_trans T1 (by decide))
    have c0 := Int.emod_nonneg c (show (1000003 : Int) ≠ 0 by decide)
    have c1 := Int.emod_lt_of_pos c (show (0 : Int) < 1000003 by decide)
    have T5 : (c % 1000003 + 53 * a * a + 17 * a + 11).natAbs ≤ 1000000000000000000 := by omega
    have m3 : okMul (c % 1000003 + 53 * a * a + 17 * a + 11) 48271 = true := okMulB (Nat.le_trans T5 (by decide)) (by decide)
    generalize (decide ((1000000000000000000 : Int) ≤ c) && decide (a < ((List.map PyData.int cells).length : Int))) = k
    cases k with
    | true =>
      walk_at "evt"
      simp only [v_mod (hm _), v_div (hd _)]
      walk_at "evt"
      simp only [v_mod (hm _)]
      walk_at "evt"
      exact ⟨_, _, rfl, ⟨rfl, by show 0 ≤ a + 1; omega, by show a + 1 ≤ B + 1; omega, t0, by show turn ≤ B + 1; omega⟩, _, rfl, fin _⟩
    | false =>
      walk_at "evt"
      rw [v_mod (okMod_of (show (0 : Int) < 1000003 by decide))]
      walk_at "evt"
      rw [v_mul m0]
      walk_at "evt"
      rw [v_mul m1]
      walk_at "evt"
      rw [v_mul m2]
      walk_at "evt"
      rw [v_mul m3]
      walk_at "evt"
      rw [v_mod (okMod_of (show (0 : Int) < 2147483647 by decide))]
      walk_at "evt"
      generalize hx : (c % 1000003 + 53 * a * a + 17 * a + 11) * 48271 % 2147483647 = x
      have x0 : 0 ≤ x := hx ▸ Int.emod_nonneg _ (by decide)
      have x1 : x < 2147483647 := hx ▸ Int.emod_lt_of_pos _ (by decide)
      have T6 : x.natAbs ≤ 2147483647 := by omega
      have m4 : okMul x x = true := okMulB (Nat.le_trans T6 (by decide)) (Nat.le_trans T6 (by decide))
      have m5 : okMul 6571 a = true := okMulB (by decide) (Nat.le_trans T1 (by decide))
      rw [v_mul m4]
      walk_at "evt"
      rw [v_mul m5]
      walk_at "evt"
      rw [v_mod (okMod_of (show (0 : Int) < 2147483629 by decide))]
      walk_at "evt"
      generalize hy : (x * x + 6571 * a + 7) % 2147483629 = y
      have y0 : 0 ≤ y := hy ▸ Int.emod_nonneg _ (by decide)
      have y1 : y < 2147483629 := hy ▸ Int.emod_lt_of_pos _ (by decide)
      have T7 : y.natAbs ≤ 2147483647 := by omega
      have m6 : okMul y y = true := okMulB (Nat.le_trans T7 (by decide)) (Nat.le_trans T7 (by decide))
      have m7 : okMul 40009 y = true := okMulB (by decide) (Nat.le_trans T7 (by decide))
      rw [v_mul m6]
      walk_at "evt"
      rw [v_mul m7]
      walk_at "evt"
      rw [v_mod (okMod_of (show (0 : Int) < 2147483587 by decide))]
      walk_at "evt"
      rw [v_div (okDiv64 (show (0 : Int) < 64 by decide) (by decide))]
      walk_at "evt"
      rw [v_mod (hm _)]
      walk_at "evt"
      exact ⟨_, _, rfl, ⟨rfl, by show 0 ≤ a + 1; omega, by show a + 1 ≤ B + 1; omega, t0, by show turn ≤ B + 1; omega⟩, _, rfl, fin _⟩
theorem draw1 {α : Type} {n : Int} {f : PyData → M α} {e : Nat} {Q : α → Prop} (h0 : 0 < n) (h1 : n < 1000000000000000000) (k : ∀ r : Int, 0 ≤ r → r < n → Gv 1 (f (.int r)) (e - 1) Q) (he : 1 ≤ e := by decide) : Gv 1 (m_law_draw [.tp, .fz (.int n)] >>= f) e Q :=
  Gv.step (draw_gv h0 h1) (fun a ⟨r, ea, r0, r1⟩ => ea ▸ k r r0 r1) he
theorem sm {x : Int} (h : x.natAbs ≤ 1000000000000000000000000000000) : x.natAbs ≤ 10 ^ 60 := Nat.le_trans h (by decide)
/-! ### the algebra -/
abbrev T (ax ay bx by_ cx cy : Int) : Int := (bx - ax) * (cy - ay) - (by_ - ay) * (cx - ax)
abbrev Dt (a0 a1 a2 b0 b1 b2 c0 c1 c2 : Int) : Int := a0 * (b1 * c2 - b2 * c1) - a1 * (b0 * c2 - b2 * c0) + a2 * (b0 * c1 - b1 * c0)
abbrev Dp (ax ay bx by_ cx cy px py : Int) : Int := Dt (ax - px) (ay - py) ((ax - px) * (ax - px) + (ay - py) * (ay - py)) (bx - px) (by_ - py) ((bx - px) * (bx - px) + (by_ - py) * (by_ - py)) (cx - px) (cy - py) ((cx - px) * (cx - px) + (cy - py) * (cy - py))
/-- what circle tells -/
def Ci (ax ay bx by_ cx cy px py : Int) : Int := T ax ay bx by_ cx cy * Dp ax ay bx by_ cx cy px py
theorem ci_12 (ax ay bx by_ cx cy px py : Int) : Ci bx by_ ax ay cx cy px py = Ci ax ay bx by_ cx cy px py := by
  have h1 : T bx by_ ax ay cx cy = - T ax ay bx by_ cx cy := by unfold T; grind
  have h2 : Dp bx by_ ax ay cx cy px py = - Dp ax ay bx by_ cx cy px py := by unfold Dp Dt; grind
  unfold Ci
  rw [h1, h2, Int.neg_mul_neg]
theorem ci_23 (ax ay bx by_ cx cy px py : Int) : Ci ax ay cx cy bx by_ px py = Ci ax ay bx by_ cx cy px py := by
  have h1 : T ax ay cx cy bx by_ = - T ax ay bx by_ cx cy := by unfold T; grind
  have h2 : Dp ax ay cx cy bx by_ px py = - Dp ax ay bx by_ cx cy px py := by unfold Dp Dt; grind
  unfold Ci
  rw [h1, h2, Int.neg_mul_neg]
theorem ci_mir (ax ay bx by_ cx cy px py : Int) : Ci (0 - ax) ay (0 - bx) by_ (0 - cx) cy (0 - px) py = Ci ax ay bx by_ cx cy px py := by
  have h1 : T (0 - ax) ay (0 - bx) by_ (0 - cx) cy = - T ax ay bx by_ cx cy := by unfold T; grind
  have h2 : Dp (0 - ax) ay (0 - bx) by_ (0 - cx) cy (0 - px) py = - Dp ax ay bx by_ cx cy px py := by unfold Dp Dt; grind
  unfold Ci
  rw [h1, h2, Int.neg_mul_neg]
theorem ci_exc (ax ay bx by_ cx cy px py : Int) : Ci ay ax by_ bx cy cx py px = Ci ax ay bx by_ cx cy px py := by
  have h1 : T ay ax by_ bx cy cx = - T ax ay bx by_ cx cy := by unfold T; grind
  have h2 : Dp ay ax by_ bx cy cx py px = - Dp ax ay bx by_ cx cy px py := by unfold Dp Dt; grind
  unfold Ci
  rw [h1, h2, Int.neg_mul_neg]
theorem ci_a (ax ay bx by_ cx cy : Int) : Ci ax ay bx by_ cx cy ax ay = 0 := by
  have h2 : Dp ax ay bx by_ cx cy ax ay = 0 := by unfold Dp Dt; grind
  unfold Ci
  rw [h2, Int.mul_zero]
theorem ci_b (ax ay bx by_ cx cy : Int) : Ci ax ay bx by_ cx cy bx by_ = 0 := by rw [← ci_12, ci_a]
theorem ci_c (ax ay bx by_ cx cy : Int) : Ci ax ay bx by_ cx cy cx cy = 0 := by rw [← ci_23, ci_b]
/-- the gap of the law -/
abbrev Gp (x y u v p q : Int) : Int :=
  (v * (x * x + y * y) - y * (u * u + v * v)) * (v * (x * x + y * y) - y * (u * u + v * v)) + (x * (u * u + v * v) - u * (x * x + y * y)) * (x * (u * u + v * v) - u * (x * x + y * y)) - (p * (2 * (x * v - y * u)) - (v * (x * x + y * y) - y * (u * u + v * v))) * (p * (2 * (x * v - y * u)) - (v * (x * x + y * y) - y * (u * u + v * v))) - (q * (2 * (x * v - y * u)) - (x * (u * u + v * v) - u * (x * x + y * y))) * (q * (2 * (x * v - y * u)) - (x * (u * u + v * v) - u * (x * x + y * y)))
theorem gp_eq (x y u v p q : Int) : Gp x y u v p q = 4 * ((x * v - y * u) * (p * (v * (x * x + y * y) - y * (u * u + v * v)) + q * (x * (u * u + v * v) - u * (x * x + y * y)) - (x * v - y * u) * (p * p + q * q))) := by
  unfold Gp
  generalize v * (x * x + y * y) - y * (u * u + v * v) = R
  generalize x * (u * u + v * v) - u * (x * x + y * y) = S
  generalize x * v - y * u = w
  grind
theorem dp_eq (ax ay bx by_ cx cy px py : Int) : Dp ax ay bx by_ cx cy px py = (px - ax) * ((cy - ay) * ((bx - ax) * (bx - ax) + (by_ - ay) * (by_ - ay)) - (by_ - ay) * ((cx - ax) * (cx - ax) + (cy - ay) * (cy - ay))) + (py - ay) * ((bx - ax) * ((cx - ax) * (cx - ax) + (cy - ay) * (cy - ay)) - (cx - ax) * ((bx - ax) * (bx - ax) + (by_ - ay) * (by_ - ay))) - ((bx - ax) * (cy - ay) - (by_ - ay) * (cx - ax)) * ((px - ax) * (px - ax) + (py - ay) * (py - ay)) := by
  obtain ⟨x, rfl⟩ : ∃ x, bx = x + ax := ⟨bx - ax, by omega⟩
  obtain ⟨y, rfl⟩ : ∃ y, by_ = y + ay := ⟨by_ - ay, by omega⟩
  obtain ⟨u, rfl⟩ : ∃ u, cx = u + ax := ⟨cx - ax, by omega⟩
  obtain ⟨v, rfl⟩ : ∃ v, cy = v + ay := ⟨cy - ay, by omega⟩
  obtain ⟨p, rfl⟩ : ∃ p, px = p + ax := ⟨px - ax, by omega⟩
  obtain ⟨q, rfl⟩ : ∃ q, py = q + ay := ⟨py - ay, by omega⟩
  simp only [Int.add_sub_cancel]
  unfold Dp Dt
  have e1 : ax - (p + ax) = -p := by omega
  have e2 : ay - (q + ay) = -q := by omega
  have e3 : x + ax - (p + ax) = x - p := by omega
  have e4 : y + ay - (q + ay) = y - q := by omega
  have e5 : u + ax - (p + ax) = u - p := by omega
  have e6 : v + ay - (q + ay) = v - q := by omega
  rw [e1, e2, e3, e4, e5, e6]
  grind
theorem sg4 (z : Int) : sg (4 * z) = sg z := by
  rcases sg_cases z with ⟨h, e⟩ | ⟨h, e⟩ | ⟨h, e⟩ <;> rw [e]
  · exact sg_pos (by omega)
  · exact sg_neg (by omega)
  · subst h; rfl
theorem gp_ci (ax ay bx by_ cx cy px py : Int) : sg (Gp (bx - ax) (by_ - ay) (cx - ax) (cy - ay) (px - ax) (py - ay)) = sg (Ci ax ay bx by_ cx cy px py) := by
  rw [gp_eq, sg4]
  unfold Ci
  rw [dp_eq]
/-! ### the functions -/
section
variable {ax ay bx by_ cx cy px py : Int} (a1 : ax.natAbs ≤ 10000) (a2 : ay.natAbs ≤ 10000) (b1 : bx.natAbs ≤ 10000) (b2 : by_.natAbs ≤ 10000) (c1 : cx.natAbs ≤ 10000) (c2 : cy.natAbs ≤ 10000)
include a1 a2 b1 b2
theorem seen_eq : m_seen_from [.fz (pt ax ay), .fz (pt bx by_)] = pure (.tuple [.int (bx - ax), .int (by_ - ay), .int ((bx - ax) * (bx - ax) + (by_ - ay) * (by_ - ay))]) := by
  have m1 : okMul (bx - ax) (bx - ax) = true := okMulB (sm (by omega)) (sm (by omega))
  have m2 : okMul (by_ - ay) (by_ - ay) = true := okMulB (sm (by omega)) (sm (by omega))
  unfold m_seen_from
  walk_at "ev"
  rw [v_mul m1]
  walk_at "ev"
  rw [v_mul m2]
  walk_at "ev"
include c1 c2
theorem turn_eq : m_turning [.fz (pt ax ay), .fz (pt bx by_), .fz (pt cx cy)] = pure (.int (T ax ay bx by_ cx cy)) := by
  have m1 : okMul (bx - ax) (cy - ay) = true := okMulB (sm (by omega)) (sm (by omega))
  have m2 : okMul (by_ - ay) (cx - ax) = true := okMulB (sm (by omega)) (sm (by omega))
  unfold m_turning
  walk_at "ev"
  rw [v_mul m1]
  walk_at "ev"
  rw [v_mul m2]
  walk_at "ev"
theorem lturn_eq : m_law_turning [.fz (pt ax ay), .fz (pt bx by_), .fz (pt cx cy)] = pure (.int (T ax ay bx by_ cx cy)) := by
  have m1 : okMul (bx - ax) (cy - ay) = true := okMulB (sm (by omega)) (sm (by omega))
  have m2 : okMul (by_ - ay) (cx - ax) = true := okMulB (sm (by omega)) (sm (by omega))
  unfold m_law_turning
  walk_at "ev"
  rw [v_mul m1]
  walk_at "ev"
  rw [v_mul m2]
  walk_at "ev"
theorem side_eq : m_side [.fz (pt ax ay), .fz (pt bx by_), .fz (pt cx cy)] = pure (.int (sg (T ax ay bx by_ cx cy))) := by
  unfold m_side
  walk_at "ev"
  rw [turn_eq a1 a2 b1 b2 c1 c2]
  walk_at "ev"
  rfl
variable (p1 : px.natAbs ≤ 10000) (p2 : py.natAbs ≤ 10000)
include p1 p2
theorem circle_eq : m_circle [.fz (.tuple [pt ax ay, pt bx by_, pt cx cy]), .fz (pt px py)] = pure (.int (sg (Ci ax ay bx by_ cx cy px py))) := by
  unfold m_circle
  walk_at "ev"
  rw [seen_eq p1 p2 a1 a2]
  walk_at "ev"
  rw [seen_eq p1 p2 b1 b2]
  walk_at "ev"
  rw [seen_eq p1 p2 c1 c2]
  walk_at "ev"
  have A0 : (ax - px).natAbs ≤ 20000 := by omega
  have A1 : (ay - py).natAbs ≤ 20000 := by omega
  have B0 : (bx - px).natAbs ≤ 20000 := by omega
  have B1 : (by_ - py).natAbs ≤ 20000 := by omega
  have C0 : (cx - px).natAbs ≤ 20000 := by omega
  have C1 : (cy - py).natAbs ≤ 20000 := by omega
  have q : ∀ {x y : Int}, x.natAbs ≤ 20000 → y.natAbs ≤ 20000 → (x * x + y * y).natAbs ≤ 800000000 := fun {x y} hx hy => by
    have h1 := mulAbs (c := 400000000) hx hx (by decide)
    have h2 := mulAbs (c := 400000000) hy hy (by decide)
    omega
  have A2 := q A0 A1
  have B2 := q B0 B1
  have C2 := q C0 C1
  show _ = pure (PyData.int (sg (T ax ay bx by_ cx cy * Dt (ax - px) (ay - py) _ (bx - px) (by_ - py) _ (cx - px) (cy - py) _)))
  generalize (ax - px) * (ax - px) + (ay - py) * (ay - py) = a_2 at *
  generalize (bx - px) * (bx - px) + (by_ - py) * (by_ - py) = b_2 at *
  generalize (cx - px) * (cx - px) + (cy - py) * (cy - py) = c_2 at *
  generalize ax - px = a_0 at *
  generalize ay - py = a_1 at *
  generalize bx - px = b_0 at *
  generalize by_ - py = b_1 at *
  generalize cx - px = c_0 at *
  generalize cy - py = c_1 at *
  have s1 : ∀ {x : Int}, x.natAbs ≤ 20000 → x.natAbs ≤ 10 ^ 60 := fun h => Nat.le_trans h (by decide)
  have s2 : ∀ {x : Int}, x.natAbs ≤ 800000000 → x.natAbs ≤ 10 ^ 60 := fun h => Nat.le_trans h (by decide)
  have s3 : ∀ {x y : Int}, x.natAbs ≤ 16000000000000 → y.natAbs ≤ 16000000000000 → (x - y).natAbs ≤ 10 ^ 60 := fun {x y} h h' => Nat.le_trans (show (x - y).natAbs ≤ 32000000000000 by omega) (by decide)
  have P : ∀ {x y : Int}, x.natAbs ≤ 20000 → y.natAbs ≤ 800000000 → (x * y).natAbs ≤ 16000000000000 := fun h h' => mulAbs h h' (by decide)
  have P' : ∀ {x y : Int}, x.natAbs ≤ 20000 → y.natAbs ≤ 800000000 → (y * x).natAbs ≤ 16000000000000 := fun h h' => mulAbs h' h (by decide)
  have P0 : ∀ {x y : Int}, x.natAbs ≤ 20000 → y.natAbs ≤ 20000 → (x * y).natAbs ≤ 16000000000000 := fun h h' => mulAbs h h' (by decide)
  have b1c2 := okMulB (s1 B1) (s2 C2)
  have b2c1 := okMulB (s2 B2) (s1 C1)
  have b0c2 := okMulB (s1 B0) (s2 C2)
  have b2c0 := okMulB (s2 B2) (s1 C0)
  have b0c1 := okMulB (s1 B0) (s1 C1)
  have b1c0 := okMulB (s1 B1) (s1 C0)
  have e1 := okMulB (s1 A0) (s3 (P B1 C2) (P' C1 B2))
  have e2 := okMulB (s1 A1) (s3 (P B0 C2) (P' C0 B2))
  have e3 := okMulB (s2 A2) (s3 (P0 B0 C1) (P0 B1 C0))
  rw [v_mul b1c2]
  walk_at "ev"
  rw [v_mul b2c1]
  walk_at "ev"
  rw [v_mul e1]
  walk_at "ev"
  rw [v_mul b0c2]
  walk_at "ev"
  rw [v_mul b2c0]
  walk_at "ev"
  rw [v_mul e2]
  walk_at "ev"
  rw [v_mul b0c1]
  walk_at "ev"
  rw [v_mul b1c0]
  walk_at "ev"
  rw [v_mul e3]
  walk_at "ev"
  rw [side_eq a1 a2 b1 b2 c1 c2]
  walk_at "ev"
  show (M.lift (gMulI (.int (sg _)) (.int (sg _))) >>= fun a => pure a) = _
  rw [v_mul (okMulB (Nat.le_trans (sg_abs _) (by decide)) (Nat.le_trans (sg_abs _) (by decide))), sg_mul]
  walk_at "ev"
theorem meant_eq : m_law_meant [.fz (.tuple [pt ax ay, pt bx by_, pt cx cy]), .fz (pt px py)] = pure (.int (sg (Ci ax ay bx by_ cx cy px py))) := by
  unfold m_law_meant
  walk_at "ev"
  rw [← gp_ci]
  have X0 : (bx - ax).natAbs ≤ 20000 := by omega
  have Y0 : (by_ - ay).natAbs ≤ 20000 := by omega
  have U0 : (cx - ax).natAbs ≤ 20000 := by omega
  have V0 : (cy - ay).natAbs ≤ 20000 := by omega
  have P0 : (px - ax).natAbs ≤ 20000 := by omega
  have Q0 : (py - ay).natAbs ≤ 20000 := by omega
  generalize bx - ax = x at *
  generalize by_ - ay = y at *
  generalize cx - ax = u at *
  generalize cy - ay = v at *
  generalize px - ax = p at *
  generalize py - ay = q at *
  have s1 : ∀ {x : Int}, x.natAbs ≤ 20000 → x.natAbs ≤ 10 ^ 60 := fun h => Nat.le_trans h (by decide)
  have mm : ∀ {x y : Int}, x.natAbs ≤ 20000 → y.natAbs ≤ 20000 → (x * y).natAbs ≤ 400000000 := fun h h' => mulAbs h h' (by decide)
  have W0 : (x * v - y * u).natAbs ≤ 800000000 := by
    have h1 := mm X0 V0
    have h2 := mm Y0 U0
    omega
  have N1 : (x * x + y * y).natAbs ≤ 800000000 := by
    have h1 := mm X0 X0
    have h2 := mm Y0 Y0
    omega
  have N2 : (u * u + v * v).natAbs ≤ 800000000 := by
    have h1 := mm U0 U0
    have h2 := mm V0 V0
    omega
  rw [v_mul (okMulB (s1 X0) (s1 V0))]
  walk_at "ev"
  rw [v_mul (okMulB (s1 Y0) (s1 U0))]
  walk_at "ev"
  rw [v_mul (okMulB (i := 2) (by decide) (Nat.le_trans W0 (by decide)))]
  walk_at "ev"
  rw [v_mul (okMulB (s1 X0) (s1 X0))]
  walk_at "ev"
  rw [v_mul (okMulB (s1 Y0) (s1 Y0))]
  walk_at "ev"
  rw [v_mul (okMulB (s1 V0) (Nat.le_trans N1 (by decide)))]
  walk_at "ev"
  rw [v_mul (okMulB (s1 U0) (s1 U0))]
  walk_at "ev"
  rw [v_mul (okMulB (s1 V0) (s1 V0))]
  walk_at "ev"
  rw [v_mul (okMulB (s1 Y0) (Nat.le_trans N2 (by decide)))]
  walk_at "ev"
  rw [v_mul (okMulB (s1 X0) (Nat.le_trans N2 (by decide)))]
  walk_at "ev"
  rw [v_mul (okMulB (s1 U0) (Nat.le_trans N1 (by decide)))]
  walk_at "ev"
  have R0 : (v * (x * x + y * y) - y * (u * u + v * v)).natAbs ≤ 32000000000000 := by
    have h1 := mulAbs (c := 16000000000000) V0 N1 (by decide)
    have h2 := mulAbs (c := 16000000000000) Y0 N2 (by decide)
    omega
  have S0 : (x * (u * u + v * v) - u * (x * x + y * y)).natAbs ≤ 32000000000000 := by
    have h1 := mulAbs (c := 16000000000000) X0 N2 (by decide)
    have h2 := mulAbs (c := 16000000000000) U0 N1 (by decide)
    omega
  unfold Gp
  generalize v * (x * x + y * y) - y * (u * u + v * v) = R at *
  generalize x * (u * u + v * v) - u * (x * x + y * y) = S at *
  generalize x * v - y * u = w at *
  have W1 : (2 * w).natAbs ≤ 1600000000 := by omega
  rw [v_mul (okMulB (s1 P0) (Nat.le_trans W1 (by decide)))]
  walk_at "ev"
  rw [v_mul (okMulB (s1 Q0) (Nat.le_trans W1 (by decide)))]
  walk_at "ev"
  have Wd : (p * (2 * w) - R).natAbs ≤ 64000000000000 := by
    have h1 := mulAbs (c := 32000000000000) P0 W1 (by decide)
    omega
  have Up : (q * (2 * w) - S).natAbs ≤ 64000000000000 := by
    have h1 := mulAbs (c := 32000000000000) Q0 W1 (by decide)
    omega
  have s2 : ∀ {x : Int}, x.natAbs ≤ 64000000000000 → x.natAbs ≤ 10 ^ 60 := fun h => Nat.le_trans h (by decide)
  have R1 := s2 (Nat.le_trans R0 (by decide))
  have S1 := s2 (Nat.le_trans S0 (by decide))
  rw [v_mul (okMulB R1 R1)]
  walk_at "ev"
  rw [v_mul (okMulB S1 S1)]
  walk_at "ev"
  rw [v_mul (okMulB (s2 Wd) (s2 Wd))]
  walk_at "ev"
  rw [v_mul (okMulB (s2 Up) (s2 Up))]
  walk_at "ev"
  rfl
theorem right_eq {z : Int} (hz : z = sg (Ci ax ay bx by_ cx cy px py)) : m_law_right [.fz (.tuple [pt ax ay, pt bx by_, pt cx cy]), .fz (pt px py), .fz (.int z)] = pure (.bool true) := by
  unfold m_law_right
  walk_at "ev"
  rw [circle_eq a1 a2 b1 b2 c1 c2 p1 p2]
  walk_at "ev"
  rw [hz]
  simp
end
end LK55

set_option maxHeartbeats 1000000
namespace LK55
open DL PySem
local macro_rules | `(tactic| walk_at "ev") => `(tactic| (try simp only [x_pb, x_fb, x_ba, x_ls, x_ln, x_eVar, x_bVar, x_rdF, x_rdB, x_eC, x_e2, x_e1, x_eList, x_eTup, x_nLst, x_lNil, x_lCons, x_aNil, x_aCons, x_aTape, x_isTp, x_eCal, x_nCal, x_eCall, x_eCut, x_pNone, x_pSome, x_tOf, x_bAnd, x_bOr, x_bNot, x_eIf, x_eAnd, x_eOr, x_eNot, x_eChain, x_lSeq, x_nComp, x_sNext, x_sSeq, x_atN, x_atR, x_atB, x_atC, x_sDrop, x_sRet, x_sIf, x_sAsg, x_mName, x_mSeq, x_mgNil, x_mgCons, x_sOwn, x_sFrz, x_frz, x_sApp, x_owOf, x_sSetI, x_sPar, x_sPar3, x_sFor, x_forN, x_forC, x_loN, x_loC, x_loB, x_loR, x_cN, x_cC, x_bYes, x_oR, x_oN, x_mf0, x_mf1, x_mf2, x_mf3, x_mf4, x_mf5, x_tput, x_nRev, v_isII, v_isBI, v_in3, List.getElem?_cons_zero, List.getElem?_cons_succ, List.set_cons_zero, List.set_cons_succ, List.replicate_succ, List.replicate_zero, List.cons_append, List.nil_append, List.length_cons, List.length_nil, v_sub, v_add, v_neg, v_lt, v_le, v_gt, v_ge, v_abs, v_max, v_min, v_intI, v_intB, v_lenL, v_lenT, v_tupL, v_tupT, v_listL, v_listT, v_ixL, v_ixT, v_at0, v_at1, v_at2, v_bool, v_seqL, v_seqT, v_intOf, v_ok0, v_ok1, v_ok2, v_ok3, v_ok4, v_okn, v_ok5, v_ok6, v_ok7, v_ok8, v_ok9, v_ok10, v_ok11, v_ok12, v_ok13, v_ok14, v_ok15, v_ok16, v_ok17, v_ok18, v_ok19, v_ok20, v_ok21, v_ok22, v_ok23, v_ok24, v_ok25, v_ok26, v_ok27, v_ok28, v_ok29, v_ok30, v_ok31, v_ok32, gEq_int, gNe_int, v_rng1, v_rng2, okRg, Int.reducePow, Nat.sub_self, Nat.reduceSub, Nat.reduceAdd, unAll, if_true, if_false, Option.bind_some, Option.bind_none, ite_true, ite_false, Bool.false_eq_true, rgD, Int.reduceBEq, Int.reduceToNat, Int.reduceLT, Int.reduceLE, Int.reduceMul, Int.reduceAdd, Int.reduceSub, Int.reduceNeg, Nat.reduceMul, Nat.reduceLT, Nat.reduceBEq, decide_true, decide_false, Bool.and_true, Bool.true_and, Bool.and_self, Bool.not_true, Bool.not_false, BEq.rfl, reduceIte]))
local macro_rules | `(tactic| walk_at "evt") => `(tactic| (try simp only [x_pb, x_fb, x_ba, x_ls, x_ln, x_eVar, x_bVar, x_rdF, x_rdB, x_eC, x_e2, x_e1, x_eList, x_eTup, x_nLst, x_lNil, x_lCons, x_aNil, x_aCons, x_aTape, x_isTp, x_eCal, x_nCal, x_eCall, x_eCut, x_pNone, x_pSome, x_tOf, x_bAnd, x_bOr, x_bNot, x_eIf, x_eAnd, x_eOr, x_eNot, x_eChain, x_lSeq, x_nComp, x_sNext, x_sSeq, x_atN, x_atR, x_atB, x_atC, x_sDrop, x_sRet, x_sIf, x_sAsg, x_mName, x_mSeq, x_mgNil, x_mgCons, x_sOwn, x_sFrz, x_frz, x_sApp, x_owOf, x_sSetI, x_sPar, x_sPar3, x_sFor, x_forN, x_forC, x_loN, x_loC, x_loB, x_loR, x_cN, x_cC, x_bYes, x_oR, x_oN, x_mf0, x_mf1, x_mf2, x_mf3, x_mf4, x_mf5, x_tput, x_nRev, v_isII, v_isBI, v_in3, List.getElem?_cons_zero, List.getElem?_cons_succ, List.set_cons_zero, List.set_cons_succ, List.replicate_succ, List.replicate_zero, List.cons_append, List.nil_append, List.length_cons, List.length_nil, v_sub, v_add, v_neg, v_lt, v_le, v_gt, v_ge, v_abs, v_max, v_min, v_intI, v_intB, v_lenL, v_lenT, v_tupL, v_tupT, v_listL, v_listT, v_ixL, v_ixT, v_at0, v_at1, v_at2, v_bool, v_seqL, v_seqT, v_intOf, v_ok0, v_ok1, v_ok2, v_ok3, v_ok4, v_okn, v_ok5, v_ok6, v_ok7, v_ok8, v_ok9, v_ok10, v_ok11, v_ok12, v_ok13, v_ok14, v_ok15, v_ok16, v_ok17, v_ok18, v_ok19, v_ok20, v_ok21, v_ok22, v_ok23, v_ok24, v_ok25, v_ok26, v_ok27, v_ok28, v_ok29, v_ok30, v_ok31, v_ok32, gEq_int, gNe_int, v_rng1, v_rng2, okRg, Int.reducePow, Nat.sub_self, Nat.reduceSub, Nat.reduceAdd, unAll, if_true, if_false, Option.bind_some, Option.bind_none, ite_true, ite_false, Bool.false_eq_true, rgD, Int.reduceBEq, Int.reduceToNat, Int.reduceLT, Int.reduceLE, Int.reduceMul, Int.reduceAdd, Int.reduceSub, Int.reduceNeg, Nat.reduceMul, Nat.reduceLT, Nat.reduceBEq, decide_true, decide_false, Bool.and_true, Bool.true_and, Bool.and_self, Bool.not_true, Bool.not_false, BEq.rfl, reduceIte, bnd_ap, pure_ap, lift_ap, fail_ap, ite_ap, x_tget, x_doPut, fldOf, tSet, Option.map_some, Option.map_none, beq_self_eq_true, Bool.and_true, Bool.true_and]))
def IsPt (d : PyData) : Prop := ∃ x y : Int, d = pt x y ∧ x.natAbs ≤ 5000 ∧ y.natAbs ≤ 5000
def IsFour (d : PyData) : Prop := ∃ p q r s : PyData, d = .list [p, q, r, s] ∧ IsPt p ∧ IsPt q ∧ IsPt r ∧ IsPt s
def Rim : PyData := .list [pt 3 4, pt 4 3, pt 5 0, pt 4 (-3), pt 3 (-4), pt 0 (-5), pt (-3) (-4), pt (-4) (-3), pt (-5) 0, pt (-4) 3, pt (-3) 4, pt 0 5]
theorem rim_ix (r : Int) (h0 : 0 ≤ r) (h1 : r < 12) : ∃ x y : Int, gIx Rim (.int r) = some (pt x y) ∧ x.natAbs ≤ 5 ∧ y.natAbs ≤ 5 := by
  rcases (show r = 0 ∨ r = 1 ∨ r = 2 ∨ r = 3 ∨ r = 4 ∨ r = 5 ∨ r = 6 ∨ r = 7 ∨ r = 8 ∨ r = 9 ∨ r = 10 ∨ r = 11 by omega) with rfl | rfl | rfl | rfl | rfl | rfl | rfl | rfl | rfl | rfl | rfl | rfl
  all_goals exact ⟨_, _, rfl, by decide, by decide⟩
theorem four_gv : Gv 1 (m_law_four [.tp]) 12 IsFour := by
  unfold m_law_four
  walk_at "ev"
  refine draw1 (by decide) (by decide) fun w w0 w1 => ?_
  rcases (show w = 3 ∨ w = 4 ∨ w = 0 ∨ w = 1 ∨ w = 2 ∨ w = 5 by omega) with rfl | rfl | rfl | rfl | rfl | rfl
  · walk_at "ev"
    refine draw1 (by decide) (by decide) fun k k0 k1 => ?_
    walk_at "ev"
    refine draw1 (by decide) (by decide) fun mx mx0 mx1 => ?_
    walk_at "ev"
    refine draw1 (by decide) (by decide) fun my my0 my1 => ?_
    walk_at "ev"
    refine draw1 (by decide) (by decide) fun r r0 r1 => ?_
    obtain ⟨x1, y1, e1, x1b, y1b⟩ := rim_ix r r0 r1
    unfold Rim at e1
    rw [e1]
    walk_at "ev"
    refine draw1 (by decide) (by decide) fun r r0 r1 => ?_
    obtain ⟨x2, y2, e2, x2b, y2b⟩ := rim_ix r r0 r1
    unfold Rim at e2
    rw [e2]
    walk_at "ev"
    refine draw1 (by decide) (by decide) fun r r0 r1 => ?_
    obtain ⟨x3, y3, e3, x3b, y3b⟩ := rim_ix r r0 r1
    unfold Rim at e3
    rw [e3]
    walk_at "ev"
    refine draw1 (by decide) (by decide) fun r r0 r1 => ?_
    obtain ⟨x4, y4, e4, x4b, y4b⟩ := rim_ix r r0 r1
    unfold Rim at e4
    rw [e4]
    walk_at "ev"
    have kb : (1 + k).natAbs ≤ 150 := by omega
    have M : ∀ {z : Int}, z.natAbs ≤ 5 → okMul (1 + k) z = true := fun h => okMulB (Nat.le_trans kb (by decide)) (Nat.le_trans h (by decide))
    have A : ∀ {z : Int}, z.natAbs ≤ 5 → ((1 + k) * z).natAbs ≤ 750 := fun h => mulAbs kb h (by decide)
    have q1 := A x1b
    have q2 := A y1b
    have q3 := A x2b
    have q4 := A y2b
    have q5 := A x3b
    have q6 := A y3b
    have q7 := A x4b
    have q8 := A y4b
    simp only [v_mul (M x1b), v_mul (M y1b), v_mul (M x2b), v_mul (M y2b), v_mul (M x3b), v_mul (M y3b), v_mul (M x4b), v_mul (M y4b)]
    walk_at "ev"
    exact Gv.ret ⟨_, _, _, _, rfl, ⟨_, _, rfl, by omega, by omega⟩, ⟨_, _, rfl, by omega, by omega⟩, ⟨_, _, rfl, by omega, by omega⟩, ⟨_, _, rfl, by omega, by omega⟩⟩
  · walk_at "ev"
    iterate 5
      refine draw1 (by decide) (by decide) fun x x0 x1 => ?_
      walk_at "ev"
    exact Gv.ret ⟨_, _, _, _, rfl, ⟨_, _, rfl, by omega, by omega⟩, ⟨_, _, rfl, by omega, by omega⟩, ⟨_, _, rfl, by omega, by omega⟩, ⟨_, _, rfl, by omega, by omega⟩⟩
  all_goals
    walk_at "ev"
    first
      | rw [show L2.atI [PyData.tuple [.int 4, .int 1, .int 0], .tuple [.int 41, .int 1, .int 0], .tuple [.int 2001, .int 1, .int 1000], .tuple [.int 0, .int 0, .int 0], .tuple [.int 0, .int 0, .int 0], .tuple [.int 3, .int 1000, .int 1000]] 5 = some (.tuple [.int 3, .int 1000, .int 1000]) from rfl]
      | skip
    walk_at "ev"
    iterate 8
      refine draw1 (by decide) (by decide) fun x x0 x1 => ?_
      rw [v_mul (okMulB (sm (by omega)) (by decide))]
      walk_at "ev"
    exact Gv.ret ⟨_, _, _, _, rfl, ⟨_, _, rfl, by omega, by omega⟩, ⟨_, _, rfl, by omega, by omega⟩, ⟨_, _, rfl, by omega, by omega⟩, ⟨_, _, rfl, by omega, by omega⟩⟩
theorem beside_gv {x y : Int} (hx : x.natAbs ≤ 5000) (hy : y.natAbs ≤ 5000) : Gv 1 (m_law_beside [.tp, .fz (pt x y)]) 1 fun d => ∃ u v : Int, d = pt u v ∧ u.natAbs ≤ 5001 ∧ v.natAbs ≤ 5001 := by
  unfold m_law_beside
  walk_at "ev"
  refine draw1 (by decide) (by decide) fun r r0 r1 => ?_
  walk_at "ev"
  have two : ∀ z : Int, z.natAbs ≤ 5000 → ∃ u : Int, u.natAbs ≤ 5001 ∧ (if decide (0 < z) = true then (pure (.int (z - 1)) : M PyData) else pure (.int (z + 1))) = pure (.int u) := fun z hz => by
    by_cases h : 0 < z
    · exact ⟨z - 1, by omega, by rw [decide_eq_true h]; rfl⟩
    · exact ⟨z + 1, by omega, by rw [decide_eq_false h]; rfl⟩
  rcases (show r = 0 ∨ r = 1 by omega) with rfl | rfl
  · walk_at "ev"
    obtain ⟨u, hu, e⟩ := two x hx
    rw [e]
    walk_at "ev"
    exact Gv.ret ⟨_, _, rfl, hu, by omega⟩
  · walk_at "ev"
    obtain ⟨u, hu, e⟩ := two y hy
    rw [e]
    walk_at "ev"
    exact Gv.ret ⟨_, _, rfl, by omega, hu⟩
/-- three corners, a point, what is meant -/
def Row (d : PyData) : Prop := ∃ ax ay bx by_ cx cy px py : Int, d = .tuple [.tuple [pt ax ay, pt bx by_, pt cx cy], pt px py, .int (sg (Ci ax ay bx by_ cx cy px py))] ∧ (ax.natAbs ≤ 10000 ∧ ay.natAbs ≤ 10000) ∧ (bx.natAbs ≤ 10000 ∧ by_.natAbs ≤ 10000) ∧ (cx.natAbs ≤ 10000 ∧ cy.natAbs ≤ 10000) ∧ (px.natAbs ≤ 10000 ∧ py.natAbs ≤ 10000)
/-- sorted of three -/
theorem sort3 (ax ay bx by_ cx cy px py : Int) (ha : ax.natAbs ≤ 10000 ∧ ay.natAbs ≤ 10000) (hb : bx.natAbs ≤ 10000 ∧ by_.natAbs ≤ 10000) (hc : cx.natAbs ≤ 10000 ∧ cy.natAbs ≤ 10000) :
    ∃ ux uy vx vy wx wy : Int, cSortP [.list [pt ax ay, pt bx by_, pt cx cy]] = some [pt ux uy, pt vx vy, pt wx wy] ∧ (∀ px py, Ci ux uy vx vy wx wy px py = Ci ax ay bx by_ cx cy px py) ∧ (ux.natAbs ≤ 10000 ∧ uy.natAbs ≤ 10000) ∧ (vx.natAbs ≤ 10000 ∧ vy.natAbs ≤ 10000) ∧ (wx.natAbs ≤ 10000 ∧ wy.natAbs ≤ 10000) := by
  have e : cSortP [.list [pt ax ay, pt bx by_, pt cx cy]] = some (sortP [pt ax ay, pt bx by_, pt cx cy]) := rfl
  rw [e]
  rcases perm3 (sortP_perm [pt ax ay, pt bx by_, pt cx cy]) with h | h | h | h | h | h <;> rw [h]
  · exact ⟨_, _, _, _, _, _, rfl, fun _ _ => rfl, ha, hb, hc⟩
  · exact ⟨_, _, _, _, _, _, rfl, fun _ _ => ci_23 .., ha, hc, hb⟩
  · exact ⟨_, _, _, _, _, _, rfl, fun _ _ => ci_12 .., hb, ha, hc⟩
  · exact ⟨_, _, _, _, _, _, rfl, fun _ _ => (ci_23 ..).trans (ci_12 ..), hb, hc, ha⟩
  · exact ⟨_, _, _, _, _, _, rfl, fun _ _ => (ci_12 ..).trans (ci_23 ..), hc, ha, hb⟩
  · exact ⟨_, _, _, _, _, _, rfl, fun _ _ => (ci_23 ..).trans ((ci_12 ..).trans (ci_23 ..)), hc, hb, ha⟩
end LK55

set_option maxHeartbeats 1000000
namespace LK55
open DL PySem
local macro_rules | `(tactic| walk_at "ev") => `(tactic| (try simp only [x_pb, x_fb, x_ba, x_ls, x_ln, x_eVar, x_bVar, x_rdF, x_rdB, x_eC, x_e2, x_e1, x_eList, x_eTup, x_nLst, x_lNil, x_lCons, x_aNil, x_aCons, x_aTape, x_isTp, x_eCal, x_nCal, x_eCall, x_eCut, x_pNone, x_pSome, x_tOf, x_bAnd, x_bOr, x_bNot, x_eIf, x_eAnd, x_eOr, x_eNot, x_eChain, x_lSeq, x_nComp, x_sNext, x_sSeq, x_atN, x_atR, x_atB, x_atC, x_sDrop, x_sRet, x_sIf, x_sAsg, x_mName, x_mSeq, x_mgNil, x_mgCons, x_sOwn, x_sFrz, x_frz, x_sApp, x_owOf, x_sSetI, x_sPar, x_sPar3, x_sFor, x_forN, x_forC, x_loN, x_loC, x_loB, x_loR, x_cN, x_cC, x_bYes, x_oR, x_oN, x_mf0, x_mf1, x_mf2, x_mf3, x_mf4, x_mf5, x_tput, x_nRev, v_isII, v_isBI, v_in3, List.getElem?_cons_zero, List.getElem?_cons_succ, List.set_cons_zero, List.set_cons_succ, List.replicate_succ, List.replicate_zero, List.cons_append, List.nil_append, List.length_cons, List.length_nil, v_sub, v_add, v_neg, v_lt, v_le, v_gt, v_ge, v_abs, v_max, v_min, v_intI, v_intB, v_lenL, v_lenT, v_tupL, v_tupT, v_listL, v_listT, v_ixL, v_ixT, v_at0, v_at1, v_at2, v_bool, v_seqL, v_seqT, v_intOf, v_ok0, v_ok1, v_ok2, v_ok3, v_ok4, v_okn, v_ok5, v_ok6, v_ok7, v_ok8, v_ok9, v_ok10, v_ok11, v_ok12, v_ok13, v_ok14, v_ok15, v_ok16, v_ok17, v_ok18, v_ok19, v_ok20, v_ok21, v_ok22, v_ok23, v_ok24, v_ok25, v_ok26, v_ok27, v_ok28, v_ok29, v_ok30, v_ok31, v_ok32, gEq_int, gNe_int, v_rng1, v_rng2, okRg, Int.reducePow, Nat.sub_self, Nat.reduceSub, Nat.reduceAdd, unAll, if_true, if_false, Option.bind_some, Option.bind_none, ite_true, ite_false, Bool.false_eq_true, rgD, Int.reduceBEq, Int.reduceToNat, Int.reduceLT, Int.reduceLE, Int.reduceMul, Int.reduceAdd, Int.reduceSub, Int.reduceNeg, Nat.reduceMul, Nat.reduceLT, Nat.reduceBEq, decide_true, decide_false, Bool.and_true, Bool.true_and, Bool.and_self, Bool.not_true, Bool.not_false, BEq.rfl, reduceIte]))
local macro_rules | `(tactic| walk_at "evt") => `(tactic| (try simp only [x_pb, x_fb, x_ba, x_ls, x_ln, x_eVar, x_bVar, x_rdF, x_rdB, x_eC, x_e2, x_e1, x_eList, x_eTup, x_nLst, x_lNil, x_lCons, x_aNil, x_aCons, x_aTape, x_isTp, x_eCal, x_nCal, x_eCall, x_eCut, x_pNone, x_pSome, x_tOf, x_bAnd, x_bOr, x_bNot, x_eIf, x_eAnd, x_eOr, x_eNot, x_eChain, x_lSeq, x_nComp, x_sNext, x_sSeq, x_atN, x_atR, x_atB, x_atC, x_sDrop, x_sRet, x_sIf, x_sAsg, x_mName, x_mSeq, x_mgNil, x_mgCons, x_sOwn, x_sFrz, x_frz, x_sApp, x_owOf, x_sSetI, x_sPar, x_sPar3, x_sFor, x_forN, x_forC, x_loN, x_loC, x_loB, x_loR, x_cN, x_cC, x_bYes, x_oR, x_oN, x_mf0, x_mf1, x_mf2, x_mf3, x_mf4, x_mf5, x_tput, x_nRev, v_isII, v_isBI, v_in3, List.getElem?_cons_zero, List.getElem?_cons_succ, List.set_cons_zero, List.set_cons_succ, List.replicate_succ, List.replicate_zero, List.cons_append, List.nil_append, List.length_cons, List.length_nil, v_sub, v_add, v_neg, v_lt, v_le, v_gt, v_ge, v_abs, v_max, v_min, v_intI, v_intB, v_lenL, v_lenT, v_tupL, v_tupT, v_listL, v_listT, v_ixL, v_ixT, v_at0, v_at1, v_at2, v_bool, v_seqL, v_seqT, v_intOf, v_ok0, v_ok1, v_ok2, v_ok3, v_ok4, v_okn, v_ok5, v_ok6, v_ok7, v_ok8, v_ok9, v_ok10, v_ok11, v_ok12, v_ok13, v_ok14, v_ok15, v_ok16, v_ok17, v_ok18, v_ok19, v_ok20, v_ok21, v_ok22, v_ok23, v_ok24, v_ok25, v_ok26, v_ok27, v_ok28, v_ok29, v_ok30, v_ok31, v_ok32, gEq_int, gNe_int, v_rng1, v_rng2, okRg, Int.reducePow, Nat.sub_self, Nat.reduceSub, Nat.reduceAdd, unAll, if_true, if_false, Option.bind_some, Option.bind_none, ite_true, ite_false, Bool.false_eq_true, rgD, Int.reduceBEq, Int.reduceToNat, Int.reduceLT, Int.reduceLE, Int.reduceMul, Int.reduceAdd, Int.reduceSub, Int.reduceNeg, Nat.reduceMul, Nat.reduceLT, Nat.reduceBEq, decide_true, decide_false, Bool.and_true, Bool.true_and, Bool.and_self, Bool.not_true, Bool.not_false, BEq.rfl, reduceIte, bnd_ap, pure_ap, lift_ap, fail_ap, ite_ap, x_tget, x_doPut, fldOf, tSet, Option.map_some, Option.map_none, beq_self_eq_true, Bool.and_true, Bool.true_and]))
def Inv (k : Nat) (ρ : List Sl) : Prop := ∃ (xs : List PyData) (s3 s4 s5 s6 s7 s8 s9 s10 s11 s12 s13 : Sl), ρ = [.un, .tp, .ow xs, s3, s4, s5, s6, s7, s8, s9, s10, s11, s12, s13] ∧ xs.length = 3 * k ∧ ∀ r ∈ xs, Row r
theorem cut3 (p q r s : PyData) : gCut (.list [p, q, r, s]) none (some 3) = some (.list [p, q, r]) := nr rfl
theorem last_at (xs : List PyData) (r : PyData) : L2.atI (xs ++ [r]) (-1) = some r := by
  unfold L2.atI L2.ixN
  rw [List.length_append, List.length_singleton, if_neg (by omega), if_pos (by omega), Option.bind_some, show (-1 + ((xs.length + 1 : Nat) : Int)).toNat = xs.length by omega]
  simp
theorem law_gv : Gv 1 (b_law (.un :: .tp :: List.replicate 12 .un)) 400 fun o => o = .rt (.bool true) := by
  unfold b_law
  rw [x_sSeq]
  rw [show sOwn 2 (nLst lNil) (.un :: .tp :: List.replicate 12 .un) = pure (.nx [.un, .tp, .ow [], .un, .un, .un, .un, .un, .un, .un, .un, .un, .un, .un]) from rfl, x_pb, x_atN, x_sSeq, x_sFor]
  have hi : ∀ ρ, nCal rng1 (lCons (eC (.int 8)) lNil) ρ = pure (rgD 0 8) := fun ρ => rfl
  rw [hi, x_pb]
  refine Gv.step (c := 160) (Gv.forI (c := 20) Inv (rgD 0 8) 0 _ (fun d _ j ρ hj hρ => ?_) ⟨[], .un, .un, .un, .un, .un, .un, .un, .un, .un, .un, .un, rfl, rfl, fun _ h => nomatch h⟩) fun o ho => ?_
  · obtain ⟨xs, s3, s4, s5, s6, s7, s8, s9, s10, s11, s12, s13, rfl, hl, hx⟩ := hρ
    walk_at "ev"
    refine Gv.step four_gv fun p hp => ?_
    obtain ⟨_, _, _, _, rfl, ⟨x1, y1, rfl, h1, h1'⟩, ⟨x2, y2, rfl, h2, h2'⟩, ⟨x3, y3, rfl, h3, h3'⟩, ⟨x4, y4, rfl, h4, h4'⟩⟩ := hp
    obtain ⟨ux, uy, vx, vy, wx, wy, es, _, hu, hv, hw⟩ := sort3 x1 y1 x2 y2 x3 y3 0 0 (by omega) (by omega) (by omega)
    walk_at "ev"
    rw [cut3]
    walk_at "ev"
    rw [es]
    walk_at "ev"
    rw [lturn_eq hu.1 hu.2 hv.1 hv.2 hw.1 hw.2]
    walk_at "ev"
    refine Gv.step (c := 2) (P := fun o => ∃ ax ay bx by_ cx cy : Int, o = .nx [Sl.un, Sl.tp, Sl.ow xs, Sl.fz d, Sl.fz (PyData.list [pt x1 y1, pt x2 y2, pt x3 y3, pt x4 y4]), Sl.fz (PyData.tuple [pt ax ay, pt bx by_, pt cx cy]), s6, s7, s8, s9, s10, s11, s12, s13] ∧ (ax.natAbs ≤ 10000 ∧ ay.natAbs ≤ 10000) ∧ (bx.natAbs ≤ 10000 ∧ by_.natAbs ≤ 10000) ∧ (cx.natAbs ≤ 10000 ∧ cy.natAbs ≤ 10000)) (Gv.ite (fun _ => ?_) (fun _ => ?_)) fun o ho => ?_
    · refine draw1 (by decide) (by decide) fun r r0 r1 => ?_
      walk_at "ev"
      refine draw1 (by decide) (by decide) fun q q0 q1 => ?_
      walk_at "ev"
      exact Gv.ret ⟨_, _, _, _, _, _, rfl, by omega, by omega, by omega⟩
    · exact Gv.ret ⟨_, _, _, _, _, _, rfl, hu, hv, hw⟩
    clear es hu hv hw
    obtain ⟨ax, ay, bx, by_, cx, cy, rfl, ha, hb, hc⟩ := ho
    walk_at "ev"
    refine draw1 (by decide) (by decide) fun w w0 w1 => ?_
    walk_at "ev"
    rw [show L2.atI [pt x1 y1, pt x2 y2, pt x3 y3, pt x4 y4] 3 = some (pt x4 y4) from rfl]
    walk_at "ev"
    refine Gv.step (c := 1) (P := fun o => ∃ px py : Int, o = .nx [Sl.un, Sl.tp, Sl.ow xs, Sl.fz d, Sl.fz (PyData.list [pt x1 y1, pt x2 y2, pt x3 y3, pt x4 y4]), Sl.fz (PyData.tuple [pt ax ay, pt bx by_, pt cx cy]), .fz (.int w), .fz (pt px py), s8, s9, s10, s11, s12, s13] ∧ px.natAbs ≤ 10000 ∧ py.natAbs ≤ 10000) (Gv.ite (fun _ => ?_) (fun _ => ?_)) fun o ho => ?_
    · refine Gv.step (beside_gv h4 h4') fun p hp => ?_
      obtain ⟨u, v, rfl, h5, h6⟩ := hp
      walk_at "ev"
      exact Gv.ret ⟨_, _, rfl, by omega, by omega⟩
    · exact Gv.ret ⟨_, _, rfl, by omega, by omega⟩
    obtain ⟨px, py, rfl, hp, hp'⟩ := ho
    walk_at "ev"
    refine Gv.step (c := 1) (P := fun o => ∃ px py : Int, o = .nx [Sl.un, Sl.tp, Sl.ow xs, Sl.fz d, Sl.fz (PyData.list [pt x1 y1, pt x2 y2, pt x3 y3, pt x4 y4]), Sl.fz (PyData.tuple [pt ax ay, pt bx by_, pt cx cy]), .fz (.int w), .fz (pt px py), s8, s9, s10, s11, s12, s13] ∧ px.natAbs ≤ 10000 ∧ py.natAbs ≤ 10000) (Gv.ite (fun _ => ?_) (fun _ => ?_)) fun o ho => ?_
    · refine draw1 (by decide) (by decide) fun r r0 r1 => ?_
      rcases (show r = 0 ∨ r = 1 ∨ r = 2 by omega) with rfl | rfl | rfl
      · walk_at "ev"
        exact Gv.ret ⟨_, _, rfl, ha⟩
      · walk_at "ev"
        exact Gv.ret ⟨_, _, rfl, hb⟩
      · walk_at "ev"
        exact Gv.ret ⟨_, _, rfl, hc⟩
    · exact Gv.ret ⟨_, _, rfl, hp, hp'⟩
    clear hp hp'
    obtain ⟨px, py, rfl, hp, hp'⟩ := ho
    walk_at "ev"
    refine Gv.step (c := 2) (P := fun o => ∃ px py : Int, o = .nx [Sl.un, Sl.tp, Sl.ow xs, Sl.fz d, Sl.fz (PyData.list [pt x1 y1, pt x2 y2, pt x3 y3, pt x4 y4]), Sl.fz (PyData.tuple [pt ax ay, pt bx by_, pt cx cy]), .fz (.int w), .fz (pt px py), s8, s9, s10, s11, s12, s13] ∧ px.natAbs ≤ 10000 ∧ py.natAbs ≤ 10000) (Gv.ite (fun _ => ?_) (fun _ => ?_)) fun o ho => ?_
    · refine draw1 (by decide) (by decide) fun r r0 r1 => ?_
      walk_at "ev"
      refine draw1 (by decide) (by decide) fun q q0 q1 => ?_
      walk_at "ev"
      exact Gv.ret ⟨_, _, rfl, by omega, by omega⟩
    · exact Gv.ret ⟨_, _, rfl, hp, hp'⟩
    clear hp hp'
    obtain ⟨px, py, rfl, hp, hp'⟩ := ho
    walk_at "ev"
    rw [meant_eq ha.1 ha.2 hb.1 hb.2 hc.1 hc.2 hp hp']
    walk_at "ev"
    have hj' : j < 8 := hj
    have k1 : okLen xs.length = true := decide_eq_true (by omega)
    have k2 : ∀ r, okLen (xs ++ [r]).length = true := fun r => decide_eq_true (by rw [List.length_append]; show xs.length + 1 ≤ _; omega)
    have k3 : ∀ r r', okLen (xs ++ [r] ++ [r']).length = true := fun r r' => decide_eq_true (by rw [List.length_append, List.length_append]; show xs.length + 1 + 1 ≤ _; omega)
    obtain ⟨dx, dy, ex, ey, fx, fy, es1, ci1, hd, he, hf⟩ := sort3 (0 - ax) ay (0 - bx) by_ (0 - cx) cy 0 0 (by omega) (by omega) (by omega)
    obtain ⟨gx, gy, hx_, hy_, ix, iy, es2, ci2, hg, hh, hii⟩ := sort3 ay ax by_ bx cy cx 0 0 (by omega) (by omega) (by omega)
    rw [k1]
    walk_at "ev"
    rw [es1]
    walk_at "ev"
    rw [es2]
    walk_at "ev"
    rw [last_at]
    walk_at "ev"
    rw [k2]
    walk_at "ev"
    rw [last_at]
    walk_at "ev"
    rw [k3]
    walk_at "ev"
    rw [right_eq ha.1 ha.2 hb.1 hb.2 hc.1 hc.2 ha.1 ha.2 (by rw [ci_a]; rfl)]
    walk_at "ev"
    rw [right_eq ha.1 ha.2 hb.1 hb.2 hc.1 hc.2 hb.1 hb.2 (by rw [ci_b]; rfl)]
    walk_at "ev"
    rw [right_eq ha.1 ha.2 hb.1 hb.2 hc.1 hc.2 hc.1 hc.2 (by rw [ci_c]; rfl)]
    walk_at "ev"
    refine Gv.ret ⟨_, rfl, _, _, _, _, _, _, _, _, _, _, _, _, rfl, ?_, fun r hr => ?_⟩
    · rw [List.length_append, List.length_append, List.length_append, hl]
      show 3 * j + 1 + 1 + 1 = _
      omega
    · simp only [List.mem_append, List.mem_cons, List.not_mem_nil, or_false] at hr
      rcases hr with ((hr | rfl) | rfl) | rfl
      · exact hx r hr
      · exact ⟨_, _, _, _, _, _, _, _, rfl, ha, hb, hc, hp, hp'⟩
      · exact ⟨dx, dy, ex, ey, fx, fy, 0 - px, py, by rw [ci1, ci_mir], hd, he, hf, by rw [Int.zero_sub, Int.natAbs_neg]; exact hp, hp'⟩
      · exact ⟨gx, gy, hx_, hy_, ix, iy, py, px, by rw [ci2, ci_exc], hg, hh, hii, hp', hp⟩
  · obtain ⟨ρ', rfl, xs, s3, s4, s5, s6, s7, s8, s9, s10, s11, s12, s13, rfl, hl, hx⟩ := ho
    have hl' : xs.length = 24 := hl
    rw [x_atN, x_sSeq, x_sFor]
    walk_at "ev"
    rw [v_addL (by rw [List.length_reverse, hl']; rfl)]
    walk_at "ev"
    refine Gv.step (c := 0) (Gv.mono (Gv.for (c := 0) (fun ρ => ∃ (s3 s4 s5 s6 s7 s8 s9 s10 s11 s12 s13 : Sl), ρ = [.un, .tp, .ow xs, s3, s4, s5, s6, s7, s8, s9, s10, s11, s12, s13]) (xs ++ xs.reverse) _ (fun d hd ρ hρ => ?_) ⟨_, _, _, _, _, _, _, _, _, _, _, rfl⟩) (by simp) fun o p => p) fun o ho => ?_
    · obtain ⟨s3, s4, s5, s6, s7, s8, s9, s10, s11, s12, s13, rfl⟩ := hρ
      have hr : Row d := by
        rcases List.mem_append.mp hd with h | h
        · exact hx d h
        · exact hx d (List.mem_reverse.mp h)
      obtain ⟨ax, ay, bx, by_, cx, cy, px, py, rfl, ha, hb, hc, hp⟩ := hr
      walk_at "ev"
      rw [right_eq ha.1 ha.2 hb.1 hb.2 hc.1 hc.2 hp.1 hp.2 rfl]
      walk_at "ev"
      exact Gv.ret ⟨_, rfl, _, _, _, _, _, _, _, _, _, _, _, rfl⟩
    · obtain ⟨ρ', rfl, s3, s4, s5, s6, s7, s8, s9, s10, s11, s12, s13, rfl⟩ := ho
      walk_at "ev"
      exact Gv.ret rfl
theorem law_true : ∀ ns : List Int, ns.length ≤ 63 → ∃ t1, b_law (.un :: .tp :: List.replicate 12 .un) ⟨1, ns, 0, 0, 0⟩ = some (.rt (.bool true), t1) := fun ns _ => by
  obtain ⟨o, t1, e, _, rfl⟩ := law_gv 0 ⟨1, ns, 0, 0, 0⟩ ⟨rfl, Int.le_refl 0, Int.le_refl 0, Int.le_refl 0, Int.le_refl 0⟩ (by decide)
  exact ⟨t1, e⟩
end LK55

set_option maxHeartbeats 4000000
/-! derivations of k55 (printed by gen.py) -/
namespace LK55
open PySem L2 DL
def topS (i : Nat) : Stmt := PySem.Challenge.pw_threelays_k55_circles_by_sign.main.body.getD i (.Pass ⟨0, 0, 0, 0⟩)
abbrev s_turning : Stmt := topS 1
theorem sc_turning : FnScope ["a", "b", "c"] ["a", "b", "c"] (defScope s_turning) := ⟨rfl, rfl, rfl, by decide +kernel, rfl, by decide +kernel, by decide +kernel⟩
abbrev s_side : Stmt := topS 2
theorem sc_side : FnScope ["a", "b", "c", "found"] ["a", "b", "c"] (defScope s_side) := ⟨rfl, rfl, rfl, by decide +kernel, rfl, by decide +kernel, by decide +kernel⟩
abbrev s_seen_from : Stmt := topS 4
theorem sc_seen_from : FnScope ["point", "other", "wide", "high"] ["point", "other"] (defScope s_seen_from) := ⟨rfl, rfl, rfl, by decide +kernel, rfl, by decide +kernel, by decide +kernel⟩
abbrev s_circle : Stmt := topS 5
theorem sc_circle : FnScope ["corners", "point", "a", "b", "c", "one", "found"] ["corners", "point"] (defScope s_circle) := ⟨rfl, rfl, rfl, by decide +kernel, rfl, by decide +kernel, by decide +kernel⟩
abbrev s_law_feed : Stmt := topS 7
theorem sc_law_feed : FnScope ["_law_script"] ["_law_script"] (defScope s_law_feed) := ⟨rfl, rfl, rfl, by decide +kernel, rfl, by decide +kernel, by decide +kernel⟩
abbrev s_law_draw : Stmt := topS 8
theorem sc_law_draw : FnScope ["_law_feed_here", "_law_many", "_law_figure", "_law_at", "_law_cell", "_law_mixed"] ["_law_feed_here", "_law_many"] (defScope s_law_draw) := ⟨rfl, rfl, rfl, by decide +kernel, rfl, by decide +kernel, by decide +kernel⟩
abbrev s_law_four : Stmt := topS 9
theorem sc_law_four : FnScope ["_law_feed_here", "_law_way", "_law_row", "_law_k", "_law_one", "_law_other", "_law_wide", "_law_right_here", "_law_high", "_law_rim", "_law_some", "_law_x", "_law_y", "_law_room", "_law_step", "_law_low"] ["_law_feed_here"] (defScope s_law_four) := ⟨rfl, rfl, rfl, by decide +kernel, rfl, by decide +kernel, by decide +kernel⟩
abbrev s_law_turning : Stmt := topS 10
theorem sc_law_turning : FnScope ["_law_a", "_law_b", "_law_c"] ["_law_a", "_law_b", "_law_c"] (defScope s_law_turning) := ⟨rfl, rfl, rfl, by decide +kernel, rfl, by decide +kernel, by decide +kernel⟩
abbrev s_law_beside : Stmt := topS 11
theorem sc_law_beside : FnScope ["_law_feed_here", "_law_point", "_law_x", "_law_y"] ["_law_feed_here", "_law_point"] (defScope s_law_beside) := ⟨rfl, rfl, rfl, by decide +kernel, rfl, by decide +kernel, by decide +kernel⟩
abbrev s_law_meant : Stmt := topS 12
theorem sc_law_meant : FnScope ["_law_corners", "_law_point", "_law_a", "_law_b", "_law_c", "_law_x", "_law_y", "_law_u", "_law_v", "_law_whole", "_law_right_here", "_law_high", "_law_wide", "_law_up", "_law_gap"] ["_law_corners", "_law_point"] (defScope s_law_meant) := ⟨rfl, rfl, rfl, by decide +kernel, rfl, by decide +kernel, by decide +kernel⟩
abbrev s_law_right : Stmt := topS 13
theorem sc_law_right : FnScope ["_law_corners", "_law_point", "_law_meant_here", "_law_found"] ["_law_corners", "_law_point", "_law_meant_here"] (defScope s_law_right) := ⟨rfl, rfl, rfl, by decide +kernel, rfl, by decide +kernel, by decide +kernel⟩
abbrev s_law : Stmt := topS 14
theorem sc_law : FnScope ["_law_script", "_law_feed_here", "_law_kept", "_law_k", "_law_some", "_law_corners", "_law_way", "_law_point", "_law_turned_over", "_law_x", "_law_y", "_law_exchanged", "_law_one", "_law_meant_here"] ["_law_script"] (defScope s_law) := ⟨rfl, rfl, rfl, by decide +kernel, rfl, by decide +kernel, by decide +kernel⟩
structure Bt (mg : Str → Option Value) : Prop where
  bool : mg "bool" = none
  int : mg "int" = none
  isinstance : mg "isinstance" = none
  len : mg "len" = none
  list : mg "list" = none
  range : mg "range" = none
  sorted : mg "sorted" = none
  tuple : mg "tuple" = none
section
variable {P : Program} {w : World} {K : PySem.W.Frag} {mg : Str → Option Value} {base : Heap}
theorem ok_turning {f : Addr} {fd : FuncData} (F : Fun K "turning" "turning" s_turning f fd) (B : Bt mg)  : FnG P w K mg base CX0 1 f fd ["a", "b", "c"] (spD m_turning) :=
  fnD_of (k := 0) F sc_turning fun cdv A ou s0 H hr hG => by
    have nd := sc_turning.nd
    have D : RSs (cxOf CX0 P w K mg base ["a", "b", "c"] "turning" (defScope s_turning) f cdv A ou s0 H E0).nox (defBody s_turning) _ _ := (rss_one (rs_ret (re_sub (re_mul (re_sub (re_ixN K (rb_var (pv 1)) re_int.bo).bo (re_ixN K (rb_var (pv 0)) re_int.bo).bo).bo (re_sub (re_ixN K (rb_var (pv 2)) re_int.bo).bo (re_ixN K (rb_var (pv 0)) re_int.bo).bo).bo).bo (re_mul (re_sub (re_ixN K (rb_var (pv 1)) re_int.bo).bo (re_ixN K (rb_var (pv 0)) re_int.bo).bo).bo (re_sub (re_ixN K (rb_var (pv 2)) re_int.bo).bo (re_ixN K (rb_var (pv 0)) re_int.bo).bo).bo).bo)))
    exact ⟨_, D.ps, D.ev⟩
theorem ok_side {f : Addr} {fd : FuncData} (F : Fun K "side" "side" s_side f fd) (B : Bt mg) (c_turning : Cee P w K mg base 1 "turning" m_turning) : FnG P w K mg base CX0 2 f fd ["a", "b", "c"] (spD m_side) :=
  fnD_of (k := 1) F sc_side fun cdv A ou s0 H hr hG => by
    have nd := sc_side.nd
    have D : RSs (cxOf CX0 P w K mg base ["a", "b", "c", "found"] "side" (defScope s_side) f cdv A ou s0 H E0).nox (defBody s_side) _ _ := (rss_cons (rs_setE (i := 3) nd rfl (by first | exact Or.inl rfl | exact Or.inr rfl) (re_call c_turning hr hG (ra_cons (re_var (pv 0)) (ra_cons (re_var (pv 1)) (ra_cons (re_var (pv 2)) ra_nil)))))
      (rss_one (rs_ret (re_sub (re_calT call_int1 k_int1 B.int (by decide +kernel) (rr_cons (re_cmp op_gt o_gtI (rb_var (pv 3)) re_int.bo (nomark _)).bo rr_nil)).bo (re_calT call_int1 k_int1 B.int (by decide +kernel) (rr_cons (re_cmp op_lt o_ltI (rb_var (pv 3)) re_int.bo (nomark _)).bo rr_nil)).bo))))
    exact ⟨_, D.ps, D.ev⟩
theorem ok_seen_from {f : Addr} {fd : FuncData} (F : Fun K "seen_from" "seen_from" s_seen_from f fd) (B : Bt mg)  : FnG P w K mg base CX0 1 f fd ["point", "other"] (spD m_seen_from) :=
  fnD_of (k := 0) F sc_seen_from fun cdv A ou s0 H hr hG => by
    have nd := sc_seen_from.nd
    have D : RSs (cxOf CX0 P w K mg base ["point", "other", "wide", "high"] "seen_from" (defScope s_seen_from) f cdv A ou s0 H E0).nox (defBody s_seen_from) _ _ := (rss_cons (rs_setE (i := 2) nd rfl (by first | exact Or.inl rfl | exact Or.inr rfl) (re_sub (re_ixN K (rb_var (pv 1)) re_int.bo).bo (re_ixN K (rb_var (pv 0)) re_int.bo).bo))
      (rss_cons (rs_setE (i := 3) nd rfl (by first | exact Or.inl rfl | exact Or.inr rfl) (re_sub (re_ixN K (rb_var (pv 1)) re_int.bo).bo (re_ixN K (rb_var (pv 0)) re_int.bo).bo))
      (rss_one (rs_ret (re_tup (rl_cons (re_var (pv 2)) (rl_cons (re_var (pv 3)) (rl_cons (re_addN K (re_mul (rb_var (pv 2)) (rb_var (pv 2))).bo (re_mul (rb_var (pv 3)) (rb_var (pv 3))).bo) rl_nil))))))))
    exact ⟨_, D.ps, D.ev⟩
theorem ok_circle {f : Addr} {fd : FuncData} (F : Fun K "circle" "circle" s_circle f fd) (B : Bt mg) (c_seen_from : Cee P w K mg base 1 "seen_from" m_seen_from) (c_side : Cee P w K mg base 2 "side" m_side) : FnG P w K mg base CX0 3 f fd ["corners", "point"] (spD m_circle) :=
  fnD_of (k := 2) F sc_circle fun cdv A ou s0 H hr hG => by
    have nd := sc_circle.nd
    have D : RSs (cxOf CX0 P w K mg base ["corners", "point", "a", "b", "c", "one", "found"] "circle" (defScope s_circle) f cdv A ou s0 H E0).nox (defBody s_circle) _ _ := (rss_cons (rs_asg (rn_comp [("one", 5)] rfl nd (ri_seqN K (re_var (pv 0))) (blkOk_by (N := ["corners", "point", "a", "b", "c", "one", "found"]) (sc := defScope s_circle) (by decide +kernel)) (fun _ _ _ _ _ => (rg_name (i := 5) nd rfl (by first | exact Or.inl rfl | exact Or.inr rfl))) (fun _ _ _ _ _ => rts_nil) (fun _ _ _ _ _ => (re_call c_seen_from hr hG (ra_cons (re_var (pv 1)) (ra_cons (re_var (pv 5)) ra_nil))))).fr (rg_seqN K (n := 3) rfl (rgs_cons' (rg_name (i := 2) nd rfl (by first | exact Or.inl rfl | exact Or.inr rfl)) (rgs_cons' (rg_name (i := 3) nd rfl (by first | exact Or.inl rfl | exact Or.inr rfl)) (rgs_cons' (rg_name (i := 4) nd rfl (by first | exact Or.inl rfl | exact Or.inr rfl)) rgs_nil)))))
      (rss_cons (rs_setE (i := 6) nd rfl (by first | exact Or.inl rfl | exact Or.inr rfl) (re_mul (re_ixN K (rb_var (pv 2)) re_int.bo).bo (re_sub (re_mul (re_ixN K (rb_var (pv 3)) re_int.bo).bo (re_ixN K (rb_var (pv 4)) re_int.bo).bo).bo (re_mul (re_ixN K (rb_var (pv 3)) re_int.bo).bo (re_ixN K (rb_var (pv 4)) re_int.bo).bo).bo).bo))
      (rss_cons (rs_setE (i := 6) nd rfl (by first | exact Or.inl rfl | exact Or.inr rfl) (re_sub (rb_var (pv 6)) (re_mul (re_ixN K (rb_var (pv 2)) re_int.bo).bo (re_sub (re_mul (re_ixN K (rb_var (pv 3)) re_int.bo).bo (re_ixN K (rb_var (pv 4)) re_int.bo).bo).bo (re_mul (re_ixN K (rb_var (pv 3)) re_int.bo).bo (re_ixN K (rb_var (pv 4)) re_int.bo).bo).bo).bo).bo))
      (rss_cons (rs_setE (i := 6) nd rfl (by first | exact Or.inl rfl | exact Or.inr rfl) (re_addN K (rb_var (pv 6)) (re_mul (re_ixN K (rb_var (pv 2)) re_int.bo).bo (re_sub (re_mul (re_ixN K (rb_var (pv 3)) re_int.bo).bo (re_ixN K (rb_var (pv 4)) re_int.bo).bo).bo (re_mul (re_ixN K (rb_var (pv 3)) re_int.bo).bo (re_ixN K (rb_var (pv 4)) re_int.bo).bo).bo).bo).bo))
      (rss_one (rs_ret (re_mul (re_call c_side hr hG (ra_cons (re_ixN K (rb_var (pv 0)) re_int.bo) (ra_cons (re_ixN K (rb_var (pv 0)) re_int.bo) (ra_cons (re_ixN K (rb_var (pv 0)) re_int.bo) ra_nil)))).bo (re_sub (re_calT call_int1 k_int1 B.int (by decide +kernel) (rr_cons (re_cmp op_gt o_gtI (rb_var (pv 6)) re_int.bo (nomark _)).bo rr_nil)).bo (re_calT call_int1 k_int1 B.int (by decide +kernel) (rr_cons (re_cmp op_lt o_ltI (rb_var (pv 6)) re_int.bo (nomark _)).bo rr_nil)).bo).bo)))))))
    exact ⟨_, D.ps, D.ev⟩
theorem ok_law_feed {f : Addr} {fd : FuncData} (F : Fun K "_law_feed" "_law_feed" s_law_feed f fd) (B : Bt mg) : FnG P w K mg base CX0 1 f fd ["_law_script"] (spTape K 1) :=
  fnT_of (k := 0) F sc_law_feed fun cdv A ou s0 H => ⟨_, (pss_one (ps_ret (pe_lst (pa_cons (pe_callTy call_list_of (by rfl) B.list (by decide +kernel) (pa_cons (pe_slice sl_list (pv 0) po_none (po_some pe_int)) pa_nil)) (pa_cons pe_int (pa_cons pe_int pa_nil)))))), (ev_tapeL cells_list)⟩
theorem ok_law_draw {f : Addr} {fd : FuncData} (F : Fun K "_law_draw" "_law_draw" s_law_draw f fd) (B : Bt mg)  : FnG P w K mg base CX0 1 f fd ["_law_feed_here", "_law_many"] (spD m_law_draw) :=
  fnD_of (k := 0) F sc_law_draw fun cdv A ou s0 H hr hG => by
    have nd := sc_law_draw.nd
    have D : RSs (cxOf CX0 P w K mg base ["_law_feed_here", "_law_many", "_law_figure", "_law_at", "_law_cell", "_law_mixed"] "_law_draw" (defScope s_law_draw) f cdv A ou s0 H E0).nox (defBody s_law_draw) _ _ := (rss_cons (rs_if (rt_cmp op_gt o_gtI (re_tgetL (k := 2) (by decide) rfl (pv 0) (fun _ _ => rfl)).bo re_int.bo (nomark _)) (rss_cons (rs_setE (i := 2) nd rfl (by first | exact Or.inl rfl | exact Or.inr rfl) (re_mod (re_tgetL (k := 2) (by decide) rfl (pv 0) (fun _ _ => rfl)).bo (rb_var (pv 1))))
      (rss_cons (rs_tputL (k := 2) (by decide) (by decide) rfl (pg_sub (pv 0) pe_int set_list) (re_div (re_tgetL (k := 2) (by decide) rfl (pv 0) (fun _ _ => rfl)).bo (rb_var (pv 1))))
      (rss_one (rs_ret (re_var (pv 2)))))) rss_nil)
      (rss_cons (rs_setE (i := 3) nd rfl (by first | exact Or.inl rfl | exact Or.inr rfl) (re_tgetL (k := 1) (by decide) rfl (pv 0) (fun _ _ => rfl)))
      (rss_cons (rs_tputL (k := 1) (by decide) (by decide) rfl (pg_sub (pv 0) pe_int set_list) (re_addN K (rb_var (pv 3)) re_int.bo))
      (rss_cons (rs_setE (i := 4) nd rfl (by first | exact Or.inl rfl | exact Or.inr rfl) (re_ifx (rt_cmp (op_neN K hr.units) o_ne (re_tgetL (k := 0) (by decide) rfl (pv 0) (fun _ _ => rfl)).bo (rn_lst rl_nil).bo (nomark _)) (re_ixN K (re_tgetL (k := 0) (by decide) rfl (pv 0) (fun _ _ => rfl)).bo (re_mod (rb_var (pv 3)) (re_calB (call_lenN K) k_len B.len (by decide +kernel) (rr_cons (re_tgetL (k := 0) (by decide) rfl (pv 0) (fun _ _ => rfl)).bo rr_nil)).bo).bo) re_int))
      (rss_cons (rs_if (rw_and (rt_cmp op_ge o_geI (rb_var (pv 4)) (re_pow re_int.bo re_int.bo).bo (nomark _)) (rw_and1 (rt_cmp op_lt o_ltI (rb_var (pv 3)) (re_calB (call_lenN K) k_len B.len (by decide +kernel) (rr_cons (re_tgetL (k := 0) (by decide) rfl (pv 0) (fun _ _ => rfl)).bo rr_nil)).bo (nomark _)))).te (rss_cons (rs_tputL (k := 2) (by decide) (by decide) rfl (pg_sub (pv 0) pe_int set_list) (re_div (rb_var (pv 4)) (rb_var (pv 1))))
      (rss_one (rs_ret (re_mod (rb_var (pv 4)) (rb_var (pv 1)))))) rss_nil)
      (rss_cons (rs_setE (i := 5) nd rfl (by first | exact Or.inl rfl | exact Or.inr rfl) (re_mod (re_mul (re_addN K (re_addN K (re_addN K (re_mod (rb_var (pv 4)) re_int.bo).bo (re_mul (re_mul re_int.bo (rb_var (pv 3))).bo (rb_var (pv 3))).bo).bo (re_mul re_int.bo (rb_var (pv 3))).bo).bo re_int.bo).bo re_int.bo).bo re_int.bo))
      (rss_cons (rs_setE (i := 5) nd rfl (by first | exact Or.inl rfl | exact Or.inr rfl) (re_mod (re_addN K (re_addN K (re_mul (rb_var (pv 5)) (rb_var (pv 5))).bo (re_mul re_int.bo (rb_var (pv 3))).bo).bo re_int.bo).bo re_int.bo))
      (rss_cons (rs_setE (i := 5) nd rfl (by first | exact Or.inl rfl | exact Or.inr rfl) (re_mod (re_addN K (re_addN K (re_mul (rb_var (pv 5)) (rb_var (pv 5))).bo (re_mul re_int.bo (rb_var (pv 5))).bo).bo (rb_var (pv 3))).bo re_int.bo))
      (rss_one (rs_ret (re_mod (re_div (rb_var (pv 5)) re_int.bo).bo (rb_var (pv 1)))))))))))))
    exact ⟨_, D.ps, D.ev⟩
theorem ok_law_four {f : Addr} {fd : FuncData} (F : Fun K "_law_four" "_law_four" s_law_four f fd) (B : Bt mg) (c_law_draw : Cee P w K mg base 1 "_law_draw" m_law_draw) : FnG P w K mg base CX0 2 f fd ["_law_feed_here"] (spD m_law_four) :=
  fnD_of (k := 1) F sc_law_four fun cdv A ou s0 H hr hG => by
    have nd := sc_law_four.nd
    have D : RSs (cxOf CX0 P w K mg base ["_law_feed_here", "_law_way", "_law_row", "_law_k", "_law_one", "_law_other", "_law_wide", "_law_right_here", "_law_high", "_law_rim", "_law_some", "_law_x", "_law_y", "_law_room", "_law_step", "_law_low"] "_law_four" (defScope s_law_four) f cdv A ou s0 H E0).nox (defBody s_law_four) _ _ := (rss_cons (rs_setE (i := 1) nd rfl (by first | exact Or.inl rfl | exact Or.inr rfl) (re_call c_law_draw hr hG (ra_tape (pv 0) (ra_cons re_int ra_nil))))
      (rss_cons (rs_if (rt_cmp (op_eqN K hr.units) o_eq (rb_var (pv 1)) re_int.bo (nomark _)) (rss_cons (rs_setC (i := 2) [("_law_k", 3)] rfl nd rfl rfl (sw_true rfl rfl rfl (by decide +kernel)) (ri_rg1 B.range (rr_cons re_int.bo rr_nil)) (blkOk_by (N := ["_law_feed_here", "_law_way", "_law_row", "_law_k", "_law_one", "_law_other", "_law_wide", "_law_right_here", "_law_high", "_law_rim", "_law_some", "_law_x", "_law_y", "_law_room", "_law_step", "_law_low"]) (sc := defScope s_law_four) (by decide +kernel)) (fun _ _ _ _ _ => (rg_name (i := 3) nd rfl (by first | exact Or.inl rfl | exact Or.inr rfl))) (fun _ _ _ _ _ => rts_nil) (fun _ _ _ _ _ => (re_sub (re_call c_law_draw hr hG (ra_tape (pv 0) (ra_cons re_int ra_nil))).bo re_int.bo)))
      (rss_cons (rs_setE (i := 4) nd rfl (by first | exact Or.inl rfl | exact Or.inr rfl) (re_sub (re_call c_law_draw hr hG (ra_tape (pv 0) (ra_cons re_int ra_nil))).bo re_int.bo))
      (rss_cons (rs_setE (i := 5) nd rfl (by first | exact Or.inl rfl | exact Or.inr rfl) (re_sub (re_call c_law_draw hr hG (ra_tape (pv 0) (ra_cons re_int ra_nil))).bo re_int.bo))
      (rss_one (rs_ret (rn_lst (rl_cons (re_tup (rl_cons (re_ixN K (rb_var (pv 2)) re_int.bo) (rl_cons (re_var (pv 4)) rl_nil))) (rl_cons (re_tup (rl_cons (re_ixN K (rb_var (pv 2)) re_int.bo) (rl_cons (re_var (pv 4)) rl_nil))) (rl_cons (re_tup (rl_cons (re_ixN K (rb_var (pv 2)) re_int.bo) (rl_cons (re_var (pv 5)) rl_nil))) (rl_cons (re_tup (rl_cons (re_sub (re_addN K (re_ixN K (rb_var (pv 2)) re_int.bo).bo (re_ixN K (rb_var (pv 2)) re_int.bo).bo).bo (re_ixN K (rb_var (pv 2)) re_int.bo).bo) (rl_cons (re_var (pv 5)) rl_nil))) rl_nil))))).fr))))) rss_nil)
      (rss_cons (rs_if (rt_cmp (op_eqN K hr.units) o_eq (rb_var (pv 1)) re_int.bo (nomark _)) (rss_cons (rs_setE (i := 6) nd rfl (by first | exact Or.inl rfl | exact Or.inr rfl) (re_addN K re_int.bo (re_call c_law_draw hr hG (ra_tape (pv 0) (ra_cons re_int ra_nil))).bo))
      (rss_cons (rs_setE (i := 7) nd rfl (by first | exact Or.inl rfl | exact Or.inr rfl) (re_sub (re_call c_law_draw hr hG (ra_tape (pv 0) (ra_cons re_int ra_nil))).bo re_int.bo))
      (rss_cons (rs_setE (i := 8) nd rfl (by first | exact Or.inl rfl | exact Or.inr rfl) (re_sub (re_call c_law_draw hr hG (ra_tape (pv 0) (ra_cons re_int ra_nil))).bo re_int.bo))
      (rss_cons (rs_setE (i := 9) nd rfl (by first | exact Or.inl rfl | exact Or.inr rfl) (rn_lst (rl_cons (re_tup (rl_cons re_int (rl_cons re_int rl_nil))) (rl_cons (re_tup (rl_cons re_int (rl_cons re_int rl_nil))) (rl_cons (re_tup (rl_cons re_int (rl_cons re_int rl_nil))) (rl_cons (re_tup (rl_cons re_int (rl_cons (re_neg re_int.bo) rl_nil))) (rl_cons (re_tup (rl_cons re_int (rl_cons (re_neg re_int.bo) rl_nil))) (rl_cons (re_tup (rl_cons re_int (rl_cons (re_neg re_int.bo) rl_nil))) (rl_cons (re_tup (rl_cons (re_neg re_int.bo) (rl_cons (re_neg re_int.bo) rl_nil))) (rl_cons (re_tup (rl_cons (re_neg re_int.bo) (rl_cons (re_neg re_int.bo) rl_nil))) (rl_cons (re_tup (rl_cons (re_neg re_int.bo) (rl_cons re_int rl_nil))) (rl_cons (re_tup (rl_cons (re_neg re_int.bo) (rl_cons re_int rl_nil))) (rl_cons (re_tup (rl_cons (re_neg re_int.bo) (rl_cons re_int rl_nil))) (rl_cons (re_tup (rl_cons re_int (rl_cons re_int rl_nil))) rl_nil))))))))))))).fr)
      (rss_cons (rs_ownC (i := 10) [("_law_k", 3)] rfl nd rfl rfl (sw_true rfl rfl rfl (by decide +kernel)) (ri_rg1 B.range (rr_cons re_int.bo rr_nil)) (blkOk_by (N := ["_law_feed_here", "_law_way", "_law_row", "_law_k", "_law_one", "_law_other", "_law_wide", "_law_right_here", "_law_high", "_law_rim", "_law_some", "_law_x", "_law_y", "_law_room", "_law_step", "_law_low"]) (sc := defScope s_law_four) (by decide +kernel)) (fun _ _ _ _ _ => (rg_name (i := 3) nd rfl (by first | exact Or.inl rfl | exact Or.inr rfl))) (fun _ _ _ _ _ => rts_nil) (fun _ _ _ _ _ => (re_ixN K (rb_var (pv 9)) (re_call c_law_draw hr hG (ra_tape (pv 0) (ra_cons re_int ra_nil))).bo)))
      (rss_one (RS.frz 10 (rs_ret (rn_comp [("_law_x", 11), ("_law_y", 12)] rfl nd (ri_seqN K (re_var (pv 10))) (blkOk_by (N := ["_law_feed_here", "_law_way", "_law_row", "_law_k", "_law_one", "_law_other", "_law_wide", "_law_right_here", "_law_high", "_law_rim", "_law_some", "_law_x", "_law_y", "_law_room", "_law_step", "_law_low"]) (sc := defScope s_law_four) (by decide +kernel)) (fun _ _ _ _ _ => (rg_seqN K (n := 2) rfl (rgs_cons' (rg_name (i := 11) nd rfl (by first | exact Or.inl rfl | exact Or.inr rfl)) (rgs_cons' (rg_name (i := 12) nd rfl (by first | exact Or.inl rfl | exact Or.inr rfl)) rgs_nil)))) (fun _ _ _ _ _ => rts_nil) (fun _ _ _ _ _ => (re_tup (rl_cons (re_addN K (rb_var (pv 7)) (re_mul (rb_var (pv 6)) (rb_var (pv 11))).bo) (rl_cons (re_addN K (rb_var (pv 8)) (re_mul (rb_var (pv 6)) (rb_var (pv 12))).bo) rl_nil))))).fr)))))))) rss_nil)
      (rss_cons (rs_asg (re_ixN K (rn_lst (rl_cons (re_tup (rl_cons re_int (rl_cons re_int (rl_cons re_int rl_nil)))) (rl_cons (re_tup (rl_cons re_int (rl_cons re_int (rl_cons re_int rl_nil)))) (rl_cons (re_tup (rl_cons re_int (rl_cons re_int (rl_cons re_int rl_nil)))) (rl_cons (re_tup (rl_cons re_int (rl_cons re_int (rl_cons re_int rl_nil)))) (rl_cons (re_tup (rl_cons re_int (rl_cons re_int (rl_cons re_int rl_nil)))) (rl_cons (re_tup (rl_cons re_int (rl_cons re_int (rl_cons re_int rl_nil)))) rl_nil))))))).bo (rb_var (pv 1))) (rg_seqN K (n := 3) rfl (rgs_cons' (rg_name (i := 13) nd rfl (by first | exact Or.inl rfl | exact Or.inr rfl)) (rgs_cons' (rg_name (i := 14) nd rfl (by first | exact Or.inl rfl | exact Or.inr rfl)) (rgs_cons' (rg_name (i := 15) nd rfl (by first | exact Or.inl rfl | exact Or.inr rfl)) rgs_nil)))))
      (rss_cons (rs_ownE (i := 10) nd rfl (by first | exact Or.inl rfl | exact Or.inr rfl) (rn_lst rl_nil))
      (rss_cons (rs_for PassesOwn.never rfl (ri_rg1 B.range (rr_cons re_int.bo rr_nil)) (rg_name (i := 3) nd rfl (by first | exact Or.inl rfl | exact Or.inr rfl)) (rss_cons (rs_setE (i := 11) nd rfl (by first | exact Or.inl rfl | exact Or.inr rfl) (re_sub (re_mul (re_call c_law_draw hr hG (ra_tape (pv 0) (ra_cons (re_var (pv 13)) ra_nil))).bo (rb_var (pv 14))).bo (rb_var (pv 15))))
      (rss_one (rs_appE (pv 10) (re_tup (rl_cons (re_var (pv 11)) (rl_cons (re_sub (re_mul (re_call c_law_draw hr hG (ra_tape (pv 0) (ra_cons (re_var (pv 13)) ra_nil))).bo (rb_var (pv 14))).bo (rb_var (pv 15))) rl_nil)))))))
      (rss_one (RS.frz 10 (rs_ret (re_var (pv 10)))))))))))
    exact ⟨_, D.ps, D.ev⟩
theorem ok_law_turning {f : Addr} {fd : FuncData} (F : Fun K "_law_turning" "_law_turning" s_law_turning f fd) (B : Bt mg)  : FnG P w K mg base CX0 1 f fd ["_law_a", "_law_b", "_law_c"] (spD m_law_turning) :=
  fnD_of (k := 0) F sc_law_turning fun cdv A ou s0 H hr hG => by
    have nd := sc_law_turning.nd
    have D : RSs (cxOf CX0 P w K mg base ["_law_a", "_law_b", "_law_c"] "_law_turning" (defScope s_law_turning) f cdv A ou s0 H E0).nox (defBody s_law_turning) _ _ := (rss_one (rs_ret (re_sub (re_mul (re_sub (re_ixN K (rb_var (pv 1)) re_int.bo).bo (re_ixN K (rb_var (pv 0)) re_int.bo).bo).bo (re_sub (re_ixN K (rb_var (pv 2)) re_int.bo).bo (re_ixN K (rb_var (pv 0)) re_int.bo).bo).bo).bo (re_mul (re_sub (re_ixN K (rb_var (pv 1)) re_int.bo).bo (re_ixN K (rb_var (pv 0)) re_int.bo).bo).bo (re_sub (re_ixN K (rb_var (pv 2)) re_int.bo).bo (re_ixN K (rb_var (pv 0)) re_int.bo).bo).bo).bo)))
    exact ⟨_, D.ps, D.ev⟩
theorem ok_law_beside {f : Addr} {fd : FuncData} (F : Fun K "_law_beside" "_law_beside" s_law_beside f fd) (B : Bt mg) (c_law_draw : Cee P w K mg base 1 "_law_draw" m_law_draw) : FnG P w K mg base CX0 2 f fd ["_law_feed_here", "_law_point"] (spD m_law_beside) :=
  fnD_of (k := 1) F sc_law_beside fun cdv A ou s0 H hr hG => by
    have nd := sc_law_beside.nd
    have D : RSs (cxOf CX0 P w K mg base ["_law_feed_here", "_law_point", "_law_x", "_law_y"] "_law_beside" (defScope s_law_beside) f cdv A ou s0 H E0).nox (defBody s_law_beside) _ _ := (rss_cons (rs_asg (re_var (pv 1)) (rg_seqN K (n := 2) rfl (rgs_cons' (rg_name (i := 2) nd rfl (by first | exact Or.inl rfl | exact Or.inr rfl)) (rgs_cons' (rg_name (i := 3) nd rfl (by first | exact Or.inl rfl | exact Or.inr rfl)) rgs_nil))))
      (rss_cons (rs_if (rt_cmp (op_eqN K hr.units) o_eq (re_call c_law_draw hr hG (ra_tape (pv 0) (ra_cons re_int ra_nil))).bo re_int.bo (nomark _)) (rss_one (rs_ret (re_tup (rl_cons (re_ifx (rt_cmp op_gt o_gtI (rb_var (pv 2)) re_int.bo (nomark _)) (re_sub (rb_var (pv 2)) re_int.bo) (re_addN K (rb_var (pv 2)) re_int.bo)) (rl_cons (re_var (pv 3)) rl_nil))))) rss_nil)
      (rss_one (rs_ret (re_tup (rl_cons (re_var (pv 2)) (rl_cons (re_ifx (rt_cmp op_gt o_gtI (rb_var (pv 3)) re_int.bo (nomark _)) (re_sub (rb_var (pv 3)) re_int.bo) (re_addN K (rb_var (pv 3)) re_int.bo)) rl_nil)))))))
    exact ⟨_, D.ps, D.ev⟩
theorem ok_law_meant {f : Addr} {fd : FuncData} (F : Fun K "_law_meant" "_law_meant" s_law_meant f fd) (B : Bt mg)  : FnG P w K mg base CX0 1 f fd ["_law_corners", "_law_point"] (spD m_law_meant) :=
  fnD_of (k := 0) F sc_law_meant fun cdv A ou s0 H hr hG => by
    have nd := sc_law_meant.nd
    have D : RSs (cxOf CX0 P w K mg base ["_law_corners", "_law_point", "_law_a", "_law_b", "_law_c", "_law_x", "_law_y", "_law_u", "_law_v", "_law_whole", "_law_right_here", "_law_high", "_law_wide", "_law_up", "_law_gap"] "_law_meant" (defScope s_law_meant) f cdv A ou s0 H E0).nox (defBody s_law_meant) _ _ := (rss_cons (rs_asg (re_var (pv 0)) (rg_seqN K (n := 3) rfl (rgs_cons' (rg_name (i := 2) nd rfl (by first | exact Or.inl rfl | exact Or.inr rfl)) (rgs_cons' (rg_name (i := 3) nd rfl (by first | exact Or.inl rfl | exact Or.inr rfl)) (rgs_cons' (rg_name (i := 4) nd rfl (by first | exact Or.inl rfl | exact Or.inr rfl)) rgs_nil)))))
      (rss_cons (rs_par (i := 5) (j := 6) rfl nd rfl rfl (by decide) rfl rfl (rl_cons (re_sub (re_ixN K (rb_var (pv 3)) re_int.bo).bo (re_ixN K (rb_var (pv 2)) re_int.bo).bo) (rl_cons (re_sub (re_ixN K (rb_var (pv 3)) re_int.bo).bo (re_ixN K (rb_var (pv 2)) re_int.bo).bo) rl_nil)))
      (rss_cons (rs_par (i := 7) (j := 8) rfl nd rfl rfl (by decide) rfl rfl (rl_cons (re_sub (re_ixN K (rb_var (pv 4)) re_int.bo).bo (re_ixN K (rb_var (pv 2)) re_int.bo).bo) (rl_cons (re_sub (re_ixN K (rb_var (pv 4)) re_int.bo).bo (re_ixN K (rb_var (pv 2)) re_int.bo).bo) rl_nil)))
      (rss_cons (rs_setE (i := 9) nd rfl (by first | exact Or.inl rfl | exact Or.inr rfl) (re_mul re_int.bo (re_sub (re_mul (rb_var (pv 5)) (rb_var (pv 8))).bo (re_mul (rb_var (pv 6)) (rb_var (pv 7))).bo).bo))
      (rss_cons (rs_setE (i := 10) nd rfl (by first | exact Or.inl rfl | exact Or.inr rfl) (re_sub (re_mul (rb_var (pv 8)) (re_addN K (re_mul (rb_var (pv 5)) (rb_var (pv 5))).bo (re_mul (rb_var (pv 6)) (rb_var (pv 6))).bo).bo).bo (re_mul (rb_var (pv 6)) (re_addN K (re_mul (rb_var (pv 7)) (rb_var (pv 7))).bo (re_mul (rb_var (pv 8)) (rb_var (pv 8))).bo).bo).bo))
      (rss_cons (rs_setE (i := 11) nd rfl (by first | exact Or.inl rfl | exact Or.inr rfl) (re_sub (re_mul (rb_var (pv 5)) (re_addN K (re_mul (rb_var (pv 7)) (rb_var (pv 7))).bo (re_mul (rb_var (pv 8)) (rb_var (pv 8))).bo).bo).bo (re_mul (rb_var (pv 7)) (re_addN K (re_mul (rb_var (pv 5)) (rb_var (pv 5))).bo (re_mul (rb_var (pv 6)) (rb_var (pv 6))).bo).bo).bo))
      (rss_cons (rs_setE (i := 12) nd rfl (by first | exact Or.inl rfl | exact Or.inr rfl) (re_sub (re_mul (re_sub (re_ixN K (rb_var (pv 1)) re_int.bo).bo (re_ixN K (rb_var (pv 2)) re_int.bo).bo).bo (rb_var (pv 9))).bo (rb_var (pv 10))))
      (rss_cons (rs_setE (i := 13) nd rfl (by first | exact Or.inl rfl | exact Or.inr rfl) (re_sub (re_mul (re_sub (re_ixN K (rb_var (pv 1)) re_int.bo).bo (re_ixN K (rb_var (pv 2)) re_int.bo).bo).bo (rb_var (pv 9))).bo (rb_var (pv 11))))
      (rss_cons (rs_setE (i := 14) nd rfl (by first | exact Or.inl rfl | exact Or.inr rfl) (re_sub (re_sub (re_addN K (re_mul (rb_var (pv 10)) (rb_var (pv 10))).bo (re_mul (rb_var (pv 11)) (rb_var (pv 11))).bo).bo (re_mul (rb_var (pv 12)) (rb_var (pv 12))).bo).bo (re_mul (rb_var (pv 13)) (rb_var (pv 13))).bo))
      (rss_one (rs_ret (re_sub (re_calT call_int1 k_int1 B.int (by decide +kernel) (rr_cons (re_cmp op_gt o_gtI (rb_var (pv 14)) re_int.bo (nomark _)).bo rr_nil)).bo (re_calT call_int1 k_int1 B.int (by decide +kernel) (rr_cons (re_cmp op_lt o_ltI (rb_var (pv 14)) re_int.bo (nomark _)).bo rr_nil)).bo))))))))))))
    exact ⟨_, D.ps, D.ev⟩
theorem ok_law_right {f : Addr} {fd : FuncData} (F : Fun K "_law_right" "_law_right" s_law_right f fd) (B : Bt mg) (c_circle : Cee P w K mg base 3 "circle" m_circle) : FnG P w K mg base CX0 4 f fd ["_law_corners", "_law_point", "_law_meant_here"] (spD m_law_right) :=
  fnD_of (k := 3) F sc_law_right fun cdv A ou s0 H hr hG => by
    have nd := sc_law_right.nd
    have D : RSs (cxOf CX0 P w K mg base ["_law_corners", "_law_point", "_law_meant_here", "_law_found"] "_law_right" (defScope s_law_right) f cdv A ou s0 H E0).nox (defBody s_law_right) _ _ := (rss_cons (rs_setE (i := 3) nd rfl (by first | exact Or.inl rfl | exact Or.inr rfl) (re_call c_circle hr hG (ra_cons (re_var (pv 0)) (ra_cons (re_var (pv 1)) ra_nil))))
      (rss_one (rs_ret (re_and (re_isiN K (y := .int) B.isinstance B.int (by decide +kernel) (rb_var (pv 3))) (re_and (re_not (re_isiN K (y := .bool) B.isinstance B.bool (by decide +kernel) (rb_var (pv 3)))) (re_one (re_cmp (op_eqN K hr.units) o_eq (rb_var (pv 3)) (rb_var (pv 2)) (nomark _))))))))
    exact ⟨_, D.ps, D.ev⟩
theorem ok_law {f : Addr} {fd : FuncData} (F : Fun K "law" "law" s_law f fd) (B : Bt mg) (c_law_beside : Cee P w K mg base 2 "_law_beside" m_law_beside) (c_law_draw : Cee P w K mg base 1 "_law_draw" m_law_draw) (c_law_four : Cee P w K mg base 2 "_law_four" m_law_four) (c_law_meant : Cee P w K mg base 1 "_law_meant" m_law_meant) (c_law_right : Cee P w K mg base 4 "_law_right" m_law_right) (c_law_turning : Cee P w K mg base 1 "_law_turning" m_law_turning) (c_tape : CeeT P w K mg base 1 "_law_feed" 1)
    (law : ∀ ns : List Int, ns.length ≤ 63 → ∃ t1, b_law (.un :: .tp :: List.replicate 12 .un) ⟨1, ns, 0, 0, 0⟩ = some (.rt (.bool true), t1)) : FnG P w K mg base CX0 5 f fd ["_law_script"] (spLaw K) := by
  refine fnL_of (k := 4) (b := b_law) F sc_law (fun cdv A ou s0 H hr hG => ?_) law
  have nd := sc_law.nd
  have D : RSs (cxOf CX0 P w K mg base ["_law_script", "_law_feed_here", "_law_kept", "_law_k", "_law_some", "_law_corners", "_law_way", "_law_point", "_law_turned_over", "_law_x", "_law_y", "_law_exchanged", "_law_one", "_law_meant_here"] "law" (defScope s_law) f cdv A ou s0 H E0).nox (defBody s_law).tail _ b_law := (rss_cons (rs_ownE (i := 2) nd rfl (by first | exact Or.inl rfl | exact Or.inr rfl) (rn_lst rl_nil))
      (rss_cons (rs_for PassesOwn.never rfl (ri_rg1 B.range (rr_cons re_int.bo rr_nil)) (rg_name (i := 3) nd rfl (by first | exact Or.inl rfl | exact Or.inr rfl)) (rss_cons (rs_setE (i := 4) nd rfl (by first | exact Or.inl rfl | exact Or.inr rfl) (re_call c_law_four hr hG (ra_tape (pv 1) ra_nil)))
      (rss_cons (rs_setE (i := 5) nd rfl (by first | exact Or.inl rfl | exact Or.inr rfl) (re_calT (call_tupleN K) k_tuple B.tuple (by decide +kernel) (rr_cons (rn_calB (cr_sortedN K) k_sortP B.sorted (by decide +kernel) (rr_cons (re_cutN K (rb_var (pv 4)) ro_none (ro_some re_int.bo)).bo rr_nil)).bo rr_nil)))
      (rss_cons (rs_if (rt_cmp (op_eqN K hr.units) o_eq (re_call c_law_turning hr hG (ra_cons (re_ixN K (rb_var (pv 5)) re_int.bo) (ra_cons (re_ixN K (rb_var (pv 5)) re_int.bo) (ra_cons (re_ixN K (rb_var (pv 5)) re_int.bo) ra_nil)))).bo re_int.bo (nomark _)) (rss_one (rs_setE (i := 5) nd rfl (by first | exact Or.inl rfl | exact Or.inr rfl) (re_tup (rl_cons (re_tup (rl_cons re_int (rl_cons re_int rl_nil))) (rl_cons (re_tup (rl_cons re_int (rl_cons (re_addN K re_int.bo (re_call c_law_draw hr hG (ra_tape (pv 1) (ra_cons re_int ra_nil))).bo) rl_nil))) (rl_cons (re_tup (rl_cons (re_addN K re_int.bo (re_call c_law_draw hr hG (ra_tape (pv 1) (ra_cons re_int ra_nil))).bo) (rl_cons re_int rl_nil))) rl_nil)))))) rss_nil)
      (rss_cons (rs_setE (i := 6) nd rfl (by first | exact Or.inl rfl | exact Or.inr rfl) (re_call c_law_draw hr hG (ra_tape (pv 1) (ra_cons re_int ra_nil))))
      (rss_cons (rs_setE (i := 7) nd rfl (by first | exact Or.inl rfl | exact Or.inr rfl) (re_ixN K (rb_var (pv 4)) re_int.bo))
      (rss_cons (rs_if (rt_cmp (op_eqN K hr.units) o_eq (rb_var (pv 6)) re_int.bo (nomark _)) (rss_one (rs_setE (i := 7) nd rfl (by first | exact Or.inl rfl | exact Or.inr rfl) (re_call c_law_beside hr hG (ra_tape (pv 1) (ra_cons (re_var (pv 7)) ra_nil))))) rss_nil)
      (rss_cons (rs_if (rt_cmp (op_eqN K hr.units) o_eq (rb_var (pv 6)) re_int.bo (nomark _)) (rss_one (rs_setE (i := 7) nd rfl (by first | exact Or.inl rfl | exact Or.inr rfl) (re_ixN K (rb_var (pv 5)) (re_call c_law_draw hr hG (ra_tape (pv 1) (ra_cons re_int ra_nil))).bo))) rss_nil)
      (rss_cons (rs_if (rt_cmp (op_eqN K hr.units) o_eq (rb_var (pv 6)) re_int.bo (nomark _)) (rss_one (rs_setE (i := 7) nd rfl (by first | exact Or.inl rfl | exact Or.inr rfl) (re_tup (rl_cons (re_sub (re_call c_law_draw hr hG (ra_tape (pv 1) (ra_cons re_int ra_nil))).bo re_int.bo) (rl_cons (re_sub (re_call c_law_draw hr hG (ra_tape (pv 1) (ra_cons re_int ra_nil))).bo re_int.bo) rl_nil))))) rss_nil)
      (rss_cons (rs_appE (pv 2) (re_tup (rl_cons (re_var (pv 5)) (rl_cons (re_var (pv 7)) (rl_cons (re_call c_law_meant hr hG (ra_cons (re_var (pv 5)) (ra_cons (re_var (pv 7)) ra_nil))) rl_nil)))))
      (rss_cons (rs_setE (i := 8) nd rfl (by first | exact Or.inl rfl | exact Or.inr rfl) (re_calT (call_tupleN K) k_tuple B.tuple (by decide +kernel) (rr_cons (rn_calB (cr_sortedN K) k_sortP B.sorted (by decide +kernel) (rr_cons (rn_comp [("_law_x", 9), ("_law_y", 10)] rfl nd (ri_seqN K (re_var (pv 5))) (blkOk_by (N := ["_law_script", "_law_feed_here", "_law_kept", "_law_k", "_law_some", "_law_corners", "_law_way", "_law_point", "_law_turned_over", "_law_x", "_law_y", "_law_exchanged", "_law_one", "_law_meant_here"]) (sc := defScope s_law) (by decide +kernel)) (fun _ _ _ _ _ => (rg_seqN K (n := 2) rfl (rgs_cons' (rg_name (i := 9) nd rfl (by first | exact Or.inl rfl | exact Or.inr rfl)) (rgs_cons' (rg_name (i := 10) nd rfl (by first | exact Or.inl rfl | exact Or.inr rfl)) rgs_nil)))) (fun _ _ _ _ _ => rts_nil) (fun _ _ _ _ _ => (re_tup (rl_cons (re_sub re_int.bo (rb_var (pv 9))) (rl_cons (re_var (pv 10)) rl_nil))))).bo rr_nil)).bo rr_nil)))
      (rss_cons (rs_setE (i := 11) nd rfl (by first | exact Or.inl rfl | exact Or.inr rfl) (re_calT (call_tupleN K) k_tuple B.tuple (by decide +kernel) (rr_cons (rn_calB (cr_sortedN K) k_sortP B.sorted (by decide +kernel) (rr_cons (rn_comp [("_law_x", 9), ("_law_y", 10)] rfl nd (ri_seqN K (re_var (pv 5))) (blkOk_by (N := ["_law_script", "_law_feed_here", "_law_kept", "_law_k", "_law_some", "_law_corners", "_law_way", "_law_point", "_law_turned_over", "_law_x", "_law_y", "_law_exchanged", "_law_one", "_law_meant_here"]) (sc := defScope s_law) (by decide +kernel)) (fun _ _ _ _ _ => (rg_seqN K (n := 2) rfl (rgs_cons' (rg_name (i := 9) nd rfl (by first | exact Or.inl rfl | exact Or.inr rfl)) (rgs_cons' (rg_name (i := 10) nd rfl (by first | exact Or.inl rfl | exact Or.inr rfl)) rgs_nil)))) (fun _ _ _ _ _ => rts_nil) (fun _ _ _ _ _ => (re_tup (rl_cons (re_var (pv 10)) (rl_cons (re_var (pv 9)) rl_nil))))).bo rr_nil)).bo rr_nil)))
      (rss_cons (rs_appE (pv 2) (re_tup (rl_cons (re_var (pv 8)) (rl_cons (re_tup (rl_cons (re_sub re_int.bo (re_ixN K (rb_var (pv 7)) re_int.bo).bo) (rl_cons (re_ixN K (rb_var (pv 7)) re_int.bo) rl_nil))) (rl_cons (re_ixN K (re_ixN K (rb_var (pv 2)) (re_neg re_int.bo).bo).bo re_int.bo) rl_nil)))))
      (rss_cons (rs_appE (pv 2) (re_tup (rl_cons (re_var (pv 11)) (rl_cons (re_tup (rl_cons (re_ixN K (rb_var (pv 7)) re_int.bo) (rl_cons (re_ixN K (rb_var (pv 7)) re_int.bo) rl_nil))) (rl_cons (re_ixN K (re_ixN K (rb_var (pv 2)) (re_neg re_int.bo).bo).bo re_int.bo) rl_nil)))))
      (rss_one (rs_if (rt_cmp (op_inN K hr) o_inK re_bl.bo (rn_comp [("_law_one", 12)] rfl nd (ri_seqN K (re_var (pv 5))) (blkOk_by (N := ["_law_script", "_law_feed_here", "_law_kept", "_law_k", "_law_some", "_law_corners", "_law_way", "_law_point", "_law_turned_over", "_law_x", "_law_y", "_law_exchanged", "_law_one", "_law_meant_here"]) (sc := defScope s_law) (by decide +kernel)) (fun _ _ _ _ _ => (rg_name (i := 12) nd rfl (by first | exact Or.inl rfl | exact Or.inr rfl))) (fun _ _ _ _ _ => rts_nil) (fun _ _ _ _ _ => (re_call c_law_right hr hG (ra_cons (re_var (pv 5)) (ra_cons (re_var (pv 12)) (ra_cons re_int ra_nil)))))).bo rfl) (rss_one (rs_ret re_bl)) rss_nil))))))))))))))))
      (rss_cons (rs_for PassesOwn.never rfl (ri_seqN K (re_addN K (rb_var (pv 2)) (rn_revN K (rb_var (pv 2))).fr.bo)) (rg_seqN K (n := 3) rfl (rgs_cons' (rg_name (i := 5) nd rfl (by first | exact Or.inl rfl | exact Or.inr rfl)) (rgs_cons' (rg_name (i := 7) nd rfl (by first | exact Or.inl rfl | exact Or.inr rfl)) (rgs_cons' (rg_name (i := 13) nd rfl (by first | exact Or.inl rfl | exact Or.inr rfl)) rgs_nil)))) (rss_one (rs_if (rt_not (rt_val (re_call c_law_right hr hG (ra_cons (re_var (pv 5)) (ra_cons (re_var (pv 7)) (ra_cons (re_var (pv 13)) ra_nil)))))) (rss_one (rs_ret re_bl)) rss_nil)))
      (rss_one (rs_ret re_bl)))))
  exact ⟨_, pss_cons (ps_tape c_tape hr hG (by decide) (pv 0) nd rfl (by first | exact Or.inl rfl | exact Or.inr rfl) (by rfl) (by decide) rfl rfl rfl (by first | exact .inl rfl | exact .inr rfl)) D.ps, D.ev⟩
end
theorem all_mk {l : PySem.W.OpenLaw} {w : World} {K : PySem.W.Frag} {h : Heap} {mg : Str → Option Value} {fa f0 f1 f2 f3 f4 f5 f6 f7 f8 f9 f10 f11 : Addr} (X : K.In h) (G : h.Ns mainGlobals mg) (hfa : mg "law" = some (.ref fa))
    {od0 an0 : Option Addr} {sl0 : Array (Option Value)} {oc0 kV0 dc0 pm0 cd0 ct0 : Value}
    {od1 an1 : Option Addr} {sl1 : Array (Option Value)} {oc1 kV1 dc1 pm1 cd1 ct1 : Value}
    {od2 an2 : Option Addr} {sl2 : Array (Option Value)} {oc2 kV2 dc2 pm2 cd2 ct2 : Value}
    {od3 an3 : Option Addr} {sl3 : Array (Option Value)} {oc3 kV3 dc3 pm3 cd3 ct3 : Value}
    {od4 an4 : Option Addr} {sl4 : Array (Option Value)} {oc4 kV4 dc4 pm4 cd4 ct4 : Value}
    {od5 an5 : Option Addr} {sl5 : Array (Option Value)} {oc5 kV5 dc5 pm5 cd5 ct5 : Value}
    {od6 an6 : Option Addr} {sl6 : Array (Option Value)} {oc6 kV6 dc6 pm6 cd6 ct6 : Value}
    {od7 an7 : Option Addr} {sl7 : Array (Option Value)} {oc7 kV7 dc7 pm7 cd7 ct7 : Value}
    {od8 an8 : Option Addr} {sl8 : Array (Option Value)} {oc8 kV8 dc8 pm8 cd8 ct8 : Value}
    {od9 an9 : Option Addr} {sl9 : Array (Option Value)} {oc9 kV9 dc9 pm9 cd9 ct9 : Value}
    {od10 an10 : Option Addr} {sl10 : Array (Option Value)} {oc10 kV10 dc10 pm10 cd10 ct10 : Value}
    {od11 an11 : Option Addr} {sl11 : Array (Option Value)} {oc11 kV11 dc11 pm11 cd11 ct11 : Value}
    (a0 : PySem.W.nsIn K mainGlobals "turning" = some (some (.ref f0))) (l0 : K.lookup f0 = some ⟨oc0, od0, .func (PySem.W.fnOf "turning" "turning" (defArgs s_turning) (defBody s_turning) (defScope s_turning) .none kV0 dc0 pm0 an0 cd0 ct0), sl0⟩) (c0 : PySem.W.codeIn K cd0 "turning" = true) (k0 : PySem.W.keepIn K (.ref f0) = true)
    (a1 : PySem.W.nsIn K mainGlobals "side" = some (some (.ref f1))) (l1 : K.lookup f1 = some ⟨oc1, od1, .func (PySem.W.fnOf "side" "side" (defArgs s_side) (defBody s_side) (defScope s_side) .none kV1 dc1 pm1 an1 cd1 ct1), sl1⟩) (c1 : PySem.W.codeIn K cd1 "side" = true) (k1 : PySem.W.keepIn K (.ref f1) = true)
    (a2 : PySem.W.nsIn K mainGlobals "seen_from" = some (some (.ref f2))) (l2 : K.lookup f2 = some ⟨oc2, od2, .func (PySem.W.fnOf "seen_from" "seen_from" (defArgs s_seen_from) (defBody s_seen_from) (defScope s_seen_from) .none kV2 dc2 pm2 an2 cd2 ct2), sl2⟩) (c2 : PySem.W.codeIn K cd2 "seen_from" = true) (k2 : PySem.W.keepIn K (.ref f2) = true)
    (a3 : PySem.W.nsIn K mainGlobals "circle" = some (some (.ref f3))) (l3 : K.lookup f3 = some ⟨oc3, od3, .func (PySem.W.fnOf "circle" "circle" (defArgs s_circle) (defBody s_circle) (defScope s_circle) .none kV3 dc3 pm3 an3 cd3 ct3), sl3⟩) (c3 : PySem.W.codeIn K cd3 "circle" = true) (k3 : PySem.W.keepIn K (.ref f3) = true)
    (a4 : PySem.W.nsIn K mainGlobals "_law_feed" = some (some (.ref f4))) (l4 : K.lookup f4 = some ⟨oc4, od4, .func (PySem.W.fnOf "_law_feed" "_law_feed" (defArgs s_law_feed) (defBody s_law_feed) (defScope s_law_feed) .none kV4 dc4 pm4 an4 cd4 ct4), sl4⟩) (c4 : PySem.W.codeIn K cd4 "_law_feed" = true) (k4 : PySem.W.keepIn K (.ref f4) = true)
    (a5 : PySem.W.nsIn K mainGlobals "_law_draw" = some (some (.ref f5))) (l5 : K.lookup f5 = some ⟨oc5, od5, .func (PySem.W.fnOf "_law_draw" "_law_draw" (defArgs s_law_draw) (defBody s_law_draw) (defScope s_law_draw) .none kV5 dc5 pm5 an5 cd5 ct5), sl5⟩) (c5 : PySem.W.codeIn K cd5 "_law_draw" = true) (k5 : PySem.W.keepIn K (.ref f5) = true)
    (a6 : PySem.W.nsIn K mainGlobals "_law_four" = some (some (.ref f6))) (l6 : K.lookup f6 = some ⟨oc6, od6, .func (PySem.W.fnOf "_law_four" "_law_four" (defArgs s_law_four) (defBody s_law_four) (defScope s_law_four) .none kV6 dc6 pm6 an6 cd6 ct6), sl6⟩) (c6 : PySem.W.codeIn K cd6 "_law_four" = true) (k6 : PySem.W.keepIn K (.ref f6) = true)
    (a7 : PySem.W.nsIn K mainGlobals "_law_turning" = some (some (.ref f7))) (l7 : K.lookup f7 = some ⟨oc7, od7, .func (PySem.W.fnOf "_law_turning" "_law_turning" (defArgs s_law_turning) (defBody s_law_turning) (defScope s_law_turning) .none kV7 dc7 pm7 an7 cd7 ct7), sl7⟩) (c7 : PySem.W.codeIn K cd7 "_law_turning" = true) (k7 : PySem.W.keepIn K (.ref f7) = true)
    (a8 : PySem.W.nsIn K mainGlobals "_law_beside" = some (some (.ref f8))) (l8 : K.lookup f8 = some ⟨oc8, od8, .func (PySem.W.fnOf "_law_beside" "_law_beside" (defArgs s_law_beside) (defBody s_law_beside) (defScope s_law_beside) .none kV8 dc8 pm8 an8 cd8 ct8), sl8⟩) (c8 : PySem.W.codeIn K cd8 "_law_beside" = true) (k8 : PySem.W.keepIn K (.ref f8) = true)
    (a9 : PySem.W.nsIn K mainGlobals "_law_meant" = some (some (.ref f9))) (l9 : K.lookup f9 = some ⟨oc9, od9, .func (PySem.W.fnOf "_law_meant" "_law_meant" (defArgs s_law_meant) (defBody s_law_meant) (defScope s_law_meant) .none kV9 dc9 pm9 an9 cd9 ct9), sl9⟩) (c9 : PySem.W.codeIn K cd9 "_law_meant" = true) (k9 : PySem.W.keepIn K (.ref f9) = true)
    (a10 : PySem.W.nsIn K mainGlobals "_law_right" = some (some (.ref f10))) (l10 : K.lookup f10 = some ⟨oc10, od10, .func (PySem.W.fnOf "_law_right" "_law_right" (defArgs s_law_right) (defBody s_law_right) (defScope s_law_right) .none kV10 dc10 pm10 an10 cd10 ct10), sl10⟩) (c10 : PySem.W.codeIn K cd10 "_law_right" = true) (k10 : PySem.W.keepIn K (.ref f10) = true)
    (a11 : PySem.W.nsIn K mainGlobals "law" = some (some (.ref f11))) (l11 : K.lookup f11 = some ⟨oc11, od11, .func (PySem.W.fnOf "law" "law" (defArgs s_law) (defBody s_law) (defScope s_law) .none kV11 dc11 pm11 an11 cd11 ct11), sl11⟩) (c11 : PySem.W.codeIn K cd11 "law" = true) (k11 : PySem.W.keepIn K (.ref f11) = true)
    (z_bool : PySem.W.nsIn K mainGlobals "bool" = some none) (z_int : PySem.W.nsIn K mainGlobals "int" = some none) (z_isinstance : PySem.W.nsIn K mainGlobals "isinstance" = some none) (z_len : PySem.W.nsIn K mainGlobals "len" = some none) (z_list : PySem.W.nsIn K mainGlobals "list" = some none) (z_range : PySem.W.nsIn K mainGlobals "range" = some none) (z_sorted : PySem.W.nsIn K mainGlobals "sorted" = some none) (z_tuple : PySem.W.nsIn K mainGlobals "tuple" = some none)
    (law : ∀ ns : List Int, ns.length ≤ 63 → ∃ t1, b_law (.un :: .tp :: List.replicate 12 .un) ⟨1, ns, 0, 0, 0⟩ = some (.rt (.bool true), t1)) :
    ∃ fd : FuncData, (∀ (s : Shared) (v : Value), BindsTo s fd ⟨[v], []⟩ [("_law_script", v)]) ∧ ∀ base : Heap, K.In base → base.Ns mainGlobals mg → FnG l.prog w K mg base CX0 5 fa fd ["_law_script"] (spLaw K) := by
  have e := hfa.symm.trans (PySem.W.mg_of X G a11)
  cases e
  have B : Bt mg := ⟨PySem.W.mg_none_of X G z_bool, PySem.W.mg_none_of X G z_int, PySem.W.mg_none_of X G z_isinstance, PySem.W.mg_none_of X G z_len, PySem.W.mg_none_of X G z_list, PySem.W.mg_none_of X G z_range, PySem.W.mg_none_of X G z_sorted, PySem.W.mg_none_of X G z_tuple⟩
  have F0 := fun_mk (st := s_turning) l0 c0 k0
  have b0 := F0.binds (ps := ["a", "b", "c"]) fun _ _ _ _ _ _ us hl => match us, hl with | [_, _, _], _ => rfl
  have F1 := fun_mk (st := s_side) l1 c1 k1
  have b1 := F1.binds (ps := ["a", "b", "c"]) fun _ _ _ _ _ _ us hl => match us, hl with | [_, _, _], _ => rfl
  have F2 := fun_mk (st := s_seen_from) l2 c2 k2
  have b2 := F2.binds (ps := ["point", "other"]) fun _ _ _ _ _ _ us hl => match us, hl with | [_, _], _ => rfl
  have F3 := fun_mk (st := s_circle) l3 c3 k3
  have b3 := F3.binds (ps := ["corners", "point"]) fun _ _ _ _ _ _ us hl => match us, hl with | [_, _], _ => rfl
  have F4 := fun_mk (st := s_law_feed) l4 c4 k4
  have b4 := F4.binds (ps := ["_law_script"]) fun _ _ _ _ _ _ us hl => match us, hl with | [_], _ => rfl
  have F5 := fun_mk (st := s_law_draw) l5 c5 k5
  have b5 := F5.binds (ps := ["_law_feed_here", "_law_many"]) fun _ _ _ _ _ _ us hl => match us, hl with | [_, _], _ => rfl
  have F6 := fun_mk (st := s_law_four) l6 c6 k6
  have b6 := F6.binds (ps := ["_law_feed_here"]) fun _ _ _ _ _ _ us hl => match us, hl with | [_], _ => rfl
  have F7 := fun_mk (st := s_law_turning) l7 c7 k7
  have b7 := F7.binds (ps := ["_law_a", "_law_b", "_law_c"]) fun _ _ _ _ _ _ us hl => match us, hl with | [_, _, _], _ => rfl
  have F8 := fun_mk (st := s_law_beside) l8 c8 k8
  have b8 := F8.binds (ps := ["_law_feed_here", "_law_point"]) fun _ _ _ _ _ _ us hl => match us, hl with | [_, _], _ => rfl
  have F9 := fun_mk (st := s_law_meant) l9 c9 k9
  have b9 := F9.binds (ps := ["_law_corners", "_law_point"]) fun _ _ _ _ _ _ us hl => match us, hl with | [_, _], _ => rfl
  have F10 := fun_mk (st := s_law_right) l10 c10 k10
  have b10 := F10.binds (ps := ["_law_corners", "_law_point", "_law_meant_here"]) fun _ _ _ _ _ _ us hl => match us, hl with | [_, _, _], _ => rfl
  have F11 := fun_mk (st := s_law) l11 c11 k11
  refine ⟨PySem.W.fnOf "law" "law" (defArgs s_law) (defBody s_law) (defScope s_law) .none kV11 dc11 pm11 an11 cd11 ct11, fun s v => .of_eq rfl, fun base _ _ => ?_⟩
  have c_turning : Cee l.prog w K mg base 1 "turning" m_turning := ⟨⟨f0, _, _, PySem.W.mg_of X G a0, k0, b0, ok_turning F0 B ⟩⟩
  have c_side : Cee l.prog w K mg base 2 "side" m_side := ⟨⟨f1, _, _, PySem.W.mg_of X G a1, k1, b1, ok_side F1 B c_turning⟩⟩
  have c_seen_from : Cee l.prog w K mg base 1 "seen_from" m_seen_from := ⟨⟨f2, _, _, PySem.W.mg_of X G a2, k2, b2, ok_seen_from F2 B ⟩⟩
  have c_circle : Cee l.prog w K mg base 3 "circle" m_circle := ⟨⟨f3, _, _, PySem.W.mg_of X G a3, k3, b3, ok_circle F3 B c_seen_from c_side⟩⟩
  have c_tape : CeeT l.prog w K mg base 1 "_law_feed" 1 := ⟨⟨f4, _, _, PySem.W.mg_of X G a4, k4, b4, ok_law_feed F4 B⟩⟩
  have c_law_draw : Cee l.prog w K mg base 1 "_law_draw" m_law_draw := ⟨⟨f5, _, _, PySem.W.mg_of X G a5, k5, b5, ok_law_draw F5 B ⟩⟩
  have c_law_four : Cee l.prog w K mg base 2 "_law_four" m_law_four := ⟨⟨f6, _, _, PySem.W.mg_of X G a6, k6, b6, ok_law_four F6 B c_law_draw⟩⟩
  have c_law_turning : Cee l.prog w K mg base 1 "_law_turning" m_law_turning := ⟨⟨f7, _, _, PySem.W.mg_of X G a7, k7, b7, ok_law_turning F7 B ⟩⟩
  have c_law_beside : Cee l.prog w K mg base 2 "_law_beside" m_law_beside := ⟨⟨f8, _, _, PySem.W.mg_of X G a8, k8, b8, ok_law_beside F8 B c_law_draw⟩⟩
  have c_law_meant : Cee l.prog w K mg base 1 "_law_meant" m_law_meant := ⟨⟨f9, _, _, PySem.W.mg_of X G a9, k9, b9, ok_law_meant F9 B ⟩⟩
  have c_law_right : Cee l.prog w K mg base 4 "_law_right" m_law_right := ⟨⟨f10, _, _, PySem.W.mg_of X G a10, k10, b10, ok_law_right F10 B c_circle⟩⟩
  exact ok_law F11 B c_law_beside c_law_draw c_law_four c_law_meant c_law_right c_law_turning c_tape law
end LK55
open PySem PySem.W PyProof.Rows
set_option maxRecDepth 100000 in
set_option maxHeartbeats 0 in
theorem PySem.Challenge.cw_threelays_k55_circles_by_sign_holds : PySem.Challenge.rw_threelays_k55_circles_by_sign.Holds := by
  w_on; o_law; k_head; (case hw => w_witness2)
  k_fill
  refine DL.walkG (l := PySem.Challenge.rw_threelays_k55_circles_by_sign) (k := 5) (x := "_law_script") rfl rfl ⟨rfl, by decide, by decide⟩ (fun w h Y => PySem.W.kIn_of Y) ?F
  case F =>
    intro w mg fa h KX G hmg
    refine' LK55.all_mk KX G hmg ?a0 ?l0 ?c0 ?k0 ?a1 ?l1 ?c1 ?k1 ?a2 ?l2 ?c2 ?k2 ?a3 ?l3 ?c3 ?k3 ?a4 ?l4 ?c4 ?k4 ?a5 ?l5 ?c5 ?k5 ?a6 ?l6 ?c6 ?k6 ?a7 ?l7 ?c7 ?k7 ?a8 ?l8 ?c8 ?k8 ?a9 ?l9 ?c9 ?k9 ?a10 ?l10 ?c10 ?k10 ?a11 ?l11 ?c11 ?k11 ?z_bool ?z_int ?z_isinstance ?z_len ?z_list ?z_range ?z_sorted ?z_tuple LK55.law_true
    (case a0 => k_is)
    (case l0 => k_is)
    (case c0 => k_is)
    (case k0 => k_is)
    (case a1 => k_is)
    (case l1 => k_is)
    (case c1 => k_is)
    (case k1 => k_is)
    (case a2 => k_is)
    (case l2 => k_is)
    (case c2 => k_is)
    (case k2 => k_is)
    (case a3 => k_is)
    (case l3 => k_is)
    (case c3 => k_is)
    (case k3 => k_is)
    (case a4 => k_is)
    (case l4 => k_is)
    (case c4 => k_is)
    (case k4 => k_is)
    (case a5 => k_is)
    (case l5 => k_is)
    (case c5 => k_is)
    (case k5 => k_is)
    (case a6 => k_is)
    (case l6 => k_is)
    (case c6 => k_is)
    (case k6 => k_is)
    (case a7 => k_is)
    (case l7 => k_is)
    (case c7 => k_is)
    (case k7 => k_is)
    (case a8 => k_is)
    (case l8 => k_is)
    (case c8 => k_is)
    (case k8 => k_is)
    (case a9 => k_is)
    (case l9 => k_is)
    (case c9 => k_is)
    (case k9 => k_is)
    (case a10 => k_is)
    (case l10 => k_is)
    (case c10 => k_is)
    (case k10 => k_is)
    (case a11 => k_is)
    (case l11 => k_is)
    (case c11 => k_is)
    (case k11 => k_is)
    (case z_bool => k_is)
    (case z_int => k_is)
    (case z_isinstance => k_is)
    (case z_len => k_is)
    (case z_list => k_is)
    (case z_range => k_is)
    (case z_sorted => k_is)
    (case z_tuple => k_is)
