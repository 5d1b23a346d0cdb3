import PyProof.Rows.All
import Wide.All
import OpenK.AllK
import Wide.FinOn
import HandS.ForMost
import HandS.ForExc
import PyProof.StrOps2
import HandS.TupAny
import HandS.TupLe
import HandS.RaiseMore
import HandS.IsInst
import HandS.Style
import HandS.Text
import HandS.Dict
import HandS.More
import HandS.Comp
import HandS.Zip
import HandS.Deep
import KE.GoesMore
import KE.GoesEnum
import KE.SortData
import HandS.TupMul
import KE.DataMinMax
import KE.KDictZip
import HandS.ListItems
import HandS.Conv
import KE.KDictSum
import HandS.Codes
import PySem.Challenge.RW_brickbonds_k84_whole_ways_down
noncomputable section
set_option Elab.async false
set_option linter.all false
set_option maxRecDepth 100000
set_option maxHeartbeats 4000000
/-! Pu: the pure meaning of expressions and statements, over the hand layer. -/
namespace Pu
open PySem PySem.Spec L2

abbrev D := PyData

/-! ### data in the abstract heap -/
def keyD : Key → D
  | .inl i => .int i
  | .inr x => .str x
/-- read as a dict: it is so, or a known one with keys that are ints and texts -/
def RdK (F : Hp) (a : Addr) (o : HO) : Prop := F a = some o ∨ ((∃ kvs, o = .dK kvs) ∧ ∃ ob, F a = some (.frz ob o))
theorem RdK.rd {F : Hp} {a : Addr} {o : HO} (h : RdK F a o) : Rd F a o := h.imp id fun h => h.2
mutual
inductive Rp (K : PySem.W.Frag) (F : Hp) : V → D → Prop
  | non : Rp K F .non .none
  | bl (b : Bool) : Rp K F (.bl b) (.bool b)
  | int (i : Int) : Rp K F (.int i) (.int i)
  | str (x : Str) : Rp K F (.str x) (.str x)
  | lst {a : Addr} {vs : List V} {ds : List D} : F a = some (.lst vs) → RpL K F vs ds → Rp K F (.ref a) (.list ds)
  | tup {a : Addr} {vs : List V} {ds : List D} : F a = some (.tup vs) → RpL K F vs ds → Rp K F (.ref a) (.tuple ds)
  | dct {a : Addr} {o : HO} {ds : List (D × D)} : RdK F a o → RpD K F o ds → Rp K F (.ref a) (.dict ds)
inductive RpL (K : PySem.W.Frag) (F : Hp) : List V → List D → Prop
  | nil : RpL K F [] []
  | cons {v : V} {vs : List V} {d : D} {ds : List D} : Rp K F v d → RpL K F vs ds → RpL K F (v :: vs) (d :: ds)
inductive RpK (K : PySem.W.Frag) (F : Hp) : List (Key × V) → List (D × D) → Prop
  | nil : RpK K F [] []
  | consI {i : Int} {v : V} {d : D} {kvs : List (Key × V)} {ds : List (D × D)} : Rp K F v d → RpK K F kvs ds → RpK K F ((.inl i, v) :: kvs) ((.int i, d) :: ds)
  | consS {x : Str} {v : V} {d : D} {kvs : List (Key × V)} {ds : List (D × D)} : Rp K F v d → RpK K F kvs ds → RpK K F ((.inr x, v) :: kvs) ((.str x, d) :: ds)
inductive RpT (K : PySem.W.Frag) (F : Hp) : List (List Key × V) → List (D × D) → Prop
  | nil : RpT K F [] []
  | cons {ks : List Key} {v : V} {d : D} {kvs : List (List Key × V)} {ds : List (D × D)} : Rp K F v d → RpT K F kvs ds → RpT K F ((ks, v) :: kvs) ((.tuple (ks.map keyD), d) :: ds)
/-- a dict's object: keys that are ints and texts, or tuples of them -/
inductive RpD (K : PySem.W.Frag) (F : Hp) : HO → List (D × D) → Prop
  | k {kvs : List (Key × V)} {ds : List (D × D)} : RpK K F kvs ds → RpD K F (.dK kvs) ds
  | t {kvs : List (List Key × V)} {ds : List (D × D)} : RpT K F kvs ds → RpD K F (.dT kvs) ds
end

theorem rd_same {F F' : Hp} {a : Addr} {u : HO} (e : Same F F') (h : Rd F a u) : Rd F' a u := by
  rcases h with h | ⟨o, h⟩
  · exact .inl (e _ _ h)
  · exact .inr ⟨o, e _ _ h⟩
theorem rdK_same {F F' : Hp} {a : Addr} {u : HO} (e : Same F F') (h : RdK F a u) : RdK F' a u := by
  rcases h with h | ⟨k, o, h⟩
  · exact .inl (e _ _ h)
  · exact .inr ⟨k, o, e _ _ h⟩
theorem sqT_same {K : PySem.W.Frag} {H H' : Hp} {a : Addr} {xs : List V} (e : Same H H') (h : SqT K H a xs) : SqT K H' a xs := by
  rcases h with h | h
  · exact .inl (rd_same e h)
  · exact .inr h

mutual
theorem Rp.mono {K : PySem.W.Frag} {F F' : Hp} (e : Same F F') : ∀ {v : V} {d : D}, Rp K F v d → Rp K F' v d
  | _, _, .non => .non
  | _, _, .bl b => .bl b
  | _, _, .int i => .int i
  | _, _, .str x => .str x
  | _, _, .lst h r => .lst (e _ _ h) (RpL.mono e r)
  | _, _, .tup h r => .tup (e _ _ h) (RpL.mono e r)
  | _, _, .dct h r => .dct (rdK_same e h) (RpD.mono e r)
theorem RpL.mono {K : PySem.W.Frag} {F F' : Hp} (e : Same F F') : ∀ {vs : List V} {ds : List D}, RpL K F vs ds → RpL K F' vs ds
  | _, _, .nil => .nil
  | _, _, .cons h r => .cons (Rp.mono e h) (RpL.mono e r)
theorem RpK.mono {K : PySem.W.Frag} {F F' : Hp} (e : Same F F') : ∀ {vs : List (Key × V)} {ds : List (D × D)}, RpK K F vs ds → RpK K F' vs ds
  | _, _, .nil => .nil
  | _, _, .consI h r => .consI (Rp.mono e h) (RpK.mono e r)
  | _, _, .consS h r => .consS (Rp.mono e h) (RpK.mono e r)
theorem RpT.mono {K : PySem.W.Frag} {F F' : Hp} (e : Same F F') : ∀ {vs : List (List Key × V)} {ds : List (D × D)}, RpT K F vs ds → RpT K F' vs ds
  | _, _, .nil => .nil
  | _, _, .cons h r => .cons (Rp.mono e h) (RpT.mono e r)
theorem RpD.mono {K : PySem.W.Frag} {F F' : Hp} (e : Same F F') : ∀ {o : HO} {ds : List (D × D)}, RpD K F o ds → RpD K F' o ds
  | _, _, .k r => .k (RpK.mono e r)
  | _, _, .t r => .t (RpT.mono e r)
end

theorem RpL.length {K : PySem.W.Frag} {F : Hp} : ∀ {vs : List V} {ds : List D}, RpL K F vs ds → vs.length = ds.length
  | _, _, .nil => rfl
  | _, _, .cons _ r => by simp [RpL.length r]
theorem RpL.get {K : PySem.W.Frag} {F : Hp} : ∀ {vs : List V} {ds : List D} (i : Nat), RpL K F vs ds → ∀ {d : D}, ds[i]? = some d → ∃ v, vs[i]? = some v ∧ Rp K F v d
  | _, _, _, .nil, _, h => by simp at h
  | _, _, 0, .cons h _, _, e => by simp at e; subst e; exact ⟨_, rfl, h⟩
  | _, _, i + 1, .cons _ r, _, e => by
    obtain ⟨v, h1, h2⟩ := RpL.get i r (by simpa using e)
    exact ⟨v, by simpa using h1, h2⟩
theorem RpL.getV {K : PySem.W.Frag} {F : Hp} : ∀ {vs : List V} {ds : List D} (i : Nat), RpL K F vs ds → ∀ {v : V}, vs[i]? = some v → ∃ d, ds[i]? = some d ∧ Rp K F v d
  | _, _, _, .nil, _, h => by simp at h
  | _, _, 0, .cons h _, _, e => by simp at e; subst e; exact ⟨_, rfl, h⟩
  | _, _, i + 1, .cons _ r, _, e => by
    obtain ⟨v, h1, h2⟩ := RpL.getV i r (by simpa using e)
    exact ⟨v, by simpa using h1, h2⟩
theorem RpL.append {K : PySem.W.Frag} {F : Hp} : ∀ {vs ws : List V} {ds es : List D}, RpL K F vs ds → RpL K F ws es → RpL K F (vs ++ ws) (ds ++ es)
  | _, _, _, _, .nil, s => s
  | _, _, _, _, .cons h r, s => .cons h (RpL.append r s)
theorem RpL.take {K : PySem.W.Frag} {F : Hp} : ∀ {vs : List V} {ds : List D} (n : Nat), RpL K F vs ds → RpL K F (vs.take n) (ds.take n)
  | _, _, 0, _ => by simp; exact .nil
  | _, _, _ + 1, .nil => by simp; exact .nil
  | _, _, n + 1, .cons h r => .cons h (RpL.take n r)
theorem RpL.drop {K : PySem.W.Frag} {F : Hp} : ∀ {vs : List V} {ds : List D} (n : Nat), RpL K F vs ds → RpL K F (vs.drop n) (ds.drop n)
  | _, _, 0, r => r
  | _, _, _ + 1, .nil => by simp; exact .nil
  | _, _, n + 1, .cons _ r => RpL.drop n r
theorem RpL.set {K : PySem.W.Frag} {F : Hp} : ∀ {vs : List V} {ds : List D} (n : Nat) {v : V} {d : D}, RpL K F vs ds → Rp K F v d → RpL K F (vs.set n v) (ds.set n d)
  | _, _, _, _, _, .nil, _ => .nil
  | _, _, 0, _, _, .cons _ r, h => .cons h r
  | _, _, n + 1, _, _, .cons h0 r, h => .cons h0 (RpL.set n r h)
theorem RpL.reverse {K : PySem.W.Frag} {F : Hp} : ∀ {vs : List V} {ds : List D}, RpL K F vs ds → RpL K F vs.reverse ds.reverse
  | _, _, .nil => .nil
  | _, _, .cons h r => by simp; exact (RpL.reverse r).append (.cons h .nil)

/-- no dict within -/
def plain : D → Bool
  | .none | .bool _ | .int _ | .str _ => true
  | .list xs => plainAll xs
  | .tuple xs => plainAll xs
  | .dict _ => false
where plainAll : List D → Bool
  | [] => true
  | x :: xs => plain x && plainAll xs
mutual
theorem Rp.dp {K : PySem.W.Frag} {F : Hp} : ∀ {v : V} {d : D}, plain d = true → Rp K F v d → Dp K F v d
  | _, _, _, .non => .non
  | _, _, _, .bl b => .bl b
  | _, _, _, .int i => .int i
  | _, _, _, .str x => .str x
  | _, _, p, .lst h r => .lst (SqL.of h) (RpL.dp (by simpa [plain] using p) r)
  | _, _, p, .tup h r => .tup (SqT.of h) (RpL.dp (by simpa [plain] using p) r)
  | _, _, p, .dct h r => by simp [plain] at p
theorem RpL.dp {K : PySem.W.Frag} {F : Hp} : ∀ {vs : List V} {ds : List D}, plain.plainAll ds = true → RpL K F vs ds → DpAll K F vs ds
  | _, _, _, .nil => .nil
  | _, _, p, .cons h r => by
    simp [plain.plainAll] at p
    exact .cons (Rp.dp p.1 h) (RpL.dp p.2 r)
end

/-! ### the state of a frame -/
inductive Sl where
  | no | fz (d : D) | ow (xs : List D) | od (kvs : List (D × D)) | cup | sq (xs : List D)
structure S where
  c : Int × Int
  r : List Sl
structure Fr where
  pc : Option Addr
  F0 : Hp
  H0 : Hp
abbrev S.wc (s : S) (c : Int × Int) : S := { s with c := c }
abbrev S.up (s : S) (i : Nat) (t : Sl) : S := { s with r := s.r.set i t }

/-- a tuple -/
def tpH : HO → Bool
  | .tup _ => true
  | _ => false
/-- something that is no tuple stands there -/
def Nt (H : Hp) (a : Addr) : Prop := ∃ u, H a = some u ∧ tpH u = false
theorem RpD.nt {K : PySem.W.Frag} {F : Hp} {o : HO} {ds : List (D × D)} (r : RpD K F o ds) : tpH o = false := by cases r <;> rfl
/-- the heap goes on: frozen F, whole H; the cup alone may turn; a tuple that stands may be frozen, nothing else -/
structure Go (pc : Option Addr) (F H F' H' : Hp) : Prop where
  f : Same F F'
  h : ∀ a o, pc ≠ some a → H a = some o → H' a = some o
  t : ∀ a, H a ≠ none → H' a ≠ none
  k : ∀ a, Nt H a → Nt H' a
  n : ∀ a, Nt H a → F a = none → F' a = none
theorem Go.refl (pc : Option Addr) (F H : Hp) : Go pc F H F H := ⟨Same.refl F, fun _ _ _ h => h, fun _ h => h, fun _ h => h, fun _ _ h => h⟩
theorem Go.trans {pc : Option Addr} {F H F1 H1 F2 H2 : Hp} (a : Go pc F H F1 H1) (b : Go pc F1 H1 F2 H2) : Go pc F H F2 H2 :=
  ⟨a.f.trans b.f, fun x o p h => b.h x o p (a.h x o p h), fun x h => b.t x (a.t x h), fun x h => b.k x (a.k x h), fun x h1 h2 => b.n x (a.k x h1) (a.n x h1 h2)⟩
theorem Go.weak {pc : Option Addr} {F H F' H' : Hp} (a : Go none F H F' H') : Go pc F H F' H' := ⟨a.f, fun x o _ h => a.h x o (by simp) h, a.t, a.k, a.n⟩
theorem same_none {H H' : Hp} {p : Addr} (e : Same H H') (h : H' p = none) : H p = none := e.free h
/-- a new object, frozen at once -/
theorem Go.newF {pc : Option Addr} {F H : Hp} {p : Addr} {o : HO} (s : Same F H) (h : H p = none) : Go pc F H (upd F p o) (upd H p o) where
  f := fun b u e => by rw [upd_ne (ne_of_none e (s.free h))]; exact e
  h := fun b u _ e => by rw [upd_ne (ne_of_none e h)]; exact e
  t := fun b e => by
    by_cases hb : b = p
    · subst hb; rw [upd_same]; exact fun z => nomatch z
    · rw [upd_ne hb]; exact e
  k := fun b ⟨u, e, z⟩ => ⟨u, by rw [upd_ne (ne_of_none e h)]; exact e, z⟩
  n := fun b ⟨u, e, _⟩ z => by
    rw [upd_ne (ne_of_none e h)]; exact z
/-- a new object, not frozen -/
theorem Go.newH {pc : Option Addr} {F H : Hp} {p : Addr} {o : HO} (h : H p = none) : Go pc F H F (upd H p o) where
  f := Same.refl F
  h := fun b u _ e => by rw [upd_ne (ne_of_none e h)]; exact e
  t := fun b e => by
    by_cases hb : b = p
    · subst hb; rw [upd_same]; exact fun z => nomatch z
    · rw [upd_ne hb]; exact e
  k := fun b ⟨u, e, z⟩ => ⟨u, by rw [upd_ne (ne_of_none e h)]; exact e, z⟩
  n := fun b e z => z
theorem same_updF {F H : Hp} {p : Addr} {o : HO} (s : Same F H) : Same (upd F p o) (upd H p o) := fun b u e => by
  by_cases hb : b = p
  · subst hb; rw [upd_same] at e ⊢; exact e
  · rw [upd_ne hb] at e ⊢; exact s _ _ e
theorem same_updH {F H : Hp} {p : Addr} {o : HO} (s : Same F H) (h : H p = none) : Same F (upd H p o) := fun b u e => by
  have e' := s _ _ e
  rw [upd_ne (ne_of_none e' h)]; exact e'

def CupAt (pc : Option Addr) (F H : Hp) (c : Int × Int) : Prop := ∀ p, pc = some p → F p = none ∧ H p = some (.lst [.int c.1, .int c.2])
theorem CupAt.go {pc : Option Addr} {F H F' H' : Hp} {c : Int × Int} (x : CupAt pc F H c) (g : Go none F H F' H') : CupAt pc F' H' c := fun p e => by
  obtain ⟨h1, h2⟩ := x p e
  exact ⟨g.n p ⟨_, h2, rfl⟩ h1, g.h p _ (by simp) h2⟩

/-- an object that one slot alone holds -/
structure Own (fr : Fr) (F H : Hp) (p : Addr) (o : HO) : Prop where
  h : H p = some o
  f : F p = none
  n : fr.H0 p = none
  c : fr.pc ≠ some p
def SlOk (K : PySem.W.Frag) (fr : Fr) (F H : Hp) (o : Option V) : Sl → Prop
  | .no => True
  | .fz d => ∃ v, o = some v ∧ Rp K F v d
  | .ow xs => ∃ p vs, o = some (.ref p) ∧ Own fr F H p (.lst vs) ∧ RpL K F vs xs
  | .od ds => ∃ p u, o = some (.ref p) ∧ Own fr F H p u ∧ RpD K F u ds
  | .cup => ∃ p, o = some (.ref p) ∧ fr.pc = some p
  | .sq xs => ∃ a vs, o = some (.ref a) ∧ SqL K F a vs ∧ RpL K F vs xs
def Sl.own : Sl → Bool
  | .ow _ => true
  | .od _ => true
  | _ => false
structure Sat (K : PySem.W.Frag) (fr : Fr) (s : S) (F : Hp) (σ : St) (H : Hp) : Prop where
  sub : Same F H
  go : Go fr.pc fr.F0 fr.H0 F H
  cup : CupAt fr.pc F H s.c
  len : σ.length = s.r.length
  sl : ∀ (i : Nat) t, s.r[i]? = some t → ∃ o, σ[i]? = some o ∧ SlOk K fr F H o t
  ap : ∀ (i j : Nat) t u p, s.r[i]? = some t → s.r[j]? = some u → t.own = true → u.own = true → σ[i]? = some (some (.ref p)) → σ[j]? = some (some (.ref p)) → i = j

theorem SlOk.go {K : PySem.W.Frag} {fr : Fr} {F H F' H' : Hp} {o : Option V} {t : Sl} (g : Go fr.pc F H F' H') (h : SlOk K fr F H o t) : SlOk K fr F' H' o t := by
  cases t with
  | no => trivial
  | fz d => obtain ⟨v, e, r⟩ := h; exact ⟨v, e, r.mono g.f⟩
  | ow xs => obtain ⟨p, vs, e, w, r⟩ := h; exact ⟨p, vs, e, ⟨g.h _ _ w.c w.h, g.n _ ⟨_, w.h, rfl⟩ w.f, w.n, w.c⟩, r.mono g.f⟩
  | od ds => obtain ⟨p, vs, e, w, r⟩ := h; exact ⟨p, vs, e, ⟨g.h _ _ w.c w.h, g.n _ ⟨_, w.h, r.nt⟩ w.f, w.n, w.c⟩, r.mono g.f⟩
  | cup => exact h
  | sq xs => obtain ⟨a, vs, e, h1, h2⟩ := h; exact ⟨a, vs, e, g.f.seq h1, h2.mono g.f⟩
theorem Sat.step {K : PySem.W.Frag} {fr : Fr} {s : S} {F F' H H' : Hp} {σ : St} {c : Int × Int} (h : Sat K fr s F σ H) (g : Go fr.pc F H F' H') (sb : Same F' H') (cu : CupAt fr.pc F' H' c) : Sat K fr (s.wc c) F' σ H' where
  sub := sb
  go := h.go.trans g
  cup := cu
  len := h.len
  sl := fun i t e => by
    obtain ⟨o, e1, e2⟩ := h.sl i t e
    exact ⟨o, e1, e2.go g⟩
  ap := h.ap

/-! ### results -/
structure Ex where
  n : Str
  l : Option Int
inductive R (α : Type) where
  | ok (a : α) (c : Int × Int)
  | err (x : Ex) (c : Int × Int)
  | no
abbrev M (α : Type) := S → R α
def bnd {α β : Type} (m : M α) (k : α → M β) : M β := fun s => match m s with
  | .ok a c => k a (s.wc c)
  | .err x c => .err x c
  | .no => .no
def rt {α : Type} (a : α) : M α := fun s => .ok a s.c
def lift {α : Type} (o : Option α) : M α := fun s => match o with
  | some a => .ok a s.c
  | none => .no
/-- what an exception is like -/
def ExOk (mg : Str → Option Value) (H : Hp) (x : Ex) (cls : Value) (d : Option Addr) : Prop :=
  mg x.n = some cls ∧ match x.l with
    | none => True
    | some l => ∃ dx fs, d = some dx ∧ H dx = some (.xd fs) ∧ fs.lookup ("limit" : Str) = some (.int l)
section
variable (mg : Str → Option Value) (E : XK) (fr : Fr)
def Post {α : Type} (F H : Hp) (r : R α) (k : α → Int × Int → Hp → Hp → Prop) : Prop := match r with
  | .ok a c => ∀ F' H', Go fr.pc F H F' H' → Same F' H' → CupAt fr.pc F' H' c → k a c F' H'
  | .err x c => ∀ F' H' cls d, Go fr.pc F H F' H' → Same F' H' → CupAt fr.pc F' H' c → ExOk mg H' x cls d → E cls d H'
  | .no => False
end
section
variable {mg : Str → Option Value} {E : XK} {fr : Fr} {α β : Type}
theorem Post.mono {F H : Hp} {r : R α} {k k' : α → Int × Int → Hp → Hp → Prop} (h : Post mg E fr F H r k) (hk : ∀ a c F' H', Go fr.pc F H F' H' → Same F' H' → CupAt fr.pc F' H' c → k a c F' H' → k' a c F' H') : Post mg E fr F H r k' := by
  cases r with
  | ok a c => exact fun F' H' g s u => hk a c F' H' g s u (h F' H' g s u)
  | err x c => exact h
  | no => exact h
theorem Post.from {F H F1 H1 : Hp} {r : R α} {k : α → Int × Int → Hp → Hp → Prop} (g : Go fr.pc F H F1 H1) (h : Post mg E fr F H r k) : Post mg E fr F1 H1 r k := by
  cases r with
  | ok a c => exact fun F' H' g' s u => h F' H' (g.trans g') s u
  | err x c => exact fun F' H' cls d g' s u => h F' H' cls d (g.trans g') s u
  | no => exact h
/-- one after another -/
theorem Post.bnd {F H : Hp} {m : M α} {k : α → M β} {s : S} {q : β → Int × Int → Hp → Hp → Prop} (h : Post mg E fr F H (bnd m k s) q) :
    Post mg E fr F H (m s) fun a c F1 H1 => Post mg E fr F1 H1 (k a (s.wc c)) q := by
  unfold Pu.bnd at h
  cases e : m s with
  | ok a c =>
    rw [e] at h
    exact fun F' H' g sb cu => Post.from g h
  | err x c => rw [e] at h; exact h
  | no => rw [e] at h; exact h
end

/-- borrowed: frozen, or held by one slot -/
def RpB (K : PySem.W.Frag) (pc : Option Addr) (F H : Hp) (v : V) (d : D) : Prop :=
  Rp K F v d ∨ (∃ p vs ds, v = .ref p ∧ d = .list ds ∧ H p = some (.lst vs) ∧ RpL K F vs ds ∧ pc ≠ some p) ∨ (∃ p u ds, v = .ref p ∧ d = .dict ds ∧ H p = some u ∧ RpD K F u ds ∧ pc ≠ some p)
theorem RpB.go {K : PySem.W.Frag} {pc : Option Addr} {F H F' H' : Hp} {v : V} {d : D} (g : Go pc F H F' H') (h : RpB K pc F H v d) : RpB K pc F' H' v d := by
  rcases h with h | ⟨p, vs, ds, e1, e2, h1, h2, h3⟩ | ⟨p, vs, ds, e1, e2, h1, h2, h3⟩
  · exact .inl (h.mono g.f)
  · exact .inr (.inl ⟨p, vs, ds, e1, e2, g.h _ _ h3 h1, h2.mono g.f, h3⟩)
  · exact .inr (.inr ⟨p, vs, ds, e1, e2, g.h _ _ h3 h1, h2.mono g.f, h3⟩)
/-- fresh: a list or a dict is new, all else is frozen; H the heap ahead -/
def RpF (K : PySem.W.Frag) (H F' H' : Hp) (v : V) : D → Prop
  | .list ds => ∃ p vs, v = .ref p ∧ H p = none ∧ F' p = none ∧ H' p = some (.lst vs) ∧ RpL K F' vs ds
  | .dict ds => ∃ p u, v = .ref p ∧ H p = none ∧ F' p = none ∧ H' p = some u ∧ RpD K F' u ds
  | d => Rp K F' v d

section
variable (K : PySem.W.Frag) (mg : Str → Option Value) (E : XK)
def rdE (m : M D) : TE := fun σ H Q => ∃ fr s F, Sat K fr s F σ H ∧ Post mg E fr F H (m s) fun d _ F' H' => ∀ v, Rp K F' v d → Q v H'
def rdB (m : M D) : TE := fun σ H Q => ∃ fr s F, Sat K fr s F σ H ∧ Post mg E fr F H (m s) fun d _ F' H' => ∀ v, RpB K fr.pc F' H' v d → Q v H'
def rdF (m : M D) : TE := fun σ H Q => ∃ fr s F, Sat K fr s F σ H ∧ Post mg E fr F H (m s) fun d _ F' H' => ∀ v, RpF K H F' H' v d → Q v H'
def rdT (m : M Bool) : TT := fun σ H Q => ∃ fr s F, Sat K fr s F σ H ∧ Post mg E fr F H (m s) fun b _ F' H' => Q b H'
def rdA (m : M (List D)) : TA := fun σ H Q => ∃ fr s F, Sat K fr s F σ H ∧ Post mg E fr F H (m s) fun ds _ F' H' => ∀ vs, RpL K F' vs ds → Q vs H'
/-- borrowed arguments -/
inductive RpBL (K : PySem.W.Frag) (pc : Option Addr) (F H : Hp) : List V → List D → Prop
  | nil : RpBL K pc F H [] []
  | cons {v : V} {vs : List V} {d : D} {ds : List D} : RpB K pc F H v d → RpBL K pc F H vs ds → RpBL K pc F H (v :: vs) (d :: ds)
def rdAB (m : M (List D)) : TA := fun σ H Q => ∃ fr s F, Sat K fr s F σ H ∧ Post mg E fr F H (m s) fun ds _ F' H' => ∀ vs, RpBL K fr.pc F' H' vs ds → Q vs H'
structure ItOk (J : It) (F : Hp) (ds : List D) : Prop where
  go : ∀ F1 H1 i, Same F F1 → Same F1 H1 → i < ds.length → J.go i H1
  yl : ∀ F1 H1 i x H2, Same F F1 → Same F1 H1 → J.yld i H1 x H2 → i < ds.length → ∃ d F2, ds[i]? = some d ∧ Go none F1 H1 F2 H2 ∧ Same F2 H2 ∧ Rp K F2 x d
  st : ∀ F1 H1, Same F F1 → Same F1 H1 → J.stop ds.length H1
def rdI (m : M (List D)) : TI := fun σ H Q => ∃ fr s F, Sat K fr s F σ H ∧ Post mg E fr F H (m s) fun ds _ F' H' => ∀ J, ItOk K J F' ds → Q J H'
end

inductive RS where
  | next (s : S)
  | ret (d : D) (c : Int × Int)
  | brk (s : S)
  | cnt (s : S)
  | err (x : Ex) (c : Int × Int)
  | no
abbrev MS := S → RS
def Post' (K : PySem.W.Frag) (mg : Str → Option Value) (E : XK) (fr : Fr) (D : Ends) : RS → Prop
  | .next s => ∀ F' σ' H', Sat K fr s F' σ' H' → D.nx σ' H'
  | .brk s => ∀ F' σ' H', Sat K fr s F' σ' H' → D.bk σ' H'
  | .cnt s => ∀ F' σ' H', Sat K fr s F' σ' H' → D.ct σ' H'
  | .ret d c => ∀ v F' H', Go fr.pc fr.F0 fr.H0 F' H' → Same F' H' → CupAt fr.pc F' H' c → Rp K F' v d → D.rt v H'
  | .err x c => ∀ F' H' cls d, Go fr.pc fr.F0 fr.H0 F' H' → Same F' H' → CupAt fr.pc F' H' c → ExOk mg H' x cls d → E cls d H'
  | .no => False
def rdS (K : PySem.W.Frag) (mg : Str → Option Value) (E : XK) (m : MS) : TS := fun D σ H => ∃ fr s F, Sat K fr s F σ H ∧ Post' K mg E fr D (m s)

theorem PE.imp {X : Cx} {e : Expr} {t t' : TE} (h : PE X e t) (hi : ∀ σ H Q, t' σ H Q → t σ H Q) : PE X e t' := ⟨fun pins s σ H Q I q => h.run pins s σ H Q I (hi _ _ _ q)⟩
theorem PT.imp {X : Cx} {e : Expr} {t t' : TT} (h : PT X e t) (hi : ∀ σ H Q, t' σ H Q → t σ H Q) : PT X e t' := ⟨fun pins s σ H Q I q => h.run pins s σ H Q I (hi _ _ _ q)⟩
theorem PW.imp {X : Cx} {e : Expr} {t t' : TT} (h : PW X e t) (hi : ∀ σ H Q, t' σ H Q → t σ H Q) : PW X e t' := ⟨fun wh pins s σ H Q I q => h.run wh pins s σ H Q I (hi _ _ _ q)⟩
theorem PA.imp {X : Cx} {e : List Expr} {t t' : TA} (h : PA X e t) (hi : ∀ σ H Q, t' σ H Q → t σ H Q) : PA X e t' := ⟨fun p pins s σ H Q I q => h.run p pins s σ H Q I (hi _ _ _ q)⟩
theorem PS.imp {X : Cx} {e : Stmt} {t t' : TS} (h : PS X e t) (hi : ∀ D σ H, t' D σ H → t D σ H) : PS X e t' := ⟨fun pins s σ H D I q => h.run pins s σ H D I (hi _ _ _ q)⟩
theorem PSs.imp {X : Cx} {e : List Stmt} {t t' : TS} (h : PSs X e t) (hi : ∀ D σ H, t' D σ H → t D σ H) : PSs X e t' := ⟨fun pins s σ H D I q => h.run pins s σ H D I (hi _ _ _ q)⟩
theorem PI.imp {X : Cx} {tg e : Expr} {t t' : TI} (h : PI X tg e t) (hi : ∀ σ H Q, t' σ H Q → t σ H Q) : PI X tg e t' := ⟨fun pins s σ H Q I q => h.run pins s σ H Q I (hi _ _ _ q)⟩
theorem PG.imp {X : Cx} {tg : Expr} {t t' : TG} (h : PG X tg t) (hi : ∀ v σ H Q, t' v σ H Q → t v σ H Q) : PG X tg t' := ⟨fun pins s σ H v u Q I r q => h.run pins s σ H v u Q I r (hi _ _ _ _ q)⟩

theorem rdE_B {K : PySem.W.Frag} {mg : Str → Option Value} {E : XK} {m : M D} {σ : St} {H : Hp} {Q : VK} (h : rdB K mg E m σ H Q) : rdE K mg E m σ H Q := by
  obtain ⟨fr, s, F, hs, q⟩ := h
  exact ⟨fr, s, F, hs, q.mono fun d c F' H' _ _ _ k v r => k v (.inl r)⟩
/-- a new list is frozen -/
theorem rdF_E {K : PySem.W.Frag} {mg : Str → Option Value} {E : XK} {m : M D} {σ : St} {H : Hp} {Q : VK} (h : rdE K mg E m σ H Q) : rdF K mg E m σ H Q := by
  obtain ⟨fr, s, F, hs, q⟩ := h
  refine ⟨fr, s, F, hs, ?_⟩
  cases e : m s with
  | no => rw [e] at q; exact q
  | err x c => rw [e] at q; exact q
  | ok d c =>
    rw [e] at q
    intro F' H' g sb cu v r
    have fz : ∀ (p : Addr) (o : HO), H p = none → F' p = none → H' p = some o → (∀ F2, Same F' F2 → F2 p = some o → Rp K F2 v d) → Q v H' := fun p o h1 h2 h3 h4 => by
      have s1 : Same F' (upd F' p o) := fun b u e => by rw [upd_ne (ne_of_none e h2)]; exact e
      have s2 : Same (upd F' p o) H' := fun b u e => by
        by_cases hb : b = p
        · subst hb; rw [upd_same] at e; rw [h3]; exact e
        · rw [upd_ne hb] at e; exact sb _ _ e
      refine q (upd F' p o) H' ⟨g.f.trans s1, g.h, g.t, g.k, fun a e1 e2 => ?_⟩ s2 (fun b e => ?_) v (h4 _ s1 upd_same)
      · obtain ⟨u, eu, _⟩ := id e1
        rw [upd_ne (ne_of_none eu h1)]; exact g.n a e1 e2
      · obtain ⟨c1, c2⟩ := cu b e
        have hb : b ≠ p := by
          rintro rfl
          have := hs.cup b e
          rw [h1] at this
          exact nomatch this.2
        exact ⟨by rw [upd_ne hb]; exact c1, c2⟩
    cases d with
    | list ds =>
      obtain ⟨p, vs, rfl, h1, h2, h3, h4⟩ := r
      exact fz p _ h1 h2 h3 fun F2 s2 e2 => .lst e2 (h4.mono s2)
    | dict ds =>
      obtain ⟨p, kvs, rfl, h1, h2, h3, h4⟩ := r
      exact fz p _ h1 h2 h3 fun F2 s2 e2 => .dct (.inl e2) (h4.mono s2)
    | none => exact q F' H' g sb cu v r
    | bool b => exact q F' H' g sb cu v r
    | int b => exact q F' H' g sb cu v r
    | str b => exact q F' H' g sb cu v r
    | tuple b => exact q F' H' g sb cu v r
section
variable {X : Cx} {E : XK} {e : Expr} {m : M D}
abbrev PF (X : Cx) (E : XK) (e : Expr) (m : M D) := PE X e (rdF X.K X.mg E m)
abbrev PD (X : Cx) (E : XK) (e : Expr) (m : M D) := PE X e (rdE X.K X.mg E m)
abbrev PB (X : Cx) (E : XK) (e : Expr) (m : M D) := PE X e (rdB X.K X.mg E m)
abbrev PTD (X : Cx) (E : XK) (e : Expr) (m : M Bool) := PT X e (rdT X.K X.mg E m)
abbrev PAD (X : Cx) (E : XK) (es : List Expr) (m : M (List D)) := PA X es (rdA X.K X.mg E m)
abbrev PABD (X : Cx) (E : XK) (es : List Expr) (m : M (List D)) := PA X es (rdAB X.K X.mg E m)
abbrev PSD (X : Cx) (E : XK) (st : Stmt) (m : MS) := PS X st (rdS X.K X.mg E m)
abbrev PSsD (X : Cx) (E : XK) (st : List Stmt) (m : MS) := PSs X st (rdS X.K X.mg E m)
abbrev PID (X : Cx) (E : XK) (tg e : Expr) (m : M (List D)) := PI X tg e (rdI X.K X.mg E m)
/-- fresh as frozen, frozen as borrowed -/
theorem fd (h : PF X E e m) : PD X E e m := PE.imp h fun _ _ _ q => rdF_E q
theorem db (h : PD X E e m) : PB X E e m := PE.imp h fun _ _ _ q => rdE_B q
theorem fb (h : PF X E e m) : PB X E e m := db (fd h)
end
end Pu
end

noncomputable section
set_option Elab.async false
set_option linter.all false
set_option maxRecDepth 100000
set_option maxHeartbeats 4000000
/-! Pu, second part: rules for expressions. -/
namespace Pu
open PySem PySem.Spec L2
section
variable {K : PySem.W.Frag} {mg : Str → Option Value} {E : XK} {fr : Fr} {pc : Option Addr} {F H F1 H1 F' H' : Hp} {v : V} {d : D}
theorem RpF.back (g : Go pc F H F1 H1) (h : RpF K H1 F' H' v d) : RpF K H F' H' v d := by
  have nn : ∀ p, H1 p = none → H p = none := fun p e => by
    cases q : H p with
    | none => rfl
    | some o => exact absurd e (g.t p (by rw [q]; exact fun z => nomatch z))
  cases d with
  | list ds => obtain ⟨p, vs, e, h1, h2⟩ := h; exact ⟨p, vs, e, nn p h1, h2⟩
  | dict ds => obtain ⟨p, vs, e, h1, h2⟩ := h; exact ⟨p, vs, e, nn p h1, h2⟩
  | none => exact h
  | bool b => exact h
  | int b => exact h
  | str b => exact h
  | tuple b => exact h
theorem OpR.imp {X : Cx} {f : Value → Value → Sem Value} {r r' : R2} (h : OpR X f r) (hi : ∀ x y H Q, r' x y H Q → r x y H Q) : OpR X f r' := fun pins s σ H x y v u Q I r1 r2 q => h pins s σ H x y v u Q I r1 r2 (hi _ _ _ _ q)
theorem CallR.imp {X : Cx} {f : Value} {r r' : List V → Hp → VK → Prop} (h : CallR X f r) (hi : ∀ x H Q, r' x H Q → r x H Q) : CallR X f r' := fun pins s σ H xs us Q I r1 q => h pins s σ H xs us Q I r1 (hi _ _ _ q)
theorem UnR.imp {X : Cx} {f : Value → Sem Value} {r r' : V → Hp → VK → Prop} (h : UnR X f r) (hi : ∀ x H Q, r' x H Q → r x H Q) : UnR X f r' := fun pins s σ H xs us Q I r1 q => h pins s σ H xs us Q I r1 (hi _ _ _ q)
theorem IxR.imp {X : Cx} {r r' : R2} (h : IxR X r) (hi : ∀ x y H Q, r' x y H Q → r x y H Q) : IxR X r' := fun value slice pins s σ H x y v u Q I r1 r2 q hs => h value slice pins s σ H x y v u Q I r1 r2 (hi _ _ _ _ q) hs
theorem SlR.imp {X : Cx} {r r' : V → Option Int → Option Int → Hp → VK → Prop} (h : SlR X r) (hi : ∀ x lo hi H Q, r' x lo hi H Q → r x lo hi H Q) : SlR X r' := fun pins s σ H x v vl vu lo hi' sl Q I rx hs pl pu q => h pins s σ H x v vl vu lo hi' sl Q I rx hs pl pu (hi _ _ _ _ _ q)
theorem MtR.imp {X : Cx} {id : String} {r r' : V → List V → Hp → VK → Prop} (h : MtR X id r) (hi : ∀ x xs H Q, r' x xs H Q → r x xs H Q) : MtR X id r' := fun pins s σ H x xs v us Q I r1 r2 q => h pins s σ H x xs v us Q I r1 r2 (hi _ _ _ _ q)
end

/-! ### readings of operations, by data -/
section
variable (K : PySem.W.Frag)
def Fin1 (H : Hp) (F : Hp) (z : D) (Q : VK) : Prop := ∀ v F' H', Go none F H F' H' → Same F' H' → RpF K H F' H' v z → Q v H'
def rO2 (g : D → D → Option D) : R2 := fun x y H Q => ∃ pc F d e z, RpB K pc F H x d ∧ RpB K pc F H y e ∧ Same F H ∧ g d e = some z ∧ Fin1 K H F z Q
def rO1 (g : D → Option D) : V → Hp → VK → Prop := fun x H Q => ∃ pc F d z, RpB K pc F H x d ∧ Same F H ∧ g d = some z ∧ Fin1 K H F z Q
def rC1 (g : D → Option D) : List V → Hp → VK → Prop := fun xs H Q => ∃ x, xs = [x] ∧ rO1 K g x H Q
def rC2 (g : D → D → Option D) : List V → Hp → VK → Prop := fun xs H Q => ∃ x y, xs = [x, y] ∧ rO2 K g x y H Q
def rMt1 (g : D → D → Option D) : V → List V → Hp → VK → Prop := fun x xs H Q => ∃ y, xs = [y] ∧ rO2 K g x y H Q
end
def m1 (g : D → Option D) (ma : M D) : M D := bnd ma fun x => lift (g x)
def m2 (g : D → D → Option D) (ma mb : M D) : M D := bnd ma fun x => bnd mb fun y => lift (g x y)
section
variable {K : PySem.W.Frag} {mg : Str → Option Value} {E : XK} {ma mb mc : M D} {σ : L2.St} {H : Hp} {Q : VK} {g g' : D → D → Option D} {g1 : D → Option D}
theorem Post.lift {fr : Fr} {α : Type} {F H : Hp} {o : Option α} {s : S} {k : α → Int × Int → Hp → Hp → Prop} (h : Post mg E fr F H (lift o s) k) : ∃ z, o = some z ∧ ∀ F' H', Go fr.pc F H F' H' → Same F' H' → CupAt fr.pc F' H' s.c → k z s.c F' H' := by
  cases o with
  | none => exact h.elim
  | some z => exact ⟨z, rfl, h⟩
theorem rd1 (h : rdF K mg E (m1 g1 ma) σ H Q) : tUn (rO1 K g1) (rdB K mg E ma) σ H Q := by
  obtain ⟨fr, s, F, hs, q⟩ := h
  refine ⟨fr, s, F, hs, (Post.bnd q).mono fun x c1 F1 H1 g1 sb1 cu1 q1 v rv => ?_⟩
  obtain ⟨z, e, k⟩ := q1.lift
  exact ⟨fr.pc, F1, x, z, rv, sb1, e, fun v F' H' g3 sb3 r3 => k F' H' g3.weak sb3 (cu1.go g3) v (r3.back g1)⟩
theorem rd2 (h : rdF K mg E (m2 g ma mb) σ H Q) : tOp (rO2 K g) (rdB K mg E ma) (rdB K mg E mb) σ H Q := by
  obtain ⟨fr, s, F, hs, q⟩ := h
  refine ⟨fr, s, F, hs, (Post.bnd q).mono fun x c1 F1 H1 g1 sb1 cu1 q1 v rv => ?_⟩
  refine ⟨fr, s.wc c1, F1, hs.step g1 sb1 cu1, (Post.bnd q1).mono fun y c2 F2 H2 g2 sb2 cu2 q2 w rw => ?_⟩
  obtain ⟨z, e, k⟩ := q2.lift
  exact ⟨fr.pc, F2, x, y, z, rv.go g2, rw, sb2, e, fun v F' H' g3 sb3 r3 => k F' H' g3.weak sb3 (cu2.go g3) v (r3.back (g1.trans g2))⟩
/-- a op b op c -/
def mChain (g g' : D → D → Option D) (ma mb mc : M D) : M D := bnd ma fun x => bnd mb fun y => bnd (lift (g x y)) fun z => match z with
  | .bool true => bnd mc fun w => lift (g' y w)
  | .bool false => rt (.bool false)
  | _ => lift none
theorem rd_chain (hg : ∀ x y z, g x y = some z → ∃ b, z = .bool b) (h : rdF K mg E (mChain g g' ma mb mc) σ H Q) : tChain (rO2 K g) (rO2 K g') (rdB K mg E ma) (rdB K mg E mb) (rdB K mg E mc) σ H Q := by
  obtain ⟨fr, s, F, hs, q⟩ := h
  refine ⟨fr, s, F, hs, (Post.bnd q).mono fun x c1 F1 H1 g1 sb1 cu1 q1 v rv => ?_⟩
  have hs1 := hs.step g1 sb1 cu1
  refine ⟨fr, s.wc c1, F1, hs1, (Post.bnd q1).mono fun y c2 F2 H2 g2 sb2 cu2 q2 w rw => ?_⟩
  have hs2 := hs1.step g2 sb2 cu2
  obtain ⟨z, e, k⟩ := (Post.bnd q2).lift
  obtain ⟨b, rfl⟩ := hg _ _ _ e
  refine ⟨fr.pc, F2, x, y, .bool b, rv.go g2, rw, sb2, e, fun v3 F3 H3 g3 sb3 r3 => ?_⟩
  have q3 := k F3 H3 g3.weak sb3 (cu2.go g3)
  cases r3
  refine ⟨b, rfl, ?_⟩
  have hs3 := hs2.step (g3.weak) sb3 (cu2.go g3)
  cases b with
  | true =>
    rw [if_pos rfl]
    refine ⟨fr, _, F3, hs3, (Post.bnd q3).mono fun w' c4 F4 H4 g4 sb4 cu4 q4 v4 rv4 => ?_⟩
    obtain ⟨z, e, k⟩ := q4.lift
    exact ⟨fr.pc, F4, y, w', z, (rw.go g3.weak).go g4, rv4, sb4, e, fun v F' H' g5 sb5 r5 => k F' H' g5.weak sb5 (cu4.go g5) v (r5.back (((g1.trans g2).trans g3.weak).trans g4))⟩
  | false =>
    rw [if_neg Bool.false_ne_true]
    exact q3 F3 H3 (Go.refl _ _ _) sb3 (cu2.go g3) (.bl false) (.bl false)
/-- a bool as a test -/
def boolD : D → Option Bool
  | .bool b => some b
  | _ => none
def mB (m : M D) : M Bool := bnd m fun d => lift (boolD d)
theorem rd_mB {Q : Bool → Hp → Prop} (h : rdT K mg E (mB ma) σ H Q) : rdB K mg E ma σ H fun x H' => ∃ k, x = .bl k ∧ Q k H' := by
  obtain ⟨fr, s, F, hs, q⟩ := h
  refine ⟨fr, s, F, hs, (Post.bnd q).mono fun x c1 F1 H1 g1 sb1 cu1 q1 v rv => ?_⟩
  obtain ⟨z, e, k⟩ := q1.lift
  cases x <;> first | cases e | skip
  rcases rv with r | ⟨_, _, _, _, z, _⟩ | ⟨_, _, _, _, z, _⟩
  · cases r
    exact ⟨_, rfl, k _ _ (Go.refl _ _ _) sb1 cu1⟩
  · cases z
  · cases z
theorem rd_mBF {Q : Bool → Hp → Prop} (h : rdT K mg E (mB ma) σ H Q) : rdF K mg E ma σ H fun x H' => ∃ k, x = .bl k ∧ Q k H' := rdF_E (rdE_B (rd_mB h))
def mAnd (a b : M Bool) : M Bool := bnd a fun x => match x with
  | true => b
  | false => rt false
def mOr (a b : M Bool) : M Bool := bnd a fun x => match x with
  | true => rt true
  | false => b
def mNot (a : M Bool) : M Bool := bnd a fun x => rt (!x)
def mAndV (a b : M D) : M D := bnd a fun x => match x with
  | .bool true => b
  | .bool false => rt (.bool false)
  | _ => lift none
def mOrV (a b : M D) : M D := bnd a fun x => match x with
  | .bool true => rt (.bool true)
  | .bool false => b
  | _ => lift none
def mNotV (a : M D) : M D := bnd a fun x => match x with
  | .bool b => rt (.bool (!b))
  | _ => lift none
def mIf (t : M Bool) (a b : M D) : M D := bnd t fun x => match x with
  | true => a
  | false => b
theorem rd_and {a b : M Bool} {Q : Bool → Hp → Prop} (h : rdT K mg E (mAnd a b) σ H Q) : tAnd (rdT K mg E a) (rdT K mg E b) σ H Q := by
  obtain ⟨fr, s, F, hs, q⟩ := h
  refine ⟨fr, s, F, hs, (Post.bnd q).mono fun x c1 F1 H1 g1 sb1 cu1 q1 => ?_⟩
  cases x with
  | true => exact L2.iteT (⟨fr, s.wc c1, F1, hs.step g1 sb1 cu1, q1⟩)
  | false => exact L2.iteF (q1 F1 H1 (Go.refl _ _ _) sb1 cu1)
theorem rd_or {a b : M Bool} {Q : Bool → Hp → Prop} (h : rdT K mg E (mOr a b) σ H Q) : tOr (rdT K mg E a) (rdT K mg E b) σ H Q := by
  obtain ⟨fr, s, F, hs, q⟩ := h
  refine ⟨fr, s, F, hs, (Post.bnd q).mono fun x c1 F1 H1 g1 sb1 cu1 q1 => ?_⟩
  cases x with
  | true => exact L2.iteT (q1 F1 H1 (Go.refl _ _ _) sb1 cu1)
  | false => exact L2.iteF (⟨fr, s.wc c1, F1, hs.step g1 sb1 cu1, q1⟩)
theorem rd_not {a : M Bool} {Q : Bool → Hp → Prop} (h : rdT K mg E (mNot a) σ H Q) : tNot (rdT K mg E a) σ H Q := by
  obtain ⟨fr, s, F, hs, q⟩ := h
  exact ⟨fr, s, F, hs, (Post.bnd q).mono fun x c1 F1 H1 g1 sb1 cu1 q1 => q1 F1 H1 (Go.refl _ _ _) sb1 cu1⟩
theorem Rp.bool {F : Hp} {v : V} {b : Bool} (h : Rp K F v (.bool b)) : v = .bl b := by cases h; rfl
theorem RpB.bool {pc : Option Addr} {F H : Hp} {v : V} {b : Bool} (h : RpB K pc F H v (.bool b)) : v = .bl b := by
  rcases h with h | ⟨_, _, _, _, z, _⟩ | ⟨_, _, _, _, z, _⟩
  · exact h.bool
  · cases z
  · cases z
theorem RpB.int {pc : Option Addr} {F H : Hp} {v : V} {b : Int} (h : RpB K pc F H v (.int b)) : v = .int b := by
  rcases h with h | ⟨_, _, _, _, z, _⟩ | ⟨_, _, _, _, z, _⟩
  · cases h; rfl
  · cases z
  · cases z
theorem RpB.str {pc : Option Addr} {F H : Hp} {v : V} {b : Str} (h : RpB K pc F H v (.str b)) : v = .str b := by
  rcases h with h | ⟨_, _, _, _, z, _⟩ | ⟨_, _, _, _, z, _⟩
  · cases h; rfl
  · cases z
  · cases z
theorem RpB.none {pc : Option Addr} {F H : Hp} {v : V} (h : RpB K pc F H v .none) : v = .non := by
  rcases h with h | ⟨_, _, _, _, z, _⟩ | ⟨_, _, _, _, z, _⟩
  · cases h; rfl
  · cases z
  · cases z
theorem RpB.tuple {pc : Option Addr} {F H : Hp} {v : V} {ds : List D} (h : RpB K pc F H v (.tuple ds)) : ∃ p vs, v = .ref p ∧ F p = some (.tup vs) ∧ RpL K F vs ds := by
  rcases h with h | ⟨_, _, _, _, z, _⟩ | ⟨_, _, _, _, z, _⟩
  · cases h with
    | tup h1 h2 => exact ⟨_, _, rfl, h1, h2⟩
  · cases z
  · cases z
theorem RpB.list {pc : Option Addr} {F H : Hp} {v : V} {ds : List D} (sb : Same F H) (h : RpB K pc F H v (.list ds)) : ∃ p vs, v = .ref p ∧ H p = some (.lst vs) ∧ RpL K F vs ds := by
  rcases h with h | ⟨p, vs, ds, rfl, z, h1, h2, _⟩ | ⟨_, _, _, _, z, _⟩
  · cases h with
    | lst h1 h2 => exact ⟨_, _, rfl, sb _ _ h1, h2⟩
  · cases z; exact ⟨p, vs, rfl, h1, h2⟩
  · cases z
theorem rd_andV {a b : M D} (h : rdF K mg E (mAndV a b) σ H Q) : tAndV (rdB K mg E a) (rdF K mg E b) σ H Q := by
  obtain ⟨fr, s, F, hs, q⟩ := h
  refine ⟨fr, s, F, hs, (Post.bnd q).mono fun x c1 F1 H1 g1 sb1 cu1 q1 v rv => ?_⟩
  have hs1 := hs.step g1 sb1 cu1
  cases x with
  | bool k =>
    refine ⟨k, rv.bool, ?_⟩
    cases k with
    | true => exact L2.iteT (⟨fr, s.wc c1, F1, hs1, q1.mono fun d c2 F2 H2 g2 sb2 cu2 q2 w r => q2 w (r.back g1)⟩)
    | false => exact L2.iteF (q1 F1 H1 (Go.refl _ _ _) sb1 cu1 _ (.bl false))
  | none => exact q1.elim
  | int _ => exact q1.elim
  | str _ => exact q1.elim
  | list _ => exact q1.elim
  | tuple _ => exact q1.elim
  | dict _ => exact q1.elim
theorem rd_orV {a b : M D} (h : rdF K mg E (mOrV a b) σ H Q) : tOrV (rdB K mg E a) (rdF K mg E b) σ H Q := by
  obtain ⟨fr, s, F, hs, q⟩ := h
  refine ⟨fr, s, F, hs, (Post.bnd q).mono fun x c1 F1 H1 g1 sb1 cu1 q1 v rv => ?_⟩
  have hs1 := hs.step g1 sb1 cu1
  cases x with
  | bool k =>
    refine ⟨k, rv.bool, ?_⟩
    cases k with
    | true => exact L2.iteT (q1 F1 H1 (Go.refl _ _ _) sb1 cu1 _ (.bl true))
    | false => exact L2.iteF (⟨fr, s.wc c1, F1, hs1, q1.mono fun d c2 F2 H2 g2 sb2 cu2 q2 w r => q2 w (r.back g1)⟩)
  | none => exact q1.elim
  | int _ => exact q1.elim
  | str _ => exact q1.elim
  | list _ => exact q1.elim
  | tuple _ => exact q1.elim
  | dict _ => exact q1.elim
theorem rd_notV {a : M D} (h : rdF K mg E (mNotV a) σ H Q) : tNotV (rdB K mg E a) σ H Q := by
  obtain ⟨fr, s, F, hs, q⟩ := h
  refine ⟨fr, s, F, hs, (Post.bnd q).mono fun x c1 F1 H1 g1 sb1 cu1 q1 v rv => ?_⟩
  cases x with
  | bool k => exact ⟨k, rv.bool, q1 F1 H1 (Go.refl _ _ _) sb1 cu1 _ (.bl _)⟩
  | none => exact q1.elim
  | int _ => exact q1.elim
  | str _ => exact q1.elim
  | list _ => exact q1.elim
  | tuple _ => exact q1.elim
  | dict _ => exact q1.elim
theorem rd_ifF {t : M Bool} {a b : M D} (h : rdF K mg E (mIf t a b) σ H Q) : tIf (rdT K mg E t) (rdF K mg E a) (rdF K mg E b) σ H Q := by
  obtain ⟨fr, s, F, hs, q⟩ := h
  refine ⟨fr, s, F, hs, (Post.bnd q).mono fun x c1 F1 H1 g1 sb1 cu1 q1 => ?_⟩
  have hs1 := hs.step g1 sb1 cu1
  cases x with
  | true => exact L2.iteT (⟨fr, s.wc c1, F1, hs1, q1.mono fun d c2 F2 H2 g2 sb2 cu2 q2 w r => q2 w (r.back g1)⟩)
  | false => exact L2.iteF (⟨fr, s.wc c1, F1, hs1, q1.mono fun d c2 F2 H2 g2 sb2 cu2 q2 w r => q2 w (r.back g1)⟩)
theorem rd_ifE {t : M Bool} {a b : M D} (h : rdE K mg E (mIf t a b) σ H Q) : tIf (rdT K mg E t) (rdE K mg E a) (rdE K mg E b) σ H Q := by
  obtain ⟨fr, s, F, hs, q⟩ := h
  refine ⟨fr, s, F, hs, (Post.bnd q).mono fun x c1 F1 H1 g1 sb1 cu1 q1 => ?_⟩
  have hs1 := hs.step g1 sb1 cu1
  cases x with
  | true => exact L2.iteT (⟨fr, s.wc c1, F1, hs1, q1⟩)
  | false => exact L2.iteF (⟨fr, s.wc c1, F1, hs1, q1⟩)
theorem rd_ifB {t : M Bool} {a b : M D} (h : rdB K mg E (mIf t a b) σ H Q) : tIf (rdT K mg E t) (rdB K mg E a) (rdB K mg E b) σ H Q := by
  obtain ⟨fr, s, F, hs, q⟩ := h
  refine ⟨fr, s, F, hs, (Post.bnd q).mono fun x c1 F1 H1 g1 sb1 cu1 q1 => ?_⟩
  have hs1 := hs.step g1 sb1 cu1
  cases x with
  | true => exact L2.iteT (⟨fr, s.wc c1, F1, hs1, q1⟩)
  | false => exact L2.iteF (⟨fr, s.wc c1, F1, hs1, q1⟩)
/-- names -/
def slB (i : Nat) : M D := fun s => match s.r[i]? with
  | some (.fz d) => .ok d s.c
  | some (.ow xs) => .ok (.list xs) s.c
  | some (.od xs) => .ok (.dict xs) s.c
  | _ => .no
def slE (i : Nat) : M D := fun s => match s.r[i]? with
  | some (.fz d) => .ok d s.c
  | _ => .no
theorem rd_slB {i : Nat} (h : rdB K mg E (slB i) σ H Q) : tVar i σ H Q := by
  obtain ⟨fr, s, F, hs, q⟩ := h
  unfold slB at q
  split at q
  · rename_i d e
    obtain ⟨o, e1, v, rfl, r⟩ := hs.sl i _ e
    exact ⟨v, e1, q F H (Go.refl _ _ _) hs.sub hs.cup v (.inl r)⟩
  · rename_i d e
    obtain ⟨o, e1, p, vs, rfl, w, r⟩ := hs.sl i _ e
    exact ⟨_, e1, q F H (Go.refl _ _ _) hs.sub hs.cup _ (.inr (.inl ⟨p, vs, _, rfl, rfl, w.h, r, w.c⟩))⟩
  · rename_i d e
    obtain ⟨o, e1, p, vs, rfl, w, r⟩ := hs.sl i _ e
    exact ⟨_, e1, q F H (Go.refl _ _ _) hs.sub hs.cup _ (.inr (.inr ⟨p, vs, _, rfl, rfl, w.h, r, w.c⟩))⟩
  · exact q.elim
theorem rd_slE {i : Nat} (h : rdE K mg E (slE i) σ H Q) : tVar i σ H Q := by
  obtain ⟨fr, s, F, hs, q⟩ := h
  unfold slE at q
  split at q
  · rename_i d e
    obtain ⟨o, e1, v, rfl, r⟩ := hs.sl i _ e
    exact ⟨v, e1, q F H (Go.refl _ _ _) hs.sub hs.cup v r⟩
  · exact q.elim
/-- a constant -/
theorem rd_c {v : V} {d : D} (hr : ∀ H F' H', RpF K H F' H' v d) (h : rdF K mg E (rt d) σ H Q) : tC v σ H Q := by
  obtain ⟨fr, s, F, hs, q⟩ := h
  exact q F H (Go.refl _ _ _) hs.sub hs.cup v (hr _ _ _)
/-- arguments -/
def aNil : M (List D) := rt []
def aCons (a : M D) (b : M (List D)) : M (List D) := bnd a fun x => bnd b fun xs => rt (x :: xs)
theorem rd_anil {Q : List V → Hp → Prop} (h : rdA K mg E aNil σ H Q) : tNil σ H Q := by
  obtain ⟨fr, s, F, hs, q⟩ := h
  exact q F H (Go.refl _ _ _) hs.sub hs.cup [] .nil
theorem rd_acons {a : M D} {b : M (List D)} {Q : List V → Hp → Prop} (h : rdA K mg E (aCons a b) σ H Q) : tCons (rdE K mg E a) (rdA K mg E b) σ H Q := by
  obtain ⟨fr, s, F, hs, q⟩ := h
  refine ⟨fr, s, F, hs, (Post.bnd q).mono fun x c1 F1 H1 g1 sb1 cu1 q1 v rv => ?_⟩
  refine ⟨fr, s.wc c1, F1, hs.step g1 sb1 cu1, (Post.bnd q1).mono fun ys c2 F2 H2 g2 sb2 cu2 q2 vs rs => ?_⟩
  exact q2 F2 H2 (Go.refl _ _ _) sb2 cu2 (v :: vs) (.cons (rv.mono g2.f) rs)
theorem leN_ex : ∃ f : Nat → Bool, ∀ n, f n = true ↔ n ≤ sizeLine := ⟨fun n => decide (n ≤ sizeLine), fun _ => decide_eq_true_iff⟩
/-- tests of size, chosen so that no one computes them -/
noncomputable def leN : Nat → Bool := Classical.choose leN_ex
theorem leN_iff {n : Nat} : leN n = true ↔ n ≤ sizeLine := Classical.choose_spec leN_ex n
theorem leN_le {n : Nat} (h : leN n = true) : n ≤ sizeLine := leN_iff.mp h
theorem ltN_ex : ∃ f : Nat → Bool, ∀ n, f n = true ↔ n < sizeLine := ⟨fun n => decide (n < sizeLine), fun _ => decide_eq_true_iff⟩
noncomputable def ltN : Nat → Bool := Classical.choose ltN_ex
theorem ltN_iff {n : Nat} : ltN n = true ↔ n < sizeLine := Classical.choose_spec ltN_ex n
theorem ltN_lt {n : Nat} (h : ltN n = true) : n < sizeLine := ltN_iff.mp h
def lenOk {α : Type} (xs : List α) : Bool := leN xs.length
def mTup (m : M (List D)) : M D := bnd m fun xs => lift (if lenOk xs = true then some (.tuple xs) else none)
def mLst (m : M (List D)) : M D := bnd m fun xs => lift (if lenOk xs = true then some (.list xs) else none)
theorem lenOk_le {α : Type} {xs : List α} (h : lenOk xs = true) : xs.length ≤ sizeLine := leN_le h
theorem new_tup {fr : Fr} {F H : Hp} {p : Addr} {vs : List V} {ds : List D} (sb : Same F H) (hp : H p = none) (r : RpL K F vs ds) :
    Go none F H (upd F p (.tup vs)) (upd H p (.tup vs)) ∧ Same (upd F p (.tup vs)) (upd H p (.tup vs)) ∧ Rp K (upd F p (.tup vs)) (.ref p) (.tuple ds) :=
  ⟨Go.newF sb hp, same_updF sb, .tup upd_same (r.mono (Go.newF (pc := none) sb hp).f)⟩
theorem new_lst {F H : Hp} {p : Addr} {vs : List V} {ds : List D} (sb : Same F H) (hp : H p = none) (r : RpL K F vs ds) :
    Go none F H F (upd H p (.lst vs)) ∧ Same F (upd H p (.lst vs)) ∧ RpF K H F (upd H p (.lst vs)) (.ref p) (.list ds) :=
  ⟨Go.newH hp, same_updH sb hp, ⟨p, vs, rfl, hp, sb.free hp, upd_same, r⟩⟩
theorem rd_tup {m : M (List D)} (h : rdF K mg E (mTup m) σ H Q) : tTup (rdA K mg E m) σ H Q := by
  obtain ⟨fr, s, F, hs, q⟩ := h
  refine ⟨fr, s, F, hs, (Post.bnd q).mono fun xs c1 F1 H1 g1 sb1 cu1 q1 vs rv => ?_⟩
  obtain ⟨z, e, k⟩ := q1.lift
  split at e
  · rename_i hl
    cases e
    refine ⟨by rw [rv.length]; exact lenOk_le hl, fun p hp => ?_⟩
    obtain ⟨g2, sb2, r2⟩ := new_tup (fr := fr) sb1 hp rv
    exact k _ _ g2.weak sb2 (cu1.go g2) _ r2
  · cases e
theorem rd_lst {m : M (List D)} (h : rdF K mg E (mLst m) σ H Q) : tLst (rdA K mg E m) σ H Q := by
  obtain ⟨fr, s, F, hs, q⟩ := h
  refine ⟨fr, s, F, hs, (Post.bnd q).mono fun xs c1 F1 H1 g1 sb1 cu1 q1 vs rv => ?_⟩
  obtain ⟨z, e, k⟩ := q1.lift
  split at e
  · rename_i hl
    cases e
    refine ⟨by rw [rv.length]; exact lenOk_le hl, fun p hp => ?_⟩
    obtain ⟨g2, sb2, r2⟩ := new_lst (K := K) sb1 hp rv
    exact k _ _ g2.weak sb2 (cu1.go g2) _ (r2.back g1)
  · cases e
end

/-! ### the rules -/
section
variable {X : Cx} {E : XK} {a b c e : Expr} {rest es : List Expr} {ma mb mc : M D} {ta tb : M Bool} {mas : M (List D)} {pos p : Pos} {x : Str} {g g' : D → D → Option D} {g1 : D → Option D}
theorem pf_int {i : Int} {j : Nat} : PF X E (.Constant (.int i) j pos) (rt (.int i)) := PE.imp pe_int fun _ _ _ => rd_c fun _ _ _ => .int i
theorem pf_bl {i : Bool} {j : Nat} : PF X E (.Constant (.bool i) j pos) (rt (.bool i)) := PE.imp pe_bl fun _ _ _ => rd_c fun _ _ _ => .bl i
theorem pf_str {i : Str} {j : Nat} : PF X E (.Constant (.str i) j pos) (rt (.str i)) := PE.imp pe_str fun _ _ _ => rd_c fun _ _ _ => .str i
theorem pf_non {j : Nat} : PF X E (.Constant .none j pos) (rt .none) := PE.imp pe_non fun _ _ _ => rd_c fun _ _ _ => .non
theorem pb_v (i : Nat) (hN : X.N[i]? = some x := by rfl) (hv : Vis X.env.scope x := by first | exact Or.inl rfl | exact Or.inr (Or.inl rfl) | exact Or.inr (Or.inr rfl)) (hd : (x == ("__debug__" : Str)) = false := by decide)
    (hcd : (x == ("__classdict__" : Str)) = false := by decide) : PB X E (.Name x pos) (slB i) := PE.imp (pe_var hN hv hd hcd) fun _ _ _ => rd_slB
theorem pd_v (i : Nat) (hN : X.N[i]? = some x := by rfl) (hv : Vis X.env.scope x := by first | exact Or.inl rfl | exact Or.inr (Or.inl rfl) | exact Or.inr (Or.inr rfl)) (hd : (x == ("__debug__" : Str)) = false := by decide)
    (hcd : (x == ("__classdict__" : Str)) = false := by decide) : PD X E (.Name x pos) (slE i) := PE.imp (pe_var hN hv hd hcd) fun _ _ _ => rd_slE
/-- a module's constant: an int, a text -/
theorem pf_gi {i : Int} (hg : Gl X x) (hm : ∃ t, X.mg x = some (.int i t)) (hd : (x == ("__debug__" : Str)) = false := by decide) : PF X E (.Name x pos) (rt (.int i)) := by
  obtain ⟨t, hm⟩ := hm
  exact PE.imp (pe_glob (v := .int i) hg hm ⟨t, rfl⟩ hd) fun _ _ _ => rd_c fun _ _ _ => .int i
theorem pf_gs {i : Str} (hg : Gl X x) (hm : ∃ t, X.mg x = some (.str i t)) (hd : (x == ("__debug__" : Str)) = false := by decide) : PF X E (.Name x pos) (rt (.str i)) := by
  obtain ⟨t, hm⟩ := hm
  exact PE.imp (pe_glob (v := .str i) hg hm ⟨t, rfl⟩ hd) fun _ _ _ => rd_c fun _ _ _ => .str i
theorem pf_op {op : Operator} (ho : OpR X (binaryOp op) (rO2 X.K g)) (ha : PB X E a ma) (hb : PB X E b mb) : PF X E (.BinOp a op b pos) (m2 g ma mb) := PE.imp (pe_op ho ha hb) fun _ _ _ => rd2
theorem pf_un {op : UnaryOp} (ho : UnR X (unaryOp op) (rO1 X.K g1)) (ha : PB X E a ma) : PF X E (.UnaryOp op a pos) (m1 g1 ma) := PE.imp (pe_un ho ha) fun _ _ _ => rd1
theorem pf_cmp {op : CmpOp} (ho : OpR X (compareOp op) (rO2 X.K g)) (ha : PB X E a ma) (hb : PB X E b mb) (hm : behindInMarks op b = false := by exact nomark _) : PF X E (.Compare a [op] [b] pos) (m2 g ma mb) := PE.imp (pe_cmpR ho ha hb hm) fun _ _ _ => rd2
theorem pt_cmp {op : CmpOp} (ho : OpR X (compareOp op) (rO2 X.K g)) (ha : PB X E a ma) (hb : PB X E b mb) (hm : behindInMarks op b = false := by exact nomark _) : PTD X E (.Compare a [op] [b] pos) (mB (m2 g ma mb)) :=
  PT.imp (pt_cmpR ho ha hb hm) fun _ _ _ q => rd2 (rd_mBF q)
theorem pf_chain {op op' : CmpOp} (ho : OpR X (compareOp op) (rO2 X.K g)) (ho' : OpR X (compareOp op') (rO2 X.K g')) (hg : ∀ x y z, g x y = some z → ∃ b, z = .bool b) (ha : PB X E a ma) (hb : PB X E b mb) (hc : PB X E c mc)
    (hm : lastMarks [op, op'] [b, c] = false := by with_unfolding_all rfl) : PF X E (.Compare a [op, op'] [b, c] pos) (mChain g g' ma mb mc) := PE.imp (pe_chain ho ho' ha hb hc hm) fun _ _ _ => rd_chain hg
theorem pt_chain {op op' : CmpOp} (ho : OpR X (compareOp op) (rO2 X.K g)) (ho' : OpR X (compareOp op') (rO2 X.K g')) (hg : ∀ x y z, g x y = some z → ∃ b, z = .bool b) (ha : PB X E a ma) (hb : PB X E b mb) (hc : PB X E c mc)
    (hm : lastMarks [op, op'] [b, c] = false := by with_unfolding_all rfl) : PTD X E (.Compare a [op, op'] [b, c] pos) (mB (mChain g g' ma mb mc)) := PT.imp (L2.pt_chain ho ho' ha hb hc hm) fun _ _ _ q => rd_chain hg (rd_mBF q)
theorem pt_e (h : PB X E e ma) (he : ∀ whole, isTrue e X.env whole = (do let v ← whole; standAt e.pos; holding [v] (truthy v)) := by intro _; rfl) : PTD X E e (mB ma) := PT.imp (pt_val h he) fun _ _ _ => rd_mB
theorem pw_and (ha : PTD X E a ta) (hb : PW X (.BoolOp .And (b :: rest) pos) (rdT X.K X.mg E tb)) : PW X (.BoolOp .And (a :: b :: rest) pos) (rdT X.K X.mg E (mAnd ta tb)) := PW.imp (L2.pw_and ha hb) fun _ _ _ => rd_and
theorem pw_or (ha : PTD X E a ta) (hb : PW X (.BoolOp .Or (b :: rest) pos) (rdT X.K X.mg E tb)) : PW X (.BoolOp .Or (a :: b :: rest) pos) (rdT X.K X.mg E (mOr ta tb)) := PW.imp (L2.pw_or ha hb) fun _ _ _ => rd_or
theorem pt_not (ha : PTD X E a ta) : PTD X E (.UnaryOp .Not a pos) (mNot ta) := PT.imp (L2.pt_not ha) fun _ _ _ => rd_not
theorem pf_and (ha : PB X E a ma) (hb : PF X E (.BoolOp .And (b :: rest) pos) mb) : PF X E (.BoolOp .And (a :: b :: rest) pos) (mAndV ma mb) := PE.imp (L2.pe_and ha hb) fun _ _ _ => rd_andV
theorem pf_or (ha : PB X E a ma) (hb : PF X E (.BoolOp .Or (b :: rest) pos) mb) : PF X E (.BoolOp .Or (a :: b :: rest) pos) (mOrV ma mb) := PE.imp (L2.pe_or ha hb) fun _ _ _ => rd_orV
theorem pf_not (ha : PB X E a ma) : PF X E (.UnaryOp .Not a pos) (mNotV ma) := PE.imp (L2.pe_not ha) fun _ _ _ => rd_notV
theorem pf_if (hc : PTD X E c ta) (ha : PF X E a ma) (hb : PF X E b mb) : PF X E (.IfExp c a b pos) (mIf ta ma mb) := PE.imp (pe_ifExp hc ha hb) fun _ _ _ => rd_ifF
theorem pd_if (hc : PTD X E c ta) (ha : PD X E a ma) (hb : PD X E b mb) : PD X E (.IfExp c a b pos) (mIf ta ma mb) := PE.imp (pe_ifExp hc ha hb) fun _ _ _ => rd_ifE
theorem pb_if (hc : PTD X E c ta) (ha : PB X E a ma) (hb : PB X E b mb) : PB X E (.IfExp c a b pos) (mIf ta ma mb) := PE.imp (pe_ifExp hc ha hb) fun _ _ _ => rd_ifB
theorem pa_nil : PAD X E [] aNil := PA.imp L2.pa_nil fun _ _ _ => rd_anil
theorem pa_cons (ha : PD X E e ma) (hr : PAD X E es mas) (hs : starEach (e :: es) X.env = (false, eval e X.env) :: starEach es X.env := by rfl) : PAD X E (e :: es) (aCons ma mas) := PA.imp (L2.pa_cons ha hr hs) fun _ _ _ => rd_acons
theorem pf_tup {k : Nat} (h : PAD X E es mas) : PF X E (.Tuple es k pos) (mTup mas) := PE.imp (pe_tup h) fun _ _ _ => rd_tup
theorem pf_lst (h : PAD X E es mas) : PF X E (.List es pos) (mLst mas) := PE.imp (pe_lst h) fun _ _ _ => rd_lst
/-- f(a), f(a, b): built-in functions and types -/
theorem pf_b1 {id : String} (hc : CallR X (.builtin id) (rC1 X.K g1)) (hg : Gl X x) (hm : X.mg x = none) (hv : bootBuiltins x = some (.builtin id)) (ha : PB X E a ma) (hn : x ≠ "__name__" := by decide) (hdb : (x == ("__debug__" : Str)) = false := by decide)
    (he : starEach [a] X.env = [(false, eval a X.env)] := by rfl) : PF X E (.Call (.Name x p) [a] [] pos) (m1 g1 ma) :=
  PE.imp (pe_callB hc hg hm hv (L2.pa_cons ha L2.pa_nil he) hn hdb he rfl) fun σ H Q q => by
    have q := rd1 q
    exact q.imp fun fr ⟨s, F, hs, k⟩ => ⟨s, F, hs, k.mono fun d c F' H' _ _ _ q2 v r => ⟨v, rfl, q2 v r⟩⟩
theorem pf_t1 {T : String} (hc : CallR X (.type T) (rC1 X.K g1)) (hg : Gl X x) (hm : X.mg x = none) (hv : bootBuiltins x = some (.type T)) (ha : PB X E a ma) (hn : x ≠ "__name__" := by decide) (hdb : (x == ("__debug__" : Str)) = false := by decide)
    (he : starEach [a] X.env = [(false, eval a X.env)] := by rfl) : PF X E (.Call (.Name x p) [a] [] pos) (m1 g1 ma) :=
  PE.imp (pe_callTy hc hg hm hv (L2.pa_cons ha L2.pa_nil he) hn hdb he rfl) fun σ H Q q => by
    have q := rd1 q
    exact q.imp fun fr ⟨s, F, hs, k⟩ => ⟨s, F, hs, k.mono fun d c F' H' _ _ _ q2 v r => ⟨v, rfl, q2 v r⟩⟩
theorem rd2_args {K : PySem.W.Frag} {mg : Str → Option Value} {σ : L2.St} {H : Hp} {Q : VK} (q : rdF K mg E (m2 g ma mb) σ H Q) : tCB (rC2 K g) (tCons (rdB K mg E ma) (tCons (rdB K mg E mb) tNil)) σ H Q :=
  (rd2 q).imp fun fr ⟨s, F, hs, k⟩ => ⟨s, F, hs, k.mono fun d c F' H' _ _ _ q2 v r => (q2 v r).imp fun fr2 ⟨s2, F2, hs2, k2⟩ => ⟨s2, F2, hs2, k2.mono fun d2 c2 F3 H3 _ _ _ q3 w r2 => ⟨v, w, rfl, q3 w r2⟩⟩⟩
theorem pf_b2 {id : String} (hc : CallR X (.builtin id) (rC2 X.K g)) (hg : Gl X x) (hm : X.mg x = none) (hv : bootBuiltins x = some (.builtin id)) (ha : PB X E a ma) (hb : PB X E b mb) (hn : x ≠ "__name__" := by decide) (hdb : (x == ("__debug__" : Str)) = false := by decide)
    (he : starEach [a, b] X.env = [(false, eval a X.env), (false, eval b X.env)] := by rfl) (he2 : starEach [b] X.env = [(false, eval b X.env)] := by rfl) : PF X E (.Call (.Name x p) [a, b] [] pos) (m2 g ma mb) :=
  PE.imp (pe_callB hc hg hm hv (L2.pa_cons ha (L2.pa_cons hb L2.pa_nil he2) (by rw [he2]; exact he)) hn hdb (by rw [he2]; exact he) (by rw [he2]; rfl)) fun σ H Q q => rd2_args q
/-- isinstance(a, T) -/
theorem pe_isi {T id : String} {pT : Pos} (hc : ∀ (y : V), y = .ty T → CallR X (.builtin id) fun xs H Q => ∃ x, xs = [x, y] ∧ rO1 X.K g1 x H Q) (hg : Gl X x) (hm : X.mg x = none) (hv : bootBuiltins x = some (.builtin id)) (ha : PB X E a ma) {t : Str}
    (hgT : Gl X t) (hmT : X.mg t = none) (hvT : bootBuiltins t = some (.type T)) (hn : x ≠ "__name__" := by decide) (hdb : (x == ("__debug__" : Str)) = false := by decide) (hnT : t ≠ "__name__" := by decide) (hdT : (t == ("__debug__" : Str)) = false := by decide)
    (he : starEach [a, .Name t pT] X.env = [(false, eval a X.env), (false, eval (.Name t pT) X.env)] := by rfl) (he2 : starEach [.Name t pT] X.env = [(false, eval (.Name t pT) X.env)] := by rfl) : PF X E (.Call (.Name x p) [a, .Name t pT] [] pos) (m1 g1 ma) :=
  PE.imp (pe_callB (hc _ rfl) hg hm hv (L2.pa_cons ha (L2.pa_cons (pe_bltn (v := .ty T) hgT hmT hvT rfl hnT hdT) L2.pa_nil he2) (by rw [he2]; exact he)) hn hdb (by rw [he2]; exact he) (by rw [he2]; rfl)) fun σ H Q q => by
    have q := rd1 q
    exact q.imp fun fr ⟨s, F, hs, k⟩ => ⟨s, F, hs, k.mono fun d c F' H' _ _ _ q2 v r => ⟨v, rfl, q2 v r⟩⟩
/-- a[b] -/
theorem pf_ix (hr : IxR X (rO2 X.K g)) (ha : PB X E a ma) (hb : PB X E b mb) (hs : PlainIx b := by exact fun _ _ => rfl) : PF X E (.Subscript a b pos) (m2 g ma mb) := PE.imp (pe_ix hr ha hb hs) fun _ _ _ => rd2
end
end Pu
end

noncomputable section
set_option Elab.async false
set_option linter.all false
set_option maxRecDepth 100000
set_option maxHeartbeats 4000000
/-! Pu, third part: what operations do to data. -/
namespace Pu
open PySem PySem.Spec L2

mutual
theorem plain_of_lay : ∀ d : D, d.canLay0 = true → plain d = true
  | .none, _ => rfl
  | .bool _, _ => rfl
  | .int _, _ => rfl
  | .str _, _ => rfl
  | .list xs, h => plainAll_of_lay xs (by simpa [PyData.canLay0] using h)
  | .tuple xs, h => plainAll_of_lay xs (by simpa [PyData.canLay0] using h)
  | .dict _, h => by simp [PyData.canLay0] at h
theorem plainAll_of_lay : ∀ ds : List D, PyData.canLayAll0 ds = true → plain.plainAll ds = true
  | [], _ => rfl
  | x :: xs, h => by
    simp [PyData.canLayAll0] at h
    simp [plain.plainAll, plain_of_lay x h.1, plainAll_of_lay xs h.2]
end
section
variable {K : PySem.W.Frag} {pc : Option Addr} {F H : Hp} {v : V} {d : D}
theorem RpB.dpH (sb : Same F H) (p : plain d = true) (h : RpB K pc F H v d) : Dp K H v d := by
  rcases h with h | ⟨p', vs, ds, rfl, rfl, h1, h2, _⟩ | ⟨_, _, _, _, rfl, _⟩
  · exact (h.mono sb).dp p
  · exact .lst (SqL.of h1) ((h2.mono sb).dp (by simpa [plain] using p))
  · simp [plain] at p
theorem atI_map {vs : List V} {ds : List D} (r : RpL K F vs ds) {i : Int} {d : D} (h : atI ds i = some d) : ∃ v, atI vs i = some v ∧ Rp K F v d := by
  unfold atI at h ⊢
  rw [r.length]
  cases e : ixN ds.length i with
  | none => rw [e] at h; cases h
  | some j =>
    rw [e] at h
    exact r.get j h
end
/-! ### + - * // % -/
def addD : D → D → Option D
  | .int i, .int j => some (.int (i + j))
  | .str a, .str b => if leN (a.length + b.length) = true then some (.str (a ++ b)) else none
  | .list a, .list b => if leN (a.length + b.length) = true then some (.list (a ++ b)) else none
  | .tuple a, .tuple b => if leN (a.length + b.length) = true then some (.tuple (a ++ b)) else none
  | _, _ => none
def subD : D → D → Option D
  | .int i, .int j => some (.int (i - j))
  | _, _ => none
theorem smallI_ex : ∃ f : Int → Bool, ∀ i, f i = true ↔ (-(2 ^ 64) < i ∧ i < 2 ^ 64) := ⟨fun i => decide (-(2 ^ 64) < i ∧ i < 2 ^ 64), fun _ => decide_eq_true_iff⟩
noncomputable def smallI : Int → Bool := Classical.choose smallI_ex
theorem smallI_i {i : Int} : smallI i = true ↔ (-(2 ^ 64) < i ∧ i < 2 ^ 64) := Classical.choose_spec smallI_ex i
def repS (a : Str) (k : Int) : Str := if k < 1 then Str.empty else ⟨(List.replicate k.toNat a.cps).foldl (· ++ ·) #[]⟩
theorem foldl_repN (l : List Nat) : ∀ (m : Nat) (acc : List Nat), (List.replicate m l.toArray).foldl (· ++ ·) acc.toArray = (acc ++ (List.replicate m l).flatten).toArray
  | 0, acc => by simp
  | m + 1, acc => by
    have := foldl_repN l m (acc ++ l)
    simp only [List.replicate_succ, List.foldl_cons, List.flatten_cons, List.append_toArray, ← List.append_assoc]
    exact this
theorem repS_cps (a : Str) {k : Int} (h : ¬ k < 1) : (repS a k) = ⟨(List.replicate k.toNat a.cps.toList).flatten.toArray⟩ := by
  unfold repS
  rw [if_neg h]
  have := foldl_repN a.cps.toList k.toNat []
  simp only [Array.toArray_toList, List.nil_append] at this
  rw [← this]
theorem repOk_ex : ∃ f : Str → Int → Bool, ∀ a k, f a k = true ↔ (-1000000 ≤ k ∧ k ≤ 1000 ∧ a.length ≤ 1000) := ⟨fun a k => decide (-1000000 ≤ k ∧ k ≤ 1000 ∧ a.length ≤ 1000), fun _ _ => decide_eq_true_iff⟩
noncomputable def repOk : Str → Int → Bool := Classical.choose repOk_ex
theorem repOk_i {a : Str} {k : Int} : repOk a k = true ↔ (-1000000 ≤ k ∧ k ≤ 1000 ∧ a.length ≤ 1000) := Classical.choose_spec repOk_ex a k
def mulD : D → D → Option D
  | .int i, .int j => if (smallI i || smallI j) = true then some (.int (i * j)) else none
  | .str a, .int k => if repOk a k = true then some (.str (repS a k)) else none
  | _, _ => none
def fdivD : D → D → Option D
  | .int i, .int j => if j ≠ 0 ∧ j.natAbs < 1073741824 then some (.int (i.fdiv j)) else none
  | _, _ => none
def modD : D → D → Option D
  | .int i, .int j => if j ≠ 0 then some (.int (i.fmod j)) else none
  | _, _ => none
def negD : D → Option D
  | .int i => some (.int (-i))
  | _ => none
section
variable {X : Cx}
theorem od_add : OpR X (binaryOp .Add) (rO2 X.K addD) := by
  refine OpR.imp ((op_add.or op_add_str).or (op_cat.or op_catA)) fun x y H Q ⟨pc, F, d, e, z, r1, r2, sb, h, q⟩ => ?_
  unfold addD at h
  split at h
  · cases h
    exact .inl (.inl ⟨_, _, r1.int, r2.int, q _ _ _ (Go.refl _ _ _) sb (.int _)⟩)
  · split at h
    · rename_i hl
      cases h
      exact .inl (.inr ⟨_, _, r1.str, r2.str, leN_le hl, q _ _ _ (Go.refl _ _ _) sb (.str _)⟩)
    · cases h
  · split at h
    · rename_i hl
      cases h
      obtain ⟨p, vs, rfl, h1, k1⟩ := r1.list sb
      obtain ⟨p', ws, rfl, h2, k2⟩ := r2.list sb
      refine .inr (.inl ⟨p, p', vs, ws, rfl, rfl, h1, h2, by rw [k1.length, k2.length]; exact leN_le hl, fun t ht => ?_⟩)
      obtain ⟨g, s2, r3⟩ := new_lst (K := X.K) sb ht (k1.append k2)
      exact q _ _ _ g s2 r3
    · cases h
  · split at h
    · rename_i hl
      cases h
      obtain ⟨p, vs, rfl, h1, k1⟩ := r1.tuple
      obtain ⟨p', ws, rfl, h2, k2⟩ := r2.tuple
      refine .inr (.inr ⟨p, p', vs, ws, rfl, rfl, SqT.of (sb _ _ h1), SqT.of (sb _ _ h2), by rw [k1.length, k2.length]; exact leN_le hl, fun e1 => ?_, fun e1 e2 => ?_, fun e1 e2 t ht => ?_⟩)
      · subst e1
        cases k1
        exact q _ _ _ (Go.refl _ _ _) sb (.tup h2 k2)
      · subst e2
        cases k2
        rw [List.append_nil] at q
        exact q _ _ _ (Go.refl _ _ _) sb (.tup h1 k1)
      · obtain ⟨g, s2, r3⟩ := new_tup (K := X.K) (fr := ⟨none, F, H⟩) sb ht (k1.append k2)
        exact q _ _ _ g s2 r3
    · cases h
  · cases h
theorem od_sub : OpR X (binaryOp .Sub) (rO2 X.K subD) := by
  refine OpR.imp op_sub fun x y H Q ⟨pc, F, d, e, z, r1, r2, sb, h, q⟩ => ?_
  unfold subD at h
  split at h
  · cases h
    exact ⟨_, _, r1.int, r2.int, q _ _ _ (Go.refl _ _ _) sb (.int _)⟩
  · cases h
theorem smallI_iff {i : Int} (h : smallI i = true) : -(2 ^ 64) < i ∧ i < 2 ^ 64 := smallI_i.mp h
theorem op_mulS {X : Cx} : OpR X (binaryOp .Mult) (fun x y H Q => ∃ (a : Str) (k : Int), x = .str a ∧ y = .int k ∧ -1000000 ≤ k ∧ k ≤ 1000 ∧ a.length ≤ 1000 ∧ Q (.str (repS a k)) H) := by
  intro pins s σ H x y v u Q I rx ry h
  obtain ⟨a, k, rfl, rfl, h1, h2, h3, q⟩ := h
  obtain ⟨t, rfl⟩ := rx
  obtain ⟨u, rfl⟩ := ry
  have hlen : a.length * k.toNat ≤ 1000000 := by
    have : a.length * k.toNat ≤ 1000 * 1000 := Nat.mul_le_mul h3 (by omega)
    omega
  refine PySem.P.mul_str ?_ ?_ ?_ ?_
  · rw [decide_eq_false (by omega), decide_eq_false (by omega)]; rfl
  · intro a1 a2
    have hk : 1 ≤ k := by omega
    have : (1000 : Int) ≤ (2 ^ 63 - 1) / k := by
      rw [Int.le_ediv_iff_mul_le (by omega)]
      omega
    omega
  · intro a1 a2
    exact decide_eq_false (by rw [sizeLine_eq]; omega)
  · split
    · rename_i hk
      refine ⟨by decide, Str.empty |> V.str, H, I.tok _, ⟨_, rfl⟩, ?_⟩
      have e : repS a k = Str.empty := if_pos hk
      rw [e] at q; exact q
    · rename_i hk
      split
      · rename_i hk2
        refine ⟨.str a, H, I, ⟨_, rfl⟩, ?_⟩
        have e : repS a k = a := by
          rw [repS_cps a hk]
          rcases Bool.or_eq_true _ _ ▸ hk2 with e | e
          · have e : k = 1 := by simpa using e
            subst e
            simp
          · have e : a.length = 0 := by simpa using e
            have e : a.cps = #[] := Array.eq_empty_of_size_eq_zero e
            cases a
            simp only at e
            subst e
            simp
        rw [e] at q; exact q
      · refine ⟨?_, .str (repS a k), H, I.tok _, ⟨_, by rw [repS, if_neg hk]⟩, q⟩
        have := repS_cps a hk
        rw [repS, if_neg hk] at this
        rw [this, sizeLine_eq]
        show (List.flatten (List.replicate k.toNat a.cps.toList)).toArray.size ≤ _
        have e : a.cps.size = a.length := rfl
        simp [e]
        rw [Nat.mul_comm]; omega
theorem od_mul : OpR X (binaryOp .Mult) (rO2 X.K mulD) := by
  refine OpR.imp (OpR.or op_mul op_mulS) fun x y H Q ⟨pc, F, d, e, z, r1, r2, sb, h, q⟩ => ?_
  unfold mulD at h
  split at h
  · split at h
    · rename_i hl
      cases h
      refine .inl ⟨_, _, r1.int, r2.int, ?_, q _ _ _ (Go.refl _ _ _) sb (.int _)⟩
      rcases Bool.or_eq_true _ _ ▸ hl with hl | hl
      · exact .inl (smallI_iff hl)
      · exact .inr (smallI_iff hl)
    · cases h
  · split at h
    · rename_i hl
      cases h
      obtain ⟨l1, l2, l3⟩ := repOk_i.mp hl
      exact .inr ⟨_, _, r1.str, r2.int, l1, l2, l3, q _ _ _ (Go.refl _ _ _) sb (.str _)⟩
    · cases h
  · cases h
theorem od_fdiv : OpR X (binaryOp .FloorDiv) (rO2 X.K fdivD) := by
  refine OpR.imp op_fdivN fun x y H Q ⟨pc, F, d, e, z, r1, r2, sb, h, q⟩ => ?_
  unfold fdivD at h
  split at h
  · split at h
    · rename_i hl
      cases h
      exact ⟨_, _, r1.int, r2.int, hl, q _ _ _ (Go.refl _ _ _) sb (.int _)⟩
    · cases h
  · cases h
theorem od_mod : OpR X (binaryOp .Mod) (rO2 X.K modD) := by
  refine OpR.imp op_modN fun x y H Q ⟨pc, F, d, e, z, r1, r2, sb, h, q⟩ => ?_
  unfold modD at h
  split at h
  · split at h
    · rename_i hl
      cases h
      exact ⟨_, _, r1.int, r2.int, hl, q _ _ _ (Go.refl _ _ _) sb (.int _)⟩
    · cases h
  · cases h
theorem ud_neg : UnR X (unaryOp .USub) (rO1 X.K negD) := by
  refine UnR.imp un_neg fun x H Q ⟨pc, F, d, z, r1, sb, h, q⟩ => ?_
  unfold negD at h
  split at h
  · cases h
    exact ⟨_, r1.int, q _ _ _ (Go.refl _ _ _) sb (.int _)⟩
  · cases h
end
/-! ### comparisons -/
def cps (x : Str) : List Nat := x.cps.toList
def ltD : D → D → Option D
  | .int i, .int j => some (.bool (decide (i < j)))
  | .str a, .str b => some (.bool (decide (cps a < cps b)))
  | _, _ => none
def leD : D → D → Option D
  | .int i, .int j => some (.bool (decide (i ≤ j)))
  | .str a, .str b => some (.bool (!decide (cps b < cps a)))
  | _, _ => none
def gtD : D → D → Option D
  | .int i, .int j => some (.bool (decide (j < i)))
  | .str a, .str b => some (.bool (decide (cps b < cps a)))
  | _, _ => none
def geD : D → D → Option D
  | .int i, .int j => some (.bool (decide (j ≤ i)))
  | .str a, .str b => some (.bool (!decide (cps a < cps b)))
  | _, _ => none
def isD : D → D → Option D
  | x, .none => some (.bool (match x with | .none => true | _ => false))
  | .bool a, .bool b => some (.bool (decide (a = b)))
  | _, _ => none
def isnD : D → D → Option D
  | x, .none => some (.bool (match x with | .none => false | _ => true))
  | .bool a, .bool b => some (.bool (!decide (a = b)))
  | _, _ => none
def scalD : D → D → Bool
  | .none, .none => true | .none, .int _ => true | .int _, .none => true | .none, .bool _ => true | .bool _, .none => true | .none, .str _ => true | .str _, .none => true
  | .int _, .int _ => true | .bool _, .bool _ => true | .str _, .str _ => true
  | .int _, .str _ => true | .str _, .int _ => true | .bool _, .str _ => true | .str _, .bool _ => true
  | _, _ => false
def eqD (x y : D) : Option D := if (scalD x y || (SeqAt.shaped x && SeqAt.shaped y)) = true then some (.bool (PyData.eqv x y)) else none
def neD (x y : D) : Option D := if (scalD x y || (SeqAt.shaped x && SeqAt.shaped y)) = true then some (.bool (!PyData.eqv x y)) else none
theorem ltD_b : ∀ x y z, ltD x y = some z → ∃ b, z = .bool b := by
  intro x y z h; unfold ltD at h; split at h <;> first | (cases h; exact ⟨_, rfl⟩) | cases h
theorem leD_b : ∀ x y z, leD x y = some z → ∃ b, z = .bool b := by
  intro x y z h; unfold leD at h; split at h <;> first | (cases h; exact ⟨_, rfl⟩) | cases h
section
variable {X : Cx}
theorem od_lt : OpR X (compareOp .Lt) (rO2 X.K ltD) := by
  refine OpR.imp (op_lt.or op_lt_str) fun x y H Q ⟨pc, F, d, e, z, r1, r2, sb, h, q⟩ => ?_
  unfold ltD at h
  split at h
  · cases h; exact .inl ⟨_, _, r1.int, r2.int, q _ _ _ (Go.refl _ _ _) sb (.bl _)⟩
  · cases h; exact .inr ⟨_, _, r1.str, r2.str, q _ _ _ (Go.refl _ _ _) sb (.bl _)⟩
  · cases h
theorem od_le : OpR X (compareOp .LtE) (rO2 X.K leD) := by
  refine OpR.imp (op_le.or op_le_str) fun x y H Q ⟨pc, F, d, e, z, r1, r2, sb, h, q⟩ => ?_
  unfold leD at h
  split at h
  · cases h; exact .inl ⟨_, _, r1.int, r2.int, q _ _ _ (Go.refl _ _ _) sb (.bl _)⟩
  · cases h; exact .inr ⟨_, _, r1.str, r2.str, q _ _ _ (Go.refl _ _ _) sb (.bl _)⟩
  · cases h
theorem od_gt : OpR X (compareOp .Gt) (rO2 X.K gtD) := by
  refine OpR.imp (op_gt.or op_gt_str) fun x y H Q ⟨pc, F, d, e, z, r1, r2, sb, h, q⟩ => ?_
  unfold gtD at h
  split at h
  · cases h; exact .inl ⟨_, _, r1.int, r2.int, q _ _ _ (Go.refl _ _ _) sb (.bl _)⟩
  · cases h; exact .inr ⟨_, _, r1.str, r2.str, q _ _ _ (Go.refl _ _ _) sb (.bl _)⟩
  · cases h
theorem od_ge : OpR X (compareOp .GtE) (rO2 X.K geD) := by
  refine OpR.imp (op_ge.or op_ge_str) fun x y H Q ⟨pc, F, d, e, z, r1, r2, sb, h, q⟩ => ?_
  unfold geD at h
  split at h
  · cases h; exact .inl ⟨_, _, r1.int, r2.int, q _ _ _ (Go.refl _ _ _) sb (.bl _)⟩
  · cases h; exact .inr ⟨_, _, r1.str, r2.str, q _ _ _ (Go.refl _ _ _) sb (.bl _)⟩
  · cases h
theorem RpB.isNon {pc : Option Addr} {K : PySem.W.Frag} {F H : Hp} {v : V} {d : D} (h : RpB K pc F H v d) : decide (v = .non) = (match d with | .none => true | _ => false) := by
  rcases h with h | ⟨_, _, _, rfl, rfl, _⟩ | ⟨_, _, _, rfl, rfl, _⟩
  · cases h <;> rfl
  · rfl
  · rfl
theorem od_is : OpR X (compareOp .Is) (rO2 X.K isD) := by
  refine OpR.imp (op_isN.or op_is_bl) fun x y H Q ⟨pc, F, d, e, z, r1, r2, sb, h, q⟩ => ?_
  unfold isD at h
  split at h
  · cases h
    refine .inl ⟨r2.none, ?_⟩
    rw [r1.isNon]
    have := q (.bl _) _ _ (Go.refl _ _ _) sb (.bl _)
    cases d <;> exact this
  · cases h
    exact .inr ⟨_, _, r1.bool, r2.bool, q _ _ _ (Go.refl _ _ _) sb (.bl _)⟩
  · cases h
theorem od_isn : OpR X (compareOp .IsNot) (rO2 X.K isnD) := by
  refine OpR.imp (op_notN.or op_isnot_bl) fun x y H Q ⟨pc, F, d, e, z, r1, r2, sb, h, q⟩ => ?_
  unfold isnD at h
  split at h
  · cases h
    refine .inl ⟨r2.none, ?_⟩
    rw [r1.isNon]
    have := q (.bl _) _ _ (Go.refl _ _ _) sb (.bl _)
    cases d <;> exact this
  · cases h
    exact .inr ⟨_, _, r1.bool, r2.bool, q _ _ _ (Go.refl _ _ _) sb (.bl _)⟩
  · cases h
theorem scal_ok {pc : Option Addr} {K : PySem.W.Frag} {F H : Hp} {x y : V} {d e : D} (hs : scalD d e = true) (r1 : RpB K pc F H x d) (r2 : RpB K pc F H y e) : scal x y = true ∧ decide (x = y) = PyData.eqv d e := by
  unfold scalD at hs
  split at hs
  all_goals first
    | (cases hs; done)
    | (first | (have e1 := r1.int; subst e1) | (have e1 := r1.bool; subst e1) | (have e1 := r1.str; subst e1) | (have e1 := r1.none; subst e1)
       first | (have e2 := r2.int; subst e2) | (have e2 := r2.bool; subst e2) | (have e2 := r2.str; subst e2) | (have e2 := r2.none; subst e2)
       refine ⟨rfl, ?_⟩
       first | rw [dec_int] | rw [dec_bl] | rw [dec_str] | skip
       first | (simp [PyData.eqv]; done) | rfl | (simp [PyData.eqv]; decide))
theorem shaped_plain {d : D} (h : SeqAt.shaped d = true) : plain d = true := plain_of_lay d (SeqAt.canLay_of_shaped h)
theorem od_eq (hu : X.A.units + 64 < cLine) : OpR X (compareOp .Eq) (rO2 X.K eqD) := by
  refine OpR.imp (op_eq.or (op_eqD hu)) fun x y H Q ⟨pc, F, d, e, z, r1, r2, sb, h, q⟩ => ?_
  unfold eqD at h
  split at h
  · rename_i hc
    cases h
    have q' := q (.bl (PyData.eqv d e)) _ _ (Go.refl _ _ _) sb (.bl _)
    rcases Bool.or_eq_true _ _ ▸ hc with hc | hc
    · obtain ⟨h1, h2⟩ := scal_ok hc r1 r2
      exact .inl ⟨h1, by rw [h2]; exact q'⟩
    · have hc := Bool.and_eq_true_iff.mp hc
      exact .inr ⟨d, e, r1.dpH sb (shaped_plain hc.1), r2.dpH sb (shaped_plain hc.2), hc.1, hc.2, q'⟩
  · cases h
theorem od_ne (hu : X.A.units + 64 < cLine) : OpR X (compareOp .NotEq) (rO2 X.K neD) := by
  refine OpR.imp (op_ne.or (op_neD hu)) fun x y H Q ⟨pc, F, d, e, z, r1, r2, sb, h, q⟩ => ?_
  unfold neD at h
  split at h
  · rename_i hc
    cases h
    have q' := q (.bl (!PyData.eqv d e)) _ _ (Go.refl _ _ _) sb (.bl _)
    rcases Bool.or_eq_true _ _ ▸ hc with hc | hc
    · obtain ⟨h1, h2⟩ := scal_ok hc r1 r2
      exact .inl ⟨h1, by rw [h2]; exact q'⟩
    · have hc := Bool.and_eq_true_iff.mp hc
      exact .inr ⟨d, e, r1.dpH sb (shaped_plain hc.1), r2.dpH sb (shaped_plain hc.2), hc.1, hc.2, q'⟩
  · cases h
end
/-! ### subscripts -/
def ixD : D → D → Option D
  | .list xs, .int i => atI xs i
  | .tuple xs, .int i => atI xs i
  | .str z, .int i => if leN z.length = true then (atI (cps z) i).map fun c => .str ⟨#[c]⟩ else none
  | _, _ => none
/-- an item that is frozen: any list or dict within is not new -/
theorem finE {K : PySem.W.Frag} {F H : Hp} {d : D} {Q : VK} {v : V} (q : ∀ v F' H', Go none F H F' H' → Same F' H' → Rp K F' v d → Q v H') (sb : Same F H) (r : Rp K F v d) : Q v H := q v F H (Go.refl _ _ _) sb r
/-- readings whose answer is frozen -/
def FinE (K : PySem.W.Frag) (H : Hp) (F : Hp) (z : D) (Q : VK) : Prop := ∀ v F' H', Go none F H F' H' → Same F' H' → Rp K F' v z → Q v H'
def rO2E (K : PySem.W.Frag) (g : D → D → Option D) : R2 := fun x y H Q => ∃ pc F d e z, RpB K pc F H x d ∧ RpB K pc F H y e ∧ Same F H ∧ g d e = some z ∧ FinE K H F z Q
def rO1E (K : PySem.W.Frag) (g : D → Option D) : V → Hp → VK → Prop := fun x H Q => ∃ pc F d z, RpB K pc F H x d ∧ Same F H ∧ g d = some z ∧ FinE K H F z Q
def rC1E (K : PySem.W.Frag) (g : D → Option D) : List V → Hp → VK → Prop := fun xs H Q => ∃ x, xs = [x] ∧ rO1E K g x H Q
section
variable {K : PySem.W.Frag} {mg : Str → Option Value} {E : XK} {ma mb mc : M D} {σ : L2.St} {H : Hp} {Q : VK} {g g' : D → D → Option D} {g1 : D → Option D}
theorem rd1E (h : rdE K mg E (m1 g1 ma) σ H Q) : tUn (rO1E K g1) (rdB K mg E ma) σ H Q := by
  obtain ⟨fr, s, F, hs, q⟩ := h
  refine ⟨fr, s, F, hs, (Post.bnd q).mono fun x c1 F1 H1 g1 sb1 cu1 q1 v rv => ?_⟩
  obtain ⟨z, e, k⟩ := q1.lift
  exact ⟨fr.pc, F1, x, z, rv, sb1, e, fun v F' H' g3 sb3 r3 => k F' H' g3.weak sb3 (cu1.go g3) v r3⟩
theorem rd2E (h : rdE K mg E (m2 g ma mb) σ H Q) : tOp (rO2E K g) (rdB K mg E ma) (rdB K mg E mb) σ H Q := by
  obtain ⟨fr, s, F, hs, q⟩ := h
  refine ⟨fr, s, F, hs, (Post.bnd q).mono fun x c1 F1 H1 g1 sb1 cu1 q1 v rv => ?_⟩
  refine ⟨fr, s.wc c1, F1, hs.step g1 sb1 cu1, (Post.bnd q1).mono fun y c2 F2 H2 g2 sb2 cu2 q2 w rw => ?_⟩
  obtain ⟨z, e, k⟩ := q2.lift
  exact ⟨fr.pc, F2, x, y, z, rv.go g2, rw, sb2, e, fun v F' H' g3 sb3 r3 => k F' H' g3.weak sb3 (cu2.go g3) v r3⟩
end
section
variable {X : Cx} {E : XK} {a b : Expr} {ma mb : M D} {pos p : Pos} {x : Str}
theorem RpB.listF {K : PySem.W.Frag} {pc : Option Addr} {F H : Hp} {v : V} {ds : List D} (sb : Same F H) (h : RpB K pc F H v (.list ds)) : ∃ p vs, v = .ref p ∧ SqL K H p vs ∧ RpL K F vs ds := by
  obtain ⟨p, vs, e, h1, h2⟩ := h.list sb
  exact ⟨p, vs, e, SqL.of h1, h2⟩
theorem ixd : IxR X (rO2E X.K ixD) := by
  refine IxR.imp ix_seq fun x y H Q ⟨pc, F, d, e, z, r1, r2, sb, h, q⟩ => ?_
  unfold ixD at h
  split at h
  · obtain ⟨p, vs, rfl, h1, k1⟩ := r1.listF sb
    obtain ⟨v, e, r⟩ := atI_map k1 h
    exact .inl ⟨p, vs, _, v, rfl, r2.int, h1, e, q _ _ _ (Go.refl _ _ _) sb r⟩
  · obtain ⟨p, vs, rfl, h1, k1⟩ := r1.tuple
    obtain ⟨v, e, r⟩ := atI_map k1 h
    exact .inr (.inl ⟨p, vs, _, v, rfl, r2.int, SqT.of (sb _ _ h1), e, q _ _ _ (Go.refl _ _ _) sb r⟩)
  · split at h
    · rename_i z' i hl
      cases e1 : atI (cps z') i with
      | none => rw [e1] at h; cases h
      | some c =>
        rw [e1] at h
        cases h
        exact .inr (.inr ⟨_, _, c, r1.str, r2.int, leN_le hl, e1, q _ _ _ (Go.refl _ _ _) sb (.str _)⟩)
    · cases h
  · cases h
theorem pd_ix (ha : PB X E a ma) (hb : PB X E b mb) (hs : PlainIx b := by exact fun _ _ => rfl) : PD X E (.Subscript a b pos) (m2 ixD ma mb) := PE.imp (pe_ix ixd ha hb hs) fun _ _ _ => rd2E
/-! ### slices -/
end
/-- a frozen bool is fresh -/
def mBd (m : M D) : M D := bnd m fun d => match d with
  | .bool b => rt (.bool b)
  | _ => lift none
theorem ef_b {X : Cx} {E : XK} {e : Expr} {m : M D} (h : PD X E e m) : PF X E e (mBd m) := PE.imp h fun σ H Q ⟨fr, s, F, hs, q⟩ => ⟨fr, s, F, hs, (Post.bnd q).mono fun d c F' H' g sb cu q1 v r => by
  cases d with
  | bool b => exact q1 F' H' (Go.refl _ _ _) sb cu v r
  | none => exact q1.elim
  | int _ => exact q1.elim
  | str _ => exact q1.elim
  | list _ => exact q1.elim
  | tuple _ => exact q1.elim
  | dict _ => exact q1.elim⟩
/-! ### built-ins -/
def lenD : D → Option D
  | .str x => if leN x.length = true then some (.int x.length) else none
  | .list xs => some (.int xs.length)
  | .tuple xs => some (.int xs.length)
  | _ => none
def absD : D → Option D
  | .int i => some (.int (if i < 0 then -i else i))
  | _ => none
def min2D : D → D → Option D
  | .int i, .int j => some (.int (if j < i then j else i))
  | _, _ => none
def max2D : D → D → Option D
  | .int i, .int j => some (.int (if j > i then j else i))
  | _, _ => none
def intD : D → Option D
  | .int i => some (.int i)
  | .bool k => some (.int (if k then 1 else 0))
  | _ => none
def strD : D → Option D
  | .str a => some (.str a)
  | .int i => if i.natAbs.log2 < 1920 then some (.str (toString i)) else none
  | _ => none
@[simp] def boolsD : List D → Option (List Bool)
  | [] => some []
  | .bool b :: r => (boolsD r).map (b :: ·)
  | _ => none
@[simp] def intsD : List D → Option (List Int)
  | [] => some []
  | .int b :: r => (intsD r).map (b :: ·)
  | _ => none
def allD : D → Option D
  | .list xs => (boolsD xs).map fun bs => .bool (bs.all id)
  | _ => none
def anyD : D → Option D
  | .list xs => (boolsD xs).map fun bs => .bool (bs.any id)
  | _ => none
def sumD : D → Option D
  | .list xs => (intsD xs).map fun ns => .int ns.sum
  | _ => none
def tyN : D → String
  | .none => "NoneType" | .bool _ => "bool" | .int _ => "int" | .str _ => "str" | .list _ => "list" | .tuple _ => "tuple" | .dict _ => "dict"
def isIntD : D → Option D
  | .int _ => some (.bool true) | .bool _ => some (.bool true) | _ => some (.bool false)
def isBoolD : D → Option D
  | .bool _ => some (.bool true) | _ => some (.bool false)
def isStrD : D → Option D
  | .str _ => some (.bool true) | _ => some (.bool false)
def isTupD : D → Option D
  | .tuple _ => some (.bool true) | _ => some (.bool false)
def isLstD : D → Option D
  | .list _ => some (.bool true) | _ => some (.bool false)
def listD : D → Option D
  | .list xs => some (.list xs)
  | .tuple xs => some (.list xs)
  | _ => none
def tupD : D → Option D
  | .list xs => some (.tuple xs)
  | .tuple xs => some (.tuple xs)
  | _ => none
def powD : D → D → Option D
  | .int i, .int j => if 0 ≤ j ∧ j ≤ 1000000 ∧ i.natAbs < 2 ^ 64 then some (.int (i ^ j.toNat)) else none
  | _, _ => none
section
variable {X : Cx}
theorem od_pow : OpR X (binaryOp .Pow) (rO2 X.K powD) := by
  refine OpR.imp op_pow fun x y H Q ⟨pc, F, d, e, z, r1, r2, sb, h, q⟩ => ?_
  unfold powD at h
  split at h
  · split at h
    · rename_i hl
      cases h
      exact ⟨_, _, r1.int, r2.int, hl, q _ _ _ (Go.refl _ _ _) sb (.int _)⟩
    · cases h
  · cases h
theorem cd_list : CallR X (.type "list") (rC1 X.K listD) := by
  refine CallR.imp call_list_of fun xs H Q ⟨x, e, pc, F, d, z, r, sb, h, q⟩ => ?_
  subst e
  unfold listD at h
  split at h
  · cases h
    obtain ⟨p, vs, rfl, h1, k1⟩ := r.listF sb
    refine ⟨p, vs, rfl, .inl h1, fun t ht => ?_⟩
    obtain ⟨g, s2, r3⟩ := new_lst (K := X.K) sb ht k1
    exact q _ _ _ g s2 r3
  · cases h
    obtain ⟨p, vs, rfl, h1, k1⟩ := r.tuple
    refine ⟨p, vs, rfl, .inr (SqT.of (sb _ _ h1)), fun t ht => ?_⟩
    obtain ⟨g, s2, r3⟩ := new_lst (K := X.K) sb ht k1
    exact q _ _ _ g s2 r3
  · cases h
theorem cd_tuple : CallR X (.type "tuple") (rC1 X.K tupD) := by
  refine CallR.imp call_tuple_of fun xs H Q ⟨x, e, pc, F, d, z, r, sb, h, q⟩ => ?_
  subst e
  unfold tupD at h
  split at h
  · cases h
    obtain ⟨p, vs, rfl, h1, k1⟩ := r.listF sb
    refine ⟨p, vs, rfl, .inl ⟨h1, fun t ht => ?_⟩⟩
    obtain ⟨g, s2, r3⟩ := new_tup (K := X.K) (fr := ⟨none, F, H⟩) sb ht k1
    exact q _ _ _ g s2 r3
  · cases h
    obtain ⟨p, vs, rfl, h1, k1⟩ := r.tuple
    exact ⟨p, vs, rfl, .inr ⟨SqT.of (sb _ _ h1), q _ _ _ (Go.refl _ _ _) sb (.tup h1 k1)⟩⟩
  · cases h
end
section
variable {X : Cx}
theorem RpL.bools {K : PySem.W.Frag} {F : Hp} : ∀ {vs : List V} {ds : List D} {bs : List Bool}, RpL K F vs ds → boolsD ds = some bs → vs = bs.map V.bl
  | _, _, _, .nil, h => by cases h; rfl
  | _, .bool b :: r, bs, .cons h t, e => by
    unfold boolsD at e
    cases e1 : boolsD r with
    | none => rw [e1] at e; cases e
    | some bs' =>
      rw [e1] at e
      cases e
      cases h
      rw [RpL.bools t e1]
      rfl
  | _, .int _ :: _, _, _, e => by cases e
  | _, .none :: _, _, _, e => by cases e
  | _, .str _ :: _, _, _, e => by cases e
  | _, .list _ :: _, _, _, e => by cases e
  | _, .tuple _ :: _, _, _, e => by cases e
  | _, .dict _ :: _, _, _, e => by cases e
theorem RpL.ints {K : PySem.W.Frag} {F : Hp} : ∀ {vs : List V} {ds : List D} {bs : List Int}, RpL K F vs ds → intsD ds = some bs → vs = bs.map V.int
  | _, _, _, .nil, h => by cases h; rfl
  | _, .int b :: r, bs, .cons h t, e => by
    unfold intsD at e
    cases e1 : intsD r with
    | none => rw [e1] at e; cases e
    | some bs' =>
      rw [e1] at e
      cases e
      cases h
      rw [RpL.ints t e1]
      rfl
  | _, .bool _ :: _, _, _, e => by cases e
  | _, .none :: _, _, _, e => by cases e
  | _, .str _ :: _, _, _, e => by cases e
  | _, .list _ :: _, _, _, e => by cases e
  | _, .tuple _ :: _, _, _, e => by cases e
  | _, .dict _ :: _, _, _, e => by cases e
theorem cd_len : CallR X (.builtin "len") (rC1 X.K lenD) := by
  refine CallR.imp call_len fun xs H Q ⟨x, e, pc, F, d, z, r, sb, h, q⟩ => ?_
  subst e
  refine ⟨x, ?_⟩
  unfold lenD at h
  split at h
  · split at h
    · rename_i hl
      cases h
      rw [r.str]
      exact ⟨_, rfl, ⟨leN_le hl, rfl⟩, q _ _ _ (Go.refl _ _ _) sb (.int _)⟩
    · cases h
  · cases h
    obtain ⟨p, vs, rfl, h1, k1⟩ := r.listF sb
    refine ⟨vs.length, rfl, .inl ⟨vs, h1, rfl⟩, ?_⟩
    rw [k1.length]
    exact q _ _ _ (Go.refl _ _ _) sb (.int _)
  · cases h
    obtain ⟨p, vs, rfl, h1, k1⟩ := r.tuple
    refine ⟨vs.length, rfl, .inr ⟨vs, SqT.of (sb _ _ h1), rfl⟩, ?_⟩
    rw [k1.length]
    exact q _ _ _ (Go.refl _ _ _) sb (.int _)
  · cases h
theorem cd_abs : CallR X (.builtin "abs") (rC1 X.K absD) := by
  refine CallR.imp call_abs fun xs H Q ⟨x, e, pc, F, d, z, r, sb, h, q⟩ => ?_
  subst e
  unfold absD at h
  split at h
  · cases h
    exact ⟨_, by rw [r.int], q _ _ _ (Go.refl _ _ _) sb (.int _)⟩
  · cases h
theorem cd_min2 (hc : X.calm = true) : CallR X (.builtin "min") (rC2 X.K min2D) := by
  refine CallR.imp (call_min2 hc) fun xs H Q ⟨x, y, e, pc, F, d, d', z, r, r', sb, h, q⟩ => ?_
  subst e
  unfold min2D at h
  split at h
  · cases h
    exact ⟨_, _, by rw [r.int, r'.int], q _ _ _ (Go.refl _ _ _) sb (.int _)⟩
  · cases h
theorem cd_max2 (hc : X.calm = true) : CallR X (.builtin "max") (rC2 X.K max2D) := by
  refine CallR.imp (call_max2 hc) fun xs H Q ⟨x, y, e, pc, F, d, d', z, r, r', sb, h, q⟩ => ?_
  subst e
  unfold max2D at h
  split at h
  · cases h
    exact ⟨_, _, by rw [r.int, r'.int], q _ _ _ (Go.refl _ _ _) sb (.int _)⟩
  · cases h
theorem cd_int : CallR X (.type "int") (rC1 X.K intD) := by
  refine CallR.imp call_int1 fun xs H Q ⟨x, e, pc, F, d, z, r, sb, h, q⟩ => ?_
  subst e
  unfold intD at h
  split at h
  · cases h
    exact .inl ⟨_, by rw [r.int], q _ _ _ (Go.refl _ _ _) sb (.int _)⟩
  · cases h
    exact .inr ⟨_, by rw [r.bool], q _ _ _ (Go.refl _ _ _) sb (.int _)⟩
  · cases h
theorem cd_str : CallR X (.type "str") (rC1 X.K strD) := by
  refine CallR.imp (SkE.call_str_str.or call_str_int) fun xs H Q ⟨x, e, pc, F, d, z, r, sb, h, q⟩ => ?_
  subst e
  unfold strD at h
  split at h
  · cases h
    exact .inl ⟨_, by rw [r.str], q _ _ _ (Go.refl _ _ _) sb (.str _)⟩
  · split at h
    · rename_i hl
      cases h
      exact .inr ⟨_, by rw [r.int], hl, q _ _ _ (Go.refl _ _ _) sb (.str _)⟩
    · cases h
  · cases h
theorem cd_all (hc : X.calm = true) : CallR X (.builtin "all") (rC1 X.K allD) := by
  refine CallR.imp (cr_all hc) fun xs H Q ⟨x, e, pc, F, d, z, r, sb, h, q⟩ => ?_
  subst e
  unfold allD at h
  split at h
  · rename_i ds
    obtain ⟨p, vs, rfl, h1, k1⟩ := r.listF sb
    cases e1 : boolsD ds with
    | none => rw [e1] at h; cases h
    | some bs =>
      rw [e1] at h
      cases h
      rw [k1.bools e1] at h1
      exact ⟨p, bs, rfl, h1, q _ _ _ (Go.refl _ _ _) sb (.bl _)⟩
  · cases h
theorem cd_any (hc : X.calm = true) : CallR X (.builtin "any") (rC1 X.K anyD) := by
  refine CallR.imp (cr_any hc) fun xs H Q ⟨x, e, pc, F, d, z, r, sb, h, q⟩ => ?_
  subst e
  unfold anyD at h
  split at h
  · rename_i ds
    obtain ⟨p, vs, rfl, h1, k1⟩ := r.listF sb
    cases e1 : boolsD ds with
    | none => rw [e1] at h; cases h
    | some bs =>
      rw [e1] at h
      cases h
      rw [k1.bools e1] at h1
      exact ⟨p, bs, rfl, h1, q _ _ _ (Go.refl _ _ _) sb (.bl _)⟩
  · cases h
theorem cd_sum (hc : X.calm = true) : CallR X (.builtin "sum") (rC1 X.K sumD) := by
  refine CallR.imp (cr_sum hc) fun xs H Q ⟨x, e, pc, F, d, z, r, sb, h, q⟩ => ?_
  subst e
  unfold sumD at h
  split at h
  · rename_i ds
    obtain ⟨p, vs, rfl, h1, k1⟩ := r.listF sb
    cases e1 : intsD ds with
    | none => rw [e1] at h; cases h
    | some bs =>
      rw [e1] at h
      cases h
      rw [k1.ints e1] at h1
      exact ⟨p, bs, rfl, h1, q _ _ _ (Go.refl _ _ _) sb (.int _)⟩
  · cases h
theorem RpB.ty {K : PySem.W.Frag} {pc : Option Addr} {F H : Hp} {v : V} {d : D} (sb : Same F H) (h : RpB K pc F H v d) : TyX K H v (.type (tyN d)) := by
  rcases h with h | ⟨_, _, _, rfl, rfl, h1, _⟩ | ⟨_, _, _, rfl, rfl, h1, _⟩
  · cases h with
    | non => exact .base .non
    | bl b => exact .base (.bl b)
    | int b => exact .base (.int b)
    | str b => exact .base (.str b)
    | lst h1 _ => exact .base (.lst (sb _ _ h1))
    | tup h1 _ => exact .base (.tup (sb _ _ h1))
    | dct h1 r =>
      rcases h1 with h1 | ⟨⟨_, rfl⟩, o, h1⟩
      · cases r with
        | k _ => exact .base (.dK (sb _ _ h1))
        | t _ => exact .base (.dT (sb _ _ h1))
      · exact .fDict (sb _ _ h1)
  · exact .base (.lst h1)
  · rename_i r
    cases r.1 with
    | k _ => exact .base (.dK h1)
    | t _ => exact .base (.dT h1)
theorem cd_isi {T : String} {g : D → Option D} (hg : ∀ d, ∃ b, g d = some (.bool b) ∧ kitB (tyN d) T = some b) (y : V) (hy : y = .ty T) : CallR X (.builtin "isinstance") fun xs H Q => ∃ x, xs = [x, y] ∧ rO1 X.K g x H Q := by
  subst hy
  refine CallR.imp call_isi fun xs H Q ⟨x, e, pc, F, d, z, r, sb, h, q⟩ => ?_
  subst e
  obtain ⟨b, e1, e2⟩ := hg d
  rw [e1] at h
  cases h
  exact ⟨x, .ty T, _, _, b, rfl, .ty T, r.ty sb, kit_ty e2, q _ _ _ (Go.refl _ _ _) sb (.bl _)⟩
theorem isi_int : ∀ d, ∃ b, isIntD d = some (.bool b) ∧ kitB (tyN d) "int" = some b := fun d => by
  cases d <;> refine ⟨_, rfl, ?_⟩ <;> simp only [tyN] <;> decide +kernel
theorem isi_bool : ∀ d, ∃ b, isBoolD d = some (.bool b) ∧ kitB (tyN d) "bool" = some b := fun d => by
  cases d <;> refine ⟨_, rfl, ?_⟩ <;> simp only [tyN] <;> decide +kernel
theorem isi_str : ∀ d, ∃ b, isStrD d = some (.bool b) ∧ kitB (tyN d) "str" = some b := fun d => by
  cases d <;> refine ⟨_, rfl, ?_⟩ <;> simp only [tyN] <;> decide +kernel
theorem isi_tup : ∀ d, ∃ b, isTupD d = some (.bool b) ∧ kitB (tyN d) "tuple" = some b := fun d => by
  cases d <;> refine ⟨_, rfl, ?_⟩ <;> simp only [tyN] <;> decide +kernel
theorem isi_lst : ∀ d, ∃ b, isLstD d = some (.bool b) ∧ kitB (tyN d) "list" = some b := fun d => by
  cases d <;> refine ⟨_, rfl, ?_⟩ <;> simp only [tyN] <;> decide +kernel
end
end Pu
end

noncomputable section
set_option Elab.async false
set_option linter.all false
set_option maxRecDepth 100000
set_option maxHeartbeats 4000000
/-! Pu, fourth part: statements, loops, comprehensions, calls, defs. -/
namespace Pu
open PySem PySem.Spec L2

/-! ### slots are set -/
def slF : D → Sl
  | .list xs => .ow xs
  | .dict kvs => .od kvs
  | d => .fz d
section
variable {K : PySem.W.Frag} {mg : Str → Option Value} {E : XK} {fr : Fr} {s : S} {F H Ho : Hp} {σ : L2.St} {v : V} {d : D} {t : Sl} {i : Nat}
theorem Sat.put (h : Sat K fr s F σ H) (ht : SlOk K fr F H (some v) t) (hf : ∀ (j : Nat) u p, j ≠ i → s.r[j]? = some u → u.own = true → t.own = true → σ[j]? = some (some (.ref p)) → v ≠ .ref p) : Sat K fr (s.up i t) F (σ.set i (some v)) H where
  sub := h.sub
  go := h.go
  cup := h.cup
  len := by rw [List.length_set, List.length_set]; exact h.len
  sl := fun j u e => by
    by_cases hj : i = j
    · subst hj
      have hl : i < s.r.length := by
        have := (List.getElem?_eq_some_iff.mp e).1
        rwa [List.length_set] at this
      rw [List.getElem?_set_self hl] at e
      cases e
      exact ⟨some v, List.getElem?_set_self (by rw [h.len]; exact hl), ht⟩
    · rw [List.getElem?_set_ne hj] at e ⊢
      exact h.sl j u e
  ap := fun a b u w p e1 e2 o1 o2 k1 k2 => by
    by_cases ha : i = a
    · by_cases hb : i = b
      · exact ha.symm.trans hb
      · subst ha
        have hl : i < s.r.length := by
          have := (List.getElem?_eq_some_iff.mp e1).1
          rwa [List.length_set] at this
        rw [List.getElem?_set_self hl] at e1
        rw [List.getElem?_set_self (by rw [h.len]; exact hl)] at k1
        rw [List.getElem?_set_ne hb] at e2 k2
        cases e1
        exact absurd (Option.some.inj (Option.some.inj k1)) (hf b w p (Ne.symm hb) e2 o2 o1 k2)
    · by_cases hb : i = b
      · subst hb
        have hl : i < s.r.length := by
          have := (List.getElem?_eq_some_iff.mp e2).1
          rwa [List.length_set] at this
        rw [List.getElem?_set_self hl] at e2
        rw [List.getElem?_set_self (by rw [h.len]; exact hl)] at k2
        rw [List.getElem?_set_ne ha] at e1 k1
        cases e2
        exact absurd (Option.some.inj (Option.some.inj k2)) (hf a u p (Ne.symm ha) e1 o1 o2 k1)
      · rw [List.getElem?_set_ne ha] at e1 k1
        rw [List.getElem?_set_ne hb] at e2 k2
        exact h.ap a b u w p e1 e2 o1 o2 k1 k2
theorem Sat.putZ (h : Sat K fr s F σ H) (r : Rp K F v d) : Sat K fr (s.up i (.fz d)) F (σ.set i (some v)) H := h.put ⟨v, rfl, r⟩ fun _ _ _ _ _ _ o => nomatch o
/-- what a slot owns stands -/
theorem Sat.own (h : Sat K fr s F σ H) {j : Nat} {u : Sl} {p : Addr} (e : s.r[j]? = some u) (o : u.own = true) (k : σ[j]? = some (some (.ref p))) : H p ≠ none ∧ fr.pc ≠ some p ∧ F p = none ∧ fr.H0 p = none := by
  obtain ⟨w, e1, q⟩ := h.sl j u e
  rw [k] at e1
  cases e1
  cases u with
  | ow xs => obtain ⟨p', vs, e2, w, _⟩ := q; cases e2; exact ⟨(by rw [w.h]; exact fun z => nomatch z), w.c, w.f, w.n⟩
  | od xs => obtain ⟨p', vs, e2, w, _⟩ := q; cases e2; exact ⟨(by rw [w.h]; exact fun z => nomatch z), w.c, w.f, w.n⟩
  | no => cases o
  | fz _ => cases o
  | cup => cases o
  | sq _ => cases o
/-- a fresh value comes into a slot; Ho: a heap ahead in which all that is owned stood -/
theorem Sat.putF (h : Sat K fr s F σ H) (h0 : ∀ a, fr.H0 a ≠ none → Ho a ≠ none) (hc : ∀ p, fr.pc = some p → Ho p ≠ none) (ho : ∀ (j : Nat) u p, j ≠ i → s.r[j]? = some u → u.own = true → σ[j]? = some (some (.ref p)) → Ho p ≠ none) (r : RpF K Ho F H v d) :
    Sat K fr (s.up i (slF d)) F (σ.set i (some v)) H := by
  have nn : ∀ p, Ho p = none → fr.H0 p = none := fun p e => by
    cases q : fr.H0 p with
    | none => rfl
    | some o => exact absurd e (h0 p (by rw [q]; exact fun z => nomatch z))
  cases d with
  | list ds =>
    obtain ⟨p, vs, rfl, h1, h2, h3, h4⟩ := r
    exact h.put ⟨p, vs, rfl, ⟨h3, h2, nn p h1, fun e => hc p e h1⟩, h4⟩ fun j u q hj e o _ k z => by cases z; exact ho j u p hj e o k h1
  | dict ds =>
    obtain ⟨p, vs, rfl, h1, h2, h3, h4⟩ := r
    exact h.put ⟨p, vs, rfl, ⟨h3, h2, nn p h1, fun e => hc p e h1⟩, h4⟩ fun j u q hj e o _ k z => by cases z; exact ho j u p hj e o k h1
  | none => exact h.putZ r
  | bool _ => exact h.putZ r
  | int _ => exact h.putZ r
  | str _ => exact h.putZ r
  | tuple _ => exact h.putZ r
theorem RpF.go {F' H' : Hp} {pc : Option Addr} (g : Go pc F H F' H') (hp : ∀ p, pc = some p → Ho p ≠ none) (r : RpF K Ho F H v d) : RpF K Ho F' H' v d := by
  cases d with
  | list ds => obtain ⟨p, vs, e, h1, h2, h3, h4⟩ := r; exact ⟨p, vs, e, h1, g.n p ⟨_, h3, rfl⟩ h2, g.h p _ (fun e => hp p e h1) h3, h4.mono g.f⟩
  | dict ds => obtain ⟨p, vs, e, h1, h2, h3, h4⟩ := r; exact ⟨p, vs, e, h1, g.n p ⟨_, h3, h4.nt⟩ h2, g.h p _ (fun e => hp p e h1) h3, h4.mono g.f⟩
  | none => exact Rp.mono g.f r
  | bool _ => exact Rp.mono g.f r
  | int _ => exact Rp.mono g.f r
  | str _ => exact Rp.mono g.f r
  | tuple _ => exact Rp.mono g.f r
theorem Sat.cupne (h : Sat K fr s F σ H) : ∀ p, fr.pc = some p → H p ≠ none := fun p e => by
  rw [(h.cup p e).2]
  exact fun z => nomatch z
end

/-! ### statements by their meaning -/
section
def mErr {α : Type} (r : R α) (k : α → Int × Int → RS) : RS := match r with
  | .ok a c => k a c
  | .err x c => .err x c
  | .no => .no
def mSeq (m n : MS) : MS := fun s => match m s with
  | .next s' => n s'
  | r => r
def mNext : MS := fun s => .next s
def mBrk : MS := fun s => .brk s
def mCnt : MS := fun s => .cnt s
def mNo : MS := fun _ => .no
def mSetF (i : Nat) (m : M D) : MS := fun s => mErr (m s) fun d c => .next ((s.wc c).up i (slF d))
def mSetE (i : Nat) (m : M D) : MS := fun s => mErr (m s) fun d c => .next ((s.wc c).up i (.fz d))
def mDrop (m : M D) : MS := fun s => mErr (m s) fun _ c => .next (s.wc c)
def mRet (m : M D) : MS := fun s => mErr (m s) fun d c => .ret d c
def mRetN : MS := fun s => .ret .none s.c
def mIfS (t : M Bool) (a b : MS) : MS := fun s => mErr (t s) fun k c => match k with
  | true => a (s.wc c)
  | false => b (s.wc c)
abbrev Bd := D → S → Option S
def bName (i : Nat) : Bd := fun d s => some (s.up i (.fz d))
def bTup (bs : List Bd) : Bd := fun d s => match d with
  | .tuple ds => go bs ds s
  | _ => none
where go : List Bd → List D → S → Option S
  | [], [], s => some s
  | b :: bs, d :: ds, s => match b d s with
    | some s' => go bs ds s'
    | none => none
  | _, _, _ => none
def mBind (b : Bd) (m : M D) : MS := fun s => mErr (m s) fun d c => match b d (s.wc c) with
  | some s' => .next s'
  | none => .no
def loopL (b : Bd) (body : MS) : List D → MS
  | [], s => .next s
  | x :: xs, s => match b x s with
    | none => .no
    | some s1 => match body s1 with
      | .next s2 => loopL b body xs s2
      | .cnt s2 => loopL b body xs s2
      | .brk s2 => .next s2
      | .ret d c => .ret d c
      | .err x c => .err x c
      | .no => .no
theorem go_nil (s : S) : bTup.go [] [] s = some s := rfl
@[simp] theorem bgo_nil (s : S) : bTup.go [] [] s = some s := rfl
@[simp] theorem bgo_cons (b : Bd) (bs : List Bd) (d : D) (ds : List D) (s : S) : bTup.go (b :: bs) (d :: ds) s = (match b d s with
    | some s' => bTup.go bs ds s'
    | none => none) := rfl
@[simp] theorem loopL_nil (b : Bd) (body : MS) (s : S) : loopL b body [] s = .next s := rfl
def mFor (b : Bd) (it : M (List D)) (body : MS) : MS := fun s => mErr (it s) fun ds c => loopL b body ds (s.wc c)
def mWhile : Nat → M Bool → MS → MS
  | 0, _, _ => fun _ => .no
  | n + 1, t, body => fun s => mErr (t s) fun k c => match k with
    | false => .next (s.wc c)
    | true => match body (s.wc c) with
      | .next s2 => mWhile n t body s2
      | .cnt s2 => mWhile n t body s2
      | .brk s2 => .next s2
      | .ret d c => .ret d c
      | .err x c => .err x c
      | .no => .no
def mApp (i : Nat) (m : M D) : MS := fun s => match s.r[i]? with
  | some (.ow xs) => mErr (m s) fun d c => if ltN xs.length = true then .next ((s.wc c).up i (.ow (xs ++ [d]))) else .no
  | _ => .no
def mPar (i j : Nat) (ma mb : M D) : MS := fun s => mErr (ma s) fun d c => mErr (mb (s.wc c)) fun e c' => .next (((s.wc c').up i (slF d)).up j (slF e))
def mPar3 (i j l : Nat) (ma mb mc : M D) : MS := fun s => mErr (ma s) fun d c => mErr (mb (s.wc c)) fun e c' => mErr (mc (s.wc c')) fun f c2 => .next ((((s.wc c2).up i (slF d)).up j (slF e)).up l (slF f))
def mAug (i : Nat) (g : D → D → Option D) (m : M D) : MS := fun s => match s.r[i]? with
  | some (.fz a) => mErr (m s) fun b c => match g a b with
    | some d => .next ((s.wc c).up i (.fz d))
    | none => .no
  | _ => .no
def mExt (i : Nat) (m : M D) : MS := fun s => match s.r[i]? with
  | some (.ow xs) => mErr (m s) fun b c => match b with
    | .list ys => if leN (xs.length + ys.length) = true then .next ((s.wc c).up i (.ow (xs ++ ys))) else .no
    | _ => .no
  | _ => .no
def frzSl : Sl → Sl
  | .ow xs => .fz (.list xs)
  | .od xs => .fz (.dict xs)
  | t => t
@[simp] theorem frz_ow (xs : List D) : frzSl (.ow xs) = .fz (.list xs) := rfl
@[simp] theorem frz_od (xs : List (D × D)) : frzSl (.od xs) = .fz (.dict xs) := rfl
@[simp] theorem frz_fz (d : D) : frzSl (.fz d) = .fz d := rfl
@[simp] theorem frz_no : frzSl .no = .no := rfl
@[simp] theorem frz_cup : frzSl .cup = .cup := rfl
def S.frz (s : S) (i : Nat) : S := { s with r := s.r.modify i frzSl }
def mFrz (i : Nat) (m : MS) : MS := fun s => m (s.frz i)
/-- the cup -/
def cupGet (i : Nat) (k : Int) : M D := fun s => match s.r[i]? with
  | some .cup => if k = 0 then .ok (.int s.c.1) s.c else if k = 1 then .ok (.int s.c.2) s.c else .no
  | _ => .no
def mCupSet (i : Nat) (k : Int) (m : M D) : MS := fun s => match s.r[i]? with
  | some .cup => mErr (m s) fun d c => match d with
    | .int v => if k = 0 then .next (s.wc (v, c.2)) else if k = 1 then .next (s.wc (c.1, v)) else .no
    | _ => .no
  | _ => .no
end
section
variable {K : PySem.W.Frag} {mg : Str → Option Value} {E : XK} {m ma mb mc : M D} {D : Ends} {σ : L2.St} {H : Hp} {i j l : Nat}
theorem post_of {α : Type} {fr : Fr} {s : S} {F : Hp} {r : R α} {k : α → Int × Int → RS} (hs : Sat K fr s F σ H) (q : Post' K mg E fr D (mErr r k)) : Post mg E fr F H r fun a c _ _ => Post' K mg E fr D (k a c) := by
  cases r with
  | ok a c => exact fun _ _ _ _ _ => q
  | err x c => exact fun F' H' cls d g sb cu e => q F' H' cls d (hs.go.trans g) sb cu e
  | no => exact q
theorem rd_seq {a b : MS} (h : rdS K mg E (mSeq a b) D σ H) : tSeq (rdS K mg E a) (rdS K mg E b) D σ H := by
  obtain ⟨fr, s, F, hs, q⟩ := h
  refine ⟨fr, s, F, hs, ?_⟩
  unfold mSeq at q
  cases e : a s with
  | next s' => rw [e] at q; exact fun F' σ' H' hs' => ⟨fr, s', F', hs', q⟩
  | ret d c => rw [e] at q; exact q
  | brk s' => rw [e] at q; exact q
  | cnt s' => rw [e] at q; exact q
  | err x c => rw [e] at q; exact q
  | no => rw [e] at q; exact q
theorem rd_next (h : rdS K mg E mNext D σ H) : tNext D σ H := by obtain ⟨fr, s, F, hs, q⟩ := h; exact q F σ H hs
theorem rd_brk (h : rdS K mg E mBrk D σ H) : tBreak D σ H := by obtain ⟨fr, s, F, hs, q⟩ := h; exact q F σ H hs
theorem rd_cnt (h : rdS K mg E mCnt D σ H) : tCont D σ H := by obtain ⟨fr, s, F, hs, q⟩ := h; exact q F σ H hs
theorem rd_no {t : TS} (h : rdS K mg E mNo D σ H) : t D σ H := by obtain ⟨fr, s, F, hs, q⟩ := h; exact q.elim
theorem rd_setF (h : rdS K mg E (mSetF i m) D σ H) : tAsg (rdF K mg E m) (gName i) D σ H := by
  obtain ⟨fr, s, F, hs, q⟩ := h
  refine ⟨fr, s, F, hs, (post_of hs q).mono fun d c F' H' g sb cu q1 v r => ?_⟩
  exact q1 F' _ H' ((hs.step g sb cu).putF hs.go.t hs.cupne (fun j u p _ e o k => (hs.own e o k).1) r)
theorem rd_setE (h : rdS K mg E (mSetE i m) D σ H) : tAsg (rdE K mg E m) (gName i) D σ H := by
  obtain ⟨fr, s, F, hs, q⟩ := h
  refine ⟨fr, s, F, hs, (post_of hs q).mono fun d c F' H' g sb cu q1 v r => ?_⟩
  exact q1 F' _ H' ((hs.step g sb cu).putZ r)
theorem rd_drop (h : rdS K mg E (mDrop m) D σ H) : tDrop (rdB K mg E m) D σ H := by
  obtain ⟨fr, s, F, hs, q⟩ := h
  exact ⟨fr, s, F, hs, (post_of hs q).mono fun d c F' H' g sb cu q1 v r => q1 F' _ H' (hs.step g sb cu)⟩
theorem rd_ret (h : rdS K mg E (mRet m) D σ H) : tRet (rdE K mg E m) D σ H := by
  obtain ⟨fr, s, F, hs, q⟩ := h
  exact ⟨fr, s, F, hs, (post_of hs q).mono fun d c F' H' g sb cu q1 v r => q1 v F' H' (hs.go.trans g) sb cu r⟩
theorem rd_retN (h : rdS K mg E mRetN D σ H) : tRetN D σ H := by
  obtain ⟨fr, s, F, hs, q⟩ := h
  exact q .non F H hs.go hs.sub hs.cup .non
theorem rd_ifS {t : M Bool} {a b : MS} (h : rdS K mg E (mIfS t a b) D σ H) : tIfS (rdT K mg E t) (rdS K mg E a) (rdS K mg E b) D σ H := by
  obtain ⟨fr, s, F, hs, q⟩ := h
  refine ⟨fr, s, F, hs, (post_of hs q).mono fun k c F' H' g sb cu q1 => ?_⟩
  have hs1 := hs.step g sb cu
  cases k with
  | true => exact L2.iteT ⟨fr, _, F', hs1, q1⟩
  | false => exact L2.iteF ⟨fr, _, F', hs1, q1⟩
/-! ### targets -/
/-- σ' is σ but at idx -/
def OnlyAt (idx : List Nat) (σ σ' : L2.St) : Prop := σ'.length = σ.length ∧ ∀ j, j ∉ idx → σ'[j]? = σ[j]?
theorem OnlyAt.refl (idx : List Nat) (σ : L2.St) : OnlyAt idx σ σ := ⟨rfl, fun _ _ => rfl⟩
theorem OnlyAt.trans {idx : List Nat} {σ σ1 σ2 : L2.St} (a : OnlyAt idx σ σ1) (b : OnlyAt idx σ1 σ2) : OnlyAt idx σ σ2 := ⟨b.1.trans a.1, fun j h => (b.2 j h).trans (a.2 j h)⟩
theorem OnlyAt.mono {idx idx' : List Nat} {σ σ1 : L2.St} (a : OnlyAt idx σ σ1) (h : ∀ j ∈ idx, j ∈ idx') : OnlyAt idx' σ σ1 := ⟨a.1, fun j n => a.2 j fun z => n (h j z)⟩
def gD (K : PySem.W.Frag) (b : Bd) (idx : List Nat) : TG := fun v σ H Q => ∃ fr s F d, Sat K fr s F σ H ∧ Rp K F v d ∧ ∃ s', b d s = some s' ∧ ∀ σ', OnlyAt idx σ σ' → Sat K fr s' F σ' H → Q σ' H
def gDs (K : PySem.W.Frag) (bs : List Bd) (idx : List Nat) : TGs := fun vs σ H Q => ∃ fr s F ds, Sat K fr s F σ H ∧ RpL K F vs ds ∧ ∃ s', bTup.go bs ds s = some s' ∧ ∀ σ', OnlyAt idx σ σ' → Sat K fr s' F σ' H → Q σ' H
theorem gd_name {v : V} {Q : L2.St → Hp → Prop} (h : gD K (bName i) [i] v σ H Q) : gName i v σ H Q := by
  obtain ⟨fr, s, F, d, hs, r, s', e, q⟩ := h
  cases e
  refine q _ ⟨List.length_set, fun j hj => ?_⟩ (hs.putZ r)
  rw [List.getElem?_set_ne]
  intro z
  exact hj (by rw [z]; exact List.mem_cons_self)
theorem gd_nil {vs : List V} {Q : L2.St → Hp → Prop} (h : gDs K [] [] vs σ H Q) : gNil vs σ H Q := by
  obtain ⟨fr, s, F, ds, hs, r, s', e, q⟩ := h
  cases r with
  | nil => cases e; exact ⟨rfl, q σ (OnlyAt.refl _ _) hs⟩
  | cons _ _ => cases e
theorem gd_cons {b : Bd} {bs : List Bd} {i1 i2 : List Nat} {vs : List V} {Q : L2.St → Hp → Prop} (h : gDs K (b :: bs) (i1 ++ i2) vs σ H Q) : gCons (gD K b i1) (gDs K bs i2) vs σ H Q := by
  obtain ⟨fr, s, F, ds, hs, r, s', e, q⟩ := h
  cases r with
  | nil => cases e
  | @cons v vs d ds r1 r2 =>
    unfold bTup.go at e
    cases e1 : b d s with
    | none => rw [e1] at e; cases e
    | some s1 =>
      rw [e1] at e
      refine ⟨v, vs, rfl, fr, s, F, d, hs, r1, s1, e1, fun σ1 o1 hs1 => ⟨fr, s1, F, ds, hs1, r2, s', e, fun σ2 o2 hs2 => q σ2 ((o1.mono fun j => List.mem_append_left _).trans (o2.mono fun j => List.mem_append_right _)) hs2⟩⟩
theorem go_len : ∀ {bs : List Bd} {ds : List PyData} {s s' : S}, bTup.go bs ds s = some s' → ds.length = bs.length
  | [], [], _, _, _ => rfl
  | [], _ :: _, _, _, h => by cases h
  | _ :: _, [], _, _, h => by cases h
  | b :: bs, d :: ds, s, s', h => by
    unfold bTup.go at h
    cases e : b d s with
    | none => rw [e] at h; cases h
    | some s1 => rw [e] at h; simp [go_len h]
theorem gd_tup {bs : List Bd} {idx : List Nat} {n : Nat} (hn : bs.length = n) {v : V} {Q : L2.St → Hp → Prop} (h : gD K (bTup bs) idx v σ H Q) : gTup K n (gDs K bs idx) v σ H Q := by
  obtain ⟨fr, s, F, d, hs, r, s', e, q⟩ := h
  cases d with
  | tuple ds =>
    cases r with
    | @tup a vs _ h1 h2 => exact ⟨_, vs, rfl, SqT.of (hs.sub _ _ h1), by rw [h2.length, go_len e, hn], fr, s, F, ds, hs, h2, s', e, q⟩
  | none => cases e
  | bool _ => cases e
  | int _ => cases e
  | str _ => cases e
  | list _ => cases e
  | dict _ => cases e
theorem rd_bind {b : Bd} {idx : List Nat} (h : rdS K mg E (mBind b m) D σ H) : tAsg (rdE K mg E m) (gD K b idx) D σ H := by
  obtain ⟨fr, s, F, hs, q⟩ := h
  refine ⟨fr, s, F, hs, (post_of hs q).mono fun d c F' H' g sb cu q1 v r => ?_⟩
  cases e : b d (s.wc c) with
  | none => rw [e] at q1; exact q1.elim
  | some s' =>
    rw [e] at q1
    exact ⟨fr, _, F', d, hs.step g sb cu, r, s', e, fun σ' _ hs' => q1 F' σ' H' hs'⟩
/-! ### loops -/
/-- the frame with another frozen beginning -/
abbrev Fr.at (fr : Fr) (F' : Hp) : Fr := { fr with F0 := F' }
theorem SlOk.re {fr : Fr} {F' F H : Hp} {o : Option V} {t : Sl} (h : SlOk K fr F H o t) : SlOk K (fr.at F') F H o t := by
  cases t with
  | no => trivial
  | fz d => exact h
  | ow xs => obtain ⟨p, vs, e, w, r⟩ := h; exact ⟨p, vs, e, ⟨w.h, w.f, w.n, w.c⟩, r⟩
  | od xs => obtain ⟨p, vs, e, w, r⟩ := h; exact ⟨p, vs, e, ⟨w.h, w.f, w.n, w.c⟩, r⟩
  | cup => exact h
  | sq _ => exact h
theorem SlOk.unre {fr : Fr} {F' F H : Hp} {o : Option V} {t : Sl} (h : SlOk K (fr.at F') F H o t) : SlOk K fr F H o t := by
  cases t with
  | no => trivial
  | fz d => exact h
  | ow xs => obtain ⟨p, vs, e, w, r⟩ := h; exact ⟨p, vs, e, ⟨w.h, w.f, w.n, w.c⟩, r⟩
  | od xs => obtain ⟨p, vs, e, w, r⟩ := h; exact ⟨p, vs, e, ⟨w.h, w.f, w.n, w.c⟩, r⟩
  | cup => exact h
  | sq _ => exact h
theorem go_re {pc : Option Addr} {F0 H0 F' F H : Hp} (b : Same F0 F') (g : Go pc F0 H0 F H) (sf : Same F' F) : Go pc F' H0 F H := ⟨sf, g.h, g.t, g.k, fun a h1 h2 => g.n a h1 (b.free h2)⟩
theorem go_unre {pc : Option Addr} {F0 H0 F' H' F H : Hp} (b : Go pc F0 H0 F' H') (g : Go pc F' H0 F H) : Go pc F0 H0 F H := ⟨b.f.trans g.f, g.h, g.t, g.k, fun a h1 h2 => g.n a h1 (b.n a h1 h2)⟩
theorem Sat.re {fr : Fr} {s : S} {F' F H : Hp} (b : Same fr.F0 F') (sf : Same F' F) (h : Sat K fr s F σ H) : Sat K (fr.at F') s F σ H :=
  ⟨h.sub, go_re b h.go sf, h.cup, h.len, fun i t e => let ⟨o, e1, e2⟩ := h.sl i t e; ⟨o, e1, e2.re⟩, h.ap⟩
theorem Sat.unre {fr : Fr} {s : S} {F' H' F H : Hp} (b : Go fr.pc fr.F0 fr.H0 F' H') (h : Sat K (fr.at F') s F σ H) : Sat K fr s F σ H :=
  ⟨h.sub, go_unre b h.go, h.cup, h.len, fun i t e => let ⟨o, e1, e2⟩ := h.sl i t e; ⟨o, e1, e2.unre⟩, h.ap⟩
theorem rd_for {b : Bd} {idx : List Nat} {it : M (List PyData)} {body : MS} (h : rdS K mg E (mFor b it body) D σ H) : tFor (rdI K mg E it) (gD K b idx) (rdS K mg E body) D σ H := by
  obtain ⟨fr, s, F, hs, q⟩ := h
  refine ⟨fr, s, F, hs, (post_of hs q).mono fun ds c F' H' g sb cu q1 J hJ => ?_⟩
  have hB := hs.go.trans g
  refine ⟨fun i m σ H => m = ds.length - i ∧ i ≤ ds.length ∧ ∃ s1 F1, Sat K fr s1 F1 σ H ∧ Same F' F1 ∧ Post' K mg E fr D (loopL b body (ds.drop i) s1), ⟨ds.length, by simp, Nat.zero_le _, _, F', hs.step g sb cu, Same.refl _, q1⟩, ?_⟩
  rintro i m σ1 H1 ⟨rfl, hi, s1, F1, hs1, sf, q2⟩
  by_cases hlt : i < ds.length
  · right
    rw [List.drop_eq_getElem_cons hlt] at q2
    unfold loopL at q2
    refine ⟨hJ.go F1 H1 i sf hs1.sub hlt, fun σ2 H2 => ∃ s2 F2, Sat K fr s2 F2 σ2 H2 ∧ Same F' F2 ∧ Post' K mg E fr D (loopL b body (ds.drop (i + 1)) s2), fun σ2 H2 ⟨s2, F2, k1, k2, k3⟩ => ⟨ds.length - (i + 1), by omega, rfl, hlt, s2, F2, k1, k2, k3⟩, fun x H2 y => ?_⟩
    obtain ⟨d, F2, e1, g2, sb2, r2⟩ := hJ.yl F1 H1 i x H2 sf hs1.sub y hlt
    have hs2 : Sat K fr s1 F2 σ1 H2 := hs1.step g2.weak sb2 (hs1.cup.go g2)
    rw [List.getElem?_eq_getElem hlt] at e1
    cases e1
    cases e2 : b ds[i] s1 with
    | none => rw [e2] at q2; exact q2.elim
    | some s2 =>
      rw [e2] at q2
      refine ⟨fr, s1, F2, _, hs2, r2, s2, e2, fun σ3 _ hs3 => ⟨fr.at F', s2, F2, hs3.re hB.f (sf.trans g2.f), ?_⟩⟩
      cases e3 : body s2 with
      | next s4 => simp only [e3] at q2; exact fun F5 σ5 H5 h5 => ⟨s4, F5, h5.unre hB, h5.go.f, q2⟩
      | cnt s4 => simp only [e3] at q2; exact fun F5 σ5 H5 h5 => ⟨s4, F5, h5.unre hB, h5.go.f, q2⟩
      | brk s4 => simp only [e3] at q2; exact fun F5 σ5 H5 h5 => q2 F5 σ5 H5 (h5.unre hB)
      | ret d c => simp only [e3] at q2; exact fun v F5 H5 g5 => q2 v F5 H5 (go_unre hB g5)
      | err d c => simp only [e3] at q2; exact fun F5 H5 cls dd g5 => q2 F5 H5 cls dd (go_unre hB g5)
      | no => simp only [e3] at q2; exact q2
  · left
    have e : i = ds.length := by omega
    subst e
    rw [List.drop_length] at q2
    exact ⟨hJ.st F1 H1 sf hs1.sub, q2 F1 σ1 H1 hs1⟩
theorem rd_while {t : M Bool} {body : MS} {n : Nat} (h : rdS K mg E (mWhile n t body) D σ H) : tWhile (rdT K mg E t) (rdS K mg E body) D σ H := by
  obtain ⟨fr, s, F, hs, q⟩ := h
  refine ⟨fun m σ H => ∃ s1 F1, Sat K fr s1 F1 σ H ∧ Post' K mg E fr D (mWhile m t body s1), ⟨n, s, F, hs, q⟩, ?_⟩
  rintro m σ1 H1 ⟨s1, F1, hs1, q1⟩
  cases m with
  | zero => exact q1.elim
  | succ m =>
    refine ⟨fr, s1, F1, hs1, (post_of hs1 q1).mono fun k c F' H' g sb cu q2 => ?_⟩
    have hs2 := hs1.step g sb cu
    cases k with
    | false => exact L2.iteF (q2 F' σ1 H' hs2)
    | true =>
      refine L2.iteT ⟨fun σ2 H2 => ∃ s2 F2, Sat K fr s2 F2 σ2 H2 ∧ Post' K mg E fr D (mWhile m t body s2), fun σ2 H2 k => ⟨m, Nat.lt_succ_self m, k⟩, fr, _, F', hs2, ?_⟩
      cases e3 : body (s1.wc c) with
      | next s4 => simp only [e3] at q2; exact fun F5 σ5 H5 h5 => ⟨s4, F5, h5, q2⟩
      | cnt s4 => simp only [e3] at q2; exact fun F5 σ5 H5 h5 => ⟨s4, F5, h5, q2⟩
      | brk s4 => simp only [e3] at q2; exact fun F5 σ5 H5 h5 => q2 F5 σ5 H5 h5
      | ret d c => simp only [e3] at q2; exact q2
      | err d c => simp only [e3] at q2; exact q2
      | no => simp only [e3] at q2; exact q2
/-! ### what is owned changes -/
theorem Sat.setOw {fr : Fr} {s : S} {F : Hp} {p : Addr} {xs ys : List PyData} {vs ws : List V} (h : Sat K fr s F σ H) (e : s.r[i]? = some (.ow xs)) (k : σ[i]? = some (some (.ref p))) (hp : H p = some (.lst vs)) (r : RpL K F ws ys) : Sat K fr (s.up i (.ow ys)) F σ (upd H p (.lst ws)) := by
  obtain ⟨n1, n2, n3, n4⟩ := h.own e rfl k
  have hl : i < s.r.length := (List.getElem?_eq_some_iff.mp e).1
  have gh : ∀ a o, a ≠ p → H a = some o → upd H p (.lst ws) a = some o := fun a o ha e => by rw [upd_ne ha]; exact e
  refine ⟨fun a o e => gh a o (ne_of_none e n3) (h.sub _ _ e), ⟨h.go.f, fun a o pc e => gh a o (ne_of_none e n4) (h.go.h a o pc e), fun a ha => ?_, (fun a ha => by
    by_cases hb : a = p
    · exact ⟨_, by rw [hb]; exact upd_same, rfl⟩
    · obtain ⟨u, e, z⟩ := h.go.k a ha
      exact ⟨u, by rw [upd_ne hb]; exact e, z⟩), h.go.n⟩, fun q e => ?_, by rw [List.length_set]; exact h.len, fun j u e1 => ?_, fun a b u w q e1 e2 o1 o2 k1 k2 => ?_⟩
  · by_cases hb : a = p
    · subst hb; rw [upd_same]; exact fun z => nomatch z
    · rw [upd_ne hb]; exact h.go.t a ha
  · obtain ⟨c1, c2⟩ := h.cup q e
    have hb : q ≠ p := fun z => n2 (by rw [← z]; exact e)
    exact ⟨c1, gh _ _ hb c2⟩
  · by_cases hj : i = j
    · subst hj
      rw [List.getElem?_set_self hl] at e1
      cases e1
      exact ⟨_, k, p, ws, rfl, ⟨upd_same, n3, n4, n2⟩, r⟩
    · rw [List.getElem?_set_ne hj] at e1
      obtain ⟨o, e2, q⟩ := h.sl j u e1
      refine ⟨o, e2, ?_⟩
      cases u with
      | no => trivial
      | fz d => exact q
      | ow zs =>
        obtain ⟨q', vs', rfl, w, r'⟩ := q
        have hb : q' ≠ p := fun z => hj (h.ap i j _ _ p e e1 rfl rfl k (by rw [e2, z]))
        exact ⟨q', vs', rfl, ⟨gh _ _ hb w.h, w.f, w.n, w.c⟩, r'⟩
      | od zs =>
        obtain ⟨q', vs', rfl, w, r'⟩ := q
        have hb : q' ≠ p := fun z => hj (h.ap i j _ _ p e e1 rfl rfl k (by rw [e2, z]))
        exact ⟨q', vs', rfl, ⟨gh _ _ hb w.h, w.f, w.n, w.c⟩, r'⟩
      | cup => exact q
      | sq _ => exact q
  · have own_of : ∀ (j : Nat) u, (s.r.set i (.ow ys))[j]? = some u → u.own = true → ∃ u', s.r[j]? = some u' ∧ u'.own = true := fun j u e1 o => by
      by_cases hj : i = j
      · subst hj; exact ⟨_, e, rfl⟩
      · rw [List.getElem?_set_ne hj] at e1; exact ⟨u, e1, o⟩
    obtain ⟨u', e1', o1'⟩ := own_of a u e1 o1
    obtain ⟨w', e2', o2'⟩ := own_of b w e2 o2
    exact h.ap a b u' w' q e1' e2' o1' o2' k1 k2
theorem rd_app (h : rdS K mg E (mApp i m) D σ H) : tDrop (tBM K "list" rAppend (tVar i) (tCons (rdE K mg E m) tNil)) D σ H := by
  obtain ⟨fr, s, F, hs, q⟩ := h
  unfold mApp at q
  split at q
  · rename_i xs e
    obtain ⟨o, k, p, vs, rfl, w, r⟩ := hs.sl i _ e
    refine ⟨_, k, .inl ⟨rfl, vs, SqL.of w.h⟩, fr, s, F, hs, (post_of hs q).mono fun d c F' H' g sb cu q1 v rv => ?_⟩
    split at q1
    · rename_i hl
      have hp := g.h p _ w.c w.h
      refine ⟨p, vs, v, rfl, rfl, hp, by rw [r.length]; exact ltN_lt hl, ?_⟩
      exact q1 F' σ _ ((hs.step g sb cu).setOw e k hp ((r.mono g.f).append (.cons rv .nil)))
    · exact q1.elim
  · exact q.elim
/-- name op= e on scalars and tuples -/
def ipG (K : PySem.W.Frag) (g : PyData → PyData → Option PyData) : TIp := rO2E K g
theorem rd_aug {g : PyData → PyData → Option PyData} (h : rdS K mg E (mAug i g m) D σ H) : tAug i (rdB K mg E m) (ipG K g) D σ H := by
  obtain ⟨fr, s, F, hs, q⟩ := h
  unfold mAug at q
  split at q
  · rename_i a e
    obtain ⟨o, k, v, rfl, r⟩ := hs.sl i _ e
    refine ⟨v, k, fr, s, F, hs, (post_of hs q).mono fun d c F' H' g1 sb cu q1 w rw => ?_⟩
    split at q1
    · rename_i z e2
      exact ⟨fr.pc, F', a, d, z, .inl (r.mono g1.f), rw, sb, e2, fun v F2 H2 g2 sb2 r2 => q1 F2 _ H2 (((hs.step g1 sb cu).step g2.weak sb2 (cu.go g2)).putZ r2)⟩
    · exact q1.elim
  · exact q.elim
theorem rd_ext (h : rdS K mg E (mExt i m) D σ H) : tAug i (rdB K mg E m) rExt2 D σ H := by
  obtain ⟨fr, s, F, hs, q⟩ := h
  unfold mExt at q
  split at q
  · rename_i xs e
    obtain ⟨o, k, p, vs, rfl, w, r⟩ := hs.sl i _ e
    refine ⟨_, k, fr, s, F, hs, (post_of hs q).mono fun d c F' H' g sb cu q1 v rv => ?_⟩
    split at q1
    · rename_i ys
      split at q1
      · rename_i hl
        have hp := g.h p _ w.c w.h
        obtain ⟨b, ws, rfl, h2, k2⟩ := rv.list sb
        refine ⟨p, b, vs, ws, rfl, rfl, hp, h2, by rw [r.length, k2.length]; exact leN_le hl, ?_⟩
        have hs3 := (hs.step g sb cu).setOw e k hp ((r.mono g.f).append k2)
        have e3 : σ.set i (some (.ref p)) = σ := by
          apply List.ext_getElem?
          intro j
          by_cases hj : i = j
          · subst hj
            have hl := (List.getElem?_eq_some_iff.mp k).1
            rw [List.getElem?_set_self hl, k]
          · rw [List.getElem?_set_ne hj]
        show D.nx (List.set σ i (some (V.ref p))) _
        rw [e3]
        exact q1 F' σ _ hs3
      · exact q1.elim
    · exact q1.elim
  · exact q.elim
theorem rd_par (hij : i ≠ j) (h : rdS K mg E (mPar i j ma mb) D σ H) : tPar i j (tCons (rdF K mg E ma) (tCons (rdF K mg E mb) tNil)) D σ H := by
  obtain ⟨fr, s, F, hs, q⟩ := h
  refine ⟨fr, s, F, hs, (post_of hs q).mono fun d c F1 H1 g sb cu q1 v r => ?_⟩
  have hs1 := hs.step g sb cu
  refine ⟨fr, s.wc c, F1, hs1, (post_of hs1 q1).mono fun e c2 F2 H2 g2 sb2 cu2 q2 w r2 => ⟨v, w, rfl, ?_⟩⟩
  have hs2 := hs1.step g2 sb2 cu2
  have hs3 := hs2.putF (i := i) (v := v) hs.go.t hs.cupne (fun j u p _ e o k => (hs.own e o k).1) (r.go g2 hs.cupne)
  refine q2 F2 _ H2 (hs3.putF (Ho := H1) hs1.go.t hs1.cupne (fun l u p hl e o k => ?_) r2)
  by_cases hil : i = l
  · subst hil
    have hl : i < s.r.length := by
      have := (List.getElem?_eq_some_iff.mp e).1
      rwa [List.length_set] at this
    rw [List.getElem?_set_self hl] at e
    rw [List.getElem?_set_self (by rw [hs.len]; exact hl)] at k
    cases e
    cases k
    cases d with
    | list ds => obtain ⟨p', vs, e, h1, h2, h3, h4⟩ := r; cases e; rw [h3]; exact fun z => nomatch z
    | dict ds => obtain ⟨p', vs, e, h1, h2, h3, h4⟩ := r; cases e; rw [h3]; exact fun z => nomatch z
    | none => cases o
    | bool _ => cases o
    | int _ => cases o
    | str _ => cases o
    | tuple _ => cases o
  · rw [List.getElem?_set_ne hil] at e k
    exact (hs1.own e o k).1
/-- ghost: what a slot owns is frozen -/
theorem Sat.frz {fr : Fr} {s : S} {F : Hp} (h : Sat K fr s F σ H) : ∃ F', Sat K fr (s.frz i) F' σ H := by
  have same : (∀ t, s.r[i]? = some t → frzSl t = t) → Sat K fr (s.frz i) F σ H := fun hn => by
    have e : s.frz i = s := by
      have : s.r.modify i frzSl = s.r := by
        apply List.ext_getElem?
        intro j
        rw [List.getElem?_modify]
        by_cases hj : i = j
        · subst hj
          cases e : s.r[i]? with
          | none => rfl
          | some t => simp [hn t e]
        · simp [hj]
      unfold S.frz
      rw [this]
    rw [e]
    exact h
  have fz : ∀ (t : Sl) (p : Addr) (o : HO) (d : PyData), s.r[i]? = some t → t.own = true → σ[i]? = some (some (.ref p)) → Own fr F H p o → frzSl t = .fz d → (∀ F2, Same F F2 → F2 p = some o → Rp K F2 (.ref p) d) → ∃ F', Sat K fr (s.frz i) F' σ H := fun t p o d e ow k w ef rp => by
    have hl : i < s.r.length := (List.getElem?_eq_some_iff.mp e).1
    have s1 : Same F (upd F p o) := fun b u e => by rw [upd_ne (ne_of_none e w.f)]; exact e
    have at_i : (s.frz i).r[i]? = some (.fz d) := by
      show (s.r.modify i frzSl)[i]? = _
      rw [List.getElem?_modify, e]
      simp [ef]
    have at_j : ∀ j, i ≠ j → (s.frz i).r[j]? = s.r[j]? := fun j hj => by
      show (s.r.modify i frzSl)[j]? = _
      rw [List.getElem?_modify]
      simp [hj]
    refine ⟨upd F p o, fun b u e => ?_, ⟨h.go.f.trans s1, h.go.h, h.go.t, h.go.k, fun a h1 h2 => ?_⟩, fun q e => ?_, ?_, fun j u e1 => ?_, fun a b u w' q e1 e2 o1 o2 k1 k2 => ?_⟩
    · by_cases hb : b = p
      · subst hb; rw [upd_same] at e; rw [w.h]; exact e
      · rw [upd_ne hb] at e; exact h.sub _ _ e
    · have hb : a ≠ p := fun z => by obtain ⟨u, eu, _⟩ := h1; rw [z, w.n] at eu; cases eu
      rw [upd_ne hb]; exact h.go.n a h1 h2
    · obtain ⟨c1, c2⟩ := h.cup q e
      have hb : q ≠ p := fun z => w.c (by rw [← z]; exact e)
      exact ⟨by rw [upd_ne hb]; exact c1, c2⟩
    · show σ.length = (s.r.modify i frzSl).length
      rw [List.length_modify]; exact h.len
    · by_cases hj : i = j
      · subst hj
        rw [at_i] at e1
        cases e1
        exact ⟨_, k, _, rfl, rp _ s1 upd_same⟩
      · rw [at_j j hj] at e1
        obtain ⟨o', e2, q⟩ := h.sl j u e1
        refine ⟨o', e2, ?_⟩
        cases u with
        | no => trivial
        | fz d => obtain ⟨v, e3, r⟩ := q; exact ⟨v, e3, r.mono s1⟩
        | ow zs =>
          obtain ⟨q', vs', rfl, w', r'⟩ := q
          have hb : q' ≠ p := fun z => hj (h.ap i j _ _ p e e1 ow rfl k (by rw [e2, z]))
          exact ⟨q', vs', rfl, ⟨w'.h, by rw [upd_ne hb]; exact w'.f, w'.n, w'.c⟩, r'.mono s1⟩
        | od zs =>
          obtain ⟨q', vs', rfl, w', r'⟩ := q
          have hb : q' ≠ p := fun z => hj (h.ap i j _ _ p e e1 ow rfl k (by rw [e2, z]))
          exact ⟨q', vs', rfl, ⟨w'.h, by rw [upd_ne hb]; exact w'.f, w'.n, w'.c⟩, r'.mono s1⟩
        | cup => exact q
        | sq zs => obtain ⟨q', vs', e3, h1, h2⟩ := q; exact ⟨q', vs', e3, s1.seq h1, h2.mono s1⟩
    · have ne_i : ∀ (j : Nat) u, (s.frz i).r[j]? = some u → u.own = true → i ≠ j := fun j u e1 o z => by
        subst z
        rw [at_i] at e1
        cases e1
        cases o
      have ha := ne_i a u e1 o1
      have hb := ne_i b w' e2 o2
      rw [at_j a ha] at e1
      rw [at_j b hb] at e2
      exact h.ap a b u w' q e1 e2 o1 o2 k1 k2
  cases e : s.r[i]? with
  | none => exact ⟨F, same fun t z => by rw [e] at z; cases z⟩
  | some t =>
    cases t with
    | ow xs =>
      obtain ⟨o, k, p, vs, rfl, w, r⟩ := h.sl i _ e
      exact fz _ p _ _ e rfl k w rfl fun F2 s2 e2 => .lst e2 (r.mono s2)
    | od xs =>
      obtain ⟨o, k, p, vs, rfl, w, r⟩ := h.sl i _ e
      exact fz _ p _ _ e rfl k w rfl fun F2 s2 e2 => .dct (.inl e2) (r.mono s2)
    | no => exact ⟨F, same fun t z => by rw [e] at z; cases z; rfl⟩
    | fz d => exact ⟨F, same fun t z => by rw [e] at z; cases z; rfl⟩
    | cup => exact ⟨F, same fun t z => by rw [e] at z; cases z; rfl⟩
    | sq _ => exact ⟨F, same fun t z => by rw [e] at z; cases z; rfl⟩
theorem rd_frz {a : MS} (h : rdS K mg E (mFrz i a) D σ H) : rdS K mg E a D σ H := by
  obtain ⟨fr, s, F, hs, q⟩ := h
  obtain ⟨F', hs'⟩ := hs.frz (i := i)
  exact ⟨fr, s.frz i, F', hs', q⟩
/-! ### the cup -/
theorem rd_cupGet {k : Int} {Q : VK} (h : rdF K mg E (cupGet i k) σ H Q) : tOp (rIxL K) (tVar i) (tC (.int k)) σ H Q := by
  obtain ⟨fr, s, F, hs, q⟩ := h
  unfold cupGet at q
  split at q
  · rename_i e
    obtain ⟨o, k', p, rfl, hp⟩ := hs.sl i _ e
    obtain ⟨c1, c2⟩ := hs.cup p hp
    split at q
    · rename_i hk
      subst hk
      exact ⟨_, k', p, _, _, .int s.c.1, rfl, rfl, SqL.of c2, rfl, q F H (Go.refl _ _ _) hs.sub hs.cup _ (.int _)⟩
    · split at q
      · rename_i hk
        subst hk
        exact ⟨_, k', p, _, _, .int s.c.2, rfl, rfl, SqL.of c2, rfl, q F H (Go.refl _ _ _) hs.sub hs.cup _ (.int _)⟩
      · exact q.elim
  · exact q.elim
theorem Sat.setCup {fr : Fr} {s : S} {F : Hp} {p : Addr} {c : Int × Int} (h : Sat K fr s F σ H) (hp : fr.pc = some p) : Sat K fr (s.wc c) F σ (upd H p (.lst [.int c.1, .int c.2])) := by
  obtain ⟨c1, c2⟩ := h.cup p hp
  have gh : ∀ a o, a ≠ p → H a = some o → upd H p (.lst [.int c.1, .int c.2]) a = some o := fun a o ha e => by rw [upd_ne ha]; exact e
  refine ⟨fun a o e => gh a o (ne_of_none e c1) (h.sub _ _ e), ⟨h.go.f, fun a o pc e => gh a o (fun z => pc (by rw [z]; exact hp)) (h.go.h a o pc e), fun a ha => ?_, (fun a ha => by
    by_cases hb : a = p
    · exact ⟨_, by rw [hb]; exact upd_same, rfl⟩
    · obtain ⟨u, e, z⟩ := h.go.k a ha
      exact ⟨u, by rw [upd_ne hb]; exact e, z⟩), h.go.n⟩, fun q e => ?_, h.len, fun j u e1 => ?_, h.ap⟩
  · by_cases hb : a = p
    · subst hb; rw [upd_same]; exact fun z => nomatch z
    · rw [upd_ne hb]; exact h.go.t a ha
  · have : q = p := Option.some.inj (e.symm.trans hp)
    subst this
    exact ⟨c1, upd_same⟩
  · obtain ⟨o, e2, q⟩ := h.sl j u e1
    refine ⟨o, e2, ?_⟩
    cases u with
    | no => trivial
    | fz d => exact q
    | ow zs => obtain ⟨q', vs', e, w, r'⟩ := q; exact ⟨q', vs', e, ⟨gh _ _ (fun z => w.c (by rw [z]; exact hp)) w.h, w.f, w.n, w.c⟩, r'⟩
    | od zs => obtain ⟨q', vs', e, w, r'⟩ := q; exact ⟨q', vs', e, ⟨gh _ _ (fun z => w.c (by rw [z]; exact hp)) w.h, w.f, w.n, w.c⟩, r'⟩
    | cup => exact q
    | sq _ => exact q
theorem rd_cupSet {k : Int} (h : rdS K mg E (mCupSet i k m) D σ H) : tAsg (rdB K mg E m) (gSub (tVar i) (tC (.int k)) rSetL) D σ H := by
  obtain ⟨fr, s, F, hs, q⟩ := h
  unfold mCupSet at q
  split at q
  · rename_i e
    obtain ⟨o, k', p, rfl, hp⟩ := hs.sl i _ e
    refine ⟨fr, s, F, hs, (post_of hs q).mono fun d c F' H' g sb cu q1 v rv => ?_⟩
    have hs1 := hs.step g sb cu
    split at q1
    · rename_i z
      rw [rv.int]
      obtain ⟨c1, c2⟩ := hs1.cup p hp
      split at q1
      · rename_i hk
        subst hk
        exact ⟨_, k', p, _, 0, 0, rfl, rfl, c2, rfl, q1 F' σ _ (hs1.setCup (c := (z, c.2)) hp)⟩
      · split at q1
        · rename_i hk
          subst hk
          exact ⟨_, k', p, _, 1, 1, rfl, rfl, c2, rfl, q1 F' σ _ (hs1.setCup (c := (c.1, z)) hp)⟩
        · exact q1.elim
    · exact q1.elim
  · exact q.elim
/-! ### what is walked -/
def iterD : PyData → Option (List PyData)
  | .list xs => some xs
  | .tuple xs => some xs
  | .str z => some ((cps z).map fun c => .str ⟨#[c]⟩)
  | _ => none
def mI (g : PyData → Option (List PyData)) (m : M PyData) : M (List PyData) := bnd m fun d => lift (g d)
def ints2 (lo : Int) (n : Nat) : List PyData := (List.range n).map fun (i : Nat) => .int (lo + (i : Int))
theorem okR_ex : ∃ f : Int → Bool, ∀ i, f i = true ↔ (-(2 ^ 62) ≤ i ∧ i < 2 ^ 62) := ⟨fun i => decide (-(2 ^ 62) ≤ i ∧ i < 2 ^ 62), fun _ => decide_eq_true_iff⟩
noncomputable def okR : Int → Bool := Classical.choose okR_ex
theorem okR_i {i : Int} : okR i = true ↔ (-(2 ^ 62) ≤ i ∧ i < 2 ^ 62) := Classical.choose_spec okR_ex i
def rng1D : PyData → Option (List PyData)
  | .int j => if okR j = true then some (ints2 0 j.toNat) else none
  | _ => none
def rng2D : PyData → PyData → Option (List PyData)
  | .int i, .int j => if (okR i && okR j) = true then some (ints2 i (j - i).toNat) else none
  | _, _ => none
theorem okR_iff {j : Int} (h : okR j = true) : -(2 ^ 62) ≤ j ∧ j < 2 ^ 62 := okR_i.mp h
theorem it_rng {F : Hp} (lo : Int) (n : Nat) : ItOk K (Itr lo n) F (ints2 lo n) where
  go := fun F1 H1 i _ _ h => by
    show i < n
    simpa [ints2] using h
  yl := fun F1 H1 i x H2 _ sb y hi => by
    obtain ⟨e1, e2⟩ := y
    subst e1 e2
    refine ⟨.int (lo + (i : Int)), F1, ?_, Go.refl _ _ _, sb, .int _⟩
    have hi : i < n := by simpa [ints2] using hi
    simp [ints2, hi]
  st := fun F1 H1 _ _ => by simp [ints2, Itr]
theorem it_list {F : Hp} {a : Addr} {vs : List V} {ds : List PyData} (h : F a = some (.lst vs)) (r : RpL K F vs ds) : ItOk K (Itl K a) F ds where
  go := fun F1 H1 i s1 s2 hi => ⟨vs, vs[i]'(by rw [r.length]; exact hi), SqL.of (s2 _ _ (s1 _ _ h)), List.getElem?_eq_getElem _⟩
  yl := fun F1 H1 i x H2 s1 s2 y hi => by
    obtain ⟨e1, y⟩ := y
    subst e1
    obtain ⟨d, e, q⟩ := r.getV i (y vs (SqL.of (s2 _ _ (s1 _ _ h))))
    exact ⟨d, F1, e, Go.refl _ _ _, s2, q.mono s1⟩
  st := fun F1 H1 s1 s2 => ⟨vs, SqL.of (s2 _ _ (s1 _ _ h)), by rw [r.length]; exact Nat.le_refl _⟩
theorem it_tup {F : Hp} {a : Addr} {vs : List V} {ds : List PyData} (h : F a = some (.tup vs)) (r : RpL K F vs ds) : ItOk K (Itt K a) F ds where
  go := fun F1 H1 i s1 s2 hi => ⟨vs, vs[i]'(by rw [r.length]; exact hi), SqT.of (s2 _ _ (s1 _ _ h)), List.getElem?_eq_getElem _⟩
  yl := fun F1 H1 i x H2 s1 s2 y hi => by
    obtain ⟨e1, y⟩ := y
    subst e1
    obtain ⟨d, e, q⟩ := r.getV i (y vs (SqT.of (s2 _ _ (s1 _ _ h))))
    exact ⟨d, F1, e, Go.refl _ _ _, s2, q.mono s1⟩
  st := fun F1 H1 s1 s2 => ⟨vs, SqT.of (s2 _ _ (s1 _ _ h)), by rw [r.length]; exact Nat.le_refl _⟩
theorem it_str {F : Hp} (z : Str) : ItOk K (Its z) F ((cps z).map fun c => .str ⟨#[c]⟩) where
  go := fun F1 H1 i _ _ hi => by simpa [cps, Its] using hi
  yl := fun F1 H1 i x H2 _ sb y hi => by
    obtain ⟨e1, c, e2, e3⟩ := y
    subst e1 e3
    refine ⟨.str ⟨#[c]⟩, F1, ?_, Go.refl _ _ _, sb, .str _⟩
    have : (cps z)[i]? = some c := by simpa [cps] using e2
    simp [this]
  st := fun F1 H1 _ _ => by simp [cps, Its]
theorem rd_it {Q : It → Hp → Prop} (h : rdI K mg E (mI iterD m) σ H Q) : rdE K mg E m σ H fun x H1 => (∃ a, x = .ref a ∧ (∃ xs, SqL K H1 a xs) ∧ Q (Itl K a) H1) ∨ (∃ a, x = .ref a ∧ (∃ xs, SqT K H1 a xs) ∧ Q (Itt K a) H1) ∨ ∃ z, x = .str z ∧ Q (Its z) H1 := by
  obtain ⟨fr, s, F, hs, q⟩ := h
  refine ⟨fr, s, F, hs, (Post.bnd q).mono fun d c F' H' g sb cu q1 v r => ?_⟩
  obtain ⟨ds, e, k⟩ := q1.lift
  have k' := k F' H' (Go.refl _ _ _) sb cu
  cases d with
  | list xs =>
    cases e
    cases r with
    | lst h1 h2 => exact .inl ⟨_, rfl, ⟨_, SqL.of (sb _ _ h1)⟩, k' _ (it_list h1 h2)⟩
  | tuple xs =>
    cases e
    cases r with
    | tup h1 h2 => exact .inr (.inl ⟨_, rfl, ⟨_, SqT.of (sb _ _ h1)⟩, k' _ (it_tup h1 h2)⟩)
  | str z =>
    cases e
    cases r
    exact .inr (.inr ⟨_, rfl, k' _ (it_str z)⟩)
  | none => cases e
  | bool _ => cases e
  | int _ => cases e
  | dict _ => cases e
def mR2 (ma mb : M PyData) : M (List PyData) := bnd ma fun x => bnd mb fun y => lift (rng2D x y)
theorem rd_rng1 {Q : It → Hp → Prop} (h : rdI K mg E (mI rng1D m) σ H Q) : iRng1 (tCons (rdB K mg E m) tNil) σ H Q := by
  obtain ⟨fr, s, F, hs, q⟩ := h
  refine ⟨fr, s, F, hs, (Post.bnd q).mono fun d c F' H' g sb cu q1 v r => ?_⟩
  obtain ⟨ds, e, k⟩ := q1.lift
  unfold rng1D at e
  split at e
  · split at e
    · rename_i hk
      cases e
      obtain ⟨h1, h2⟩ := okR_iff hk
      exact ⟨_, by rw [r.int], h1, h2, k F' H' (Go.refl _ _ _) sb cu _ (it_rng _ _)⟩
    · cases e
  · cases e
theorem rd_rng2 {Q : It → Hp → Prop} (h : rdI K mg E (mR2 ma mb) σ H Q) : iRng2 (tCons (rdB K mg E ma) (tCons (rdB K mg E mb) tNil)) σ H Q := by
  obtain ⟨fr, s, F, hs, q⟩ := h
  refine ⟨fr, s, F, hs, (Post.bnd q).mono fun d c F1 H1 g1 sb1 cu1 q1 v r => ?_⟩
  refine ⟨fr, _, F1, hs.step g1 sb1 cu1, (Post.bnd q1).mono fun d2 c2 F' H' g sb cu q2 w r2 => ?_⟩
  obtain ⟨ds, e, k⟩ := q2.lift
  unfold rng2D at e
  split at e
  · split at e
    · rename_i hk
      cases e
      have hk := Bool.and_eq_true_iff.mp hk
      obtain ⟨h1, h2⟩ := okR_iff hk.1
      obtain ⟨h3, h4⟩ := okR_iff hk.2
      exact ⟨_, _, by rw [r.int, r2.int], ⟨h1, h2, h3, h4⟩, k F' H' (Go.refl _ _ _) sb cu _ (it_rng _ _)⟩
    · cases e
  · cases e
/-! ### comprehensions -/
def lcL (b : Bd) (t : M Bool) (e : M PyData) (s : S) : List PyData → Int × Int → R (List PyData)
  | [], c => .ok [] c
  | x :: xs, c => match b x (s.wc c) with
    | none => .no
    | some s1 => match t s1 with
      | .ok true c1 => (match e (s1.wc c1) with
        | .ok d c2 => (match lcL b t e s xs c2 with
          | .ok ds c3 => .ok (d :: ds) c3
          | _ => .no)
        | _ => .no)
      | .ok false c1 => lcL b t e s xs c1
      | _ => .no
def wipeS (s : S) : List Nat → S
  | [] => s
  | v :: vs => (wipeS s vs).up v .no
def mLc (vs : List Nat) (it : M (List PyData)) (b : Bd) (t : M Bool) (e : M PyData) : M PyData := bnd it fun ds => fun s => match lcL b t e (wipeS s vs) ds s.c with
  | .ok out c => if lenOk out = true then .ok (.list out) c else .no
  | _ => .no
theorem Sat.no {fr : Fr} {s : S} {F : Hp} {v : Option V} (h : Sat K fr s F σ H) : Sat K fr (s.up i .no) F (σ.set i v) H where
  sub := h.sub
  go := h.go
  cup := h.cup
  len := by rw [List.length_set, List.length_set]; exact h.len
  sl := fun j u e => by
    by_cases hj : i = j
    · subst hj
      have hl : i < s.r.length := by
        have := (List.getElem?_eq_some_iff.mp e).1
        rwa [List.length_set] at this
      rw [List.getElem?_set_self hl] at e
      cases e
      exact ⟨v, List.getElem?_set_self (by rw [h.len]; exact hl), trivial⟩
    · rw [List.getElem?_set_ne hj] at e ⊢
      exact h.sl j u e
  ap := fun a b u w p e1 e2 o1 o2 k1 k2 => by
    have ne : ∀ (j : Nat) u, (s.r.set i .no)[j]? = some u → u.own = true → i ≠ j := fun j u e o z => by
      subst z
      have hl : i < s.r.length := by
        have := (List.getElem?_eq_some_iff.mp e).1
        rwa [List.length_set] at this
      rw [List.getElem?_set_self hl] at e
      cases e
      cases o
    have ha := ne a u e1 o1
    have hb := ne b w e2 o2
    rw [List.getElem?_set_ne ha] at e1 k1
    rw [List.getElem?_set_ne hb] at e2 k2
    exact h.ap a b u w p e1 e2 o1 o2 k1 k2
theorem Sat.wipe {fr : Fr} {s : S} {F : Hp} (h : Sat K fr s F σ H) : ∀ vs, Sat K fr (wipeS s vs) F (wipe σ vs) H
  | [] => h
  | v :: vs => (Sat.wipe h vs).no
theorem wipeS_wc (s : S) (c : Int × Int) : ∀ vs, (wipeS s vs).wc c = wipeS (s.wc c) vs
  | [] => rfl
  | v :: vs => by
    have ih := wipeS_wc s c vs
    unfold wipeS
    rw [← ih]
theorem wipe_get {σ : L2.St} {j : Nat} : ∀ (vs : List Nat), (wipe σ vs)[j]? = if j ∈ vs ∧ j < σ.length then some none else σ[j]?
  | [] => by simp [L2.wipe]
  | v :: vs => by
    unfold L2.wipe
    by_cases hj : v = j
    · subst hj
      by_cases hl : v < σ.length
      · rw [List.getElem?_set_self (by rw [wipe_length]; exact hl)]
        simp [hl]
      · rw [List.getElem?_eq_none (by rw [List.length_set, wipe_length]; omega)]
        simp [hl]
    · rw [List.getElem?_set_ne hj, wipe_get vs]
      have : j ≠ v := fun z => hj z.symm
      simp [this]
theorem wipe_only {vs idx : List Nat} {σ1 σ2 : L2.St} (h : OnlyAt idx (wipe σ1 vs) σ2) (hi : ∀ j ∈ idx, j ∈ vs) : wipe σ2 vs = wipe σ1 vs := by
  apply List.ext_getElem?
  intro j
  have hl : σ2.length = σ1.length := by rw [h.1, wipe_length]
  rw [wipe_get, wipe_get]
  by_cases hj : j ∈ vs
  · by_cases hk : j < σ1.length
    · simp [hj, hk, hl]
    · have h1 : ¬ j < σ2.length := by omega
      simp [hk, h1]
  · have := h.2 j fun z => hj (hi j z)
    rw [wipe_get] at this
    simp [hj] at this ⊢
    exact this
theorem rd_lc {vs idx : List Nat} (hi : ∀ j ∈ idx, j ∈ vs) {it : M (List PyData)} {b : Bd} {t : M Bool} {e : M PyData} {E1 : XK} {Q : VK} (h : rdF K mg E (mLc vs it b t e) σ H Q) : tLc (rdI K mg E it) (gD K b idx) (rdT K mg E1 t) (rdE K mg E1 e) vs σ H Q := by
  obtain ⟨fr, s, F, hs, q⟩ := h
  refine ⟨fr, s, F, hs, (Post.bnd q).mono fun ds c F' H' g sb cu q1 J hJ P hP => ?_⟩
  cases e1 : lcL b t e (wipeS (s.wc c) vs) ds c with
  | err x c' => simp only [e1] at q1; exact q1.elim
  | no => simp only [e1] at q1; exact q1.elim
  | ok out c3 =>
    simp only [e1] at q1
    by_cases ho : lenOk out = true
    · rw [if_pos ho] at q1
      have hs1 := hs.step g sb cu
      refine ⟨fun i m H1 => m = ds.length - i ∧ i ≤ ds.length ∧ ∃ F1 acc vacc ci rest, Go fr.pc F' H' F1 H1 ∧ Same F1 H1 ∧ CupAt fr.pc F1 H1 ci ∧ F1 P = none ∧ H1 P = some (.lst vacc) ∧ RpL K F1 vacc acc ∧ lcL b t e (wipeS (s.wc c) vs) (ds.drop i) ci = .ok rest c3 ∧ acc ++ rest = out,
        ⟨ds.length, by simp, Nat.zero_le _, F', [], [], c, out, Go.newH hP, same_updH sb hP, fun p hp => ?_, sb.free hP, upd_same, .nil, e1, rfl⟩, ?_⟩
      · obtain ⟨k1, k2⟩ := cu p hp
        exact ⟨k1, by rw [upd_ne (ne_of_none k2 hP)]; exact k2⟩
      rintro i m H1 ⟨rfl, hi1, F1, acc, vacc, ci, rest, g1, sb1, cu1, fp, hp, ra, el, eo⟩
      by_cases hlt : i < ds.length
      · right
        rw [List.drop_eq_getElem_cons hlt] at el
        unfold lcL at el
        have pne : fr.pc ≠ some P := fun z => by
          have := (cu P z).2
          rw [hP] at this
          cases this
        refine ⟨hJ.go F1 H1 i g1.f sb1 hlt, fun H2 => ∃ F1 acc vacc ci rest, Go fr.pc F' H' F1 H2 ∧ Same F1 H2 ∧ CupAt fr.pc F1 H2 ci ∧ F1 P = none ∧ H2 P = some (.lst vacc) ∧ RpL K F1 vacc acc ∧ lcL b t e (wipeS (s.wc c) vs) (ds.drop (i + 1)) ci = .ok rest c3 ∧ acc ++ rest = out,
          fun H2 k => ⟨ds.length - (i + 1), by omega, rfl, hlt, k⟩, fun x H2 y => ?_⟩
        obtain ⟨d, F2, e2, g2, sb2, r2⟩ := hJ.yl F1 H1 i x H2 g1.f sb1 y hlt
        rw [List.getElem?_eq_getElem hlt] at e2
        cases e2
        have hsw := ((hs1.step (g1.trans g2.weak) sb2 (cu1.go g2)).wipe vs)
        rw [← wipeS_wc] at hsw
        cases e3 : b ds[i] ((wipeS (s.wc c) vs).wc ci) with
        | none => rw [e3] at el; cases el
        | some s2 =>
          simp only [e3] at el
          refine ⟨fr, _, F2, _, hsw, r2, s2, e3, fun σ2 o2 hs2 => ⟨wipe_only o2 hi, fr, s2, F2, hs2, ?_⟩⟩
          cases e4 : t s2 with
          | err _ _ => simp only [e4] at el; cases el
          | no => simp only [e4] at el; cases el
          | ok kb c1 =>
            intro F3 H3 g3 sb3 cu3
            cases kb with
            | false =>
              simp only [e4] at el
              refine L2.iteF ⟨F3, acc, vacc, c1, rest, (g1.trans g2.weak).trans g3, sb3, cu3, g3.n P (g2.k P ⟨_, hp, rfl⟩) (g2.n P ⟨_, hp, rfl⟩ fp), g3.h P _ pne (g2.h P _ (by simp) hp), (ra.mono g2.f).mono g3.f, el, eo⟩
            | true =>
              simp only [e4] at el
              have hs3 := hs2.step g3 sb3 cu3
              cases e5 : e (s2.wc c1) with
              | err _ _ => simp only [e5] at el; cases el
              | no => simp only [e5] at el; cases el
              | ok d5 c5 =>
                simp only [e5] at el
                cases e6 : lcL b t e (wipeS (s.wc c) vs) (ds.drop (i + 1)) c5 with
                | err _ _ => simp only [e6] at el; cases el
                | no => simp only [e6] at el; cases el
                | ok rest6 c6 =>
                  simp only [e6] at el
                  cases el
                  refine L2.iteT ⟨fr, _, F3, hs3, ?_⟩
                  show Post mg E1 fr F3 H3 (e (s2.wc c1)) _
                  rw [e5]
                  intro F4 H4 g4 sb4 cu4 v4 r4
                  have hp4 : H4 P = some (.lst vacc) := g4.h P _ pne (g3.h P _ pne (g2.h P _ (by simp) hp))
                  have fp4 : F4 P = none := g4.n P (g3.k P (g2.k P ⟨_, hp, rfl⟩)) (g3.n P (g2.k P ⟨_, hp, rfl⟩) (g2.n P ⟨_, hp, rfl⟩ fp))
                  have ra4 : RpL K F4 vacc acc := ((ra.mono g2.f).mono g3.f).mono g4.f
                  have gh : ∀ a o, a ≠ P → H4 a = some o → upd H4 P (.lst (vacc ++ [v4])) a = some o := fun a o ha e => by rw [upd_ne ha]; exact e
                  have g14 := ((g1.trans g2.weak).trans g3).trans g4
                  refine ⟨vacc, hp4, ?_, F4, acc ++ [d5], vacc ++ [v4], c5, rest6, ⟨g14.f, fun a o pc e => gh a o (ne_of_none e hP) (g14.h a o pc e), fun a ha => ?_, (fun a ha => by
                    by_cases hb : a = P
                    · exact ⟨_, by rw [hb]; exact upd_same, rfl⟩
                    · obtain ⟨u, e, z⟩ := g14.k a ha
                      exact ⟨u, by rw [upd_ne hb]; exact e, z⟩), g14.n⟩, fun a o e => gh a o (ne_of_none e fp4) (sb4 _ _ e), fun p hp => ?_, fp4, upd_same, ra4.append (.cons r4 .nil), e6, by rw [List.append_assoc]; exact eo⟩
                  · have := lenOk_le ho
                    rw [← eo, List.length_append, List.length_cons] at this
                    rw [ra4.length]
                    omega
                  · by_cases hb : a = P
                    · subst hb; rw [upd_same]; exact fun z => nomatch z
                    · rw [upd_ne hb]; exact g14.t a ha
                  · obtain ⟨k1, k2⟩ := cu4 p hp
                    exact ⟨k1, gh _ _ (fun z => pne (by rw [← z]; exact hp)) k2⟩
      · left
        have ei : i = ds.length := by omega
        subst ei
        rw [List.drop_length] at el
        cases el
        rw [List.append_nil] at eo
        subst eo
        refine ⟨hJ.st F1 H1 g1.f sb1, ?_⟩
        have nn : H P = none := by
          cases q : H P with
          | none => rfl
          | some o => exact absurd hP (g.t P (by rw [q]; exact fun z => nomatch z))
        exact q1 F1 H1 g1 sb1 cu1 _ ⟨P, vacc, rfl, nn, fp, hp, ra⟩
    · rw [if_neg ho] at q1
      exact q1.elim
def mYes : M Bool := rt true
theorem rd_yes {Q : Bool → Hp → Prop} (h : rdT K mg E mYes σ H Q) : tYes σ H Q := by
  obtain ⟨fr, s, F, hs, q⟩ := h
  exact q F H (Go.refl _ _ _) hs.sub hs.cup
/-! ### calls and defs -/
inductive O where
  | ok (d : PyData)
  | err (x : Ex)
  | no
def spD (K : PySem.W.Frag) (mg : Str → Option Value) (n : Nat) (φ : List PyData → O) : Sp := fun vs H Q E => vs.length = n ∧ ∃ F ds, Same F H ∧ RpL K F vs ds ∧ match φ ds with
  | .ok d => ∀ v F' H', Go none F H F' H' → Same F' H' → Rp K F' v d → Q v H'
  | .err x => ∀ F' H' cls dd, Go none F H F' H' → Same F' H' → ExOk mg H' x cls dd → E cls dd H'
  | .no => False
def spC (K : PySem.W.Frag) (mg : Str → Option Value) (n : Nat) (φ : Int × Int → List PyData → R PyData) : Sp := fun vs H Q E => vs.length = n ∧ ∃ pc F vs' ds c, vs = .ref pc :: vs' ∧ Same F H ∧ CupAt (some pc) F H c ∧ RpL K F vs' ds ∧ match φ c ds with
  | .ok d c' => ∀ v F' H', Go (some pc) F H F' H' → Same F' H' → CupAt (some pc) F' H' c' → Rp K F' v d → Q v H'
  | .err x c' => ∀ F' H' cls dd, Go (some pc) F H F' H' → Same F' H' → CupAt (some pc) F' H' c' → ExOk mg H' x cls dd → E cls dd H'
  | .no => False
def mCall (φ : List PyData → O) (m : M (List PyData)) : M PyData := bnd m fun ds => fun s => match φ ds with
  | .ok d => .ok d s.c
  | .err x => .err x s.c
  | .no => .no
def mCallC (i : Nat) (φ : Int × Int → List PyData → R PyData) (m : M (List PyData)) : M PyData := fun s => match s.r[i]? with
  | some .cup => bnd m (fun ds => fun s => φ s.c ds) s
  | _ => .no
theorem rd_call {n : Nat} {φ : List PyData → O} {mas : M (List PyData)} (hn : ∀ s ds c, mas s = .ok ds c → ds.length = n) {Q : VK} (h : rdE K mg E (mCall φ mas) σ H Q) : tCall (spD K mg n φ) [] E (rdA K mg E mas) σ H Q := by
  obtain ⟨fr, s, F, hs, q⟩ := h
  have q' := Post.bnd q
  refine ⟨fr, s, F, hs, ?_⟩
  cases e0 : mas s with
  | err x c => rw [e0] at q'; exact q'
  | no => rw [e0] at q'; exact q'
  | ok ds c =>
    rw [e0] at q'
    intro F' H' g sb cu vs r
    have q1 := q' F' H' g sb cu
    rw [List.append_nil]
    refine ⟨by rw [r.length]; exact hn _ _ _ e0, F', ds, sb, r, ?_⟩
    cases e : φ ds with
    | ok d => simp only [e] at q1; exact fun v F2 H2 g2 sb2 r2 => q1 F2 H2 g2.weak sb2 (cu.go g2) v r2
    | err x => simp only [e] at q1; exact fun F2 H2 cls dd g2 sb2 ex => q1 F2 H2 cls dd g2.weak sb2 (cu.go g2) ex
    | no => simp only [e] at q1; exact q1
theorem rd_callC {n : Nat} {φ : Int × Int → List PyData → R PyData} {mas : M (List PyData)} (hn : ∀ s ds c, mas s = .ok ds c → ds.length = n) {Q : VK} (h : rdE K mg E (mCallC i φ mas) σ H Q) : tCall (spC K mg (n + 1) φ) [] E (tCons (tVar i) (rdA K mg E mas)) σ H Q := by
  obtain ⟨fr, s, F, hs, q⟩ := h
  unfold mCallC at q
  split at q
  · rename_i ei
    obtain ⟨o, k', p, rfl, hp⟩ := hs.sl i _ ei
    have q' := Post.bnd q
    refine ⟨_, k', fr, s, F, hs, ?_⟩
    cases e0 : mas s with
    | err x c => rw [e0] at q'; exact q'
    | no => rw [e0] at q'; exact q'
    | ok ds c =>
      rw [e0] at q'
      intro F' H' g sb cu vs r
      have q1 := q' F' H' g sb cu
      show spC K mg (n + 1) φ ((V.ref p :: vs) ++ []) H' Q E
      rw [List.append_nil]
      refine ⟨by rw [List.length_cons, r.length, hn _ _ _ e0], p, F', vs, ds, c, rfl, sb, by rw [← hp]; exact cu, r, ?_⟩
      rw [← hp]
      cases e : φ c ds with
      | ok d c2 => simp only [e] at q1; exact fun v F2 H2 g2 sb2 cu2 r2 => q1 F2 H2 g2 sb2 cu2 v r2
      | err x c2 => simp only [e] at q1; exact fun F2 H2 cls dd g2 sb2 cu2 ex => q1 F2 H2 cls dd g2 sb2 cu2 ex
      | no => simp only [e] at q1; exact q1
  · exact q.elim
end
end Pu
end

noncomputable section
set_option Elab.async false
set_option linter.all false
set_option maxRecDepth 100000
set_option maxHeartbeats 4000000
/-! Pu, fifth part: the rules for statements, loops, comprehensions, calls; defs. -/
namespace Pu
open PySem PySem.Spec L2
section
variable {X : Cx} {E : XK} {a b c e it elt tg tg2 i1 : Expr} {rest es : List Expr} {ma mb mc m : M D} {ta : M Bool} {mas mit : M (List D)} {pos p px py pt apos : Pos} {x y z : Str} {st : Stmt} {sts body orelse : List Stmt} {s1 s2 : MS} {i j l : Nat} {bd : Bd} {bds : List Bd} {idx i2 : List Nat}
theorem st_nil : PSsD X E [] mNext := PSs.imp pss_nil fun _ _ _ => rd_next
theorem st_cons (h1 : PSD X E st s1) (h2 : PSsD X E sts s2) : PSsD X E (st :: sts) (mSeq s1 s2) := PSs.imp (pss_cons h1 h2) fun _ _ _ => rd_seq
theorem st_one (h1 : PSD X E st s1) : PSsD X E [st] s1 := pss_one h1
theorem st_pass : PSD X E (.Pass pos) mNext := PS.imp ps_pass fun _ _ _ => rd_next
theorem st_brk : PSD X E (.Break pos) mBrk := PS.imp ps_break fun _ _ _ => rd_brk
theorem st_cnt : PSD X E (.Continue pos) mCnt := PS.imp ps_continue fun _ _ _ => rd_cnt
theorem st_never : PSD X E st mNo := PS.imp ps_never fun _ _ _ => rd_no
theorem st_frz (i : Nat) (h : PSD X E st s1) : PSD X E st (mFrz i s1) := PS.imp h fun _ _ _ => rd_frz
theorem sts_frz (i : Nat) (h : PSsD X E sts s1) : PSsD X E sts (mFrz i s1) := PSs.imp h fun _ _ _ => rd_frz
theorem st_expr (h : PB X E e m) (hs : swapsWith e none pos.line X.env = pure false := by rfl) : PSD X E (.Expr e pos) (mDrop m) := PS.imp (ps_expr h hs) fun _ _ _ => rd_drop
theorem st_ret (h : PD X E e m) : PSD X E (.Return (some e) pos) (mRet m) := PS.imp (ps_ret h) fun _ _ _ => rd_ret
theorem st_retN : PSD X E (.Return none pos) mRetN := PS.imp ps_retN fun _ _ _ => rd_retN
theorem st_if (hc : PTD X E c ta) (ha : PSsD X E body s1) (hb : PSsD X E orelse s2) : PSD X E (.If c body orelse pos) (mIfS ta s1 s2) := PS.imp (ps_if hc ha hb) fun _ _ _ => rd_ifS
theorem st_setF (i : Nat) (hN : X.N.Nodup) (he : PF X E e m) (hi : X.N[i]? = some x := by rfl) (hx : Loc X.env.scope x := by first | exact .inl rfl | exact .inr rfl) (hs : swapsWith e (some (.Name x px)) pos.line X.env = pure false := by rfl)
    (hf : X.fn x = true ∨ X.env.scope.names.lookup x = some .local := by first | exact .inl rfl | exact .inr rfl) : PSD X E (.Assign [.Name x px] e pos) (mSetF i m) := PS.imp (ps_set hN hi hx he hs hf) fun _ _ _ => rd_setF
theorem st_setE (i : Nat) (hN : X.N.Nodup) (he : PD X E e m) (hi : X.N[i]? = some x := by rfl) (hx : Loc X.env.scope x := by first | exact .inl rfl | exact .inr rfl) (hs : swapsWith e (some (.Name x px)) pos.line X.env = pure false := by rfl)
    (hf : X.fn x = true ∨ X.env.scope.names.lookup x = some .local := by first | exact .inl rfl | exact .inr rfl) : PSD X E (.Assign [.Name x px] e pos) (mSetE i m) := PS.imp (ps_set hN hi hx he hs hf) fun _ _ _ => rd_setE
/-! ### targets -/
abbrev PGD (X : Cx) (tg : Expr) (bd : Bd) (idx : List Nat) := PG X tg (gD X.K bd idx)
abbrev PGsD (X : Cx) (tg : List Expr) (bds : List Bd) (idx : List Nat) := PGs X tg (gDs X.K bds idx)
theorem PGs.imp {ts : List Expr} {t t' : TGs} (h : PGs X ts t) (hi : ∀ vs σ H Q, t' vs σ H Q → t vs σ H Q) : PGs X ts t' := ⟨fun pins s σ H v u Q I r q => h.run pins s σ H v u Q I r (hi _ _ _ _ q)⟩
theorem g_name (i : Nat) (hN : X.N.Nodup) (hi : X.N[i]? = some x := by rfl) (hx : Loc X.env.scope x := by first | exact .inl rfl | exact .inr rfl) (hf : X.fn x = true ∨ X.env.scope.names.lookup x = some .local := by first | exact .inl rfl | exact .inr rfl) : PGD X (.Name x pos) (bName i) [i] :=
  PG.imp (pg_name hN hi hx hf) fun _ _ _ _ => gd_name
theorem gs_nil : PGsD X [] [] [] := PGs.imp pgs_nil fun _ _ _ _ => gd_nil
theorem gs_cons (h1 : PGD X tg bd idx) (h2 : PGsD X es bds i2) (hs : (assignEach (tg :: es) X.env).map (·.2) = assign tg X.env :: (assignEach es X.env).map (·.2) := by rfl) : PGsD X (tg :: es) (bd :: bds) (idx ++ i2) :=
  PGs.imp (pgs_cons h1 h2 hs) fun _ _ _ _ => gd_cons
theorem st_bind (he : PD X E e m) (hg : PGD X tg bd idx) (hs : swapsWithSole [tg] e pos.line X.env = pure false := by rfl) (hw : swappedStores [tg] e X.env = pure none := by rfl) (h1 : (assignEach [tg] X.env).map (·.2) = [assign tg X.env] := by rfl) : PSD X E (.Assign [tg] e pos) (mBind bd m) :=
  PS.imp (ps_asg he hg hs hw h1) fun _ _ _ => rd_bind
theorem st_par {k k2 : Nat} {p2 : Pos} (i j : Nat) (hc : X.calm = true) (hN : X.N.Nodup) (hij : i ≠ j) (ha : PF X E a ma) (hb : PF X E b mb) (hi : X.N[i]? = some x := by rfl) (hj : X.N[j]? = some y := by rfl)
    (hx : X.env.scope.names.lookup x = some .local := by rfl) (hy : X.env.scope.names.lookup y = some .local := by rfl)
    (hw : swappedStores [.Tuple [.Name x px, .Name y py] k pt] (.Tuple [a, b] k2 p2) X.env = pure (some [x, y]) := by rfl)
    (hs : swapsWithSole [.Tuple [.Name x px, .Name y py] k pt] (.Tuple [a, b] k2 p2) pos.line X.env = pure false := by rfl)
    (h1 : starEach [a, b] X.env = (false, eval a X.env) :: starEach [b] X.env := by rfl) (h2 : starEach [b] X.env = (false, eval b X.env) :: starEach [] X.env := by rfl) :
    PSD X E (.Assign [.Tuple [.Name x px, .Name y py] k pt] (.Tuple [a, b] k2 p2) pos) (mPar i j ma mb) :=
  PS.imp (ps_par hc hN hi hj hij hx hy (L2.pa_cons ha (L2.pa_cons hb L2.pa_nil h2) h1) hw hs) fun _ _ _ => rd_par hij
/-! ### stores -/
theorem st_app (i : Nat) (he : PD X E e m) (hN : X.N[i]? = some x := by rfl) (hv : Vis X.env.scope x := by first | exact Or.inl rfl | exact Or.inr (Or.inl rfl) | exact Or.inr (Or.inr rfl)) (hd : (x == ("__debug__" : Str)) = false := by decide) (hcd : (x == ("__classdict__" : Str)) = false := by decide)
    (hbase : attributeBase (.Name x px) "append" X.env (eval (.Name x px) X.env) = eval (.Name x px) X.env := by rfl)
    (hfew : ((backTo p (starEach (e :: []) X.env)).all (fun x => !x.1) && (backToKw p (keywordEach [] X.env)).all (fun x => x.1.isSome) && decide ((e :: ([] : List Expr)).length + ([] : List Keyword).length + (if ([] : List Keyword).isEmpty then 0 else 1) < 30)) = true := by rfl)
    (hline : (apos.endLine == p.line) = true := by rfl) (hs : starEach (e :: []) X.env = (false, eval e X.env) :: starEach [] X.env := by rfl) (hsw : swapsWith (.Call (.Attribute (.Name x px) "append" apos) [e] [] p) none pos.line X.env = pure false := by rfl) :
    PSD X E (.Expr (.Call (.Attribute (.Name x px) "append" apos) [e] [] p) pos) (mApp i m) :=
  PS.imp (ps_expr (pe_bm PySem.F.plainAttrs_list PySem.F.slot_list_append PySem.F.type_list_append mt_append (pe_var hN hv hd hcd) (L2.pa_cons he L2.pa_nil hs) hbase hfew hline hs rfl) hsw) fun _ _ _ => rd_app
theorem st_aug {op : Operator} {g : D → D → Option D} (i : Nat) (hN : X.N.Nodup) (ho : PIp X op (ipG X.K g)) (he : PB X E e m) (hi : X.N[i]? = some x := by rfl) (hx : Loc X.env.scope x := by first | exact .inl rfl | exact .inr rfl)
    (hf : X.fn x = true ∨ X.env.scope.names.lookup x = some .local := by first | exact .inl rfl | exact .inr rfl) : PSD X E (.AugAssign (.Name x px) op e pos) (mAug i g m) := PS.imp (ps_aug hN hi hx he ho hf) fun _ _ _ => rd_aug
theorem st_ext (i : Nat) (hN : X.N.Nodup) (he : PB X E e m) (hi : X.N[i]? = some x := by rfl) (hx : Loc X.env.scope x := by first | exact .inl rfl | exact .inr rfl)
    (hf : X.fn x = true ∨ X.env.scope.names.lookup x = some .local := by first | exact .inl rfl | exact .inr rfl) : PSD X E (.AugAssign (.Name x px) .Add e pos) (mExt i m) := PS.imp (ps_aug hN hi hx he (fun pins s σ H x y v u Q I r1 r2 q => iop_ext pins s σ H x y v u Q I r1 r2 q) hf) fun _ _ _ => rd_ext
def addI : D → D → Option D
  | .int i, .int j => some (.int (i + j))
  | _, _ => none
theorem ipd_add : PIp X .Add (ipG X.K addI) := by
  intro pins s σ H x y v u Q I rx ry h
  obtain ⟨pc, F, d, e, z, r1, r2, sb, h, q⟩ := h
  unfold addI at h
  split at h
  · cases h
    exact iop_add pins s σ H x y v u Q I rx ry ⟨_, _, r1.int, r2.int, q _ _ _ (Go.refl _ _ _) sb (.int _)⟩
  · cases h
theorem pf_cup {k : Int} {kk : Nat} (i : Nat) (hN : X.N[i]? = some x := by rfl) (hv : Vis X.env.scope x := by first | exact Or.inl rfl | exact Or.inr (Or.inl rfl) | exact Or.inr (Or.inr rfl)) (hd : (x == ("__debug__" : Str)) = false := by decide)
    (hcd : (x == ("__classdict__" : Str)) = false := by decide) (hs : PlainIx (.Constant (.int k) kk p) := by exact fun _ _ => rfl) : PF X E (.Subscript (.Name x px) (.Constant (.int k) kk p) pos) (cupGet i k) :=
  PE.imp (pe_ix ix_list (pe_var hN hv hd hcd) pe_int hs) fun _ _ _ => rd_cupGet
theorem st_cup {k : Int} {kk : Nat} (i : Nat) (he : PB X E e m) (hN : X.N[i]? = some x := by rfl) (hv : Vis X.env.scope x := by first | exact Or.inl rfl | exact Or.inr (Or.inl rfl) | exact Or.inr (Or.inr rfl)) (hd : (x == ("__debug__" : Str)) = false := by decide)
    (hcd : (x == ("__classdict__" : Str)) = false := by decide) (ha : ∀ v, assign (.Subscript (.Name x px) (.Constant (.int k) kk p) apos) X.env v = (do
      let ov ← holding [v] (eval (.Name x px) X.env)
      let iv ← holding [v, ov] (eval (.Constant (.int k) kk p) X.env)
      standAt apos
      holding [v, ov, iv] (setItem ov iv v)
      release [v, ov, iv] []) := by intro _; rfl) (hs : swapsWithSole [.Subscript (.Name x px) (.Constant (.int k) kk p) apos] e pos.line X.env = pure false := by rfl) (hw : swappedStores [.Subscript (.Name x px) (.Constant (.int k) kk p) apos] e X.env = pure none := by rfl) :
    PSD X E (.Assign [.Subscript (.Name x px) (.Constant (.int k) kk p) apos] e pos) (mCupSet i k m) :=
  PS.imp (ps_asg he (pg_sub (pe_var hN hv hd hcd) pe_int set_list ha) hs hw) fun _ _ _ => rd_cupSet
/-! ### loops -/
theorem PI.or {w1 w2 : TI} (h1 : PI X tg e w1) (h2 : PI X tg e w2) : PI X tg e fun σ H Q => w1 σ H Q ∨ w2 σ H Q := ⟨fun pins s σ H R I h => by
  rcases h with h | h
  · exact h1.run pins s σ H R I h
  · exact h2.run pins s σ H R I h⟩
/-- a value's walk: by what it is -/
theorem pi_any {t : TE} (he : PE X e t) : PI X tg e fun σ H R => t σ H fun x H1 => (∃ a, x = .ref a ∧ (∃ xs, SqL X.K H1 a xs) ∧ R (Itl X.K a) H1) ∨ (∃ a, x = .ref a ∧ (∃ xs, SqT X.K H1 a xs) ∧ R (Itt X.K a) H1) ∨ ∃ z, x = .str z ∧ R (Its z) H1 := by
  refine ⟨fun pins s σ H R I h => thn (he.run pins s σ H _ I h) fun u s1 ⟨x, H1, I1, r1, q⟩ => ?_⟩
  have fp : ∀ b ∈ [s1.heap.objs.size], FpOk X pins H1 b := fun b hb => by
    have e : b = s1.heap.objs.size := by simpa using hb
    subst e
    exact I1.fpOk (Nat.le_refl _) (I1.hok.fresh (Nat.le_refl _))
  rcases q with ⟨a, rfl, ⟨xs, hq⟩, q⟩ | ⟨a, rfl, ⟨xs, hq⟩, q⟩ | ⟨z, rfl, q⟩
  · cases r1
    obtain ⟨its, rv, p, hz⟩ := I1.list hq
    exact wpAny_pyIter_list p.isList ⟨s1.heap.objs.size, [s1.heap.objs.size], _, _, H1, rfl, I1.kept (t' := s1.toks) fun b o e => Heap.get?_push_of_some _ e, turn_list a _, ⟨_, Heap.get?_push_size _ rfl, rfl, rfl⟩, fp, q⟩
  · cases r1
    obtain ⟨its, rv, p, hz⟩ := I1.tuple hq
    exact wpAny_pyIter_tuple (show s1.heap.IsTuple a its.toArray from p) ⟨s1.heap.objs.size, [s1.heap.objs.size], _, _, H1, rfl, I1.kept (t' := s1.toks) fun b o e => Heap.get?_push_of_some _ e, turn_tuple a _, ⟨_, Heap.get?_push_size _ rfl, rfl, rfl⟩, fp, q⟩
  · obtain ⟨t, rfl⟩ := r1
    cases ha : z.cps.all (· < 128)
    · exact wpAny_pyIter_wide ha (pi_one (tk := s1.toks) I1 _ (turn_str _ z t "str_iterator" (.inr rfl)) ⟨_, Heap.get?_push_size _ rfl, rfl, rfl⟩ q)
    · exact wpAny_pyIter_ascii ha (pi_one (tk := s1.toks) I1 _ (turn_str _ z t "str_ascii_iterator" (.inl rfl)) ⟨_, Heap.get?_push_size _ rfl, rfl, rfl⟩ q)
theorem i_d (he : PD X E e m) : PID X E tg e (mI iterD m) := PI.imp (pi_any he) fun _ _ _ => rd_it
theorem i_rng1 (hm : X.mg "range" = none) (ha : PB X E a m) (hg : Gl X "range" := by rfl) (hs : starEach [a] X.env = [(false, eval a X.env)] := by rfl) : PID X E tg (.Call (.Name "range" p) [a] [] pos) (mI rng1D m) :=
  PI.imp (pi_range1 hg hm (L2.pa_cons ha L2.pa_nil hs) hs) fun _ _ _ => rd_rng1
theorem i_rng2 (hm : X.mg "range" = none) (ha : PB X E a ma) (hb : PB X E b mb) (hg : Gl X "range" := by rfl) (hs : starEach [a, b] X.env = [(false, eval a X.env), (false, eval b X.env)] := by rfl) (hs2 : starEach [b] X.env = [(false, eval b X.env)] := by rfl) : PID X E tg (.Call (.Name "range" p) [a, b] [] pos) (mR2 ma mb) :=
  PI.imp (pi_range2 hg hm (L2.pa_cons ha (L2.pa_cons hb L2.pa_nil hs2) (by rw [hs2]; exact hs)) hs hs2) fun _ _ _ => rd_rng2
theorem g_tup {k : Nat} (hc : X.calm = true) (h : PGsD X es bds idx) (hn : bds.length = es.length := by rfl) (h1 : (assignEach es X.env).length = es.length := by rfl) (h2 : (assignEach es X.env).findIdx? (·.1) = none := by rfl) : PGD X (.Tuple es k pos) (bTup bds) idx :=
  PG.imp (pg_tup (n := es.length) hc h h1 h2) fun _ _ _ _ => gd_tup hn
theorem st_for (hp : PassesOwn (model X.prog X.w) X.A X.env X.xe) (hc : X.calm = true) (hi : PID X E tg it mit) (hg : PGD X tg bd idx) (hb : PSsD X E body s1) (hs : ∀ x, foldedSetIterable it X.env x = pure x := by intro _; rfl) : PSD X E (.For tg it body [] pos) (mFor bd mit s1) :=
  PS.imp (ps_for hp hc hi hg hb hs) fun _ _ _ => rd_for
theorem st_while (n : Nat) (hp : PassesOwn (model X.prog X.w) X.A X.env X.xe) (hc : PTD X E c ta) (hb : PSsD X E body s1) : PSD X E (.While c body [] pos) (mWhile n ta s1) := PS.imp (ps_while hp hc hb) fun _ _ _ => rd_while
/-! ### comprehensions -/
abbrev PTsD (X : Cx) (E : XK) (ifs : List Expr) (m : M Bool) := PTs X ifs (rdT X.K X.mg E m)
theorem ts_nil : PTsD X E [] mYes := ⟨fun pins s σ H Q I h => pts_nil.run pins s σ H Q I (rd_yes h)⟩
theorem ts_one (h : PTD X E c ta) : PTsD X E [c] ta := pts_one h
section
variable {scope : Scope} {own : List (Str × Nat)} {ifs : List Expr}
theorem pf_lc (own : List (Str × Nat)) (hc : X.calm = true) (hN : X.N.Nodup) (hi : PID X E tg it mit) (ok : BlkOk X.N X.env.scope scope own)
    (hg : ∀ (s : Shared) (H : Hp) (C : Addr) (cl : List (Str × Addr)) (fp : List Addr), PGD (X.blk s H scope (compEnvC scope cl C X.env) fp) tg bd idx) (ht : ∀ (s : Shared) (H : Hp) (C : Addr) (cl : List (Str × Addr)) (fp : List Addr), PTsD (X.blk s H scope (compEnvC scope cl C X.env) fp) L2.E0 ifs ta)
    (he : ∀ (s : Shared) (H : Hp) (C : Addr) (cl : List (Str × Addr)) (fp : List Addr), PD (X.blk s H scope (compEnvC scope cl C X.env) fp) L2.E0 elt m) (hx : ∀ j ∈ idx, j ∈ own.map (·.2) := by decide) (hs : ∀ x, foldedSetIterable it X.env x = pure x := by intro _; rfl) :
    PF X E (.ListComp elt [⟨tg, it, ifs, 0⟩] scope pos) (mLc (own.map (·.2)) mit bd ta m) :=
  PE.imp (pe_lc hc hN hi ok hg ht he hs) fun _ _ _ => rd_lc hx
theorem st_setLc (i : Nat) (own : List (Str × Nat)) (hc : X.calm = true) (hN : X.N.Nodup) (hsw : swapsWith (.ListComp elt [⟨tg, it, ifs, 0⟩] scope p) (some (.Name x px)) pos.line X.env = pure true) (hi : PID X E tg it mit) (ok : BlkOk X.N X.env.scope scope own)
    (hg : ∀ (s : Shared) (H : Hp) (C : Addr) (cl : List (Str × Addr)) (fp : List Addr), PGD (X.blk s H scope (compEnvC scope cl C X.env) fp) tg bd idx) (ht : ∀ (s : Shared) (H : Hp) (C : Addr) (cl : List (Str × Addr)) (fp : List Addr), PTsD (X.blk s H scope (compEnvC scope cl C X.env) fp) L2.E0 ifs ta)
    (he : ∀ (s : Shared) (H : Hp) (C : Addr) (cl : List (Str × Addr)) (fp : List Addr), PD (X.blk s H scope (compEnvC scope cl C X.env) fp) L2.E0 elt m) (hx : ∀ j ∈ idx, j ∈ own.map (·.2) := by decide) (hy : X.N[i]? = some x := by rfl) (hyl : X.env.scope.names.lookup x = some .local := by rfl)
    (hs : ∀ x, foldedSetIterable it X.env x = pure x := by intro _; rfl) :
    PSD X E (.Assign [.Name x px] (.ListComp elt [⟨tg, it, ifs, 0⟩] scope p) pos) (mSetF i (mLc (own.map (·.2)) mit bd ta m)) :=
  PS.imp (ps_setLc hc hN hy hyl hsw hi ok hg ht he hs) fun D σ H q => by
    have q := rd_setF q
    exact rd_lc (E1 := L2.E0) hx q
end
/-! ### calls -/
section
variable {k n : Nat} {f : Addr} {fd : FuncData} {ps : List Str} {φ : List D → O} {φc : Int × Int → List D → R D}
theorem acons_len {s : S} {ds : List D} {c : Int × Int} : ∀ {n : Nat} {ma : M D} {mas : M (List D)}, (∀ s ds c, mas s = .ok ds c → ds.length = n) → aCons ma mas s = .ok ds c → ds.length = n + 1 := fun {n ma mas} h e => by
  unfold aCons bnd at e
  cases e1 : ma s with
  | err _ _ => rw [e1] at e; cases e
  | no => rw [e1] at e; cases e
  | ok d c1 =>
    rw [e1] at e
    simp only [bnd] at e
    cases e2 : mas (s.wc c1) with
    | err _ _ => rw [e2] at e; cases e
    | no => rw [e2] at e; cases e
    | ok ds2 c2 =>
      rw [e2] at e
      cases e
      simp [h _ _ _ e2]
/-- argument lists of a known length -/
structure PAN (X : Cx) (E : XK) (es : List Expr) (n : Nat) (mas : M (List D)) : Prop where
  pa : PAD X E es mas
  len : ∀ s ds c, mas s = .ok ds c → ds.length = n
theorem an_nil : PAN X E [] 0 aNil := ⟨pa_nil, fun s ds c e => by cases e; rfl⟩
theorem an_cons (ha : PD X E e m) (hr : PAN X E es n mas) (hs : starEach (e :: es) X.env = (false, eval e X.env) :: starEach es X.env := by rfl) : PAN X E (e :: es) (n + 1) (aCons m mas) := ⟨pa_cons ha hr.pa hs, fun s ds c e => acons_len hr.len e⟩
theorem pd_call (F : FnOk X.prog X.w X.K X.mg X.base (L2.CX X.prog X.w) k f fd ps (spD X.K X.mg n φ)) (hr : Room k X.A) (hx : Passes (L2.CX X.prog X.w) X E) (hm : X.mg x = some (.ref f)) (hk : PySem.W.keepIn X.K (.ref f) = true) (hb : Binds X.K fd ps []) (ha : PAN X E (e :: es) n mas)
    (hg : Gl X x := by rfl) (hdb : (x == ("__debug__" : Str)) = false := by decide) (he : starEach (e :: es) X.env = (false, eval e X.env) :: starEach es X.env := by rfl) (hpl : (backTo pos (starEach es X.env)).any (·.1) = false := by rfl) : PD X E (.Call (.Name x p) (e :: es) [] pos) (mCall φ mas) :=
  PE.imp (pe_call F hr hg hm hk hb .nil hx ha.pa hdb he hpl) fun _ _ _ => rd_call ha.len
theorem pd_callC (i : Nat) (F : FnOk X.prog X.w X.K X.mg X.base (L2.CX X.prog X.w) k f fd ps (spC X.K X.mg (n + 1) φc)) (hr : Room k X.A) (hx : Passes (L2.CX X.prog X.w) X E) (hm : X.mg x = some (.ref f)) (hk : PySem.W.keepIn X.K (.ref f) = true) (hb : Binds X.K fd ps []) (ha : PAN X E es n mas)
    (hN : X.N[i]? = some y := by rfl) (hv : Vis X.env.scope y := by first | exact Or.inl rfl | exact Or.inr (Or.inl rfl) | exact Or.inr (Or.inr rfl)) (hd : (y == ("__debug__" : Str)) = false := by decide) (hcd : (y == ("__classdict__" : Str)) = false := by decide)
    (hg : Gl X x := by rfl) (hdb : (x == ("__debug__" : Str)) = false := by decide) (he : starEach (.Name y py :: es) X.env = (false, eval (.Name y py) X.env) :: starEach es X.env := by rfl) (hpl : (backTo pos (starEach es X.env)).any (·.1) = false := by rfl) : PD X E (.Call (.Name x p) (.Name y py :: es) [] pos) (mCallC i φc mas) :=
  PE.imp (pe_call F hr hg hm hk hb .nil hx (L2.pa_cons (pe_var hN hv hd hcd) ha.pa he) hdb he hpl) fun _ _ _ => rd_callC ha.len
end
/-! ### defs -/
section
variable {P : Program} {w : World} {K : PySem.W.Frag} {mg : Str → Option Value} {base : Heap}
def fin : RS → O
  | .next _ => .ok .none
  | .ret d _ => .ok d
  | .err x _ => .err x
  | _ => .no
def finC : RS → R D
  | .next s => .ok .none s.c
  | .ret d c => .ok d c
  | .err x c => .err x c
  | _ => .no
def st0 (n : Nat) (ds : List D) : List Sl := ds.map .fz ++ List.replicate (n - ds.length) .no
theorem start_get {N : List Str} {vs : List V} {ds : List D} {F : Hp} (r : RpL K F vs ds) {i : Nat} {t : Sl} (e : (st0 N.length ds)[i]? = some t) : ∃ o, (L2.start N vs)[i]? = some o ∧ ((t = .no) ∨ ∃ d v, t = .fz d ∧ o = some v ∧ Rp K F v d) := by
  unfold st0 at e
  unfold L2.start
  have hl := r.length
  by_cases hi : i < ds.length
  · rw [List.getElem?_append_left (by simpa using hi)] at e
    rw [List.getElem?_map, List.getElem?_eq_getElem hi] at e
    cases e
    obtain ⟨v, e1, e2⟩ := r.get i (List.getElem?_eq_getElem hi)
    refine ⟨some v, ?_, .inr ⟨_, v, rfl, rfl, e2⟩⟩
    rw [List.getElem?_append_left (by simp; omega), List.getElem?_map, e1]
    rfl
  · rw [List.getElem?_append_right (by simpa using Nat.le_of_not_lt hi)] at e
    rw [List.getElem?_append_right (by simp; omega)]
    have := List.getElem?_eq_some_iff.mp e
    obtain ⟨h1, h2⟩ := this
    rw [List.length_replicate] at h1
    rw [List.getElem_replicate] at h2
    refine ⟨none, ?_, .inl h2.symm⟩
    rw [List.getElem?_replicate]
    simp only [List.length_map] at h1 ⊢
    rw [if_pos (by omega)]
theorem fn_pure {x qual : Str} {st : Stmt} {f : Addr} {fd : FuncData} {N ps : List Str} {k : Nat} {φ : List D → O} (F : Fun K x qual st f fd) (S0 : FnScope N ps (defScope st)) (m : MS) (hl : ps.length ≤ N.length)
    (hφ : ∀ ds, ds.length = ps.length → φ ds = .no ∨ fin (m ⟨(0, 0), st0 N.length ds⟩) = φ ds)
    (hm : ∀ (cdv : Value) (A : Around) (outer : List Env) (s : Shared) (H : Hp) (E : XK), Room k (A.deeper (PyProof.Rows.envOfC qual (defScope st) s.heap.objs.size f cdv)) →
      PSsD (cxOf (L2.CX P w) P w K mg base N qual (defScope st) f cdv A outer s H E) E (defBody st) m) : FnOk P w K mg base (L2.CX P w) (k + 1) f fd ps (spD K mg ps.length φ) := by
  refine F.okX S0 (fun vs H Q E h => h.1) fun cdv A outer s H vs Q E hr h => ?_
  obtain ⟨hn, Fz, ds, sb, r, q⟩ := h
  have hd : ds.length = ps.length := by rw [← r.length]; exact hn
  refine ⟨_, hm cdv A outer s H E hr, ?_⟩
  have hsat : Sat K ⟨none, Fz, H⟩ ⟨(0, 0), st0 N.length ds⟩ Fz (L2.start N vs) H := by
    refine ⟨sb, Go.refl _ _ _, fun p e => (by cases e), ?_, fun i t e => ?_, fun i j t u p e1 e2 o1 => ?_⟩
    · unfold L2.start st0
      simp only [List.length_append, List.length_map, List.length_replicate]
      rw [r.length]
    · obtain ⟨o, e1, e2⟩ := start_get r e
      refine ⟨o, e1, ?_⟩
      rcases e2 with rfl | ⟨d, v, rfl, rfl, e3⟩
      · trivial
      · exact ⟨v, rfl, e3⟩
    · obtain ⟨o, _, e3⟩ := start_get r e1
      rcases e3 with rfl | ⟨d, v, rfl, _⟩ <;> cases o1
  refine ⟨_, _, Fz, hsat, ?_⟩
  have hag := hφ ds hd
  cases em : m ⟨(0, 0), st0 N.length ds⟩ with
  | next s' =>
    rw [em] at hag
    rcases hag with hag | hag
    · rw [hag] at q; exact q.elim
    · rw [← hag] at q
      exact fun F' σ' H' hs' => q .non F' H' hs'.go hs'.sub .non
  | ret d c =>
    rw [em] at hag
    rcases hag with hag | hag
    · rw [hag] at q; exact q.elim
    · rw [← hag] at q
      exact fun v F' H' g sb cu r => q v F' H' g sb r
  | err x c =>
    rw [em] at hag
    rcases hag with hag | hag
    · rw [hag] at q; exact q.elim
    · rw [← hag] at q
      exact fun F' H' cls dd g sb cu ex => q F' H' cls dd g sb ex
  | brk s' => rw [em] at hag; rcases hag with hag | hag <;> (first | rw [hag] at q | rw [← hag] at q) <;> exact q.elim
  | cnt s' => rw [em] at hag; rcases hag with hag | hag <;> (first | rw [hag] at q | rw [← hag] at q) <;> exact q.elim
  | no => rw [em] at hag; rcases hag with hag | hag <;> (first | rw [hag] at q | rw [← hag] at q) <;> exact q.elim
/-- the same with the cup first -/
theorem fn_cup {x qual : Str} {st : Stmt} {f : Addr} {fd : FuncData} {N ps : List Str} {k n : Nat} {φ : Int × Int → List D → R D} (F : Fun K x qual st f fd) (S0 : FnScope N ps (defScope st)) (m : MS) (hps : ps.length = n + 1) (hl : ps.length ≤ N.length)
    (hφ : ∀ c ds, ds.length = n → φ c ds = .no ∨ finC (m ⟨c, .cup :: st0 (N.length - 1) ds⟩) = φ c ds)
    (hm : ∀ (cdv : Value) (A : Around) (outer : List Env) (s : Shared) (H : Hp) (E : XK), Room k (A.deeper (PyProof.Rows.envOfC qual (defScope st) s.heap.objs.size f cdv)) →
      PSsD (cxOf (L2.CX P w) P w K mg base N qual (defScope st) f cdv A outer s H E) E (defBody st) m) : FnOk P w K mg base (L2.CX P w) (k + 1) f fd ps (spC K mg (n + 1) φ) := by
  refine F.okX S0 (fun vs H Q E h => by rw [hps]; exact h.1) fun cdv A outer s H vs Q E hr h => ?_
  obtain ⟨hn, pc, Fz, vs', ds, c, rfl, sb, cu0, r, q⟩ := h
  have hd : ds.length = n := by
    rw [← r.length]
    simpa using hn
  refine ⟨_, hm cdv A outer s H E hr, ?_⟩
  have hsat : Sat K ⟨some pc, Fz, H⟩ ⟨c, .cup :: st0 (N.length - 1) ds⟩ Fz (L2.start N (.ref pc :: vs')) H := by
    have e0 : L2.start N (.ref pc :: vs') = some (.ref pc) :: (vs'.map some ++ List.replicate (N.length - 1 - vs'.length) none) := by
      unfold L2.start
      simp only [List.map_cons, List.cons_append, List.length_cons]
      rw [show N.length - (vs'.length + 1) = N.length - 1 - vs'.length by omega]
    have gt : ∀ (i : Nat) t, (st0 (N.length - 1) ds)[i]? = some t → ∃ o, (vs'.map some ++ List.replicate (N.length - 1 - vs'.length) none)[i]? = some o ∧ ((t = .no) ∨ ∃ d v, t = .fz d ∧ o = some v ∧ Rp K Fz v d) := fun i t e => by
      have := start_get (N := N.tail) r (i := i) (t := t) (by rw [List.length_tail]; exact e)
      unfold L2.start at this
      rw [List.length_tail] at this
      exact this
    rw [e0]
    refine ⟨sb, Go.refl _ _ _, cu0, ?_, fun i t e => ?_, fun i j t u p e1 e2 o1 => ?_⟩
    · unfold st0
      simp only [List.length_append, List.length_map, List.length_replicate, List.length_cons]
      rw [r.length]
    · cases i with
      | zero => cases e; exact ⟨_, rfl, pc, rfl, rfl⟩
      | succ i =>
        obtain ⟨o, e1, e2⟩ := gt i t (by simpa using e)
        refine ⟨o, by simpa using e1, ?_⟩
        rcases e2 with rfl | ⟨d, v, rfl, rfl, e3⟩
        · trivial
        · exact ⟨v, rfl, e3⟩
    · cases i with
      | zero => cases e1; cases o1
      | succ i =>
        obtain ⟨o, _, e3⟩ := gt i t (by simpa using e1)
        rcases e3 with rfl | ⟨d, v, rfl, _⟩ <;> cases o1
  refine ⟨_, _, Fz, hsat, ?_⟩
  have hag := hφ c ds hd
  cases em : m ⟨c, .cup :: st0 (N.length - 1) ds⟩ with
  | next s' =>
    rw [em] at hag
    rcases hag with hag | hag
    · rw [hag] at q; exact q.elim
    · rw [← hag] at q
      exact fun F' σ' H' hs' => q .non F' H' hs'.go hs'.sub hs'.cup .non
  | ret d c =>
    rw [em] at hag
    rcases hag with hag | hag
    · rw [hag] at q; exact q.elim
    · rw [← hag] at q
      exact fun v F' H' g sb cu r => q v F' H' g sb cu r
  | err x c =>
    rw [em] at hag
    rcases hag with hag | hag
    · rw [hag] at q; exact q.elim
    · rw [← hag] at q
      exact fun F' H' cls dd g sb cu ex => q F' H' cls dd g sb cu ex
  | brk s' => rw [em] at hag; rcases hag with hag | hag <;> (first | rw [hag] at q | rw [← hag] at q) <;> exact q.elim
  | cnt s' => rw [em] at hag; rcases hag with hag | hag <;> (first | rw [hag] at q | rw [← hag] at q) <;> exact q.elim
  | no => rw [em] at hag; rcases hag with hag | hag <;> (first | rw [hag] at q | rw [← hag] at q) <;> exact q.elim
end
/-- the same for the script: one list, of ints -/
def spScr (K : PySem.W.Frag) (mg : Str → Option Value) (φ : List Int → O) : Sp := fun vs H Q E => ∃ a ns, vs = [.ref a] ∧ SqL K H a (ns.map V.int) ∧ ns.length ≤ 63 ∧ match φ ns with
  | .ok d => ∀ v F' H', Same H H' → Same F' H' → Rp K F' v d → Q v H'
  | _ => False
theorem rpl_ints {F : Hp} : ∀ ns : List Int, RpL K F (ns.map V.int) (ns.map PyData.int)
  | [] => .nil
  | n :: ns => .cons (.int n) (rpl_ints ns)
theorem fn_scr {x qual : Str} {st : Stmt} {f : Addr} {fd : FuncData} {N : List Str} {y : Str} {k : Nat} {φ : List Int → O} (F : Fun K x qual st f fd) (S0 : FnScope N [y] (defScope st)) (m : MS)
    (hφ : ∀ ns : List Int, ns.length ≤ 63 → φ ns = .no ∨ fin (m ⟨(0, 0), .sq (ns.map .int) :: List.replicate (N.length - 1) .no⟩) = φ ns)
    (hm : ∀ (cdv : Value) (A : Around) (outer : List Env) (s : Shared) (H : Hp) (E : XK), Room k (A.deeper (PyProof.Rows.envOfC qual (defScope st) s.heap.objs.size f cdv)) →
      PSsD (cxOf (L2.CX P w) P w K mg base N qual (defScope st) f cdv A outer s H E) E (defBody st) m) : FnOk P w K mg base (L2.CX P w) (k + 1) f fd [y] (spScr K mg φ) := by
  refine F.okX S0 (fun vs H Q E h => by obtain ⟨a, ns, rfl, _⟩ := h; rfl) fun cdv A outer s H vs Q E hr h => ?_
  obtain ⟨a, ns, rfl, hS, h63, q⟩ := h
  refine ⟨_, hm cdv A outer s H E hr, ?_⟩
  have hsat : Sat K ⟨none, H, H⟩ ⟨(0, 0), .sq (ns.map .int) :: List.replicate (N.length - 1) .no⟩ H (L2.start N [.ref a]) H := by
    refine ⟨Same.refl _, Go.refl _ _ _, fun p e => (by cases e), ?_, fun i t e => ?_, fun i j t u p e1 e2 o1 => ?_⟩
    · simp [L2.start, Nat.add_comm]
    · cases i with
      | zero => cases e; exact ⟨_, rfl, a, _, rfl, hS, rpl_ints ns⟩
      | succ i =>
        have e : (List.replicate (N.length - 1) Sl.no)[i]? = some t := by simpa using e
        rw [List.getElem?_replicate] at e
        split at e
        · rename_i hi
          cases e
          refine ⟨none, ?_, trivial⟩
          show (some (V.ref a) :: List.replicate (N.length - 1) none)[i + 1]? = _
          simp [hi]
        · cases e
    · cases i with
      | zero => cases e1; cases o1
      | succ i =>
        have e : (List.replicate (N.length - 1) Sl.no)[i]? = some t := by simpa using e1
        rw [List.getElem?_replicate] at e
        split at e
        · cases e; cases o1
        · cases e
  refine ⟨_, _, H, hsat, ?_⟩
  have hag := hφ ns h63
  cases em : m ⟨(0, 0), .sq (ns.map .int) :: List.replicate (N.length - 1) .no⟩ with
  | next s' =>
    rw [em] at hag
    rcases hag with hag | hag
    · rw [hag] at q; exact q.elim
    · rw [← hag] at q
      exact fun F' σ' H' hs' => q .non F' H' (fun a o e => hs'.go.h a o (by simp) e) hs'.sub .non
  | ret d c =>
    rw [em] at hag
    rcases hag with hag | hag
    · rw [hag] at q; exact q.elim
    · rw [← hag] at q
      exact fun v F' H' g sb cu r => q v F' H' (fun a o e => g.h a o (by simp) e) sb r
  | err x c => rw [em] at hag; rcases hag with hag | hag <;> (first | rw [hag] at q | rw [← hag] at q) <;> exact q.elim
  | brk s' => rw [em] at hag; rcases hag with hag | hag <;> (first | rw [hag] at q | rw [← hag] at q) <;> exact q.elim
  | cnt s' => rw [em] at hag; rcases hag with hag | hag <;> (first | rw [hag] at q | rw [← hag] at q) <;> exact q.elim
  | no => rw [em] at hag; rcases hag with hag | hag <;> (first | rw [hag] at q | rw [← hag] at q) <;> exact q.elim
end

/-! ### meanings, applied to a state -/
section
variable {α β : Type} (s : S)
@[simp] theorem st0_def (n : Nat) (ds : List D) : st0 n ds = ds.map .fz ++ List.replicate (n - ds.length) .no := (rfl)
@[simp] theorem wc_mk (c c' : Int × Int) (r : List Sl) : S.wc ⟨c, r⟩ c' = ⟨c', r⟩ := (rfl)
@[simp] theorem up_mk (c : Int × Int) (r : List Sl) (i : Nat) (t : Sl) : S.up ⟨c, r⟩ i t = ⟨c, r.set i t⟩ := (rfl)
@[simp] theorem frz_mk (c : Int × Int) (r : List Sl) (i : Nat) : S.frz ⟨c, r⟩ i = ⟨c, r.modify i frzSl⟩ := (rfl)
@[simp] theorem bnd_ap (m : M α) (k : α → M β) : bnd m k s = (match m s with
  | .ok a c => k a (s.wc c)
  | .err x c => .err x c
  | .no => .no) := (rfl)
@[simp] theorem rt_ap (a : α) : rt a s = .ok a s.c := (rfl)
@[simp] theorem lift_ap (o : Option α) : lift o s = (match o with
  | some a => .ok a s.c
  | none => .no) := (rfl)
@[simp] theorem m1_ap (g : D → Option D) (a : M D) : m1 g a s = bnd a (fun x => lift (g x)) s := (rfl)
@[simp] theorem m2_ap (g : D → D → Option D) (a b : M D) : m2 g a b s = bnd a (fun x => bnd b fun y => lift (g x y)) s := (rfl)
@[simp] theorem mChain_ap (g g' : D → D → Option D) (a b c : M D) : mChain g g' a b c s = bnd a (fun x => bnd b fun y => bnd (lift (g x y)) fun z => match z with
  | .bool true => bnd c fun w => lift (g' y w)
  | .bool false => rt (.bool false)
  | _ => lift none) s := (rfl)
@[simp] theorem mB_ap (a : M D) : mB a s = bnd a (fun d => lift (boolD d)) s := (rfl)
@[simp] theorem mBd_ap (a : M D) : mBd a s = bnd a (fun d => match d with
  | .bool b => rt (.bool b)
  | _ => lift none) s := (rfl)
@[simp] theorem mAnd_ap (a b : M Bool) : mAnd a b s = bnd a (fun x => match x with
  | true => b
  | false => rt false) s := (rfl)
@[simp] theorem mOr_ap (a b : M Bool) : mOr a b s = bnd a (fun x => match x with
  | true => rt true
  | false => b) s := (rfl)
@[simp] theorem mNot_ap (a : M Bool) : mNot a s = bnd a (fun x => rt (!x)) s := (rfl)
@[simp] theorem mAndV_ap (a b : M D) : mAndV a b s = bnd a (fun x => match x with
  | .bool true => b
  | .bool false => rt (.bool false)
  | _ => lift none) s := (rfl)
@[simp] theorem mOrV_ap (a b : M D) : mOrV a b s = bnd a (fun x => match x with
  | .bool true => rt (.bool true)
  | .bool false => b
  | _ => lift none) s := (rfl)
@[simp] theorem mNotV_ap (a : M D) : mNotV a s = bnd a (fun x => match x with
  | .bool b => rt (.bool (!b))
  | _ => lift none) s := (rfl)
@[simp] theorem mIf_ap (t : M Bool) (a b : M D) : mIf t a b s = bnd t (fun x => match x with
  | true => a
  | false => b) s := (rfl)
@[simp] theorem slB_ap (i : Nat) : slB i s = (match s.r[i]? with
  | some (.fz d) => .ok d s.c
  | some (.ow xs) => .ok (.list xs) s.c
  | some (.od xs) => .ok (.dict xs) s.c
  | _ => .no) := (rfl)
@[simp] theorem slE_ap (i : Nat) : slE i s = (match s.r[i]? with
  | some (.fz d) => .ok d s.c
  | _ => .no) := (rfl)
@[simp] theorem aNil_ap : aNil s = .ok [] s.c := (rfl)
@[simp] theorem aCons_ap (a : M D) (b : M (List D)) : aCons a b s = bnd a (fun x => bnd b fun xs => rt (x :: xs)) s := (rfl)
@[simp] theorem mTup_ap (m : M (List D)) : mTup m s = bnd m (fun xs => lift (if lenOk xs = true then some (.tuple xs) else none)) s := (rfl)
@[simp] theorem mLst_ap (m : M (List D)) : mLst m s = bnd m (fun xs => lift (if lenOk xs = true then some (.list xs) else none)) s := (rfl)
@[simp] theorem mSeq_ap (a b : MS) : mSeq a b s = (match a s with
  | .next s' => b s'
  | r => r) := (rfl)
@[simp] theorem mNext_ap : mNext s = .next s := (rfl)
@[simp] theorem mBrk_ap : mBrk s = .brk s := (rfl)
@[simp] theorem mCnt_ap : mCnt s = .cnt s := (rfl)
@[simp] theorem mNo_ap : mNo s = .no := (rfl)
@[simp] theorem mSetF_ap (i : Nat) (m : M D) : mSetF i m s = mErr (m s) fun d c => .next ((s.wc c).up i (slF d)) := (rfl)
@[simp] theorem mSetE_ap (i : Nat) (m : M D) : mSetE i m s = mErr (m s) fun d c => .next ((s.wc c).up i (.fz d)) := (rfl)
@[simp] theorem mDrop_ap (m : M D) : mDrop m s = mErr (m s) fun _ c => .next (s.wc c) := (rfl)
@[simp] theorem mRet_ap (m : M D) : mRet m s = mErr (m s) fun d c => .ret d c := (rfl)
@[simp] theorem mRetN_ap : mRetN s = .ret .none s.c := (rfl)
@[simp] theorem mIfS_ap (t : M Bool) (a b : MS) : mIfS t a b s = mErr (t s) fun k c => match k with
  | true => a (s.wc c)
  | false => b (s.wc c) := (rfl)
@[simp] theorem mBind_ap (b : Bd) (m : M D) : mBind b m s = mErr (m s) fun d c => match b d (s.wc c) with
  | some s' => .next s'
  | none => .no := (rfl)
@[simp] theorem mApp_ap (i : Nat) (m : M D) : mApp i m s = (match s.r[i]? with
  | some (.ow xs) => mErr (m s) fun d c => if ltN xs.length = true then .next ((s.wc c).up i (.ow (xs ++ [d]))) else .no
  | _ => .no) := (rfl)
@[simp] theorem mPar_ap (i j : Nat) (a b : M D) : mPar i j a b s = mErr (a s) fun d c => mErr (b (s.wc c)) fun e c' => .next (((s.wc c').up i (slF d)).up j (slF e)) := (rfl)
@[simp] theorem mPar3_ap (i j l : Nat) (a b c : M D) : mPar3 i j l a b c s = mErr (a s) fun d c1 => mErr (b (s.wc c1)) fun e c' => mErr (c (s.wc c')) fun f c2 => .next ((((s.wc c2).up i (slF d)).up j (slF e)).up l (slF f)) := (rfl)
@[simp] theorem mAug_ap (i : Nat) (g : D → D → Option D) (m : M D) : mAug i g m s = (match s.r[i]? with
  | some (.fz a) => mErr (m s) fun b c => match g a b with
    | some d => .next ((s.wc c).up i (.fz d))
    | none => .no
  | _ => .no) := (rfl)
@[simp] theorem mExt_ap (i : Nat) (m : M D) : mExt i m s = (match s.r[i]? with
  | some (.ow xs) => mErr (m s) fun b c => match b with
    | .list ys => if leN (xs.length + ys.length) = true then .next ((s.wc c).up i (.ow (xs ++ ys))) else .no
    | _ => .no
  | _ => .no) := (rfl)
@[simp] theorem mFrz_ap (i : Nat) (m : MS) : mFrz i m s = m (s.frz i) := (rfl)
@[simp] theorem cupGet_ap (i : Nat) (k : Int) : cupGet i k s = (match s.r[i]? with
  | some .cup => if k = 0 then .ok (.int s.c.1) s.c else if k = 1 then .ok (.int s.c.2) s.c else .no
  | _ => .no) := (rfl)
@[simp] theorem mCupSet_ap (i : Nat) (k : Int) (m : M D) : mCupSet i k m s = (match s.r[i]? with
  | some .cup => mErr (m s) fun d c => match d with
    | .int v => if k = 0 then .next (s.wc (v, c.2)) else if k = 1 then .next (s.wc (c.1, v)) else .no
    | _ => .no
  | _ => .no) := (rfl)
@[simp] theorem mI_ap (g : D → Option (List D)) (m : M D) : mI g m s = bnd m (fun d => lift (g d)) s := (rfl)
@[simp] theorem mR2_ap (a b : M D) : mR2 a b s = bnd a (fun x => bnd b fun y => lift (rng2D x y)) s := (rfl)
@[simp] theorem mLc_ap (vs : List Nat) (it : M (List D)) (b : Bd) (t : M Bool) (e : M D) : mLc vs it b t e s = bnd it (fun ds => fun s => match lcL b t e (wipeS s vs) ds s.c with
  | .ok out c => if lenOk out = true then .ok (.list out) c else .no
  | _ => .no) s := (rfl)
@[simp] theorem mYes_ap : mYes s = .ok true s.c := (rfl)
@[simp] theorem mCall_ap (φ : List D → O) (m : M (List D)) : mCall φ m s = bnd m (fun ds => fun s => match φ ds with
  | .ok d => .ok d s.c
  | .err x => .err x s.c
  | .no => .no) s := (rfl)
@[simp] theorem mCallC_ap (i : Nat) (φ : Int × Int → List D → R D) (m : M (List D)) : mCallC i φ m s = (match s.r[i]? with
  | some .cup => bnd m (fun ds => fun s => φ s.c ds) s
  | _ => .no) := (rfl)
@[simp] theorem mFor_ap (b : Bd) (it : M (List D)) (body : MS) : mFor b it body s = mErr (it s) fun ds c => loopL b body ds (s.wc c) := (rfl)
end
/-! ### what meanings come to -/
theorem leN_tt {n : Nat} (h : n ≤ 16777216) : leN n = true := leN_iff.mpr (by rw [PySem.sizeLine_eq]; exact h)
theorem ltN_tt {n : Nat} (h : n < 16777216) : ltN n = true := ltN_iff.mpr (by rw [PySem.sizeLine_eq]; exact h)
theorem lenOk_tt {α : Type} {xs : List α} (h : xs.length ≤ 16777216) : lenOk xs = true := leN_tt h
theorem smallI_tt {i : Int} (h1 : -18446744073709551616 < i) (h2 : i < 18446744073709551616) : smallI i = true := smallI_i.mpr (by omega)
theorem okR_tt {i : Int} (h1 : -4611686018427387904 ≤ i) (h2 : i < 4611686018427387904) : okR i = true := okR_i.mpr (by omega)
/-! ### operations on data, by what they are -/
section
variable (i j : Int) (a b : Str) (p q : Bool) (xs ys : List D) (d e : D)
@[simp] theorem leN_0 : leN 0 = true := leN_tt (by decide)
@[simp] theorem lenOk_0 {α : Type} : lenOk ([] : List α) = true := leN_tt (Nat.zero_le _)
@[simp] theorem lenOk_1 {α : Type} (x1 : α) : lenOk [x1] = true := leN_tt (by simp)
@[simp] theorem lenOk_2 {α : Type} (x1 x2 : α) : lenOk [x1, x2] = true := leN_tt (by simp)
@[simp] theorem lenOk_3 {α : Type} (x1 x2 x3 : α) : lenOk [x1, x2, x3] = true := leN_tt (by simp)
@[simp] theorem lenOk_4 {α : Type} (x1 x2 x3 x4 : α) : lenOk [x1, x2, x3, x4] = true := leN_tt (by simp)
@[simp] theorem lenOk_5 {α : Type} (x1 x2 x3 x4 x5 : α) : lenOk [x1, x2, x3, x4, x5] = true := leN_tt (by simp)
@[simp] theorem lenOk_6 {α : Type} (x1 x2 x3 x4 x5 x6 : α) : lenOk [x1, x2, x3, x4, x5, x6] = true := leN_tt (by simp)
@[simp] theorem boolD_b : boolD (.bool p) = some p := (rfl)
@[simp] theorem addD_i : addD (.int i) (.int j) = some (.int (i + j)) := (rfl)
theorem addD_s (h : leN (a.length + b.length) = true) : addD (.str a) (.str b) = some (.str (a ++ b)) := if_pos h
theorem addD_l (h : leN (xs.length + ys.length) = true) : addD (.list xs) (.list ys) = some (.list (xs ++ ys)) := if_pos h
theorem addD_t (h : leN (xs.length + ys.length) = true) : addD (.tuple xs) (.tuple ys) = some (.tuple (xs ++ ys)) := if_pos h
@[simp] theorem addI_i : addI (.int i) (.int j) = some (.int (i + j)) := (rfl)
@[simp] theorem subD_i : subD (.int i) (.int j) = some (.int (i - j)) := (rfl)
theorem mulD_i (h : (smallI i || smallI j) = true) : mulD (.int i) (.int j) = some (.int (i * j)) := if_pos h
theorem fdivD_i (h1 : 0 < j) (h2 : j < 1073741824) : fdivD (.int i) (.int j) = some (.int (i / j)) := by
  have : fdivD (.int i) (.int j) = some (.int (i.fdiv j)) := if_pos (by omega)
  rw [this, Int.fdiv_eq_ediv_of_nonneg i (Int.le_of_lt h1)]
theorem modD_i (h1 : 0 < j) : modD (.int i) (.int j) = some (.int (i % j)) := by
  have : modD (.int i) (.int j) = some (.int (i.fmod j)) := if_pos (by omega)
  rw [this, Int.fmod_eq_emod_of_nonneg i (Int.le_of_lt h1)]
@[simp] theorem negD_i : negD (.int i) = some (.int (-i)) := (rfl)
@[simp] theorem ltD_i : ltD (.int i) (.int j) = some (.bool (decide (i < j))) := (rfl)
@[simp] theorem leD_i : leD (.int i) (.int j) = some (.bool (decide (i ≤ j))) := (rfl)
@[simp] theorem gtD_i : gtD (.int i) (.int j) = some (.bool (decide (j < i))) := (rfl)
@[simp] theorem geD_i : geD (.int i) (.int j) = some (.bool (decide (j ≤ i))) := (rfl)
@[simp] theorem ltD_s : ltD (.str a) (.str b) = some (.bool (decide (cps a < cps b))) := (rfl)
@[simp] theorem leD_s : leD (.str a) (.str b) = some (.bool (!decide (cps b < cps a))) := (rfl)
@[simp] theorem gtD_s : gtD (.str a) (.str b) = some (.bool (decide (cps b < cps a))) := (rfl)
@[simp] theorem geD_s : geD (.str a) (.str b) = some (.bool (!decide (cps a < cps b))) := (rfl)
@[simp] theorem isD_n : isD .none .none = some (.bool true) := (rfl)
@[simp] theorem isD_i : isD (.int i) .none = some (.bool false) := (rfl)
@[simp] theorem isD_b : isD (.bool p) .none = some (.bool false) := (rfl)
@[simp] theorem isD_s : isD (.str a) .none = some (.bool false) := (rfl)
@[simp] theorem isD_l : isD (.list xs) .none = some (.bool false) := (rfl)
@[simp] theorem isD_t : isD (.tuple xs) .none = some (.bool false) := (rfl)
@[simp] theorem isD_bb : isD (.bool p) (.bool q) = some (.bool (decide (p = q))) := (rfl)
@[simp] theorem isnD_n : isnD .none .none = some (.bool false) := (rfl)
@[simp] theorem isnD_i : isnD (.int i) .none = some (.bool true) := (rfl)
@[simp] theorem isnD_b : isnD (.bool p) .none = some (.bool true) := (rfl)
@[simp] theorem isnD_s : isnD (.str a) .none = some (.bool true) := (rfl)
@[simp] theorem isnD_l : isnD (.list xs) .none = some (.bool true) := (rfl)
@[simp] theorem isnD_t : isnD (.tuple xs) .none = some (.bool true) := (rfl)
theorem eqD_of (h1 : SeqAt.shaped d = true) (h2 : SeqAt.shaped e = true) : eqD d e = some (.bool (PyData.eqv d e)) := if_pos (by simp [h1, h2])
theorem neD_of (h1 : SeqAt.shaped d = true) (h2 : SeqAt.shaped e = true) : neD d e = some (.bool (!PyData.eqv d e)) := if_pos (by simp [h1, h2])
theorem eqD_sc (h : scalD d e = true) : eqD d e = some (.bool (PyData.eqv d e)) := if_pos (by simp [h])
theorem neD_sc (h : scalD d e = true) : neD d e = some (.bool (!PyData.eqv d e)) := if_pos (by simp [h])
@[simp] theorem eqD_i : eqD (.int i) (.int j) = some (.bool (decide (i = j))) := by rw [eqD_sc _ _ rfl]; simp [PyData.eqv, Bool.beq_eq_decide_eq]
@[simp] theorem eqD_s : eqD (.str a) (.str b) = some (.bool (decide (a = b))) := by rw [eqD_sc _ _ rfl]; simp [PyData.eqv, Bool.beq_eq_decide_eq]
@[simp] theorem eqD_b : eqD (.bool p) (.bool q) = some (.bool (decide (p = q))) := by rw [eqD_sc _ _ rfl]; simp [PyData.eqv, Bool.beq_eq_decide_eq]
@[simp] theorem neD_i : neD (.int i) (.int j) = some (.bool (decide (i ≠ j))) := by rw [neD_sc _ _ rfl]; simp [PyData.eqv, Bool.beq_eq_decide_eq]
@[simp] theorem neD_s : neD (.str a) (.str b) = some (.bool (decide (a ≠ b))) := by rw [neD_sc _ _ rfl]; simp [PyData.eqv, Bool.beq_eq_decide_eq]
@[simp] theorem neD_b : neD (.bool p) (.bool q) = some (.bool (decide (p ≠ q))) := by rw [neD_sc _ _ rfl]; simp [PyData.eqv, Bool.beq_eq_decide_eq]
@[simp] theorem eqD_nn : eqD .none .none = some (.bool true) := by rw [eqD_sc _ _ rfl]; simp [PyData.eqv]
@[simp] theorem eqD_in : eqD (.int i) .none = some (.bool false) := by rw [eqD_sc _ _ rfl]; simp [PyData.eqv]
@[simp] theorem eqD_ni : eqD .none (.int i) = some (.bool false) := by rw [eqD_sc _ _ rfl]; simp [PyData.eqv]
@[simp] theorem ixD_l : ixD (.list xs) (.int i) = atI xs i := (rfl)
@[simp] theorem ixD_t : ixD (.tuple xs) (.int i) = atI xs i := (rfl)
theorem ixD_s (h : leN a.length = true) : ixD (.str a) (.int i) = (atI (cps a) i).map fun c => .str ⟨#[c]⟩ := if_pos h
theorem lenD_s (h : leN a.length = true) : lenD (.str a) = some (.int a.length) := if_pos h
@[simp] theorem lenD_l : lenD (.list xs) = some (.int xs.length) := (rfl)
@[simp] theorem lenD_t : lenD (.tuple xs) = some (.int xs.length) := (rfl)
@[simp] theorem absD_i : absD (.int i) = some (.int (if i < 0 then -i else i)) := (rfl)
@[simp] theorem min2D_i : min2D (.int i) (.int j) = some (.int (if j < i then j else i)) := (rfl)
@[simp] theorem max2D_i : max2D (.int i) (.int j) = some (.int (if j > i then j else i)) := (rfl)
@[simp] theorem intD_i : intD (.int i) = some (.int i) := (rfl)
@[simp] theorem strD_s : strD (.str a) = some (.str a) := (rfl)
@[simp] theorem allD_l : allD (.list xs) = (boolsD xs).map fun bs => .bool (bs.all id) := (rfl)
@[simp] theorem anyD_l : anyD (.list xs) = (boolsD xs).map fun bs => .bool (bs.any id) := (rfl)
@[simp] theorem sumD_l : sumD (.list xs) = (intsD xs).map fun ns => .int ns.sum := (rfl)
@[simp] theorem isIntD_n : isIntD .none = some (.bool false) := (rfl)
@[simp] theorem isIntD_i : isIntD (.int i) = some (.bool true) := (rfl)
@[simp] theorem isIntD_b : isIntD (.bool p) = some (.bool true) := (rfl)
@[simp] theorem isIntD_s : isIntD (.str a) = some (.bool false) := (rfl)
@[simp] theorem isIntD_l : isIntD (.list xs) = some (.bool false) := (rfl)
@[simp] theorem isIntD_t : isIntD (.tuple xs) = some (.bool false) := (rfl)
@[simp] theorem isBoolD_n : isBoolD .none = some (.bool false) := (rfl)
@[simp] theorem isBoolD_i : isBoolD (.int i) = some (.bool false) := (rfl)
@[simp] theorem isBoolD_b : isBoolD (.bool p) = some (.bool true) := (rfl)
@[simp] theorem isBoolD_s : isBoolD (.str a) = some (.bool false) := (rfl)
@[simp] theorem isBoolD_l : isBoolD (.list xs) = some (.bool false) := (rfl)
@[simp] theorem isBoolD_t : isBoolD (.tuple xs) = some (.bool false) := (rfl)
@[simp] theorem isStrD_n : isStrD .none = some (.bool false) := (rfl)
@[simp] theorem isStrD_i : isStrD (.int i) = some (.bool false) := (rfl)
@[simp] theorem isStrD_b : isStrD (.bool p) = some (.bool false) := (rfl)
@[simp] theorem isStrD_s : isStrD (.str a) = some (.bool true) := (rfl)
@[simp] theorem isStrD_l : isStrD (.list xs) = some (.bool false) := (rfl)
@[simp] theorem isStrD_t : isStrD (.tuple xs) = some (.bool false) := (rfl)
@[simp] theorem isTupD_n : isTupD .none = some (.bool false) := (rfl)
@[simp] theorem isTupD_i : isTupD (.int i) = some (.bool false) := (rfl)
@[simp] theorem isTupD_b : isTupD (.bool p) = some (.bool false) := (rfl)
@[simp] theorem isTupD_s : isTupD (.str a) = some (.bool false) := (rfl)
@[simp] theorem isTupD_l : isTupD (.list xs) = some (.bool false) := (rfl)
@[simp] theorem isTupD_t : isTupD (.tuple xs) = some (.bool true) := (rfl)
@[simp] theorem isLstD_n : isLstD .none = some (.bool false) := (rfl)
@[simp] theorem isLstD_i : isLstD (.int i) = some (.bool false) := (rfl)
@[simp] theorem isLstD_b : isLstD (.bool p) = some (.bool false) := (rfl)
@[simp] theorem isLstD_s : isLstD (.str a) = some (.bool false) := (rfl)
@[simp] theorem isLstD_l : isLstD (.list xs) = some (.bool true) := (rfl)
@[simp] theorem isLstD_t : isLstD (.tuple xs) = some (.bool false) := (rfl)
@[simp] theorem listD_l : listD (.list xs) = some (.list xs) := (rfl)
@[simp] theorem listD_t : listD (.tuple xs) = some (.list xs) := (rfl)
@[simp] theorem tupD_l : tupD (.list xs) = some (.tuple xs) := (rfl)
@[simp] theorem tupD_t : tupD (.tuple xs) = some (.tuple xs) := (rfl)
theorem powD_i (h : 0 ≤ j ∧ j ≤ 1000000 ∧ i.natAbs < 2 ^ 64) : powD (.int i) (.int j) = some (.int (i ^ j.toNat)) := if_pos h
@[simp] theorem slF_n : slF .none = .fz .none := (rfl)
@[simp] theorem slF_i : slF (.int i) = .fz (.int i) := (rfl)
@[simp] theorem slF_b : slF (.bool p) = .fz (.bool p) := (rfl)
@[simp] theorem slF_s : slF (.str a) = .fz (.str a) := (rfl)
@[simp] theorem slF_l : slF (.list xs) = .ow xs := (rfl)
@[simp] theorem slF_t : slF (.tuple xs) = .fz (.tuple xs) := (rfl)
@[simp] theorem slF_d (kvs : List (D × D)) : slF (.dict kvs) = .od kvs := (rfl)
@[simp] theorem iterD_l : iterD (.list xs) = some xs := (rfl)
@[simp] theorem iterD_t : iterD (.tuple xs) = some xs := (rfl)
@[simp] theorem iterD_s : iterD (.str a) = some ((cps a).map fun c => .str ⟨#[c]⟩) := (rfl)
theorem rng1D_i (h : okR i = true) : rng1D (.int i) = some (ints2 0 i.toNat) := if_pos h
theorem rng2D_i (h : (okR i && okR j) = true) : rng2D (.int i) (.int j) = some (ints2 i (j - i).toNat) := if_pos h
end
section
variable {α : Type} (a : α) (c : Int × Int) (x : Ex) (k : α → Int × Int → RS) (s : S) (d : D)
@[simp] theorem mErr_ok : mErr (.ok a c) k = k a c := (rfl)
@[simp] theorem mErr_err : mErr (.err x c) k = .err x c := (rfl)
@[simp] theorem mErr_no : mErr .no k = .no := (rfl)
@[simp] theorem fin_next : fin (.next s) = .ok .none := (rfl)
@[simp] theorem fin_ret : fin (.ret d c) = .ok d := (rfl)
@[simp] theorem fin_err : fin (.err x c) = .err x := (rfl)
@[simp] theorem fin_no : fin .no = .no := (rfl)
@[simp] theorem finC_next : finC (.next s) = .ok .none s.c := (rfl)
@[simp] theorem finC_ret : finC (.ret d c) = .ok d c := (rfl)
@[simp] theorem finC_err : finC (.err x c) = .err x c := (rfl)
@[simp] theorem finC_no : finC .no = .no := (rfl)
@[simp] theorem bName_ap (i : Nat) : bName i d s = some (s.up i (.fz d)) := (rfl)
@[simp] theorem bTup_ap (bs : List Bd) (ds : List D) : bTup bs (.tuple ds) s = bTup.go bs ds s := (rfl)
@[simp] theorem wipeS_nil : wipeS s [] = s := (rfl)
@[simp] theorem wipeS_cons (v : Nat) (vs : List Nat) : wipeS s (v :: vs) = (wipeS s vs).up v .no := (rfl)
end
theorem mSeq_of {a b : MS} {s s1 : S} (h : a s = .next s1) : mSeq a b s = b s1 := by simp [h]
/-- a loop that goes on at every turn -/
theorem loop_inv {b : Bd} {body : MS} (Pv : S → Prop) : ∀ (xs : List D) (s : S), Pv s → (∀ x ∈ xs, ∀ s, Pv s → ∃ s1 s2, b x s = some s1 ∧ (body s1 = .next s2 ∨ body s1 = .cnt s2) ∧ Pv s2) → ∃ s', loopL b body xs s = .next s' ∧ Pv s'
  | [], s, h, _ => ⟨s, rfl, h⟩
  | x :: xs, s, h, hb => by
    obtain ⟨s1, s2, e1, e2, h2⟩ := hb x List.mem_cons_self s h
    obtain ⟨s', e3, h3⟩ := loop_inv Pv xs s2 h2 fun y hy => hb y (List.mem_cons_of_mem _ hy)
    refine ⟨s', ?_, h3⟩
    unfold loopL
    rw [e1]
    rcases e2 with e2 | e2 <;> simp only [e2] <;> exact e3
theorem mWhile_succ (n : Nat) (t : M Bool) (body : MS) (s : S) : mWhile (n + 1) t body s = mErr (t s) fun k c => match k with
    | false => .next (s.wc c)
    | true => match body (s.wc c) with
      | .next s2 => mWhile n t body s2
      | .cnt s2 => mWhile n t body s2
      | .brk s2 => .next s2
      | .ret d c => .ret d c
      | .err x c => .err x c
      | .no => .no := rfl
/-- a while by a chain of states st 0, st 1, .. st k -/
theorem while_chain {t : M Bool} {body : MS} (st : Nat → S) (k : Nat) (hgo : ∀ i, i < k → t (st i) = .ok true (st i).c ∧ body (st i) = .next (st (i + 1))) (hend : t (st k) = .ok false (st k).c) : ∀ n, k < n → mWhile n t body (st 0) = .next (st k) := by
  have : ∀ j, j ≤ k → ∀ n, j < n → mWhile n t body (st (k - j)) = .next (st k) := by
    intro j
    induction j with
    | zero =>
      intro _ n hn
      obtain ⟨n, rfl⟩ : ∃ m, n = m + 1 := ⟨n - 1, by omega⟩
      rw [mWhile_succ]
      simp only [Nat.sub_zero, hend, mErr]
    | succ j ih =>
      intro hj n hn
      obtain ⟨n, rfl⟩ : ∃ m, n = m + 1 := ⟨n - 1, by omega⟩
      obtain ⟨h1, h2⟩ := hgo (k - (j + 1)) (by omega)
      rw [mWhile_succ]
      simp only [h1, mErr]
      have e : ((st (k - (j + 1))).wc (st (k - (j + 1))).c) = st (k - (j + 1)) := rfl
      rw [e, h2]
      have e2 : k - (j + 1) + 1 = k - j := by omega
      rw [e2]
      exact ih (by omega) n (by omega)
  intro n hn
  have := this k (Nat.le_refl _) n hn
  simpa using this
end Pu
end

noncomputable section
set_option Elab.async false
set_option linter.all false
set_option maxRecDepth 100000
set_option maxHeartbeats 4000000
/-! Pu, sixth part: defs as they stand, what the laws' own helpers do. -/
namespace Pu
open PySem PySem.Spec L2
theorem bt_isinstance : bootBuiltins "isinstance" = some (.builtin "isinstance") := by decide +kernel
theorem bt_abs : bootBuiltins "abs" = some (.builtin "abs") := by decide +kernel
theorem bt_all : bootBuiltins "all" = some (.builtin "all") := by decide +kernel
theorem bt_any : bootBuiltins "any" = some (.builtin "any") := by decide +kernel
theorem bt_len : bootBuiltins "len" = some (.builtin "len") := by decide +kernel
theorem bt_max : bootBuiltins "max" = some (.builtin "max") := by decide +kernel
theorem bt_min : bootBuiltins "min" = some (.builtin "min") := by decide +kernel
theorem bt_sum : bootBuiltins "sum" = some (.builtin "sum") := by decide +kernel
theorem bt_sorted : bootBuiltins "sorted" = some (.builtin "sorted") := by decide +kernel
theorem bt_int : bootBuiltins "int" = some (.type "int") := by decide +kernel
theorem bt_bool : bootBuiltins "bool" = some (.type "bool") := by decide +kernel
theorem bt_str : bootBuiltins "str" = some (.type "str") := by decide +kernel
theorem bt_tuple : bootBuiltins "tuple" = some (.type "tuple") := by decide +kernel
theorem bt_list : bootBuiltins "list" = some (.type "list") := by decide +kernel
section
variable (P : Program) (w : World) (K : PySem.W.Frag) (mg : Str → Option Value) (base : Heap)
/-- the def st of the text stands under the name x -/
def At (x : Str) (st : Stmt) : Prop := ∃ f fd, Fun K x x st f fd ∧ mg x = some (.ref f)
/-- what stands under the name x may be called: with n arguments it means φ; at level k -/
structure Cal (k : Nat) (x : Str) (n : Nat) (φ : List D → O) : Prop where
  ex : ∃ f fd ps, FnOk P w K mg base (L2.CX P w) k f fd ps (spD K mg n φ) ∧ mg x = some (.ref f) ∧ PySem.W.keepIn K (.ref f) = true ∧ Binds K fd ps []
structure CalC (k : Nat) (x : Str) (n : Nat) (φ : Int × Int → List D → R D) : Prop where
  ex : ∃ f fd ps, FnOk P w K mg base (L2.CX P w) k f fd ps (spC K mg (n + 1) φ) ∧ mg x = some (.ref f) ∧ PySem.W.keepIn K (.ref f) = true ∧ Binds K fd ps []
end
section
variable {X : Cx} {E : XK} {a b c e it elt tg tg2 i1 : Expr} {rest es : List Expr} {ma mb mc m : M D} {ta : M Bool} {mas mit : M (List D)} {pos p px py pt apos : Pos} {x y z : Str} {k n : Nat}
theorem pd_cal {j : Nat} {φ : List D → O} (F : Cal X.prog X.w X.K X.mg X.base j x n φ) (hr : Room k X.A) (hj : j ≤ k) (hx : Passes (L2.CX X.prog X.w) X E) (ha : PAN X E (e :: es) n mas)
    (hg : Gl X x := by rfl) (hdb : (x == ("__debug__" : Str)) = false := by decide) (he : starEach (e :: es) X.env = (false, eval e X.env) :: starEach es X.env := by rfl) (hpl : (backTo pos (starEach es X.env)).any (·.1) = false := by rfl) : PD X E (.Call (.Name x p) (e :: es) [] pos) (mCall φ mas) := by
  obtain ⟨f, fd, ps, h1, h2, h3, h4⟩ := F.ex
  exact pd_call h1 (hr.mono hj) hx h2 h3 h4 ha hg hdb he hpl
theorem pd_calC (i : Nat) {j : Nat} {φ : Int × Int → List D → R D} (F : CalC X.prog X.w X.K X.mg X.base j x n φ) (hr : Room k X.A) (hj : j ≤ k) (hx : Passes (L2.CX X.prog X.w) X E) (ha : PAN X E es n mas)
    (hN : X.N[i]? = some y := by rfl) (hv : Vis X.env.scope y := by first | exact Or.inl rfl | exact Or.inr (Or.inl rfl) | exact Or.inr (Or.inr rfl)) (hd : (y == ("__debug__" : Str)) = false := by decide) (hcd : (y == ("__classdict__" : Str)) = false := by decide)
    (hg : Gl X x := by rfl) (hdb : (x == ("__debug__" : Str)) = false := by decide) (he : starEach (.Name y py :: es) X.env = (false, eval (.Name y py) X.env) :: starEach es X.env := by rfl) (hpl : (backTo pos (starEach es X.env)).any (·.1) = false := by rfl) : PD X E (.Call (.Name x p) (.Name y py :: es) [] pos) (mCallC i φ mas) := by
  obtain ⟨f, fd, ps, h1, h2, h3, h4⟩ := F.ex
  exact pd_callC i h1 (hr.mono hj) hx h2 h3 h4 ha hN hv hd hcd hg hdb he hpl
end
section
variable {P : Program} {w : World} {K : PySem.W.Frag} {mg : Str → Option Value} {base : Heap}
theorem Fun.binds' {x qual : Str} {st : Stmt} {f : Addr} {fd : FuncData} {ps : List Str} (F : Fun K x qual st f fd)
    (h : ∀ (kV doc pm : Value) (an : Option Addr) (cdv ct : Value) (us : List Value), us.length = ps.length → bindArgs (PySem.W.fnOf x qual (defArgs st) (defBody st) (defScope st) .none kV doc pm an cdv ct) ⟨us, []⟩ = pure (ps.zip us)) : Binds K fd ps [] := F.binds h
/-- a def is walked -/
theorem cal_of {x : Str} {st : Stmt} {N ps : List Str} {k : Nat} {φ : List D → O} (A0 : At K mg x st) (S0 : FnScope N ps (defScope st)) (m : MS) (hl : ps.length ≤ N.length)
    (hbi : ∀ (kV doc pm : Value) (an : Option Addr) (cdv ct : Value) (us : List Value), us.length = ps.length → bindArgs (PySem.W.fnOf x x (defArgs st) (defBody st) (defScope st) .none kV doc pm an cdv ct) ⟨us, []⟩ = pure (ps.zip us))
    (hφ : ∀ ds, ds.length = ps.length → φ ds = .no ∨ fin (m ⟨(0, 0), st0 N.length ds⟩) = φ ds)
    (hm : ∀ (f : Addr) (cdv : Value) (A : Around) (outer : List Env) (s : Shared) (H : Hp) (E : XK), Room k (A.deeper (PyProof.Rows.envOfC x (defScope st) s.heap.objs.size f cdv)) →
      PSsD (cxOf (L2.CX P w) P w K mg base N x (defScope st) f cdv A outer s H E) E (defBody st) m) : Cal P w K mg base (k + 1) x ps.length φ := by
  obtain ⟨f, fd, F, g⟩ := A0
  exact ⟨f, fd, ps, fn_pure F S0 m hl hφ (hm f), g, F.kp, F.binds hbi⟩
theorem cal_none {x : Str} {st : Stmt} {N ps : List Str} {k : Nat} (A0 : At K mg x st) (S0 : FnScope N ps (defScope st))
    (hbi : ∀ (kV doc pm : Value) (an : Option Addr) (cdv ct : Value) (us : List Value), us.length = ps.length → bindArgs (PySem.W.fnOf x x (defArgs st) (defBody st) (defScope st) .none kV doc pm an cdv ct) ⟨us, []⟩ = pure (ps.zip us)) : Cal P w K mg base k x ps.length (fun _ => .no) := by
  obtain ⟨f, fd, F, g⟩ := A0
  exact ⟨f, fd, ps, ⟨fun vs H Q E h => h.1, fun A outer s H args us vs Q E _ _ _ _ h => by obtain ⟨_, _, _, _, _, q⟩ := h; exact q.elim⟩, g, F.kp, F.binds hbi⟩
theorem calC_of {x : Str} {st : Stmt} {N ps : List Str} {k n : Nat} {φ : Int × Int → List D → R D} (A0 : At K mg x st) (S0 : FnScope N ps (defScope st)) (m : MS) (hps : ps.length = n + 1) (hl : ps.length ≤ N.length)
    (hbi : ∀ (kV doc pm : Value) (an : Option Addr) (cdv ct : Value) (us : List Value), us.length = ps.length → bindArgs (PySem.W.fnOf x x (defArgs st) (defBody st) (defScope st) .none kV doc pm an cdv ct) ⟨us, []⟩ = pure (ps.zip us))
    (hφ : ∀ c ds, ds.length = n → φ c ds = .no ∨ finC (m ⟨c, .cup :: st0 (N.length - 1) ds⟩) = φ c ds)
    (hm : ∀ (f : Addr) (cdv : Value) (A : Around) (outer : List Env) (s : Shared) (H : Hp) (E : XK), Room k (A.deeper (PyProof.Rows.envOfC x (defScope st) s.heap.objs.size f cdv)) →
      PSsD (cxOf (L2.CX P w) P w K mg base N x (defScope st) f cdv A outer s H E) E (defBody st) m) : CalC P w K mg base (k + 1) x n φ := by
  obtain ⟨f, fd, F, g⟩ := A0
  exact ⟨f, fd, ps, fn_cup F S0 m hps hl hφ (hm f), g, F.kp, F.binds hbi⟩
/-- an exception of a callee leaves a def's body as its own -/
theorem pass_def {N : List Str} {qual : Str} {scope : Scope} {f : Addr} {cd : Value} {A : Around} {outer : List Env} {s : Shared} {H : Hp} {E : XK} :
    Passes (L2.CX (cxOf (L2.CX P w) P w K mg base N qual scope f cd A outer s H E).prog (cxOf (L2.CX P w) P w K mg base N qual scope f cd A outer s H E).w) (cxOf (L2.CX P w) P w K mg base N qual scope f cd A outer s H E) E :=
  passes_call (W := fun c d _ H => E c d H) (takes_of rfl rfl rfl rfl) fun _ _ _ _ h => h
theorem own_def {N : List Str} {qual : Str} {scope : Scope} {f : Addr} {cd : Value} {A : Around} {outer : List Env} {s : Shared} {H : Hp} {E : XK} :
    PassesOwn (model (cxOf (L2.CX P w) P w K mg base N qual scope f cd A outer s H E).prog (cxOf (L2.CX P w) P w K mg base N qual scope f cd A outer s H E).w) (cxOf (L2.CX P w) P w K mg base N qual scope f cd A outer s H E).A (cxOf (L2.CX P w) P w K mg base N qual scope f cd A outer s H E).env (cxOf (L2.CX P w) P w K mg base N qual scope f cd A outer s H E).xe :=
  passes_of rfl
def sqL (i : Nat) : M D := fun s => match s.r[i]? with
    | some (.sq xs) => .ok (.list xs) s.c
    | _ => .no
@[simp] theorem sqL_ap (i : Nat) (s : S) : sqL i s = (match s.r[i]? with
  | some (.sq xs) => .ok (.list xs) s.c
  | _ => .no) := rfl
theorem rd_listS {E : XK} {i : Nat} {σ : L2.St} {H : Hp} {Q : VK} (h : rdF K mg E (sqL i) σ H Q) : tCB (fun xs H Q => ∃ p ys, xs = [.ref p] ∧ (SqL K H p ys ∨ SqT K H p ys) ∧ ∀ l, H l = none → Q (.ref l) (upd H l (.lst ys))) (tCons (tVar i) tNil) σ H Q := by
  obtain ⟨fr, s, F, hs, q⟩ := h
  unfold sqL at q
  split at q
  · rename_i xs e
    obtain ⟨o, k, a, vs, rfl, h1, h2⟩ := hs.sl i _ e
    refine ⟨_, k, a, vs, rfl, .inl (hs.sub.seq h1), fun l hl => ?_⟩
    obtain ⟨g, s2, r3⟩ := new_lst (K := K) hs.sub hl h2
    exact q _ _ g.weak s2 (hs.cup.go g) _ r3
  · exact q.elim
theorem pf_listS {X : Cx} {E : XK} {x y : Str} {p py pos : Pos} (i : Nat) (hm : X.mg x = none) (hv : bootBuiltins x = some (.type "list")) (hN : X.N[i]? = some y := by rfl) (hvs : Vis X.env.scope y := by first | exact Or.inl rfl | exact Or.inr (Or.inl rfl) | exact Or.inr (Or.inr rfl)) (hd : (y == ("__debug__" : Str)) = false := by decide) (hcd : (y == ("__classdict__" : Str)) = false := by decide)
    (hg : Gl X x := by rfl) (hn : x ≠ "__name__" := by decide) (hdb : (x == ("__debug__" : Str)) = false := by decide)
    (he : starEach [.Name y py] X.env = [(false, eval (.Name y py) X.env)] := by rfl) : PF X E (.Call (.Name x p) [.Name y py] [] pos) (sqL i) :=
  PE.imp (pe_callTy call_list_of hg hm hv (L2.pa_cons (pe_var hN hvs hd hcd) L2.pa_nil he) hn hdb he rfl) fun σ H Q q => rd_listS q
/-! ### the law itself -/
def spLaw (K : PySem.W.Frag) : Sp := fun vs H Q _ => ∃ (a : Addr) (ns : List Int), vs = [.ref a] ∧ SqL K H a (ns.map V.int) ∧ ns.length ≤ 63 ∧ ∀ H', Q (.bl true) H'
structure CalS (P : Program) (w : World) (K : PySem.W.Frag) (mg : Str → Option Value) (base : Heap) (k : Nat) (x : Str) (φ : List Int → O) : Prop where
  ex : ∃ f fd ps, FnOk P w K mg base (L2.CX P w) k f fd ps (spScr K mg φ) ∧ mg x = some (.ref f) ∧ PySem.W.keepIn K (.ref f) = true ∧ Binds K fd ps []
theorem calS_of {x y : Str} {st : Stmt} {N : List Str} {k : Nat} {φ : List Int → O} (A0 : At K mg x st) (S0 : FnScope N [y] (defScope st)) (m : MS)
    (hbi : ∀ (kV doc pm : Value) (an : Option Addr) (cdv ct : Value) (us : List Value), us.length = ([y] : List Str).length → bindArgs (PySem.W.fnOf x x (defArgs st) (defBody st) (defScope st) .none kV doc pm an cdv ct) ⟨us, []⟩ = pure (([y] : List Str).zip us))
    (hφ : ∀ ns : List Int, ns.length ≤ 63 → φ ns = .no ∨ fin (m ⟨(0, 0), .sq (ns.map .int) :: List.replicate (N.length - 1) .no⟩) = φ ns)
    (hm : ∀ (f : Addr) (cdv : Value) (A : Around) (outer : List Env) (s : Shared) (H : Hp) (E : XK), Room k (A.deeper (PyProof.Rows.envOfC x (defScope st) s.heap.objs.size f cdv)) →
      PSsD (cxOf (L2.CX P w) P w K mg base N x (defScope st) f cdv A outer s H E) E (defBody st) m) : CalS P w K mg base (k + 1) x φ := by
  obtain ⟨f, fd, F, g⟩ := A0
  exact ⟨f, fd, [y], fn_scr F S0 m hφ (hm f), g, F.kp, F.binds hbi⟩
theorem law_of {x qual xc : Str} {st : Stmt} {f : Addr} {fd : FuncData} {N : List Str} {N' : List Str} {k j : Nat} {φ : List Int → O} (F : Fun K x qual st f fd) (hN : N = ("script" : Str) :: ("cup" : Str) :: N') (S0 : FnScope N ["script"] (defScope st)) (m : MS) {p1 p2 p3 p4 p5 : Pos} {rest : List Stmt}
    (hbody : defBody st = .Assign [.Name "cup" p1] (.Call (.Name xc p2) [.Name "script" p3] [] p4) p5 :: rest) (C : CalS P w K mg base j xc φ) (hj : j ≤ k)
    (hgl : (defScope st).names.lookup xc = some .globalImplicit) (hs0 : Vis (defScope st) "script") (hs1 : Loc (defScope st) "cup") (hdb : (xc == ("__debug__" : Str)) = false) (hk : (defScope st).kind = .function)
    (hsw : ∀ (env : Env), env.scope = defScope st → swapsWith (.Call (.Name xc p2) [.Name "script" p3] [] p4) (some (.Name "cup" p1)) p5.line env = pure false)
    (hφ : ∀ ns : List Int, ns.length ≤ 63 → ∃ a b c, φ ns = .ok (.list [.int a, .int b]) ∧ m ⟨(a, b), .no :: .cup :: List.replicate N'.length .no⟩ = .ret (.bool true) c)
    (hm : ∀ (cdv : Value) (A : Around) (outer : List Env) (s : Shared) (H : Hp) (E : XK), Room k (A.deeper (PyProof.Rows.envOfC qual (defScope st) s.heap.objs.size f cdv)) →
      PSsD (cxOf (L2.CX P w) P w K mg base N qual (defScope st) f cdv A outer s H E) E rest m) : FnOk P w K mg base (L2.CX P w) (k + 1) f fd ["script"] (spLaw K) := by
  refine F.okX S0 (fun vs H Q E h => by obtain ⟨a, ns, rfl, _⟩ := h; rfl) fun cdv A outer s H vs Q E hr h => ?_
  obtain ⟨a, ns, rfl, hS, h63, q⟩ := h
  obtain ⟨fc, fdc, psc, h1, h2, h3, h4⟩ := C.ex
  rw [hbody]
  refine ⟨_, pss_cons (ps_set (i := 1) S0.nd (by rw [show (cxOf (L2.CX P w) P w K mg base N qual (defScope st) f cdv A outer s H E).N = N from rfl, hN]; rfl) hs1 (pe_call (CX := L2.CX P w) (E := E) h1 (hr.mono hj) hgl h2 h3 h4 .nil pass_def (L2.pa_cons (pe_var (i := 0) (by rw [show (cxOf (L2.CX P w) P w K mg base N qual (defScope st) f cdv A outer s H E).N = N from rfl, hN]; rfl) hs0) L2.pa_nil rfl) hdb rfl rfl) (hsw _ rfl) (.inl rfl)) (hm cdv A outer s H E hr), ?_⟩
  obtain ⟨ca, cb, c, e1, e2⟩ := hφ ns h63
  refine ⟨.ref a, by rw [hN]; rfl, a, ns, rfl, hS, h63, ?_⟩
  rw [e1]
  intro v F' H' s1 sb r
  cases r with
  | @lst p vs _ hp rl =>
    have hv : vs = [.int ca, .int cb] := by
      cases rl with
      | cons r1 rl =>
        cases rl with
        | cons r2 rl =>
          cases rl
          cases r1
          cases r2
          rfl
    subst hv
    refine ⟨⟨some p, fun _ => none, H'⟩, ⟨(ca, cb), .no :: .cup :: List.replicate N'.length .no⟩, fun _ => none, ?_, ?_⟩
    · refine ⟨(fun _ _ z => nomatch z), Go.refl _ _ _, fun q e => (by cases e; exact ⟨rfl, sb _ _ hp⟩), ?_, fun i t e => ?_, fun i j t u p e1 e2 o1 => ?_⟩
      · rw [hN]; simp [L2.start]
      · rw [hN]
        cases i with
        | zero => cases e; exact ⟨_, rfl, trivial⟩
        | succ i =>
          cases i with
          | zero => cases e; exact ⟨_, rfl, p, rfl, rfl⟩
          | succ i =>
            have e : (List.replicate N'.length Sl.no)[i]? = some t := by simpa using e
            rw [List.getElem?_replicate] at e
            split at e
            · rename_i hi
              cases e
              refine ⟨none, ?_, trivial⟩
              simp [L2.start, hi]
            · cases e
      · cases i with
        | zero => cases e1; cases o1
        | succ i =>
          cases i with
          | zero => cases e1; cases o1
          | succ i =>
            have e : (List.replicate N'.length Sl.no)[i]? = some t := by simpa using e1
            rw [List.getElem?_replicate] at e
            split at e
            · cases e; cases o1
            · cases e
    · rw [e2]
      intro v F2 H2 g sb2 cu r
      cases r
      exact q H2
end
end Pu
end

noncomputable section
set_option Elab.async false
set_option linter.all false
set_option maxRecDepth 100000
set_option maxHeartbeats 2000000
/-! Pu, seventh part: what comprehensions come to; the state of all draws. -/
namespace Pu
open PySem PySem.Spec L2
theorem fmodp {a m : Int} (h0 : 0 < m) : a.fmod m = a % m := Int.fmod_eq_emod_of_nonneg a (Int.le_of_lt h0)
theorem fdivp {a m : Int} (h0 : 0 < m) : a.fdiv m = a / m := Int.fdiv_eq_ediv_of_nonneg a (Int.le_of_lt h0)
/-! ### comprehensions that leave the cup -/
@[simp] theorem ints2_len (lo : Int) (n : Nat) : (ints2 lo n).length = n := by simp [ints2]
theorem lcL_filter {b : Bd} {t : M Bool} {e : M D} {s : S} (p : D → Bool) (f : D → D) : ∀ (xs : List D) (c : Int × Int), (∀ x ∈ xs, ∃ s1, b x (s.wc c) = some s1 ∧ t s1 = .ok (p x) c ∧ (p x = true → e (s1.wc c) = .ok (f x) c)) →
    lcL b t e s xs c = .ok ((xs.filter p).map f) c
  | [], c, _ => rfl
  | x :: xs, c, h => by
    obtain ⟨s1, h1, h2, h3⟩ := h x List.mem_cons_self
    have ih := lcL_filter p f xs c fun y hy => h y (List.mem_cons_of_mem _ hy)
    unfold lcL
    simp only [h1, h2]
    cases hp : p x with
    | true => simp only [h3 hp, ih, List.filter_cons, hp, if_true, List.map_cons]
    | false => simp [ih, List.filter_cons, hp]
theorem lcL_map {b : Bd} {t : M Bool} {e : M D} {s : S} (f : D → D) (xs : List D) (c : Int × Int) (h : ∀ x ∈ xs, ∃ s1, b x (s.wc c) = some s1 ∧ t s1 = .ok true c ∧ e (s1.wc c) = .ok (f x) c) : lcL b t e s xs c = .ok (xs.map f) c := by
  have := lcL_filter (fun _ => true) f xs c fun x hx => (h x hx).imp fun s1 k => ⟨k.1, k.2.1, fun _ => k.2.2⟩
  rw [this, List.filter_eq_self.mpr fun _ _ => rfl]
/-- comprehensions whose elements draw: some list of that many items with what each has -/
theorem lcL_draw {b : Bd} {e : M D} {s : S} (C : Int × Int → Prop) (Q : D → Prop) : ∀ (xs : List D) (c : Int × Int), C c → (∀ x ∈ xs, ∀ c, C c → ∃ s1 d c', b x (s.wc c) = some s1 ∧ e (s1.wc s1.c) = .ok d c' ∧ C c' ∧ Q d) →
    ∃ ds c', lcL b mYes e s xs c = .ok ds c' ∧ C c' ∧ ds.length = xs.length ∧ ∀ d ∈ ds, Q d
  | [], c, hc, _ => ⟨[], c, rfl, hc, rfl, fun _ h => by cases h⟩
  | x :: xs, c, hc, h => by
    obtain ⟨s1, d, c1, h1, h2, h3, h4⟩ := h x List.mem_cons_self c hc
    obtain ⟨ds, c2, k1, k2, k3, k4⟩ := lcL_draw C Q xs c1 h3 fun y hy => h y (List.mem_cons_of_mem _ hy)
    refine ⟨d :: ds, c2, ?_, k2, by simp [k3], fun y hy => ?_⟩
    · have hy : mYes s1 = .ok true s1.c := rfl
      unfold lcL
      simp only [h1, hy, h2, k1]
    · rcases List.mem_cons.mp hy with rfl | hy
      · exact h4
      · exact k4 y hy
theorem boolsD_map {α : Type} (f : α → Bool) : ∀ l : List α, boolsD (l.map fun x => .bool (f x)) = some (l.map f)
  | [] => rfl
  | x :: l => by simp [boolsD_map f l]
theorem intsD_map {α : Type} (f : α → Int) : ∀ l : List α, intsD (l.map fun x => .int (f x)) = some (l.map f)
  | [] => rfl
  | x :: l => by simp [intsD_map f l]
theorem atI_get {α : Type} {xs : List α} {i : Int} (h0 : 0 ≤ i) (h1 : i < xs.length) : atI xs i = some (xs[i.toNat]'(by omega)) := by
  unfold atI ixN
  rw [if_pos h0, if_pos h1]
  simp
theorem atI_natD {α : Type} {xs : List α} {j : Nat} (h : j < xs.length) : atI xs (j : Int) = some xs[j] := atI_nat (List.getElem?_eq_getElem h)
/-- the state of all draws -/
structure CupOk (c : Int × Int) : Prop where
  a : 0 ≤ c.1
  b : 0 ≤ c.2 ∧ c.2 < 4294967296
@[simp] theorem eqv_int (a b : Int) : PyData.eqv (.int a) (.int b) = (a == b) := by simp [PyData.eqv]
@[simp] theorem eqv_str (a b : Str) : PyData.eqv (.str a) (.str b) = (a == b) := by simp [PyData.eqv]
@[simp] theorem eqv_bool (a b : Bool) : PyData.eqv (.bool a) (.bool b) = (a == b) := by simp [PyData.eqv]
@[simp] theorem eqv_none : PyData.eqv .none .none = true := by simp [PyData.eqv]
@[simp] theorem eqv_list (a b : List D) : PyData.eqv (.list a) (.list b) = PyData.eqvAll a b := by simp [PyData.eqv]
@[simp] theorem eqv_tuple (a b : List D) : PyData.eqv (.tuple a) (.tuple b) = PyData.eqvAll a b := by simp [PyData.eqv]
@[simp] theorem eqvAll_nil : PyData.eqvAll [] [] = true := by simp [PyData.eqvAll]
@[simp] theorem eqvAll_cons (a b : D) (as bs : List D) : PyData.eqvAll (a :: as) (b :: bs) = (PyData.eqv a b && PyData.eqvAll as bs) := by simp [PyData.eqvAll]
@[simp] theorem eqvAll_nc (b : D) (bs : List D) : PyData.eqvAll [] (b :: bs) = false := by simp [PyData.eqvAll]
@[simp] theorem eqvAll_cn (a : D) (as : List D) : PyData.eqvAll (a :: as) [] = false := by simp [PyData.eqvAll]
@[simp] theorem eqv_int_none (a : Int) : PyData.eqv (.int a) .none = false := by simp [PyData.eqv]
@[simp] theorem eqv_none_int (a : Int) : PyData.eqv .none (.int a) = false := by simp [PyData.eqv]
/-- data that _law_same finds alike to themselves, nested less than k deep -/
def smp : Nat → D → Bool
  | 0, _ => false
  | k + 1, .tuple xs => decide (xs.length ≤ 1000000) && xs.all (smp k)
  | _ + 1, .list _ => false
  | _ + 1, .dict _ => false
  | _ + 1, _ => true
end Pu
end

noncomputable section
set_option Elab.async false
set_option linter.all false
set_option maxRecDepth 100000
set_option maxHeartbeats 2000000
/-! Pu, eighth part: the draws of every law, and its likeness, once for all. -/
namespace Pu
open PySem PySem.Spec L2
section
variable (k1 m1' a1 p1 q1 : Int)
def gCup : MS := (mSeq (mSetF 1 (m1 absD (m2 ixD (m2 addD (sqL 0) (mLst (aCons (rt (.int 0)) aNil))) (rt (.int 0))))) (mRet (mLst (aCons (mIf (mB (m2 geD (slB 1) (m2 powD (rt (.int 10)) (rt (.int 18))))) (m2 fdivD (slB 1) (rt (.int k1))) (rt (.int 0))) (aCons (m2 addD (m2 modD (m1 intD (m2 addD (m2 mulD (slB 1) (rt (.int m1'))) (rt (.int a1)))) (rt (.int p1))) (rt (.int q1))) aNil)))))
theorem gCup_ok (h1 : 0 < k1 ∧ k1 < 1073741824) (h2 : 0 < m1' ∧ m1' < 1073741824) (h3 : 0 < p1 ∧ p1 < 2147483648) (h4 : 0 ≤ q1 ∧ q1 < 1073741824) (ns : List Int) (h63 : ns.length ≤ 63) :
    ∃ a b : Int, fin (gCup k1 m1' a1 p1 q1 ⟨(0, 0), .sq (ns.map .int) :: List.replicate 1 .no⟩) = .ok (.list [.int a, .int b]) ∧ CupOk (a, b) := by
  have at0 : ∃ cell0, atI (ns.map PyData.int ++ [.int 0]) 0 = some (.int cell0) := by
    cases ns with
    | nil => exact ⟨0, rfl⟩
    | cons n ns => exact ⟨n, by simp [atI, ixN]; rw [if_pos (by omega)]; rfl⟩
  obtain ⟨cell0, e0⟩ := at0
  have hl : leN ((ns.map PyData.int).length + [PyData.int 0].length) = true := leN_tt (by simp; omega)
  have ha : ¬ (if cell0 < 0 then -cell0 else cell0) < 0 := by split <;> omega
  generalize hc : (if cell0 < 0 then -cell0 else cell0) = cell at ha
  have ha : 0 ≤ cell := by omega
  have hp : powD (.int 10) (.int 18) = some (.int 1000000000000000000) := by rw [powD_i _ _ (by decide)]; rfl
  have hd := fdivD_i cell k1 h1.1 h1.2
  have hm := mulD_i cell m1' (by rw [smallI_tt (i := m1') (by omega) (by omega), Bool.or_true])
  have hmo := modD_i (cell * m1' + a1) p1 h3.1
  have l1 := Int.emod_nonneg (cell * m1' + a1) (b := p1) (by omega)
  have l2 := Int.emod_lt_of_pos (cell * m1' + a1) h3.1
  unfold gCup
  by_cases hb : 1000000000000000000 ≤ cell
  · simp [addD_l _ _ hl, e0, hc, hp, hd, hm, hmo, hb]
    exact ⟨_, _, ⟨rfl, rfl⟩, Int.ediv_nonneg ha (by omega), by simp only; omega⟩
  · simp [addD_l _ _ hl, e0, hc, hp, hd, hm, hmo, hb]
    exact ⟨_, _, ⟨rfl, rfl⟩, by simp, by simp only; omega⟩
end
section
variable (k1 k2 m1' k3 m2' k4 : Int)
def gRoll : MS := (mSeq (mIfS (mB (m2 gtD (cupGet 0 0) (rt (.int 0)))) (mSeq (mSetF 2 (m2 modD (m1 intD (cupGet 0 0)) (slB 1))) (mSeq (mCupSet 0 0 (m2 fdivD (cupGet 0 0) (slB 1))) (mRet (slE 2)))) mNext) (mSeq (mCupSet 0 1 (m2 modD (m1 intD (m2 addD (m2 mulD (cupGet 0 1) (rt (.int k1))) (rt (.int k2)))) (rt (.int m1')))) (mSeq (mSetF 3 (m2 modD (m1 intD (m2 mulD (cupGet 0 1) (m2 addD (cupGet 0 1) (rt (.int k3))))) (rt (.int m2')))) (mRet (m2 modD (m1 intD (m2 fdivD (slB 3) (rt (.int k4)))) (slB 1))))))
theorem gRoll_ok (h1 : 0 < k1 ∧ k1 < 1073741824) (h3 : 0 < m1' ∧ m1' < 2147483648) (h4 : 0 < m2' ∧ m2' < 2147483648) (h5 : 0 < k4 ∧ k4 < 1073741824) {c : Int × Int} (hc : CupOk c) {m : Int} (hm0 : 0 < m) (hm1 : m < 536870912) :
    ∃ (r : Int) (c' : Int × Int), finC (gRoll k1 k2 m1' k3 m2' k4 ⟨c, .cup :: st0 3 [.int m]⟩) = .ok (.int r) c' ∧ CupOk c' ∧ 0 ≤ r ∧ r < m := by
  obtain ⟨a, b⟩ := c
  obtain ⟨ha, hb0, hb1⟩ := hc
  simp only at ha hb0 hb1
  have em (x : Int) := Int.emod_nonneg x (b := m) (by omega)
  have el (x : Int) := Int.emod_lt_of_pos x hm0
  unfold gRoll
  by_cases h : 0 < a
  · have e1 := modD_i a m hm0
    have e2 := fdivD_i a m hm0 (by omega)
    simp [h, e1, e2]
    exact ⟨_, _, _, ⟨rfl, rfl, rfl⟩, ⟨Int.ediv_nonneg ha (by omega), hb0, hb1⟩, em _, el _⟩
  · have e1 := mulD_i b k1 (by rw [smallI_tt (i := k1) (by omega) (by omega), Bool.or_true])
    have e2 := modD_i (b * k1 + k2) m1' h3.1
    have l1 := Int.emod_nonneg (b * k1 + k2) (b := m1') (by omega)
    have l2 := Int.emod_lt_of_pos (b * k1 + k2) h3.1
    generalize (b * k1 + k2) % m1' = d at e2 l1 l2
    have e3 := mulD_i d (d + k3) (by rw [smallI_tt (i := d) (by omega) (by omega), Bool.true_or])
    have e4 := modD_i (d * (d + k3)) m2' h4.1
    have e5 := fdivD_i (d * (d + k3) % m2') k4 h5.1 h5.2
    have e6 := modD_i (d * (d + k3) % m2' / k4) m hm0
    simp [h, e1, e2, e3, e4, e5, e6]
    exact ⟨_, _, _, ⟨rfl, rfl, rfl⟩, ⟨ha, l1, by simp only; omega⟩, em _, el _⟩
end
def gSome (roll : Int × Int → List D → R D) : MS := (mRet (m2 ixD (slB 1) (mCallC 0 roll (aCons (m1 lenD (slB 1)) aNil))))
/-- what _law_roll is good for -/
def RollOk (roll : Int × Int → List D → R D) : Prop := ∀ c, CupOk c → ∀ m : Int, 0 < m → m < 536870912 → ∃ (r : Int) (c' : Int × Int), roll c [.int m] = .ok (.int r) c' ∧ CupOk c' ∧ 0 ≤ r ∧ r < m
theorem gSome_ok {roll : Int × Int → List D → R D} (hr : RollOk roll) {c : Int × Int} (hc : CupOk c) {xs : List D} (h0 : xs ≠ []) (h1 : xs.length < 10000000) :
    ∃ d c', finC (gSome roll ⟨c, .cup :: st0 1 [.list xs]⟩) = .ok d c' ∧ CupOk c' ∧ d ∈ xs := by
  have hp : 0 < xs.length := List.length_pos_iff.mpr h0
  obtain ⟨r, c', e, hc', r0, r1⟩ := hr c hc (xs.length : Int) (by omega) (by omega)
  unfold gSome
  simp [e, atI_get r0 r1]
  exact ⟨_, _, _, ⟨rfl, rfl⟩, hc', List.getElem_mem _⟩
theorem gSome_okT {roll : Int × Int → List D → R D} (hr : RollOk roll) {c : Int × Int} (hc : CupOk c) {xs : List D} (h0 : xs ≠ []) (h1 : xs.length < 10000000) :
    ∃ d c', finC (gSome roll ⟨c, .cup :: st0 1 [.tuple xs]⟩) = .ok d c' ∧ CupOk c' ∧ d ∈ xs := by
  have hp : 0 < xs.length := List.length_pos_iff.mpr h0
  obtain ⟨r, c', e, hc', r0, r1⟩ := hr c hc (xs.length : Int) (by omega) (by omega)
  unfold gSome
  simp [e, atI_get r0 r1]
  exact ⟨_, _, _, ⟨rfl, rfl⟩, hc', List.getElem_mem _⟩
def gSame (rec : List D → O) : MS := (mSeq (mIfS (mB (m1 isTupD (slB 1))) (mSeq (mIfS (mOr (mNot (mB (m1 isTupD (slB 0)))) (mB (m2 neD (m1 lenD (slB 0)) (m1 lenD (slB 1))))) (mRet (rt (.bool false))) mNext) (mRet (m1 allD (mLc [2] (mI rng1D (m1 lenD (slB 1))) (bName 2) mYes (mCall rec (aCons (m2 ixD (slB 0) (slB 2)) (aCons (m2 ixD (slB 1) (slB 2)) aNil))))))) mNext) (mSeq (mIfS (mB (m2 isD (slB 1) (rt .none))) (mRet (m2 isD (slB 0) (rt .none))) mNext) (mSeq (mIfS (mB (m1 isBoolD (slB 1))) (mRet (mIf (mB (slB 1)) (m2 isD (slB 0) (rt (.bool true))) (m2 isD (slB 0) (rt (.bool false))))) mNext) (mSeq (mIfS (mB (m1 isIntD (slB 1))) (mRet (mAndV (m1 isIntD (slB 0)) (mAndV (mNotV (m1 isBoolD (slB 0))) (m2 eqD (m1 intD (slB 0)) (slB 1))))) mNext) (mRet (mAndV (m1 isStrD (slB 0)) (m2 eqD (m1 strD (slB 0)) (slB 1))))))))
def gSameN : Nat → List D → O
  | 0 => fun _ => .no
  | k + 1 => fun ds => fin (gSame (gSameN k) ⟨(0, 0), st0 3 ds⟩)
theorem gSame_ok (k : Nat) : ∀ (d : D), smp k d = true → gSameN k [d, d] = .ok (.bool true) := by
  induction k with
  | zero => intro d h; simp [smp] at h
  | succ k ih =>
    intro d h
    show fin (gSame (gSameN k) ⟨(0, 0), st0 3 [d, d]⟩) = _
    unfold gSame
    cases d with
    | none => simp
    | bool b => cases b <;> simp
    | int i => simp
    | str x => simp
    | list xs => simp [smp] at h
    | dict xs => simp [smp] at h
    | tuple xs =>
      simp [smp] at h
      obtain ⟨h1, h2⟩ := h
      have h1' : leN xs.length = true := leN_tt (by omega)
      have er : rng1D (.int xs.length) = some (ints2 0 xs.length) := by
        have := rng1D_i (xs.length : Int) (okR_tt (by omega) (by omega))
        simpa using this
      have key : ∀ s : S, s.r = [.fz (.tuple xs), .fz (.tuple xs), .no] → lcL (bName 2) mYes (mCall (gSameN k) (aCons (m2 ixD (slB 0) (slB 2)) (aCons (m2 ixD (slB 1) (slB 2)) aNil))) s (ints2 0 xs.length) (0, 0) = .ok ((ints2 0 xs.length).map fun _ => .bool true) (0, 0) := fun s hs => by
        refine lcL_map _ _ _ fun x hx => ?_
        obtain ⟨j, hj, rfl⟩ := List.mem_map.mp hx
        have hj : j < xs.length := by simpa using hj
        have hs' := ih xs[j] (h2 _ (List.getElem_mem hj))
        refine ⟨_, rfl, rfl, ?_⟩
        simp [hs, atI_natD hj, hs']
      have lo : lenOk ((ints2 0 xs.length).map fun _ => PyData.bool true) = true := lenOk_tt (by simp; omega)
      simp [er, key, boolsD_map (fun _ => true), lo]
/-- the items alike to one whole number -/
def isI (g : Int) : D → Bool
  | .int o => decide (o = g)
  | _ => false
theorem ints2_one (lo g : Int) (n : Nat) : (ints2 lo n).filter (isI g) = if lo ≤ g ∧ g < lo + n then [.int g] else [] := by
  induction n generalizing lo with
  | zero => rw [if_neg (by omega)]; rfl
  | succ n ih =>
    have e : ints2 lo (n + 1) = .int lo :: ints2 (lo + 1) n := by
      simp only [ints2, List.range_succ_eq_map, List.map_cons, List.map_map]
      congr 1
      · simp
      · apply List.map_congr_left; intro j _; simp; omega
    rw [e, List.filter_cons, ih]
    by_cases h : lo = g
    · rw [if_pos (by simp [isI, h]), if_neg (by omega), if_pos (by omega), h]
    · rw [if_neg (by simp [isI, h])]
      by_cases h2 : lo + 1 ≤ g ∧ g < lo + 1 + n
      · rw [if_pos h2, if_pos (by omega)]
      · rw [if_neg h2, if_neg (by omega)]
theorem ints2_mem {lo : Int} {n : Nat} {x : D} (h : x ∈ ints2 lo n) : ∃ i : Int, x = .int i ∧ lo ≤ i ∧ i < lo + n := by
  obtain ⟨j, hj, rfl⟩ := List.mem_map.mp h
  have hj : j < n := by simpa using hj
  exact ⟨_, rfl, by omega, by omega⟩
theorem rng1_ok {i : Int} (h0 : 0 ≤ i) (h1 : i < 100000000) : rng1D (.int i) = some (ints2 0 i.toNat) := rng1D_i i (okR_tt (by omega) (by omega))
theorem mul_ok {i j : Int} (h0 : -1000000000 < j) (h1 : j < 1000000000) : mulD (.int i) (.int j) = some (.int (i * j)) := mulD_i i j (by rw [smallI_tt (i := j) (by omega) (by omega), Bool.or_true])
theorem mul_ok' {i j : Int} (h0 : -1000000000 < i) (h1 : i < 1000000000) : mulD (.int i) (.int j) = some (.int (i * j)) := mulD_i i j (by rw [smallI_tt (i := i) (by omega) (by omega), Bool.true_or])
end Pu
end

noncomputable section
set_option Elab.async false
set_option linter.all false
set_option maxRecDepth 100000
set_option maxHeartbeats 2000000
/-! Pu, ninth part: dict lookups, slices, joins. -/
namespace Pu
open PySem PySem.Spec L2
/-! ### an item of a dict -/
def keq0 : D → D → Bool
  | .int i, .int j => decide (i = j)
  | .str a, .str b => decide (a = b)
  | _, _ => false
def keqs : List D → List D → Bool
  | [], [] => true
  | x :: xs, y :: ys => keq0 x y && keqs xs ys
  | _, _ => false
def flK : D → Bool
  | .int _ | .str _ => true
  | _ => false
theorem keq0_keys (a b : Key) : keq0 (keyD a) (keyD b) = decide (a = b) := by
  cases a <;> cases b <;> simp [keq0, keyD]
theorem keqs_keys : ∀ (a b : List Key), keqs (a.map keyD) (b.map keyD) = decide (a = b)
  | [], [] => by simp [keqs]
  | [], _ :: _ => by simp [keqs]
  | _ :: _, [] => by simp [keqs]
  | a :: as, b :: bs => by
    simp only [List.map_cons, keqs, keq0_keys, keqs_keys as bs]
    simp
theorem flK_keys : ∀ {xs : List D}, xs.all flK = true → ∃ ks : List Key, xs = ks.map keyD
  | [], _ => ⟨[], rfl⟩
  | x :: xs, h => by
    rw [List.all_cons, Bool.and_eq_true] at h
    obtain ⟨ks, rfl⟩ := flK_keys h.2
    cases x <;> first | (cases h.1; done) | skip
    · rename_i i; exact ⟨.inl i :: ks, rfl⟩
    · rename_i i; exact ⟨.inr i :: ks, rfl⟩
theorem RpL.keys {K : PySem.W.Frag} {F : Hp} : ∀ {vs : List V} {ks : List Key}, RpL K F vs (ks.map keyD) → vs = ks.map kV
  | _, [], .nil => rfl
  | _, .inl i :: ks, .cons h r => by
    have h : Rp K F _ (.int i) := h
    cases h
    rw [RpL.keys r]; rfl
  | _, .inr x :: ks, .cons h r => by
    have h : Rp K F _ (.str x) := h
    cases h
    rw [RpL.keys r]; rfl
def keq : D → D → Bool
  | .int i, .int j => decide (i = j)
  | .str a, .str b => decide (a = b)
  | .tuple xs, .tuple ys => keqs xs ys
  | _, _ => false
def dfind : List (D × D) → D → Option D
  | [], _ => none
  | (k, v) :: r, x => if keq k x = true then some v else dfind r x
theorem valV_skip {p : Key × V} {r : List (Key × V)} {k : Key} (e : p.1 ≠ k) : valV (p :: r) k = valV r k := by simp [valV, List.find?_cons, e]
theorem RpK.find {K : PySem.W.Frag} {F : Hp} : ∀ {kvs : List (Key × V)} {ds : List (D × D)} (k : Key) {z : D}, RpK K F kvs ds → dfind ds (keyD k) = some z → ∃ v, valV kvs k = some v ∧ Rp K F v z
  | _, _, _, _, .nil, e => by cases e
  | _, _, .inl j, _, .consI (i := i) h r, e => by
    by_cases q : i = j
    · subst q
      simp [dfind, keyD, keq] at e
      subst e
      exact ⟨_, valV_pos rfl, h⟩
    · simp [dfind, keyD, keq, q] at e
      obtain ⟨v, e1, e2⟩ := RpK.find (.inl j) r e
      exact ⟨v, by rw [valV_skip (by simpa using q)]; exact e1, e2⟩
  | _, _, .inr j, _, .consI (i := i) h r, e => by
    simp [dfind, keyD, keq] at e
    obtain ⟨v, e1, e2⟩ := RpK.find (.inr j) r e
    exact ⟨v, by rw [valV_skip (by simp)]; exact e1, e2⟩
  | _, _, .inl j, _, .consS (x := i) h r, e => by
    simp [dfind, keyD, keq] at e
    obtain ⟨v, e1, e2⟩ := RpK.find (.inl j) r e
    exact ⟨v, by rw [valV_skip (by simp)]; exact e1, e2⟩
  | _, _, .inr j, _, .consS (x := i) h r, e => by
    by_cases q : i = j
    · subst q
      simp [dfind, keyD, keq] at e
      subst e
      exact ⟨_, valV_pos rfl, h⟩
    · simp [dfind, keyD, keq, q] at e
      obtain ⟨v, e1, e2⟩ := RpK.find (.inr j) r e
      exact ⟨v, by rw [valV_skip (by simpa using q)]; exact e1, e2⟩
theorem RpK.noT {K : PySem.W.Frag} {F : Hp} : ∀ {kvs : List (Key × V)} {ds : List (D × D)} {xs : List D}, RpK K F kvs ds → dfind ds (.tuple xs) = none
  | _, _, _, .nil => rfl
  | _, _, _, .consI _ r => by simp [dfind, keq, RpK.noT r]
  | _, _, _, .consS _ r => by simp [dfind, keq, RpK.noT r]
theorem RpT.noK {K : PySem.W.Frag} {F : Hp} : ∀ {kvs : List (List Key × V)} {ds : List (D × D)} {k : Key}, RpT K F kvs ds → dfind ds (keyD k) = none
  | _, _, _, .nil => rfl
  | _, _, .inl i, .cons _ r => by simp only [dfind, keyD, keq, Bool.false_eq_true, if_false]; exact RpT.noK (k := .inl i) r
  | _, _, .inr i, .cons _ r => by simp only [dfind, keyD, keq, Bool.false_eq_true, if_false]; exact RpT.noK (k := .inr i) r
theorem RpT.find {K : PySem.W.Frag} {F : Hp} : ∀ {kvs : List (List Key × V)} {ds : List (D × D)} (k : List Key) {z : D}, RpT K F kvs ds → dfind ds (.tuple (k.map keyD)) = some z → ∃ v, valV kvs k = some v ∧ Rp K F v z
  | _, _, _, _, .nil, e => by cases e
  | _, _, k, _, .cons (ks := i) h r, e => by
    by_cases q : i = k
    · subst q
      simp [dfind, keq, keqs_keys] at e
      subst e
      exact ⟨_, valV_pos rfl, h⟩
    · simp [dfind, keq, keqs_keys, q] at e
      obtain ⟨v, e1, e2⟩ := RpT.find k r e
      exact ⟨v, by rw [valV_neg q]; exact e1, e2⟩
theorem RpB.dict {K : PySem.W.Frag} {pc : Option Addr} {F H : Hp} {v : V} {ds : List (D × D)} (sb : Same F H) (h : RpB K pc F H v (.dict ds)) : ∃ p o, v = .ref p ∧ Rd H p o ∧ RpD K F o ds := by
  rcases h with h | ⟨_, _, _, _, z, _⟩ | ⟨p, kvs, ds', e, z, h1, h2, _⟩
  · cases h with
    | dct h1 h2 => exact ⟨_, _, rfl, rd_same sb h1.rd, h2⟩
  · cases z
  · cases z
    exact ⟨p, kvs, e, .inl h1, h2⟩
def dgD : D → D → Option D
  | .dict kvs, .int i => dfind kvs (.int i)
  | .dict kvs, .str x => dfind kvs (.str x)
  | .dict kvs, .tuple xs => if xs.all flK = true then dfind kvs (.tuple xs) else none
  | _, _ => none
section
variable {X : Cx} {E : XK} {a b e : Expr} {ma mb : M D} {pos p : Pos} {x : Str}
theorem rp_dget {K : PySem.W.Frag} {pc pc' : Option Addr} {F H : Hp} {v w : V} {x y z : D} (sb : Same F H) (rv : RpB K pc F H v x) (rw : RpB K pc' F H w y) (e : dgD x y = some z) : ∃ p v0, v = .ref p ∧ DGet H p w (some v0) ∧ Rp K F v0 z := by
  unfold dgD at e
  split at e
  · rename_i dk i
    obtain ⟨p, o, rfl, h1, h2⟩ := rv.dict sb
    cases h2 with
    | k h2 =>
      obtain ⟨v, e1, e2⟩ := RpK.find (.inl _) h2 e
      exact ⟨p, v, rfl, .inl ⟨_, .inl _, h1, rw.int, e1.symm⟩, e2⟩
    | t h2 =>
      have := RpT.noK (k := .inl i) h2
      rw [show keyD (.inl i) = .int i from rfl, e] at this; cases this
  · rename_i dk i
    obtain ⟨p, o, rfl, h1, h2⟩ := rv.dict sb
    cases h2 with
    | k h2 =>
      obtain ⟨v, e1, e2⟩ := RpK.find (.inr _) h2 e
      exact ⟨p, v, rfl, .inl ⟨_, .inr _, h1, rw.str, e1.symm⟩, e2⟩
    | t h2 =>
      have := RpT.noK (k := .inr i) h2
      rw [show keyD (.inr i) = .str i from rfl, e] at this; cases this
  · split at e
    · rename_i hf
      obtain ⟨ks, rfl⟩ := flK_keys hf
      obtain ⟨p, o, rfl, h1, h2⟩ := rv.dict sb
      obtain ⟨q, vs, rfl, g1, g2⟩ := rw.tuple
      have := RpL.keys g2
      subst this
      cases h2 with
      | k h2 => rw [RpK.noT h2] at e; cases e
      | t h2 =>
        obtain ⟨v, e1, e2⟩ := RpT.find ks h2 e
        exact ⟨p, v, rfl, .inr ⟨_, ks, q, h1, rfl, sb _ _ g1, e1.symm⟩, e2⟩
    · cases e
  · cases e
theorem rd_dget {K : PySem.W.Frag} {mg : Str → Option Value} {σ : L2.St} {H : Hp} {Q : VK} (h : rdE K mg E (m2 dgD ma mb) σ H Q) : tDGet (rdB K mg E ma) (rdB K mg E mb) σ H Q := by
  obtain ⟨fr, s, F, hs, q⟩ := h
  refine ⟨fr, s, F, hs, (Post.bnd q).mono fun x c1 F1 H1 g1 sb1 cu1 q1 v rv => ?_⟩
  refine ⟨fr, s.wc c1, F1, hs.step g1 sb1 cu1, (Post.bnd q1).mono fun y c2 F2 H2 g2 sb2 cu2 q2 w rw => ?_⟩
  obtain ⟨z, e, k⟩ := q2.lift
  obtain ⟨p, v0, rfl, d, r⟩ := rp_dget sb2 (rv.go g2) rw e
  exact ⟨p, v0, rfl, d, k _ _ (Go.refl _ _ _) sb2 cu2 _ r⟩
theorem pd_dget (hu : X.A.units + 1 < cLine) (ha : PB X E a ma) (hb : PB X E b mb) (hs : NoSl b := by exact fun _ _ => rfl) : PD X E (.Subscript a b pos) (m2 dgD ma mb) := PE.imp (pe_dget hu ha hb hs) fun _ _ _ => rd_dget
/-! ### a written dict of texts and whole numbers -/
def litD (L : List (Str × Int)) : D := .dict (L.map fun p => (.str p.1, .int p.2))
def litK (L : List (Str × Int)) : List (Key × V) := L.map fun p => (.inr p.1, .int p.2)
theorem litK_ok {K : PySem.W.Frag} {F : Hp} : ∀ L : List (Str × Int), RpK K F (litK L) (L.map fun p => (.str p.1, .int p.2))
  | [] => .nil
  | (_, _) :: L => .consS (.int _) (litK_ok L)
def litT (L : List (Str × Int)) : List (TE × TE) := L.map fun p => (tC (.str p.1), tC (.int p.2))
theorem litT_ok : ∀ (L : List (Str × Int)) {σ : L2.St} {H : Hp} {Q : List (V × V) → Hp → Prop}, Q (L.map fun p => (.str p.1, .int p.2)) H → tPairs (litT L) σ H Q
  | [], _, _, _, h => h
  | (x, i) :: L, _, H, Q, h => by
    show tPairs (litT L) _ H fun ps H3 => Q ((.str x, .int i) :: ps) H3
    exact litT_ok L h
theorem new_dct {K : PySem.W.Frag} {F H : Hp} {p : Addr} {kvs : List (Key × V)} {ds : List (D × D)} (sb : Same F H) (hp : H p = none) (r : RpK K F kvs ds) :
    Go none F H F (upd H p (.dK kvs)) ∧ Same F (upd H p (.dK kvs)) ∧ RpF K H F (upd H p (.dK kvs)) (.ref p) (.dict ds) := by
  have hF : F p = none := by
    cases e : F p with
    | none => rfl
    | some o => have := sb _ _ e; rw [hp] at this; cases this
  have ne : ∀ a o, H a = some o → upd H p (.dK kvs) a = some o := fun a o h => by
    unfold upd
    split
    · rename_i e; subst e; rw [hp] at h; cases h
    · exact h
  refine ⟨⟨Same.refl _, fun a o _ h => ne a o h, fun a h => ?_, fun b ⟨u, e, z⟩ => ⟨u, ne b u e, z⟩, fun a _ h => h⟩, fun a o h => ne a o (sb _ _ h), ⟨p, _, rfl, hp, hF, upd_same, .k r⟩⟩
  cases e : H a with
  | none => exact absurd e h
  | some o => rw [ne a o e]; exact fun z => by cases z
theorem pf_lit (L : List (Str × Int)) {keys : List (Option Expr)} {values : List Expr} (h : PPs X pos keys values (litT L)) (hm : mergeK [] (litK L) = litK L) (hl15 : (litK L).length ≤ 15) (hall : keys.all (·.isSome) = true := by rfl) (hl : keys.length = values.length := by rfl) (h0 : keys ≠ [] := by exact fun z => by cases z)
    (h15 : keys.length ≤ 15 := by decide) : PF X E (.Dict keys values pos) (rt (litD L)) := PE.imp (pe_disp h hall hl h0 h15) fun σ H Q ⟨fr, s, F, hs, q⟩ => fun p hp => by
  refine litT_ok L ⟨upd_same, litK L, by simp [litK, kV], hl15, ?_⟩
  rw [hm]
  have e : upd (upd H p (.dK [])) p (.dK (litK L)) = upd H p (.dK (litK L)) := by funext b; unfold upd; split <;> rfl
  rw [e]
  obtain ⟨g, sb, r⟩ := new_dct (K := X.K) hs.sub hp (litK_ok (K := X.K) (F := F) L)
  exact q _ _ g.weak sb (hs.cup.go g) _ r
end
/-! ### a dict of the module -/
structure WD (K : PySem.W.Frag) (w : World) (mg : Str → Option Value) (x : Str) (L : List (Str × Int)) : Prop where
  ex : ∃ p es n, mg x = some (.ref p) ∧ KDict K w p es n ∧ (∀ z i, L.lookup z = some i → ∃ t, PySem.W.nsIn K p z = some (some (.int i t))) ∧ ∀ z, L.lookup z = none → PySem.W.nsIn K p z = some none
def wgD (L : List (Str × Int)) : D → Option D
  | .str z => (L.lookup z).map .int
  | _ => none
def wInD (L : List (Str × Int)) : D → Option D
  | .str z => if (L.lookup z).isSome = true then some (.bool true) else some (.bool false)
  | _ => none
section
variable {X : Cx} {E : XK} {a b e : Expr} {ma mb : M D} {pos p : Pos} {x : Str}
theorem pf_wd {L : List (Str × Int)} (W : WD X.K X.w X.mg x L) (hb : PB X E b mb) (hg : Gl X x := by rfl) (hd : (x == ("__debug__" : Str)) = false := by decide) (hs : PlainIx b := by exact fun _ _ => rfl) : PF X E (.Subscript (.Name x p) b pos) (m1 (wgD L) mb) := by
  obtain ⟨d, es, n, hm, D, hk, _⟩ := W.ex
  refine PE.imp (pe_ix ix_kdict (pe_glob (v := .ref d) hg hm rfl hd) hb hs) fun σ H Q h => ?_
  obtain ⟨fr, s, F, hs, q⟩ := h
  refine ⟨fr, s, F, hs, (Post.bnd q).mono fun x c1 F1 H1 g1 sb1 cu1 q1 v rv => ?_⟩
  obtain ⟨z, e, k⟩ := q1.lift
  unfold wgD at e
  split at e
  · rename_i zz
    cases el : L.lookup zz with
    | none => rw [el] at e; cases e
    | some i =>
      rw [el] at e
      cases e
      obtain ⟨t, hn⟩ := hk _ _ el
      exact ⟨d, zz, .int i, rfl, rv.str, ⟨es, n, _, D.at_, D.lit, hn, ⟨t, rfl⟩⟩, k _ _ (Go.refl _ _ _) sb1 cu1 _ (.int i)⟩
  · cases e
theorem rd_wIn {K : PySem.W.Frag} {w : World} {mg : Str → Option Value} {d : Addr} {L : List (Str × Int)} (hk : ∀ z i, L.lookup z = some i → ∃ t, PySem.W.nsIn K d z = some (some (.int i t))) (ha : ∀ z, L.lookup z = none → PySem.W.nsIn K d z = some none) {σ : L2.St} {H : Hp} {Q : VK} (h : rdF K mg E (m1 (wInD L) mb) σ H Q) :
    tOp (fun x y H Q => ∃ (z : Str) (r : Option Value), x = .str z ∧ y = .ref d ∧ PySem.W.nsIn K d z = some r ∧ Q (.bl r.isSome) H) (rdB K mg E mb) (tC (.ref d)) σ H Q := by
  obtain ⟨fr, s, F, hs, q⟩ := h
  refine ⟨fr, s, F, hs, (Post.bnd q).mono fun x c1 F1 H1 g1 sb1 cu1 q1 v rv => ?_⟩
  obtain ⟨z, e, k⟩ := q1.lift
  unfold wInD at e
  split at e
  · rename_i zz
    cases el : L.lookup zz with
    | none =>
      rw [el] at e
      cases e
      exact ⟨zz, _, rv.str, rfl, ha _ el, k _ _ (Go.refl _ _ _) sb1 cu1 _ (.bl _)⟩
    | some i =>
      rw [el] at e
      cases e
      obtain ⟨t, hn⟩ := hk _ _ el
      exact ⟨zz, _, rv.str, rfl, hn, k _ _ (Go.refl _ _ _) sb1 cu1 _ (.bl _)⟩
  · cases e
theorem pf_wIn {L : List (Str × Int)} (W : WD X.K X.w X.mg x L) (hb : PB X E b mb) (hg : Gl X x := by rfl) (hd : (x == ("__debug__" : Str)) = false := by decide) : PF X E (.Compare b [.In] [.Name x p] pos) (m1 (wInD L) mb) := by
  obtain ⟨d, es, n, hm, D, hk, hn⟩ := W.ex
  exact PE.imp (pe_cmpR (op_in_kd D) hb (pe_glob (v := .ref d) hg hm rfl hd) rfl) fun σ H Q h => rd_wIn (w := X.w) hk hn h
/-! ### slices -/
def cutD (xs : List D) (lo hi : Option Int) : List D := (xs.drop (HT.sIx xs.length 0 lo)).take (HT.sIx xs.length xs.length hi - HT.sIx xs.length 0 lo)
def slD : D → Option Int → Option Int → Option D
  | .list xs, l, u => some (.list (cutD xs l u))
  | .tuple xs, l, u => some (.tuple (cutD xs l u))
  | .str z, l, u => if leN z.length = true then some (.str (cutS z l u)) else none
  | _, _, _ => none
def pNo : M (Option Int) := rt none
def pAt (m : M D) : M (Option Int) := bnd m fun d => match d with
  | .int i => rt (some i)
  | _ => lift none
def mSl (ma : M D) (lo hi : M (Option Int)) : M D := bnd ma fun x => bnd lo fun l => bnd hi fun u => lift (slD x l u)
def rdO (K : PySem.W.Frag) (mg : Str → Option Value) (E : XK) (m : M (Option Int)) : TO := fun σ H Q => ∃ fr s F, Sat K fr s F σ H ∧ Post mg E fr F H (m s) fun o _ _ H' => Q o H'
def POD (X : Cx) (E : XK) (e : Option Expr) (m : M (Option Int)) : Prop := PO X e (rdO X.K X.mg E m)
theorem PO.imp {X : Cx} {e : Option Expr} {t t' : TO} (h : PO X e t) (hi : ∀ σ H Q, t' σ H Q → t σ H Q) : PO X e t' := ⟨fun pins s σ H Q I q => h.run pins s σ H Q I (hi _ _ _ q)⟩
theorem po_no : POD X E none pNo := PO.imp po_none fun σ H Q ⟨fr, s, F, hs, q⟩ => q F H (Go.refl _ _ _) hs.sub hs.cup
theorem po_at (h : PB X E a ma) : POD X E (some a) (pAt ma) := PO.imp (po_some h) fun σ H Q ⟨fr, s, F, hs, q⟩ => by
  refine ⟨fr, s, F, hs, (Post.bnd q).mono fun x c1 F1 H1 g1 sb1 cu1 q1 v rv => ?_⟩
  split at q1
  · exact ⟨_, rv.int, q1 _ _ (Go.refl _ _ _) sb1 cu1⟩
  · exact q1.elim
theorem RpL.cut {K : PySem.W.Frag} {F : Hp} {vs : List V} {ds : List D} (r : RpL K F vs ds) (lo hi : Option Int) : RpL K F (cutV vs lo hi) (cutD ds lo hi) := by
  unfold cutV cutD
  rw [r.length]
  exact (r.drop _).take _
theorem sld : SlR X (fun x lo hi H Q => rSlL X.K x lo hi H Q ∨ rSlA X.K x lo hi H Q ∨ rSlS x lo hi H Q) := SlR.or sl_list (SlR.or sl_tupA sl_str)
theorem pf_sl {lo hi : Option Expr} {ml mh : M (Option Int)} {p2 : Pos} (ha : PB X E a ma) (hl : POD X E lo ml) (hh : POD X E hi mh) : PF X E (.Subscript a (.Slice lo hi none p2) pos) (mSl ma ml mh) := PE.imp (pe_slice sld ha hl hh) fun σ H Q ⟨fr, s, F, hs, q⟩ => by
  refine ⟨fr, s, F, hs, (Post.bnd q).mono fun x c1 F1 H1 g1 sb1 cu1 q1 v rv => ?_⟩
  have hs1 := hs.step g1 sb1 cu1
  refine ⟨fr, s.wc c1, F1, hs1, (Post.bnd q1).mono fun l c2 F2 H2 g2 sb2 cu2 q2 => ?_⟩
  refine ⟨fr, (s.wc c1).wc c2, F2, hs1.step g2 sb2 cu2, (Post.bnd q2).mono fun u c3 F3 H3 g3 sb3 cu3 q3 => ?_⟩
  obtain ⟨z, e, k⟩ := q3.lift
  have rv := (rv.go g2).go g3
  have gg := (g1.trans g2).trans g3
  unfold slD at e
  split at e
  · cases e
    obtain ⟨p, vs, rfl, h1, h2⟩ := rv.listF sb3
    refine .inl ⟨p, vs, rfl, h1, fun t ht => ?_⟩
    obtain ⟨g, sb, r⟩ := new_lst (K := X.K) sb3 ht (h2.cut l u)
    exact k _ _ g.weak sb (cu3.go g) _ (r.back gg)
  · cases e
    obtain ⟨p, vs, rfl, h1, h2⟩ := rv.tuple
    refine .inr (.inl ⟨p, vs, rfl, SqT.of (sb3 _ _ h1), fun hw => ?_, fun _ t ht => ?_⟩)
    · refine k _ _ (Go.refl _ _ _) sb3 cu3 _ (.tup h1 ?_)
      have := h2.cut l u
      unfold cutV at this
      rw [hw.1, hw.2, List.drop_zero, Nat.sub_zero, List.take_length] at this
      exact this
    · obtain ⟨g, sb, r⟩ := new_tup (fr := fr) sb3 ht (h2.cut l u)
      exact k _ _ g.weak sb (cu3.go g) _ r
  · split at e
    · rename_i hl
      cases e
      exact .inr (.inr ⟨_, rv.str, leN_le hl, k _ _ (Go.refl _ _ _) sb3 cu3 _ (.str _)⟩)
    · cases e
  · cases e
/-! ### join -/
def strsD : List D → Option (List Str)
  | [] => some []
  | .str x :: r => (strsD r).map (x :: ·)
  | _ :: _ => none
theorem strsD_ok {K : PySem.W.Frag} {F : Hp} : ∀ {vs : List V} {ds : List D} {ys : List Str}, RpL K F vs ds → strsD ds = some ys → vs = ys.map V.str
  | _, _, _, .nil, e => by cases e; rfl
  | _, _, _, .cons (d := d) (ds := ds) h r, e => by
    cases d with
    | str x =>
      have e : (strsD ds).map (x :: ·) = some _ := e
      cases er : strsD ds with
      | none => rw [er] at e; cases e
      | some zs =>
        rw [er] at e
        cases e
        cases h
        rw [strsD_ok r er]
        rfl
    | none => cases e
    | bool _ => cases e
    | int _ => cases e
    | list _ => cases e
    | tuple _ => cases e
    | dict _ => cases e
def joinN (a : Str) (ys : List Str) : Bool := leN ((ys.map (·.length)).sum + ys.length * a.length)
def joinD : D → D → Option D
  | .str a, .list ds => match strsD ds with
    | some ys => if joinN a ys = true then some (.str (Txt.join a ys)) else none
    | none => none
  | .str a, .tuple ds => match strsD ds with
    | some ys => if joinN a ys = true then some (.str (Txt.join a ys)) else none
    | none => none
  | _, _ => none
def isSD : D → Bool
  | .str _ => true
  | _ => false
/-- the separator is asked for being a text before the rest is read -/
def mJoin (x : Str) (mb : M D) : M D := m1 (joinD (.str x)) mb
theorem pf_join {z : Str} {j : Nat} {zp apos : Pos} (hb : PB X E b mb) (hs : starEach [b] X.env = [(false, eval b X.env)] := by rfl) (hbase : attributeBase (.Constant (.str z) j zp) "join" X.env (eval (.Constant (.str z) j zp) X.env) = eval (.Constant (.str z) j zp) X.env := by rfl) (hline : (apos.endLine == pos.line) = true := by rfl) :
    PF X E (.Call (.Attribute (.Constant (.str z) j zp) "join" apos) [b] [] pos) (mJoin z mb) := PE.imp (pe_join pe_str hb hs hbase hline) fun σ H Q ⟨fr, s, F, hs, q⟩ => by
  refine ⟨⟨z, rfl⟩, fr, s, F, hs, (Post.bnd q).mono fun x c1 F1 H1 g1 sb1 cu1 q1 v rv => ?_⟩
  obtain ⟨d, e, k⟩ := q1.lift
  unfold joinD at e
  split at e
  · rename_i ez
    cases ez
    split at e
    · rename_i ys es
      split at e
      · rename_i hl
        cases e
        obtain ⟨p, vs, rfl, h1, h2⟩ := rv.listF sb1
        exact ⟨_, p, ys, rfl, rfl, .inl (by rw [← strsD_ok h2 es]; exact h1), by rw [← PySem.sizeLine_eq]; exact leN_le hl, k _ _ (Go.refl _ _ _) sb1 cu1 _ (.str _)⟩
      · cases e
    · cases e
  · rename_i ez
    cases ez
    split at e
    · rename_i ys es
      split at e
      · rename_i hl
        cases e
        obtain ⟨p, vs, rfl, h1, h2⟩ := rv.tuple
        exact ⟨_, p, ys, rfl, rfl, .inr (by rw [← strsD_ok h2 es]; exact SqT.of (sb1 _ _ h1)), by rw [← PySem.sizeLine_eq]; exact leN_le hl, k _ _ (Go.refl _ _ _) sb1 cu1 _ (.str _)⟩
      · cases e
    · cases e
  · cases e
end
section
variable (s : S)
@[simp] theorem pNo_ap : pNo s = .ok none s.c := (rfl)
@[simp] theorem pAt_ap (m : M D) : pAt m s = bnd m (fun d => match d with
  | .int i => rt (some i)
  | _ => lift none) s := (rfl)
@[simp] theorem mSl_ap (ma : M D) (lo hi : M (Option Int)) : mSl ma lo hi s = bnd ma (fun x => bnd lo fun l => bnd hi fun u => lift (slD x l u)) s := (rfl)
@[simp] theorem mJoin_ap (x : Str) (mb : M D) : mJoin x mb s = m1 (joinD (.str x)) mb s := (rfl)
@[simp] theorem slD_l (xs : List D) (l u : Option Int) : slD (.list xs) l u = some (.list (cutD xs l u)) := (rfl)
@[simp] theorem slD_t (xs : List D) (l u : Option Int) : slD (.tuple xs) l u = some (.tuple (cutD xs l u)) := (rfl)
theorem slD_s {z : Str} (h : leN z.length = true) (l u : Option Int) : slD (.str z) l u = some (.str (cutS z l u)) := if_pos h
@[simp] theorem wgD_s (L : List (Str × Int)) (z : Str) : wgD L (.str z) = (L.lookup z).map .int := (rfl)
theorem wInD_s {L : List (Str × Int)} {z : Str} (h : (L.lookup z).isSome = true) : wInD L (.str z) = some (.bool true) := if_pos h
theorem dfind_lit (z : Str) : ∀ L : List (Str × Int), dfind (L.map fun p => (.str p.1, .int p.2)) (.str z) = (L.lookup z).map .int
  | [] => rfl
  | (x, i) :: L => by
    by_cases h : x = z
    · subst h; simp [dfind, keq]
    · have h' : (z == x) = false := by
        have : ¬ z = x := fun e => h e.symm
        simpa using this
      have h2 : keq (.str x) (.str z) = false := by simp [keq, h]
      simp only [List.map_cons, dfind, h2, List.lookup_cons, h']
      simpa using dfind_lit z L
@[simp] theorem dgD_lit (L : List (Str × Int)) (z : Str) : dgD (litD L) (.str z) = (L.lookup z).map .int := dfind_lit z L
end
end Pu
end

noncomputable section
set_option Elab.async false
set_option linter.all false
set_option maxRecDepth 100000
set_option maxHeartbeats 4000000
/-! Pu, tenth part: comprehensions with two fors. -/
namespace Pu
open PySem PySem.Spec L2
section
variable {K : PySem.W.Frag} {mg : Str → Option Value} {E E1 : XK} {σ : L2.St} {H H1 F F1 : Hp} {Q : VK} {s : S}
/-- the frame that knows of the list P under way -/
def frP (fr : Fr) (P : Addr) (va : List V) : Fr := { fr with H0 := upd fr.H0 P (.lst va) }
theorem Sat.enter {fr : Fr} {P : Addr} {va : List V} {c1 : Int × Int} (h : Sat K fr s F σ H) (hP : H P = none) (g : Go fr.pc F H F1 H1) (sb : Same F1 H1) (cu : CupAt fr.pc F1 H1 c1) (fp : F1 P = none) (hp : H1 P = some (.lst va)) : Sat K (frP fr P va) (s.wc c1) F1 σ H1 := by
  have h1 := h.step g sb cu
  refine ⟨h1.sub, ⟨h1.go.f, fun a o pc e => ?_, fun a e => ?_, fun a ⟨u, e, z⟩ => ?_, fun a ⟨u, e, y⟩ z => ?_⟩, h1.cup, h1.len, fun i t e => ?_, h1.ap⟩
  · by_cases ha : a = P
    · subst ha
      have e : upd fr.H0 a (.lst va) a = some o := e
      rw [upd_same] at e; cases e; exact hp
    · have e : upd fr.H0 P (.lst va) a = some o := e
      rw [upd_ne ha] at e; exact h1.go.h a o pc e
  · by_cases ha : a = P
    · subst ha; rw [hp]; exact fun z => nomatch z
    · have e : upd fr.H0 P (.lst va) a ≠ none := e
      rw [upd_ne ha] at e; exact h1.go.t a e
  · by_cases ha : a = P
    · exact ⟨_, by rw [ha]; exact hp, rfl⟩
    · have e : upd fr.H0 P (.lst va) a = some u := e
      rw [upd_ne ha] at e; exact h1.go.k a ⟨u, e, z⟩
  · by_cases ha : a = P
    · subst ha; exact fp
    · have e : upd fr.H0 P (.lst va) a = some u := e
      rw [upd_ne ha] at e; exact h1.go.n a ⟨u, e, y⟩ z
  · obtain ⟨o, e1, e2⟩ := h1.sl i t e
    obtain ⟨o', e1', e2'⟩ := h.sl i t e
    rw [e1] at e1'
    cases e1'
    refine ⟨o, e1, ?_⟩
    cases t with
    | no => trivial
    | fz d => exact e2
    | ow xs =>
      obtain ⟨p, vs, ep, w, r⟩ := e2
      obtain ⟨p', vs', ep', w', _⟩ := e2'
      rw [ep] at ep'
      cases ep'
      exact ⟨p, vs, ep, ⟨w.h, w.f, by show upd fr.H0 P (.lst va) p = none; rw [upd_ne (fun z => by subst z; exact nomatch hP.symm.trans w'.h)]; exact w.n, w.c⟩, r⟩
    | od xs =>
      obtain ⟨p, vs, ep, w, r⟩ := e2
      obtain ⟨p', vs', ep', w', _⟩ := e2'
      rw [ep] at ep'
      cases ep'
      exact ⟨p, vs, ep, ⟨w.h, w.f, by show upd fr.H0 P (.lst va) p = none; rw [upd_ne (fun z => by subst z; exact nomatch hP.symm.trans w'.h)]; exact w.n, w.c⟩, r⟩
    | cup => exact e2
    | sq xs => exact e2
theorem Sat.app {fr : Fr} {P : Addr} {va vb : List V} (h : Sat K (frP fr P va) s F σ H) (pne : fr.pc ≠ some P) (fp : F P = none) : Sat K (frP fr P vb) s F σ (upd H P (.lst vb)) := by
  have gh : ∀ a o, a ≠ P → H a = some o → upd H P (.lst vb) a = some o := fun a o ha e => by rw [upd_ne ha]; exact e
  refine ⟨fun a o e => gh a o (fun z => by rw [z, fp] at e; cases e) (h.sub a o e), ⟨h.go.f, fun a o pc e => ?_, fun a e => ?_, fun a ⟨u, e, z⟩ => ?_, fun a ⟨u, e, y⟩ z => ?_⟩, fun p e => ?_, h.len, fun i t e => ?_, h.ap⟩
  · by_cases ha : a = P
    · subst ha
      have e : upd fr.H0 a (.lst vb) a = some o := e
      rw [upd_same] at e ⊢; exact e
    · have e : upd fr.H0 P (.lst vb) a = some o := e
      rw [upd_ne ha] at e
      exact gh a o ha (h.go.h a o pc (by show upd fr.H0 P (.lst va) a = some o; rw [upd_ne ha]; exact e))
  · by_cases ha : a = P
    · subst ha; rw [upd_same]; exact fun z => nomatch z
    · have e : upd fr.H0 P (.lst vb) a ≠ none := e
      rw [upd_ne ha] at e ⊢
      exact h.go.t a (by show upd fr.H0 P (.lst va) a ≠ none; rw [upd_ne ha]; exact e)
  · by_cases ha : a = P
    · exact ⟨_, by rw [ha]; exact upd_same, rfl⟩
    · have e : upd fr.H0 P (.lst vb) a = some u := e
      rw [upd_ne ha] at e
      obtain ⟨u', e', z'⟩ := h.go.k a ⟨u, by show upd fr.H0 P (.lst va) a = some u; rw [upd_ne ha]; exact e, z⟩
      exact ⟨u', gh _ _ ha e', z'⟩
  · by_cases ha : a = P
    · subst ha; exact fp
    · have e : upd fr.H0 P (.lst vb) a = some u := e
      rw [upd_ne ha] at e
      exact h.go.n a ⟨u, by show upd fr.H0 P (.lst va) a = some u; rw [upd_ne ha]; exact e, y⟩ z
  · obtain ⟨k1, k2⟩ := h.cup p e
    exact ⟨k1, gh _ _ (fun z => pne (by rw [← z]; exact e)) k2⟩
  · obtain ⟨o, e1, e2⟩ := h.sl i t e
    refine ⟨o, e1, ?_⟩
    have pn : ∀ p, upd fr.H0 P (.lst va) p = none → p ≠ P := fun p e z => by subst z; rw [upd_same] at e; cases e
    cases t with
    | no => trivial
    | fz d => exact e2
    | ow xs =>
      obtain ⟨p, vs, ep, w, r⟩ := e2
      have ne := pn p w.n
      have wn : upd fr.H0 P (.lst va) p = none := w.n
      rw [upd_ne ne] at wn
      exact ⟨p, vs, ep, ⟨gh _ _ ne w.h, w.f, by show upd fr.H0 P (.lst vb) p = none; rw [upd_ne ne]; exact wn, w.c⟩, r⟩
    | od xs =>
      obtain ⟨p, vs, ep, w, r⟩ := e2
      have ne := pn p w.n
      have wn : upd fr.H0 P (.lst va) p = none := w.n
      rw [upd_ne ne] at wn
      exact ⟨p, vs, ep, ⟨gh _ _ ne w.h, w.f, by show upd fr.H0 P (.lst vb) p = none; rw [upd_ne ne]; exact wn, w.c⟩, r⟩
    | cup => exact e2
    | sq xs => exact e2
end
def lcL2 (b : Bd) (t : M Bool) (vs1 : List Nat) (it1 : M (List D)) (b1 : Bd) (t1 : M Bool) (e : M D) (s : S) : List D → Int × Int → R (List D)
  | [], c => .ok [] c
  | x :: xs, c => match b x (s.wc c) with
    | none => .no
    | some s1 => match t s1 with
      | .ok true c1 => (match it1 (s1.wc c1) with
        | .ok ds1 c2 => (match lcL b1 t1 e (wipeS (s1.wc c2) vs1) ds1 c2 with
          | .ok out c3 => (match lcL2 b t vs1 it1 b1 t1 e s xs c3 with
            | .ok outs c4 => .ok (out ++ outs) c4
            | _ => .no)
          | _ => .no)
        | _ => .no)
      | .ok false c1 => lcL2 b t vs1 it1 b1 t1 e s xs c1
      | _ => .no
def mLc2 (vs : List Nat) (it : M (List D)) (b : Bd) (t : M Bool) (vs1 : List Nat) (it1 : M (List D)) (b1 : Bd) (t1 : M Bool) (e : M D) : M D := bnd it fun ds => fun s => match lcL2 b t vs1 it1 b1 t1 e (wipeS s vs) ds s.c with
  | .ok out c => if lenOk out = true then .ok (.list out) c else .no
  | _ => .no
section
variable {K : PySem.W.Frag} {mg : Str → Option Value} {E E1 : XK} {σ : L2.St} {H : Hp} {Q : VK}
/-- the list P under way -/
structure Lq (K : PySem.W.Frag) (fr : Fr) (F' H' : Hp) (P : Addr) (F1 H1 : Hp) (acc : List D) (vacc : List V) : Prop where
  g : Go fr.pc F' H' F1 H1
  fp : F1 P = none
  hp : H1 P = some (.lst vacc)
  ra : RpL K F1 vacc acc
theorem Lq.go {fr : Fr} {F' H' F1 H1 F2 H2 : Hp} {P : Addr} {acc : List D} {vacc : List V} (h : Lq K fr F' H' P F1 H1 acc vacc) (pne : fr.pc ≠ some P) (g : Go fr.pc F1 H1 F2 H2) : Lq K fr F' H' P F2 H2 acc vacc :=
  ⟨h.g.trans g, g.n P ⟨_, h.hp, rfl⟩ h.fp, g.h P _ pne h.hp, h.ra.mono g.f⟩
theorem Lq.app {fr : Fr} {F' H' F1 H1 : Hp} {P : Addr} {acc : List D} {vacc : List V} {d : D} {v : V} (h : Lq K fr F' H' P F1 H1 acc vacc) (hP : H' P = none) (r : Rp K F1 v d) : Lq K fr F' H' P F1 (upd H1 P (.lst (vacc ++ [v]))) (acc ++ [d]) (vacc ++ [v]) := by
  have gh : ∀ a o, a ≠ P → H1 a = some o → upd H1 P (.lst (vacc ++ [v])) a = some o := fun a o ha e => by rw [upd_ne ha]; exact e
  refine ⟨⟨h.g.f, fun a o pc e => gh a o (ne_of_none e hP) (h.g.h a o pc e), fun a ha => ?_, (fun a ha => by
    by_cases hb : a = P
    · exact ⟨_, by rw [hb]; exact upd_same, rfl⟩
    · obtain ⟨u, e, z⟩ := h.g.k a ha
      exact ⟨u, by rw [upd_ne hb]; exact e, z⟩), h.g.n⟩, h.fp, upd_same, h.ra.append (.cons r .nil)⟩
  by_cases hb : a = P
  · subst hb; rw [upd_same]; exact fun z => nomatch z
  · rw [upd_ne hb]; exact h.g.t a ha
theorem rd_lc2 {vs idx vs1 idx1 : List Nat} (hi : ∀ j ∈ idx, j ∈ vs) (hi1 : ∀ j ∈ idx1, j ∈ vs1) {it it1 : M (List D)} {b b1 : Bd} {t t1 : M Bool} {e : M D} (h : rdF K mg E (mLc2 vs it b t vs1 it1 b1 t1 e) σ H Q) :
    tLc2 (rdI K mg E it) (gD K b idx) (rdT K mg E1 t) (rdI K mg E1 it1) (gD K b1 idx1) (rdT K mg E1 t1) (rdE K mg E1 e) vs vs1 σ H Q := by
  obtain ⟨fr, s, F, hs, q⟩ := h
  refine ⟨fr, s, F, hs, (Post.bnd q).mono fun ds c F' H' g sb cu q1 J hJ P hP => ?_⟩
  cases e1 : lcL2 b t vs1 it1 b1 t1 e (wipeS (s.wc c) vs) ds c with
  | err x c' => simp only [e1] at q1; exact q1.elim
  | no => simp only [e1] at q1; exact q1.elim
  | ok out c3 =>
    simp only [e1] at q1
    by_cases ho : lenOk out = true
    · rw [if_pos ho] at q1
      have hs1 := (hs.step g sb cu).wipe vs
      have pne : fr.pc ≠ some P := fun z => by
        have := (cu P z).2
        rw [hP] at this
        cases this
      have nn : H P = none := by
        cases q : H P with
        | none => rfl
        | some o => exact absurd hP (g.t P (by rw [q]; exact fun z => nomatch z))
      have lim : ∀ (acc : List D) (d : D) (r : List D), acc ++ (d :: r) = out → acc.length < sizeLine := fun acc d r eo => by
        have := lenOk_le ho
        rw [← eo, List.length_append, List.length_cons] at this
        omega
      generalize hSW : wipeS (s.wc c) vs = SW at e1 hs1
      refine ⟨fun i m H1 => m = ds.length - i ∧ i ≤ ds.length ∧ ∃ F1 acc vacc ci rest, Lq K fr F' H' P F1 H1 acc vacc ∧ Same F1 H1 ∧ CupAt fr.pc F1 H1 ci ∧ lcL2 b t vs1 it1 b1 t1 e SW (ds.drop i) ci = .ok rest c3 ∧ acc ++ rest = out,
        ⟨ds.length, by simp, Nat.zero_le _, F', [], [], c, out, ⟨Go.newH hP, sb.free hP, upd_same, .nil⟩, same_updH sb hP, fun p hp => ?_, e1, rfl⟩, ?_⟩
      · obtain ⟨k1, k2⟩ := cu p hp
        exact ⟨k1, by rw [upd_ne (ne_of_none k2 hP)]; exact k2⟩
      rintro i m H1 ⟨rfl, hil, F1, acc, vacc, ci, rest, L, sb1, cu1, el, eo⟩
      by_cases hlt : i < ds.length
      · right
        rw [List.drop_eq_getElem_cons hlt] at el
        unfold lcL2 at el
        refine ⟨hJ.go F1 H1 i L.g.f sb1 hlt, fun H2 => ∃ F1 acc vacc ci rest, Lq K fr F' H' P F1 H2 acc vacc ∧ Same F1 H2 ∧ CupAt fr.pc F1 H2 ci ∧ lcL2 b t vs1 it1 b1 t1 e SW (ds.drop (i + 1)) ci = .ok rest c3 ∧ acc ++ rest = out,
          fun H2 k => ⟨ds.length - (i + 1), by omega, rfl, hlt, k⟩, fun x H2 y => ?_⟩
        obtain ⟨d, F2, e2, g2, sb2, r2⟩ := hJ.yl F1 H1 i x H2 L.g.f sb1 y hlt
        rw [List.getElem?_eq_getElem hlt] at e2
        cases e2
        have L2' := L.go pne g2.weak
        have hsw := hs1.enter (va := vacc) hP L2'.g sb2 (cu1.go g2) L2'.fp L2'.hp
        cases e3 : b ds[i] (SW.wc ci) with
        | none => rw [e3] at el; cases el
        | some s2 =>
          simp only [e3] at el
          refine ⟨frP fr P vacc, _, F2, _, hsw, r2, s2, e3, fun σ2 o2 hs2 => ⟨wipe_only o2 hi, frP fr P vacc, s2, F2, hs2, ?_⟩⟩
          cases e4 : t s2 with
          | err _ _ => simp only [e4] at el; cases el
          | no => simp only [e4] at el; cases el
          | ok kb c1 =>
            intro F3 H3 g3 sb3 cu3
            have L3 := L2'.go pne g3
            cases kb with
            | false =>
              simp only [e4] at el
              exact L2.iteF ⟨F3, acc, vacc, c1, rest, L3, sb3, cu3, el, eo⟩
            | true =>
              simp only [e4] at el
              have hs3 := hs2.step g3 sb3 cu3
              cases e5 : it1 (s2.wc c1) with
              | err _ _ => simp only [e5] at el; cases el
              | no => simp only [e5] at el; cases el
              | ok ds1 c2 =>
                simp only [e5] at el
                cases e6 : lcL b1 t1 e (wipeS (s2.wc c2) vs1) ds1 c2 with
                | err _ _ => simp only [e6] at el; cases el
                | no => simp only [e6] at el; cases el
                | ok out1 c4 =>
                  simp only [e6] at el
                  cases e7 : lcL2 b t vs1 it1 b1 t1 e SW (ds.drop (i + 1)) c4 with
                  | err _ _ => simp only [e7] at el; cases el
                  | no => simp only [e7] at el; cases el
                  | ok outs c5 =>
                    simp only [e7] at el
                    cases el
                    refine L2.iteT ⟨frP fr P vacc, _, F3, hs3, ?_⟩
                    show Post mg E1 (frP fr P vacc) F3 H3 (it1 (s2.wc c1)) _
                    rw [e5]
                    intro F4 H4 g4 sb4 cu4 J1 hJ1
                    have L4 := L3.go pne g4
                    refine ⟨fun j k H1 => k = ds1.length - j ∧ j ≤ ds1.length ∧ ∃ F1 acc vacc cj rest1, Sat K (frP fr P vacc) (s2.wc cj) F1 σ2 H1 ∧ Lq K fr F' H' P F1 H1 acc vacc ∧ Same F4 F1 ∧ lcL b1 t1 e (wipeS (s2.wc c2) vs1) (ds1.drop j) cj = .ok rest1 c4 ∧ acc ++ (rest1 ++ outs) = out,
                      ⟨ds1.length, by simp, Nat.zero_le _, F4, acc, vacc, c2, out1, hs3.step g4 sb4 cu4, L4, Same.refl _, e6, eo⟩, ?_⟩
                    rintro j k H5 ⟨rfl, hjl, F5, acc5, vacc5, cj, rest1, hs5, L5, s45, el1, eo1⟩
                    by_cases hlt1 : j < ds1.length
                    · right
                      rw [List.drop_eq_getElem_cons hlt1] at el1
                      unfold lcL at el1
                      refine ⟨hJ1.go F5 H5 j s45 hs5.sub hlt1, fun H2 => ∃ F1 acc vacc cj rest1, Sat K (frP fr P vacc) (s2.wc cj) F1 σ2 H2 ∧ Lq K fr F' H' P F1 H2 acc vacc ∧ Same F4 F1 ∧ lcL b1 t1 e (wipeS (s2.wc c2) vs1) (ds1.drop (j + 1)) cj = .ok rest1 c4 ∧ acc ++ (rest1 ++ outs) = out,
                        fun H2 k => ⟨ds1.length - (j + 1), by omega, rfl, hlt1, k⟩, fun x H6 y => ?_⟩
                      obtain ⟨d6, F6, e8, g6, sb6, r6⟩ := hJ1.yl F5 H5 j x H6 s45 hs5.sub y hlt1
                      rw [List.getElem?_eq_getElem hlt1] at e8
                      cases e8
                      have L6 := L5.go pne g6.weak
                      have cu6 : CupAt fr.pc F6 H6 cj := hs5.cup.go g6
                      have hs6 : Sat K (frP fr P vacc5) (s2.wc cj) F6 σ2 H6 := hs5.step (c := cj) g6.weak sb6 cu6
                      have hw6 := hs6.wipe vs1
                      have ew : wipeS (s2.wc cj) vs1 = (wipeS (s2.wc c2) vs1).wc cj := by rw [wipeS_wc]
                      rw [ew] at hw6
                      cases e9 : b1 ds1[j] ((wipeS (s2.wc c2) vs1).wc cj) with
                      | none => rw [e9] at el1; cases el1
                      | some s3 =>
                        simp only [e9] at el1
                        refine ⟨frP fr P vacc5, _, F6, _, hw6, r6, s3, e9, fun σ3 o3 hs3' => ⟨wipe_only o3 hi1, frP fr P vacc5, s3, F6, hs3', ?_⟩⟩
                        cases e10 : t1 s3 with
                        | err _ _ => simp only [e10] at el1; cases el1
                        | no => simp only [e10] at el1; cases el1
                        | ok kb1 c6 =>
                          intro F7 H7 g7 sb7 cu7
                          have L7 := L6.go pne g7
                          have hs7 : Sat K (frP fr P vacc5) (s2.wc c6) F7 σ2 H7 := hs6.step (c := c6) g7 sb7 cu7
                          cases kb1 with
                          | false =>
                            simp only [e10] at el1
                            exact L2.iteF ⟨F7, acc5, vacc5, c6, rest1, hs7, L7, (s45.trans g6.f).trans g7.f, el1, eo1⟩
                          | true =>
                            simp only [e10] at el1
                            cases e11 : e (s3.wc c6) with
                            | err _ _ => simp only [e11] at el1; cases el1
                            | no => simp only [e11] at el1; cases el1
                            | ok d7 c7 =>
                              simp only [e11] at el1
                              cases e12 : lcL b1 t1 e (wipeS (s2.wc c2) vs1) (ds1.drop (j + 1)) c7 with
                              | err _ _ => simp only [e12] at el1; cases el1
                              | no => simp only [e12] at el1; cases el1
                              | ok rest2 c8 =>
                                simp only [e12] at el1
                                cases el1
                                refine L2.iteT ⟨frP fr P vacc5, _, F7, hs3'.step g7 sb7 cu7, ?_⟩
                                show Post mg E1 (frP fr P vacc5) F7 H7 (e (s3.wc c6)) _
                                rw [e11]
                                intro F8 H8 g8 sb8 cu8 v8 r8
                                have L8 := L7.go pne g8
                                have hs8 : Sat K (frP fr P vacc5) (s2.wc c7) F8 σ2 H8 := hs7.step (c := c7) g8 sb8 cu8
                                refine ⟨vacc5, L8.hp, ?_, F8, acc5 ++ [d7], vacc5 ++ [v8], c7, rest2, hs8.app pne L8.fp, L8.app hP r8, ((s45.trans g6.f).trans g7.f).trans g8.f, e12, by rw [List.append_assoc]; exact eo1⟩
                                rw [L8.ra.length]
                                exact lim _ _ _ eo1
                    · left
                      have ej : j = ds1.length := by omega
                      subst ej
                      rw [List.drop_length] at el1
                      cases el1
                      exact ⟨hJ1.st F5 H5 s45 hs5.sub, F5, acc5, vacc5, _, outs, L5, hs5.sub, hs5.cup, e7, eo1⟩
      · left
        have ei : i = ds.length := by omega
        subst ei
        rw [List.drop_length] at el
        cases el
        rw [List.append_nil] at eo
        subst eo
        exact ⟨hJ.st F1 H1 L.g.f sb1, q1 F1 H1 L.g sb1 cu1 _ ⟨P, vacc, rfl, nn, L.fp, L.hp, L.ra⟩⟩
    · rw [if_neg ho] at q1
      exact q1.elim
end
section
variable {X : Cx} {E : XK} {elt tg it tg1 it1 : Expr} {ifs ifs1 : List Expr} {scope : Scope} {pos p px : Pos} {x : Str} {mit mit1 : M (List D)} {bd bd1 : Bd} {idx idx1 : List Nat} {ta ta1 : M Bool} {m : M D}
theorem pf_lc2 (own : List (Str × Nat)) (vs1 : List Nat) (hc : X.calm = true) (hN : X.N.Nodup) (hi : PID X E tg it mit) (ok : BlkOk X.N X.env.scope scope own)
    (hg : ∀ (s : Shared) (H : Hp) (C : Addr) (cl : List (Str × Addr)) (fp : List Addr), PGD (X.blk s H scope (compEnvC scope cl C X.env) fp) tg bd idx) (ht : ∀ (s : Shared) (H : Hp) (C : Addr) (cl : List (Str × Addr)) (fp : List Addr), PTsD (X.blk s H scope (compEnvC scope cl C X.env) fp) L2.E0 ifs ta)
    (hi1 : ∀ (s : Shared) (H : Hp) (C : Addr) (cl : List (Str × Addr)) (fp : List Addr), PID (X.blk s H scope (compEnvC scope cl C X.env) fp) L2.E0 tg1 it1 mit1)
    (hg1 : ∀ (s : Shared) (H : Hp) (C : Addr) (cl : List (Str × Addr)) (fp : List Addr), PGD (X.blk s H scope (compEnvC scope cl C X.env) fp) tg1 bd1 idx1) (ht1 : ∀ (s : Shared) (H : Hp) (C : Addr) (cl : List (Str × Addr)) (fp : List Addr), PTsD (X.blk s H scope (compEnvC scope cl C X.env) fp) L2.E0 ifs1 ta1)
    (he : ∀ (s : Shared) (H : Hp) (C : Addr) (cl : List (Str × Addr)) (fp : List Addr), PD (X.blk s H scope (compEnvC scope cl C X.env) fp) L2.E0 elt m) (hx : ∀ j ∈ idx, j ∈ own.map (·.2) := by decide) (hx1 : ∀ j ∈ idx1, j ∈ vs1 := by decide) (hv : ∀ j ∈ vs1, j ∈ own.map (·.2) := by decide)
    (hs : ∀ x, foldedSetIterable it X.env x = pure x := by intro _; rfl) (hs1 : ∀ env x, foldedSetIterable it1 env x = pure x := by intro _ _; rfl) :
    PF X E (.ListComp elt [⟨tg, it, ifs, 0⟩, ⟨tg1, it1, ifs1, 0⟩] scope pos) (mLc2 (own.map (·.2)) mit bd ta vs1 mit1 bd1 ta1 m) :=
  PE.imp (pe_lc2 hc hN hi ok hv hg ht hi1 hg1 ht1 he hs hs1) fun _ _ _ => rd_lc2 hx hx1
theorem st_setLc2 (i : Nat) (own : List (Str × Nat)) (vs1 : List Nat) (hc : X.calm = true) (hN : X.N.Nodup) (hsw : swapsWith (.ListComp elt [⟨tg, it, ifs, 0⟩, ⟨tg1, it1, ifs1, 0⟩] scope p) (some (.Name x px)) pos.line X.env = pure true) (hi : PID X E tg it mit) (ok : BlkOk X.N X.env.scope scope own)
    (hg : ∀ (s : Shared) (H : Hp) (C : Addr) (cl : List (Str × Addr)) (fp : List Addr), PGD (X.blk s H scope (compEnvC scope cl C X.env) fp) tg bd idx) (ht : ∀ (s : Shared) (H : Hp) (C : Addr) (cl : List (Str × Addr)) (fp : List Addr), PTsD (X.blk s H scope (compEnvC scope cl C X.env) fp) L2.E0 ifs ta)
    (hi1 : ∀ (s : Shared) (H : Hp) (C : Addr) (cl : List (Str × Addr)) (fp : List Addr), PID (X.blk s H scope (compEnvC scope cl C X.env) fp) L2.E0 tg1 it1 mit1)
    (hg1 : ∀ (s : Shared) (H : Hp) (C : Addr) (cl : List (Str × Addr)) (fp : List Addr), PGD (X.blk s H scope (compEnvC scope cl C X.env) fp) tg1 bd1 idx1) (ht1 : ∀ (s : Shared) (H : Hp) (C : Addr) (cl : List (Str × Addr)) (fp : List Addr), PTsD (X.blk s H scope (compEnvC scope cl C X.env) fp) L2.E0 ifs1 ta1)
    (he : ∀ (s : Shared) (H : Hp) (C : Addr) (cl : List (Str × Addr)) (fp : List Addr), PD (X.blk s H scope (compEnvC scope cl C X.env) fp) L2.E0 elt m) (hx : ∀ j ∈ idx, j ∈ own.map (·.2) := by decide) (hx1 : ∀ j ∈ idx1, j ∈ vs1 := by decide) (hv : ∀ j ∈ vs1, j ∈ own.map (·.2) := by decide)
    (hy : X.N[i]? = some x := by rfl) (hyl : X.env.scope.names.lookup x = some .local := by rfl)
    (hs : ∀ x, foldedSetIterable it X.env x = pure x := by intro _; rfl) (hs1 : ∀ env x, foldedSetIterable it1 env x = pure x := by intro _ _; rfl) :
    PSD X E (.Assign [.Name x px] (.ListComp elt [⟨tg, it, ifs, 0⟩, ⟨tg1, it1, ifs1, 0⟩] scope p) pos) (mSetF i (mLc2 (own.map (·.2)) mit bd ta vs1 mit1 bd1 ta1 m)) :=
  PS.imp (ps_setLc2 hc hN hy hyl hsw hi ok hv hg ht hi1 hg1 ht1 he hs hs1) fun D σ H q => by
    have q := rd_setF q
    exact rd_lc2 (E1 := L2.E0) hx hx1 q
end
section
variable (s : S)
@[simp] theorem mLc2_ap (vs : List Nat) (it : M (List D)) (b : Bd) (t : M Bool) (vs1 : List Nat) (it1 : M (List D)) (b1 : Bd) (t1 : M Bool) (e : M D) : mLc2 vs it b t vs1 it1 b1 t1 e s = bnd it (fun ds => fun s => match lcL2 b t vs1 it1 b1 t1 e (wipeS s vs) ds s.c with
  | .ok out c => if lenOk out = true then .ok (.list out) c else .no
  | _ => .no) s := (rfl)
end
end Pu
end

noncomputable section
set_option Elab.async false
set_option linter.all false
set_option maxRecDepth 100000
set_option maxHeartbeats 4000000
/-! Puz: enumerate and zip of lists, tuples, texts, any with any. -/
namespace Pu
open PySem PySem.Spec PyProof.Rows L2
/-- what is walked: the list at a, the tuple at a, a text -/
inductive SK where
  | l (a : Addr) | t (a : Addr) | s (x : Str)
def SK.its (K : PySem.W.Frag) (H : Hp) : SK → List V → Prop
  | .l a, vs => SqL K H a vs
  | .t a, vs => SqT K H a vs
  | .s x, vs => vs = (cps x).map fun c => .str ⟨#[c]⟩
def SK.val : SK → V
  | .l a => .ref a | .t a => .ref a | .s x => .str x
def SK.adr : SK → List Addr
  | .l a => [a] | .t a => [a] | .s _ => []
def SK.here (h : Heap) (it : Addr) (i : Nat) : SK → Prop
  | .l a => h.IsListIter it a i
  | .t a => h.IsTupleIter it a i
  | .s x => ∃ t, h.IsStrIter it (strIterType x) x t i
theorem SK.inj {X : Cx} {pins : List (Addr × Obj)} {σ : L2.St} {H : Hp} {s : Shared} (I : Inv X pins σ H s) : ∀ {k : SK} {xs ys : List V}, k.its X.K H xs → k.its X.K H ys → xs = ys
  | .l _, _, _, h1, h2 => I.list_inj h1 h2
  | .t _, _, _, h1, h2 => I.tuple_inj h1 h2
  | .s _, _, _, h1, h2 => by have h1 : _ = _ := h1; have h2 : _ = _ := h2; rw [h1, h2]
theorem SK.obj {h : Heap} {it : Addr} {i : Nat} : ∀ {k : SK}, k.here h it i → ∃ o fs, h.get? it = some o ∧ o.data = .fields fs
  | .l _, ⟨o, e, _, d⟩ => ⟨o, _, e, d⟩
  | .t _, ⟨o, e, _, d⟩ => ⟨o, _, e, d⟩
  | .s _, ⟨_, o, e, _, d⟩ => ⟨o, _, e, d⟩
theorem SK.keep {h h' : Heap} {it : Addr} {i : Nat} (k1 : ∀ o, h.get? it = some o → h'.get? it = some o) : ∀ {k : SK}, k.here h it i → k.here h' it i
  | .l _, ⟨o, e, r⟩ => ⟨o, k1 _ e, r⟩
  | .t _, ⟨o, e, r⟩ => ⟨o, k1 _ e, r⟩
  | .s _, ⟨tk0, o, e, r⟩ => ⟨tk0, o, k1 _ e, r⟩
theorem sk_back {xs : List V} {us : List Value} (r : Vals xs us) {j : Nat} {u : Value} (h : us[j]? = some u) : ∃ x, xs[j]? = some x ∧ RelV x u := by
  have hl := (List.getElem?_eq_some_iff.mp h).1
  have hl' : j < xs.length := by rw [r.length]; exact hl
  obtain ⟨u', h1, h2⟩ := r.get (List.getElem?_eq_getElem hl')
  rw [h] at h1
  cases h1
  exact ⟨_, List.getElem?_eq_getElem hl', h2⟩
/-- its iterator draws its items -/
theorem SK.draws {X : Cx} {pins : List (Addr × Obj)} {σ : L2.St} {H : Hp} {s : Shared} {A : Around} (hh : A.handled = none) (I : Inv X pins σ H s) {it : Addr} {i : Nat} : ∀ {k : SK} {vs : List V}, k.its X.K H vs → k.here s.heap it i → it ∉ k.adr →
    ∃ (P : Nat → Value → Prop) (St : Nat → Heap → Prop), Draws X.prog X.w A it (it :: k.adr) vs.length P St ∧ St i s.heap ∧ (∀ j v, P j v → ∃ x, vs[j]? = some x ∧ RelV x v) ∧ ∀ j h, St j h → k.here h it j
  | .l a, vs, hv, hi, hn => by
    obtain ⟨its, rv, p, _⟩ := I.list hv
    have D := Draws.list (prog := X.prog) (w := X.w) hh it a (fun e => hn (by simp [SK.adr, e])) its.toArray
    have e : its.toArray.size = vs.length := by simp [rv.length]
    rw [e] at D
    exact ⟨_, _, D, ⟨hi, p.isList⟩, fun j v h => sk_back rv (by simpa using h), fun j h st => st.1⟩
  | .t a, vs, hv, hi, hn => by
    obtain ⟨its, rv, p, _⟩ := I.tuple hv
    have D := Draws.tuple (prog := X.prog) (w := X.w) hh it a (fun e => hn (by simp [SK.adr, e])) its.toArray
    have e : its.toArray.size = vs.length := by simp [rv.length]
    rw [e] at D
    exact ⟨_, _, D, ⟨hi, p⟩, fun j v h => sk_back rv (by simpa using h), fun j h st => st.1⟩
  | .s x, vs, hv, ⟨tk0, hi⟩, hn => by
    have hv : vs = (cps x).map fun c => V.str ⟨#[c]⟩ := hv
    subst hv
    have D := Draws.text (prog := X.prog) (w := X.w) hh it x tk0
    have e : x.cps.size = ((cps x).map fun c => V.str ⟨#[c]⟩).length := by simp [cps]
    rw [e] at D
    refine ⟨_, _, D, hi, fun j v ⟨c, u, h1, h2⟩ => ⟨.str ⟨#[c]⟩, ?_, u, h2⟩, fun j h st => ⟨tk0, st⟩⟩
    rw [List.getElem?_map]
    have : (cps x)[j]? = some c := by simpa [cps] using h1
    rw [this]; rfl
theorem SK.lt {X : Cx} {pins : List (Addr × Obj)} {σ : L2.St} {H : Hp} {s : Shared} (I : Inv X pins σ H s) : ∀ {k : SK} {vs : List V}, k.its X.K H vs → ∀ b ∈ k.adr, b < s.heap.objs.size
  | .l a, vs, hv, b, hb => by
    have hb : b = a := by simpa [SK.adr] using hb
    subst hb
    obtain ⟨its, rv, p, _⟩ := I.list hv
    exact p.lt
  | .t a, vs, hv, b, hb => by
    have hb : b = a := by simpa [SK.adr] using hb
    subst hb
    obtain ⟨its, rv, p, _⟩ := I.tuple hv
    obtain ⟨o, ho, _⟩ := p
    exact Heap.lt_size ho
  | .s x, vs, hv, b, hb => by simp [SK.adr] at hb
/-- its iterator begins -/
theorem SK.begins {X : Cx} {pins : List (Addr × Obj)} {σ : L2.St} {H : Hp} {s : Shared} (I : Inv X pins σ H s) : ∀ {k : SK} {vs : List V} {u : Value}, k.its X.K H vs → RelV k.val u →
    ∃ (o : Obj) (B : Heap → Prop), Begins u o B ∧ B s.heap ∧ ∀ (h : Heap) it, h.get? it = some o → k.here h it 0
  | .l a, vs, u, hv, hr => by
    cases hr
    obtain ⟨its, rv, p, _⟩ := I.list hv
    exact ⟨_, _, begins_list a its.toArray, p.isList, fun h it e => ⟨_, e, rfl, rfl⟩⟩
  | .t a, vs, u, hv, hr => by
    cases hr
    obtain ⟨its, rv, p, _⟩ := I.tuple hv
    exact ⟨_, _, begins_tuple a its.toArray, p, fun h it e => ⟨_, e, rfl, rfl⟩⟩
  | .s x, vs, u, hv, ⟨tk0, hr⟩ => by
    subst hr
    exact ⟨_, _, begins_text x tk0, trivial, fun h it e => ⟨tk0, _, e, rfl, rfl⟩⟩
/-! ### enumerate -/
def IteG (K : PySem.W.Frag) (k : SK) : It :=
  ⟨fun i H => ∃ (xs : List V) (x : V), k.its K H xs ∧ xs[i]? = some x, fun i H v H' => ∃ T x, v = .ref T ∧ H T = none ∧ H' = upd H T (.tup [.int (i : Nat), x]) ∧ ∀ xs, k.its K H xs → xs[i]? = some x, fun i H => ∃ xs : List V, k.its K H xs ∧ xs.length = i⟩
theorem turn_enumG {P : Program} {w : World} {K : PySem.W.Frag} {elts : List Expr} {kk : Nat} {tpos : Pos} (k : SK) (e it : Addr) (hne : e ≠ it) (he1 : e ∉ k.adr) (hi1 : it ∉ k.adr) :
    Turn P w K (.Tuple elts kk tpos) (IteG K k) [e, it] e (fun i h => (∃ old, IsEnum h e it ((i : Nat) : Int) old) ∧ k.here h it i) where
  mem := by simp
  obj := fun i h st b hb => by
    obtain ⟨⟨old, he⟩, st⟩ := st
    obtain ⟨o, fs, ho, hd⟩ := SK.obj st
    have e' : b = e ∨ b = it := by simpa using hb
    rcases e' with z | z
    · rw [z]; exact ⟨_, he, fun v q => nomatch q⟩
    · rw [z]; exact ⟨o, ho, fun v q => by rw [hd] at q; cases q⟩
  keep := fun i h h' st k => let ⟨⟨old, he⟩, hi⟩ := st; ⟨⟨old, k e (by simp) _ he⟩, SK.keep (fun o q => k it (by simp) o q) hi⟩
  item := by
    intro X hP hw hK hc i pins s σ H E I hf st hg
    subst hP hw hK
    obtain ⟨⟨old, he⟩, hit⟩ := st
    obtain ⟨xs, x, hq, hx⟩ := hg
    obtain ⟨P, St, D, st0, hPv, hSt⟩ := SK.draws (A := X.A.in1) (I.ok.hd hc) I hq hit hi1
    have hel : e < s.heap.objs.size := Heap.lt_size he
    refine wpAny_pyNext_enum_itemD D he st0 (List.getElem?_eq_some_iff.mp hx).1 hne (by simp [hne, he1]) fun u h' tk hu ho hit' hT hsz hk => ?_
    obtain ⟨x', hx', ru⟩ := hPv _ _ hu
    rw [hx] at hx'
    cases hx'
    refine ⟨_, rfl, wpAny_letOwnedTupleGo_enum (s := { s with heap := h', toks := tk + 1 }) ho fun h'' he' sb => ?_⟩
    have hT2 : h''.get? s.heap.objs.size = some { cls := .type "tuple", data := .seq #[.int i tk, u] } := (sb.2 _ (Nat.ne_of_gt hel)).trans hT
    have new : ObjOk X.prog X.w (upd H s.heap.objs.size (.tup [.int (i : Nat), x])) h'' s.heap.objs.size (.tup [.int (i : Nat), x]) :=
      ⟨by show 2 ≤ sizeLine; decide, [.int i tk, u], .cons ⟨_, rfl⟩ (.cons ru .nil), ⟨_, hT2, rfl, _, rfl⟩⟩
    have I1 : Inv X pins σ (upd H s.heap.objs.size (.tup [.int (i : Nat), x])) { s with heap := h'', toks := tk + 1 } :=
      I.turnedNew (ch := [e, it]) (fun b ob hb q => (sb.2 b (fun z => hb (by simp [z]))).trans (hk b ob (fun z => hb (by simp [z])) (fun z => hb (by simp [z])) q)) hf (Nat.le_refl _) new
    refine ⟨.ref s.heap.objs.size, _, I1, rfl, ⟨_, x, rfl, I.hok.fresh (Nat.le_refl _), rfl, fun ys hy => by rw [SK.inj I hy hq]; exact hx⟩, ⟨⟨u, ?_⟩, SK.keep (fun o q => (sb.2 it (Ne.symm hne)).trans q) (hSt _ _ hit')⟩, fun b hb => ?_⟩
    · have e1 : ((i + 1 : Nat) : Int) = (i : Int) + 1 := by omega
      rw [e1]; exact he'
    · have hb' : b < s.heap.objs.size := by
        have e' : b = e ∨ b = it := by simpa using hb
        rcases e' with z | z
        · rw [z]; exact hel
        · rw [z]; obtain ⟨_, _, q, _⟩ := SK.obj hit; exact Heap.lt_size q
      rw [upd_ne (Nat.ne_of_lt hb')]
      exact (hf b hb).1
  done := by
    intro X hP hw hK hc i pins s σ H E I hf st hg
    subst hP hw hK
    obtain ⟨⟨old, he⟩, hit⟩ := st
    obtain ⟨xs, hq, hx⟩ := hg
    obtain ⟨P, St, D, st0, hPv, hSt⟩ := SK.draws (A := X.A.in1) (I.ok.hd hc) I hq hit hi1
    rw [← hx] at st0
    obtain ⟨f0, f1, f2, f3, f4, f5⟩ := hf it (by simp)
    exact wpAny_pyNext_enum_endD D he st0 fun h' eb => ⟨rfl, I.turned (t' := s.toks) (fun b o hb q => eb b o hb q) f0 f1 f3 f4 f5⟩
  self := fun A i s Q E st h => let ⟨⟨_, he⟩, _⟩ := st; wpAny_pyIter_enum he h
set_option maxHeartbeats 1000000 in
theorem meets_enumerate_newB1 {v : Value} {o : Obj} {H : Heap → Prop} (B : Begins v o H) :
    Meets (Builtin.«enumerate.__new__» ⟨[.type "enumerate", v], []⟩) (fun _ R s => H s.heap ∧
      R (.ok (.ret (.ref (s.heap.push o).objs.size))) { s with heap := (s.heap.push o).push { cls := .type "enumerate", data := .fields #[.none, .bool false, .ref s.heap.objs.size, rawInt 0, .none, .none] } }) :=
  .of_wp fun prog w A R s h => by
    obtain ⟨hp, g, d, tk, os⟩ := s; obtain ⟨h1, h⟩ := h
    have hsub := sub_enumerate
    have q1 : ∀ {A' : Around} {E : Value → Shared → Prop} {Q : Value → Shared → Prop}, Q (.ref hp.objs.size) ⟨hp.push o, g, d, tk, os⟩ → wpAny (model prog w) A' (pyIter v) Q E ⟨hp, g, d, tk, os⟩ :=
      fun q => B.iter prog w _ _ ⟨hp, g, d, tk, os⟩ _ h1 q
    wp_walk using q1
    refine wpAny_stack_any fun st => wpAny_pure ?_
    split
    · rename_i c _ _ _ _ _
      cases (c == Value.type "enumerate")
      · wp_walk using q1
        exact ⟨_, rfl, h⟩
      · wp_walk using q1
        exact ⟨_, rfl, h⟩
    · wp_walk using q1
      exact ⟨_, rfl, h⟩
section
variable {prog : Program} {w : World} {A : Around} {E : Value → Shared → Prop} {s : Shared}
theorem enum_begins1 {v : Value} {o : Obj} {H : Heap → Prop} {Q : Value → Shared → Prop} (B : Begins v o H) (h1 : H s.heap)
    (h : ∀ h', IsEnum h' (s.heap.objs.size + 1) s.heap.objs.size 0 .none → h'.get? s.heap.objs.size = some o → h'.objs.size = s.heap.objs.size + 2 →
      (∀ b o, s.heap.get? b = some o → h'.get? b = some o) → Q (.ref (s.heap.objs.size + 1)) { s with heap := h' }) :
    wpAny (model prog w) A (call (.type "enumerate") [v]) Q E s := by
  refine callType_new F.called_enumerate (by decide) (F.typeCall_enumerate_1 _) (F.newCall_enumerate_1 _) (fun obj => F.args_object_init_2 obj _) F.entry_enumerate_new
    (meets_enumerate_newB1 B) ⟨h1, ?_⟩
  have hz : (s.heap.push o).objs.size = s.heap.objs.size + 1 := Heap.size_push ..
  show _ ∧ _
  rw [hz]
  have he : IsEnum ((s.heap.push o).push { cls := .type "enumerate", data := .fields #[.none, .bool false, .ref s.heap.objs.size, rawInt 0, .none, .none] }) (s.heap.objs.size + 1) s.heap.objs.size 0 .none := by
    have := Heap.get?_push_size (s.heap.push o) (o := { cls := .type "enumerate", data := .fields #[.none, .bool false, .ref s.heap.objs.size, rawInt 0, .none, .none] }) rfl
    rw [hz] at this; exact this
  refine ⟨⟨_, he, rfl⟩, h _ he (Heap.get?_push_of_some _ (Heap.get?_push_size _ B.free)) (by rw [Heap.size_push, hz]) fun b o x => Heap.get?_push_of_some _ (Heap.get?_push_of_some _ x)⟩
end
def iEnumG (K : PySem.W.Frag) (ta : TA) : TI := fun σ H R => ta σ H fun vs H1 => ∃ k xs, vs = [SK.val k] ∧ k.its K H1 xs ∧ R (IteG K k) H1
theorem pi_enumG {X : Cx} {e : Expr} {ta : TA} {p pos tpos : Pos} {elts : List Expr} {kk : Nat} (hg : Gl X "enumerate") (hm : X.mg "enumerate" = none) (ha : PA X [e] ta) (hs : starEach [e] X.env = [(false, eval e X.env)] := by rfl) :
    PI X (.Tuple elts kk tpos) (.Call (.Name "enumerate" p) [e] [] pos) (iEnumG X.K ta) := by
  refine ⟨fun pins s σ H R I h => ?_⟩
  refine Call_ (ld_blt I hg hm boot_enumerate (PyProof.Rows.callWith_type1 (thn (ha.run pos pins s σ H _ I h) fun us s1 ⟨vs, H1, I1, r1, q1⟩ => ?_) hs rfl))
  obtain ⟨k, xs, ex, hq, q⟩ := q1
  subst ex
  cases r1 with
  | cons r rr =>
    cases rr
    obtain ⟨o, B, hB, b0, hb⟩ := SK.begins I1 hq r
    have lt := SK.lt I1 hq
    refine enum_begins1 hB b0 fun h' he hit hsz hk => wpAny_pyIter_enum he ?_
    have I2 : Inv X pins σ H1 { s1 with heap := h' } := I1.kept (t' := s1.toks) hk
    refine ⟨s1.heap.objs.size + 1, [s1.heap.objs.size + 1, s1.heap.objs.size], _, _, H1, rfl, I2, turn_enumG k (s1.heap.objs.size + 1) s1.heap.objs.size (Nat.succ_ne_self _) (fun z => absurd (lt _ z) (Nat.not_lt.mpr (Nat.le_add_right _ _))) (fun z => absurd (lt _ z) (Nat.lt_irrefl _)), ⟨⟨.none, he⟩, hb _ _ hit⟩, fun b hb => ?_, q⟩
    have e' : b = s1.heap.objs.size + 1 ∨ b = s1.heap.objs.size := by simpa using hb
    have hle : s1.heap.objs.size ≤ b := by
      rcases e' with z | z
      · rw [z]; exact Nat.le_add_right _ _
      · rw [z]; exact Nat.le_refl _
    exact I1.fpOk hle (I1.hok.fresh hle)
/-! ### zip -/
def ItzG (K : PySem.W.Frag) (k k2 : SK) : It :=
  ⟨fun i H => ∃ (xs ys : List V) (x y : V), k.its K H xs ∧ k2.its K H ys ∧ xs[i]? = some x ∧ ys[i]? = some y,
    fun i H v H' => ∃ T x y, v = .ref T ∧ H T = none ∧ H' = upd H T (.tup [x, y]) ∧ (∀ xs, k.its K H xs → xs[i]? = some x) ∧ ∀ ys, k2.its K H ys → ys[i]? = some y,
    fun i H => ∃ xs ys : List V, k.its K H xs ∧ k2.its K H ys ∧ i = min xs.length ys.length⟩
theorem turn_zipG {P : Program} {w : World} {K : PySem.W.Frag} {elts : List Expr} {kk : Nat} {tpos : Pos} {k k2 : SK} {z TI TO i1 i2 : Addr} (D : ZipSep2 z TI TO i1 i2 (i1 :: k.adr) (i2 :: k2.adr)) (n1 : i1 ∉ k.adr) (n2 : i2 ∉ k2.adr) :
    Turn P w K (.Tuple elts kk tpos) (ItzG K k k2) [z, TI, TO, i1, i2] z (fun i h => IsZip h z TI TO .none ∧ IsTupOf2 h TI (.ref i1) (.ref i2) ∧ (∃ x y, IsTupOf2 h TO x y) ∧ k.here h i1 i ∧ k2.here h i2 i) where
  mem := by simp
  obj := fun i h st c hc => by
    obtain ⟨hz, hTI, ⟨x, y, hTO⟩, h1, h2⟩ := st
    obtain ⟨o1, _, e1, d1⟩ := SK.obj h1
    obtain ⟨o2, _, e2, d2⟩ := SK.obj h2
    have e' : c = z ∨ c = TI ∨ c = TO ∨ c = i1 ∨ c = i2 := by simpa using hc
    rcases e' with q | q | q | q | q
    · rw [q]; exact ⟨_, hz, fun v q => nomatch q⟩
    · rw [q]; exact ⟨_, hTI, fun v q => nomatch q⟩
    · rw [q]; exact ⟨_, hTO, fun v q => nomatch q⟩
    · rw [q]; exact ⟨o1, e1, fun v q => by rw [d1] at q; cases q⟩
    · rw [q]; exact ⟨o2, e2, fun v q => by rw [d2] at q; cases q⟩
  keep := fun i h h' st k => by
    obtain ⟨hz, hTI, ⟨x, y, hTO⟩, h1, h2⟩ := st
    exact ⟨k z (by simp) _ hz, k TI (by simp) _ hTI, ⟨x, y, k TO (by simp) _ hTO⟩, SK.keep (fun o q => k i1 (by simp) o q) h1, SK.keep (fun o q => k i2 (by simp) o q) h2⟩
  item := by
    intro X hP hw hK hc i pins s σ H E I hf st hg
    subst hP hw hK
    obtain ⟨hz, hTI, ⟨x0, y0, hTO⟩, h1, h2⟩ := st
    obtain ⟨xs, ys, x, y, hqx, hqy, hx, hy⟩ := hg
    obtain ⟨P1, St1, D1, st1, hP1, hS1⟩ := SK.draws (A := X.A.in1) (I.ok.hd hc) I hqx h1 n1
    obtain ⟨P2, St2, D2, st2, hP2, hS2⟩ := SK.draws (A := X.A.in1) (I.ok.hd hc) I hqy h2 n2
    have hzl : z < s.heap.objs.size := Heap.lt_size hz
    refine wpAny_pyNext_zipD2_item D D1 D2 hz hTI hTO st1 st2 (List.getElem?_eq_some_iff.mp hx).1 (List.getElem?_eq_some_iff.mp hy).1 fun u u2 h' tk hu hu2 z' TO' h1' h2' hT hsz hk => ?_
    obtain ⟨x', hx', ru⟩ := hP1 _ _ hu
    obtain ⟨y', hy', ru2⟩ := hP2 _ _ hu2
    rw [hx] at hx'
    rw [hy] at hy'
    cases hx'
    cases hy'
    refine ⟨_, rfl, wpAny_letOwnedTupleGo_zip (s := { s with heap := h', toks := tk }) z' fun h'' z'' sb => ?_⟩
    have hT2 : h''.get? s.heap.objs.size = some { cls := .type "tuple", data := .seq #[u, u2] } := (sb.2 _ (Nat.ne_of_gt hzl)).trans hT
    have new : ObjOk X.prog X.w (upd H s.heap.objs.size (.tup [x, y])) h'' s.heap.objs.size (.tup [x, y]) :=
      ⟨by show 2 ≤ sizeLine; decide, [u, u2], .cons ru (.cons ru2 .nil), ⟨_, hT2, rfl, _, rfl⟩⟩
    have I1 : Inv X pins σ (upd H s.heap.objs.size (.tup [x, y])) { s with heap := h'', toks := tk } :=
      I.turnedNew (t' := tk) (ch := [z, TI, TO, i1, i2]) (fun c o hb q => (sb.2 c (fun q' => hb (by simp [q']))).trans (hk c o (fun q' => hb (by simp [q'])) (fun q' => hb (by simp [q'])) (fun q' => hb (by simp [q'])) (fun q' => hb (by simp [q'])) q)) hf (Nat.le_refl _) new
    refine ⟨.ref s.heap.objs.size, _, I1, rfl, ⟨_, x, y, rfl, I.hok.fresh (Nat.le_refl _), rfl, fun l hl => by rw [SK.inj I hl hqx]; exact hx, fun l hl => by rw [SK.inj I hl hqy]; exact hy⟩, ⟨z'', ?_, ⟨u, u2, ?_⟩, ?_, ?_⟩, fun c hcm => ?_⟩
    · exact (sb.2 _ D.TIz).trans (hk _ _ D.TIz D.TITO D.TIi1 D.TIi2 hTI)
    · exact (sb.2 _ D.TOz).trans TO'
    · exact SK.keep (fun o q => (sb.2 _ (Ne.symm D.zi1)).trans q) (hS1 _ _ h1')
    · exact SK.keep (fun o q => (sb.2 _ (Ne.symm D.zi2)).trans q) (hS2 _ _ h2')
    · have hlt : c < s.heap.objs.size := by
        have e' : c = z ∨ c = TI ∨ c = TO ∨ c = i1 ∨ c = i2 := by simpa using hcm
        rcases e' with q | q | q | q | q
        · rw [q]; exact hzl
        · rw [q]; exact Heap.lt_size hTI
        · rw [q]; exact Heap.lt_size hTO
        · rw [q]; obtain ⟨_, _, e1, _⟩ := SK.obj h1; exact Heap.lt_size e1
        · rw [q]; obtain ⟨_, _, e2, _⟩ := SK.obj h2; exact Heap.lt_size e2
      rw [upd_ne (Nat.ne_of_lt hlt)]
      exact (hf c hcm).1
  done := by
    intro X hP hw hK hc i pins s σ H E I hf st hg
    subst hP hw hK
    obtain ⟨hz, hTI, ⟨x0, y0, hTO⟩, h1, h2⟩ := st
    obtain ⟨xs, ys, hqx, hqy, hend⟩ := hg
    obtain ⟨P1, St1, D1, st1, hP1, hS1⟩ := SK.draws (A := X.A.in1) (I.ok.hd hc) I hqx h1 n1
    obtain ⟨P2, St2, D2, st2, hP2, hS2⟩ := SK.draws (A := X.A.in1) (I.ok.hd hc) I hqy h2 n2
    exact wpAny_pyNext_zipD2_end D D1 D2 hz hTI hTO st1 st2 (by omega) (by omega) (by omega) fun h' tk hk => ⟨rfl, I.turnedL (t' := tk) (ch := [z, TI, TO, i1, i2]) (fun c o hb q =>
      hk c o (fun q' => hb (by simp [q'])) (fun q' => hb (by simp [q'])) (fun q' => hb (by simp [q'])) (fun q' => hb (by simp [q'])) q) hf⟩
  self := fun A i s Q E st h => wpAny_pyIter_zip st.1 h
def iZipG (K : PySem.W.Frag) (ta : TA) : TI := fun σ H R => ta σ H fun vs H1 => ∃ k k2 xs ys, vs = [SK.val k, SK.val k2] ∧ k.its K H1 xs ∧ k2.its K H1 ys ∧ R (ItzG K k k2) H1
theorem pi_zipG {X : Cx} {e e2 : Expr} {ta : TA} {p pos tpos : Pos} {elts : List Expr} {kk : Nat} (hg : Gl X "zip") (hm : X.mg "zip" = none) (ha : PA X [e, e2] ta)
    (hs : starEach [e, e2] X.env = (false, eval e X.env) :: starEach [e2] X.env := by rfl) (hpl : (backTo pos (starEach [e2] X.env)).any (·.1) = false := by rfl) :
    PI X (.Tuple elts kk tpos) (.Call (.Name "zip" p) [e, e2] [] pos) (iZipG X.K ta) := by
  refine ⟨fun pins s σ H R I h => ?_⟩
  refine Call_ (ld_blt I hg hm PyProof.Rows.boot_zip (PyProof.Rows.callWith_type1 (thn (ha.run pos pins s σ H _ I h) fun us s1 ⟨vs, H1, I1, r1, q1⟩ => ?_) hs hpl))
  obtain ⟨k, k2, xs, ys, ex, hqx, hqy, q⟩ := q1
  subst ex
  cases r1 with
  | cons r rr =>
    cases rr with
    | cons r' rr =>
      cases rr
      obtain ⟨o1, B1, hB1, b1, hb1⟩ := SK.begins I1 hqx r
      obtain ⟨o2, B2, hB2, b2, hb2⟩ := SK.begins I1 hqy r'
      have lt1 := SK.lt I1 hqx
      have lt2 := SK.lt I1 hqy
      have ne1 : ∀ c, s1.heap.objs.size ≤ c → c ∉ k.adr := fun c hc z => absurd (lt1 _ z) (Nat.not_lt.mpr hc)
      have ne2 : ∀ c, s1.heap.objs.size ≤ c → c ∉ k2.adr := fun c hc z => absurd (lt2 _ z) (Nat.not_lt.mpr hc)
      have fresh5 : ∀ c, c ∈ [s1.heap.objs.size + 4, s1.heap.objs.size + 2, s1.heap.objs.size + 3, s1.heap.objs.size, s1.heap.objs.size + 1] → FpOk X pins H1 c := fun c hcm => by
        have e' : c = s1.heap.objs.size + 4 ∨ c = s1.heap.objs.size + 2 ∨ c = s1.heap.objs.size + 3 ∨ c = s1.heap.objs.size ∨ c = s1.heap.objs.size + 1 := by simpa using hcm
        have hle : s1.heap.objs.size ≤ c := by
          rcases e' with z | z | z | z | z
          · rw [z]; exact Nat.le_add_right _ _
          · rw [z]; exact Nat.le_add_right _ _
          · rw [z]; exact Nat.le_add_right _ _
          · rw [z]; exact Nat.le_refl _
          · rw [z]; exact Nat.le_add_right _ _
        exact I1.fpOk hle (I1.hok.fresh hle)
      refine zip_begins2 hB1 hB2 b1 b2 fun h' hz hTI hTO h1 h2 hsz hk => wpAny_pyIter_zip hz ?_
      have I2 : Inv X pins σ H1 { s1 with heap := h' } := I1.kept (t' := s1.toks) hk
      have n {a b : Nat} (h : a ≠ b) : s1.heap.objs.size + a ≠ s1.heap.objs.size + b := by omega
      refine ⟨s1.heap.objs.size + 4, [s1.heap.objs.size + 4, s1.heap.objs.size + 2, s1.heap.objs.size + 3, s1.heap.objs.size, s1.heap.objs.size + 1], _, _, H1, rfl, I2, turn_zipG (k := k) (k2 := k2) ⟨n (by decide), n (by decide), n (by decide), n (b := 0) (by decide), by simp, ?_, ?_, n (by decide), by simp, ?_, ?_, ?_, ?_⟩ (ne1 _ (Nat.le_refl _)) (ne2 _ (Nat.le_add_right _ _)), ⟨hz, hTI, ⟨_, _, hTO⟩, hb1 _ _ h1, hb2 _ _ h2⟩, fresh5, q⟩
      all_goals rw [List.mem_cons, not_or]
      · exact ⟨n (b := 0) (by decide), ne1 _ (Nat.le_add_right _ _)⟩
      · exact ⟨n (b := 0) (by decide), ne1 _ (Nat.le_add_right _ _)⟩
      · exact ⟨n (by decide), ne2 _ (Nat.le_add_right _ _)⟩
      · exact ⟨n (by decide), ne2 _ (Nat.le_add_right _ _)⟩
      · exact ⟨n (a := 0) (by decide), ne2 _ (Nat.le_refl _)⟩
      · exact ⟨n (b := 0) (by decide), ne1 _ (Nat.le_add_right _ _)⟩
end Pu
end

noncomputable section
set_option Elab.async false
set_option linter.all false
set_option maxRecDepth 100000
set_option maxHeartbeats 4000000
/-! Pu, eleventh part: zip, enumerate, in, turned round, least and greatest. -/
namespace Pu
open PySem PySem.Spec L2
section
variable {K : PySem.W.Frag} {mg : Str → Option Value} {E E1 : XK} {σ : L2.St} {H : Hp} {Q : VK}
def zipL (xs ys : List D) : List D := (xs.zip ys).map fun p => .tuple [p.1, p.2]
/-- the items of a list, a tuple, a text -/
def seqD : D → Option (List D)
  | .list xs => some xs
  | .tuple xs => some xs
  | .str z => some ((cps z).map fun c => .str ⟨#[c]⟩)
  | _ => none
def zipD : List D → Option (List D)
  | [a, b] => (seqD a).bind fun xs => (seqD b).map fun ys => zipL xs ys
  | _ => none
def mZip (m : M (List D)) : M (List D) := bnd m fun ds => lift (zipD ds)
theorem zipL_get {xs ys : List D} {i : Nat} {x y : D} (hx : xs[i]? = some x) (hy : ys[i]? = some y) : (zipL xs ys)[i]? = some (.tuple [x, y]) := by
  unfold zipL
  have : (xs.zip ys)[i]? = some (x, y) := List.getElem?_zip_eq_some.mpr ⟨hx, hy⟩
  rw [List.getElem?_map, this]
  rfl
theorem zipL_len (xs ys : List D) : (zipL xs ys).length = min xs.length ys.length := by simp [zipL]
theorem new_pair {F1 H1 : Hp} {T : Addr} {x y : V} {dx dy : D} (sb : Same F1 H1) (hT : H1 T = none) (rx : Rp K F1 x dx) (ry : Rp K F1 y dy) :
    ∃ F2, Go none F1 H1 F2 (upd H1 T (.tup [x, y])) ∧ Same F2 (upd H1 T (.tup [x, y])) ∧ Rp K F2 (.ref T) (.tuple [dx, dy]) := by
  obtain ⟨g, s, r⟩ := new_tup (K := K) (fr := ⟨none, F1, H1⟩) sb hT (.cons rx (.cons ry .nil))
  exact ⟨_, g, s, r⟩
theorem rpl_cps {F : Hp} : ∀ l : List Nat, RpL K F (l.map fun c => V.str ⟨#[c]⟩) (l.map fun c => PyData.str ⟨#[c]⟩)
  | [] => .nil
  | _ :: l => .cons (.str _) (rpl_cps l)
/-- what is walked, by data -/
theorem sk_of {F H : Hp} {v : V} {d : D} {xs : List D} (sb : Same F H) (r : Rp K F v d) (e : seqD d = some xs) : ∃ (k : SK) (vs : List V), v = k.val ∧ RpL K F vs xs ∧ k.its K H vs ∧ ∀ F1 H1, Same F F1 → Same F1 H1 → k.its K H1 vs := by
  cases r with
  | lst h1 l1 => cases e; exact ⟨.l _, _, rfl, l1, SqL.of (sb _ _ h1), fun F1 H1 s1 s2 => SqL.of (s2 _ _ (s1 _ _ h1))⟩
  | tup h1 l1 => cases e; exact ⟨.t _, _, rfl, l1, SqT.of (sb _ _ h1), fun F1 H1 s1 s2 => SqT.of (s2 _ _ (s1 _ _ h1))⟩
  | str x => cases e; exact ⟨.s x, _, rfl, rpl_cps _, rfl, fun _ _ _ _ => rfl⟩
  | _ => cases e
theorem it_zipG {F : Hp} {k k2 : SK} {vs ws : List V} {xs ys : List D} (h1 : ∀ F1 H1, Same F F1 → Same F1 H1 → k.its K H1 vs) (r1 : RpL K F vs xs) (h2 : ∀ F1 H1, Same F F1 → Same F1 H1 → k2.its K H1 ws) (r2 : RpL K F ws ys) : ItOk K (ItzG K k k2) F (zipL xs ys) where
  go := fun F1 H1 i s1 s2 hi => by
    rw [zipL_len] at hi
    exact ⟨vs, ws, vs[i]'(by rw [r1.length]; omega), ws[i]'(by rw [r2.length]; omega), h1 _ _ s1 s2, h2 _ _ s1 s2, List.getElem?_eq_getElem _, List.getElem?_eq_getElem _⟩
  yl := fun F1 H1 i x H2 s1 s2 y hi => by
    obtain ⟨T, u, w, rfl, hT, rfl, k1, k2⟩ := y
    obtain ⟨d1, e1, q1⟩ := r1.getV i (k1 vs (h1 _ _ s1 s2))
    obtain ⟨d2, e2, q2⟩ := r2.getV i (k2 ws (h2 _ _ s1 s2))
    obtain ⟨F2, g, sb, r⟩ := new_pair s2 hT (q1.mono s1) (q2.mono s1)
    exact ⟨_, F2, zipL_get e1 e2, g, sb, r⟩
  st := fun F1 H1 s1 s2 => ⟨vs, ws, h1 _ _ s1 s2, h2 _ _ s1 s2, by rw [r1.length, r2.length, zipL_len]⟩
theorem rd_zip {m : M (List D)} {Q : It → Hp → Prop} (h : rdI K mg E (mZip m) σ H Q) : iZipG K (rdA K mg E m) σ H Q := by
  obtain ⟨fr, s, F, hs, q⟩ := h
  refine ⟨fr, s, F, hs, (Post.bnd q).mono fun ds c F' H' g sb cu q1 vs rv => ?_⟩
  obtain ⟨l, e, k⟩ := q1.lift
  have k := k F' H' (Go.refl _ _ _) sb cu
  unfold zipD at e
  split at e
  · rename_i a b
    cases ea : seqD a with
    | none => rw [ea] at e; cases e
    | some xs =>
      cases eb : seqD b with
      | none => rw [ea, eb] at e; cases e
      | some ys =>
        rw [ea, eb] at e
        cases e
        cases rv with
        | cons r1 rv =>
          cases rv with
          | cons r2 rv =>
            cases rv
            obtain ⟨k1, vs1, rfl, l1, i1, j1⟩ := sk_of sb r1 ea
            obtain ⟨k2, vs2, rfl, l2, i2, j2⟩ := sk_of sb r2 eb
            exact ⟨k1, k2, vs1, vs2, rfl, i1, i2, k _ (it_zipG j1 l1 j2 l2)⟩
  · cases e
/-- enumerate of a list -/
def enumL (xs : List D) : List D := (List.range xs.length).zipWith (fun i x => .tuple [.int (i : Nat), x]) xs
def enumD : List D → Option (List D)
  | [a] => (seqD a).map enumL
  | _ => none
def mEnum (m : M (List D)) : M (List D) := bnd m fun ds => lift (enumD ds)
theorem enumL_get {xs : List D} {i : Nat} {x : D} (hx : xs[i]? = some x) : (enumL xs)[i]? = some (.tuple [.int (i : Nat), x]) := by
  have hi := (List.getElem?_eq_some_iff.mp hx).1
  unfold enumL
  rw [List.getElem?_zipWith, hx, List.getElem?_eq_getElem (by simpa using hi)]
  simp
theorem enumL_len (xs : List D) : (enumL xs).length = xs.length := by simp [enumL]
theorem it_enum {F : Hp} {k : SK} {vs : List V} {xs : List D} (h1 : ∀ F1 H1, Same F F1 → Same F1 H1 → k.its K H1 vs) (r1 : RpL K F vs xs) : ItOk K (IteG K k) F (enumL xs) where
  go := fun F1 H1 i s1 s2 hi => by
    rw [enumL_len] at hi
    exact ⟨vs, vs[i]'(by rw [r1.length]; omega), h1 _ _ s1 s2, List.getElem?_eq_getElem _⟩
  yl := fun F1 H1 i x H2 s1 s2 y hi => by
    obtain ⟨T, u, rfl, hT, rfl, k1⟩ := y
    obtain ⟨d1, e1, q1⟩ := r1.getV i (k1 vs (h1 _ _ s1 s2))
    obtain ⟨F2, g, sb, r⟩ := new_pair (x := .int (i : Nat)) s2 hT (.int _) (q1.mono s1)
    exact ⟨_, F2, enumL_get e1, g, sb, r⟩
  st := fun F1 H1 s1 s2 => ⟨vs, h1 _ _ s1 s2, by rw [r1.length, enumL_len]⟩
theorem rd_enum {m : M (List D)} {Q : It → Hp → Prop} (h : rdI K mg E (mEnum m) σ H Q) : iEnumG K (rdA K mg E m) σ H Q := by
  obtain ⟨fr, s, F, hs, q⟩ := h
  refine ⟨fr, s, F, hs, (Post.bnd q).mono fun ds c F' H' g sb cu q1 vs rv => ?_⟩
  obtain ⟨l, e, k⟩ := q1.lift
  have k := k F' H' (Go.refl _ _ _) sb cu
  unfold enumD at e
  split at e
  · rename_i a
    cases ea : seqD a with
    | none => rw [ea] at e; cases e
    | some xs =>
      rw [ea] at e
      cases e
      cases rv with
      | cons r1 rv =>
        cases rv
        obtain ⟨k1, vs1, rfl, l1, i1, j1⟩ := sk_of sb r1 ea
        exact ⟨k1, vs1, rfl, i1, k _ (it_enum j1 l1)⟩
  · cases e
end
section
variable {X : Cx} {E : XK} {a b e e2 : Expr} {es : List Expr} {ma mb m : M D} {mas : M (List D)} {pos p tpos : Pos} {x : Str} {kk : Nat} {elts : List Expr}
theorem i_zip (hm : X.mg "zip" = none) (ha : PAD X E [e, e2] mas) (hg : Gl X "zip" := by rfl) (hs : starEach [e, e2] X.env = (false, eval e X.env) :: starEach [e2] X.env := by rfl) (hpl : (backTo pos (starEach [e2] X.env)).any (·.1) = false := by rfl) :
    PID X E (.Tuple elts kk tpos) (.Call (.Name "zip" p) [e, e2] [] pos) (mZip mas) := PI.imp (pi_zipG hg hm ha hs hpl) fun _ _ _ => rd_zip
theorem i_enum (hm : X.mg "enumerate" = none) (ha : PAD X E [e] mas) (hg : Gl X "enumerate" := by rfl) (hs : starEach [e] X.env = [(false, eval e X.env)] := by rfl) :
    PID X E (.Tuple elts kk tpos) (.Call (.Name "enumerate" p) [e] [] pos) (mEnum mas) := PI.imp (pi_enumG hg hm ha hs) fun _ _ _ => rd_enum
end
section
variable (s : S)
@[simp] theorem mZip_ap (m : M (List D)) : mZip m s = bnd m (fun ds => lift (zipD ds)) s := (rfl)
@[simp] theorem mEnum_ap (m : M (List D)) : mEnum m s = bnd m (fun ds => lift (enumD ds)) s := (rfl)
@[simp] theorem zipD_l (xs ys : List D) : zipD [.list xs, .list ys] = some (zipL xs ys) := (rfl)
@[simp] theorem zipD_t (xs ys : List D) : zipD [.tuple xs, .tuple ys] = some (zipL xs ys) := (rfl)
@[simp] theorem enumD_l (xs : List D) : enumD [.list xs] = some (enumL xs) := (rfl)
end
/-! ### a, b = e1, e2: all frozen -/
def mParE (i j : Nat) (m : M (List D)) : MS := fun s => mErr (m s) fun ds c => match ds with
  | [d, e] => .next (((s.wc c).up i (.fz d)).up j (.fz e))
  | _ => .no
def mParE3 (i j l : Nat) (m : M (List D)) : MS := fun s => mErr (m s) fun ds c => match ds with
  | [d, e, f] => .next ((((s.wc c).up i (.fz d)).up j (.fz e)).up l (.fz f))
  | _ => .no
section
variable {K : PySem.W.Frag} {mg : Str → Option Value} {E : XK} {σ : L2.St} {H : Hp} {D : Ends} {m : M (List Pu.D)}
theorem rd_parE {i j : Nat} (h : rdS K mg E (mParE i j m) D σ H) : tPar i j (rdA K mg E m) D σ H := by
  obtain ⟨fr, s, F, hs, q⟩ := h
  refine ⟨fr, s, F, hs, (post_of hs q).mono fun ds c F1 H1 g sb cu q1 vs r => ?_⟩
  have hs1 := hs.step g sb cu
  split at q1
  · cases r with
    | cons r1 r =>
      cases r with
      | cons r2 r =>
        cases r
        exact ⟨_, _, rfl, q1 _ _ _ ((hs1.putZ r1).putZ r2)⟩
  · exact q1.elim
theorem rd_parE3 {i j l : Nat} (h : rdS K mg E (mParE3 i j l m) D σ H) : tPar3 i j l (rdA K mg E m) D σ H := by
  obtain ⟨fr, s, F, hs, q⟩ := h
  refine ⟨fr, s, F, hs, (post_of hs q).mono fun ds c F1 H1 g sb cu q1 vs r => ?_⟩
  have hs1 := hs.step g sb cu
  split at q1
  · cases r with
    | cons r1 r =>
      cases r with
      | cons r2 r =>
        cases r with
        | cons r3 r =>
          cases r
          exact ⟨_, _, _, rfl, q1 _ _ _ (((hs1.putZ r1).putZ r2).putZ r3)⟩
  · exact q1.elim
end
section
variable {X : Cx} {E : XK} {a b c : Expr} {mas : M (List D)} {px py pz pt pos : Pos} {x y z : Str}
theorem st_parE {k k2 : Nat} {p2 : Pos} (i j : Nat) (hc : X.calm = true) (hN : X.N.Nodup) (hij : i ≠ j) (ha : PAD X E [a, b] mas) (hi : X.N[i]? = some x := by rfl) (hj : X.N[j]? = some y := by rfl)
    (hx : X.env.scope.names.lookup x = some .local := by rfl) (hy : X.env.scope.names.lookup y = some .local := by rfl)
    (hw : swappedStores [.Tuple [.Name x px, .Name y py] k pt] (.Tuple [a, b] k2 p2) X.env = pure (some [x, y]) := by rfl)
    (hs : swapsWithSole [.Tuple [.Name x px, .Name y py] k pt] (.Tuple [a, b] k2 p2) pos.line X.env = pure false := by rfl) :
    PSD X E (.Assign [.Tuple [.Name x px, .Name y py] k pt] (.Tuple [a, b] k2 p2) pos) (mParE i j mas) :=
  PS.imp (ps_par hc hN hi hj hij hx hy ha hw hs) fun _ _ _ => rd_parE
theorem st_parE3 {k k2 : Nat} {p2 : Pos} (i j l : Nat) (hc : X.calm = true) (hN : X.N.Nodup) (hij : i ≠ j) (hil : i ≠ l) (hjl : j ≠ l) (ha : PAD X E [a, b, c] mas) (hi : X.N[i]? = some x := by rfl) (hj : X.N[j]? = some y := by rfl) (hl : X.N[l]? = some z := by rfl)
    (hx : X.env.scope.names.lookup x = some .local := by rfl) (hy : X.env.scope.names.lookup y = some .local := by rfl) (hz : X.env.scope.names.lookup z = some .local := by rfl)
    (hw : swappedStores [.Tuple [.Name x px, .Name y py, .Name z pz] k pt] (.Tuple [a, b, c] k2 p2) X.env = pure (some [x, y, z]) := by rfl)
    (hs : swapsWithSole [.Tuple [.Name x px, .Name y py, .Name z pz] k pt] (.Tuple [a, b, c] k2 p2) pos.line X.env = pure false := by rfl) :
    PSD X E (.Assign [.Tuple [.Name x px, .Name y py, .Name z pz] k pt] (.Tuple [a, b, c] k2 p2) pos) (mParE3 i j l mas) :=
  PS.imp (ps_par3 hc hN hi hj hl hij hil hjl hx hy hz ha hw hs) fun _ _ _ => rd_parE3
end
section
variable (s : S)
@[simp] theorem mParE_ap (i j : Nat) (m : M (List D)) : mParE i j m s = mErr (m s) (fun ds c => match ds with
  | [d, e] => .next (((s.wc c).up i (.fz d)).up j (.fz e))
  | _ => .no) := (rfl)
@[simp] theorem mParE3_ap (i j l : Nat) (m : M (List D)) : mParE3 i j l m s = mErr (m s) (fun ds c => match ds with
  | [d, e, f] => .next ((((s.wc c).up i (.fz d)).up j (.fz e)).up l (.fz f))
  | _ => .no) := (rfl)
end
/-! ### in -/
def flatD : D → Bool
  | .none | .bool _ | .int _ | .str _ => true
  | _ => false
def sgOf : Str → Option Nat := fun a => match a.cps.toList with
  | [c] => some c
  | _ => none
theorem sgOf_ok {a : Str} {c : Nat} (h : sgOf a = some c) : a = ⟨#[c]⟩ := by
  unfold sgOf at h
  split at h
  · rename_i c' e
    cases h
    cases a with
    | mk cs =>
      have : cs = #[c] := by
        have e : cs.toList = [c] := e
        rw [← Array.toArray_toList (xs := cs), e]
      rw [this]
  · cases h
def inDb : D → D → Option Bool
  | .str a, .str z => (sgOf a).map fun c => decide (c ∈ cps z)
  | d, .list ds => if (SeqAt.shaped d && SeqAt.shaped (.list ds)) = true then some (ds.any fun z => PyData.eqv z d) else none
  | d, .tuple ds => if (flatD d && ds.all flatD) = true then some (ds.any fun z => PyData.eqv z d) else none
  | _, _ => none
def inD (d e : D) : Option D := (inDb d e).map .bool
def ninD (d e : D) : Option D := (inDb d e).map fun b => .bool (!b)
section
variable {K : PySem.W.Frag} {F H : Hp}
theorem flat_rp {v : V} {d : D} (h : flatD d = true) (r : Rp K F v d) : flatV v = true := by
  cases r <;> first | rfl | cases h
theorem flat_eq {v w : V} {d e : D} (h1 : flatD d = true) (h2 : flatD e = true) (r1 : Rp K F v d) (r2 : Rp K F w e) : eqV v w = PyData.eqv d e := by
  cases r1 <;> cases r2 <;> first | (simp [eqV, PyData.eqv]; done) | cases h1 | cases h2
theorem flat_any {w : V} {e : D} (he : flatD e = true) (r2 : Rp K F w e) : ∀ {vs : List V} {ds : List D}, RpL K F vs ds → ds.all flatD = true → vs.all flatV = true ∧ inV w vs = ds.any fun z => PyData.eqv z e
  | _, _, .nil, _ => ⟨rfl, rfl⟩
  | _, _, .cons r rs, h => by
    obtain ⟨h1, h2⟩ := Bool.and_eq_true_iff.mp (by simpa using h : (flatD _ && List.all _ flatD) = true)
    obtain ⟨k1, k2⟩ := flat_any he r2 rs h2
    refine ⟨by simp [flat_rp h1 r, k1], ?_⟩
    have e1 : ∀ (v : V) (vs : List V), inV w (v :: vs) = (eqV v w || inV w vs) := fun _ _ => rfl
    rw [e1, flat_eq h1 he r r2, k2]
    rfl
end
section
variable {X : Cx}
theorem RpB.flat {K : PySem.W.Frag} {pc : Option Addr} {F H : Hp} {v : V} {d : D} (h : RpB K pc F H v d) (hf : flatD d = true) : Rp K F v d := by
  rcases h with h | ⟨_, _, _, _, z, _⟩ | ⟨_, _, _, _, z, _⟩
  · exact h
  · rw [z] at hf; cases hf
  · rw [z] at hf; cases hf
theorem inDb_cases {d e : D} {b : Bool} (h : inDb d e = some b) : (∃ c z, d = .str ⟨#[c]⟩ ∧ e = .str z ∧ b = decide (c ∈ cps z)) ∨ (∃ ds, e = .list ds ∧ SeqAt.shaped d = true ∧ SeqAt.shaped (.list ds) = true ∧ b = ds.any fun z => PyData.eqv z d) ∨ (∃ ds, e = .tuple ds ∧ flatD d = true ∧ ds.all flatD = true ∧ b = ds.any fun z => PyData.eqv z d) := by
  unfold inDb at h
  split at h
  · rename_i a z
    cases q : sgOf a with
    | none => rw [q] at h; cases h
    | some c =>
      rw [q] at h
      cases h
      exact .inl ⟨c, _, by rw [sgOf_ok q], rfl, rfl⟩
  · split at h
    · rename_i hc
      cases h
      obtain ⟨h1, h2⟩ := Bool.and_eq_true_iff.mp hc
      exact .inr (.inl ⟨_, rfl, h1, h2, rfl⟩)
    · cases h
  · split at h
    · rename_i hc
      cases h
      obtain ⟨h1, h2⟩ := Bool.and_eq_true_iff.mp hc
      exact .inr (.inr ⟨_, rfl, h1, h2, rfl⟩)
    · cases h
  · cases h
theorem u65 {k : Nat} {A : Around} (r : Room k A) : A.units + 65 < cLine := by have := r.un; omega
theorem od_in (hu : X.A.units + 65 < cLine) : OpR X (compareOp .In) (rO2 X.K inD) := by
  refine OpR.imp (op_in_sign.or ((op_inD hu).or op_in_seq)) fun x y H Q ⟨pc, F, d, e, z, r1, r2, sb, h, q⟩ => ?_
  unfold inD at h
  cases hb : inDb d e with
  | none => rw [hb] at h; cases h
  | some b =>
    rw [hb] at h
    cases h
    have q' := q (.bl b) _ _ (Go.refl _ _ _) sb (.bl _)
    rcases inDb_cases hb with ⟨c, z, rfl, rfl, rfl⟩ | ⟨ds, rfl, h1, h2, rfl⟩ | ⟨ds, rfl, h1, h2, rfl⟩
    · exact .inl ⟨c, z, r1.str, r2.str, q'⟩
    · exact .inr (.inl ⟨d, ds, r1.dpH sb (shaped_plain h1), r2.dpH sb (shaped_plain h2), h1, h2, q'⟩)
    · obtain ⟨p, vs, rfl, k1, k2⟩ := r2.tuple
      obtain ⟨k3, k4⟩ := flat_any h1 (r1.flat h1) k2 h2
      exact .inr (.inr ⟨p, vs, rfl, .inr (SqT.of (sb _ _ k1)), flat_rp h1 (r1.flat h1), k3, by rw [k4]; exact q'⟩)
theorem od_nin (hu : X.A.units + 65 < cLine) : OpR X (compareOp .NotIn) (rO2 X.K ninD) := by
  refine OpR.imp (op_notIn_sign.or ((op_notInD hu).or op_notIn_seq)) fun x y H Q ⟨pc, F, d, e, z, r1, r2, sb, h, q⟩ => ?_
  unfold ninD at h
  cases hb : inDb d e with
  | none => rw [hb] at h; cases h
  | some b =>
    rw [hb] at h
    cases h
    have q' := q (.bl (!b)) _ _ (Go.refl _ _ _) sb (.bl _)
    rcases inDb_cases hb with ⟨c, z, rfl, rfl, rfl⟩ | ⟨ds, rfl, h1, h2, rfl⟩ | ⟨ds, rfl, h1, h2, rfl⟩
    · exact .inl ⟨c, z, r1.str, r2.str, q'⟩
    · exact .inr (.inl ⟨d, ds, r1.dpH sb (shaped_plain h1), r2.dpH sb (shaped_plain h2), h1, h2, q'⟩)
    · obtain ⟨p, vs, rfl, k1, k2⟩ := r2.tuple
      obtain ⟨k3, k4⟩ := flat_any h1 (r1.flat h1) k2 h2
      exact .inr (.inr ⟨p, vs, rfl, .inr (SqT.of (sb _ _ k1)), flat_rp h1 (r1.flat h1), k3, by rw [k4]; exact q'⟩)
end
end Pu
end

noncomputable section
set_option Elab.async false
set_option linter.all false
set_option maxRecDepth 100000
set_option maxHeartbeats 4000000
/-! Pu, twelfth part: sorted of any alike data, least and greatest of a list. -/
namespace Pu
open PySem PySem.Spec L2
section
variable {X : Cx} {pins : List (Addr × Obj)} {s : Shared} {σ : L2.St} {H : Hp}
theorem each_rel : ∀ {xs : List V} {us : List Value} {ds : List D}, Vals xs us → DpAll X.K H xs ds → PySem.W.EachIs (fun (v : Value) (b : V × D) => RelV b.1 v) us (xs.zip ds)
  | _, _, _, .nil, .nil => .nil
  | _, _, _, .cons r rs, .cons d ds => .cons r (each_rel rs ds)
theorem each_reads (I : Inv X pins σ H s) : ∀ {xs : List V} {us : List Value} {ds : List D}, Vals xs us → DpAll X.K H xs ds → PySem.W.EachIs (fun (v : Value) (b : V × D) => ∃ as, Reads s.heap v b.2 as) us (xs.zip ds)
  | _, _, _, .nil, .nil => .nil
  | _, _, _, .cons r rs, .cons d ds => .cons (Dp.reads I _ _ _ d r) (each_reads I rs ds)
theorem zip_snd : ∀ {xs : List V} {ds : List D}, DpAll X.K H xs ds → (xs.zip ds).map Prod.snd = ds
  | _, _, .nil => rfl
  | _, _, .cons _ r => by simp [zip_snd r]
theorem each_vals : ∀ {us : List Value} {ps : List (V × D)}, PySem.W.EachIs (fun (v : Value) (b : V × D) => RelV b.1 v) us ps → Vals (ps.map Prod.fst) us
  | _, _, .nil => .nil
  | _, _, .cons r rs => .cons r (each_vals rs)
def rSortDt (K : PySem.W.Frag) : List V → Hp → VK → Prop := fun vs H Q => ∃ (a : Addr) (xs : List V) (ds : List D), vs = [V.ref a] ∧ SqL K H a xs ∧ DpAll K H xs ds ∧ PySem.W.AllAlike ds ∧ PySem.W.Sortable ds ∧ (∀ d ∈ ds, d.depth ≤ 64) ∧
  ∀ (ps : List (V × D)) (p : Addr), ps.map Prod.snd = ds.mergeSort (PySem.W.dataLe false id) → (∀ q ∈ ps, q ∈ xs.zip ds) → H p = none → Q (.ref p) (upd H p (.lst (ps.map Prod.fst)))
theorem cr_sortDt (hu : X.A.units + 130 < cLine) : CallR X (.builtin "sorted") (rSortDt X.K) := by
  intro pins s σ H vs us Q I r h
  obtain ⟨a, xs, ds, rfl, hs, hd, ha, hk, hdep, q⟩ := h
  obtain ⟨its, rv, hl, hz⟩ := I.list hs
  rw [Vals.ref1 r]
  have em := zip_snd hd
  have hL : (xs.zip ds).length = ds.length := by have := congrArg List.length em; simpa using this
  have hxd : xs.length = ds.length := by
    have : ∀ {xs : List V} {ds : List D}, DpAll X.K H xs ds → xs.length = ds.length := fun {xs ds} h => by
      induction ds generalizing xs with
      | nil => cases h; rfl
      | cons d ds ih => cases h with | cons _ r => simp [ih r]
    exact this hd
  refine PySem.W.sorted_data (enc := Prod.snd) (R := fun (v : Value) (b : V × D) => RelV b.1 v) hl.isList (each_rel rv hd) (each_reads I rv hd) (by rw [em]; exact ha) (by rw [em]; exact hk) (by rw [hL, ← hxd]; exact hz) (fun b hb => ?_) fun out h1 h2 => ?_
  · have : b.2 ∈ ds := by rw [← em]; exact List.mem_map.mpr ⟨b, hb, rfl⟩
    have := hdep _ this
    omega
  obtain ⟨ep, he'⟩ := PyProof.Rows.sortedAll_at s.heap its out.toArray
  have k1 := each_vals h2
  have hlen : (((xs.zip ds).mergeSort (PySem.W.dataLe false Prod.snd)).map Prod.fst).length ≤ sizeLine := by
    rw [List.length_map, List.length_mergeSort, hL, ← hxd]
    exact hz
  refine ⟨.ref _, upd H (s.heap.objs.size + 1) (.lst (((xs.zip ds).mergeSort (PySem.W.dataLe false Prod.snd)).map Prod.fst)), I.laid (t' := s.toks) (fun _ _ => PyProof.Rows.sortedAll_old) (Nat.le_succ _) ⟨hlen, out, ep, k1, he'⟩, rfl, q _ _ ?_ ?_ (I.hok.fresh (Nat.le_succ _))⟩
  · rw [List.map_mergeSort (s := PySem.W.dataLe false id), em]
    intro a _ b _
    rfl
  · intro q hq
    exact (List.mergeSort_perm _ _).mem_iff.mp hq
end
def SortOk (ds : List D) : Prop := PySem.W.AllAlike ds ∧ PySem.W.Sortable ds ∧ plain.plainAll ds = true ∧ ∀ d ∈ ds, d.depth ≤ 64
theorem sortOk_ex : ∃ f : List D → Bool, ∀ ds, f ds = true ↔ SortOk ds := ⟨fun ds => @decide (SortOk ds) (Classical.propDecidable _), fun _ => @decide_eq_true_iff _ (Classical.propDecidable _)⟩
def sortOk : List D → Bool := Classical.choose sortOk_ex
theorem sortOk_i {ds : List D} : sortOk ds = true ↔ SortOk ds := Classical.choose_spec sortOk_ex ds
def srt (ds : List D) : List D := ds.mergeSort (PySem.W.dataLe false id)
def sortD : D → Option D
  | .list ds => if sortOk ds = true then some (.list (srt ds)) else none
  | _ => none
section
variable {X : Cx}
theorem u130 {k : Nat} {A : Around} (r : Room k A) : A.units + 130 < cLine := by have := r.un; omega
theorem RpL.zip {K : PySem.W.Frag} {F : Hp} : ∀ {vs : List V} {ds : List D}, RpL K F vs ds → ∀ q ∈ vs.zip ds, Rp K F q.1 q.2
  | _, _, .nil, q, h => by cases h
  | _, _, .cons r rs, q, h => by
    rcases List.mem_cons.mp h with rfl | h
    · exact r
    · exact RpL.zip rs q h
theorem RpL.unzip {K : PySem.W.Frag} {F : Hp} : ∀ {ps : List (V × D)}, (∀ q ∈ ps, Rp K F q.1 q.2) → RpL K F (ps.map Prod.fst) (ps.map Prod.snd)
  | [], _ => .nil
  | p :: ps, h => .cons (h p List.mem_cons_self) (RpL.unzip fun q hq => h q (List.mem_cons_of_mem _ hq))
theorem cd_sorted (hu : X.A.units + 130 < cLine) : CallR X (.builtin "sorted") (rC1 X.K sortD) := by
  refine CallR.imp (cr_sortDt hu) fun xs H Q ⟨x, e, pc, F, d, z, r, sb, h, q⟩ => ?_
  subst e
  unfold sortD at h
  split at h
  · split at h
    · rename_i ds hok
      cases h
      obtain ⟨h1, h2, h3, h4⟩ := sortOk_i.mp hok
      obtain ⟨p, vs, rfl, hq, k1⟩ := r.listF sb
      refine ⟨p, vs, ds, rfl, hq, RpL.dp h3 (k1.mono sb), h1, h2, h4, fun ps t em hm ht => ?_⟩
      have rr : RpL X.K F (ps.map Prod.fst) (srt ds) := by
        have := RpL.unzip (K := X.K) (F := F) (ps := ps) fun q hq => RpL.zip k1 q (hm q hq)
        rw [em] at this
        exact this
      obtain ⟨g, s2, r3⟩ := new_lst (K := X.K) sb ht rr
      exact q _ _ _ g s2 r3
    · cases h
  · cases h
theorem intsD_ok {K : PySem.W.Frag} {F : Hp} : ∀ {vs : List V} {ds : List D} {ns : List Int}, RpL K F vs ds → intsD ds = some ns → vs = ns.map V.int
  | _, _, _, .nil, e => by cases e; rfl
  | _, _, _, .cons (d := d) (ds := ds) h r, e => by
    cases d with
    | int x =>
      have e : (intsD ds).map (x :: ·) = some _ := e
      cases er : intsD ds with
      | none => rw [er] at e; cases e
      | some zs =>
        rw [er] at e
        cases e
        cases h
        rw [intsD_ok r er]
        rfl
    | none => cases e
    | bool _ => cases e
    | str _ => cases e
    | list _ => cases e
    | tuple _ => cases e
    | dict _ => cases e
/-- least and greatest -/
def leastI : List Int → Option Int
  | [] => none
  | x :: xs => some (xs.foldl min x)
def mostI : List Int → Option Int
  | [] => none
  | x :: xs => some (xs.foldl max x)
theorem foldl_min (xs : List Int) : ∀ x : Int, (xs.foldl min x = x ∨ xs.foldl min x ∈ xs) ∧ xs.foldl min x ≤ x ∧ ∀ y ∈ xs, xs.foldl min x ≤ y := by
  induction xs with
  | nil => intro x; exact ⟨.inl rfl, Int.le_refl _, fun _ h => by cases h⟩
  | cons a xs ih =>
    intro x
    obtain ⟨h1, h2, h3⟩ := ih (min x a)
    have hm : min x a ≤ x ∧ min x a ≤ a ∧ (min x a = x ∨ min x a = a) := by omega
    refine ⟨?_, by simp only [List.foldl_cons]; omega, fun y hy => ?_⟩
    · simp only [List.foldl_cons, List.mem_cons]
      rcases h1 with h1 | h1
      · rcases hm.2.2 with e | e
        · exact .inl (h1.trans e)
        · exact .inr (.inl (h1.trans e))
      · exact .inr (.inr h1)
    · simp only [List.foldl_cons]
      rcases List.mem_cons.mp hy with rfl | hy
      · omega
      · exact h3 y hy
theorem foldl_max (xs : List Int) : ∀ x : Int, (xs.foldl max x = x ∨ xs.foldl max x ∈ xs) ∧ x ≤ xs.foldl max x ∧ ∀ y ∈ xs, y ≤ xs.foldl max x := by
  induction xs with
  | nil => intro x; exact ⟨.inl rfl, Int.le_refl _, fun _ h => by cases h⟩
  | cons a xs ih =>
    intro x
    obtain ⟨h1, h2, h3⟩ := ih (max x a)
    have hm : x ≤ max x a ∧ a ≤ max x a ∧ (max x a = x ∨ max x a = a) := by omega
    refine ⟨?_, by simp only [List.foldl_cons]; omega, fun y hy => ?_⟩
    · simp only [List.foldl_cons, List.mem_cons]
      rcases h1 with h1 | h1
      · rcases hm.2.2 with e | e
        · exact .inl (h1.trans e)
        · exact .inr (.inl (h1.trans e))
      · exact .inr (.inr h1)
    · simp only [List.foldl_cons]
      rcases List.mem_cons.mp hy with rfl | hy
      · omega
      · exact h3 y hy
theorem leastI_ok {ns : List Int} {m : Int} (h : leastI ns = some m) : m ∈ ns ∧ ∀ y ∈ ns, m ≤ y := by
  cases ns with
  | nil => cases h
  | cons x xs =>
    cases h
    obtain ⟨h1, h2, h3⟩ := foldl_min xs x
    refine ⟨List.mem_cons.mpr h1, fun y hy => ?_⟩
    rcases List.mem_cons.mp hy with rfl | hy
    · exact h2
    · exact h3 y hy
theorem mostI_ok {ns : List Int} {m : Int} (h : mostI ns = some m) : m ∈ ns ∧ ∀ y ∈ ns, y ≤ m := by
  cases ns with
  | nil => cases h
  | cons x xs =>
    cases h
    obtain ⟨h1, h2, h3⟩ := foldl_max xs x
    refine ⟨List.mem_cons.mpr h1, fun y hy => ?_⟩
    rcases List.mem_cons.mp hy with rfl | hy
    · exact h2
    · exact h3 y hy
def minLD : D → Option D
  | .list ds => ((intsD ds).bind leastI).map .int
  | _ => none
def maxLD : D → Option D
  | .list ds => ((intsD ds).bind mostI).map .int
  | _ => none
theorem cd_minL (hc : X.calm = true) : CallR X (.builtin "min") (rC1 X.K minLD) := by
  refine CallR.imp (cr_min hc) fun xs H Q ⟨x, e, pc, F, d, z, r, sb, h, q⟩ => ?_
  subst e
  unfold minLD at h
  split at h
  · rename_i ds
    cases ei : intsD ds with
    | none => rw [ei] at h; cases h
    | some ns =>
      rw [ei] at h
      cases el : leastI ns with
      | none => rw [show (some ns).bind leastI = leastI ns from rfl, el] at h; cases h
      | some m =>
        rw [show (some ns).bind leastI = leastI ns from rfl, el] at h
        cases h
        obtain ⟨p, vs, rfl, hq, k1⟩ := r.listF sb
        obtain ⟨h1, h2⟩ := leastI_ok el
        refine ⟨p, ns, rfl, by rw [← intsD_ok k1 ei]; exact hq, List.length_pos_of_mem h1, fun m' hm' hall => ?_⟩
        have : m' = m := Int.le_antisymm (hall m h1) (h2 m' hm')
        rw [this]
        exact q _ _ _ (Go.refl _ _ _) sb (.int _)
  · cases h
theorem cd_maxL (hc : X.calm = true) : CallR X (.builtin "max") (rC1 X.K maxLD) := by
  refine CallR.imp (cr_max hc) fun xs H Q ⟨x, e, pc, F, d, z, r, sb, h, q⟩ => ?_
  subst e
  unfold maxLD at h
  split at h
  · rename_i ds
    cases ei : intsD ds with
    | none => rw [ei] at h; cases h
    | some ns =>
      rw [ei] at h
      cases el : mostI ns with
      | none => rw [show (some ns).bind mostI = mostI ns from rfl, el] at h; cases h
      | some m =>
        rw [show (some ns).bind mostI = mostI ns from rfl, el] at h
        cases h
        obtain ⟨p, vs, rfl, hq, k1⟩ := r.listF sb
        obtain ⟨h1, h2⟩ := mostI_ok el
        refine ⟨p, ns, rfl, by rw [← intsD_ok k1 ei]; exact hq, List.length_pos_of_mem h1, fun m' hm' hall => ?_⟩
        have : m' = m := Int.le_antisymm (h2 m' hm') (hall m h1)
        rw [this]
        exact q _ _ _ (Go.refl _ _ _) sb (.int _)
  · cases h
end
section
variable {X : Cx} {E : XK} {a b : Expr} {ma mb : M D} {pos : Pos} {g : D → D → Option D}
theorem pf_cmpN {op : CmpOp} (hm : behindInMarks op b = false) (ho : OpR X (compareOp op) (rO2 X.K g)) (ha : PB X E a ma) (hb : PB X E b mb) : PF X E (.Compare a [op] [b] pos) (m2 g ma mb) := pf_cmp ho ha hb hm
end
section
@[simp] theorem sortD_l {ds : List D} (h : sortOk ds = true) : sortD (.list ds) = some (.list (srt ds)) := if_pos h
@[simp] theorem minLD_l (ds : List D) : minLD (.list ds) = ((intsD ds).bind leastI).map .int := (rfl)
@[simp] theorem maxLD_l (ds : List D) : maxLD (.list ds) = ((intsD ds).bind mostI).map .int := (rfl)
@[simp] theorem inD_ap (d e : D) : inD d e = (inDb d e).map .bool := (rfl)
@[simp] theorem ninD_ap (d e : D) : ninD d e = (inDb d e).map (fun b => .bool (!b)) := (rfl)
end
end Pu
end

noncomputable section
set_option Elab.async false
set_option linter.all false
set_option maxRecDepth 100000
set_option maxHeartbeats 4000000
/-! Pu13: [::-1] of texts, lists, tuples; tuples n times. -/
namespace HT
open PySem PySem.Spec PyProof.Rows L2
section
variable {prog : Program} {w : World} {A : Around} {E : Value → Shared → Prop} {s : Shared}
theorem fm_congr {α β : Type} {f g : α → Option β} : ∀ {l : List α}, (∀ x ∈ l, f x = g x) → l.filterMap f = l.filterMap g
  | [], _ => rfl
  | x :: l, h => by
    have h1 := h x List.mem_cons_self
    have h2 := fm_congr (l := l) fun y hy => h y (List.mem_cons_of_mem _ hy)
    simp only [List.filterMap_cons, h1, h2]
theorem pickRev (xs : Array Value) (n : Nat) (hn : n = xs.size) : ((List.range n).filterMap fun (m : Nat) => xs[(((n : Int) - 1) + (m : Int) * -1).toNat]?).toArray = xs.toList.reverse.toArray := by
  subst hn
  congr 1
  have e : (List.range xs.size).filterMap (fun (m : Nat) => xs[(((xs.size : Nat) : Int) - 1 + (m : Int) * -1).toNat]?) = ((List.range xs.size).map fun k => xs.size - 1 - k).filterMap (xs[·]?) := by
    rw [List.filterMap_map]
    refine fm_congr fun m hm => ?_
    have := List.mem_range.mp hm
    show xs[_]? = xs[xs.size - 1 - m]?
    congr 1
    omega
  rw [e, PySem.W.krv_range, List.filterMap_reverse, PySem.W.krv_all]
theorem sliceApplied_rev {sl : Addr} {t : Tok} {n : Nat} {Q : Int × Int × Nat → Shared → Prop} (hs : s.heap.IsSliceOf sl .none .none (.int (-1) t))
    (h : Q ((n : Int) - 1, -1, n) s) : wpAny (model prog w) A (Builtin.Slice.sliceApplied (.ref sl) (pure (n : Int))) Q E s := by
  obtain ⟨os, hos, hcs, hds⟩ := id hs
  unfold Builtin.Slice.sliceApplied Builtin.Slice.sliceFields
  refine wpAny_bind (wpAny_bind (wpAny_field hos hds (x := .none) rfl (wpAny_bind (wpAny_field hos hds (x := .none) rfl (wpAny_bind (wpAny_field hos hds (x := .int (-1) t) rfl (wpAny_pure ?_)))))))
  refine wpAny_bind (slicePart_int ?_)
  show wpAny _ _ (if ((-1 : Int) == 0) = true then _ else _) _ _ s
  rw [if_neg (by decide)]
  refine wpAny_bind (slicePart_none (wpAny_bind (slicePart_none (wpAny_bind (wpAny_pure ?_)))))
  show wpAny _ _ (pure ((n : Int) - 1, (-1 : Int), Builtin.Slice.slicePlaces ((n : Int) - 1) (-1) (-1))) _ _ s
  have : Builtin.Slice.slicePlaces ((n : Int) - 1) (-1) (-1) = n := by
    unfold Builtin.Slice.slicePlaces
    rw [if_neg (by decide)]
    by_cases h0 : (n : Int) - 1 > -1
    · rw [if_pos h0]
      have e : ((n : Int) - 1 - -1 - 1) / (- -1) = (n : Int) - 1 := by
        rw [show (- (-1 : Int)) = 1 from rfl, Int.ediv_one]; omega
      rw [e]; omega
    · rw [if_neg h0]; omega
  rw [this]
  exact wpAny_pure h
theorem getItem_tuple_rev {t sl : Addr} {items : Array Value} {u : Tok} {Q : Value → Shared → Prop} (ht : IsTup s.heap t items) (hs : s.heap.IsSliceOf sl .none .none (.int (-1) u))
    (h : Q (.ref s.heap.objs.size) { s with heap := s.heap.push { cls := .type "tuple", data := .seq items.toList.reverse.toArray } }) (hsz : items.size ≤ sizeLine) : wpAny (model prog w) A (getItem (.ref t) (.ref sl)) Q E s := by
  have htake : sizeOk (.seq items.toList.reverse.toArray) := by
    show items.toList.reverse.toArray.size ≤ sizeLine
    rw [List.size_toArray, List.length_reverse, Array.length_toList]
    exact hsz
  obtain ⟨os, hos, hcs, hds⟩ := id hs
  have hTs : s.TypeIs (.ref sl) "slice" := ⟨os, hos, hcs⟩
  unfold getItem
  try with_reducible refine wpAny_holding ?_
  first | refine wpAny_bind (wpAny_pure ?_) | skip
  refine wpAny_bind (wpAny_sequenceKey ht.typeIs (by decide) ?_)
  refine wpAny_bind (wpAny_callSpecial?_slot (name := Str.ofString "__getitem__") ht.typeIs PyProof.Rows.slot_tuple_getitem
    (wpAny_call_entry PyProof.Rows.slot_tuple_getitem ht.typeIs entry_tuple_getitem ?_ (args_tuple_getitem _ _)))
  show wpAny _ _ (Builtin.Tuple.tupleItemsOf (.ref t) >>= _) _ _ s
  refine wpAny_bind (tupleItemsOf_ ht ?_)
  refine wpAny_bind (wpAny_typeOf hTs ?_)
  rw [if_pos (by decide)]
  refine wpAny_bind (sliceApplied_rev hs ?_)
  have hno : ¬ (((((items.size : Nat) : Int) - 1) == 0 && (-1 : Int) == 1 && items.size == items.size) = true) := by simp
  show wpAny _ _ (if ((((items.size : Nat) : Int) - 1) == 0 && (-1 : Int) == 1 && items.size == items.size) = true then _ else _) _ _ s
  rw [if_neg hno, pickRev _ _ rfl]
  first
    | exact wpAny_bind (m := Builtin.Tuple.tupleExact _) (wpAny_newObj_type (wpAny_pure ⟨_, rfl, wpAny_pure h⟩) htake)
    | exact wpAny_bind (m := Builtin.Tuple.tupleExact _) (wpAny_newObj_type (wpAny_bind (wpAny_pure (wpAny_pure ⟨_, rfl, wpAny_pure h⟩))) htake)
    | exact wpAny_bind (wpAny_bind (m := Builtin.Tuple.tupleExact _) (wpAny_newObj_type (wpAny_pure (wpAny_pure ⟨_, rfl, wpAny_pure h⟩)) htake))
    | exact wpAny_bind (wpAny_bind (m := Builtin.Tuple.tupleExact _) (wpAny_newObj_type (wpAny_pure ⟨_, rfl, wpAny_pure h⟩) htake))
end
end HT
namespace Pu
open PySem PySem.Spec L2 HT PyProof.Rows
def revS (z : Str) : Str := ⟨z.cps.toList.reverse.toArray⟩
theorem strIdx_rev (n : Nat) : Builtin.Str.strSliceIndices none none (-1) n = (List.range n).reverse := by
  rw [← PySem.W.krv_range, ← PySem.W.krv_sliceRange]
  unfold Builtin.Str.strSliceIndices
  simp
def rRev (K : PySem.W.Frag) : V → Hp → VK → Prop := fun x H Q => (∃ a xs, x = .ref a ∧ SqL K H a xs ∧ ∀ p, H p = none → Q (.ref p) (upd H p (.lst xs.reverse))) ∨ (∃ a xs, x = .ref a ∧ SqT K H a xs ∧ ∀ p, H p = none → Q (.ref p) (upd H p (.tup xs.reverse))) ∨
  ∃ z, x = .str z ∧ z.length ≤ sizeLine ∧ Q (.str (revS z)) H
section
variable {X : Cx} {E : XK} {e a b : Expr} {te : TE} {ma mb : M D}
theorem pe_rev {k : Nat} {p1 p2 p3 pos : Pos} (he : PE X e te) : PE X (.Subscript e (.Slice none none (some (.UnaryOp .USub (.Constant (.int 1) k p1) p2)) p3) pos) (tUn (rRev X.K) te) := by
  refine ⟨fun pins s σ H Q I h => ?_⟩
  refine Subscript_ (thn (he.run pins s σ H _ I h) fun v s1 ⟨x, H1, I1, r1, q1⟩ => ?_)
  have hst : PO X (some (.UnaryOp .USub (.Constant (.int 1) k p1) p2)) (tPart (tUn (rU fun i => .int (-i)) (tC (.int 1)))) := po_some (pe_un un_neg pe_int)
  refine wpAny_Slice (thn (po_none.run pins s1 σ H1 (fun o H2 => o = none ∧ H2 = H1) I1 ⟨rfl, rfl⟩) fun vl s2 ⟨l, H2, I2, pl, el, e2⟩ => ?_)
  subst el e2
  refine thn (po_none.run pins s2 σ H2 (fun o H3 => o = none ∧ H3 = H2) I2 ⟨rfl, rfl⟩) fun vu s3 ⟨u, H3, I3, pu, eu, e3⟩ => ?_
  subst eu e3
  refine thn (hst.run pins s3 σ H3 (fun o H4 => o = some (-1) ∧ H4 = H3) I3 ⟨1, rfl, -1, rfl, rfl, rfl⟩) fun vs s4 ⟨o, H4, I4, ps, eo, e4⟩ => ?_
  subst eo e4
  have I5 : Inv X pins σ H4 { s4 with heap := s4.heap.push { cls := .type "slice", data := .fields #[vl, vu, vs] } } := I4.kept (t' := s4.toks) fun b ob q => Heap.get?_push_of_some _ q
  cases pl
  cases pu
  cases ps with
  | int _ tk =>
  rcases q1 with ⟨a, xs, ex, hx, q⟩ | ⟨a, xs, ex, hx, q⟩ | ⟨z, ex, hz, q⟩
  · subst ex
    cases r1
    obtain ⟨its, r, ht, hz⟩ := I5.list hx
    have hlen := r.length
    show wpAny (model X.prog X.w) X.A (subscriptTail e (.Slice none none (some (.UnaryOp .USub (.Constant (.int 1) k p1) p2)) p3) (.ref a) (.ref s4.heap.objs.size)) (EP X pins σ Q) X.xe { s4 with heap := s4.heap.push { cls := .type "slice", data := .fields #[.none, .none, .int (-1) tk] } }
    refine tail_any (ops := [.ref a, .ref s4.heap.objs.size]) ht.isList.typeIs (PySem.slot_list_getitem.lookup) ?_ (by with_unfolding_all rfl)
    refine wpAny_getItem_list_slice ht.isList (Heap.IsSliceOf.new _ .none .none (.int (-1) tk)) .none .none (.int _ _) (by decide) ?_ (by rw [List.size_toArray]; omega)
    rw [PySem.W.krv_pick]
    refine ⟨.ref _, _, I5.laid (t' := s4.toks) (o := .lst xs.reverse) (fun b ob q => Heap.get?_push_of_some _ q) (Nat.le_refl _) ?_, rfl, q _ (I5.hok.fresh (Nat.le_refl _))⟩
    exact ⟨by rw [List.length_reverse]; exact hz, _, 0, r.reverse, Heap.get?_push_size _ rfl⟩
  · subst ex
    cases r1
    obtain ⟨its, r, ht, hz⟩ := I5.tuple hx
    have hlen := r.length
    show wpAny (model X.prog X.w) X.A (subscriptTail e (.Slice none none (some (.UnaryOp .USub (.Constant (.int 1) k p1) p2)) p3) (.ref a) (.ref s4.heap.objs.size)) (EP X pins σ Q) X.xe { s4 with heap := s4.heap.push { cls := .type "slice", data := .fields #[.none, .none, .int (-1) tk] } }
    refine tail_any (ops := [.ref a, .ref s4.heap.objs.size]) ht.typeIs (PyProof.Rows.slot_tuple_getitem.lookup) ?_ (by with_unfolding_all rfl)
    refine getItem_tuple_rev ht (Heap.IsSliceOf.new _ .none .none (.int (-1) tk)) ?_ (by rw [List.size_toArray]; omega)
    refine ⟨.ref _, _, I5.laid (t' := s4.toks) (o := .tup xs.reverse) (fun b ob q => Heap.get?_push_of_some _ q) (Nat.le_refl _) ?_, rfl, q _ (I5.hok.fresh (Nat.le_refl _))⟩
    exact ⟨by rw [List.length_reverse]; exact hz, _, r.reverse, IsTup.new _ _⟩
  · subst ex
    obtain ⟨t, rfl⟩ := r1
    show wpAny (model X.prog X.w) X.A (subscriptTail e (.Slice none none (some (.UnaryOp .USub (.Constant (.int 1) k p1) p2)) p3) (.str z t) (.ref s4.heap.objs.size)) (EP X pins σ Q) X.xe { s4 with heap := s4.heap.push { cls := .type "slice", data := .fields #[.none, .none, .int (-1) tk] } }
    refine tail_any (ops := [.ref s4.heap.objs.size, .str z t]) (typeIs_str _ _ _) F.slot_str_getitem.lookup ?_ (by with_unfolding_all rfl)
    refine wpAny_getItem_str_slice (l := none) (u := none) (st := some (-1, tk)) ⟨_, Heap.get?_push_size _ rfl, rfl, rfl⟩ rfl ?_
    show Made.post (if ((-1 : Int) == 1 && (Builtin.Str.strSliceIndices none none (-1) z.length).length == z.length) = true then Made.val (.str z t)
      else Made.str ⟨((Builtin.Str.strSliceIndices none none (-1) z.length).filterMap (z.cps[·]?)).toArray⟩) (EP X pins σ Q) _
    rw [if_neg (by simp), strIdx_rev]
    have e1 : (⟨((List.range z.length).reverse.filterMap (z.cps[·]?)).toArray⟩ : Str) = revS z := by
      unfold revS
      rw [List.filterMap_reverse]
      have := PySem.W.krv_all z.cps
      rw [show z.length = z.cps.size from rfl, this]
    rw [e1]
    refine ⟨?_, .str _, H4, I5.tok _, ⟨_, rfl⟩, q⟩
    show (z.cps.toList.reverse.toArray).size ≤ sizeLine
    rw [List.size_toArray, List.length_reverse, Array.length_toList]
    exact hz
def revD : D → Option D
  | .list xs => some (.list xs.reverse)
  | .tuple xs => some (.tuple xs.reverse)
  | .str z => if leN z.length = true then some (.str (revS z)) else none
  | _ => none
theorem pf_rev {k : Nat} {p1 p2 p3 pos : Pos} (ha : PB X E a ma) : PF X E (.Subscript a (.Slice none none (some (.UnaryOp .USub (.Constant (.int 1) k p1) p2)) p3) pos) (m1 revD ma) := PE.imp (pe_rev ha) fun σ H Q h => by
  have h := rd1 h
  obtain ⟨fr, s, F, hs, q⟩ := h
  refine ⟨fr, s, F, hs, q.mono fun x c1 F1 H1 g1 sb1 cu1 q1 v rv => ?_⟩
  obtain ⟨pc, F2, d, z, r, sb, e, k⟩ := q1 v rv
  unfold revD at e
  split at e
  · cases e
    obtain ⟨p, vs, rfl, h1, h2⟩ := r.listF sb
    refine .inl ⟨p, vs, rfl, h1, fun t ht => ?_⟩
    obtain ⟨g, sb', r'⟩ := new_lst (K := X.K) sb ht h2.reverse
    exact k _ _ _ g sb' r'
  · cases e
    obtain ⟨p, vs, rfl, h1, h2⟩ := r.tuple
    refine .inr (.inl ⟨p, vs, rfl, SqT.of (sb _ _ h1), fun t ht => ?_⟩)
    obtain ⟨g, sb', r'⟩ := new_tup (fr := fr) sb ht h2.reverse
    exact k _ _ _ g sb' r'
  · split at e
    · rename_i hl
      cases e
      exact .inr (.inr ⟨_, r.str, leN_le hl, k _ _ _ (Go.refl _ _ _) sb (.str _)⟩)
    · cases e
  · cases e
end
/-! ### tuples n times -/
theorem tuple_mul1 (l : Addr) (items : Array Value) (n : Nat) (dd : Option Addr) (sl : Array (Option Value)) (x : Int) (u : Tok) (c0 : (decide (x < -(2 ^ 63)) || decide (x ≥ 2 ^ 63)) = false) (c1 : (items.isEmpty || x == 1) = true) :
    Meets (Builtin.«tuple.__mul__» ⟨[.ref l, .int x u], []⟩) (fun _ R s => s.heap.get? l = some { cls := .type "tuple", dict := dd, data := .seq items n, slots := sl } ∧ R (.ok (.ret (Value.ref l))) { s with heap := s.heap, toks := s.toks }) :=
  .of_wp fun prog w A R s h => by
    obtain ⟨hp, g, d, tk, os⟩ := s
    obtain ⟨hl, h⟩ := h
    have f1 := AutoSeq1.idx_int
    have f2 := AutoSeq1.sub_tuple_tuple
    wp_walk using wpAny_loadPart' hl
    repeat (first
      | (refine wpAny_ite_false (decide_eq_false (by rw [c0]; exact Bool.false_ne_true)) ?_; wp_walk using wpAny_loadPart' hl)
      | (refine wpAny_ite_true (decide_eq_true c1) ?_; wp_walk using wpAny_loadPart' hl))
    exact ⟨_, rfl, h⟩
def rRepS (K : PySem.W.Frag) : R2 := fun x y H Q => ∃ l k xs, x = .ref l ∧ y = .int k ∧ SqT K H l xs ∧ (xs = [] ∨ k = 1) ∧ -1000 ≤ k ∧ k ≤ 1000 ∧ Q (.ref l) H
theorem op_repS {X : Cx} : OpR X (binaryOp .Mult) (rRepS X.K) := by
  intro pins s σ H x y v u Q I rx ry h
  obtain ⟨l, k, xs, rfl, rfl, hT, hne, h1, h2, q⟩ := h
  cases rx
  obtain ⟨t, rfl⟩ := ry
  obtain ⟨its, r, ⟨⟨cls, dd, data, sl⟩, ho, hc, n, hd⟩, hs⟩ := I.tuple hT
  simp only at hc hd
  subst hc hd
  have hle : its.length = xs.length := r.length.symm
  have c0 : (decide (k < -(2 ^ 63)) || decide (k ≥ 2 ^ 63)) = false := by
    rw [decide_eq_false (by omega), decide_eq_false (by omega)] <;> rfl
  have c1 : (its.toArray.isEmpty || k == 1) = true := by
    rcases hne with rfl | rfl
    · have : its = [] := List.eq_nil_of_length_eq_zero (by rw [hle]; rfl)
      subst this; rfl
    · simp
  refine wpAny_binaryOp_repeat_ref (T := "tuple") (U := "int") (by decide) ⟨_, ho, rfl⟩ (fun s' => typeIs_int s' k t) noFill_tuple_mul F.fills_int_mul F.slot_int_rmul repeat_tuple F.slot_int_index.lookup
    (call_meets F.slot_int_rmul (typeIs_int s k t) F.entry_int_rmul (F.args_int_rmul_2 _ _) (int_rmul_tuple k t l its.toArray n dd sl)
      ⟨ho, rfl, ⟨_, ho, rfl⟩, call_meets F.slot_tuple_mul ⟨_, ho, rfl⟩ F.entry_tuple_mul (F.args_tuple_mul_2 _ _) (tuple_mul1 l its.toArray n dd sl k t c0 c1) ⟨ho, ?_⟩⟩)
  exact ⟨.ref l, H, I, rfl, q⟩
theorem RpL.flat {K : PySem.W.Frag} {F : Hp} {vs : List V} {ds : List D} (r : RpL K F vs ds) : ∀ m : Nat, RpL K F (List.replicate m vs).flatten (List.replicate m ds).flatten
  | 0 => .nil
  | m + 1 => by
    rw [List.replicate_succ, List.replicate_succ, List.flatten_cons, List.flatten_cons]
    exact r.append (RpL.flat r m)
theorem repX_ex : ∃ f : List D → Int → Bool, ∀ a k, f a k = true ↔ (1 ≤ k ∧ k ≤ 1000 ∧ a.length ≤ 1000) := ⟨fun a k => decide (1 ≤ k ∧ k ≤ 1000 ∧ a.length ≤ 1000), fun a k => by simp⟩
def repX : List D → Int → Bool := Classical.choose repX_ex
theorem repX_i {a : List D} {k : Int} : repX a k = true ↔ (1 ≤ k ∧ k ≤ 1000 ∧ a.length ≤ 1000) := Classical.choose_spec repX_ex a k
/-- a product, tuples too -/
def mulX : D → D → Option D
  | .tuple xs, .int k => if repX xs k = true then some (.tuple (List.replicate k.toNat xs).flatten) else none
  | a, b => mulD a b
theorem od_mulX {X : Cx} : OpR X (binaryOp .Mult) (rO2 X.K mulX) := by
  refine OpR.imp (OpR.or (OpR.or op_repS op_repT) od_mul) fun x y H Q ⟨pc, F, d, e, z, r1, r2, sb, h, q⟩ => ?_
  unfold mulX at h
  split at h
  · split at h
    · rename_i xs k hl
      cases h
      obtain ⟨l1, l2, l3⟩ := repX_i.mp hl
      obtain ⟨p, vs, rfl, h1, k1⟩ := r1.tuple
      have hlen := k1.length
      by_cases hc : vs = [] ∨ k = 1
      · refine .inl (.inl ⟨p, k, vs, rfl, r2.int, SqT.of (sb _ _ h1), hc, by omega, l2, q _ _ _ (Go.refl _ _ _) sb ?_⟩)
        have : (List.replicate k.toNat xs).flatten = xs := by
          rcases hc with rfl | rfl
          · have : xs = [] := List.eq_nil_of_length_eq_zero (by rw [← hlen]; rfl)
            subst this; simp
          · simp
        rw [this]
        exact .tup h1 k1
      · have hc1 : vs ≠ [] := fun e => hc (.inl e)
        have hc2 : k ≠ 1 := fun e => hc (.inr e)
        refine .inl (.inr ⟨p, k, vs, rfl, r2.int, SqT.of (sb _ _ h1), hc1, by omega, l2, by omega, fun t ht => ?_⟩)
        obtain ⟨g, sb', r'⟩ := new_tup (K := X.K) (fr := ⟨none, F, H⟩) sb ht (k1.flat k.toNat)
        exact q _ _ _ g sb' r'
    · cases h
  · exact .inr ⟨pc, F, _, _, z, r1, r2, sb, h, q⟩
end Pu
end

noncomputable section
set_option Elab.async false
set_option linter.all false
set_option maxRecDepth 100000
set_option maxHeartbeats 4000000
/-! Pu14: order of data: <, <=, >, >=, min, max over lists and tuples of any alike data. -/
namespace Pu
open PySem PySem.Spec L2 HT PyProof.Rows
section
variable {X : Cx} {E : XK} {a b : Expr} {ma mb : M D} {pos : Pos} {g : D → D → Option D}
theorem pt_cmpN {op : CmpOp} (hm : behindInMarks op b = false) (ho : OpR X (compareOp op) (rO2 X.K g)) (ha : PB X E a ma) (hb : PB X E b mb) : PTD X E (.Compare a [op] [b] pos) (mB (m2 g ma mb)) := pt_cmp ho ha hb hm
end
def AlkOk (ds : List D) : Prop := PySem.W.AlikeAll ds ∧ plain.plainAll ds = true ∧ PyData.depthAll ds ≤ 60
theorem alkOk_ex : ∃ f : List D → Bool, ∀ ds, f ds = true ↔ AlkOk ds := by
  classical
  exact ⟨fun ds => decide (AlkOk ds), fun ds => by simp⟩
def alkOk : List D → Bool := Classical.choose alkOk_ex
theorem alkOk_i {ds : List D} : alkOk ds = true ↔ AlkOk ds := Classical.choose_spec alkOk_ex ds
def rMMDt (K : PySem.W.Frag) (f : D → List D → D) : List V → Hp → VK → Prop := fun vs H Q => ∃ (a : Addr) (xs : List V) (d : D) (ds : List D), vs = [V.ref a] ∧ (SqL K H a xs ∨ SqT K H a xs) ∧ DpAll K H xs (d :: ds) ∧ AlkOk (d :: ds) ∧
  ∀ (i : Nat) v, xs[i]? = some v → (d :: ds)[i]? = some (f d ds) → Q v H
section
variable {X : Cx}
theorem vals_back : ∀ {xs : List V} {us : List Value} {i : Nat} {u : Value}, Vals xs us → us[i]? = some u → ∃ x, xs[i]? = some x ∧ RelV x u
  | _, _, _, _, .nil, h => by simp at h
  | _, _, 0, _, .cons r _, h => by simp at h; subst h; exact ⟨_, rfl, r⟩
  | _, _, i + 1, _, .cons _ rs, h => by
    obtain ⟨x, h1, h2⟩ := vals_back (i := i) rs (by simpa using h)
    exact ⟨x, by simpa using h1, h2⟩
theorem getD_some {ds : List D} {i : Nat} (h : i < ds.length) : ds[i]? = some (ds.getD i .none) := by
  rw [List.getD_eq_getElem?_getD, List.getElem?_eq_getElem h]; rfl
theorem cr_minDt (hc : X.calm = true) (hu : X.A.units + 130 < cLine) : CallR X (.builtin "min") (rMMDt X.K PySem.W.minD) := by
  intro pins s σ H vs us Q I r h
  obtain ⟨a, xs, d, ds, rfl, hs, hd, ⟨ha, hp, hdep⟩, q⟩ := h
  rw [Vals.ref1 r]
  have hh := I.ok.hd hc
  have fin : ∀ (its : List Value) (i : Nat) (v : Value) (h' : Heap) (tk : Nat), Vals xs its → its[i]? = some v → (d :: ds)[i]? = some (PySem.W.minD d ds) → (∀ b o, s.heap.get? b = some o → h'.get? b = some o) → EP X pins σ Q v { s with heap := h', toks := tk } := fun its i v h' tk rv hi e hk => by
    obtain ⟨x, h1, h2⟩ := vals_back rv hi
    exact ⟨x, H, I.kept hk, h2, q i x h1 e⟩
  rcases hs with hs | hs
  · obtain ⟨its, rv, hl, _⟩ := I.list hs
    obtain ⟨as, hr⟩ := Dp.readsAll I _ _ _ hd rv
    have hn : its.length = ds.length + 1 := by have := PySem.W.readsAll_len hr; simpa using this
    refine call_min_walkH (PySem.W.iter_listW (A := X.A.in1) hh hl.isList fun s₂ e W st hfp hw hk => ?_)
    refine ⟨_, _, _, _, _, _, _, s.heap, _, rfl, W, st, hfp, by simp; omega, hw, hk, PySem.W.cmpIn_lt (A := X.A.in1) (by simpa using hr) ha (by show X.A.units + 1 + _ < _; omega), fun v s' hP m => ?_⟩
    obtain ⟨h', tk, rfl, hk'⟩ := PySem.W.moved_old e rfl m
    have e1 : its.toArray.size - 1 = ds.length := by rw [List.size_toArray, hn]; rfl
    have e2 := PySem.W.argBest_fold PySem.W.dataLt PyData.none d ds ds.length (Nat.le_refl _)
    rw [List.take_length] at e2
    rw [e1] at hP
    refine fin its _ v h' tk rv (by rw [List.getElem?_toArray] at hP; exact hP) ?_ hk'
    rw [getD_some (by rw [List.length_cons]; exact Nat.lt_succ_of_le e2.1), e2.2]; rfl
  · obtain ⟨its, rv, hl, _⟩ := I.tuple hs
    obtain ⟨as, hr⟩ := Dp.readsAll I _ _ _ hd rv
    have hn : its.length = ds.length + 1 := by have := PySem.W.readsAll_len hr; simpa using this
    refine call_min_walkH (PySem.W.iter_tupleW (A := X.A.in1) hh hl fun s₂ e W st hfp hw hk => ?_)
    refine ⟨_, _, _, _, _, _, _, s.heap, _, rfl, W, st, hfp, by simp; omega, hw, hk, PySem.W.cmpIn_lt (A := X.A.in1) (by simpa using hr) ha (by show X.A.units + 1 + _ < _; omega), fun v s' hP m => ?_⟩
    obtain ⟨h', tk, rfl, hk'⟩ := PySem.W.moved_old e rfl m
    have e1 : its.toArray.size - 1 = ds.length := by rw [List.size_toArray, hn]; rfl
    have e2 := PySem.W.argBest_fold PySem.W.dataLt PyData.none d ds ds.length (Nat.le_refl _)
    rw [List.take_length] at e2
    rw [e1] at hP
    refine fin its _ v h' tk rv (by rw [List.getElem?_toArray] at hP; exact hP) ?_ hk'
    rw [getD_some (by rw [List.length_cons]; exact Nat.lt_succ_of_le e2.1), e2.2]; rfl
theorem cr_maxDt (hc : X.calm = true) (hu : X.A.units + 130 < cLine) : CallR X (.builtin "max") (rMMDt X.K PySem.W.maxD) := by
  intro pins s σ H vs us Q I r h
  obtain ⟨a, xs, d, ds, rfl, hs, hd, ⟨ha, hp, hdep⟩, q⟩ := h
  rw [Vals.ref1 r]
  have hh := I.ok.hd hc
  have fin : ∀ (its : List Value) (i : Nat) (v : Value) (h' : Heap) (tk : Nat), Vals xs its → its[i]? = some v → (d :: ds)[i]? = some (PySem.W.maxD d ds) → (∀ b o, s.heap.get? b = some o → h'.get? b = some o) → EP X pins σ Q v { s with heap := h', toks := tk } := fun its i v h' tk rv hi e hk => by
    obtain ⟨x, h1, h2⟩ := vals_back rv hi
    exact ⟨x, H, I.kept hk, h2, q i x h1 e⟩
  rcases hs with hs | hs
  · obtain ⟨its, rv, hl, _⟩ := I.list hs
    obtain ⟨as, hr⟩ := Dp.readsAll I _ _ _ hd rv
    have hn : its.length = ds.length + 1 := by have := PySem.W.readsAll_len hr; simpa using this
    refine call_max_walkH (PySem.W.iter_listW (A := X.A.in1) hh hl.isList fun s₂ e W st hfp hw hk => ?_)
    refine ⟨_, _, _, _, _, _, _, s.heap, _, rfl, W, st, hfp, by simp; omega, hw, hk, PySem.W.cmpIn_gt (A := X.A.in1) (by simpa using hr) ha (by show X.A.units + 1 + _ < _; omega), fun v s' hP m => ?_⟩
    obtain ⟨h', tk, rfl, hk'⟩ := PySem.W.moved_old e rfl m
    have e1 : its.toArray.size - 1 = ds.length := by rw [List.size_toArray, hn]; rfl
    have e2 := PySem.W.argBest_fold (fun a b => PySem.W.dataLt b a) PyData.none d ds ds.length (Nat.le_refl _)
    rw [List.take_length] at e2
    rw [e1] at hP
    refine fin its _ v h' tk rv (by rw [List.getElem?_toArray] at hP; exact hP) ?_ hk'
    rw [getD_some (by rw [List.length_cons]; exact Nat.lt_succ_of_le e2.1), e2.2]; rfl
  · obtain ⟨its, rv, hl, _⟩ := I.tuple hs
    obtain ⟨as, hr⟩ := Dp.readsAll I _ _ _ hd rv
    have hn : its.length = ds.length + 1 := by have := PySem.W.readsAll_len hr; simpa using this
    refine call_max_walkH (PySem.W.iter_tupleW (A := X.A.in1) hh hl fun s₂ e W st hfp hw hk => ?_)
    refine ⟨_, _, _, _, _, _, _, s.heap, _, rfl, W, st, hfp, by simp; omega, hw, hk, PySem.W.cmpIn_gt (A := X.A.in1) (by simpa using hr) ha (by show X.A.units + 1 + _ < _; omega), fun v s' hP m => ?_⟩
    obtain ⟨h', tk, rfl, hk'⟩ := PySem.W.moved_old e rfl m
    have e1 : its.toArray.size - 1 = ds.length := by rw [List.size_toArray, hn]; rfl
    have e2 := PySem.W.argBest_fold (fun a b => PySem.W.dataLt b a) PyData.none d ds ds.length (Nat.le_refl _)
    rw [List.take_length] at e2
    rw [e1] at hP
    refine fin its _ v h' tk rv (by rw [List.getElem?_toArray] at hP; exact hP) ?_ hk'
    rw [getD_some (by rw [List.length_cons]; exact Nat.lt_succ_of_le e2.1), e2.2]; rfl
def mmD (f : D → List D → D) : D → Option D
  | .list (d :: ds) => if alkOk (d :: ds) = true then some (f d ds) else none
  | .tuple (d :: ds) => if alkOk (d :: ds) = true then some (f d ds) else none
  | _ => none
def minGD : D → Option D := mmD PySem.W.minD
def maxGD : D → Option D := mmD PySem.W.maxD
theorem RpL.dpH {K : PySem.W.Frag} {F H : Hp} (sb : Same F H) {vs : List V} {ds : List D} (p : plain.plainAll ds = true) (r : RpL K F vs ds) : DpAll K H vs ds := RpL.dp p (r.mono sb)
theorem mm_rd {f : D → List D → D} {xs : List V} {H : Hp} {Q : VK} (h : rC1E X.K (mmD f) xs H Q) : rMMDt X.K f xs H Q := by
  obtain ⟨x, e, pc, F, d, z, r, sb, e2, q⟩ := h
  subst e
  unfold mmD at e2
  split at e2
  · rename_i d ds
    split at e2
    · rename_i hl
      cases e2
      have hl := alkOk_i.mp hl
      obtain ⟨p, vs, rfl, h1, h2⟩ := r.listF sb
      refine ⟨p, vs, d, ds, rfl, .inl h1, h2.dpH sb hl.2.1, hl, fun i v hv hd => ?_⟩
      obtain ⟨w, hw1, hw2⟩ := h2.get i hd
      rw [hv] at hw1
      cases hw1
      exact finE q sb hw2
    · cases e2
  · rename_i d ds
    split at e2
    · rename_i hl
      cases e2
      have hl := alkOk_i.mp hl
      obtain ⟨p, vs, rfl, h1, h2⟩ := r.tuple
      refine ⟨p, vs, d, ds, rfl, .inr (SqT.of (sb _ _ h1)), h2.dpH sb hl.2.1, hl, fun i v hv hd => ?_⟩
      obtain ⟨w, hw1, hw2⟩ := h2.get i hd
      rw [hv] at hw1
      cases hw1
      exact finE q sb hw2
    · cases e2
  · cases e2
theorem cd_minG (hc : X.calm = true) (hu : X.A.units + 130 < cLine) : CallR X (.builtin "min") (rC1E X.K minGD) := CallR.imp (cr_minDt hc hu) fun _ _ _ h => mm_rd h
theorem cd_maxG (hc : X.calm = true) (hu : X.A.units + 130 < cLine) : CallR X (.builtin "max") (rC1E X.K maxGD) := CallR.imp (cr_maxDt hc hu) fun _ _ _ h => mm_rd h
/-! ### comparisons -/
def CmpOk (d e : D) : Prop := PySem.W.alike d e = true ∧ d ≠ .none ∧ plain d = true ∧ plain e = true ∧ d.depth ≤ 60
theorem cmpOk_ex : ∃ f : D → D → Bool, ∀ d e, f d e = true ↔ CmpOk d e := by
  classical
  exact ⟨fun d e => decide (CmpOk d e), fun d e => by simp⟩
def cmpOk : D → D → Bool := Classical.choose cmpOk_ex
theorem cmpOk_i {d e : D} : cmpOk d e = true ↔ CmpOk d e := Classical.choose_spec cmpOk_ex d e
def rCmp (K : PySem.W.Frag) (f : D → D → Bool) : R2 := fun x y H Q => ∃ d e, Dp K H x d ∧ Dp K H y e ∧ CmpOk d e ∧ Q (.bl (f d e)) H
theorem op_ltDt (hu : X.A.units + 130 < cLine) : OpR X (compareOp .Lt) (rCmp X.K fun d e => PySem.W.dataLt d e) := by
  intro pins s σ H x y v u Q I rx ry h
  obtain ⟨d, e, hd, he, ⟨h1, h2, _, _, h3⟩, q⟩ := h
  obtain ⟨as, ra⟩ := Dp.reads I _ _ _ hd rx
  obtain ⟨bs, rb⟩ := Dp.reads I _ _ _ he ry
  exact PySem.W.lt_data ra rb h1 h2 (by have := Nat.min_le_left d.depth e.depth; omega) ⟨.bl _, H, I, rfl, q⟩
theorem op_gtDt (hu : X.A.units + 130 < cLine) : OpR X (compareOp .Gt) (rCmp X.K fun d e => PySem.W.dataLt e d) := by
  intro pins s σ H x y v u Q I rx ry h
  obtain ⟨d, e, hd, he, ⟨h1, h2, _, _, h3⟩, q⟩ := h
  obtain ⟨as, ra⟩ := Dp.reads I _ _ _ hd rx
  obtain ⟨bs, rb⟩ := Dp.reads I _ _ _ he ry
  exact PySem.W.gt_data ra rb h1 h2 (by have := Nat.min_le_left d.depth e.depth; omega) ⟨.bl _, H, I, rfl, q⟩
def ltG : D → D → Option D
  | .int i, .int j => ltD (.int i) (.int j)
  | .str i, .str j => ltD (.str i) (.str j)
  | d, e => if cmpOk d e = true then some (.bool (PySem.W.dataLt d e)) else none
def gtG : D → D → Option D
  | .int i, .int j => gtD (.int i) (.int j)
  | .str i, .str j => gtD (.str i) (.str j)
  | d, e => if cmpOk d e = true then some (.bool (PySem.W.dataLt e d)) else none
theorem cmp_rd {f : D → D → Bool} {x y : V} {H : Hp} {Q : VK} {pc : Option Addr} {F : Hp} {d e z : D} (r1 : RpB X.K pc F H x d) (r2 : RpB X.K pc F H y e) (sb : Same F H) (h : (if cmpOk d e = true then some (PyData.bool (f d e)) else none) = some z) (q : Fin1 X.K H F z Q) : rCmp X.K f x y H Q := by
  split at h
  · rename_i hl
    cases h
    have hl := cmpOk_i.mp hl
    exact ⟨d, e, r1.dpH sb hl.2.2.1, r2.dpH sb hl.2.2.2.1, hl, q _ _ _ (Go.refl _ _ _) sb (.bl _)⟩
  · cases h
theorem od_ltG (hu : X.A.units + 130 < cLine) : OpR X (compareOp .Lt) (rO2 X.K ltG) := by
  refine OpR.imp ((op_ltDt hu).or od_lt) fun x y H Q ⟨pc, F, d, e, z, r1, r2, sb, h, q⟩ => ?_
  unfold ltG at h
  split at h
  · exact .inr ⟨pc, F, _, _, z, r1, r2, sb, h, q⟩
  · exact .inr ⟨pc, F, _, _, z, r1, r2, sb, h, q⟩
  · exact .inl (cmp_rd (f := fun d e => PySem.W.dataLt d e) r1 r2 sb h q)
theorem od_gtG (hu : X.A.units + 130 < cLine) : OpR X (compareOp .Gt) (rO2 X.K gtG) := by
  refine OpR.imp ((op_gtDt hu).or od_gt) fun x y H Q ⟨pc, F, d, e, z, r1, r2, sb, h, q⟩ => ?_
  unfold gtG at h
  split at h
  · exact .inr ⟨pc, F, _, _, z, r1, r2, sb, h, q⟩
  · exact .inr ⟨pc, F, _, _, z, r1, r2, sb, h, q⟩
  · exact .inl (cmp_rd (f := fun d e => PySem.W.dataLt e d) r1 r2 sb h q)
end
section
variable {X : Cx} {E : XK} {a : Expr} {ma : M D} {p pos : Pos} {x : Str} {g1 : D → Option D}
theorem pd_b1 {id : String} (hc : CallR X (.builtin id) (rC1E X.K g1)) (hg : Gl X x) (hm : X.mg x = none) (hv : bootBuiltins x = some (.builtin id)) (ha : PB X E a ma) (hn : x ≠ "__name__" := by decide) (hdb : (x == ("__debug__" : Str)) = false := by decide)
    (he : starEach [a] X.env = [(false, eval a X.env)] := by rfl) : PD X E (.Call (.Name x p) [a] [] pos) (m1 g1 ma) :=
  PE.imp (pe_callB hc hg hm hv (L2.pa_cons ha L2.pa_nil he) hn hdb he rfl) fun σ H Q q => by
    have q := rd1E q
    exact q.imp fun fr ⟨s, F, hs, k⟩ => ⟨s, F, hs, k.mono fun d c F' H' _ _ _ q2 v r => ⟨v, rfl, q2 v r⟩⟩
end
end Pu
end

noncomputable section
set_option Elab.async false
set_option linter.all false
set_option maxRecDepth 100000
set_option maxHeartbeats 4000000
/-! Pu15: a, b = .. with one new, one old. -/
namespace Pu
open PySem PySem.Spec L2
def mParEF (i j : Nat) (ma mb : M D) : MS := fun s => mErr (ma s) fun d c => mErr (mb (s.wc c)) fun e c' => .next (((s.wc c').up i (.fz d)).up j (slF e))
def mParFE (i j : Nat) (ma mb : M D) : MS := fun s => mErr (ma s) fun d c => mErr (mb (s.wc c)) fun e c' => .next (((s.wc c').up i (slF d)).up j (.fz e))
section
variable {K : PySem.W.Frag} {mg : Str → Option Value} {E : XK} {σ : L2.St} {H : Hp} {D : Ends} {ma mb : M Pu.D} {i j : Nat}
theorem rd_parEF (h : rdS K mg E (mParEF i j ma mb) D σ H) : tPar i j (tCons (rdE K mg E ma) (tCons (rdF K mg E mb) tNil)) D σ H := by
  obtain ⟨fr, s, F, hs, q⟩ := h
  refine ⟨fr, s, F, hs, (post_of hs q).mono fun d c F1 H1 g sb cu q1 v r => ?_⟩
  have hs1 := hs.step g sb cu
  refine ⟨fr, s.wc c, F1, hs1, (post_of hs1 q1).mono fun e c2 F2 H2 g2 sb2 cu2 q2 w r2 => ⟨v, w, rfl, ?_⟩⟩
  have hs2 := hs1.step g2 sb2 cu2
  have hs3 := hs2.putZ (i := i) (v := v) (r.mono g2.f)
  refine q2 F2 _ H2 (hs3.putF (Ho := H1) hs1.go.t hs1.cupne (fun l u p hl e o k => ?_) r2)
  by_cases hil : i = l
  · subst hil
    have hl : i < s.r.length := by
      have := (List.getElem?_eq_some_iff.mp e).1
      rwa [List.length_set] at this
    rw [List.getElem?_set_self hl] at e
    cases e
    cases o
  · rw [List.getElem?_set_ne hil] at e k
    exact (hs1.own e o k).1
theorem rd_parFE (h : rdS K mg E (mParFE i j ma mb) D σ H) : tPar i j (tCons (rdF K mg E ma) (tCons (rdE K mg E mb) tNil)) D σ H := by
  obtain ⟨fr, s, F, hs, q⟩ := h
  refine ⟨fr, s, F, hs, (post_of hs q).mono fun d c F1 H1 g sb cu q1 v r => ?_⟩
  have hs1 := hs.step g sb cu
  refine ⟨fr, s.wc c, F1, hs1, (post_of hs1 q1).mono fun e c2 F2 H2 g2 sb2 cu2 q2 w r2 => ⟨v, w, rfl, ?_⟩⟩
  have hs2 := hs1.step g2 sb2 cu2
  have hs3 := hs2.putF (i := i) (v := v) hs.go.t hs.cupne (fun j u p _ e o k => (hs.own e o k).1) (r.go g2 hs.cupne)
  exact q2 F2 _ H2 (hs3.putZ r2)
end
section
variable {X : Cx} {E : XK} {a b : Expr} {ma mb : M D} {px py pt pos : Pos} {x y : Str}
theorem st_parEF {k k2 : Nat} {p2 : Pos} (i j : Nat) (hc : X.calm = true) (hN : X.N.Nodup) (hij : i ≠ j) (ha : PD X E a ma) (hb : PF X E b mb) (hi : X.N[i]? = some x := by rfl) (hj : X.N[j]? = some y := by rfl)
    (hx : X.env.scope.names.lookup x = some .local := by rfl) (hy : X.env.scope.names.lookup y = some .local := by rfl)
    (hw : swappedStores [.Tuple [.Name x px, .Name y py] k pt] (.Tuple [a, b] k2 p2) X.env = pure (some [x, y]) := by rfl)
    (hs : swapsWithSole [.Tuple [.Name x px, .Name y py] k pt] (.Tuple [a, b] k2 p2) pos.line X.env = pure false := by rfl)
    (h1 : starEach [a, b] X.env = (false, eval a X.env) :: starEach [b] X.env := by rfl) (h2 : starEach [b] X.env = (false, eval b X.env) :: starEach [] X.env := by rfl) :
    PSD X E (.Assign [.Tuple [.Name x px, .Name y py] k pt] (.Tuple [a, b] k2 p2) pos) (mParEF i j ma mb) :=
  PS.imp (ps_par hc hN hi hj hij hx hy (L2.pa_cons ha (L2.pa_cons hb L2.pa_nil h2) h1) hw hs) fun _ _ _ => rd_parEF
theorem st_parFE {k k2 : Nat} {p2 : Pos} (i j : Nat) (hc : X.calm = true) (hN : X.N.Nodup) (hij : i ≠ j) (ha : PF X E a ma) (hb : PD X E b mb) (hi : X.N[i]? = some x := by rfl) (hj : X.N[j]? = some y := by rfl)
    (hx : X.env.scope.names.lookup x = some .local := by rfl) (hy : X.env.scope.names.lookup y = some .local := by rfl)
    (hw : swappedStores [.Tuple [.Name x px, .Name y py] k pt] (.Tuple [a, b] k2 p2) X.env = pure (some [x, y]) := by rfl)
    (hs : swapsWithSole [.Tuple [.Name x px, .Name y py] k pt] (.Tuple [a, b] k2 p2) pos.line X.env = pure false := by rfl)
    (h1 : starEach [a, b] X.env = (false, eval a X.env) :: starEach [b] X.env := by rfl) (h2 : starEach [b] X.env = (false, eval b X.env) :: starEach [] X.env := by rfl) :
    PSD X E (.Assign [.Tuple [.Name x px, .Name y py] k pt] (.Tuple [a, b] k2 p2) pos) (mParFE i j ma mb) :=
  PS.imp (ps_par hc hN hi hj hij hx hy (L2.pa_cons ha (L2.pa_cons hb L2.pa_nil h2) h1) hw hs) fun _ _ _ => rd_parFE
end
section
variable (s : S)
@[simp] theorem mParEF_ap (i j : Nat) (a b : M D) : mParEF i j a b s = mErr (a s) fun d c => mErr (b (s.wc c)) fun e c' => .next (((s.wc c').up i (.fz d)).up j (slF e)) := (rfl)
@[simp] theorem mParFE_ap (i j : Nat) (a b : M D) : mParFE i j a b s = mErr (a s) fun d c => mErr (b (s.wc c)) fun e c' => .next (((s.wc c').up i (slF d)).up j (.fz e)) := (rfl)
end
end Pu
end

noncomputable section
set_option Elab.async false
set_option linter.all false
set_option maxRecDepth 100000
set_option maxHeartbeats 4000000
/-! Pu, sixteenth part: dicts that a def fills. -/
namespace Pu
open PySem PySem.Spec L2
/-! ### the empty dict is of both kinds -/
section
variable {X : Cx} {pins : List (Addr × Obj)} {σ : L2.St} {H : Hp} {s : Shared} {a : Addr}
theorem inv_KT (I : Inv X pins σ H s) (e : H a = some (.dK [])) : Inv X pins σ (upd H a (.dT [])) s := by
  obtain ⟨_, hd, vs, rel, o, es, ep, hq, h2, h3, h4, h5, h6⟩ := dk_of I.hok e
  cases rel
  have hn : es.toList = [] := by
    cases h : es.toList with
    | nil => rfl
    | cons a b => rw [h] at h5; cases h5
  exact d_write (h' := s.heap) (t' := s.toks) I (by rw [e]; exact True.intro) ⟨rfl, fun b _ => rfl⟩ ⟨o, hq⟩ ⟨Nat.zero_le _, hd, [], .nil, o, es, ep, hq, h2, h3, hn, List.nodup_nil⟩
theorem inv_TK (I : Inv X pins σ H s) (e : H a = some (.dT [])) : Inv X pins σ (upd H a (.dK [])) s := by
  obtain ⟨_, hd, xs, rel, o, es, ep, hq, h2, h3, h4, h5, h6⟩ := dt_of I.hok e
  cases rel
  have hn : es.toList = [] := h4
  have hn : es = #[] := by cases es; simpa using hn
  subst hn
  exact d_write (h' := s.heap) (t' := s.toks) I (by rw [e]; exact True.intro) ⟨rfl, fun b _ => rfl⟩ ⟨o, hq⟩ ⟨Nat.zero_le _, hd, [], .nil, o, #[], ep, hq, h2, h3, (fun e he => by simp at he), .nil, List.nodup_nil⟩
/-- the heap behind a[y] = v, whatever kind an empty dict is of -/
def DPut2 (H : Hp) (a : Addr) (y v : V) (H' : Hp) : Prop := DPut H a y v H' ∨ (H a = some (.dK []) ∧ DPut (upd H a (.dT [])) a y v H') ∨ (H a = some (.dT []) ∧ DPut (upd H a (.dK [])) a y v H')
theorem d_setItem2 {y v : V} {u r : Value} {A : Around} {E : Value → Shared → Prop} {H' : Hp} {Q : Unit → Shared → Prop} (hu : A.units + 1 < cLine) (I : Inv X pins σ H s) (g : DPut2 H a y v H') (ry : RelV y u) (rv : RelV v r) (h : ∀ s', Inv X pins σ H' s' → Q () s') :
    wpAny (model X.prog X.w) A (setItem (.ref a) u r) Q E s := by
  rcases g with g | ⟨e, g⟩ | ⟨e, g⟩
  · exact d_setItem hu I g ry rv h
  · exact d_setItem hu (inv_KT I e) g ry rv h
  · exact d_setItem hu (inv_TK I e) g ry rv h
end
def sDPut2 (td ty tv : TE) : TS := fun D σ H => tv σ H fun v H1 => td σ H1 fun x H2 => ty σ H2 fun y H3 => ∃ a H4, x = .ref a ∧ DPut2 H3 a y v H4 ∧ D.nx σ H4
theorem ps_dput2 {X : Cx} {o i value : Expr} {td ty tv : TE} {pos pos' : Pos} (hu : X.A.units + 1 < cLine) (ho : PE X o td) (hi : PE X i ty) (hv : PE X value tv) (hs : swapsWith value (some (.Subscript o i pos')) pos.line X.env = pure false) :
    PS X (.Assign [.Subscript o i pos'] value pos) (sDPut2 td ty tv) := by
  refine ⟨fun pins s σ H D I h => ?_⟩
  refine wpAny_Assign_Subscript (thn (hv.run pins s σ H _ I h) fun r s1 ⟨v, H1, I1, rv, q1⟩ => thn (ho.run pins s1 σ H1 _ I1 q1) fun u s2 ⟨x, H2, I2, rx, q2⟩ => thn (hi.run pins s2 σ H2 _ I2 q2) fun iv s3 ⟨y, H3, I3, ry, a, H4, ex, g, q3⟩ => ?_) hs
  subst ex
  obtain rfl : u = Value.ref a := rx
  exact d_setItem2 hu I3 g ry rv fun s4 I4 => ⟨σ, H4, I4, q3⟩
/-! ### by data -/
def dputL (ds : List (D × D)) (k d : D) : List (D × D) := if (ds.any fun p => keq p.1 k) = true then ds.map (fun p => if keq p.1 k = true then (p.1, d) else p) else ds ++ [(k, d)]
def tpK : D → Bool
  | .tuple xs => xs.all flK
  | _ => false
/-- keys of one kind -/
def kindOk (ds : List (D × D)) : D → Bool
  | .int _ | .str _ => ds.all fun p => flK p.1
  | .tuple xs => xs.all flK && ds.all fun p => tpK p.1
  | _ => false
def dputD (ds : List (D × D)) (k d : D) : Option (List (D × D)) := if (ltN ds.length && kindOk ds k) = true then some (dputL ds k d) else none
section
variable {K : PySem.W.Frag} {F H : Hp}
theorem keq_key (a b : Key) : keq (keyD a) (keyD b) = decide (a = b) := by cases a <;> cases b <;> simp [keq, keyD]
theorem keq_keys (a b : List Key) : keq (.tuple (a.map keyD)) (.tuple (b.map keyD)) = decide (a = b) := by show keqs _ _ = _; exact keqs_keys a b
theorem RpK.len : ∀ {kvs : List (Key × V)} {ds : List (D × D)}, RpK K F kvs ds → kvs.length = ds.length
  | _, _, .nil => rfl
  | _, _, .consI _ r => by simp [RpK.len r]
  | _, _, .consS _ r => by simp [RpK.len r]
theorem RpT.len : ∀ {kvs : List (List Key × V)} {ds : List (D × D)}, RpT K F kvs ds → kvs.length = ds.length
  | _, _, .nil => rfl
  | _, _, .cons _ r => by simp [RpT.len r]
theorem RpK.c {k : Key} {v : V} {d : D} {kvs : List (Key × V)} {ds : List (D × D)} (h : Rp K F v d) (r : RpK K F kvs ds) : RpK K F ((k, v) :: kvs) ((keyD k, d) :: ds) := by
  cases k with
  | inl i => exact .consI h r
  | inr x => exact .consS h r
theorem RpK.any (k : Key) : ∀ {kvs : List (Key × V)} {ds : List (D × D)}, RpK K F kvs ds → (ds.any fun p => keq p.1 (keyD k)) = kvs.any fun kv => decide (kv.1 = k)
  | _, _, .nil => rfl
  | _, _, .consI (i := i) _ r => by
    rw [List.any_cons, List.any_cons, RpK.any k r]
    have := keq_key (.inl i) k
    rw [show keyD (.inl i) = .int i from rfl] at this
    simp only [this]
  | _, _, .consS (x := i) _ r => by
    rw [List.any_cons, List.any_cons, RpK.any k r]
    have := keq_key (.inr i) k
    rw [show keyD (.inr i) = .str i from rfl] at this
    simp only [this]
theorem RpK.mapP (k : Key) {v : V} {d : D} (hv : Rp K F v d) : ∀ {kvs : List (Key × V)} {ds : List (D × D)}, RpK K F kvs ds → RpK K F (kvs.map fun kv => if kv.1 = k then (kv.1, v) else kv) (ds.map fun p => if keq p.1 (keyD k) = true then (p.1, d) else p)
  | _, _, .nil => .nil
  | _, _, .consI (i := i) h r => by
    have e := keq_key (.inl i) k
    rw [show keyD (.inl i) = .int i from rfl] at e
    rw [List.map_cons, List.map_cons]
    simp only [e, decide_eq_true_eq]
    split
    · exact .consI hv (RpK.mapP k hv r)
    · exact .consI h (RpK.mapP k hv r)
  | _, _, .consS (x := i) h r => by
    have e := keq_key (.inr i) k
    rw [show keyD (.inr i) = .str i from rfl] at e
    rw [List.map_cons, List.map_cons]
    simp only [e, decide_eq_true_eq]
    split
    · exact .consS hv (RpK.mapP k hv r)
    · exact .consS h (RpK.mapP k hv r)
theorem RpK.snoc (k : Key) {v : V} {d : D} (hv : Rp K F v d) : ∀ {kvs : List (Key × V)} {ds : List (D × D)}, RpK K F kvs ds → RpK K F (kvs ++ [(k, v)]) (ds ++ [(keyD k, d)])
  | _, _, .nil => RpK.c hv .nil
  | _, _, .consI h r => .consI h (RpK.snoc k hv r)
  | _, _, .consS h r => .consS h (RpK.snoc k hv r)
theorem RpK.put (k : Key) {v : V} {d : D} (hv : Rp K F v d) {kvs : List (Key × V)} {ds : List (D × D)} (r : RpK K F kvs ds) : RpK K F (putK kvs k v) (dputL ds (keyD k) d) := by
  unfold putK dputL
  rw [r.any k]
  split
  · exact r.mapP k hv
  · exact r.snoc k hv
theorem RpT.any (k : List Key) : ∀ {kvs : List (List Key × V)} {ds : List (D × D)}, RpT K F kvs ds → (ds.any fun p => keq p.1 (.tuple (k.map keyD))) = kvs.any fun kv => decide (kv.1 = k)
  | _, _, .nil => rfl
  | _, _, .cons (ks := i) _ r => by
    rw [List.any_cons, List.any_cons, RpT.any k r]
    simp only [keq_keys i k]
theorem RpT.mapP (k : List Key) {v : V} {d : D} (hv : Rp K F v d) : ∀ {kvs : List (List Key × V)} {ds : List (D × D)}, RpT K F kvs ds → RpT K F (kvs.map fun kv => if kv.1 = k then (kv.1, v) else kv) (ds.map fun p => if keq p.1 (.tuple (k.map keyD)) = true then (p.1, d) else p)
  | _, _, .nil => .nil
  | _, _, .cons (ks := i) h r => by
    rw [List.map_cons, List.map_cons]
    simp only [keq_keys i k, decide_eq_true_eq]
    split
    · exact .cons hv (RpT.mapP k hv r)
    · exact .cons h (RpT.mapP k hv r)
theorem RpT.snoc (k : List Key) {v : V} {d : D} (hv : Rp K F v d) : ∀ {kvs : List (List Key × V)} {ds : List (D × D)}, RpT K F kvs ds → RpT K F (kvs ++ [(k, v)]) (ds ++ [(.tuple (k.map keyD), d)])
  | _, _, .nil => .cons hv .nil
  | _, _, .cons h r => .cons h (RpT.snoc k hv r)
theorem RpT.put (k : List Key) {v : V} {d : D} (hv : Rp K F v d) {kvs : List (List Key × V)} {ds : List (D × D)} (r : RpT K F kvs ds) : RpT K F (putK kvs k v) (dputL ds (.tuple (k.map keyD)) d) := by
  unfold putK dputL
  rw [r.any k]
  split
  · exact r.mapP k hv
  · exact r.snoc k hv
theorem RpK.allT : ∀ {kvs : List (Key × V)} {ds : List (D × D)}, RpK K F kvs ds → (ds.all fun p => tpK p.1) = true → kvs = [] ∧ ds = []
  | _, _, .nil, _ => ⟨rfl, rfl⟩
  | _, _, .consI _ _, h => by simp [tpK] at h
  | _, _, .consS _ _, h => by simp [tpK] at h
theorem RpT.allK : ∀ {kvs : List (List Key × V)} {ds : List (D × D)}, RpT K F kvs ds → (ds.all fun p => flK p.1) = true → kvs = [] ∧ ds = []
  | _, _, .nil, _ => ⟨rfl, rfl⟩
  | _, _, .cons _ _, h => by simp [flK] at h
theorem Rp.tupK {y : V} {xs : List D} (sb : Same F H) (hf : xs.all flK = true) (r : Rp K F y (.tuple xs)) : ∃ (ks : List Key) (b : Addr), xs = ks.map keyD ∧ y = .ref b ∧ H b = some (.tup (ks.map kV)) := by
  obtain ⟨ks, rfl⟩ := flK_keys hf
  cases r with
  | tup h1 h2 =>
    have := RpL.keys h2
    subst this
    exact ⟨ks, _, rfl, rfl, sb _ _ h1⟩
/-- a key is put in -/
theorem put_rp {p : Addr} {u : HO} {ds ds' : List (D × D)} {y v : V} {k d : D} (sb : Same F H) (hF : F p = none) (hp : H p = some u) (r : RpD K F u ds) (rk : Rp K F y k) (rv : Rp K F v d) (e : dputD ds k d = some ds') : ∃ u', RpD K F u' ds' ∧ DPut2 H p y v (upd H p u') := by
  unfold dputD at e
  split at e
  · rename_i hc
    rw [Bool.and_eq_true] at hc
    have hl := ltN_lt hc.1
    have hk := hc.2
    cases e
    have key : ∀ (kk : Key), y = kV kk → k = keyD kk → (ds.all fun p => flK p.1) = true → ∃ u', RpD K F u' (dputL ds k d) ∧ DPut2 H p y v (upd H p u') := fun kk ey ek ha => by
      subst ey ek
      cases r with
      | k r => exact ⟨_, .k (r.put kk rv), .inl (DPut.k hp (by rw [r.len]; exact hl))⟩
      | t r =>
        obtain ⟨rfl, rfl⟩ := r.allK ha
        refine ⟨_, .k (RpK.put (kvs := []) kk rv .nil), .inr (.inr ⟨hp, ?_⟩)⟩
        have := DPut.k (H := upd H p (.dK [])) (k := kk) (v := v) upd_same (by rw [show ([] : List (Key × V)).length = ([] : List (D × D)).length from rfl]; exact hl)
        rw [upd_upd] at this
        exact this
    cases k with
    | int i => cases rk; exact key (.inl i) rfl rfl hk
    | str x => cases rk; exact key (.inr x) rfl rfl hk
    | tuple xs =>
      unfold kindOk at hk
      rw [Bool.and_eq_true] at hk
      obtain ⟨ks, b, rfl, rfl, hb⟩ := Rp.tupK sb hk.1 rk
      cases r with
      | t r => exact ⟨_, .t (r.put ks rv), .inl (DPut.t hp hb (by rw [r.len]; exact hl))⟩
      | k r =>
        obtain ⟨rfl, rfl⟩ := r.allT hk.2
        refine ⟨_, .t (RpT.put (kvs := []) ks rv .nil), .inr (.inl ⟨hp, ?_⟩)⟩
        have hne : b ≠ p := by rintro rfl; rw [hp] at hb; cases hb
        have := DPut.t (H := upd H p (.dT [])) (k := ks) (v := v) upd_same (by rw [upd_ne hne]; exact hb) (by rw [show ([] : List (List Key × V)).length = ([] : List (D × D)).length from rfl]; exact hl)
        rw [upd_upd] at this
        exact this
    | none => cases hk
    | bool _ => cases hk
    | list _ => cases hk
    | dict _ => cases hk
  · cases e
end
/-- name[k] = e -/
def mPut (i : Nat) (mk mv : M D) : MS := fun s => match s.r[i]? with
  | some (.od ds) => mErr (mv s) fun d c => mErr (mk (s.wc c)) fun k c' => match dputD ds k d with
    | some ds' => .next ((s.wc c').up i (.od ds'))
    | none => .no
  | _ => .no
section
variable {K : PySem.W.Frag}
theorem Sat.setOd {K : PySem.W.Frag} {σ : L2.St} {H : Hp} {i : Nat} {fr : Fr} {s : S} {F : Hp} {p : Addr} {xs ys : List (D × D)} {vo wo : HO} (h : Sat K fr s F σ H) (e : s.r[i]? = some (.od xs)) (k : σ[i]? = some (some (.ref p))) (hp : H p = some vo) (r : RpD K F wo ys) : Sat K fr (s.up i (.od ys)) F σ (upd H p wo) := by
  obtain ⟨n1, n2, n3, n4⟩ := h.own e rfl k
  have hl : i < s.r.length := (List.getElem?_eq_some_iff.mp e).1
  have gh : ∀ a o, a ≠ p → H a = some o → upd H p wo a = some o := fun a o ha e => by rw [upd_ne ha]; exact e
  refine ⟨fun a o e => gh a o (ne_of_none e n3) (h.sub _ _ e), ⟨h.go.f, fun a o pc e => gh a o (ne_of_none e n4) (h.go.h a o pc e), fun a ha => ?_, (fun a ha => by
    by_cases hb : a = p
    · exact ⟨_, by rw [hb]; exact upd_same, r.nt⟩
    · obtain ⟨u, e, z⟩ := h.go.k a ha
      exact ⟨u, by rw [upd_ne hb]; exact e, z⟩), h.go.n⟩, fun q e => ?_, by rw [List.length_set]; exact h.len, fun j u e1 => ?_, fun a b u w q e1 e2 o1 o2 k1 k2 => ?_⟩
  · by_cases hb : a = p
    · subst hb; rw [upd_same]; exact fun z => nomatch z
    · rw [upd_ne hb]; exact h.go.t a ha
  · obtain ⟨c1, c2⟩ := h.cup q e
    have hb : q ≠ p := fun z => n2 (by rw [← z]; exact e)
    exact ⟨c1, gh _ _ hb c2⟩
  · by_cases hj : i = j
    · subst hj
      rw [List.getElem?_set_self hl] at e1
      cases e1
      exact ⟨_, k, p, wo, rfl, ⟨upd_same, n3, n4, n2⟩, r⟩
    · rw [List.getElem?_set_ne hj] at e1
      obtain ⟨o, e2, q⟩ := h.sl j u e1
      refine ⟨o, e2, ?_⟩
      cases u with
      | no => trivial
      | fz d => exact q
      | ow zs =>
        obtain ⟨q', vs', rfl, w, r'⟩ := q
        have hb : q' ≠ p := fun z => hj (h.ap i j _ _ p e e1 rfl rfl k (by rw [e2, z]))
        exact ⟨q', vs', rfl, ⟨gh _ _ hb w.h, w.f, w.n, w.c⟩, r'⟩
      | od zs =>
        obtain ⟨q', vs', rfl, w, r'⟩ := q
        have hb : q' ≠ p := fun z => hj (h.ap i j _ _ p e e1 rfl rfl k (by rw [e2, z]))
        exact ⟨q', vs', rfl, ⟨gh _ _ hb w.h, w.f, w.n, w.c⟩, r'⟩
      | cup => exact q
      | sq _ => exact q
  · have own_of : ∀ (j : Nat) u, (s.r.set i (.od ys))[j]? = some u → u.own = true → ∃ u', s.r[j]? = some u' ∧ u'.own = true := fun j u e1 o => by
      by_cases hj : i = j
      · subst hj; exact ⟨_, e, rfl⟩
      · rw [List.getElem?_set_ne hj] at e1; exact ⟨u, e1, o⟩
    obtain ⟨u', e1', o1'⟩ := own_of a u e1 o1
    obtain ⟨w', e2', o2'⟩ := own_of b w e2 o2
    exact h.ap a b u' w' q e1' e2' o1' o2' k1 k2
theorem rd_put {mg : Str → Option Value} {E : XK} {σ : L2.St} {H : Hp} {D : Ends} {i : Nat} {mk mv : M PyData} (h : rdS K mg E (mPut i mk mv) D σ H) : sDPut2 (tVar i) (rdE K mg E mk) (rdE K mg E mv) D σ H := by
  obtain ⟨fr, s, F, hs, q⟩ := h
  unfold mPut at q
  split at q
  · rename_i ds e
    obtain ⟨o, k, p, u, rfl, w, r⟩ := hs.sl i _ e
    refine ⟨fr, s, F, hs, (post_of hs q).mono fun d c F1 H1 g1 sb1 cu1 q1 v rv => ?_⟩
    have hs1 := hs.step g1 sb1 cu1
    refine ⟨_, k, fr, s.wc c, F1, hs1, (post_of hs1 q1).mono fun kk c2 F2 H2 g2 sb2 cu2 q2 y ry => ?_⟩
    have hs2 := hs1.step g2 sb2 cu2
    split at q2
    · rename_i ds' e2
      have hp := g2.h p _ w.c (g1.h p _ w.c w.h)
      have hF := g2.n p ⟨_, g1.h p _ w.c w.h, r.nt⟩ (g1.n p ⟨_, w.h, r.nt⟩ w.f)
      obtain ⟨u', r', d2⟩ := put_rp sb2 hF hp ((r.mono g1.f).mono g2.f) ry (rv.mono g2.f) e2
      exact ⟨p, _, rfl, d2, q2 F2 σ _ (hs2.setOd e k hp r')⟩
    · exact q2.elim
  · exact q.elim
end
section
variable {X : Cx} {E : XK} {e ek : Expr} {m mk : M D} {x : Str} {px pos pos' : Pos}
theorem st_put (i : Nat) (hu : X.A.units + 1 < cLine) (hk : PD X E ek mk) (he : PD X E e m) (hN : X.N[i]? = some x := by rfl) (hv : Vis X.env.scope x := by first | exact Or.inl rfl | exact Or.inr (Or.inl rfl) | exact Or.inr (Or.inr rfl)) (hd : (x == ("__debug__" : Str)) = false := by decide) (hcd : (x == ("__classdict__" : Str)) = false := by decide)
    (hs : swapsWith e (some (.Subscript (.Name x px) ek pos')) pos.line X.env = pure false := by rfl) : PSD X E (.Assign [.Subscript (.Name x px) ek pos'] e pos) (mPut i mk m) :=
  PS.imp (ps_dput2 hu (pe_var hN hv hd hcd) hk he hs) fun _ _ _ => rd_put
/-- {} -/
theorem pf_dct0 : PF X E (.Dict [] [] pos) (rt (.dict [])) := PE.imp pe_dnewK fun σ H Q ⟨fr, s, F, hs, q⟩ => fun p hp => by
  obtain ⟨g, sb, r⟩ := new_dct (K := X.K) hs.sub hp (RpK.nil (K := X.K) (F := F))
  exact q _ _ g.weak sb (hs.cup.go g) _ r
end
@[simp] theorem mPut_ap (i : Nat) (mk mv : M D) (s : S) : mPut i mk mv s = (match s.r[i]? with
  | some (.od ds) => mErr (mv s) fun d c => mErr (mk (s.wc c)) fun k c' => match dputD ds k d with
    | some ds' => .next ((s.wc c').up i (.od ds'))
    | none => .no
  | _ => .no) := rfl
end Pu
end

noncomputable section
set_option Elab.async false
set_option linter.all false
set_option maxRecDepth 100000
set_option maxHeartbeats 4000000
/-! Pu, seventeenth part: a, b = .. where one of the names is read by an inner block (a pair is built and taken apart). -/
namespace Pu
open PySem PySem.Spec L2
section
variable {K : PySem.W.Frag} {mg : Str → Option Value} {E : XK} {σ : L2.St} {H : Hp} {D : Ends} {ma mb : M Pu.D} {i j : Nat}
theorem rd_parEFc (h : rdS K mg E (mParEF i j ma mb) D σ H) : tAsg (tTup (tCons (rdE K mg E ma) (tCons (rdF K mg E mb) tNil))) (gTup K 2 (gCons (gName i) (gCons (gName j) gNil))) D σ H := by
  obtain ⟨fr, s, F, hs, q⟩ := h
  refine ⟨fr, s, F, hs, (post_of hs q).mono fun d c F1 H1 g sb cu q1 v r => ?_⟩
  have hs1 := hs.step g sb cu
  refine ⟨fr, s.wc c, F1, hs1, (post_of hs1 q1).mono fun e c2 F2 H2 g2 sb2 cu2 q2 w r2 => ⟨by show 2 ≤ sizeLine; rw [sizeLine_eq]; omega, fun p hp => ?_⟩⟩
  have g3 : Go none F2 H2 F2 (upd H2 p (.tup [v, w])) := Go.newH hp
  have hs2 := (hs1.step g2 sb2 cu2).step g3.weak (same_updH sb2 hp) (cu2.go g3)
  have r3 : RpF K H1 F2 (upd H2 p (.tup [v, w])) w e := r2.go g3 (fun p e => by cases e)
  refine ⟨p, [v, w], rfl, SqT.of upd_same, rfl, v, [w], rfl, w, [], rfl, rfl, ?_⟩
  have hs3 := hs2.putZ (i := i) (v := v) (r.mono g2.f)
  refine q2 F2 _ _ (hs3.putF (Ho := H1) hs1.go.t hs1.cupne (fun l u p hl e o k => ?_) r3)
  by_cases hil : i = l
  · subst hil
    have hl : i < s.r.length := by
      have := (List.getElem?_eq_some_iff.mp e).1
      rwa [List.length_set] at this
    rw [List.getElem?_set_self hl] at e
    cases e
    cases o
  · rw [List.getElem?_set_ne hil] at e k
    exact (hs1.own e o k).1
end
section
variable {X : Cx} {E : XK} {a b : Expr} {ma mb : M D} {px py pt pos : Pos} {x y : Str}
theorem st_parEFc {k k2 : Nat} {p2 : Pos} (i j : Nat) (hc : X.calm = true) (hN : X.N.Nodup) (ha : PD X E a ma) (hb : PF X E b mb) (hi : X.N[i]? = some x := by rfl) (hj : X.N[j]? = some y := by rfl)
    (hx : Loc X.env.scope x := by first | exact .inl rfl | exact .inr rfl) (hy : Loc X.env.scope y := by first | exact .inl rfl | exact .inr rfl)
    (fx : X.fn x = true ∨ X.env.scope.names.lookup x = some .local := by first | exact .inl rfl | exact .inr rfl) (fy : X.fn y = true ∨ X.env.scope.names.lookup y = some .local := by first | exact .inl rfl | exact .inr rfl)
    (hw : swappedStores [.Tuple [.Name x px, .Name y py] k pt] (.Tuple [a, b] k2 p2) X.env = pure none := by rfl)
    (hs : swapsWithSole [.Tuple [.Name x px, .Name y py] k pt] (.Tuple [a, b] k2 p2) pos.line X.env = pure false := by rfl)
    (h1 : starEach [a, b] X.env = (false, eval a X.env) :: starEach [b] X.env := by rfl) (h2 : starEach [b] X.env = (false, eval b X.env) :: starEach [] X.env := by rfl)
    (e1 : (assignEach [.Name x px, .Name y py] X.env).map (·.2) = assign (.Name x px) X.env :: (assignEach [.Name y py] X.env).map (·.2) := by rfl) (e2 : (assignEach [.Name y py] X.env).map (·.2) = assign (.Name y py) X.env :: (assignEach [] X.env).map (·.2) := by rfl)
    (e3 : (assignEach [.Name x px, .Name y py] X.env).length = 2 := by rfl) (e4 : (assignEach [.Name x px, .Name y py] X.env).findIdx? (·.1) = none := by rfl)
    (e5 : (assignEach [.Tuple [.Name x px, .Name y py] k pt] X.env).map (·.2) = [assign (.Tuple [.Name x px, .Name y py] k pt) X.env] := by rfl) :
    PSD X E (.Assign [.Tuple [.Name x px, .Name y py] k pt] (.Tuple [a, b] k2 p2) pos) (mParEF i j ma mb) :=
  PS.imp (ps_asg (pe_tup (L2.pa_cons ha (L2.pa_cons hb L2.pa_nil h2) h1)) (pg_tup hc (pgs_cons (pg_name hN hi hx fx) (pgs_cons (pg_name hN hj hy fy) pgs_nil e2) e1) e3 e4) hs hw e5) fun _ _ _ => rd_parEFc
end
end Pu
end

noncomputable section
set_option Elab.async false
set_option linter.all false
set_option maxRecDepth 100000
set_option maxHeartbeats 4000000
/-! Pu, eighteenth part: list(zip(a, b)) of two lists. -/
namespace ZL
open PySem PySem.Calls PyProof.Rows PyProof.V PySem.Spec PySem.W
/-- the state of a zip behind i pairs, all of them kept -/
def ZSt (z TI TO i1 i2 l1 l2 S : Addr) (xs ys : Array Value) (h : Heap) (i : Nat) : Prop :=
  IsPair h TI (.ref i1) (.ref i2) ∧ h.IsListIter i1 l1 i ∧ h.IsListIter i2 l2 i ∧ h.IsList l1 xs ∧ h.IsList l2 ys ∧
  ((IsZip h z TI TO .none ∧ ∃ a b, IsPair h TO a b) ∨ ∃ T f oT, IsZipHeld h z TI TO T f ∧ h.get? T = some oT ∧ T ≠ z ∧ T ≠ i1 ∧ T ≠ i2 ∧ T ≠ S)
section
variable {prog : Program} {w : World} {A : Around} {E : Value → Shared → Prop} {s : Shared} {z TI TO i1 i2 l1 l2 S : Addr} {xs ys : Array Value} {i : Nat}
theorem ZSt.keep {h h' : Heap} (st : ZSt z TI TO i1 i2 l1 l2 S xs ys h i) (hz : z ≠ S) (hTI : TI ≠ S) (hTO : TO ≠ S) (h1 : i1 ≠ S) (h2 : i2 ≠ S) (hl1 : l1 ≠ S) (hl2 : l2 ≠ S) (k : ∀ b o, b ≠ S → h.get? b = some o → h'.get? b = some o) : ZSt z TI TO i1 i2 l1 l2 S xs ys h' i := by
  obtain ⟨a, b, c, d, e, f⟩ := st
  refine ⟨k _ _ hTI a, b.at fun o e => k _ o h1 e, c.at fun o e => k _ o h2 e, d.at fun o e => k _ o hl1 e, e.at fun o e => k _ o hl2 e, ?_⟩
  rcases f with ⟨f, x, y, g⟩ | ⟨T, f, oT, g, hT, r1, r2, r3, r4⟩
  · exact .inl ⟨k _ _ hz f, x, y, k _ _ hTO g⟩
  · exact .inr ⟨T, f, oT, k _ _ hz g, k _ _ r4 hT, r1, r2, r3, r4⟩
theorem zl_item (D : ZipApart z TI TO i1 i2 l1 l2) (st : ZSt z TI TO i1 i2 l1 l2 S xs ys s.heap i) (hS : S < s.heap.objs.size) {x y : Value} (ex : xs[i]? = some x) (ey : ys[i]? = some y) {Q : Option Value → Shared → Prop}
    (hQ : ∀ h', ZSt z TI TO i1 i2 l1 l2 S xs ys h' (i + 1) → IsPair h' s.heap.objs.size x y → h'.objs.size = s.heap.objs.size + 1 → (∀ c o, c ≠ z → c ≠ TO → c ≠ i1 → c ≠ i2 → s.heap.get? c = some o → h'.get? c = some o) → Q (some (.ref s.heap.objs.size)) { s with heap := h' }) :
    wpAny (model prog w) A (pyNext (.ref z)) Q E s := by
  obtain ⟨hTI, h1, h2, hl1, hl2, hz⟩ := st
  have lt : ∀ {c o}, s.heap.get? c = some o → s.heap.objs.size ≠ c := fun e => Nat.ne_of_gt (Heap.lt_size e)
  have n1 : s.heap.objs.size ≠ i1 := let ⟨_, e, _⟩ := h1; lt e
  have n2 : s.heap.objs.size ≠ i2 := let ⟨_, e, _⟩ := h2; lt e
  rcases hz with ⟨hz, a, b, hTO⟩ | ⟨T, f, oT, hz, hT, r1, r2, r3, r4⟩
  · refine wpAny_pyNext_zip_item D hz hTI hTO h1 h2 hl1 hl2 ex ey fun h' a1 a2 a3 a4 a5 a6 hk => ?_
    exact hQ h' ⟨hk _ _ D.TIz D.TITO D.TIi1 D.TIi2 hTI, a3, a4, hl1.at fun o e => hk _ o D.l1z D.l1TO D.l1i1 D.l1i2 e, hl2.at fun o e => hk _ o D.l2z D.l2TO D.l2i1 D.l2i2 e,
      .inr ⟨s.heap.objs.size, false, _, a1, a5, lt hz, n1, n2, Nat.ne_of_gt hS⟩⟩ a5 a6 hk
  · refine wpAny_pyNext_zip_item_held D hz hT hTI h1 h2 hl1 hl2 ex ey fun h' a1 a3 a4 a5 a6 hk => ?_
    exact hQ h' ⟨hk _ _ D.TIz D.TIi1 D.TIi2 hTI, a3, a4, hl1.at fun o e => hk _ o D.l1z D.l1i1 D.l1i2 e, hl2.at fun o e => hk _ o D.l2z D.l2i1 D.l2i2 e,
      .inr ⟨T, true, oT, a1, hk _ _ r1 r2 r3 hT, r1, r2, r3, r4⟩⟩ a5 a6 fun c o c1 _ c3 c4 e => hk c o c1 c3 c4 e
theorem zl_done (hh : A.handled = none) (D : ZipApart z TI TO i1 i2 l1 l2) (st : ZSt z TI TO i1 i2 l1 l2 S xs ys s.heap i) (hend : xs[i]? = none ∨ ys[i]? = none) {Q : Option Value → Shared → Prop}
    (hQ : ∀ h', (∀ c o, c ≠ z → c ≠ TO → c ≠ i1 → c ≠ i2 → s.heap.get? c = some o → h'.get? c = some o) → Q none { s with heap := h' }) : wpAny (model prog w) A (pyNext (.ref z)) Q E s := by
  obtain ⟨hTI, h1, h2, hl1, hl2, hz⟩ := st
  rcases hz with ⟨hz, a, b, hTO⟩ | ⟨T, f, oT, hz, hT, r1, r2, r3, r4⟩
  · exact wpAny_pyNext_zip_end hh D hz hTI hTO h1 h2 hl1 hl2 hend fun h' hk => hQ h' hk
  · exact wpAny_pyNext_zip_end_held hh D hz hT hTI h1 h2 hl1 hl2 hend fun h' hk => hQ h' fun c o c1 _ c3 c4 e => hk c o c1 c3 c4 e
/-- the pairs that are laid -/
structure ZG (xs ys : Array Value) (lo : Addr) (h : Heap) (as : List Addr) : Prop where
  rise : as.Pairwise (· < ·)
  above : ∀ a ∈ as, lo < a
  pairs : ∀ (j : Nat) (a : Addr), as[j]? = some a → ∃ x y, xs[j]? = some x ∧ ys[j]? = some y ∧ IsPair h a x y
theorem ZG.there {lo : Addr} {h : Heap} {as : List Addr} (g : ZG xs ys lo h as) {a : Addr} (ha : a ∈ as) : a < h.objs.size := by
  obtain ⟨j, hj⟩ := List.mem_iff_getElem?.mp ha
  obtain ⟨_, _, _, _, e⟩ := g.pairs j a hj
  exact Heap.lt_size e
theorem zl_loop {R : Result → Shared → Prop} (hh : A.handled = none) (D : ZipApart z TI TO i1 i2 l1 l2) (hz : z < S) (hTI : TI < S) (hTO : TO < S) (hi1 : i1 < S) (hi2 : i2 < S) (hl1 : l1 < S) (hl2 : l2 < S) (hn : min xs.size ys.size ≤ sizeLine) (res : Value) {h₁ : Heap}
    (hR : ∀ h' tk acc c as, (∀ b o, b ≠ S → b ≠ z → b ≠ TO → b ≠ i1 → b ≠ i2 → h₁.get? b = some o → h'.get? b = some o) → h'.get? S = some { cls := .type "list", dict := none, data := .seq acc c, slots := #[] } → as.length = min xs.size ys.size → ZG xs ys S h' as →
      acc.toList = as.map Value.ref → R (.ok (.ret res)) { s with heap := h', toks := tk }) :
    ∀ (k i : Nat) (h : Heap) (tk c : Nat) (acc : Array Value) (as : List Addr), min xs.size ys.size - i = k → i ≤ min xs.size ys.size → ZSt z TI TO i1 i2 l1 l2 S xs ys h i → (∀ b o, b ≠ S → b ≠ z → b ≠ TO → b ≠ i1 → b ≠ i2 → h₁.get? b = some o → h.get? b = some o) →
      h.get? S = some { cls := .type "list", dict := none, data := .seq acc c, slots := #[] } → acc.toList = as.map Value.ref → as.length = i → ZG xs ys S h as →
      codeAny (model prog w) A (.builtin "list.extend.loop" ⟨[.ref S, .ref z, res], []⟩) R { s with heap := h, toks := tk } := by
  have nz := Nat.ne_of_lt hz
  have nTO := Nat.ne_of_lt hTO
  have n1 := Nat.ne_of_lt hi1
  have n2 := Nat.ne_of_lt hi2
  have off : ∀ {a : Addr}, S < a → a ≠ z ∧ a ≠ TO ∧ a ≠ i1 ∧ a ≠ i2 ∧ a ≠ S := fun h => ⟨Nat.ne_of_gt (Nat.lt_trans hz h), Nat.ne_of_gt (Nat.lt_trans hTO h), Nat.ne_of_gt (Nat.lt_trans hi1 h), Nat.ne_of_gt (Nat.lt_trans hi2 h), Nat.ne_of_gt h⟩
  intro k
  induction k with
  | zero =>
    intro i h tk c acc as hk hi hst hkeep hS hacc hal hG
    have hin : i = min xs.size ys.size := by omega
    refine codeAny_builtin PySem.F.entry_extend_loop ?_
    rw [Around.under_plainId PySem.F.plain_extend_loop _]
    show wpAny _ A.in1 (pyNext (.ref z) >>= _) _ _ _
    have hend : xs[i]? = none ∨ ys[i]? = none := by
      rcases Nat.le_total xs.size ys.size with h | h
      · exact .inl (Array.getElem?_eq_none (by omega))
      · exact .inr (Array.getElem?_eq_none (by omega))
    refine wpAny_bind (zl_done (s := { s with heap := h, toks := tk }) (A := A.in1) hh D hst hend fun h' he => ?_)
    refine wpAny_pure (hR h' tk acc c as (fun b o h1 h2 h3 h4 h5 e => he b o h2 h3 h4 h5 (hkeep b o h1 h2 h3 h4 h5 e)) (he S _ (Ne.symm nz) (Ne.symm nTO) (Ne.symm n1) (Ne.symm n2) hS) (by omega) ⟨hG.rise, hG.above, fun j a hj => ?_⟩ hacc)
    obtain ⟨x, y, e1, e2, e3⟩ := hG.pairs j a hj
    obtain ⟨o1, o2, o3, o4, _⟩ := off (hG.above a (List.mem_of_getElem? hj))
    exact ⟨x, y, e1, e2, he a _ o1 o2 o3 o4 e3⟩
  | succ k ih =>
    intro i h tk c acc as hk hi hst hkeep hS hacc hal hG
    have hlt : i < min xs.size ys.size := by omega
    have hx := Array.getElem?_eq_getElem (xs := xs) (i := i) (by omega)
    have hy := Array.getElem?_eq_getElem (xs := ys) (i := i) (by omega)
    have hsz : acc.size = i := by rw [← Array.length_toList, hacc, List.length_map, hal]
    have hSl : S < h.objs.size := Heap.lt_size hS
    refine codeAny_builtin PySem.F.entry_extend_loop ?_
    rw [Around.under_plainId PySem.F.plain_extend_loop _]
    show wpAny _ A.in1 (pyNext (.ref z) >>= _) _ _ _
    refine wpAny_bind (zl_item (s := { s with heap := h, toks := tk }) D hst hSl hx hy fun h' hst' ht hz' hkp => ?_)
    dsimp only at ht hz' hkp ⊢
    have hS' := hkp S _ (Ne.symm nz) (Ne.symm nTO) (Ne.symm n1) (Ne.symm n2) hS
    have up : ∀ b o, b ≠ S → h'.get? b = some o → (h'.update S (Obj.mapSeq (·.push (Value.ref h.objs.size)))).get? b = some o := fun b o hb e => (Heap.get?_update_other _ _ (Ne.symm hb)).trans e
    show wpAny _ A.in1 (updateSeq S (·.push (Value.ref h.objs.size)) >>= _) _ _ _
    refine wpAny_bind ?_
    refine wpAny_updateSeq hS' rfl (wpAny_pure ⟨plainId_quiet PySem.F.plain_extend_loop _, ih (i + 1) _ tk _ (acc.push (Value.ref h.objs.size)) (as ++ [h.objs.size]) (by omega) hlt (hst'.keep nz (Nat.ne_of_lt hTI) nTO n1 n2 (Nat.ne_of_lt hl1) (Nat.ne_of_lt hl2) up)
      (fun b o h1 h2 h3 h4 h5 e => up b o h1 (hkp b o h2 h3 h4 h5 (hkeep b o h1 h2 h3 h4 h5 e))) (Heap.get?_update_self _ hS' rfl) (by rw [Array.toList_push, hacc, List.map_append]; rfl) (by rw [List.length_append, hal]; rfl) ⟨?_, ?_, ?_⟩⟩) (by rw [hsz]; omega) (by show (acc.push (Value.ref h.objs.size)).size ≤ sizeLine + 1; rw [Array.size_push]; omega)
    · refine List.pairwise_append.mpr ⟨hG.rise, List.pairwise_singleton _ _, fun a ha b hb => ?_⟩
      rw [List.mem_singleton.mp hb]
      exact hG.there ha
    · intro a ha
      rcases List.mem_append.mp ha with ha | ha
      · exact hG.above a ha
      · rw [List.mem_singleton.mp ha]; exact hSl
    · intro j b hj
      rcases Nat.lt_trichotomy j as.length with h1 | h1 | h1
      · rw [List.getElem?_append_left h1] at hj
        obtain ⟨x', y', e1, e2, e3⟩ := hG.pairs j b hj
        obtain ⟨o1, o2, o3, o4, o5⟩ := off (hG.above b (List.mem_of_getElem? hj))
        exact ⟨x', y', e1, e2, up b _ o5 (hkp b _ o1 o2 o3 o4 e3)⟩
      · subst h1
        have hb : h.objs.size = b := by simpa using hj
        subst hb
        exact ⟨_, _, by rw [hal]; exact hx, by rw [hal]; exact hy, up _ _ (Nat.ne_of_gt hSl) ht⟩
      · have hnone : (as ++ [h.objs.size])[j]? = none := List.getElem?_eq_none (by rw [List.length_append, List.length_singleton]; omega)
        rw [hnone] at hj; cases hj
end
theorem zip_no_len : typeLookup (.type "zip") "__len__" = pure none := am_miss_of_fast (by decide +kernel)
theorem zip_no_hint : typeLookup (.type "zip") "__length_hint__" = pure none := am_miss_of_fast (by decide +kernel)
section
variable {prog : Program} {w : World} {A : Around} {E : Value → Shared → Prop} {s : Shared} {z TI TO i1 i2 l1 l2 S : Addr} {xs ys : Array Value} {i : Nat}
theorem zl_hint (hT : s.TypeIs (.ref z) "zip") {Q : Bool → Shared → Prop} (h : Q true s) : wpAny (model prog w) A (Builtin.List.listLengthHint (.ref z)) Q E s := by
  unfold Builtin.List.listLengthHint
  refine wpAny_bind (wpAny_specialOf hT zip_no_len ?_)
  refine wpAny_bind (wpAny_specialOf hT zip_no_hint ?_)
  exact wpAny_pure h
theorem zl_extend {R : Result → Shared → Prop} (hh : A.handled = none) (D : ZipApart z TI TO i1 i2 l1 l2) (hz : z < S) (hTI : TI < S) (hTO : TO < S) (hi1 : i1 < S) (hi2 : i2 < S) (hl1 : l1 < S) (hl2 : l2 < S) (hn : min xs.size ys.size ≤ sizeLine) (res : Value) (c₀ : Nat)
    (st : ZSt z TI TO i1 i2 l1 l2 S xs ys s.heap 0) (hf : IsZip s.heap z TI TO .none) (hS : s.heap.get? S = some { cls := .type "list", data := .seq #[] c₀ })
    (hR : ∀ h' tk acc c as, (∀ b o, b ≠ S → b ≠ z → b ≠ TO → b ≠ i1 → b ≠ i2 → s.heap.get? b = some o → h'.get? b = some o) → h'.get? S = some { cls := .type "list", dict := none, data := .seq acc c, slots := #[] } → as.length = min xs.size ys.size → ZG xs ys S h' as →
      acc.toList = as.map Value.ref → R (.ok (.ret res)) { s with heap := h', toks := tk }) :
    wpAny (model prog w) A.in1 (Builtin.List.listExtendWith (.ref S) (.ref z) res)
      (fun fin s' => match fin with | .done f => R (.ok f) s' | .again c' => c'.quiet = true ∧ codeAny (model prog w) A c' R s') (fun e s' => R (.error e) s') s := by
  have hT : s.TypeIs (.ref z) "zip" := ⟨_, hf, rfl⟩
  have key : ∀ (h : Heap) (c₁ tk : Nat), (∀ b o, b ≠ S → s.heap.get? b = some o → h.get? b = some o) → h.get? S = some { cls := .type "list", data := .seq #[] c₁ } → codeAny (model prog w) A (.builtin "list.extend.loop" ⟨[.ref S, .ref z, res], []⟩) R { s with heap := h, toks := tk } := fun h c₁ tk hk hS₁ =>
    zl_loop (h₁ := s.heap) hh D hz hTI hTO hi1 hi2 hl1 hl2 hn res hR (min xs.size ys.size) 0 h tk c₁ #[] [] (Nat.sub_zero _) (Nat.zero_le _) (st.keep (Nat.ne_of_lt hz) (Nat.ne_of_lt hTI) (Nat.ne_of_lt hTO) (Nat.ne_of_lt hi1) (Nat.ne_of_lt hi2) (Nat.ne_of_lt hl1) (Nat.ne_of_lt hl2) hk) (fun b o h1 _ _ _ _ e => hk b o h1 e) hS₁ rfl rfl ⟨List.Pairwise.nil, (fun _ ha => nomatch ha), (fun j a hj => by simp at hj)⟩
  unfold Builtin.List.listExtendWith
  refine wpAny_bind (wpAny_typeOf (T := "zip") hT ?_)
  have h1 : Builtin.List.listSameRef (.ref S) (.ref z) = false := by simp [Builtin.List.listSameRef, Nat.ne_of_gt hz]
  have h2 : (Value.type "zip" == Value.type "list") = false := by decide
  have h3 : (Value.type "zip" == Value.type "tuple") = false := by decide
  simp only [h1, h2, h3, Bool.or_false, Bool.false_eq_true, if_false]
  refine wpAny_bind (wpAny_pyIter_zip hf ?_)
  refine wpAny_bind (wpAny_holding (zl_hint hT ?_))
  refine wpAny_ite_split (fun _ => ?_) (fun _ => wpAny_pure ⟨plainId_quiet PySem.F.plain_extend_loop _, key _ c₀ _ (fun b o _ e => e) hS⟩)
  refine wpAny_bind (wpAny_rule ?_)
  refine wpAny_bind ?_
  show wpAny _ _ (updateSeq S (·.push .none) >>= fun _ => updateSeq S (·.pop)) _ _ _
  refine wpAny_bind (wpAny_updateSeq hS rfl ?_)
  have hS₂ := Heap.get?_update_self (Obj.mapSeq (·.push Value.none)) hS rfl
  refine wpAny_updateSeq (hz := by seq_fits) hS₂ rfl ?_
  have hS₃ := Heap.get?_update_self (Obj.mapSeq (·.pop)) hS₂ rfl
  refine wpAny_pure ⟨plainId_quiet PySem.F.plain_extend_loop _, key _ _ _ (fun b o hb e => ?_) hS₃⟩
  exact (Heap.get?_update_other _ _ (Ne.symm hb)).trans ((Heap.get?_update_other _ _ (Ne.symm hb)).trans e)
theorem zl_call {Q : Value → Shared → Prop} (hh : A.handled = none) (D : ZipApart z TI TO i1 i2 l1 l2) (st : ZSt z TI TO i1 i2 l1 l2 s.heap.objs.size xs ys s.heap 0) (hf : IsZip s.heap z TI TO .none) (hTO : TO < s.heap.objs.size) (hn : min xs.size ys.size ≤ sizeLine)
    (hQ : ∀ h' tk acc c as, (∀ b o, b ≠ z → b ≠ TO → b ≠ i1 → b ≠ i2 → s.heap.get? b = some o → h'.get? b = some o) → h'.get? s.heap.objs.size = some { cls := .type "list", dict := none, data := .seq acc c, slots := #[] } → as.length = min xs.size ys.size → ZG xs ys s.heap.objs.size h' as →
      acc.toList = as.map Value.ref → Q (.ref s.heap.objs.size) { s with heap := h', toks := tk }) :
    wpAny (model prog w) A (call (.type "list") [.ref z]) Q E s := by
  refine callType_codes (Q₁ := fun obj s₁ => obj = .ref s.heap.objs.size ∧ s₁ = { s with heap := s.heap.push { cls := .type "list", data := .seq #[] } }) PySem.F.called_list (PySem.F.typeCall_list_1 _) PySem.F.entry_list_init
    (code_list_new _ ⟨rfl, rfl⟩) fun obj s₁ h₁ => ?_
  obtain ⟨rfl, rfl⟩ := h₁
  obtain ⟨hTI, h1, h2, hl1, hl2, _⟩ := id st
  have hS : (s.heap.push { cls := .type "list", data := .seq #[] }).get? s.heap.objs.size = some { cls := .type "list", data := .seq #[] } := Heap.get?_push_size _ rfl
  have lz : z < s.heap.objs.size := Heap.lt_size hf
  have lTI : TI < s.heap.objs.size := Heap.lt_size hTI
  have li1 : i1 < s.heap.objs.size := let ⟨_, e, _⟩ := h1; Heap.lt_size e
  have li2 : i2 < s.heap.objs.size := let ⟨_, e, _⟩ := h2; Heap.lt_size e
  have ll1 : l1 < s.heap.objs.size := let ⟨_, e, _⟩ := hl1; Heap.lt_size e
  have ll2 : l2 < s.heap.objs.size := let ⟨_, e, _⟩ := hl2; Heap.lt_size e
  have up : ∀ b o, b ≠ s.heap.objs.size → s.heap.get? b = some o → (s.heap.push { cls := .type "list", data := .seq #[] }).get? b = some o := fun b o _ e => Heap.get?_push_of_some _ e
  refine ⟨⟨_, hS, rfl⟩, PySem.F.args_list_init_2 _ _, ?_⟩
  show wpAny _ A.in1.in1 (do let old ← Builtin.List.listItems (.ref s.heap.objs.size); Builtin.List.listUpdate (.ref s.heap.objs.size) (fun _ => #[]); letGo old.toList.reverse; Builtin.List.listExtendWith (.ref s.heap.objs.size) (.ref z) .none) _ _ _
  refine wpAny_bind ?_
  unfold Builtin.List.listItems
  refine wpAny_bind (wpAny_seqItems hS rfl (wpAny_pure ?_))
  show wpAny _ _ (updateSeq s.heap.objs.size (fun _ => #[]) >>= fun _ => letGo (#[] : Array Value).toList.reverse >>= fun _ => Builtin.List.listExtendWith (.ref s.heap.objs.size) (.ref z) .none) _ _ _
  refine wpAny_bind (wpAny_updateSeq hS rfl ?_)
  have hS₂ := Heap.get?_update_self (Obj.mapSeq (fun _ => (#[] : Array Value))) hS rfl
  have oth : ∀ b o, b ≠ s.heap.objs.size → s.heap.get? b = some o → ((s.heap.push { cls := .type "list", data := .seq #[] }).update s.heap.objs.size (Obj.mapSeq (fun _ => (#[] : Array Value)))).get? b = some o :=
    fun b o hb e => (Heap.get?_update_other _ _ (Ne.symm hb)).trans (up b o hb e)
  refine wpAny_bind (wpAny_letGo ?_)
  refine zl_extend (A := A.in1) hh D lz lTI hTO li1 li2 ll1 ll2 hn .none _ (st.keep (Nat.ne_of_lt lz) (Nat.ne_of_lt lTI) (Nat.ne_of_lt hTO) (Nat.ne_of_lt li1) (Nat.ne_of_lt li2) (Nat.ne_of_lt ll1) (Nat.ne_of_lt ll2) oth) (oth _ _ (Nat.ne_of_lt lz) hf) hS₂ fun h' tk acc c as hk hS' hl hG hacc => ?_
  exact ⟨rfl, hQ h' tk acc c as (fun b o h1 h2 h3 h4 e => hk b o (Nat.ne_of_lt (Heap.lt_size e)) h1 h2 h3 h4 (oth b o (Nat.ne_of_lt (Heap.lt_size e)) e)) hS' hl hG hacc⟩
end
end ZL
end

noncomputable section
set_option Elab.async false
set_option linter.all false
set_option maxRecDepth 100000
set_option maxHeartbeats 4000000
/-! Pu, nineteenth part: list(zip(a, b)) as an expression. -/
namespace Pu
open PySem PySem.Spec PyProof.Rows L2 ZL
/-- the pairs, each at its address -/
def putZ : Hp → List Addr → List (V × V) → Hp
  | H, a :: as, p :: kvs => putZ (upd H a (.tup [p.1, p.2])) as kvs
  | H, _, _ => H
theorem putZ_off {b : Addr} : ∀ (as : List Addr) (kvs : List (V × V)) (H : Hp), b ∉ as → putZ H as kvs b = H b
  | [], _, _, _ => rfl
  | _ :: _, [], _, _ => rfl
  | a :: as, p :: kvs, H, h => by
    show putZ (upd H a (.tup [p.1, p.2])) as kvs b = H b
    rw [putZ_off as kvs _ (fun z => h (List.mem_cons_of_mem _ z)), upd_ne (fun z => h (by rw [z]; exact List.mem_cons_self))]
theorem putZ_at : ∀ (as : List Addr) (kvs : List (V × V)) (H : Hp), as.length = kvs.length → as.Nodup → Paired (fun (t : Addr) (p : V × V) => putZ H as kvs t = some (.tup [p.1, p.2])) as kvs
  | [], [], _, _, _ => .nil
  | [], _ :: _, _, h, _ => by cases h
  | _ :: _, [], _, h, _ => by cases h
  | a :: as, p :: kvs, H, h, hn => by
    have hn' := List.nodup_cons.mp hn
    have ih := putZ_at as kvs (upd H a (.tup [p.1, p.2])) (Nat.succ.inj h) hn'.2
    refine .cons ?_ ih
    show putZ (upd H a (.tup [p.1, p.2])) as kvs a = some (.tup [p.1, p.2])
    rw [putZ_off as kvs _ hn'.1, upd_same]
def rZipL (K : PySem.W.Frag) : List V → Hp → VK → Prop := fun vs H Q => ∃ a b xs ys, vs = [.ref a, .ref b] ∧ SqL K H a xs ∧ SqL K H b ys ∧
  ∀ (H' : Hp) (p : Addr) (ts : List Addr), (∀ b o, H b = some o → H' b = some o) → (∀ b, b ≠ p → b ∉ ts → H' b = H b) → H p = none → (∀ t ∈ ts, H t = none) → p ∉ ts → ts.Nodup → H' p = some (.lst (ts.map V.ref)) → Paired (fun (t : Addr) (q : V × V) => H' t = some (.tup [q.1, q.2])) ts (xs.zip ys) → Q (.ref p) H'
def tListZip (K : PySem.W.Frag) (ta : TA) : TE := fun σ H Q => ta σ H fun vs H1 => rZipL K vs H1 Q
theorem zip_get {its its2 : List Value} {xs ys : List V} (r1 : Vals xs its) (r2 : Vals ys its2) {j : Nat} {q : V × V} (e : (xs.zip ys)[j]? = some q) : ∃ u w, its[j]? = some u ∧ its2[j]? = some w ∧ RelV q.1 u ∧ RelV q.2 w := by
  obtain ⟨x, y⟩ := q
  rw [List.getElem?_zip_eq_some] at e
  obtain ⟨u, e1, h1⟩ := LiI.paired_get r1 e.1
  obtain ⟨w, e2, h2⟩ := LiI.paired_get r2 e.2
  exact ⟨u, w, e1, e2, h1, h2⟩
section
variable {X : Cx} {e e2 : Expr} {ta : TA} {p p2 pos pos2 : Pos}
theorem zip_laid {pins : List (Addr × Obj)} {σ : L2.St} {H : Hp} {s : Shared} {h' : Heap} {tk : Nat} {xs ys : List V} {its its2 : List Value} {acc : Array Value} {c : Nat} {as : List Addr} {ch : List Addr} (I : Inv X pins σ H s) (hz : (xs.zip ys).length ≤ sizeLine) (r1 : Vals xs its) (r2 : Vals ys its2)
    (hf : ∀ b ∈ ch, FpOk X pins H b) (hk : ∀ b o, b ∉ ch → s.heap.get? b = some o → h'.get? b = some o) (hS : h'.get? s.heap.objs.size = some { cls := .type "list", dict := none, data := .seq acc c, slots := #[] }) (hl : as.length = min its.toArray.size its2.toArray.size) (hG : ZG its.toArray its2.toArray s.heap.objs.size h' as) (hacc : acc.toList = as.map Value.ref) :
    ∃ H' : Hp, (∀ b o, H b = some o → H' b = some o) ∧ (∀ b, b ≠ s.heap.objs.size → b ∉ as → H' b = H b) ∧ H s.heap.objs.size = none ∧ (∀ t ∈ as, H t = none) ∧ s.heap.objs.size ∉ as ∧ as.Nodup ∧ H' s.heap.objs.size = some (.lst (as.map V.ref)) ∧ Paired (fun (t : Addr) (q : V × V) => H' t = some (.tup [q.1, q.2])) as (xs.zip ys) ∧ Inv X pins σ H' { s with heap := h', toks := tk } := by
  have lk : as.length = (xs.zip ys).length := by rw [hl, List.length_zip, r1.length, r2.length]; simp
  have hSn : s.heap.objs.size ∉ as := fun z => Nat.lt_irrefl _ (hG.above _ z)
  have nd : as.Nodup := List.Pairwise.imp (fun {a b} (h : a < b) => Nat.ne_of_lt h) hG.rise
  have new : ∀ t ∈ as, H t = none := fun t ht => I.hok.fresh (Nat.le_of_lt (hG.above t ht))
  have newS : H s.heap.objs.size = none := I.hok.fresh (Nat.le_refl _)
  have atP := putZ_at as (xs.zip ys) (upd H s.heap.objs.size (.lst (as.map V.ref))) lk nd
  have off : ∀ b, b ∉ as → b ≠ s.heap.objs.size → putZ (upd H s.heap.objs.size (.lst (as.map V.ref))) as (xs.zip ys) b = H b := fun b h1 h2 => by rw [putZ_off as _ _ h1, upd_ne h2]
  have low : ∀ b o, s.heap.get? b = some o → b ∉ as ∧ b ≠ s.heap.objs.size := fun b o e => ⟨fun z => absurd (Heap.lt_size e) (Nat.not_lt.mpr (Nat.le_of_lt (hG.above b z))), Nat.ne_of_lt (Heap.lt_size e)⟩
  have kp : ∀ b u, H b = some u → (putZ (upd H s.heap.objs.size (.lst (as.map V.ref))) as (xs.zip ys)) b = some u := fun b u e => by
    rw [off b (fun z => by rw [new b z] at e; cases e) (fun z => by rw [z, newS] at e; cases e)]
    exact e
  have eS : putZ (upd H s.heap.objs.size (.lst (as.map V.ref))) as (xs.zip ys) s.heap.objs.size = some (.lst (as.map V.ref)) := by rw [putZ_off as _ _ hSn, upd_same]
  have nch : ∀ b u, H b = some u → b ∉ ch := fun b u e z => by rw [(hf b z).1] at e; cases e
  refine ⟨putZ (upd H s.heap.objs.size (.lst (as.map V.ref))) as (xs.zip ys), kp, fun b h1 h2 => off b h2 h1, newS, new, hSn, nd, eS, atP, ?_⟩
  refine I.call' (ch := ch) rfl ⟨fun b o q _ _ hc => hk b o hc q, fun b o q _ _ hc => ⟨o.slots, hk b o hc q⟩, fun b o q n _ => ?_, fun b o q hc => ⟨o, hk b o hc q⟩, fun b xs q => kp b _ q, fun b o u q => kp b _ q, fun b ps q => ⟨#[], by rw [kp b _ q]; simp⟩⟩ (fun b u q => ?_) I.bare fun b z => ⟨(hf b z).2.2.2.1, (hf b z).2.1, (hf b z).2.2.2.2.1, (hf b z).2.2.2.2.2⟩
  · obtain ⟨z1, z2⟩ := low b o q
    rw [off b z1 z2]
    exact n
  · by_cases hb : b ∈ as
    · obtain ⟨j, pk, e1, e2, e3⟩ := LiI.paired_ix atP hb
      rw [e3] at q
      cases q
      obtain ⟨x, y, f1, f2, f3⟩ := hG.pairs j b e1
      obtain ⟨u, w, g1, g2, g3, g4⟩ := zip_get r1 r2 e2
      have f1 : its[j]? = some x := by simpa using f1
      have f2 : its2[j]? = some y := by simpa using f2
      rw [f1] at g1
      rw [f2] at g2
      cases g1
      cases g2
      exact ⟨by show 2 ≤ sizeLine; decide, [x, y], .cons g3 (.cons g4 .nil), ⟨_, f3, rfl, _, rfl⟩⟩
    · by_cases hb2 : b = s.heap.objs.size
      · rw [hb2] at q ⊢
        rw [eS] at q
        cases q
        refine ⟨by rw [List.length_map]; omega, acc.toList, c, by rw [hacc]; exact LiI.vals_refs as, ?_⟩
        rw [Array.toArray_toList]
        exact hS
      · rw [off b hb hb2] at q
        refine (I.hok b u q).stay (fun d v hd y => hk d v ?_ y) (fun d y => kp d _ y) fun d xs y => kp d _ y
        rcases hd with rfl | hd
        · exact nch _ _ q
        · exact nch _ _ hd
/-- list(zip(e, e2)) -/
theorem pe_listZip (hc : X.calm = true) (ha : PA X [e, e2] ta) (hg : Gl X "list") (hm : X.mg "list" = none) (hgz : Gl X "zip") (hmz : X.mg "zip" = none)
    (hs2 : starEach [.Call (.Name "zip" p2) [e, e2] [] pos2] X.env = (false, eval (.Call (.Name "zip" p2) [e, e2] [] pos2) X.env) :: starEach [] X.env := by rfl)
    (hs : starEach [e, e2] X.env = (false, eval e X.env) :: starEach [e2] X.env := by rfl) (hpl : (backTo pos2 (starEach [e2] X.env)).any (·.1) = false := by rfl) :
    PE X (.Call (.Name "list" p) [.Call (.Name "zip" p2) [e, e2] [] pos2] [] pos) (tListZip X.K ta) := by
  refine ⟨fun pins s σ H Q I hq => ?_⟩
  refine wpAny_Call_Name_kw (ld_blt I hg hm rfl ?_)
  refine PyProof.Rows.callWith_type1 ?_ hs2 rfl
  rw [hs2]
  show wpAny _ _ (spliced ((false, eval (.Call (.Name "zip" p2) [e, e2] [] pos2) X.env) :: backTo pos (starEach [] X.env))) _ _ s
  refine Calls.spliced_cons ?_
  refine wpAny_Call_Name_kw (ld_blt I hgz hmz PyProof.Rows.boot_zip (PyProof.Rows.callWith_type1 (thn (ha.run pos2 pins s σ H _ I hq) fun us s1 ⟨vs, H1, I1, r1, q1⟩ => ?_) hs hpl))
  obtain ⟨a, b, xs, ys, ex, hqx, hqy, q⟩ := q1
  subst ex
  cases r1 with
  | cons r rr =>
    cases rr with
    | cons r' rr =>
      cases rr
      cases r
      cases r'
      obtain ⟨its, rv, p1, z1⟩ := I1.list hqx
      obtain ⟨its2, rv2, pp2, z2⟩ := I1.list hqy
      have la : a < s1.heap.objs.size := p1.lt
      have lb : b < s1.heap.objs.size := pp2.lt
      refine call_zip_2 p1.isList pp2.isList fun h' hz hTI hTO h1 h2 hsz hk => ?_
      have I2 : Inv X pins σ H1 { s1 with heap := h' } := I1.kept (t' := s1.toks) hk
      refine Calls.spliced_nil ?_
      have hlt : ∀ {n : Nat}, n < 5 → s1.heap.objs.size + n < h'.objs.size := fun hn => by rw [hsz]; omega
      refine zl_call (s := { s1 with heap := h' }) (I1.ok.hd hc) (PySem.W.ktu_apart s1.heap.objs.size a b la lb) ⟨hTI, h1, h2, p1.isList.at fun o e => hk _ o e, pp2.isList.at fun o e => hk _ o e, .inl ⟨hz, _, _, hTO⟩⟩ hz (hlt (by omega)) (by simp; have := rv.length; omega) fun h2' tk acc c as hk2 hS hl hG hacc => ?_
      have hfp : ∀ c ∈ [s1.heap.objs.size + 4, s1.heap.objs.size + 3, s1.heap.objs.size, s1.heap.objs.size + 1], FpOk X pins H1 c := fun c hcm => by
        have e' : c = s1.heap.objs.size + 4 ∨ c = s1.heap.objs.size + 3 ∨ c = s1.heap.objs.size ∨ c = s1.heap.objs.size + 1 := by simpa using hcm
        have hle : s1.heap.objs.size ≤ c := by omega
        exact I1.fpOk hle (I1.hok.fresh hle)
      obtain ⟨H', k1, k2, k3, k4, k5, k6, k7, k8, J⟩ := zip_laid (tk := tk) (ch := [s1.heap.objs.size + 4, s1.heap.objs.size + 3, s1.heap.objs.size, s1.heap.objs.size + 1]) I2 (by rw [List.length_zip]; have := rv.length; omega) rv rv2 hfp (fun b o hb e => hk2 b o (fun z => hb (by simp [z])) (fun z => hb (by simp [z])) (fun z => hb (by simp [z])) (fun z => hb (by simp [z])) e) hS hl hG hacc
      exact ⟨.ref _, H', J, rfl, q H' _ as k1 k2 k3 k4 k5 k6 k7 k8⟩
end
def lzD : List D → Option D
  | [.list xs, .list ys] => some (.list (zipL xs ys))
  | _ => none
def mListZip (m : M (List D)) : M D := bnd m fun ds => lift (lzD ds)
theorem RpL.zipP {K : PySem.W.Frag} {F' H' : Hp} : ∀ {ts : List Addr} {vs1 vs2 : List V} {xs ys : List D}, Paired (fun (t : Addr) (q : V × V) => H' t = some (.tup [q.1, q.2])) ts (vs1.zip vs2) → (∀ t ∈ ts, F' t = H' t) → RpL K F' vs1 xs → RpL K F' vs2 ys → RpL K F' (ts.map V.ref) (zipL xs ys)
  | _, [], _, _, _, .nil, _, .nil, _ => .nil
  | _, _ :: _, [], _, _, .nil, _, .cons _ _, .nil => .nil
  | _, _ :: _, _ :: _, _, _, .cons h t, hf, .cons r1 q1, .cons r2 q2 => .cons (.tup ((hf _ List.mem_cons_self).trans h) (.cons r1 (.cons r2 .nil))) (RpL.zipP t (fun t ht => hf t (List.mem_cons_of_mem _ ht)) q1 q2)
theorem rd_listZip {K : PySem.W.Frag} {mg : Str → Option Value} {E : XK} {σ : L2.St} {H : Hp} {Q : VK} {m : M (List D)} (h : rdF K mg E (mListZip m) σ H Q) : tListZip K (rdA K mg E m) σ H Q := by
  obtain ⟨fr, s, F, hs, q⟩ := h
  refine ⟨fr, s, F, hs, (Post.bnd q).mono fun ds c1 F1 H1 g1 sb1 cu1 q1 vs rv => ?_⟩
  obtain ⟨z, e, k⟩ := q1.lift
  unfold lzD at e
  split at e
  · rename_i xs ys
    cases e
    cases rv with
    | cons ra rr =>
      cases rr with
      | cons rb rr =>
        cases rr
        cases ra with
        | lst ha ka =>
          cases rb with
          | lst hb kb =>
            rename_i a vs1 b vs2
            refine ⟨a, b, vs1, vs2, rfl, SqL.of (sb1 _ _ ha), SqL.of (sb1 _ _ hb), fun H' p ts kp of np nt hp nd hl pr => ?_⟩
            have cl : ∀ b : Addr, Decidable (b ∈ ts) := fun _ => inferInstance
            have hF' : ∃ F' : Hp, (∀ b, b ∈ ts → F' b = H' b) ∧ ∀ b, b ∉ ts → F' b = F1 b := ⟨fun b => if b ∈ ts then H' b else F1 b, fun b hb => if_pos hb, fun b hb => if_neg hb⟩
            obtain ⟨F', f1, f2⟩ := hF'
            have nts : ∀ b u, H1 b = some u → b ∉ ts := fun b u e z => by rw [nt b z] at e; cases e
            have sF : Same F1 F' := fun b u e => by rw [f2 b (nts b u (sb1 _ _ e))]; exact e
            have sb : Same F' H' := fun b u e => by
              by_cases hb : b ∈ ts
              · rw [← f1 b hb]; exact e
              · rw [f2 b hb] at e; exact kp _ _ (sb1 _ _ e)
            have gt : ∀ b, H1 b ≠ none → H' b ≠ none := fun b e => by
              cases q : H1 b with
              | none => exact absurd q e
              | some u =>
                rw [kp b u q]
                exact (fun z => nomatch z)
            have gn : ∀ b, Nt H1 b → F1 b = none → F' b = none := fun b ⟨u, q, _⟩ e2 => by rw [f2 b (nts b u q)]; exact e2
            have g : Go none F1 H1 F' H' := ⟨sF, fun b u _ e => kp b u e, gt, fun b ⟨u, e, z⟩ => ⟨u, kp b u e, z⟩, gn⟩
            have np0 : H p = none := by
              cases q : H p with
              | none => rfl
              | some u => exact absurd np (g1.t p (by rw [q]; exact (fun z => nomatch z)))
            exact k F' H' g.weak sb (cu1.go g) _ ⟨p, _, rfl, np0, by rw [f2 p hp]; exact sb1.free np, hl, RpL.zipP pr (fun t ht => f1 t ht) (ka.mono sF) (kb.mono sF)⟩
  · cases e
section
variable {X : Cx} {E : XK} {e e2 : Expr} {m : M (List D)} {p p2 pos pos2 : Pos}
theorem pf_listZip (hc : X.calm = true) (hm : X.mg "list" = none) (hmz : X.mg "zip" = none) (ha : PAD X E [e, e2] m) (hg : Gl X "list" := by rfl) (hgz : Gl X "zip" := by rfl)
    (hs2 : starEach [.Call (.Name "zip" p2) [e, e2] [] pos2] X.env = (false, eval (.Call (.Name "zip" p2) [e, e2] [] pos2) X.env) :: starEach [] X.env := by rfl)
    (hs : starEach [e, e2] X.env = (false, eval e X.env) :: starEach [e2] X.env := by rfl) (hpl : (backTo pos2 (starEach [e2] X.env)).any (·.1) = false := by rfl) : PF X E (.Call (.Name "list" p) [.Call (.Name "zip" p2) [e, e2] [] pos2] [] pos) (mListZip m) :=
  PE.imp (pe_listZip hc ha hg hm hgz hmz hs2 hs hpl) fun _ _ _ => rd_listZip
end
@[simp] theorem mListZip_ap (m : M (List D)) (s : S) : mListZip m s = bnd m (fun ds => lift (lzD ds)) s := rfl
end Pu
end

noncomputable section
set_option Elab.async false
set_option linter.all false
set_option maxRecDepth 100000
set_option maxHeartbeats 4000000
/-! Pu, twentieth part: sorted(d) of a dict with tuple keys. -/
namespace PySem.W
open PySem PySem.Calls PyProof.Rows
section
variable {prog : Program} {w : World} {A : Around} {E : Value → Shared → Prop} {s : Shared} {β : Type} {vs : List Value} {bs : List β} {enc : β → PyData} {R : Value → β → Prop}
theorem list_sort_data2 {a : Addr} {n : Nat} {Q : Value → Shared → Prop} (ho : s.heap.get? a = some (seqObj "list" vs.toArray n)) (e : EachIs R vs bs) (er' : EachIs (fun v b => ∃ as, Reads (sortingHeap s.heap a vs) v (enc b) as) vs bs) (hal : AllAlike (bs.map enc)) (hk : Sortable (bs.map enc)) (hL : bs.length ≤ sizeLine)
    (hu : ∀ b, b ∈ bs → A.units + 1 + (enc b).depth < cLine) (h : ∀ out, out.length = bs.length → EachIs R out (bs.mergeSort (dataLe false enc)) → Q .none { s with heap := sortedHeap s.heap a vs (List.toArray out) }) :
    wpAny (model prog w) A (call (.builtin "list.sort") [.ref a]) Q E s := by
  refine wpAny_call_entry slot_list_sort ⟨_, ho, rfl⟩ entry_list_sort (list_sort_vals (κ := dataKind (sortingHeap s.heap a vs) (bs.map enc)) ho (SortsAt.data (s := { s with heap := sortingHeap s.heap a vs }) (each_map (R := fun v d => ∃ as, Reads (sortingHeap s.heap a vs) v d as) enc er') hal hk (bound_map hu)) (by rw [e.length]; exact hL) ⟨.none, rfl, ?_⟩) (args_list_sort _)
  exact h _ (by rw [sortVals_length false rfl]; exact e.length) (sortVals_data false e er' hal)
end
end PySem.W
namespace Pu
open PySem PySem.Spec PySem.Calls PyProof.Rows L2
def keyT (k : List Key) : D := .tuple (k.map keyD)
def rSortDT : List V → Hp → VK → Prop := fun vs H Q => ∃ (d : Addr) (kvs : List (List Key × V)), vs = [V.ref d] ∧ Rd H d (.dT kvs) ∧ PySem.W.AllAlike (kvs.map fun p => keyT p.1) ∧ PySem.W.Sortable (kvs.map fun p => keyT p.1) ∧
  ∀ (ps : List (Addr × D)) (p : Addr), ps.map Prod.snd = (kvs.map fun p => keyT p.1).mergeSort (PySem.W.dataLe false id) → (∀ q ∈ ps, ∃ k : List Key, q.2 = keyT k ∧ H q.1 = some (.tup (k.map kV))) → H p = none → Q (.ref p) (upd H p (.lst (ps.map fun q => V.ref q.1)))
section
variable {X : Cx} {pins : List (Addr × Obj)} {s : Shared} {σ : L2.St} {H : Hp}
theorem dp_keys {K : PySem.W.Frag} : ∀ (k : List Key), DpAll K H (k.map kV) (k.map keyD)
  | [] => .nil
  | .inl i :: k => .cons (.int i) (dp_keys k)
  | .inr x :: k => .cons (.str x) (dp_keys k)
theorem keys_reads (I : Inv X pins σ H s) : ∀ {kvs : List (List Key × V)} {bs : List Addr}, IsKeys H kvs bs → PySem.W.EachIs (fun (v : Value) (b : Addr × D) => ∃ as, Reads s.heap v b.2 as) (bs.map Value.ref) (bs.zip (kvs.map fun p => keyT p.1))
  | _, _, .nil => .nil
  | _, _, .cons (a := p) (b := b) h t => .cons (Dp.reads I _ _ _ (.tup (SqT.of h) (dp_keys p.1)) (show RelV (V.ref b) (Value.ref b) from rfl)) (keys_reads I t)
theorem keys_rel : ∀ {kvs : List (List Key × V)} {bs : List Addr}, IsKeys H kvs bs → PySem.W.EachIs (fun (v : Value) (b : Addr × D) => v = .ref b.1) (bs.map Value.ref) (bs.zip (kvs.map fun p => keyT p.1))
  | _, _, .nil => .nil
  | _, _, .cons _ t => .cons rfl (keys_rel t)
theorem keys_len : ∀ {kvs : List (List Key × V)} {bs : List Addr}, IsKeys H kvs bs → bs.length = kvs.length
  | _, _, .nil => rfl
  | _, _, .cons _ t => by simp [keys_len t]
theorem keys_snd : ∀ {kvs : List (List Key × V)} {bs : List Addr}, IsKeys H kvs bs → (bs.zip (kvs.map fun p => keyT p.1)).map Prod.snd = kvs.map fun p => keyT p.1
  | _, _, .nil => rfl
  | _, _, .cons _ t => by simp [keys_snd t]
theorem keys_mem : ∀ {kvs : List (List Key × V)} {bs : List Addr}, IsKeys H kvs bs → ∀ q ∈ bs.zip (kvs.map fun p => keyT p.1), ∃ k : List Key, q.2 = keyT k ∧ H q.1 = some (.tup (k.map kV))
  | _, _, .nil, q, h => by cases h
  | _, _, .cons h t, q, hq => by
    rcases List.mem_cons.mp hq with rfl | hq
    · exact ⟨_, rfl, h⟩
    · exact keys_mem t q hq
end
theorem keyT_depth (k : List Key) : (keyT k).depth ≤ 1 := by
  have : ∀ k : List Key, PyData.depthAll (k.map keyD) = 0 := fun k => by
    induction k with
    | nil => simp [PyData.depthAll]
    | cons a k ih => cases a <;> simp [PyData.depthAll, keyD, PyData.depth, ih]
  show PyData.depth (.tuple _) ≤ 1
  simp [PyData.depth, this k]
theorem cr_sortDT {X : Cx} (hc : X.calm = true) (hu : X.A.units + 130 < cLine) : CallR X (.builtin "sorted") rSortDT := by
  intro pins s σ H vs us Q I r h
  obtain ⟨d, kvs, rfl, hd, ha, hk, q⟩ := h
  obtain ⟨u, rfl, rx⟩ := r.one
  cases rx
  obtain ⟨z, hs, ks, pr, o, es, ep, ho, hx, hdt, he, hn⟩ := (show ObjOk X.prog X.w H s.heap d (.dT kvs) from hd.ok I.hok)
  have l1 : es.size = ks.length := size_of_entries he
  have l2 : kvs.length = ks.length := Paired.length pr
  refine Calls.call_function_entry kind_sorted plain_sorted entry_sorted (args_sorted1 _) ?_
  unfold Builtin.«sorted»
  refine wpAny_bind (m := checkCount "sorted" 1 1 _) (wpAny_pure ?_)
  refine wpAny_bind (PySem.W.kdu_collect (A := X.A.in1) (kdl_raw hs hx hdt) (I.ok.hd hc) ho (by omega) fun h' tk acc kp it => ?_)
  have ea : acc.toList = (ks.map fun x => x.2.1).map Value.ref := by
    have hl : acc.toList.length = ks.length := by rw [Array.length_toList, it.1]; exact l1
    apply List.ext_getElem?
    intro j
    rw [List.getElem?_map, List.getElem?_map]
    cases hj : acc.toList[j]? with
    | none =>
      have h1 := List.getElem?_eq_none_iff.mp hj
      rw [List.getElem?_eq_none (by omega)]
      all_goals rfl
    | some v =>
      obtain ⟨en, hen, hv⟩ := it.2 j v (by rw [← Array.getElem?_toList]; exact hj)
      have qe := entry_at he j
      rw [hen] at qe
      cases hb : ks[j]? with
      | none =>
        rw [hb] at qe
        exact nomatch (show some en = none from qe)
      | some b =>
        rw [hb] at qe
        have e2 : en = entryOfKey (tupleKind (mixKind X.prog X.w)) b := Option.some.inj qe
        rw [hv, e2]
        all_goals rfl
  have ik : IsKeys H kvs (ks.map fun x => x.2.1) := isKeys_of pr
  obtain ⟨bs, hbs⟩ : ∃ bs, bs = ks.map fun x => x.2.1 := ⟨_, rfl⟩
  rw [← hbs] at ea ik
  have lb := keys_len ik
  have I2 : Inv X pins σ H { s with heap := h', toks := tk } := I.kept (t' := tk) kp
  rw [ea]
  refine wpAny_bind (wpAny_newList ?_ (by rw [List.length_map]; omega))
  have I3 : Inv X pins σ H { s with heap := h'.push { cls := .type "list", data := .seq (bs.map Value.ref).toArray }, toks := tk } := I2.kept (t' := tk) fun b ob q => Heap.get?_push_of_some _ q
  have hD : (h'.push { cls := .type "list", data := .seq (bs.map Value.ref).toArray }).get? h'.objs.size = some (seqObj "list" (bs.map Value.ref).toArray 0) := Heap.get?_push_size _ rfl
  have hlt : ∀ b ob, s.heap.get? b = some ob → b ≠ h'.objs.size := fun b ob e => Nat.ne_of_lt (Heap.lt_size (kp b ob e))
  have er' : PySem.W.EachIs (fun (v : Value) (b : Addr × D) => ∃ as, Reads (PySem.W.sortingHeap (h'.push { cls := .type "list", data := .seq (bs.map Value.ref).toArray }) h'.objs.size (bs.map Value.ref)) v b.2 as) (bs.map Value.ref) (bs.zip (kvs.map fun p => keyT p.1)) :=
    (keys_reads I ik).mono fun _ _ ⟨as, r⟩ => ⟨as, PyProof.Rows.Reads.keeps (fun b ob e => PySem.W.sortingHeap_old (hlt b ob e) (Heap.get?_push_of_some _ (kp b ob e))) r⟩
  have em := keys_snd ik
  have hal : PySem.W.AllAlike ((bs.zip (kvs.map fun p => keyT p.1)).map Prod.snd) := by rw [em]; exact ha
  have hk' : PySem.W.Sortable ((bs.zip (kvs.map fun p => keyT p.1)).map Prod.snd) := by rw [em]; exact hk
  have hL : (bs.map Value.ref).length ≤ sizeLine := by rw [List.length_map]; omega
  have hdep : ∀ b, b ∈ bs.zip (kvs.map fun p => keyT p.1) → X.A.in1.units + 1 + (b.2).depth < cLine := fun b hb => by
    obtain ⟨k, e, _⟩ := keys_mem ik b hb
    have := keyT_depth k
    rw [← e] at this
    have : X.A.in1.units ≤ X.A.units + 1 := by simp [Around.in1]
    omega
  refine wpAny_bind (wpAny_holding (wpAny_mono (Q := fun _ s' => ∃ (x : V) (H' : Hp), L2.Inv X pins σ H' s' ∧ RelV x (.ref h'.objs.size) ∧ Q x H') ?_ (fun _ s' x => ?_) fun _ _ e => e))
  · refine PySem.W.list_sort_data2 (enc := Prod.snd) (R := fun (v : Value) (b : Addr × D) => v = .ref b.1) hD (keys_rel ik) er' hal hk' (by rw [List.length_zip, List.length_map]; omega) hdep fun out h1 h2 => ?_
    obtain ⟨ep2, hat⟩ := sortedHeap_at (vs := bs.map Value.ref) (out := out.toArray) hD
    have hold : ∀ b ob, h'.get? b = some ob → (sortedHeap (h'.push { cls := .type "list", data := .seq (bs.map Value.ref).toArray }) h'.objs.size (bs.map Value.ref) out.toArray).get? b = some ob := fun b ob e => by
      have e3 : (h'.push { cls := .type "list", data := .seq (bs.map Value.ref).toArray }).get? b = some ob := Heap.get?_push_of_some _ e
      rw [sortedHeap_old (Nat.ne_of_lt (Heap.lt_size e)) (Heap.lt_size e3)]
      exact e3
    have hvals : ∀ {us : List Value} {ps : List (Addr × D)}, PySem.W.EachIs (fun (v : Value) (b : Addr × D) => v = .ref b.1) us ps → Vals (ps.map fun q => V.ref q.1) us := fun {us ps} h => by
      induction h with
      | nil => exact .nil
      | cons r _ ih => exact .cons r ih
    refine ⟨.ref h'.objs.size, upd H h'.objs.size (.lst (((bs.zip (kvs.map fun p => keyT p.1)).mergeSort (PySem.W.dataLe false Prod.snd)).map fun q => V.ref q.1)), I2.laid (t' := tk) hold (Nat.le_refl _) ⟨?_, out, ep2, hvals h2, hat⟩, rfl, q _ _ ?_ ?_ (I2.hok.fresh (Nat.le_refl _))⟩
    · rw [List.length_map, List.length_mergeSort, List.length_zip, List.length_map]; omega
    · rw [List.map_mergeSort (s := PySem.W.dataLe false id), em]
      intro a _ b _
      rfl
    · intro q hq
      exact keys_mem ik q ((List.mergeSort_perm _ _).mem_iff.mp hq)
  · obtain ⟨x, H', a1, a2, a3⟩ := x
    exact wpAny_pure ⟨_, rfl, x, H', a1, a2, a3⟩
end Pu
end

noncomputable section
set_option Elab.async false
set_option linter.all false
set_option maxRecDepth 100000
set_option maxHeartbeats 4000000
/-! Pu, twenty-first part: sorted(d), by data. -/
namespace Pu
open PySem PySem.Spec L2
def sortDD : D → Option D
  | .dict kvs => if (!kvs.isEmpty && (kvs.all (fun p => tpK p.1) && sortOk (kvs.map Prod.fst))) = true then some (.list (srt (kvs.map Prod.fst))) else none
  | _ => none
theorem RpT.fst {K : PySem.W.Frag} {F : Hp} : ∀ {kvs : List (List Key × V)} {ds : List (D × D)}, RpT K F kvs ds → ds.map Prod.fst = kvs.map fun p => keyT p.1
  | _, _, .nil => rfl
  | _, _, .cons _ r => by rw [List.map_cons, List.map_cons, RpT.fst r]; rfl
theorem rpl_keys {K : PySem.W.Frag} {F : Hp} : ∀ k : List Key, RpL K F (k.map kV) (k.map keyD)
  | [] => .nil
  | .inl i :: k => .cons (.int i) (rpl_keys k)
  | .inr x :: k => .cons (.str x) (rpl_keys k)
theorem cd_sortedD {X : Cx} (hc : X.calm = true) (hu : X.A.units + 130 < cLine) : CallR X (.builtin "sorted") (rC1 X.K sortDD) := by
  refine CallR.imp (cr_sortDT hc hu) fun xs H Q ⟨x, e, pc, F, d, z, r, sb, h, q⟩ => ?_
  subst e
  unfold sortDD at h
  split at h
  · rename_i kvs
    split at h
    · rename_i hok
      cases h
      simp only [Bool.and_eq_true] at hok
      obtain ⟨hne, hall, hso⟩ := hok
      obtain ⟨h1, h2, _, _⟩ := sortOk_i.mp hso
      obtain ⟨p0, o, rfl, hr, hd⟩ := r.dict sb
      cases hd with
      | k hd =>
        obtain ⟨_, rfl⟩ := hd.allT hall
        cases hne
      | t hd =>
        rename_i tv
        rw [hd.fst] at h1 h2 q
        refine ⟨p0, tv, rfl, hr, h1, h2, fun ps p hps hq np => ?_⟩
        have nk : ∀ b u, H b = some u → b ≠ p := fun b u e z => by rw [z, np] at e; cases e
        have hF' : ∃ F' : Hp, (∀ b, b ∈ ps.map Prod.fst → F' b = H b) ∧ ∀ b, b ∉ ps.map Prod.fst → F' b = F b := ⟨fun b => if b ∈ ps.map Prod.fst then H b else F b, fun b hb => if_pos hb, fun b hb => if_neg hb⟩
        obtain ⟨F', f1, f2⟩ := hF'
        have hk : ∀ b, b ∈ ps.map Prod.fst → ∃ k : List Key, H b = some (.tup (k.map kV)) := fun b hb => by
          obtain ⟨qq, hqq, rfl⟩ := List.mem_map.mp hb
          obtain ⟨k, _, e⟩ := hq qq hqq
          exact ⟨k, e⟩
        have hp : p ∉ ps.map Prod.fst := fun hb => by obtain ⟨k, e⟩ := hk p hb; rw [np] at e; cases e
        have sF : Same F F' := fun b u e => by
          by_cases hb : b ∈ ps.map Prod.fst
          · rw [f1 b hb]; exact sb _ _ e
          · rw [f2 b hb]; exact e
        have kp : ∀ b u, H b = some u → upd H p (.lst (ps.map fun q => V.ref q.1)) b = some u := fun b u e => by rw [upd_ne (nk b u e)]; exact e
        have sb' : Same F' (upd H p (.lst (ps.map fun q => V.ref q.1))) := fun b u e => by
          by_cases hb : b ∈ ps.map Prod.fst
          · rw [f1 b hb] at e; exact kp b u e
          · rw [f2 b hb] at e; exact kp b u (sb _ _ e)
        have g : Go none F H F' (upd H p (.lst (ps.map fun q => V.ref q.1))) := ⟨sF, fun b u _ e => kp b u e, fun b e => by
          cases q : H b with
          | none => exact absurd q e
          | some u => rw [kp b u q]; exact (fun z => nomatch z), fun b ⟨u, e, z⟩ => ⟨u, kp b u e, z⟩, fun b ⟨u, e, z⟩ e2 => by
          by_cases hb : b ∈ ps.map Prod.fst
          · obtain ⟨k, e3⟩ := hk b hb
            rw [e] at e3
            cases e3
            cases z
          · rw [f2 b hb]; exact e2⟩
        have rl : ∀ {l : List (Addr × D)}, (∀ q ∈ l, q ∈ ps) → RpL X.K F' (l.map fun q => V.ref q.1) (l.map Prod.snd) := fun {l} => by
          induction l with
          | nil => intro _; exact .nil
          | cons a l ih =>
            intro hl
            obtain ⟨k, e1, e2⟩ := hq a (hl a List.mem_cons_self)
            refine .cons ?_ (ih fun q hq => hl q (List.mem_cons_of_mem _ hq))
            rw [e1]
            exact .tup ((f1 _ (List.mem_map.mpr ⟨a, hl a List.mem_cons_self, rfl⟩)).trans e2) (rpl_keys k)
        have rl := rl (l := ps) fun q h => h
        rw [hps] at rl
        exact q _ _ _ g sb' ⟨p, _, rfl, np, by rw [f2 p hp]; exact sb.free np, upd_same, rl⟩
    · cases h
  · cases h
end Pu
end

noncomputable section
set_option Elab.async false
set_option linter.all false
set_option maxRecDepth 100000
set_option maxHeartbeats 8000000
/-! PuC0: meanings of the defs that two laws or more share (printed by gencom.py). -/
namespace Pu
open PySem PySem.Spec L2
theorem fuel_ex : ∃ n : Nat, n = 200000 := ⟨_, rfl⟩
/-- closed to the kernel -/
def fuel : Nat := Classical.choose fuel_ex
theorem fuel_eq : fuel = 200000 := Classical.choose_spec fuel_ex
def b_wall : MS := (mWhile fuel (mB (rt (.bool true))) mNext)
def phi_wall (ds : List D) : O := fin (b_wall ⟨(0, 0), st0 1 ds⟩)
def b_is_whole : MS := (mRet (mAndV (m1 isIntD (slB 0)) (mNotV (m1 isBoolD (slB 0)))))
def phi_is_whole (ds : List D) : O := fin (b_is_whole ⟨(0, 0), st0 1 ds⟩)
def b_fits_whole : MS := (mRet (mAndV (mCall phi_is_whole (aCons (slE 0) aNil)) (mChain leD leD (slB 1) (slB 0) (slB 2))))
def phi_fits_whole (ds : List D) : O := fin (b_fits_whole ⟨(0, 0), st0 3 ds⟩)
def b_is_tuple_of : MS := (mRet (mAndV (m1 isTupD (slB 0)) (mChain leD leD (slB 1) (m1 lenD (slB 0)) (slB 2))))
def phi_is_tuple_of (ds : List D) : O := fin (b_is_tuple_of ⟨(0, 0), st0 3 ds⟩)
abbrev L_SIZES : List (Str × Int) := [("s", 4), ("h", 2), ("t", 3), ("q", 1)]
def b_fits_sign : MS := (mRet (mAndV (m1 isStrD (slB 0)) (m1 (wInD L_SIZES) (slB 0))))
def phi_fits_sign (ds : List D) : O := fin (b_fits_sign ⟨(0, 0), st0 1 ds⟩)
def b_fits_course : MS := (mSeq (mIfS (mOr (mNot (mB (m1 isStrD (slB 0)))) (mOr (mNot (mB (mChain leD leD (rt (.int 1)) (m1 lenD (slB 0)) (rt (.int 24))))) (mNot (mB (m1 allD (mLc [1] (mI iterD (slE 0)) (bName 1) mYes (m1 (wInD L_SIZES) (slB 1)))))))) (mRet (rt (.bool false))) mNext) (mRet (m2 leD (m1 sumD (mLc [1] (mI iterD (slE 0)) (bName 1) mYes (m1 (wgD L_SIZES) (slB 1)))) (rt (.int 60)))))
def phi_fits_course (ds : List D) : O := fin (b_fits_course ⟨(0, 0), st0 2 ds⟩)
def b_length_in : MS := (mRet (m1 sumD (mLc [1] (mI iterD (slE 0)) (bName 1) mYes (m1 (wgD L_SIZES) (slB 1)))))
def phi_length_in (ds : List D) : O := fin (b_length_in ⟨(0, 0), st0 2 ds⟩)
def b_fits_front : MS := (mSeq (mIfS (mOr (mNot (mB (mCall phi_is_tuple_of (aCons (slE 0) (aCons (rt (.int 1)) (aCons (rt (.int 24)) aNil)))))) (mNot (mB (m1 allD (mLc [1] (mI iterD (slE 0)) (bName 1) mYes (mCall phi_fits_course (aCons (slE 1) aNil))))))) (mRet (rt (.bool false))) mNext) (mRet (m1 allD (mLc [1] (mI iterD (slE 0)) (bName 1) mYes (m2 eqD (mCall phi_length_in (aCons (slE 1) aNil)) (mCall phi_length_in (aCons (m2 ixD (slB 0) (rt (.int 0))) aNil)))))))
def phi_fits_front (ds : List D) : O := fin (b_fits_front ⟨(0, 0), st0 2 ds⟩)
def b_need_course : MS := (mIfS (mNot (mB (mCall phi_fits_course (aCons (slE 0) aNil)))) mNo mNext)
def phi_need_course (ds : List D) : O := fin (b_need_course ⟨(0, 0), st0 1 ds⟩)
def b_need_front : MS := (mIfS (mNot (mB (mCall phi_fits_front (aCons (slE 0) aNil)))) mNo mNext)
def phi_need_front (ds : List D) : O := fin (b_need_front ⟨(0, 0), st0 1 ds⟩)
def b_need_lap : MS := (mIfS (mNot (mB (mCall phi_fits_whole (aCons (slE 0) (aCons (rt (.int 1)) (aCons (rt (.int 4)) aNil)))))) mNo mNext)
def phi_need_lap (ds : List D) : O := fin (b_need_lap ⟨(0, 0), st0 1 ds⟩)
def b_joints_in : MS := (mSeq (mPar 1 2 (mLst aNil) (rt (.int 0))) (mSeq (mFor (bName 3) (mI iterD (mSl (slB 0) pNo (pAt (m1 negD (rt (.int 1)))))) (mSeq (mSetF 2 (m2 addD (slB 2) (m1 (wgD L_SIZES) (slB 3)))) (mApp 1 (slE 2)))) (mFrz 1 (mRet (slE 1)))))
def phi_joints_in (ds : List D) : O := fin (b_joints_in ⟨(0, 0), st0 4 ds⟩)
def b_lap_in : MS := (mSeq (mSetF 2 (mLc2 [3, 4] (mI iterD (mCall phi_joints_in (aCons (slE 0) aNil))) (bName 3) mYes [4] (mI iterD (mCall phi_joints_in (aCons (slE 1) aNil))) (bName 4) mYes (m1 absD (m2 subD (slB 3) (slB 4))))) (mRet (mIf (mB (m2 neD (slB 2) (mLst aNil))) (m1 minGD (slB 2)) (rt .none))))
def phi_lap_in (ds : List D) : O := fin (b_lap_in ⟨(0, 0), st0 5 ds⟩)
def b_bonds_in : MS := (mSeq (mSetE 3 (mCall phi_lap_in (aCons (slE 0) (aCons (slE 1) aNil)))) (mRet (mOrV (m2 isD (slB 3) (rt .none)) (m2 geD (slB 3) (slB 2)))))
def phi_bonds_in (ds : List D) : O := fin (b_bonds_in ⟨(0, 0), st0 4 ds⟩)
def b_length_of : MS := (mSeq (mDrop (mCall phi_need_course (aCons (slE 0) aNil))) (mRet (mCall phi_length_in (aCons (slE 0) aNil))))
def phi_length_of (ds : List D) : O := fin (b_length_of ⟨(0, 0), st0 1 ds⟩)
def b_is_bonded : MS := (mSeq (mDrop (mCall phi_need_front (aCons (slE 0) aNil))) (mSeq (mDrop (mCall phi_need_lap (aCons (slE 1) aNil))) (mRet (m1 allD (mLc [2, 3] (mZip (aCons (slE 0) (aCons (mSl (slB 0) (pAt (rt (.int 1))) pNo) aNil))) (bTup [(bName 2), (bName 3)]) mYes (mCall phi_bonds_in (aCons (slE 2) (aCons (slE 3) (aCons (slE 1) aNil)))))))))
def phi_is_bonded (ds : List D) : O := fin (b_is_bonded ⟨(0, 0), st0 4 ds⟩)
def b_front_from_behind : MS := (mSeq (mDrop (mCall phi_need_front (aCons (slE 0) aNil))) (mRet (m1 tupD (mLc [1] (mI iterD (slE 0)) (bName 1) mYes (m1 revD (slB 1))))))
def phi_front_from_behind (ds : List D) : O := fin (b_front_from_behind ⟨(0, 0), st0 2 ds⟩)
def b_upper_in : MS := (mRet (mIf (mB (m2 neD (m2 ixD (slB 0) (rt (.int 2))) (mTup aNil))) (m2 ixD (m2 ixD (slB 0) (rt (.int 2))) (m1 negD (rt (.int 1)))) (rt (.str ""))))
def phi_upper_in (ds : List D) : O := fin (b_upper_in ⟨(0, 0), st0 1 ds⟩)
def b_near_in : MS := (mSeq (mBind (bTup [(bName 2), (bName 3), (bName 4), (bName 5)]) (slE 0)) (mSeq (mSetF 6 (m2 addD (mCall phi_length_in (aCons (slE 5) aNil)) (m1 (wgD L_SIZES) (slB 1)))) (mSeq (mIfS (mOr (mB (m2 eqD (slB 6) (slB 2))) (mB (m2 eqD (slB 4) (mTup aNil)))) (mRet (rt (.bool false))) mNext) (mRet (m1 anyD (mLc [7] (mI iterD (mCall phi_joints_in (aCons (mCall phi_upper_in (aCons (slE 0) aNil)) aNil))) (bName 7) mYes (m2 ltG (m1 absD (m2 subD (slB 6) (slB 7))) (slB 3))))))))
def phi_near_in (ds : List D) : O := fin (b_near_in ⟨(0, 0), st0 8 ds⟩)
def b_why_barred : MS := (mSeq (mBind (bTup [(bName 2), (bName 3), (bName 4), (bName 5)]) (slE 0)) (mSeq (mIfS (mB (m2 eqD (m2 ixD (slB 1) (rt (.int 0))) (rt (.str "line")))) (mRet (mIf (mOr (mB (m2 neD (slB 4) (mTup aNil))) (mB (m2 neD (slB 5) (rt (.str ""))))) (rt (.str "laid")) (mIf (mB (m2 eqD (m2 ixD (slB 1) (rt (.int 1))) (slB 2))) (rt (.str "idle")) (rt (.str ""))))) mNext) (mSeq (mIfS (mB (m2 eqD (m2 ixD (slB 1) (rt (.int 0))) (rt (.str "lap")))) (mRet (mIf (mB (m2 eqD (m2 ixD (slB 1) (rt (.int 1))) (slB 3))) (rt (.str "idle")) (rt (.str "")))) mNext) (mSeq (mIfS (mB (m2 eqD (m2 ixD (slB 1) (rt (.int 0))) (rt (.str "lay")))) (mSeq (mIfS (mB (m2 eqD (m1 lenD (slB 4)) (rt (.int 24)))) (mRet (rt (.str "high"))) mNext) (mSeq (mSetF 6 (m2 addD (mCall phi_length_in (aCons (slE 5) aNil)) (m1 (wgD L_SIZES) (m2 ixD (slB 1) (rt (.int 1)))))) (mSeq (mIfS (mOr (mB (m2 gtG (slB 6) (slB 2))) (mAnd (mB (m2 eqD (m1 lenD (slB 5)) (m2 subD (rt (.int 24)) (rt (.int 1))))) (mB (m2 ltG (slB 6) (slB 2))))) (mRet (rt (.str "long"))) mNext) (mRet (mIf (mB (mCall phi_near_in (aCons (slE 0) (aCons (m2 ixD (slB 1) (rt (.int 1))) aNil)))) (rt (.str "near")) (rt (.str ""))))))) mNext) (mSeq (mIfS (mB (m2 eqD (m2 ixD (slB 1) (rt (.int 0))) (rt (.str "lift")))) (mRet (mIf (mB (m2 gtG (m2 ixD (slB 1) (rt (.int 1))) (m1 lenD (slB 5)))) (rt (.str "lacks")) (rt (.str "")))) mNext) (mSeq (mIfS (mB (m2 eqD (m2 ixD (slB 1) (rt (.int 0))) (rt (.str "clear")))) (mRet (mIf (mB (m2 eqD (slB 5) (rt (.str "")))) (rt (.str "idle")) (rt (.str "")))) mNext) (mRet (mIf (mB (m2 neD (slB 5) (rt (.str "")))) (rt (.str "begun")) (mIf (mB (m2 eqD (slB 4) (m1 tupD (mLc [7] (mI iterD (slE 4)) (bName 7) mYes (m1 revD (slB 7)))))) (rt (.str "idle")) (rt (.str "")))))))))))
def phi_why_barred (ds : List D) : O := fin (b_why_barred ⟨(0, 0), st0 8 ds⟩)
def b_behind_deed : MS := (mSeq (mBind (bTup [(bName 2), (bName 3), (bName 4), (bName 5)]) (slE 0)) (mSeq (mIfS (mB (m2 eqD (m2 ixD (slB 1) (rt (.int 0))) (rt (.str "line")))) (mRet (mTup (aCons (m2 ixD (slB 1) (rt (.int 1))) (aCons (slE 3) (aCons (slE 4) (aCons (slE 5) aNil)))))) mNext) (mSeq (mIfS (mB (m2 eqD (m2 ixD (slB 1) (rt (.int 0))) (rt (.str "lap")))) (mRet (mTup (aCons (slE 2) (aCons (m2 ixD (slB 1) (rt (.int 1))) (aCons (slE 4) (aCons (slE 5) aNil)))))) mNext) (mSeq (mIfS (mB (m2 eqD (m2 ixD (slB 1) (rt (.int 0))) (rt (.str "lay")))) (mSeq (mSetF 5 (m2 addD (slB 5) (m2 ixD (slB 1) (rt (.int 1))))) (mFrz 5 (mRet (mIf (mB (m2 eqD (mCall phi_length_in (aCons (slE 5) aNil)) (slB 2))) (mTup (aCons (slE 2) (aCons (slE 3) (aCons (m2 addD (slB 4) (mTup (aCons (slE 5) aNil))) (aCons (rt (.str "")) aNil))))) (mTup (aCons (slE 2) (aCons (slE 3) (aCons (slE 4) (aCons (slE 5) aNil))))))))) mNext) (mSeq (mIfS (mB (m2 eqD (m2 ixD (slB 1) (rt (.int 0))) (rt (.str "lift")))) (mRet (mTup (aCons (slE 2) (aCons (slE 3) (aCons (slE 4) (aCons (mSl (slB 5) pNo (pAt (m2 subD (m1 lenD (slB 5)) (m2 ixD (slB 1) (rt (.int 1)))))) aNil)))))) mNext) (mSeq (mIfS (mB (m2 eqD (m2 ixD (slB 1) (rt (.int 0))) (rt (.str "clear")))) (mRet (mTup (aCons (slE 2) (aCons (slE 3) (aCons (slE 4) (aCons (rt (.str "")) aNil)))))) mNext) (mFrz 5 (mRet (mTup (aCons (slE 2) (aCons (slE 3) (aCons (m1 tupD (mLc [6] (mI iterD (slE 4)) (bName 6) mYes (m1 revD (slB 6)))) (aCons (slE 5) aNil)))))))))))))
def phi_behind_deed (ds : List D) : O := fin (b_behind_deed ⟨(0, 0), st0 7 ds⟩)
def b_told_behind : MS := (mRet (mIf (mB (m2 inD (m2 ixD (slB 1) (rt (.int 0))) (mTup (aCons (rt (.str "lay")) (aCons (rt (.str "lift")) (aCons (rt (.str "clear")) aNil)))))) (mCall phi_length_in (aCons (m2 ixD (slB 0) (rt (.int 3))) aNil)) (m1 lenD (m2 ixD (slB 0) (rt (.int 2))))))
def phi_told_behind (ds : List D) : O := fin (b_told_behind ⟨(0, 0), st0 2 ds⟩)
def b_law_some (phi_law_roll : Int × Int → List D → R D) : MS := (mRet (m2 ixD (slB 1) (mCallC 0 phi_law_roll (aCons (m1 lenD (slB 1)) aNil))))
def phi_law_some (phi_law_roll : Int × Int → List D → R D) (c : Int × Int) (ds : List D) : R D := finC (b_law_some phi_law_roll ⟨c, .cup :: st0 1 ds⟩)
def b_law_same (rec : List D → O) : MS := (mSeq (mIfS (mB (m1 isTupD (slB 1))) (mSeq (mIfS (mOr (mNot (mB (m1 isTupD (slB 0)))) (mB (m2 neD (m1 lenD (slB 0)) (m1 lenD (slB 1))))) (mRet (rt (.bool false))) mNext) (mRet (m1 allD (mLc [2] (mI rng1D (m1 lenD (slB 1))) (bName 2) mYes (mCall rec (aCons (m2 ixD (slB 0) (slB 2)) (aCons (m2 ixD (slB 1) (slB 2)) aNil))))))) mNext) (mSeq (mIfS (mB (m2 isD (slB 1) (rt .none))) (mRet (m2 isD (slB 0) (rt .none))) mNext) (mSeq (mIfS (mB (m1 isBoolD (slB 1))) (mRet (mIf (mB (slB 1)) (m2 isD (slB 0) (rt (.bool true))) (m2 isD (slB 0) (rt (.bool false))))) mNext) (mSeq (mIfS (mB (m1 isIntD (slB 1))) (mRet (mAndV (m1 isIntD (slB 0)) (mAndV (mNotV (m1 isBoolD (slB 0))) (m2 eqD (m1 intD (slB 0)) (slB 1))))) mNext) (mRet (mAndV (m1 isStrD (slB 0)) (m2 eqD (m1 strD (slB 0)) (slB 1))))))))
def phi_law_same_ : Nat → List D → O
  | 0 => fun _ => .no
  | k + 1 => fun ds => fin (b_law_same (phi_law_same_ k) ⟨(0, 0), st0 3 ds⟩)
abbrev phi_law_same : List D → O := phi_law_same_ 8
def b_law_size : MS := (mRet (m1 sumD (mLc [1] (mI iterD (slE 0)) (bName 1) mYes (m2 dgD (rt (litD [("s", 4), ("t", 3), ("h", 2), ("q", 1)])) (slB 1)))))
def phi_law_size (ds : List D) : O := fin (b_law_size ⟨(0, 0), st0 2 ds⟩)
def b_law_joints : MS := (mRet (mLc [1] (mR2 (rt (.int 1)) (m1 lenD (slB 0))) (bName 1) mYes (mCall phi_law_size (aCons (mSl (slB 0) pNo (pAt (slB 1))) aNil))))
def phi_law_joints (ds : List D) : O := fin (b_law_joints ⟨(0, 0), st0 2 ds⟩)
def b_fits_lot : MS := (mSeq (mIfS (mOr (mNot (mB (mCall phi_is_tuple_of (aCons (slE 0) (aCons (rt (.int 4)) (aCons (rt (.int 4)) aNil)))))) (mNot (mB (m1 allD (mLc [1] (mI iterD (slE 0)) (bName 1) mYes (mCall phi_fits_whole (aCons (slE 1) (aCons (rt (.int 0)) (aCons (rt (.int 60)) aNil))))))))) (mRet (rt (.bool false))) mNext) (mRet (m2 gtG (m1 sumD (slB 0)) (rt (.int 0)))))
def phi_fits_lot (ds : List D) : O := fin (b_fits_lot ⟨(0, 0), st0 2 ds⟩)
def b_need_lot : MS := (mIfS (mNot (mB (mCall phi_fits_lot (aCons (slE 0) aNil)))) mNo mNext)
def phi_need_lot (ds : List D) : O := fin (b_need_lot ⟨(0, 0), st0 1 ds⟩)
def b_need_length : MS := (mIfS (mNot (mB (mCall phi_fits_whole (aCons (slE 0) (aCons (rt (.int 1)) (aCons (rt (.int 24)) aNil)))))) mNo mNext)
def phi_need_length (ds : List D) : O := fin (b_need_length ⟨(0, 0), st0 1 ds⟩)
def b_quarters_in : MS := (mRet (m1 sumD (mLc [1, 2] (mZip (aCons (rt (.str "hqst")) (aCons (slE 0) aNil))) (bTup [(bName 1), (bName 2)]) mYes (m2 mulX (slB 2) (m1 (wgD L_SIZES) (slB 1))))))
def phi_quarters_in (ds : List D) : O := fin (b_quarters_in ⟨(0, 0), st0 3 ds⟩)
def b_less : MS := (mSeq (mSetF 2 (m1 tupD (mLc [3, 4] (mZip (aCons (slE 0) (aCons (slE 1) aNil))) (bTup [(bName 3), (bName 4)]) mYes (m2 subD (slB 3) (slB 4))))) (mRet (mIf (mB (m2 geD (m1 minGD (slB 2)) (rt (.int 0)))) (slE 2) (rt .none))))
def phi_less (ds : List D) : O := fin (b_less ⟨(0, 0), st0 5 ds⟩)
def b_courses_in : MS := (mSeq (mPar 2 3 (mLst (aCons (mTup (aCons (rt (.str "")) (aCons (rt (.int 0)) (aCons (slE 0) aNil)))) aNil)) (mLst aNil)) (mSeq (mWhile fuel (mB (m2 neD (slB 2) (mLst aNil))) (mSeq (mSetF 4 (mLst aNil)) (mSeq (mFrz 2 (mFor (bTup [(bName 5), (bName 6), (bName 7)]) (mI iterD (slE 2)) (mFor (bTup [(bName 8), (bName 9)]) (mEnum (aCons (rt (.str "hqst")) aNil)) (mIfS (mAnd (mB (m2 gtG (m2 ixD (slB 7) (slB 8)) (rt (.int 0)))) (mB (m2 leD (m2 addD (slB 6) (m1 (wgD L_SIZES) (slB 9))) (slB 1)))) (mSeq (mSetF 10 (m2 addD (m2 addD (mSl (slB 7) pNo (pAt (slB 8))) (mTup (aCons (m2 subD (m2 ixD (slB 7) (slB 8)) (rt (.int 1))) aNil))) (mSl (slB 7) (pAt (m2 addD (slB 8) (rt (.int 1)))) pNo))) (mApp 4 (mTup (aCons (m2 addD (slB 5) (slB 9)) (aCons (m2 addD (slB 6) (m1 (wgD L_SIZES) (slB 9))) (aCons (slE 10) aNil)))))) mNext)))) (mSeq (mFrz 4 (mExt 3 (mLc [5, 6, 7] (mI iterD (slE 4)) (bTup [(bName 5), (bName 6), (bName 7)]) (mB (m2 eqD (slB 6) (slB 1))) (slE 5)))) (mFrz 4 (mSetF 2 (mLc [11] (mI iterD (slE 4)) (bName 11) (mB (m2 ltG (m2 ixD (slB 11) (rt (.int 1))) (slB 1))) (slE 11)))))))) (mRet (m1 sortD (slB 3)))))
def phi_courses_in (ds : List D) : O := fin (b_courses_in ⟨(0, 0), st0 12 ds⟩)
def b_quarters_of : MS := (mSeq (mDrop (mCall phi_need_lot (aCons (slE 0) aNil))) (mRet (mCall phi_quarters_in (aCons (slE 0) aNil))))
def phi_quarters_of (ds : List D) : O := fin (b_quarters_of ⟨(0, 0), st0 1 ds⟩)
def b_law_row (phi_law_roll : Int × Int → List D → R D) : MS := (mSeq (mBind (bTup [(bName 2), (bName 3)]) (mTup (aCons (rt (.str "")) (aCons (slE 1) aNil)))) (mSeq (mWhile fuel (mB (m2 gtG (slB 3) (rt (.int 0)))) (mSeq (mSetE 4 (mCallC 0 (phi_law_some phi_law_roll) (aCons (mLc [5] (mI iterD (rt (.str "shtq"))) (bName 5) (mB (m2 leD (mCall phi_law_size (aCons (slE 5) aNil)) (slB 3))) (slE 5)) aNil))) (mFrz 4 (mBind (bTup [(bName 2), (bName 3)]) (mTup (aCons (m2 addD (slB 2) (slB 4)) (aCons (m2 subD (slB 3) (mCall phi_law_size (aCons (slE 4) aNil))) aNil))))))) (mRet (slE 2))))
def phi_law_row (phi_law_roll : Int × Int → List D → R D) (c : Int × Int) (ds : List D) : R D := finC (b_law_row phi_law_roll ⟨c, .cup :: st0 5 ds⟩)
def b_law_front (phi_law_roll : Int × Int → List D → R D) : MS := (mSeq (mSetF 3 (m2 addD (rt (.int 1)) (mCallC 0 phi_law_roll (aCons (slE 2) aNil)))) (mRet (m1 tupD (mLc [4] (mI rng1D (m2 addD (rt (.int 1)) (mCallC 0 phi_law_roll (aCons (slE 1) aNil)))) (bName 4) mYes (mCallC 0 (phi_law_row phi_law_roll) (aCons (slE 3) aNil))))))
def phi_law_front (phi_law_roll : Int × Int → List D → R D) (c : Int × Int) (ds : List D) : R D := finC (b_law_front phi_law_roll ⟨c, .cup :: st0 4 ds⟩)
def b_law_bond : MS := (mSeq (mSetE 3 (mCall phi_law_joints (aCons (slE 1) aNil))) (mSeq (mFor (bName 4) (mI iterD (mCall phi_law_joints (aCons (slE 0) aNil))) (mFrz 3 (mIfS (mB (m2 neD (mLc [5] (mI iterD (slE 3)) (bName 5) (mB (m2 ltG (m2 max2D (m2 subD (slB 4) (slB 5)) (m2 subD (slB 5) (slB 4))) (slB 2))) (slE 5)) (mLst aNil))) (mRet (rt (.bool false))) mNext))) (mRet (rt (.bool true)))))
def phi_law_bond (ds : List D) : O := fin (b_law_bond ⟨(0, 0), st0 6 ds⟩)
def b_unlike_lots : MS := (mSeq (mDrop (mCall phi_need_lot (aCons (slE 0) aNil))) (mSeq (mDrop (mCall phi_need_length (aCons (slE 1) aNil))) (mSeq (mSetF 2 (mLst (aCons (mTup (aCons (rt (.int 0)) (aCons (m2 mulX (mTup (aCons (rt (.int 0)) aNil)) (m1 lenD (rt (.str "hqst")))) aNil))) aNil))) (mSeq (mFor (bTup [(bName 3), (bName 4)]) (mEnum (aCons (rt (.str "hqst")) aNil)) (mSeq (mSetF 5 (mLst aNil)) (mSeq (mFrz 2 (mFor (bTup [(bName 6), (bName 7)]) (mI iterD (slE 2)) (mFor (bName 8) (mI rng1D (m2 addD (m2 min2D (m2 ixD (slB 0) (slB 3)) (m2 fdivD (m2 subD (slB 1) (slB 6)) (m1 (wgD L_SIZES) (slB 4)))) (rt (.int 1)))) (mApp 5 (mTup (aCons (m2 addD (slB 6) (m2 mulX (slB 8) (m1 (wgD L_SIZES) (slB 4)))) (aCons (m2 addD (m2 addD (mSl (slB 7) pNo (pAt (slB 3))) (mTup (aCons (slE 8) aNil))) (mSl (slB 7) (pAt (m2 addD (slB 3) (rt (.int 1)))) pNo)) aNil))))))) (mFrz 5 (mSetE 2 (slE 5)))))) (mFrz 2 (mRet (m1 lenD (mLc [6, 7] (mI iterD (slE 2)) (bTup [(bName 6), (bName 7)]) (mB (m2 eqD (slB 6) (slB 1))) (rt (.int 1))))))))))
def phi_unlike_lots (ds : List D) : O := fin (b_unlike_lots ⟨(0, 0), st0 9 ds⟩)
def b_need_few : MS := (mIfS (mB (m2 gtG (m1 sumD (slB 0)) (rt (.int 10)))) mNo mNext)
def phi_need_few (ds : List D) : O := fin (b_need_few ⟨(0, 0), st0 1 ds⟩)
def b_spans_in : MS := (mSeq (mSetF 1 (m2 addD (m2 addD (mLst (aCons (rt (.int 0)) aNil)) (mCall phi_joints_in (aCons (slE 0) aNil))) (mLst (aCons (mCall phi_length_in (aCons (slE 0) aNil)) aNil)))) (mFrz 1 (mRet (mListZip (aCons (slE 1) (aCons (mSl (slB 1) (pAt (rt (.int 1))) pNo) aNil))))))
def phi_spans_in (ds : List D) : O := fin (b_spans_in ⟨(0, 0), st0 2 ds⟩)
def b_fits_brick : MS := (mSeq (mIfS (mOr (mNot (mB (mCall phi_is_tuple_of (aCons (slE 1) (aCons (rt (.int 2)) (aCons (rt (.int 2)) aNil)))))) (mNot (mB (mCall phi_fits_whole (aCons (m2 ixD (slB 1) (rt (.int 0))) (aCons (rt (.int 0)) (aCons (m2 subD (m1 lenD (slB 0)) (rt (.int 1))) aNil))))))) (mRet (rt (.bool false))) mNext) (mRet (mCall phi_fits_whole (aCons (m2 ixD (slB 1) (rt (.int 1))) (aCons (rt (.int 0)) (aCons (m2 subD (m1 lenD (m2 ixD (slB 0) (m2 ixD (slB 1) (rt (.int 0))))) (rt (.int 1))) aNil))))))
def phi_fits_brick (ds : List D) : O := fin (b_fits_brick ⟨(0, 0), st0 2 ds⟩)
def b_need_brick : MS := (mSeq (mDrop (mCall phi_need_front (aCons (slE 0) aNil))) (mIfS (mNot (mB (mCall phi_fits_brick (aCons (slE 0) (aCons (slE 1) aNil))))) mNo mNext))
def phi_need_brick (ds : List D) : O := fin (b_need_brick ⟨(0, 0), st0 2 ds⟩)
def b_bricks_in : MS := (mRet (mLc2 [1, 2, 3] (mEnum (aCons (slE 0) aNil)) (bTup [(bName 1), (bName 2)]) mYes [3] (mI rng1D (m1 lenD (slB 2))) (bName 3) mYes (mTup (aCons (slE 1) (aCons (slE 3) aNil)))))
def phi_bricks_in (ds : List D) : O := fin (b_bricks_in ⟨(0, 0), st0 4 ds⟩)
def b_over_in : MS := (mSeq (mBind (bTup [(bName 3), (bName 4)]) (m2 ixD (mCall phi_spans_in (aCons (m2 ixD (slB 0) (slB 1)) aNil)) (slB 2))) (mSeq (mSetF 5 (mLst aNil)) (mSeq (mIfS (mB (m2 gtG (slB 1) (rt (.int 0)))) (mFor (bTup [(bName 6), (bTup [(bName 7), (bName 8)])]) (mEnum (aCons (mCall phi_spans_in (aCons (m2 ixD (slB 0) (m2 subD (slB 1) (rt (.int 1)))) aNil)) aNil)) (mSeq (mSetF 9 (m2 subD (m2 min2D (slB 4) (slB 8)) (m2 max2D (slB 3) (slB 7)))) (mExt 5 (mIf (mB (m2 gtG (slB 9) (rt (.int 0)))) (mLst (aCons (mTup (aCons (slE 6) (aCons (slE 9) aNil))) aNil)) (mLst aNil))))) mNext) (mFrz 5 (mRet (slE 5))))))
def phi_over_in (ds : List D) : O := fin (b_over_in ⟨(0, 0), st0 10 ds⟩)
def b_laid_in : MS := (mSeq (mSetF 1 (rt (.dict []))) (mSeq (mFor (bTup [(bName 2), (bName 3)]) (mI iterD (mCall phi_bricks_in (aCons (slE 0) aNil))) (mPut 1 (mTup (aCons (slE 2) (aCons (slE 3) aNil))) (mLc [4, 5] (mI iterD (mCall phi_over_in (aCons (slE 0) (aCons (slE 2) (aCons (slE 3) aNil))))) (bTup [(bName 4), (bName 5)]) mYes (mTup (aCons (mTup (aCons (m2 subD (slB 2) (rt (.int 1))) (aCons (slE 4) aNil))) (aCons (slE 5) aNil)))))) (mFrz 1 (mRet (slE 1)))))
def phi_laid_in (ds : List D) : O := fin (b_laid_in ⟨(0, 0), st0 6 ds⟩)
def b_is_brick : MS := (mSeq (mDrop (mCall phi_need_front (aCons (slE 0) aNil))) (mRet (mCall phi_fits_brick (aCons (slE 0) (aCons (slE 1) aNil)))))
def phi_is_brick (ds : List D) : O := fin (b_is_brick ⟨(0, 0), st0 2 ds⟩)
def b_lies_on : MS := (mSeq (mDrop (mCall phi_need_brick (aCons (slE 0) (aCons (slE 1) aNil)))) (mRet (m1 tupD (mLc [2, 3] (mI iterD (mCall phi_over_in (aCons (slE 0) (aCons (m2 ixD (slB 1) (rt (.int 0))) (aCons (m2 ixD (slB 1) (rt (.int 1))) aNil))))) (bTup [(bName 2), (bName 3)]) mYes (mTup (aCons (mTup (aCons (m2 subD (m2 ixD (slB 1) (rt (.int 0))) (rt (.int 1))) (aCons (slE 2) aNil))) (aCons (slE 3) aNil)))))))
def phi_lies_on (ds : List D) : O := fin (b_lies_on ⟨(0, 0), st0 4 ds⟩)
def b_bears : MS := (mSeq (mDrop (mCall phi_need_brick (aCons (slE 0) (aCons (slE 1) aNil)))) (mSeq (mSetE 2 (mCall phi_laid_in (aCons (slE 0) aNil))) (mSeq (mFrz 2 (mSetF 3 (mLc2 [4, 5, 6] (mI iterD (slE 2)) (bName 4) mYes [5, 6] (mI iterD (m2 dgD (slB 2) (slB 4))) (bTup [(bName 5), (bName 6)]) (mB (m2 eqD (slB 5) (slB 1))) (mTup (aCons (slE 4) (aCons (slE 6) aNil)))))) (mRet (m1 tupD (m1 sortD (slB 3)))))))
def phi_bears (ds : List D) : O := fin (b_bears ⟨(0, 0), st0 7 ds⟩)
def b_all_under : MS := (mSeq (mDrop (mCall phi_need_brick (aCons (slE 0) (aCons (slE 1) aNil)))) (mSeq (mParEF 2 3 (mCall phi_laid_in (aCons (slE 0) aNil)) (mLst (aCons (slE 1) aNil))) (mSeq (mFor (bName 4) (mI iterD (m1 revD (mCall phi_bricks_in (aCons (slE 0) aNil)))) (mExt 3 (mLc [5, 6] (mI iterD (m2 dgD (slB 2) (slB 4))) (bTup [(bName 5), (bName 6)]) (mAnd (mB (m2 inD (slB 4) (slB 3))) (mB (m2 ninD (slB 5) (slB 3)))) (slE 5)))) (mRet (m1 tupD (mSl (m1 sortD (slB 3)) pNo (pAt (m1 negD (rt (.int 1))))))))))
def phi_all_under (ds : List D) : O := fin (b_all_under ⟨(0, 0), st0 7 ds⟩)
def b_all_over : MS := (mSeq (mDrop (mCall phi_need_brick (aCons (slE 0) (aCons (slE 1) aNil)))) (mSeq (mParEF 2 3 (mCall phi_laid_in (aCons (slE 0) aNil)) (mLst (aCons (slE 1) aNil))) (mSeq (mFor (bName 4) (mI iterD (mCall phi_bricks_in (aCons (slE 0) aNil))) (mExt 3 (mIf (mAnd (mB (m2 ninD (slB 4) (slB 3))) (mB (m1 anyD (mLc [5, 6] (mI iterD (m2 dgD (slB 2) (slB 4))) (bTup [(bName 5), (bName 6)]) mYes (m2 inD (slB 5) (slB 3)))))) (mLst (aCons (slE 4) aNil)) (mLst aNil)))) (mRet (m1 tupD (mSl (m1 sortD (slB 3)) (pAt (rt (.int 1))) pNo))))))
def phi_all_over (ds : List D) : O := fin (b_all_over ⟨(0, 0), st0 7 ds⟩)
def b_law_bricks : MS := (mSeq (mSetF 1 (mLst aNil)) (mSeq (mFor (bName 2) (mI rng1D (m1 lenD (slB 0))) (mSeq (mSetE 3 (m2 ixD (slB 0) (slB 2))) (mFor (bName 4) (mI rng1D (m1 lenD (slB 3))) (mApp 1 (mTup (aCons (slE 2) (aCons (slE 4) (aCons (mCall phi_law_size (aCons (mSl (slB 3) pNo (pAt (slB 4))) aNil)) (aCons (mCall phi_law_size (aCons (mSl (slB 3) pNo (pAt (m2 addD (slB 4) (rt (.int 1))))) aNil)) aNil))))))))) (mFrz 1 (mRet (slE 1)))))
def phi_law_bricks (ds : List D) : O := fin (b_law_bricks ⟨(0, 0), st0 5 ds⟩)
def b_law_laid : MS := (mSeq (mParEF 1 2 (mCall phi_law_bricks (aCons (slE 0) aNil)) (rt (.dict []))) (mSeq (mFor (bTup [(bName 3), (bName 4), (bName 5), (bName 6)]) (mI iterD (slE 1)) (mSeq (mPut 2 (mTup (aCons (slE 3) (aCons (slE 4) aNil))) (mLst aNil)) (mFor (bTup [(bName 7), (bName 8), (bName 9), (bName 10)]) (mI iterD (slE 1)) (mSeq (mSetF 11 (m2 subD (m2 min2D (slB 6) (slB 10)) (m2 max2D (slB 5) (slB 9)))) (mIfS (mAnd (mB (m2 eqD (slB 7) (m2 subD (slB 3) (rt (.int 1))))) (mB (m2 gtG (slB 11) (rt (.int 0))))) (mPut 2 (mTup (aCons (slE 3) (aCons (slE 4) aNil))) (m2 addD (m2 dgD (slB 2) (mTup (aCons (slE 3) (aCons (slE 4) aNil)))) (mLst (aCons (mTup (aCons (mTup (aCons (slE 7) (aCons (slE 8) aNil))) (aCons (slE 11) aNil))) aNil)))) mNext))))) (mFrz 2 (mRet (slE 2)))))
def phi_law_laid (ds : List D) : O := fin (b_law_laid ⟨(0, 0), st0 12 ds⟩)
def b_divisor : MS := (mSeq (mWhile fuel (mB (m2 neD (slB 1) (rt (.int 0)))) (mFrz 1 (mParEF 0 1 (slE 1) (m2 modD (slB 0) (slB 1))))) (mRet (slE 0)))
def phi_divisor (ds : List D) : O := fin (b_divisor ⟨(0, 0), st0 2 ds⟩)
def b_least_in : MS := (mSeq (mSetF 1 (m1 lenD (slB 0))) (mSeq (mSetF 2 (mLc [3] (mR2 (rt (.int 1)) (m2 addD (slB 1) (rt (.int 1)))) (bName 3) (mAnd (mB (m2 eqD (m2 modD (slB 1) (slB 3)) (rt (.int 0)))) (mB (m2 eqD (m2 mulX (mSl (slB 0) pNo (pAt (slB 3))) (m2 fdivD (slB 1) (slB 3))) (slB 0)))) (slE 3))) (mRet (mSl (slB 0) pNo (pAt (m2 ixD (slB 2) (rt (.int 0))))))))
def phi_least_in (ds : List D) : O := fin (b_least_in ⟨(0, 0), st0 4 ds⟩)
def b_sum_in : MS := (mRet (mCall phi_least_in (aCons (m2 addD (m2 mulX (m2 ixD (slB 0) (rt (.int 0))) (m2 ixD (slB 1) (rt (.int 1)))) (m2 mulX (m2 ixD (slB 1) (rt (.int 0))) (m2 ixD (slB 0) (rt (.int 1))))) (aCons (m2 mulX (m2 ixD (slB 0) (rt (.int 1))) (m2 ixD (slB 1) (rt (.int 1)))) aNil))))
def phi_sum_in (ds : List D) : O := fin (b_sum_in ⟨(0, 0), st0 2 ds⟩)
def b_size_in : MS := (mSeq (mBind (bTup [(bName 2), (bName 3)]) (m2 ixD (mCall phi_spans_in (aCons (m2 ixD (slB 0) (m2 ixD (slB 1) (rt (.int 0)))) aNil)) (m2 ixD (slB 1) (rt (.int 1))))) (mRet (m2 subD (slB 3) (slB 2))))
def phi_size_in (ds : List D) : O := fin (b_size_in ⟨(0, 0), st0 4 ds⟩)
def b_ways_down : MS := (mSeq (mDrop (mCall phi_need_brick (aCons (slE 0) (aCons (slE 1) aNil)))) (mSeq (mParEF 2 3 (mCall phi_laid_in (aCons (slE 0) aNil)) (rt (.dict []))) (mSeq (mFor (bName 4) (mI iterD (mCall phi_bricks_in (aCons (slE 0) aNil))) (mPut 3 (slE 4) (mIf (mB (m2 gtG (m2 ixD (slB 4) (rt (.int 0))) (rt (.int 0)))) (m1 sumD (mLc [5, 6] (mI iterD (m2 dgD (slB 2) (slB 4))) (bTup [(bName 5), (bName 6)]) mYes (m2 dgD (slB 3) (slB 5)))) (rt (.int 1))))) (mRet (m2 dgD (slB 3) (slB 1))))))
def phi_ways_down (ds : List D) : O := fin (b_ways_down ⟨(0, 0), st0 7 ds⟩)
def b_first_way : MS := (mSeq (mDrop (mCall phi_need_brick (aCons (slE 0) (aCons (slE 1) aNil)))) (mSeq (mSetF 2 (mLst (aCons (slE 1) aNil))) (mSeq (mWhile fuel (mB (m2 gtG (m2 ixD (m2 ixD (slB 2) (m1 negD (rt (.int 1)))) (rt (.int 0))) (rt (.int 0)))) (mSeq (mBind (bTup [(bName 3), (bName 4)]) (m2 ixD (slB 2) (m1 negD (rt (.int 1))))) (mApp 2 (mTup (aCons (m2 subD (slB 3) (rt (.int 1))) (aCons (m2 ixD (m2 ixD (mCall phi_over_in (aCons (slE 0) (aCons (slE 3) (aCons (slE 4) aNil)))) (rt (.int 0))) (rt (.int 0))) aNil)))))) (mRet (m1 tupD (slB 2))))))
def phi_first_way (ds : List D) : O := fin (b_first_way ⟨(0, 0), st0 5 ds⟩)
def b_is_rising : MS := (mRet (m1 allD (mLc [1, 2] (mZip (aCons (slE 0) (aCons (mSl (slB 0) (pAt (rt (.int 1))) pNo) aNil))) (bTup [(bName 1), (bName 2)]) mYes (m2 ltG (slB 1) (slB 2)))))
def phi_is_rising (ds : List D) : O := fin (b_is_rising ⟨(0, 0), st0 3 ds⟩)
def b_fits_bricks : MS := (mRet (mAndV (m1 isTupD (slB 1)) (mAndV (m1 allD (mLc [2] (mI iterD (slE 1)) (bName 2) mYes (mCall phi_fits_brick (aCons (slE 0) (aCons (slE 2) aNil))))) (mBd (mCall phi_is_rising (aCons (slE 1) aNil))))))
def phi_fits_bricks (ds : List D) : O := fin (b_fits_bricks ⟨(0, 0), st0 3 ds⟩)
def b_need_bricks : MS := (mSeq (mDrop (mCall phi_need_front (aCons (slE 0) aNil))) (mIfS (mNot (mB (mCall phi_fits_bricks (aCons (slE 0) (aCons (slE 1) aNil))))) mNo mNext))
def phi_need_bricks (ds : List D) : O := fin (b_need_bricks ⟨(0, 0), st0 2 ds⟩)
def b_need_share : MS := (mIfS (mNot (mB (mCall phi_fits_whole (aCons (slE 0) (aCons (rt (.int 1)) (aCons (rt (.int 4)) aNil)))))) mNo mNext)
def phi_need_share (ds : List D) : O := fin (b_need_share ⟨(0, 0), st0 1 ds⟩)
def b_held_by : MS := (mSeq (mDrop (mCall phi_need_brick (aCons (slE 0) (aCons (slE 1) aNil)))) (mSeq (mIfS (mNot (mB (mCall phi_fits_bricks (aCons (slE 0) (aCons (slE 2) aNil))))) mNo mNext) (mRet (m1 sumD (mLc [3, 4] (mI iterD (mCall phi_over_in (aCons (slE 0) (aCons (m2 ixD (slB 1) (rt (.int 0))) (aCons (m2 ixD (slB 1) (rt (.int 1))) aNil))))) (bTup [(bName 3), (bName 4)]) (mB (m2 ninD (mTup (aCons (m2 subD (m2 ixD (slB 1) (rt (.int 0))) (rt (.int 1))) (aCons (slE 3) aNil))) (slB 2))) (slE 4))))))
def phi_held_by (ds : List D) : O := fin (b_held_by ⟨(0, 0), st0 5 ds⟩)
def b_need_gauge : MS := (mSeq (mIfS (mNot (mB (mCall phi_fits_whole (aCons (slE 0) (aCons (rt (.int 1)) (aCons (rt (.int 200)) aNil)))))) mNo mNext) (mIfS (mNot (mB (mCall phi_fits_whole (aCons (slE 1) (aCons (rt (.int 0)) (aCons (m2 min2D (rt (.int 50)) (m2 subD (slB 0) (rt (.int 1)))) aNil)))))) mNo mNext))
def phi_need_gauge (ds : List D) : O := fin (b_need_gauge ⟨(0, 0), st0 2 ds⟩)
def b_brick_in : MS := (mRet (m2 subD (m2 mulX (m1 (wgD L_SIZES) (slB 0)) (slB 1)) (slB 2)))
def phi_brick_in (ds : List D) : O := fin (b_brick_in ⟨(0, 0), st0 3 ds⟩)
def b_real_in : MS := (mRet (m2 subD (m2 mulX (mCall phi_length_in (aCons (slE 0) aNil)) (slB 1)) (slB 2)))
def phi_real_in (ds : List D) : O := fin (b_real_in ⟨(0, 0), st0 3 ds⟩)
def b_brick_length : MS := (mSeq (mIfS (mNot (mB (mCall phi_fits_sign (aCons (slE 0) aNil)))) mNo mNext) (mSeq (mDrop (mCall phi_need_gauge (aCons (slE 1) (aCons (slE 2) aNil)))) (mRet (mCall phi_brick_in (aCons (slE 0) (aCons (slE 1) (aCons (slE 2) aNil)))))))
def phi_brick_length (ds : List D) : O := fin (b_brick_length ⟨(0, 0), st0 3 ds⟩)
def b_course_length : MS := (mSeq (mDrop (mCall phi_need_course (aCons (slE 0) aNil))) (mSeq (mDrop (mCall phi_need_gauge (aCons (slE 1) (aCons (slE 2) aNil)))) (mRet (mCall phi_real_in (aCons (slE 0) (aCons (slE 1) (aCons (slE 2) aNil)))))))
def phi_course_length (ds : List D) : O := fin (b_course_length ⟨(0, 0), st0 3 ds⟩)
def b_joint_spans : MS := (mSeq (mDrop (mCall phi_need_course (aCons (slE 0) aNil))) (mSeq (mDrop (mCall phi_need_gauge (aCons (slE 1) (aCons (slE 2) aNil)))) (mSeq (mPar 3 4 (mLst aNil) (rt (.int 0))) (mSeq (mFor (bName 5) (mI iterD (mSl (slB 0) pNo (pAt (m1 negD (rt (.int 1)))))) (mSeq (mSetF 4 (m2 addD (slB 4) (m2 mulX (m1 (wgD L_SIZES) (slB 5)) (slB 1)))) (mApp 3 (mTup (aCons (m2 subD (slB 4) (slB 2)) (aCons (slE 4) aNil)))))) (mRet (m1 tupD (slB 3)))))))
def phi_joint_spans (ds : List D) : O := fin (b_joint_spans ⟨(0, 0), st0 6 ds⟩)
def b_mortar_share : MS := (mSeq (mDrop (mCall phi_need_course (aCons (slE 0) aNil))) (mSeq (mDrop (mCall phi_need_gauge (aCons (slE 1) (aCons (slE 2) aNil)))) (mRet (mTup (aCons (m2 mulX (m2 subD (m1 lenD (slB 0)) (rt (.int 1))) (slB 2)) (aCons (mCall phi_real_in (aCons (slE 0) (aCons (slE 1) (aCons (slE 2) aNil)))) aNil))))))
def phi_mortar_share (ds : List D) : O := fin (b_mortar_share ⟨(0, 0), st0 3 ds⟩)
def b_heights_of : MS := (mSeq (mIfS (mNot (mB (mCall phi_fits_whole (aCons (slE 0) (aCons (rt (.int 1)) (aCons (rt (.int 24)) aNil)))))) mNo mNext) (mSeq (mDrop (mCall phi_need_gauge (aCons (slE 1) (aCons (slE 2) aNil)))) (mRet (m1 tupD (mLc [3] (mR2 (rt (.int 1)) (m2 addD (slB 0) (rt (.int 1)))) (bName 3) mYes (m2 mulX (m2 addD (slB 1) (slB 2)) (slB 3)))))))
def phi_heights_of (ds : List D) : O := fin (b_heights_of ⟨(0, 0), st0 4 ds⟩)
def b_front_size : MS := (mSeq (mDrop (mCall phi_need_front (aCons (slE 0) aNil))) (mSeq (mDrop (mCall phi_need_gauge (aCons (slE 1) (aCons (slE 3) aNil)))) (mSeq (mDrop (mCall phi_need_gauge (aCons (slE 2) (aCons (slE 3) aNil)))) (mRet (mTup (aCons (mCall phi_real_in (aCons (m2 ixD (slB 0) (rt (.int 0))) (aCons (slE 1) (aCons (slE 3) aNil)))) (aCons (m2 mulX (m1 lenD (slB 0)) (m2 addD (slB 2) (slB 3))) aNil)))))))
def phi_front_size (ds : List D) : O := fin (b_front_size ⟨(0, 0), st0 4 ds⟩)
def b_law_course (phi_law_roll : Int × Int → List D → R D) : MS := (mSeq (mSetF 2 (rt (.str ""))) (mSeq (mFor (bName 3) (mI rng1D (m2 addD (rt (.int 1)) (mCallC 0 phi_law_roll (aCons (slE 1) aNil)))) (mSeq (mSetE 4 (mCallC 0 (phi_law_some phi_law_roll) (aCons (rt (.str "ssshhtq")) aNil))) (mSetE 2 (mIf (mB (m2 ltG (mCall phi_law_size (aCons (m2 addD (slB 2) (slB 4)) aNil)) (rt (.int 61)))) (m2 addD (slB 2) (slB 4)) (slE 2))))) (mRet (slE 2))))
def phi_law_course (phi_law_roll : Int × Int → List D → R D) (c : Int × Int) (ds : List D) : R D := finC (b_law_course phi_law_roll ⟨c, .cup :: st0 4 ds⟩)
def b_law_gauge (phi_law_roll : Int × Int → List D → R D) : MS := (mSeq (mSetF 1 (m2 addD (rt (.int 1)) (mCallC 0 phi_law_roll (aCons (mCallC 0 (phi_law_some phi_law_roll) (aCons (mLst (aCons (rt (.int 3)) (aCons (rt (.int 70)) (aCons (rt (.int 200)) aNil)))) aNil)) aNil)))) (mRet (mTup (aCons (slE 1) (aCons (mCallC 0 phi_law_roll (aCons (m2 min2D (rt (.int 51)) (slB 1)) aNil)) aNil)))))
def phi_law_gauge (phi_law_roll : Int × Int → List D → R D) (c : Int × Int) (ds : List D) : R D := finC (b_law_gauge phi_law_roll ⟨c, .cup :: st0 1 ds⟩)
def b_need_wide : MS := (mIfS (mNot (mB (mCall phi_fits_whole (aCons (slE 0) (aCons (rt (.int 1)) (aCons (rt (.int 100000)) aNil)))))) mNo mNext)
def phi_need_wide (ds : List D) : O := fin (b_need_wide ⟨(0, 0), st0 1 ds⟩)
def b_need_units : MS := (mIfS (mNot (mB (mCall phi_fits_whole (aCons (slE 0) (aCons (rt (.int 1)) (aCons (rt (.int 40)) aNil)))))) mNo mNext)
def phi_need_units (ds : List D) : O := fin (b_need_units ⟨(0, 0), st0 1 ds⟩)
def b_quarters_for : MS := (mSeq (mDrop (mCall phi_need_wide (aCons (slE 0) aNil))) (mSeq (mDrop (mCall phi_need_gauge (aCons (slE 1) (aCons (slE 2) aNil)))) (mRet (m2 fdivD (m2 addD (slB 0) (slB 2)) (slB 1)))))
def phi_quarters_for (ds : List D) : O := fin (b_quarters_for ⟨(0, 0), st0 3 ds⟩)
def b_left_over : MS := (mSeq (mDrop (mCall phi_need_wide (aCons (slE 0) aNil))) (mSeq (mDrop (mCall phi_need_gauge (aCons (slE 1) (aCons (slE 2) aNil)))) (mSeq (mSetF 3 (m2 fdivD (m2 addD (slB 0) (slB 2)) (slB 1))) (mRet (mIf (mB (m2 eqD (slB 3) (rt (.int 0)))) (slE 0) (m2 subD (slB 0) (m2 subD (m2 mulX (slB 3) (slB 1)) (slB 2))))))))
def phi_left_over (ds : List D) : O := fin (b_left_over ⟨(0, 0), st0 4 ds⟩)
def b_mortar_for : MS := (mSeq (mDrop (mCall phi_need_wide (aCons (slE 0) aNil))) (mSeq (mDrop (mCall phi_need_units (aCons (slE 1) aNil))) (mSeq (mIfS (mNot (mB (mCall phi_fits_whole (aCons (slE 2) (aCons (rt (.int 1)) (aCons (rt (.int 200)) aNil)))))) mNo mNext) (mSeq (mSetF 3 (m2 subD (m2 mulX (slB 1) (slB 2)) (slB 0))) (mFrz 3 (mRet (mIf (mB (mChain leD leD (rt (.int 0)) (slB 3) (m2 min2D (rt (.int 50)) (m2 subD (slB 2) (rt (.int 1)))))) (slE 3) (rt .none))))))))
def phi_mortar_for (ds : List D) : O := fin (b_mortar_for ⟨(0, 0), st0 4 ds⟩)
def b_mixes_in : MS := (mSeq (mSetF 1 (mLst aNil)) (mSeq (mFor (bName 2) (mI rng1D (m2 addD (m2 fdivD (slB 0) (rt (.int 4))) (rt (.int 1)))) (mFor (bName 3) (mI rng1D (m2 addD (m2 fdivD (m2 subD (slB 0) (m2 mulX (rt (.int 4)) (slB 2))) (rt (.int 3))) (rt (.int 1)))) (mSeq (mSetF 4 (m2 subD (m2 subD (slB 0) (m2 mulX (rt (.int 4)) (slB 2))) (m2 mulX (rt (.int 3)) (slB 3)))) (mExt 1 (mLc [5] (mI rng1D (m2 addD (m2 fdivD (slB 4) (rt (.int 2))) (rt (.int 1)))) (bName 5) mYes (mTup (aCons (m2 subD (slB 4) (m2 mulX (rt (.int 2)) (slB 5))) (aCons (slE 5) (aCons (slE 3) (aCons (slE 2) aNil)))))))))) (mFrz 1 (mRet (m1 sortD (mLc [6] (mI iterD (slE 1)) (bName 6) (mB (m2 leD (m1 sumD (slB 6)) (rt (.int 24)))) (slE 6)))))))
def phi_mixes_in (ds : List D) : O := fin (b_mixes_in ⟨(0, 0), st0 7 ds⟩)
def b_mixes_of : MS := (mSeq (mDrop (mCall phi_need_units (aCons (slE 0) aNil))) (mSeq (mSetE 1 (mCall phi_mixes_in (aCons (slE 0) aNil))) (mSeq (mIfS (mB (m2 gtG (m1 lenD (slB 1)) (rt (.int 60)))) mNo mNext) (mRet (m1 tupD (slB 1))))))
def phi_mixes_of (ds : List D) : O := fin (b_mixes_of ⟨(0, 0), st0 2 ds⟩)
def b_mixes_many : MS := (mSeq (mDrop (mCall phi_need_units (aCons (slE 0) aNil))) (mRet (m1 lenD (mCall phi_mixes_in (aCons (slE 0) aNil)))))
def phi_mixes_many (ds : List D) : O := fin (b_mixes_many ⟨(0, 0), st0 1 ds⟩)
def b_need_mix : MS := (mSeq (mIfS (mOr (mNot (mB (mCall phi_is_tuple_of (aCons (slE 0) (aCons (rt (.int 4)) (aCons (rt (.int 4)) aNil)))))) (mNot (mB (m1 allD (mLc [1] (mI iterD (slE 0)) (bName 1) mYes (mCall phi_fits_whole (aCons (slE 1) (aCons (rt (.int 0)) (aCons (rt (.int 24)) aNil))))))))) mNo mNext) (mIfS (mOr (mNot (mB (mChain leD leD (rt (.int 1)) (m1 sumD (slB 0)) (rt (.int 24))))) (mNot (mB (mCall phi_fits_course (aCons (mJoin "" (mLc [2, 3] (mZip (aCons (rt (.str "qhts")) (aCons (slE 0) aNil))) (bTup [(bName 2), (bName 3)]) mYes (m2 mulX (slB 2) (slB 3)))) aNil))))) mNo mNext))
def phi_need_mix (ds : List D) : O := fin (b_need_mix ⟨(0, 0), st0 4 ds⟩)
def b_courses_of_mix : MS := (mSeq (mDrop (mCall phi_need_mix (aCons (slE 0) aNil))) (mSeq (mPar 1 2 (rt (.int 1)) (rt (.int 0))) (mSeq (mFor (bName 3) (mI iterD (slE 0)) (mFor (bName 4) (mI rng1D (slB 3)) (mSeq (mSetF 2 (m2 addD (slB 2) (rt (.int 1)))) (mSetF 1 (m2 fdivD (m2 mulX (slB 1) (slB 2)) (m2 addD (slB 4) (rt (.int 1)))))))) (mRet (slE 1)))))
def phi_courses_of_mix (ds : List D) : O := fin (b_courses_of_mix ⟨(0, 0), st0 5 ds⟩)
def b_closing_bricks : MS := (mSeq (mFor (bName 3) (mI iterD (mTup (aCons (slE 0) (aCons (slE 1) aNil)))) (mIfS (mAnd (mB (m2 neD (slB 3) (rt (.str "")))) (mNot (mB (mCall phi_fits_course (aCons (slE 3) aNil))))) mNo mNext)) (mSeq (mDrop (mCall phi_need_units (aCons (slE 2) aNil))) (mSeq (mSetF 4 (m2 subD (m2 subD (slB 2) (mCall phi_length_in (aCons (slE 0) aNil))) (mCall phi_length_in (aCons (slE 1) aNil)))) (mSeq (mSetF 5 (m2 addD (m1 lenD (slB 0)) (m1 lenD (slB 1)))) (mSeq (mSetF 6 (mIf (mAnd (mB (m2 eqD (slB 4) (rt (.int 0)))) (mB (mChain leD leD (rt (.int 1)) (slB 5) (rt (.int 24))))) (mLst (aCons (rt (.str "")) aNil)) (mLst aNil))) (mRet (m1 tupD (m2 addD (slB 6) (mLc [7] (mI iterD (rt (.str "hqst"))) (bName 7) (mAnd (mB (m2 eqD (m1 (wgD L_SIZES) (slB 7)) (slB 4))) (mB (m2 ltG (slB 5) (rt (.int 24))))) (slE 7))))))))))
def phi_closing_bricks (ds : List D) : O := fin (b_closing_bricks ⟨(0, 0), st0 8 ds⟩)
def b_reaches : MS := (mRet (mChain leD leD (slB 2) (m2 subD (slB 1) (slB 0)) (m2 mulX (rt (.int 4)) (slB 2))))
def phi_reaches (ds : List D) : O := fin (b_reaches ⟨(0, 0), st0 3 ds⟩)
def b_fewest_closing : MS := (mSeq (mFor (bName 3) (mI iterD (mTup (aCons (slE 0) (aCons (slE 1) aNil)))) (mIfS (mAnd (mB (m2 neD (slB 3) (rt (.str "")))) (mNot (mB (mCall phi_fits_course (aCons (slE 3) aNil))))) mNo mNext)) (mSeq (mDrop (mCall phi_need_units (aCons (slE 2) aNil))) (mSeq (mBind (bTup [(bName 4), (bName 5)]) (mTup (aCons (m2 subD (m2 subD (slB 2) (mCall phi_length_in (aCons (slE 0) aNil))) (mCall phi_length_in (aCons (slE 1) aNil))) (aCons (m2 addD (m1 lenD (slB 0)) (m1 lenD (slB 1))) aNil)))) (mSeq (mIfS (mB (m2 ltG (slB 4) (rt (.int 0)))) (mRet (rt .none)) mNext) (mSeq (mSetF 6 (m2 fdivD (m2 addD (slB 4) (rt (.int 3))) (rt (.int 4)))) (mSeq (mIfS (mOr (mB (m2 gtG (m2 addD (slB 5) (slB 6)) (rt (.int 24)))) (mB (m2 eqD (m2 addD (slB 5) (slB 6)) (rt (.int 0))))) (mRet (rt .none)) mNext) (mSeq (mSetF 7 (mLst (aCons (rt (.str "")) aNil))) (mSeq (mFor (bName 8) (mI rng1D (slB 6)) (mSeq (mFrz 7 (mSetF 7 (mLc2 [9, 10] (mI iterD (slE 7)) (bName 9) mYes [10] (mI iterD (rt (.str "hqst"))) (bName 10) (mB (mCall phi_reaches (aCons (mCall phi_length_in (aCons (m2 addD (slB 9) (slB 10)) aNil)) (aCons (slE 4) (aCons (m2 subD (m2 subD (slB 6) (slB 8)) (rt (.int 1))) aNil))))) (m2 addD (slB 9) (slB 10))))) (mFrz 7 (mSetE 7 (mIf (mB (m2 neD (slB 7) (mLst aNil))) (mSl (slB 7) pNo (pAt (rt (.int 1)))) (slE 7)))))) (mRet (m2 ixD (slB 7) (rt (.int 0))))))))))))
def phi_fewest_closing (ds : List D) : O := fin (b_fewest_closing ⟨(0, 0), st0 11 ds⟩)
def b_fits_pattern : MS := (mRet (mAndV (mCall phi_fits_front (aCons (slE 0) aNil)) (m2 leD (m1 lenD (slB 0)) (rt (.int 6)))))
def phi_fits_pattern (ds : List D) : O := fin (b_fits_pattern ⟨(0, 0), st0 1 ds⟩)
def b_need_pattern : MS := (mIfS (mNot (mB (mCall phi_fits_pattern (aCons (slE 0) aNil)))) mNo mNext)
def phi_need_pattern (ds : List D) : O := fin (b_need_pattern ⟨(0, 0), st0 1 ds⟩)
def b_need_high : MS := (mIfS (mNot (mB (mCall phi_fits_whole (aCons (slE 0) (aCons (rt (.int 1)) (aCons (rt (.int 24)) aNil)))))) mNo mNext)
def phi_need_high (ds : List D) : O := fin (b_need_high ⟨(0, 0), st0 1 ds⟩)
def b_begun_in : MS := (mRet (m2 addD (mSl (slB 0) (pAt (slB 1)) pNo) (mSl (slB 0) pNo (pAt (slB 1)))))
def phi_begun_in (ds : List D) : O := fin (b_begun_in ⟨(0, 0), st0 2 ds⟩)
def b_behind_in : MS := (mRet (m1 tupD (mLc [1] (mI iterD (slE 0)) (bName 1) mYes (m1 revD (slB 1)))))
def phi_behind_in (ds : List D) : O := fin (b_behind_in ⟨(0, 0), st0 2 ds⟩)
def b_laid : MS := (mSeq (mDrop (mCall phi_need_pattern (aCons (slE 0) aNil))) (mSeq (mDrop (mCall phi_need_high (aCons (slE 1) aNil))) (mRet (m1 tupD (mLc [2] (mI rng1D (slB 1)) (bName 2) mYes (m2 ixD (slB 0) (m2 modD (slB 2) (m1 lenD (slB 0)))))))))
def phi_laid (ds : List D) : O := fin (b_laid ⟨(0, 0), st0 3 ds⟩)
def b_pattern_lap : MS := (mSeq (mDrop (mCall phi_need_pattern (aCons (slE 0) aNil))) (mSeq (mSetF 1 (mLc [2] (mI rng1D (m1 lenD (slB 0))) (bName 2) mYes (mCall phi_lap_in (aCons (m2 ixD (slB 0) (m2 subD (slB 2) (rt (.int 1)))) (aCons (m2 ixD (slB 0) (slB 2)) aNil))))) (mSeq (mFrz 1 (mSetF 1 (mLc [3] (mI iterD (slE 1)) (bName 3) (mB (m2 isnD (slB 3) (rt .none))) (slE 3)))) (mRet (mIf (mB (m2 neD (slB 1) (mLst aNil))) (m1 minGD (slB 1)) (rt .none))))))
def phi_pattern_lap (ds : List D) : O := fin (b_pattern_lap ⟨(0, 0), st0 4 ds⟩)
def b_does_hold : MS := (mSeq (mDrop (mCall phi_need_pattern (aCons (slE 0) aNil))) (mSeq (mDrop (mCall phi_need_lap (aCons (slE 1) aNil))) (mRet (m1 allD (mLc [2] (mI rng1D (m1 lenD (slB 0))) (bName 2) mYes (mCall phi_bonds_in (aCons (m2 ixD (slB 0) (m2 subD (slB 2) (rt (.int 1)))) (aCons (m2 ixD (slB 0) (slB 2)) (aCons (slE 1) aNil)))))))))
def phi_does_hold (ds : List D) : O := fin (b_does_hold ⟨(0, 0), st0 3 ds⟩)
def b_pattern_begun : MS := (mSeq (mDrop (mCall phi_need_pattern (aCons (slE 0) aNil))) (mSeq (mIfS (mNot (mB (mCall phi_fits_whole (aCons (slE 1) (aCons (rt (.int 0)) (aCons (m2 subD (m1 lenD (slB 0)) (rt (.int 1))) aNil)))))) mNo mNext) (mRet (mCall phi_begun_in (aCons (slE 0) (aCons (slE 1) aNil))))))
def phi_pattern_begun (ds : List D) : O := fin (b_pattern_begun ⟨(0, 0), st0 2 ds⟩)
def b_plain_pattern : MS := (mSeq (mDrop (mCall phi_need_pattern (aCons (slE 0) aNil))) (mRet (mCall phi_least_in (aCons (slE 0) aNil))))
def phi_plain_pattern (ds : List D) : O := fin (b_plain_pattern ⟨(0, 0), st0 1 ds⟩)
def b_pattern_from_behind : MS := (mSeq (mDrop (mCall phi_need_pattern (aCons (slE 0) aNil))) (mRet (mCall phi_behind_in (aCons (slE 0) aNil))))
def phi_pattern_from_behind (ds : List D) : O := fin (b_pattern_from_behind ⟨(0, 0), st0 1 ds⟩)
def b_law_pattern (phi_law_roll : Int × Int → List D → R D) : MS := (mSeq (mSetF 2 (m1 tupD (mLc [3] (mI rng1D (m2 addD (rt (.int 1)) (mCallC 0 phi_law_roll (aCons (rt (.int 3)) aNil)))) (bName 3) mYes (mCallC 0 (phi_law_row phi_law_roll) (aCons (slE 1) aNil))))) (mRet (m2 mulX (slB 2) (mCallC 0 (phi_law_some phi_law_roll) (aCons (mLst (aCons (rt (.int 1)) (aCons (rt (.int 1)) (aCons (rt (.int 2)) aNil)))) aNil)))))
def phi_law_pattern (phi_law_roll : Int × Int → List D → R D) (c : Int × Int) (ds : List D) : R D := finC (b_law_pattern phi_law_roll ⟨c, .cup :: st0 3 ds⟩)
def b_law_plain : MS := (mSeq (mFor (bName 1) (mR2 (rt (.int 1)) (m2 addD (m1 lenD (slB 0)) (rt (.int 1)))) (mIfS (mAnd (mB (m2 eqD (m2 modD (m1 lenD (slB 0)) (slB 1)) (rt (.int 0)))) (mB (m2 eqD (mLc [2] (mI rng1D (m1 lenD (slB 0))) (bName 2) (mB (m2 neD (m2 ixD (slB 0) (slB 2)) (m2 ixD (slB 0) (m2 modD (slB 2) (slB 1))))) (slE 2)) (mLst aNil)))) (mRet (mSl (slB 0) pNo (pAt (slB 1)))) mNext)) (mRet (slE 0)))
def phi_law_plain (ds : List D) : O := fin (b_law_plain ⟨(0, 0), st0 3 ds⟩)
def b_law_begun : MS := (mRet (mLc [1] (mI rng1D (m1 lenD (slB 0))) (bName 1) mYes (m2 addD (mSl (slB 0) (pAt (slB 1)) pNo) (mSl (slB 0) pNo (pAt (slB 1))))))
def phi_law_begun (ds : List D) : O := fin (b_law_begun ⟨(0, 0), st0 2 ds⟩)
def b_need_both : MS := (mSeq (mDrop (mCall phi_need_pattern (aCons (slE 0) aNil))) (mSeq (mDrop (mCall phi_need_pattern (aCons (slE 1) aNil))) (mIfS (mB (m2 neD (mCall phi_length_in (aCons (m2 ixD (slB 0) (rt (.int 0))) aNil)) (mCall phi_length_in (aCons (m2 ixD (slB 1) (rt (.int 0))) aNil)))) mNo mNext)))
def phi_need_both (ds : List D) : O := fin (b_need_both ⟨(0, 0), st0 2 ds⟩)
def b_turns_in : MS := (mRet (mLc [1] (mI rng1D (m1 lenD (slB 0))) (bName 1) mYes (mCall phi_begun_in (aCons (slE 0) (aCons (slE 1) aNil)))))
def phi_turns_in (ds : List D) : O := fin (b_turns_in ⟨(0, 0), st0 2 ds⟩)
def b_same_patterns : MS := (mSeq (mDrop (mCall phi_need_both (aCons (slE 0) (aCons (slE 1) aNil)))) (mSeq (mBind (bTup [(bName 2), (bName 3)]) (mTup (aCons (mCall phi_least_in (aCons (slE 0) aNil)) (aCons (mCall phi_least_in (aCons (slE 1) aNil)) aNil)))) (mRet (m1 tupD (mLc [4] (mI rng1D (m1 lenD (slB 2))) (bName 4) (mB (m2 eqD (mCall phi_begun_in (aCons (slE 2) (aCons (slE 4) aNil))) (slB 3))) (slE 4))))))
def phi_same_patterns (ds : List D) : O := fin (b_same_patterns ⟨(0, 0), st0 5 ds⟩)
def b_pattern_form : MS := (mSeq (mDrop (mCall phi_need_pattern (aCons (slE 0) aNil))) (mSeq (mParEF 1 2 (mCall phi_least_in (aCons (slE 0) aNil)) (mLst aNil)) (mSeq (mFor (bName 3) (mI iterD (mTup (aCons (slE 1) (aCons (m1 revD (slB 1)) aNil)))) (mExt 2 (m2 addD (mCall phi_turns_in (aCons (slE 3) aNil)) (mCall phi_turns_in (aCons (mCall phi_behind_in (aCons (slE 3) aNil)) aNil))))) (mRet (m1 minGD (slB 2))))))
def phi_pattern_form (ds : List D) : O := fin (b_pattern_form ⟨(0, 0), st0 4 ds⟩)
def b_is_upside_down_same : MS := (mSeq (mDrop (mCall phi_need_pattern (aCons (slE 0) aNil))) (mSeq (mSetE 1 (mCall phi_least_in (aCons (slE 0) aNil))) (mFrz 1 (mRet (m2 inD (m1 revD (slB 1)) (mCall phi_turns_in (aCons (slE 1) aNil)))))))
def phi_is_upside_down_same (ds : List D) : O := fin (b_is_upside_down_same ⟨(0, 0), st0 2 ds⟩)
def b_need_patterns : MS := (mSeq (mIfS (mOr (mNot (mB (m1 isTupD (slB 0)))) (mOr (mNot (mB (mChain leD leD (rt (.int 1)) (m1 lenD (slB 0)) (rt (.int 6))))) (mNot (mB (m1 allD (mLc [1] (mI iterD (slE 0)) (bName 1) mYes (mCall phi_fits_pattern (aCons (slE 1) aNil)))))))) mNo mNext) (mIfS (mNot (mB (m1 allD (mLc [1] (mI iterD (slE 0)) (bName 1) mYes (m2 eqD (mCall phi_length_in (aCons (m2 ixD (slB 1) (rt (.int 0))) aNil)) (mCall phi_length_in (aCons (m2 ixD (m2 ixD (slB 0) (rt (.int 0))) (rt (.int 0))) aNil))))))) mNo mNext))
def phi_need_patterns (ds : List D) : O := fin (b_need_patterns ⟨(0, 0), st0 2 ds⟩)
def b_unlike_patterns : MS := (mSeq (mDrop (mCall phi_need_patterns (aCons (slE 0) aNil))) (mSeq (mSetF 1 (mLc [2] (mI iterD (slE 0)) (bName 2) mYes (mCall phi_pattern_form (aCons (slE 2) aNil)))) (mFrz 1 (mRet (m1 tupD (mLc [3, 4] (mEnum (aCons (slE 1) aNil)) (bTup [(bName 3), (bName 4)]) (mB (m2 ninD (slB 4) (mSl (slB 1) pNo (pAt (slB 3))))) (slE 3)))))))
def phi_unlike_patterns (ds : List D) : O := fin (b_unlike_patterns ⟨(0, 0), st0 5 ds⟩)
def b_need_two : MS := (mSeq (mDrop (mCall phi_need_course (aCons (slE 0) aNil))) (mSeq (mDrop (mCall phi_need_course (aCons (slE 1) aNil))) (mIfS (mB (m2 neD (mCall phi_length_in (aCons (slE 0) aNil)) (mCall phi_length_in (aCons (slE 1) aNil)))) mNo mNext)))
def phi_need_two (ds : List D) : O := fin (b_need_two ⟨(0, 0), st0 2 ds⟩)
def b_barred_in : MS := (mSeq (mSetF 2 (mLc2 [3, 4] (mI iterD (slE 0)) (bName 3) mYes [4] (mI iterD (mCall phi_joints_in (aCons (slE 3) aNil))) (bName 4) mYes (slE 4))) (mFrz 2 (mRet (mLc [5] (mR2 (rt (.int 1)) (mCall phi_length_in (aCons (m2 ixD (slB 0) (rt (.int 0))) aNil))) (bName 5) (mB (m1 anyD (mLc [4] (mI iterD (slE 2)) (bName 4) mYes (m2 ltG (m1 absD (m2 subD (slB 5) (slB 4))) (slB 1))))) (slE 5)))))
def phi_barred_in (ds : List D) : O := fin (b_barred_in ⟨(0, 0), st0 6 ds⟩)
def b_every_in : MS := (mSeq (mIfS (mB (m2 gtG (slB 0) (rt (.int 7)))) mNo mNext) (mSeq (mPar 1 2 (mLst (aCons (rt (.str "")) aNil)) (mLst aNil)) (mSeq (mWhile fuel (mB (m2 neD (slB 1) (mLst aNil))) (mSeq (mFrz 1 (mSetF 3 (mLc2 [4, 5] (mI iterD (slE 1)) (bName 4) mYes [5] (mI iterD (rt (.str "hqst"))) (bName 5) mYes (m2 addD (slB 4) (slB 5))))) (mSeq (mFrz 3 (mExt 2 (mLc [4] (mI iterD (slE 3)) (bName 4) (mB (m2 eqD (mCall phi_length_in (aCons (slE 4) aNil)) (slB 0))) (slE 4)))) (mFrz 3 (mSetF 1 (mLc [4] (mI iterD (slE 3)) (bName 4) (mB (m2 ltG (mCall phi_length_in (aCons (slE 4) aNil)) (slB 0))) (slE 4))))))) (mRet (m1 sortD (slB 2))))))
def phi_every_in (ds : List D) : O := fin (b_every_in ⟨(0, 0), st0 6 ds⟩)
def b_changes_of : MS := (mSeq (mDrop (mCall phi_need_both (aCons (slE 0) (aCons (slE 1) aNil)))) (mSeq (mDrop (mCall phi_need_lap (aCons (slE 2) aNil))) (mSeq (mSetF 3 (mLc2 [4, 5] (mI rng1D (m1 lenD (slB 0))) (bName 4) mYes [5] (mI rng1D (m1 lenD (slB 1))) (bName 5) mYes (mTup (aCons (slE 4) (aCons (slE 5) aNil))))) (mFrz 3 (mRet (m1 tupD (mLc [4, 5] (mI iterD (slE 3)) (bTup [(bName 4), (bName 5)]) (mB (mCall phi_bonds_in (aCons (m2 ixD (slB 0) (slB 4)) (aCons (m2 ixD (slB 1) (slB 5)) (aCons (slE 2) aNil))))) (mTup (aCons (slE 4) (aCons (slE 5) aNil))))))))))
def phi_changes_of (ds : List D) : O := fin (b_changes_of ⟨(0, 0), st0 6 ds⟩)
def b_changed_front : MS := (mSeq (mDrop (mCall phi_need_pattern (aCons (slE 0) aNil))) (mSeq (mDrop (mCall phi_need_high (aCons (slE 1) aNil))) (mSeq (mDrop (mCall phi_need_both (aCons (slE 0) (aCons (slE 2) aNil)))) (mSeq (mDrop (mCall phi_need_high (aCons (slE 3) aNil))) (mSeq (mDrop (mCall phi_need_lap (aCons (slE 4) aNil))) (mSeq (mIfS (mB (m2 gtG (m2 addD (slB 1) (slB 3)) (rt (.int 24)))) mNo mNext) (mSeq (mSetF 5 (m1 tupD (mLc [7] (mI rng1D (slB 1)) (bName 7) mYes (m2 ixD (slB 0) (m2 modD (slB 7) (m1 lenD (slB 0))))))) (mSeq (mSetF 6 (mLc [7] (mI rng1D (m1 lenD (slB 2))) (bName 7) (mB (mCall phi_bonds_in (aCons (m2 ixD (slB 5) (m1 negD (rt (.int 1)))) (aCons (m2 ixD (slB 2) (slB 7)) (aCons (slE 4) aNil))))) (slE 7))) (mSeq (mIfS (mB (m2 eqD (slB 6) (mLst aNil))) (mRet (rt .none)) mNext) (mRet (m2 addD (slB 5) (m1 tupD (mLc [7] (mI rng1D (slB 3)) (bName 7) mYes (m2 ixD (slB 2) (m2 modD (m2 addD (m2 ixD (slB 6) (rt (.int 0))) (slB 7)) (m1 lenD (slB 2)))))))))))))))))
def phi_changed_front (ds : List D) : O := fin (b_changed_front ⟨(0, 0), st0 8 ds⟩)
def b_patterns_many : MS := (mSeq (mIfS (mNot (mB (mCall phi_fits_whole (aCons (slE 0) (aCons (rt (.int 1)) (aCons (rt (.int 60)) aNil)))))) mNo mNext) (mSeq (mIfS (mNot (mB (mCall phi_fits_whole (aCons (slE 1) (aCons (rt (.int 1)) (aCons (rt (.int 6)) aNil)))))) mNo mNext) (mSeq (mDrop (mCall phi_need_lap (aCons (slE 2) aNil))) (mSeq (mBind (bTup [(bName 3), (bName 4)]) (mTup (aCons (mCall phi_every_in (aCons (slE 0) aNil)) (aCons (rt (.int 0)) aNil)))) (mSeq (mSetF 5 (mLc [9] (mI iterD (slE 3)) (bName 9) mYes (mLc [10, 11] (mEnum (aCons (slE 3) aNil)) (bTup [(bName 10), (bName 11)]) (mB (mCall phi_bonds_in (aCons (slE 9) (aCons (slE 11) (aCons (slE 2) aNil))))) (slE 10)))) (mSeq (mFor (bName 6) (mI rng1D (m1 lenD (slB 3))) (mSeq (mSetF 7 (mLc [10] (mI rng1D (m1 lenD (slB 3))) (bName 10) mYes (mIf (mB (m2 eqD (slB 10) (slB 6))) (rt (.int 1)) (rt (.int 0))))) (mSeq (mFor (bName 8) (mI rng1D (slB 1)) (mFrz 5 (mSetF 7 (mLc [12] (mI iterD (slE 5)) (bName 12) mYes (m1 sumD (mLc [10] (mI iterD (slE 12)) (bName 10) mYes (m2 ixD (slB 7) (slB 10)))))))) (mAug 4 addI (m2 ixD (slB 7) (slB 6)))))) (mRet (slE 4))))))))
def phi_patterns_many (ds : List D) : O := fin (b_patterns_many ⟨(0, 0), st0 13 ds⟩)
def b_fronts_joined : MS := (mSeq (mDrop (mCall phi_need_front (aCons (slE 0) aNil))) (mSeq (mDrop (mCall phi_need_front (aCons (slE 1) aNil))) (mSeq (mIfS (mB (m2 neD (mCall phi_length_in (aCons (m2 ixD (slB 0) (rt (.int 0))) aNil)) (mCall phi_length_in (aCons (m2 ixD (slB 1) (rt (.int 0))) aNil)))) mNo mNext) (mSeq (mIfS (mB (m2 gtG (m2 addD (m1 lenD (slB 0)) (m1 lenD (slB 1))) (rt (.int 24)))) mNo mNext) (mRet (m2 addD (slB 0) (slB 1)))))))
def phi_fronts_joined (ds : List D) : O := fin (b_fronts_joined ⟨(0, 0), st0 2 ds⟩)
def b_fronts_beside : MS := (mSeq (mDrop (mCall phi_need_front (aCons (slE 0) aNil))) (mSeq (mDrop (mCall phi_need_front (aCons (slE 1) aNil))) (mSeq (mIfS (mB (m2 neD (m1 lenD (slB 0)) (m1 lenD (slB 1)))) mNo mNext) (mSeq (mIfS (mB (m2 gtG (m2 addD (mCall phi_length_in (aCons (m2 ixD (slB 0) (rt (.int 0))) aNil)) (mCall phi_length_in (aCons (m2 ixD (slB 1) (rt (.int 0))) aNil))) (rt (.int 60)))) mNo mNext) (mSeq (mSetF 2 (m1 tupD (mLc [3, 4] (mZip (aCons (slE 0) (aCons (slE 1) aNil))) (bTup [(bName 3), (bName 4)]) mYes (m2 addD (slB 3) (slB 4))))) (mSeq (mIfS (mB (m2 gtG (m1 maxGD (mLc [5] (mI iterD (slE 2)) (bName 5) mYes (m1 lenD (slB 5)))) (rt (.int 24)))) mNo mNext) (mRet (slE 2))))))))
def phi_fronts_beside (ds : List D) : O := fin (b_fronts_beside ⟨(0, 0), st0 6 ds⟩)
def b_repeat_of : MS := (mSeq (mDrop (mCall phi_need_front (aCons (slE 0) aNil))) (mSeq (mSetF 1 (m1 lenD (slB 0))) (mRet (m2 ixD (mLc [2] (mR2 (rt (.int 1)) (m2 addD (slB 1) (rt (.int 1)))) (bName 2) (mAnd (mB (m2 eqD (m2 modD (slB 1) (slB 2)) (rt (.int 0)))) (mB (m2 eqD (m2 mulX (mSl (slB 0) pNo (pAt (slB 2))) (m2 fdivD (slB 1) (slB 2))) (slB 0)))) (slE 2)) (rt (.int 0))))))
def phi_repeat_of (ds : List D) : O := fin (b_repeat_of ⟨(0, 0), st0 3 ds⟩)
def b_gap_in : MS := (mSeq (mBind (bTup [(bName 2), (bName 3)]) (mTup (aCons (mCall phi_joints_in (aCons (slE 0) aNil)) (aCons (mCall phi_joints_in (aCons (slE 1) aNil)) aNil)))) (mRet (m2 addD (m1 lenD (mLc [4] (mI iterD (slE 2)) (bName 4) (mB (m2 ninD (slB 4) (slB 3))) (rt (.int 1)))) (m1 lenD (mLc [4] (mI iterD (slE 3)) (bName 4) (mB (m2 ninD (slB 4) (slB 2))) (rt (.int 1)))))))
def phi_gap_in (ds : List D) : O := fin (b_gap_in ⟨(0, 0), st0 5 ds⟩)
def b_counts_in : MS := (mSeq (mSetF 1 (mLc [2] (mI iterD (slE 0)) (bName 2) mYes (mCall phi_joints_in (aCons (slE 2) aNil)))) (mFrz 1 (mRet (mLc [3] (mR2 (rt (.int 1)) (mCall phi_length_in (aCons (m2 ixD (slB 0) (rt (.int 0))) aNil))) (bName 3) mYes (m1 lenD (mLc [4] (mI iterD (slE 1)) (bName 4) (mB (m2 inD (slB 3) (slB 4))) (rt (.int 1))))))))
def phi_counts_in (ds : List D) : O := fin (b_counts_in ⟨(0, 0), st0 5 ds⟩)
def b_whole_joints : MS := (mSeq (mDrop (mCall phi_need_front (aCons (slE 0) aNil))) (mRet (m1 tupD (mLc [1, 2] (mEnum (aCons (mCall phi_counts_in (aCons (slE 0) aNil)) aNil)) (bTup [(bName 1), (bName 2)]) (mB (m2 eqD (slB 2) (m1 lenD (slB 0)))) (m2 addD (slB 1) (rt (.int 1)))))))
def phi_whole_joints (ds : List D) : O := fin (b_whole_joints ⟨(0, 0), st0 3 ds⟩)
def b_all_joints : MS := (mSeq (mDrop (mCall phi_need_front (aCons (slE 0) aNil))) (mRet (m1 tupD (mLc [1, 2] (mEnum (aCons (mCall phi_counts_in (aCons (slE 0) aNil)) aNil)) (bTup [(bName 1), (bName 2)]) (mB (m2 gtG (slB 2) (rt (.int 0)))) (m2 addD (slB 1) (rt (.int 1)))))))
def phi_all_joints (ds : List D) : O := fin (b_all_joints ⟨(0, 0), st0 3 ds⟩)
def b_joint_counts : MS := (mSeq (mDrop (mCall phi_need_front (aCons (slE 0) aNil))) (mRet (m1 tupD (mCall phi_counts_in (aCons (slE 0) aNil)))))
def phi_joint_counts (ds : List D) : O := fin (b_joint_counts ⟨(0, 0), st0 1 ds⟩)
def b_weakest : MS := (mSeq (mDrop (mCall phi_need_front (aCons (slE 0) aNil))) (mSeq (mSetE 1 (mCall phi_counts_in (aCons (slE 0) aNil))) (mSeq (mSetE 2 (mIf (mB (m2 neD (slB 1) (mLst aNil))) (m1 maxGD (slB 1)) (rt (.int 0)))) (mFrz 1 (mRet (m1 tupD (mLc [3, 4] (mEnum (aCons (slE 1) aNil)) (bTup [(bName 3), (bName 4)]) (mAnd (mB (m2 eqD (slB 4) (slB 2))) (mB (m2 gtG (slB 2) (rt (.int 0))))) (m2 addD (slB 3) (rt (.int 1))))))))))
def phi_weakest (ds : List D) : O := fin (b_weakest ⟨(0, 0), st0 5 ds⟩)
def b_best_lap : MS := (mSeq (mDrop (mCall phi_need_front (aCons (slE 0) aNil))) (mSeq (mSetF 1 (mLc [2, 3] (mZip (aCons (slE 0) (aCons (mSl (slB 0) (pAt (rt (.int 1))) pNo) aNil))) (bTup [(bName 2), (bName 3)]) mYes (mCall phi_lap_in (aCons (slE 2) (aCons (slE 3) aNil))))) (mFrz 1 (mRet (m1 minGD (m2 addD (mLst (aCons (rt (.int 4)) aNil)) (mLc [4] (mI iterD (slE 1)) (bName 4) (mB (m2 isnD (slB 4) (rt .none))) (slE 4))))))))
def phi_best_lap (ds : List D) : O := fin (b_best_lap ⟨(0, 0), st0 5 ds⟩)
def b_joint_gap : MS := (mSeq (mDrop (mCall phi_need_two (aCons (slE 0) (aCons (slE 1) aNil)))) (mRet (mCall phi_gap_in (aCons (slE 0) (aCons (slE 1) aNil)))))
def phi_joint_gap (ds : List D) : O := fin (b_joint_gap ⟨(0, 0), st0 2 ds⟩)
def b_nearest_courses : MS := (mSeq (mDrop (mCall phi_need_course (aCons (slE 0) aNil))) (mSeq (mIfS (mOr (mNot (mB (mCall phi_is_tuple_of (aCons (slE 1) (aCons (rt (.int 1)) (aCons (rt (.int 20)) aNil)))))) (mNot (mB (m1 allD (mLc [3] (mI iterD (slE 1)) (bName 3) mYes (mCall phi_fits_course (aCons (slE 3) aNil))))))) mNo mNext) (mSeq (mSetF 2 (mLc [4, 3] (mEnum (aCons (slE 1) aNil)) (bTup [(bName 4), (bName 3)]) (mB (m2 eqD (mCall phi_length_in (aCons (slE 3) aNil)) (mCall phi_length_in (aCons (slE 0) aNil)))) (mTup (aCons (mCall phi_gap_in (aCons (slE 0) (aCons (slE 3) aNil))) (aCons (slE 4) aNil))))) (mFrz 2 (mRet (m1 tupD (mLc [5, 4] (mI iterD (slE 2)) (bTup [(bName 5), (bName 4)]) (mB (m2 eqD (slB 5) (m2 ixD (m1 minGD (slB 2)) (rt (.int 0))))) (slE 4))))))))
def phi_nearest_courses (ds : List D) : O := fin (b_nearest_courses ⟨(0, 0), st0 6 ds⟩)
def b_in_turn : MS := (mSeq (mDrop (mCall phi_need_two (aCons (slE 0) (aCons (slE 1) aNil)))) (mSeq (mDrop (mCall phi_need_high (aCons (slE 2) aNil))) (mRet (m1 tupD (mLc [3] (mI rng1D (slB 2)) (bName 3) mYes (mIf (mB (m2 eqD (m2 modD (slB 3) (rt (.int 2))) (rt (.int 0)))) (slE 0) (slE 1)))))))
def phi_in_turn (ds : List D) : O := fin (b_in_turn ⟨(0, 0), st0 4 ds⟩)
def b_is_same_from_behind : MS := (mSeq (mDrop (mCall phi_need_front (aCons (slE 0) aNil))) (mRet (m1 allD (mLc [1] (mI iterD (slE 0)) (bName 1) mYes (m2 eqD (slB 1) (m1 revD (slB 1)))))))
def phi_is_same_from_behind (ds : List D) : O := fin (b_is_same_from_behind ⟨(0, 0), st0 2 ds⟩)
def b_front_form : MS := (mSeq (mDrop (mCall phi_need_front (aCons (slE 0) aNil))) (mRet (m2 min2D (slB 0) (m1 tupD (mLc [1] (mI iterD (slE 0)) (bName 1) mYes (m1 revD (slB 1)))))))
def phi_front_form (ds : List D) : O := fin (b_front_form ⟨(0, 0), st0 2 ds⟩)
def b_front_log : MS := (mSeq (mDrop (mCall phi_need_front (aCons (slE 0) aNil))) (mSeq (mDrop (mCall phi_need_lap (aCons (slE 1) aNil))) (mSeq (mIfS (mNot (mB (m1 allD (mLc [4, 5] (mZip (aCons (slE 0) (aCons (mSl (slB 0) (pAt (rt (.int 1))) pNo) aNil))) (bTup [(bName 4), (bName 5)]) mYes (mCall phi_bonds_in (aCons (slE 4) (aCons (slE 5) (aCons (slE 1) aNil)))))))) mNo mNext) (mSeq (mSetE 2 (mCall phi_length_in (aCons (m2 ixD (slB 0) (rt (.int 0))) aNil))) (mSeq (mFrz 2 (mSetF 3 (mIf (mB (m2 neD (slB 2) (rt (.int 24)))) (mLst (aCons (mTup (aCons (rt (.str "line")) (aCons (slE 2) aNil))) aNil)) (mLst aNil)))) (mSeq (mExt 3 (mIf (mB (m2 neD (slB 1) (rt (.int 1)))) (mLst (aCons (mTup (aCons (rt (.str "lap")) (aCons (slE 1) aNil))) aNil)) (mLst aNil))) (mRet (m1 tupD (m2 addD (slB 3) (mLc2 [4, 6] (mI iterD (slE 0)) (bName 4) mYes [6] (mI iterD (slE 4)) (bName 6) mYes (mTup (aCons (rt (.str "lay")) (aCons (slE 6) aNil)))))))))))))
def phi_front_log (ds : List D) : O := fin (b_front_log ⟨(0, 0), st0 7 ds⟩)
end Pu
end

noncomputable section
set_option Elab.async false
set_option linter.all false
set_option maxRecDepth 100000
set_option maxHeartbeats 2000000
/-! Pt1: the typed layer: signs, codes of data, environments, what an expression comes to. -/
namespace Pu
open PySem PySem.Spec L2
/-! ### signs -/
inductive Sg where
  | h | q | s | t
deriving DecidableEq, Inhabited
def Sg.code : Sg → Nat
  | .h => 104 | .q => 113 | .s => 115 | .t => 116
def Sg.size : Sg → Int
  | .h => 2 | .q => 1 | .s => 4 | .t => 3
def hqst : List Sg := [.h, .q, .s, .t]
theorem code_inj {a b : Sg} : a.code = b.code ↔ a = b := by cases a <;> cases b <;> decide
def txS (l : List Sg) : Str := ⟨(l.map Sg.code).toArray⟩
theorem cps_txS (l : List Sg) : cps (txS l) = l.map Sg.code := by simp [cps, txS]
theorem txS_len (l : List Sg) : (txS l).length = l.length := by show (l.map Sg.code).toArray.size = _; simp
theorem txS_app (l m : List Sg) : txS l ++ txS m = txS (l ++ m) := by
  show (⟨(l.map Sg.code).toArray ++ (m.map Sg.code).toArray⟩ : Str) = _
  simp [txS]
theorem map_code_inj : ∀ {l m : List Sg}, l.map Sg.code = m.map Sg.code → l = m
  | [], [], _ => rfl
  | [], _ :: _, h => by cases h
  | _ :: _, [], h => by cases h
  | a :: l, b :: m, h => by
    simp only [List.map_cons, List.cons.injEq] at h
    rw [code_inj.mp h.1, map_code_inj h.2]
theorem txS_inj {l m : List Sg} : txS l = txS m ↔ l = m := ⟨fun h => map_code_inj (by have := congrArg cps h; simpa only [cps_txS] using this), fun h => by rw [h]⟩
theorem strOk_txS (l : List Sg) : PyData.strOk (txS l) = true := by
  simp [PyData.strOk, txS]
  intro x _
  cases x <;> decide
/-! ### codes of data -/
structure Cd (τ : Type) where
  enc : τ → D
  dp : Nat
  lay : dp ≤ 99 → ∀ x, (enc x).canLay0 = true
  dep : dp ≤ 99 → ∀ x, (enc x).depth ≤ dp
  eqv : dp ≤ 99 → ∀ x y, PyData.eqv (enc x) (enc y) = true ↔ x = y
def cI : Cd Int := ⟨.int, 0, fun _ _ => rfl, fun _ _ => by simp [PyData.depth], fun _ _ _ => by simp⟩
def cB : Cd Bool := ⟨.bool, 0, fun _ _ => rfl, fun _ _ => by simp [PyData.depth], fun _ _ _ => by simp⟩
def cS : Cd (List Sg) := ⟨fun l => .str (txS l), 0, fun _ l => by simp [PyData.canLay0, strOk_txS], fun _ _ => by simp [PyData.depth], fun _ x y => by simp [txS_inj]⟩
def cG : Cd Sg := ⟨fun g => .str (txS [g]), 0, fun _ l => by simp [PyData.canLay0, strOk_txS], fun _ _ => by simp [PyData.depth], fun _ x y => by simp [txS_inj]⟩
def cU : Cd Unit := ⟨fun _ => .none, 0, fun _ _ => rfl, fun _ _ => by simp [PyData.depth], fun _ _ _ => by simp⟩
/-- dicts: the pairs in their order -/
def encD {κ τ : Type} (a : Cd κ) (b : Cd τ) (xs : List (κ × τ)) : D := .dict (xs.map fun p => (a.enc p.1, b.enc p.2))
def cD {κ τ : Type} (a : Cd κ) (b : Cd τ) : Cd (List (κ × τ)) := ⟨encD a b, 1000000, fun h => absurd h (by decide), fun h => absurd h (by decide), fun h => absurd h (by decide)⟩
theorem layAll {τ : Type} (c : Cd τ) (h : c.dp ≤ 99) : ∀ xs : List τ, PyData.canLayAll0 (xs.map c.enc) = true
  | [] => rfl
  | x :: xs => by simp [PyData.canLayAll0, c.lay h x, layAll c h xs]
theorem depAll {τ : Type} (c : Cd τ) (h : c.dp ≤ 99) : ∀ xs : List τ, PyData.depthAll (xs.map c.enc) ≤ c.dp
  | [] => by simp [PyData.depthAll]
  | x :: xs => by
    have h1 := c.dep h x
    have h2 := depAll c h xs
    simp only [List.map_cons, PyData.depthAll]
    omega
theorem eqvAll' {τ : Type} (c : Cd τ) (h : c.dp ≤ 99) : ∀ xs ys : List τ, PyData.eqvAll (xs.map c.enc) (ys.map c.enc) = true ↔ xs = ys
  | [], [] => by simp
  | [], _ :: _ => by simp
  | _ :: _, [] => by simp
  | x :: xs, y :: ys => by
    have h1 := c.eqv h x y
    have h2 := eqvAll' c h xs ys
    simp [h1, h2]
theorem dpS {a b : Nat} (h : a + 1 ≤ 99) : a ≤ 99 := by omega
def cL {τ : Type} (c : Cd τ) : Cd (List τ) := ⟨fun xs => .list (xs.map c.enc), c.dp + 1, fun h xs => by simpa [PyData.canLay0] using layAll c (by omega) xs, fun h xs => by have := depAll c (by omega) xs; simp only [PyData.depth]; omega, fun h xs ys => by simpa using eqvAll' c (by omega) xs ys⟩
def cT {τ : Type} (c : Cd τ) : Cd (List τ) := ⟨fun xs => .tuple (xs.map c.enc), c.dp + 1, fun h xs => by simpa [PyData.canLay0] using layAll c (by omega) xs, fun h xs => by have := depAll c (by omega) xs; simp only [PyData.depth]; omega, fun h xs ys => by simpa using eqvAll' c (by omega) xs ys⟩
def cP1 {α : Type} (a : Cd α) : Cd α := ⟨fun p => .tuple [a.enc p], a.dp + 1, fun h p => by simp [PyData.canLay0, PyData.canLayAll0, a.lay (by omega)], fun h p => by have := a.dep (by omega) p; simp only [PyData.depth, PyData.depthAll]; omega, fun h x y => by simp [a.eqv (by omega)]⟩
def cP2 {α β : Type} (a : Cd α) (b : Cd β) : Cd (α × β) := ⟨fun p => .tuple [a.enc p.1, b.enc p.2], max a.dp b.dp + 1, fun h p => by simp [PyData.canLay0, PyData.canLayAll0, a.lay (by omega), b.lay (by omega)], fun h p => by have := a.dep (by omega) p.1; have := b.dep (by omega) p.2; simp only [PyData.depth, PyData.depthAll]; omega, fun h x y => by simp [a.eqv (by omega), b.eqv (by omega), Prod.ext_iff]⟩
def cP3 {α β γ : Type} (a : Cd α) (b : Cd β) (c : Cd γ) : Cd (α × β × γ) := ⟨fun p => .tuple [a.enc p.1, b.enc p.2.1, c.enc p.2.2], max a.dp (max b.dp c.dp) + 1, fun h p => by simp [PyData.canLay0, PyData.canLayAll0, a.lay (by omega), b.lay (by omega), c.lay (by omega)], fun h p => by have := a.dep (by omega) p.1; have := b.dep (by omega) p.2.1; have := c.dep (by omega) p.2.2; simp only [PyData.depth, PyData.depthAll]; omega, fun h x y => by simp [a.eqv (by omega), b.eqv (by omega), c.eqv (by omega), Prod.ext_iff]⟩
def cP4 {α β γ δ : Type} (a : Cd α) (b : Cd β) (c : Cd γ) (d : Cd δ) : Cd (α × β × γ × δ) := ⟨fun p => .tuple [a.enc p.1, b.enc p.2.1, c.enc p.2.2.1, d.enc p.2.2.2], max a.dp (max b.dp (max c.dp d.dp)) + 1, fun h p => by simp [PyData.canLay0, PyData.canLayAll0, a.lay (by omega), b.lay (by omega), c.lay (by omega), d.lay (by omega)], fun h p => by have := a.dep (by omega) p.1; have := b.dep (by omega) p.2.1; have := c.dep (by omega) p.2.2.1; have := d.dep (by omega) p.2.2.2; simp only [PyData.depth, PyData.depthAll]; omega, fun h x y => by simp [a.eqv (by omega), b.eqv (by omega), c.eqv (by omega), d.eqv (by omega), Prod.ext_iff]⟩
def cP5 {α β γ δ ε : Type} (a : Cd α) (b : Cd β) (c : Cd γ) (d : Cd δ) (e : Cd ε) : Cd (α × β × γ × δ × ε) := ⟨fun p => .tuple [a.enc p.1, b.enc p.2.1, c.enc p.2.2.1, d.enc p.2.2.2.1, e.enc p.2.2.2.2], max a.dp (max b.dp (max c.dp (max d.dp e.dp))) + 1, fun h p => by simp [PyData.canLay0, PyData.canLayAll0, a.lay (by omega), b.lay (by omega), c.lay (by omega), d.lay (by omega), e.lay (by omega)], fun h p => by have := a.dep (by omega) p.1; have := b.dep (by omega) p.2.1; have := c.dep (by omega) p.2.2.1; have := d.dep (by omega) p.2.2.2.1; have := e.dep (by omega) p.2.2.2.2; simp only [PyData.depth, PyData.depthAll]; omega, fun h x y => by simp [a.eqv (by omega), b.eqv (by omega), c.eqv (by omega), d.eqv (by omega), e.eqv (by omega), Prod.ext_iff]⟩
def encO {τ : Type} (e : τ → D) : Option τ → D
  | none => .none
  | some x => e x
/-- never None -/
def NN {τ : Type} (c : Cd τ) : Prop := ∀ x, PyData.eqv (c.enc x) .none = false ∧ PyData.eqv .none (c.enc x) = false
theorem nI : NN cI := fun _ => ⟨by simp [cI], by simp [cI]⟩
theorem nB : NN cB := fun _ => ⟨by simp [cB, PyData.eqv], by simp [cB, PyData.eqv]⟩
theorem nS : NN cS := fun _ => ⟨by simp [cS, PyData.eqv], by simp [cS, PyData.eqv]⟩
theorem nG : NN cG := fun _ => ⟨by simp [cG, PyData.eqv], by simp [cG, PyData.eqv]⟩
theorem nL {τ : Type} {c : Cd τ} : NN (cL c) := fun _ => ⟨by simp [cL, PyData.eqv], by simp [cL, PyData.eqv]⟩
theorem nT {τ : Type} {c : Cd τ} : NN (cT c) := fun _ => ⟨by simp [cT, PyData.eqv], by simp [cT, PyData.eqv]⟩
theorem nP2 {α β : Type} {a : Cd α} {b : Cd β} : NN (cP2 a b) := fun _ => ⟨by simp [cP2, PyData.eqv], by simp [cP2, PyData.eqv]⟩
theorem nP3 {α β γ : Type} {a : Cd α} {b : Cd β} {c : Cd γ} : NN (cP3 a b c) := fun _ => ⟨by simp [cP3, PyData.eqv], by simp [cP3, PyData.eqv]⟩
theorem nD {κ τ : Type} {a : Cd κ} {b : Cd τ} : NN (cD a b) := fun _ => ⟨by simp [cD, encD, PyData.eqv], by simp [cD, encD, PyData.eqv]⟩
def cO {τ : Type} (c : Cd τ) (n : NN c) : Cd (Option τ) := ⟨encO c.enc, c.dp, fun h x => by cases x <;> simp [encO, PyData.canLay0, c.lay h], fun h x => by cases x with | none => simp [encO, PyData.depth] | some x => exact c.dep h x,
  fun h x y => by cases x <;> cases y <;> simp [encO, c.eqv h, n _]⟩
theorem shaped_cd {τ : Type} (c : Cd τ) (h : c.dp ≤ 64) (x : τ) : SeqAt.shaped (c.enc x) = true := by
  have := c.dep (by omega) x
  simp [SeqAt.shaped, c.lay (by omega) x]; omega
theorem eqv_cd {τ : Type} [DecidableEq τ] (c : Cd τ) (h : c.dp ≤ 99) (x y : τ) : PyData.eqv (c.enc x) (c.enc y) = decide (x = y) := by
  rw [Bool.eq_iff_iff, c.eqv h]; simp
theorem o_eq {τ : Type} [DecidableEq τ] {c : Cd τ} {x y : τ} (h : c.dp ≤ 64 := by decide) : eqD (c.enc x) (c.enc y) = some (cB.enc (decide (x = y))) := by
  rw [eqD_of _ _ (shaped_cd c h x) (shaped_cd c h y), eqv_cd c (by omega)]; rfl
theorem o_ne {τ : Type} [DecidableEq τ] {c : Cd τ} {x y : τ} (h : c.dp ≤ 64 := by decide) : neD (c.enc x) (c.enc y) = some (cB.enc (decide (x ≠ y))) := by
  rw [neD_of _ _ (shaped_cd c h x) (shaped_cd c h y), eqv_cd c (by omega)]; simp [cB]
/-! ### environments -/
inductive A where
  | no | at (t : Sl) | li (xs : List D) | di (xs : List (D × D))
abbrev Env := List A
def Mt : A → Sl → Prop
  | .no, _ => True
  | .at t, u => u = t
  | .li xs, u => u = .ow xs ∨ u = .fz (.list xs)
  | .di xs, u => u = .od xs ∨ u = .fz (.dict xs)
def Fits : Env → List Sl → Prop
  | [], [] => True
  | a :: L, u :: r => Mt a u ∧ Fits L r
  | _, _ => False
theorem Fits.get : ∀ {L : Env} {r : List Sl} (i : Nat) {a : A}, Fits L r → L[i]? = some a → ∃ u, r[i]? = some u ∧ Mt a u
  | [], _, _, _, _, e => by simp at e
  | _ :: _, [], _, _, h, _ => h.elim
  | b :: L, u :: r, 0, a, h, e => by simp at e; subst e; exact ⟨u, rfl, h.1⟩
  | b :: L, u :: r, i + 1, a, h, e => by
    obtain ⟨v, h1, h2⟩ := Fits.get i h.2 (by simpa using e)
    exact ⟨v, by simpa using h1, h2⟩
theorem Fits.set : ∀ {L : Env} {r : List Sl} (i : Nat) {a : A} {t : Sl}, Fits L r → Mt a t → Fits (L.set i a) (r.set i t)
  | [], [], _, _, _, _, _ => trivial
  | [], _ :: _, _, _, _, h, _ => h.elim
  | _ :: _, [], _, _, _, h, _ => h.elim
  | b :: L, u :: r, 0, a, t, h, m => ⟨m, h.2⟩
  | b :: L, u :: r, i + 1, a, t, h, m => ⟨h.1, Fits.set i h.2 m⟩
def Wk : Env → Env → Prop
  | [], [] => True
  | a :: L, b :: L' => (∀ u, Mt a u → Mt b u) ∧ Wk L L'
  | _, _ => False
theorem wi {a : A} : ∀ u, Mt a u → Mt a u := fun _ h => h
theorem wn {a : A} : ∀ u, Mt a u → Mt .no u := fun _ _ => trivial
theorem wo {xs : List D} : ∀ u, Mt (.at (.ow xs)) u → Mt (.li xs) u := fun _ h => .inl h
theorem wf {xs : List D} : ∀ u, Mt (.at (.fz (.list xs))) u → Mt (.li xs) u := fun _ h => .inr h
theorem wod {xs : List (D × D)} : ∀ u, Mt (.at (.od xs)) u → Mt (.di xs) u := fun _ h => .inl h
theorem wfd {xs : List (D × D)} : ∀ u, Mt (.at (.fz (.dict xs))) u → Mt (.di xs) u := fun _ h => .inr h
theorem Wk.fits : ∀ {L L' : Env} {r : List Sl}, Wk L L' → Fits L r → Fits L' r
  | [], [], _, _, h => h
  | [], _ :: _, _, h, _ => h.elim
  | _ :: _, [], _, h, _ => h.elim
  | _ :: _, _ :: _, [], _, h => h.elim
  | _ :: _, _ :: _, u :: r, w, h => ⟨w.1 u h.1, w.2.fits h.2⟩
theorem Wk.refl : ∀ (L : Env), Wk L L
  | [] => trivial
  | _ :: L => ⟨fun _ h => h, Wk.refl L⟩
def wipeE (L : Env) : List Nat → Env
  | [] => L
  | v :: vs => (wipeE L vs).set v .no
theorem Fits.wipe {L : Env} {s : S} (h : Fits L s.r) : ∀ vs, Fits (wipeE L vs) (wipeS s vs).r
  | [] => h
  | v :: vs => (Fits.wipe h vs).set v trivial
theorem wipe_c {s : S} : ∀ vs, (wipeS s vs).c = s.c
  | [] => rfl
  | v :: vs => wipe_c (s := s) vs
/-! ### expressions -/
def TM {α : Type} (L : Env) (m : M α) (a : α) : Prop := ∀ s : S, Fits L s.r → m s = .ok a s.c
section
variable {L L1 L2 : Env} {α β γ τ : Type}
theorem tm_rt {a : α} : TM L (rt a) a := fun _ _ => rfl
theorem tm_fz (i : Nat) {d : D} (h : L[i]? = some (.at (.fz d)) := by rfl) : TM L (slB i) d := fun s hs => by
  obtain ⟨u, h1, h2⟩ := hs.get i h
  subst h2
  simp [slB, h1]
theorem tm_fe (i : Nat) {d : D} (h : L[i]? = some (.at (.fz d)) := by rfl) : TM L (slE i) d := fun s hs => by
  obtain ⟨u, h1, h2⟩ := hs.get i h
  subst h2
  simp [slE, h1]
theorem tm_ow (i : Nat) {c : Cd τ} {xs : List τ} (h : L[i]? = some (.at (.ow (xs.map c.enc))) := by rfl) : TM L (slB i) ((cL c).enc xs) := fun s hs => by
  obtain ⟨u, h1, h2⟩ := hs.get i h
  subst h2
  simp [slB, h1, cL]
theorem tm_li (i : Nat) {c : Cd τ} {xs : List τ} (h : L[i]? = some (.li (xs.map c.enc)) := by rfl) : TM L (slB i) ((cL c).enc xs) := fun s hs => by
  obtain ⟨u, h1, h2⟩ := hs.get i h
  rcases h2 with rfl | rfl <;> simp [slB, h1, cL]
theorem tm_od (i : Nat) {κ : Type} {a : Cd κ} {c : Cd τ} {xs : List (κ × τ)} (h : L[i]? = some (.at (.od (xs.map fun p => (a.enc p.1, c.enc p.2)))) := by rfl) : TM L (slB i) ((cD a c).enc xs) := fun s hs => by
  obtain ⟨u, h1, h2⟩ := hs.get i h
  subst h2
  simp [slB, h1, cD, encD]
theorem tm_di (i : Nat) {κ : Type} {a : Cd κ} {c : Cd τ} {xs : List (κ × τ)} (h : L[i]? = some (.di (xs.map fun p => (a.enc p.1, c.enc p.2))) := by rfl) : TM L (slB i) ((cD a c).enc xs) := fun s hs => by
  obtain ⟨u, h1, h2⟩ := hs.get i h
  rcases h2 with rfl | rfl <;> simp [slB, h1, cD, encD]
theorem tm_m1 {g : D → Option D} {a : M D} {x z : D} (ha : TM L a x) (hg : g x = some z) : TM L (m1 g a) z := fun s hs => by
  simp [m1, bnd, ha s hs, lift, hg]
theorem tm_m2 {g : D → D → Option D} {a b : M D} {x y z : D} (ha : TM L a x) (hb : TM L b y) (hg : g x y = some z) : TM L (m2 g a b) z := fun s hs => by
  have e : (s.wc s.c) = s := rfl
  simp [m2, bnd, ha s hs, hb s hs, lift, hg, e]
theorem tm_chain {g g' : D → D → Option D} {a b c : M D} {x y w : D} {p q : Bool} (ha : TM L a x) (hb : TM L b y) (hg : g x y = some (cB.enc p)) (hc : p = true → TM L c w) (hg' : p = true → g' y w = some (cB.enc q)) : TM L (mChain g g' a b c) (cB.enc (p && q)) := fun s hs => by
  have e : (s.wc s.c) = s := rfl
  cases p with
  | false => simp [mChain, bnd, ha s hs, hb s hs, lift, hg, e, cB]
  | true => simp [mChain, bnd, ha s hs, hb s hs, lift, hg, e, cB, hc rfl s hs, hg' rfl]
theorem tm_mB {a : M D} {p : Bool} (ha : TM L a (cB.enc p)) : TM L (mB a) p := fun s hs => by
  simp [mB, bnd, ha s hs, lift, cB]
theorem tm_mBd {a : M D} {p : Bool} (ha : TM L a (cB.enc p)) : TM L (mBd a) (cB.enc p) := fun s hs => by
  simp [mBd, bnd, ha s hs, lift, cB]
theorem tm_and {a b : M Bool} {p q : Bool} (ha : TM L a p) (hb : p = true → TM L b q) : TM L (mAnd a b) (p && q) := fun s hs => by
  have e : (s.wc s.c) = s := rfl
  cases p with
  | false => simp [mAnd, bnd, ha s hs]
  | true => simp [mAnd, bnd, ha s hs, e, hb rfl s hs]
theorem tm_or {a b : M Bool} {p q : Bool} (ha : TM L a p) (hb : p = false → TM L b q) : TM L (mOr a b) (p || q) := fun s hs => by
  have e : (s.wc s.c) = s := rfl
  cases p with
  | true => simp [mOr, bnd, ha s hs]
  | false => simp [mOr, bnd, ha s hs, e, hb rfl s hs]
theorem tm_not {a : M Bool} {p : Bool} (ha : TM L a p) : TM L (mNot a) (!p) := fun s hs => by
  simp [mNot, bnd, ha s hs]
theorem tm_andV {a b : M D} {p q : Bool} (ha : TM L a (cB.enc p)) (hb : p = true → TM L b (cB.enc q)) : TM L (mAndV a b) (cB.enc (p && q)) := fun s hs => by
  have e : (s.wc s.c) = s := rfl
  cases p with
  | false => simp [mAndV, bnd, ha s hs, cB]
  | true => simp [mAndV, bnd, ha s hs, e, hb rfl s hs, cB]
theorem tm_orV {a b : M D} {p q : Bool} (ha : TM L a (cB.enc p)) (hb : p = false → TM L b (cB.enc q)) : TM L (mOrV a b) (cB.enc (p || q)) := fun s hs => by
  have e : (s.wc s.c) = s := rfl
  cases p with
  | true => simp [mOrV, bnd, ha s hs, cB]
  | false => simp [mOrV, bnd, ha s hs, e, hb rfl s hs, cB]
theorem tm_notV {a : M D} {p : Bool} (ha : TM L a (cB.enc p)) : TM L (mNotV a) (cB.enc (!p)) := fun s hs => by
  simp [mNotV, bnd, ha s hs, cB]
theorem tm_if {t : M Bool} {a b : M D} {p : Bool} {c : Cd τ} {x y : τ} (ht : TM L t p) (ha : p = true → TM L a (c.enc x)) (hb : p = false → TM L b (c.enc y)) : TM L (mIf t a b) (c.enc (if p = true then x else y)) := fun s hs => by
  have e : (s.wc s.c) = s := rfl
  cases p with
  | true => simp [mIf, bnd, ht s hs, e, ha rfl s hs]
  | false => simp [mIf, bnd, ht s hs, e, hb rfl s hs]
theorem tm_anil : TM L aNil [] := fun _ _ => rfl
theorem tm_acons {a : M D} {b : M (List D)} {x : D} {xs : List D} (ha : TM L a x) (hb : TM L b xs) : TM L (aCons a b) (x :: xs) := fun s hs => by
  have e : (s.wc s.c) = s := rfl
  simp [aCons, bnd, ha s hs, e, hb s hs, rt]
/-- a short one -/
theorem lenOk_s {xs : List D} (h : xs.length ≤ 100) : lenOk xs = true := lenOk_tt (by omega)
theorem tm_tup {m : M (List D)} {xs : List D} (ha : TM L m xs) (h : xs.length ≤ 100 := by simp) : TM L (mTup m) (.tuple xs) := fun s hs => by
  simp [mTup, bnd, ha s hs, lift, lenOk_s h]
theorem tm_lst {m : M (List D)} {xs : List D} (ha : TM L m xs) (h : xs.length ≤ 100 := by simp) : TM L (mLst m) (.list xs) := fun s hs => by
  simp [mLst, bnd, ha s hs, lift, lenOk_s h]
theorem tm_call {φ : List D → O} {m : M (List D)} {xs : List D} {d : D} (ha : TM L m xs) (h : φ xs = .ok d) : TM L (mCall φ m) d := fun s hs => by
  simp [bnd, ha s hs, h]
theorem tm_I {g : D → Option (List D)} {m : M D} {d : D} {xs : List D} (ha : TM L m d) (h : g d = some xs) : TM L (mI g m) xs := fun s hs => by
  simp [bnd, ha s hs, h, lift]
theorem tm_R2 {a b : M D} {x y : D} {xs : List D} (ha : TM L a x) (hb : TM L b y) (h : rng2D x y = some xs) : TM L (mR2 a b) xs := fun s hs => by
  have e : (s.wc s.c) = s := rfl
  simp [bnd, ha s hs, e, hb s hs, h, lift]
theorem tm_zip {m : M (List D)} {ds xs : List D} (ha : TM L m ds) (h : zipD ds = some xs) : TM L (mZip m) xs := fun s hs => by
  simp [bnd, ha s hs, h, lift]
theorem tm_enum {m : M (List D)} {ds xs : List D} (ha : TM L m ds) (h : enumD ds = some xs) : TM L (mEnum m) xs := fun s hs => by
  simp [bnd, ha s hs, h, lift]
theorem tm_join {z : Str} {m : M D} {x d : D} (ha : TM L m x) (h : joinD (.str z) x = some d) : TM L (mJoin z m) d := tm_m1 ha h
def TO (L : Env) (m : M (Option Int)) (o : Option Int) : Prop := TM L m o
theorem to_no : TM L pNo none := fun _ _ => rfl
theorem to_at {m : M D} {x : Int} (h : TM L m (cI.enc x)) : TM L (pAt m) (some x) := fun s hs => by
  simp [pAt, bnd, h s hs, cI, rt]
theorem tm_sl {a : M D} {lo hi : M (Option Int)} {x d : D} {l u : Option Int} (ha : TM L a x) (hl : TM L lo l) (hu : TM L hi u) (h : slD x l u = some d) : TM L (mSl a lo hi) d := fun s hs => by
  have e : (s.wc s.c) = s := rfl
  simp [mSl, bnd, ha s hs, e, hl s hs, hu s hs, h, lift]
/-! ### targets -/
def TBd (b : Bd) (d : D) (L L' : Env) : Prop := ∀ s : S, Fits L s.r → ∃ r, b d s = some ⟨s.c, r⟩ ∧ Fits L' r
def TGo (bs : List Bd) (ds : List D) (L L' : Env) : Prop := ∀ s : S, Fits L s.r → ∃ r, bTup.go bs ds s = some ⟨s.c, r⟩ ∧ Fits L' r
theorem tb_name (i : Nat) {d : D} : TBd (bName i) d L (L.set i (.at (.fz d))) := fun s hs => ⟨_, rfl, hs.set i rfl⟩
theorem tg_nil : TGo [] [] L L := fun s hs => ⟨s.r, rfl, hs⟩
theorem tg_cons {b : Bd} {bs : List Bd} {d : D} {ds : List D} (h1 : TBd b d L L1) (h2 : TGo bs ds L1 L2) : TGo (b :: bs) (d :: ds) L L2 := fun s hs => by
  obtain ⟨r, e, h⟩ := h1 s hs
  obtain ⟨r2, e2, h'⟩ := h2 ⟨s.c, r⟩ h
  exact ⟨r2, by simp [e, e2], h'⟩
theorem tb_tup {bs : List Bd} {ds : List D} (h : TGo bs ds L L1) : TBd (bTup bs) (.tuple ds) L L1 := fun s hs => by
  obtain ⟨r, e, h'⟩ := h s hs
  exact ⟨r, by simp [e], h'⟩
/-! ### comprehensions -/
theorem tm_lc {it : M (List D)} {b : Bd} {t : M Bool} {e : M D} {vs : List Nat} {g : α → D} {c : Cd β} {xs : List α} {p : α → Bool} {f : α → β} (hit : TM L it (xs.map g))
    (he : ∀ x ∈ xs, ∃ L1, TBd b (g x) (wipeE L vs) L1 ∧ TM L1 t (p x) ∧ (p x = true → TM L1 e (c.enc (f x)))) (lo : xs.length ≤ 16777216) : TM L (mLc vs it b t e) ((cL c).enc ((xs.filter p).map f)) := fun s hs => by
  have key : ∀ (xs : List α), (∀ x ∈ xs, ∃ L1, TBd b (g x) (wipeE L vs) L1 ∧ TM L1 t (p x) ∧ (p x = true → TM L1 e (c.enc (f x)))) → lcL b t e (wipeS s vs) (xs.map g) s.c = .ok (((xs.filter p).map f).map c.enc) s.c := fun xs => by
    induction xs with
    | nil => intro _; rfl
    | cons x xs ih =>
      intro H
      obtain ⟨L1, h1, h2, h3⟩ := H x List.mem_cons_self
      have ih := ih fun y hy => H y (List.mem_cons_of_mem _ hy)
      obtain ⟨r, e1, hr⟩ := h1 (wipeS s vs) (hs.wipe vs)
      rw [wipe_c] at e1
      have ew : (wipeS s vs).wc s.c = wipeS s vs := by rw [← wipe_c (s := s) vs]
      have e2 := h2 ⟨s.c, r⟩ hr
      rw [List.map_cons]
      unfold lcL
      simp only [ew, e1, e2]
      cases hp : p x with
      | false => simp only [ih, List.filter_cons, hp, Bool.false_eq_true, if_false]
      | true =>
        have e3 := h3 hp ⟨s.c, r⟩ hr
        have ew2 : (⟨s.c, r⟩ : S).wc s.c = ⟨s.c, r⟩ := rfl
        simp only [ew2, e3, ih, List.filter_cons, hp, if_true, List.map_cons]
  have lo' : lenOk (((xs.filter p).map f).map c.enc) = true := lenOk_tt (by simp only [List.length_map]; exact Nat.le_trans (List.length_filter_le _ _) lo)
  have ew : s.wc s.c = s := rfl
  simp only [mLc_ap, mLc2_ap, bnd, hit s hs, ew, key xs he, lo', cL, if_true]
theorem tm_lc0 {it : M (List D)} {b : Bd} {e : M D} {vs : List Nat} {g : α → D} {c : Cd β} {xs : List α} {f : α → β} (hit : TM L it (xs.map g))
    (he : ∀ x ∈ xs, ∃ L1, TBd b (g x) (wipeE L vs) L1 ∧ TM L1 e (c.enc (f x))) (lo : xs.length ≤ 16777216) : TM L (mLc vs it b mYes e) ((cL c).enc (xs.map f)) := by
  have := tm_lc (p := fun _ => true) (t := mYes) hit (fun x hx => by
    obtain ⟨L1, h1, h2⟩ := he x hx
    exact ⟨L1, h1, tm_rt, fun _ => h2⟩) lo
  rw [List.filter_eq_self.mpr fun _ _ => rfl] at this
  exact this
theorem tm_lc2 {it it1 : M (List D)} {b b1 : Bd} {t t1 : M Bool} {e : M D} {vs vs1 : List Nat} {g : α → D} {g1 : β → D} {c : Cd γ} {xs : List α} {p : α → Bool} {ys : α → List β} {q : α → β → Bool} {f : α → β → γ} (hit : TM L it (xs.map g))
    (he : ∀ x ∈ xs, ∃ L1, TBd b (g x) (wipeE L vs) L1 ∧ TM L1 t (p x) ∧ (p x = true → TM L1 it1 ((ys x).map g1) ∧ ∀ y ∈ ys x, ∃ L2, TBd b1 (g1 y) (wipeE L1 vs1) L2 ∧ TM L2 t1 (q x y) ∧ (q x y = true → TM L2 e (c.enc (f x y)))))
    (lo : ((xs.filter p).flatMap fun x => ((ys x).filter (q x)).map (f x)).length ≤ 16777216) : TM L (mLc2 vs it b t vs1 it1 b1 t1 e) ((cL c).enc ((xs.filter p).flatMap fun x => ((ys x).filter (q x)).map (f x))) := fun s hs => by
  have key1 : ∀ (L1 : Env) (s1 : S) (x : α) (zs : List β), Fits L1 s1.r → (∀ y ∈ zs, ∃ L2, TBd b1 (g1 y) (wipeE L1 vs1) L2 ∧ TM L2 t1 (q x y) ∧ (q x y = true → TM L2 e (c.enc (f x y)))) → lcL b1 t1 e (wipeS s1 vs1) (zs.map g1) s1.c = .ok (((zs.filter (q x)).map (f x)).map c.enc) s1.c := fun L1 s1 x zs hs1 => by
    induction zs with
    | nil => intro _; rfl
    | cons y zs ih =>
      intro H
      obtain ⟨L2, h1, h2, h3⟩ := H y List.mem_cons_self
      have ih := ih fun z hz => H z (List.mem_cons_of_mem _ hz)
      obtain ⟨r, e1, hr⟩ := h1 (wipeS s1 vs1) (hs1.wipe vs1)
      rw [wipe_c] at e1
      have ew : (wipeS s1 vs1).wc s1.c = wipeS s1 vs1 := by rw [← wipe_c (s := s1) vs1]
      have e2 := h2 ⟨s1.c, r⟩ hr
      rw [List.map_cons]
      unfold lcL
      simp only [ew, e1, e2]
      cases hp : q x y with
      | false => simp only [ih, List.filter_cons, hp, Bool.false_eq_true, if_false]
      | true =>
        have e3 := h3 hp ⟨s1.c, r⟩ hr
        have ew2 : (⟨s1.c, r⟩ : S).wc s1.c = ⟨s1.c, r⟩ := rfl
        simp only [ew2, e3, ih, List.filter_cons, hp, if_true, List.map_cons]
  have key : ∀ (xs : List α), (∀ x ∈ xs, ∃ L1, TBd b (g x) (wipeE L vs) L1 ∧ TM L1 t (p x) ∧ (p x = true → TM L1 it1 ((ys x).map g1) ∧ ∀ y ∈ ys x, ∃ L2, TBd b1 (g1 y) (wipeE L1 vs1) L2 ∧ TM L2 t1 (q x y) ∧ (q x y = true → TM L2 e (c.enc (f x y))))) → lcL2 b t vs1 it1 b1 t1 e (wipeS s vs) (xs.map g) s.c = .ok (((xs.filter p).flatMap fun x => ((ys x).filter (q x)).map (f x)).map c.enc) s.c := fun xs => by
    induction xs with
    | nil => intro _; rfl
    | cons x xs ih =>
      intro H
      obtain ⟨L1, h1, h2, h3⟩ := H x List.mem_cons_self
      have ih := ih fun y hy => H y (List.mem_cons_of_mem _ hy)
      obtain ⟨r, e1, hr⟩ := h1 (wipeS s vs) (hs.wipe vs)
      rw [wipe_c] at e1
      have ew : (wipeS s vs).wc s.c = wipeS s vs := by rw [← wipe_c (s := s) vs]
      have e2 := h2 ⟨s.c, r⟩ hr
      rw [List.map_cons]
      unfold lcL2
      simp only [ew, e1, e2]
      cases hp : p x with
      | false => simp only [ih, List.filter_cons, hp, Bool.false_eq_true, if_false]
      | true =>
        obtain ⟨h4, h5⟩ := h3 hp
        have e3 := h4 ⟨s.c, r⟩ hr
        have e4 := key1 L1 ⟨s.c, r⟩ x (ys x) hr h5
        have ew2 : (⟨s.c, r⟩ : S).wc s.c = ⟨s.c, r⟩ := rfl
        simp only [ew2, e3, e4, ih, List.filter_cons, hp, if_true, List.flatMap_cons, List.map_append]
  have lo' : lenOk (((xs.filter p).flatMap fun x => ((ys x).filter (q x)).map (f x)).map c.enc) = true := lenOk_tt (by simpa only [List.length_map] using lo)
  have ew : s.wc s.c = s := rfl
  simp only [mLc_ap, mLc2_ap, bnd, hit s hs, ew, key xs he, lo', cL, if_true]
end
end Pu
end

noncomputable section
set_option Elab.async false
set_option linter.all false
set_option maxRecDepth 100000
set_option maxHeartbeats 2000000
/-! Pt2: the typed layer: what operations come to, statements, loops. -/
namespace Pu
open PySem PySem.Spec L2
/-! ### plain functions that the typed texts use -/
def iabs (x : Int) : Int := if x < 0 then -x else x
def irange (lo hi : Int) : List Int := (List.range (hi - lo).toNat).map fun (i : Nat) => lo + (i : Int)
def ixG {τ : Type} [Inhabited τ] (xs : List τ) (i : Int) : τ := (atI xs i).getD default
def IxOk {τ : Type} (xs : List τ) (i : Int) : Prop := (atI xs i).isSome = true
def cut {τ : Type} (xs : List τ) (lo hi : Option Int) : List τ := (xs.drop (HT.sIx xs.length 0 lo)).take (HT.sIx xs.length xs.length hi - HT.sIx xs.length 0 lo)
def enumI {τ : Type} (xs : List τ) : List (Int × τ) := (List.range xs.length).zipWith (fun (i : Nat) x => ((i : Int), x)) xs
def minI (xs : List Int) : Int := (leastI xs).getD 0
def maxI (xs : List Int) : Int := (mostI xs).getD 0
def rep {τ : Type} (l : List τ) (k : Int) : List τ := (List.replicate k.toNat l).flatten
@[irreducible] def srtC {τ : Type} (c : Cd τ) (xs : List τ) : List τ := xs.mergeSort fun a b => PySem.W.dataLe false id (c.enc a) (c.enc b)
theorem ixOk_nat {τ : Type} {xs : List τ} {i : Int} (h0 : 0 ≤ i) (h1 : i < xs.length) : IxOk xs i := by
  unfold IxOk; rw [atI_get h0 h1]; rfl
theorem ixG_nat {τ : Type} [Inhabited τ] {xs : List τ} {i : Int} (h0 : 0 ≤ i) (h1 : i < xs.length) : ixG xs i = xs[i.toNat]'(by omega) := by
  unfold ixG; rw [atI_get h0 h1]; rfl
theorem ixG_some {τ : Type} [Inhabited τ] {xs : List τ} {i : Int} (h : IxOk xs i) : atI xs i = some (ixG xs i) := by
  unfold IxOk at h
  unfold ixG
  cases e : atI xs i with
  | none => rw [e] at h; cases h
  | some x => rfl
theorem atI_mapG {α β : Type} (f : α → β) (xs : List α) (i : Int) : atI (xs.map f) i = (atI xs i).map f := by
  unfold atI
  rw [List.length_map]
  cases ixN xs.length i <;> simp
theorem mem_irange {lo hi x : Int} : x ∈ irange lo hi ↔ lo ≤ x ∧ x < hi := by
  unfold irange
  simp only [List.mem_map, List.mem_range]
  constructor
  · rintro ⟨i, h, rfl⟩; omega
  · rintro ⟨h1, h2⟩; exact ⟨(x - lo).toNat, by omega, by omega⟩
theorem irange_len (lo hi : Int) : (irange lo hi).length = (hi - lo).toNat := by simp [irange]
/-- one of a list -/
def inB {τ : Type} [DecidableEq τ] (x : τ) (xs : List τ) : Bool := decide (x ∈ xs)
theorem inB_iff {τ : Type} [DecidableEq τ] {x : τ} {xs : List τ} : inB x xs = true ↔ x ∈ xs := by simp [inB]
/-! ### operations -/
section
variable {α β τ : Type} {x y i j : Int} {l m : List Sg} {g : Sg} {c : Cd τ} {xs ys : List τ}
theorem o_addI : addD (cI.enc x) (cI.enc y) = some (cI.enc (x + y)) := rfl
theorem o_subI : subD (cI.enc x) (cI.enc y) = some (cI.enc (x - y)) := rfl
theorem o_mulI (h : -1000000000 < y ∧ y < 1000000000) : mulX (cI.enc x) (cI.enc y) = some (cI.enc (x * y)) := mul_ok h.1 h.2
theorem o_mulI' (h : -1000000000 < x ∧ x < 1000000000) : mulX (cI.enc x) (cI.enc y) = some (cI.enc (x * y)) := mul_ok' h.1 h.2
theorem o_mulT (h : 1 ≤ i ∧ i ≤ 1000 ∧ xs.length ≤ 1000) : mulX ((cT c).enc xs) (cI.enc i) = some ((cT c).enc (rep xs i)) := by
  have : mulX ((cT c).enc xs) (cI.enc i) = some (.tuple (List.replicate i.toNat (xs.map c.enc)).flatten) := if_pos (repX_i.mpr ⟨h.1, h.2.1, by simpa using h.2.2⟩)
  rw [this]
  show some (PyData.tuple _) = some (.tuple ((rep xs i).map c.enc))
  rw [rep, List.map_flatten, List.map_replicate]
theorem o_revL : revD ((cL c).enc xs) = some ((cL c).enc xs.reverse) := by
  show some (PyData.list _) = some (.list _)
  rw [List.map_reverse]
theorem o_revT : revD ((cT c).enc xs) = some ((cT c).enc xs.reverse) := by
  show some (PyData.tuple _) = some (.tuple _)
  rw [List.map_reverse]
theorem o_revS (h : l.length ≤ 16777216) : revD (cS.enc l) = some (cS.enc l.reverse) := by
  have e : revD (cS.enc l) = some (.str (revS (txS l))) := if_pos (leN_tt (by rw [txS_len]; exact h))
  rw [e]
  show some (PyData.str _) = some (.str _)
  have e2 : (txS l).cps.toList = l.map Sg.code := cps_txS l
  unfold revS
  rw [e2]
  unfold txS
  rw [List.map_reverse]
theorem o_fdivI (h : 0 < y ∧ y < 1073741824) : fdivD (cI.enc x) (cI.enc y) = some (cI.enc (x / y)) := fdivD_i _ _ h.1 h.2
theorem o_modI (h : 0 < y) : modD (cI.enc x) (cI.enc y) = some (cI.enc (x % y)) := modD_i _ _ h
theorem o_negI : negD (cI.enc x) = some (cI.enc (-x)) := rfl
theorem o_absI : absD (cI.enc x) = some (cI.enc (iabs x)) := rfl
theorem o_min2 : min2D (cI.enc x) (cI.enc y) = some (cI.enc (min x y)) := by
  show some (PyData.int (if y < x then y else x)) = some (.int (min x y))
  congr 2; split <;> omega
theorem o_max2 : max2D (cI.enc x) (cI.enc y) = some (cI.enc (max x y)) := by
  show some (PyData.int (if y > x then y else x)) = some (.int (max x y))
  congr 2; split <;> omega
theorem o_ltI : ltG (cI.enc x) (cI.enc y) = some (cB.enc (decide (x < y))) := rfl
theorem o_leI : leD (cI.enc x) (cI.enc y) = some (cB.enc (decide (x ≤ y))) := rfl
theorem o_ltID : ltD (cI.enc x) (cI.enc y) = some (cB.enc (decide (x < y))) := rfl
theorem o_gtID : gtD (cI.enc x) (cI.enc y) = some (cB.enc (decide (y < x))) := rfl
theorem o_gtI : gtG (cI.enc x) (cI.enc y) = some (cB.enc (decide (y < x))) := rfl
theorem o_geI : geD (cI.enc x) (cI.enc y) = some (cB.enc (decide (y ≤ x))) := rfl
theorem o_intI : intD (cI.enc x) = some (cI.enc x) := rfl
def isNon : D → Bool
  | .none => true
  | _ => false
theorem isNon_iff {d : D} : isNon d = true ↔ PyData.eqv d .none = true := by cases d <;> simp [isNon, PyData.eqv]
theorem isNon_nn {n : NN c} {x : τ} : isNon (c.enc x) = false := by
  cases e : isNon (c.enc x) with
  | false => rfl
  | true => have := isNon_iff.mp e; rw [(n x).1] at this; cases this
theorem isD_non (d : D) : isD d .none = some (.bool (isNon d)) := by cases d <;> rfl
theorem isnD_non (d : D) : isnD d .none = some (.bool (!isNon d)) := by cases d <;> rfl
theorem o_isN {n : NN c} {o : Option τ} : isD ((cO c n).enc o) .none = some (cB.enc o.isNone) := by
  rw [isD_non]
  cases o with
  | none => rfl
  | some x => show some (PyData.bool (isNon (c.enc x))) = _; rw [isNon_nn (n := n)]; rfl
theorem o_isnN {n : NN c} {o : Option τ} : isnD ((cO c n).enc o) .none = some (cB.enc o.isSome) := by
  rw [isnD_non]
  cases o with
  | none => rfl
  | some x => show some (PyData.bool (!isNon (c.enc x))) = _; rw [isNon_nn (n := n)]; rfl
theorem o_ixL [Inhabited τ] (h : IxOk xs i) : ixD ((cL c).enc xs) (cI.enc i) = some (c.enc (ixG xs i)) := by
  show atI (xs.map c.enc) i = _
  rw [atI_mapG, ixG_some h]; rfl
theorem o_ixT [Inhabited τ] (h : IxOk xs i) : ixD ((cT c).enc xs) (cI.enc i) = some (c.enc (ixG xs i)) := by
  show atI (xs.map c.enc) i = _
  rw [atI_mapG, ixG_some h]; rfl
theorem o_ixS (h : IxOk l i ∧ l.length ≤ 16777216) : ixD (cS.enc l) (cI.enc i) = some (cG.enc (ixG l i)) := by
  have := ixD_s i (txS l) (leN_tt (by rw [txS_len]; exact h.2))
  rw [show ixD (cS.enc l) (cI.enc i) = ixD (.str (txS l)) (.int i) from rfl, this, cps_txS, atI_mapG, ixG_some h.1]
  rfl
theorem o_lenL : lenD ((cL c).enc xs) = some (cI.enc (xs.length : Int)) := by
  show some (PyData.int ((xs.map c.enc).length : Int)) = _
  rw [List.length_map]; rfl
theorem o_lenT : lenD ((cT c).enc xs) = some (cI.enc (xs.length : Int)) := by
  show some (PyData.int ((xs.map c.enc).length : Int)) = _
  rw [List.length_map]; rfl
theorem o_lenS (h : l.length ≤ 16777216) : lenD (cS.enc l) = some (cI.enc (l.length : Int)) := by
  have := lenD_s (txS l) (leN_tt (by rw [txS_len]; exact h))
  rw [show lenD (cS.enc l) = lenD (.str (txS l)) from rfl, this, txS_len]; rfl
theorem o_addS (h : l.length + m.length ≤ 16777216) : addD (cS.enc l) (cS.enc m) = some (cS.enc (l ++ m)) := by
  have := addD_s (txS l) (txS m) (leN_tt (by rw [txS_len, txS_len]; exact h))
  rw [txS_app] at this
  exact this
theorem o_addL (h : xs.length + ys.length ≤ 16777216) : addD ((cL c).enc xs) ((cL c).enc ys) = some ((cL c).enc (xs ++ ys)) := by
  have := addD_l (xs.map c.enc) (ys.map c.enc) (leN_tt (by simpa using h))
  rw [← List.map_append] at this
  exact this
theorem o_addT (h : xs.length + ys.length ≤ 16777216) : addD ((cT c).enc xs) ((cT c).enc ys) = some ((cT c).enc (xs ++ ys)) := by
  have := addD_t (xs.map c.enc) (ys.map c.enc) (leN_tt (by simpa using h))
  rw [← List.map_append] at this
  exact this
theorem o_sumL {xs : List Int} : sumD ((cL cI).enc xs) = some (cI.enc xs.sum) := by
  show (intsD (xs.map PyData.int)).map _ = _
  have := intsD_map (fun x : Int => x) xs
  rw [List.map_id'] at this
  rw [this]; rfl
theorem boolsD_enc {xs : List Bool} : boolsD (xs.map cB.enc) = some xs := by
  have := boolsD_map (fun x : Bool => x) xs
  rw [List.map_id'] at this
  exact this
theorem o_allL {xs : List Bool} : allD ((cL cB).enc xs) = some (cB.enc (xs.all id)) := by
  show (boolsD (xs.map cB.enc)).map _ = _
  rw [boolsD_enc]; rfl
theorem o_anyL {xs : List Bool} : anyD ((cL cB).enc xs) = some (cB.enc (xs.any id)) := by
  show (boolsD (xs.map cB.enc)).map _ = _
  rw [boolsD_enc]; rfl
theorem intsD_enc {xs : List Int} : intsD (xs.map cI.enc) = some xs := by
  have := intsD_map (fun x : Int => x) xs
  rw [List.map_id'] at this
  exact this
theorem o_tup : tupD ((cL c).enc xs) = some ((cT c).enc xs) := rfl
theorem o_tupT : tupD ((cT c).enc xs) = some ((cT c).enc xs) := rfl
theorem o_listT : listD ((cT c).enc xs) = some ((cL c).enc xs) := rfl
theorem o_listL : listD ((cL c).enc xs) = some ((cL c).enc xs) := rfl
theorem o_wg {w : List (Str × Int)} (f : Sg → Int) (h : ∀ g, w.lookup (txS [g]) = some (f g)) : wgD w (cG.enc g) = some (cI.enc (f g)) := by
  show (w.lookup (txS [g])).map PyData.int = _
  rw [h]; rfl
theorem o_wIn {w : List (Str × Int)} (h : ∀ g, (w.lookup (txS [g])).isSome = true) : wInD w (cG.enc g) = some (cB.enc true) := if_pos (h g)
theorem o_lit {w : List (Str × Int)} (f : Sg → Int) (h : ∀ g, w.lookup (txS [g]) = some (f g)) : dgD (litD w) (cG.enc g) = some (cI.enc (f g)) := by
  show dgD (litD w) (.str (txS [g])) = _
  rw [dgD_lit, h]; rfl
theorem o_iterL : iterD ((cL c).enc xs) = some (xs.map c.enc) := rfl
theorem o_iterT : iterD ((cT c).enc xs) = some (xs.map c.enc) := rfl
theorem o_iterS : iterD (cS.enc l) = some (l.map cG.enc) := by
  have : iterD (cS.enc l) = some ((cps (txS l)).map fun c => PyData.str ⟨#[c]⟩) := rfl
  rw [this, cps_txS, List.map_map]; rfl
theorem ints2_irange (lo : Int) (n : Nat) (hi : Int) (h : n = (hi - lo).toNat) : ints2 lo n = (irange lo hi).map cI.enc := by
  subst h
  simp [ints2, irange, cI]
theorem o_rng1 (h : -100000000 < x ∧ x < 100000000) : rng1D (cI.enc x) = some ((irange 0 x).map cI.enc) := by
  have := rng1D_i x (okR_tt (by omega) (by omega))
  rw [show rng1D (cI.enc x) = rng1D (.int x) from rfl, this, ints2_irange 0 _ x (by omega)]
theorem o_rng2 (h : (-100000000 < x ∧ x < 100000000) ∧ -100000000 < y ∧ y < 100000000) : rng2D (cI.enc x) (cI.enc y) = some ((irange x y).map cI.enc) := by
  have := rng2D_i x y (by rw [okR_tt (by omega) (by omega), okR_tt (by omega) (by omega)]; rfl)
  rw [show rng2D (cI.enc x) (cI.enc y) = rng2D (.int x) (.int y) from rfl, this, ints2_irange x _ y (by omega)]
theorem zipL_enc {a : Cd α} {b : Cd β} : ∀ (xs : List α) (ys : List β), zipL (xs.map a.enc) (ys.map b.enc) = (xs.zip ys).map (cP2 a b).enc
  | [], _ => rfl
  | _ :: _, [] => rfl
  | x :: xs, y :: ys => by
    have := zipL_enc (a := a) (b := b) xs ys
    simp only [zipL] at this
    simp [zipL, this, cP2]
theorem o_zipL {a : Cd α} {b : Cd β} {xs : List α} {ys : List β} : zipD [(cL a).enc xs, (cL b).enc ys] = some ((xs.zip ys).map (cP2 a b).enc) := by
  rw [← zipL_enc]; rfl
theorem o_zipT {a : Cd α} {b : Cd β} {xs : List α} {ys : List β} : zipD [(cT a).enc xs, (cT b).enc ys] = some ((xs.zip ys).map (cP2 a b).enc) := by
  rw [← zipL_enc]; rfl
theorem o_enumL : enumD [(cL c).enc xs] = some ((enumI xs).map (cP2 cI c).enc) := by
  show some (enumL (xs.map c.enc)) = _
  unfold enumL enumI
  rw [List.map_zipWith, List.length_map, List.zipWith_map_right]; rfl
theorem o_slL {u v : Option Int} : slD ((cL c).enc xs) u v = some ((cL c).enc (cut xs u v)) := by
  show some (PyData.list (cutD (xs.map c.enc) u v)) = _
  simp only [cutD, List.length_map, cut, cL, List.map_take, List.map_drop]
theorem o_slT {u v : Option Int} : slD ((cT c).enc xs) u v = some ((cT c).enc (cut xs u v)) := by
  show some (PyData.tuple (cutD (xs.map c.enc) u v)) = _
  simp only [cutD, List.length_map, cut, cT, List.map_take, List.map_drop]
theorem o_joinL {xs : List (List Sg)} (h : (xs.map List.length).sum ≤ 16777216) : joinD (.str "") ((cL cS).enc xs) = some (cS.enc xs.flatten) := by
  have e1 : ∀ ys : List (List Sg), strsD (ys.map cS.enc) = some (ys.map txS) := fun ys => by
    induction ys with
    | nil => rfl
    | cons y ys ih => show (strsD (ys.map cS.enc)).map (txS y :: ·) = _; rw [ih]; rfl
  have e2 : ∀ ys : List (List Nat), TL.joinL [] ys = ys.flatten := fun ys => by
    induction ys with
    | nil => rfl
    | cons p r ih => cases r with
      | nil => simp [TL.joinL]
      | cons q r => simp [TL.joinL] at ih ⊢; rw [ih]
  have e3 : Txt.join "" (xs.map txS) = txS xs.flatten := by
    have := SX.join_S [] (xs.map fun l => l.map Sg.code)
    rw [e2] at this
    simp only [List.map_map] at this
    have e4 : (xs.map fun l => l.map Sg.code).flatten = xs.flatten.map Sg.code := by rw [List.map_flatten]
    rw [e4] at this
    exact this
  have jn : joinN "" (xs.map txS) = true := leN_tt (by
    have : (xs.map txS).map (·.length) = xs.map List.length := by
      rw [List.map_map]; apply List.map_congr_left; intro l _; exact txS_len l
    rw [this]
    have h0 : ("" : Str).length = 0 := rfl
    rw [h0]; omega)
  show (match strsD (xs.map cS.enc) with
    | some ys => if joinN "" ys = true then some (PyData.str (Txt.join "" ys)) else none
    | none => none) = _
  rw [e1]
  simp only [jn, if_true, e3]
  rfl
theorem o_joinG {l : List Sg} (h : l.length ≤ 16777216) : joinD (.str "") ((cL cG).enc l) = some (cS.enc l) := by
  have := o_joinL (xs := l.map fun g => [g]) (by
    have : (l.map fun g => [g]).map List.length = l.map fun _ => 1 := by rw [List.map_map]; rfl
    rw [this, List.map_const']
    simp; exact h)
  have e1 : (cL cS).enc (l.map fun g => [g]) = (cL cG).enc l := by
    show PyData.list ((l.map fun g => [g]).map cS.enc) = .list (l.map cG.enc)
    rw [List.map_map]; rfl
  have e3 : ∀ l : List Sg, (l.map fun g => [g]).flatten = l := fun l => by
    induction l with
    | nil => rfl
    | cons a l ih => rw [List.map_cons, List.flatten_cons, ih]; rfl
  have e2 := e3 l
  rw [e1, e2] at this
  exact this
theorem o_mulS (h : l.length ≤ 1000 ∧ -1000000 ≤ i ∧ i ≤ 1000) : mulX (cS.enc l) (cI.enc i) = some (cS.enc (rep l i)) := by
  have e : mulX (cS.enc l) (cI.enc i) = some (.str (repS (txS l) i)) := if_pos (repOk_i.mpr ⟨h.2.1, h.2.2, by rw [txS_len]; exact h.1⟩)
  rw [e]
  by_cases h1 : i < 1
  · have e0 : i.toNat = 0 := by omega
    have : repS (txS l) i = Str.empty := if_pos h1
    rw [this, rep, e0]; rfl
  · rw [repS_cps _ h1]
    have e2 : (txS l).cps.toList = l.map Sg.code := cps_txS l
    rw [e2]
    show some (PyData.str _) = some (.str (txS (rep l i)))
    unfold txS rep
    rw [List.map_flatten, List.map_replicate]
theorem o_slS {u v : Option Int} (h : l.length ≤ 16777216) : slD (cS.enc l) u v = some (cS.enc (cut l u v)) := by
  have e : slD (cS.enc l) u v = some (.str (cutS (txS l) u v)) := if_pos (leN_tt (by rw [txS_len]; exact h))
  rw [e]
  show some (PyData.str (cutS (txS l) u v)) = some (.str (txS (cut l u v)))
  unfold cutS
  have e2 : (txS l).cps.toList = l.map Sg.code := cps_txS l
  rw [e2, txS_len]
  unfold txS cut
  rw [List.map_take, List.map_drop]
theorem o_inS : inD (cG.enc g) (cS.enc l) = some (cB.enc (decide (g ∈ l))) := by
  have e : inDb (cG.enc g) (cS.enc l) = some (decide (g.code ∈ cps (txS l))) := rfl
  rw [inD_ap, e, cps_txS]
  show some (PyData.bool _) = some (.bool _)
  congr 2
  apply decide_eq_decide.mpr
  simp only [List.mem_map, code_inj, exists_eq_right]
theorem inDb_L {d : D} {ds : List D} (h1 : SeqAt.shaped d = true) (h2 : SeqAt.shaped (.list ds) = true) : inDb d (.list ds) = some (ds.any fun z => PyData.eqv z d) := by
  cases d <;> simp [inDb, h1, h2]
theorem any_enc [DecidableEq τ] (hd : c.dp ≤ 99) (x : τ) : ∀ xs : List τ, (xs.map c.enc).any (fun z => PyData.eqv z (c.enc x)) = decide (x ∈ xs)
  | [] => by simp
  | y :: ys => by
    have ih := any_enc hd x ys
    rw [List.map_cons, List.any_cons, ih, eqv_cd c hd]
    simp [List.mem_cons, eq_comm]
theorem o_inL [DecidableEq τ] {x : τ} (h : c.dp ≤ 63 := by decide) : inD (c.enc x) ((cL c).enc xs) = some (cB.enc (inB x xs)) := by
  have e := inDb_L (shaped_cd c (by omega) x) (shaped_cd (cL c) (by show c.dp + 1 ≤ 64; omega) xs)
  have e : inDb (c.enc x) ((cL c).enc xs) = _ := e
  rw [inD_ap, e, any_enc (by omega)]; rfl
theorem o_ninL [DecidableEq τ] {x : τ} (h : c.dp ≤ 63 := by decide) : ninD (c.enc x) ((cL c).enc xs) = some (cB.enc (!inB x xs)) := by
  have e := inDb_L (shaped_cd c (by omega) x) (shaped_cd (cL c) (by show c.dp + 1 ≤ 64; omega) xs)
  have e : inDb (c.enc x) ((cL c).enc xs) = _ := e
  rw [ninD_ap, e, any_enc (by omega)]; rfl
end
/-! ### statements -/
def TX (L : Env) (m : MS) (P : Int × Int → RS → Prop) : Prop := ∀ s, Fits L s.r → P s.c (m s)
def PN (L' : Env) (c : Int × Int) (x : RS) : Prop := ∃ r, x = .next ⟨c, r⟩ ∧ Fits L' r
def PR (d : D) (c : Int × Int) (x : RS) : Prop := x = .ret d c
abbrev TN (L : Env) (m : MS) (L' : Env) : Prop := TX L m (PN L')
abbrev TR (L : Env) (m : MS) (d : D) : Prop := TX L m (PR d)
section
variable {L L0 L1 L2 : Env} {α β τ σ : Type} {P : Int × Int → RS → Prop} {m a b : MS} {c : Cd τ}
theorem tx_wk (w : Wk L L0) (h : TX L0 m P) : TX L m P := fun s hs => h s (w.fits hs)
theorem tn_wk (h : TN L m L1) (w : Wk L1 L2) : TN L m L2 := fun s hs => by
  obtain ⟨r, e, hr⟩ := h s hs
  exact ⟨r, e, w.fits hr⟩
theorem tx_seq (ha : TN L a L1) (hb : TX L1 b P) : TX L (mSeq a b) P := fun s hs => by
  obtain ⟨r, e, hr⟩ := ha s hs
  have := hb ⟨s.c, r⟩ hr
  unfold mSeq
  rw [e]
  exact this
theorem tn_next : TN L mNext L := fun s hs => ⟨s.r, rfl, hs⟩
theorem tn_set (i : Nat) {e : M D} {d : D} {t : Sl} (h : TM L e d) (ht : slF d = t) : TN L (mSetF i e) (L.set i (.at t)) := fun s hs => by
  refine ⟨s.r.set i t, ?_, hs.set i rfl⟩
  simp [mSetF, h s hs, ht]
theorem tn_setL (i : Nat) {e : M D} {xs : List τ} (h : TM L e ((cL c).enc xs)) : TN L (mSetF i e) (L.set i (.at (.ow (xs.map c.enc)))) := tn_set i h rfl
theorem tn_setE (i : Nat) {e : M D} {d : D} (h : TM L e d) : TN L (mSetE i e) (L.set i (.at (.fz d))) := fun s hs => by
  refine ⟨s.r.set i (.fz d), ?_, hs.set i rfl⟩
  simp [mSetE, h s hs]
def ScF (c : Cd τ) : Prop := ∀ x, slF (c.enc x) = .fz (c.enc x)
theorem sI : ScF cI := fun _ => rfl
theorem sB : ScF cB := fun _ => rfl
theorem sS : ScF cS := fun _ => rfl
theorem sG : ScF cG := fun _ => rfl
theorem sU : ScF cU := fun _ => rfl
theorem sT : ScF (cT c) := fun _ => rfl
theorem sP1 {a : Cd α} : ScF (cP1 a) := fun _ => rfl
theorem sP2 {a : Cd α} {b : Cd β} : ScF (cP2 a b) := fun _ => rfl
theorem sP3 {a : Cd α} {b : Cd β} : ScF (cP3 a b c) := fun _ => rfl
theorem sP4 {a : Cd α} {b : Cd β} {d : Cd σ} : ScF (cP4 a b c d) := fun _ => rfl
theorem sO {n : NN c} (h : ScF c) : ScF (cO c n) := fun x => by
  cases x with
  | none => rfl
  | some x => exact h x
theorem tn_setF (i : Nat) {e : M D} {x : τ} (h : TM L e (c.enc x)) (ht : ScF c) : TN L (mSetF i e) (L.set i (.at (.fz (c.enc x)))) := tn_set i h (ht x)
theorem tn_drop {e : M D} {d : D} (h : TM L e d) : TN L (mDrop e) L := fun s hs => ⟨s.r, by simp [mDrop, h s hs], hs⟩
theorem tr_ret {e : M D} {d : D} (h : TM L e d) : TR L (mRet e) d := fun s hs => by
  show mRet e s = _
  simp [mRet, h s hs]
theorem tr_retN : TR L mRetN (cU.enc ()) := fun s hs => rfl
theorem tx_if {t : M Bool} {p : Bool} (ht : TM L t p) (ha : p = true → TX L a P) (hb : p = false → TX L b P) : TX L (mIfS t a b) P := fun s hs => by
  have e : (s.wc s.c) = s := rfl
  cases p with
  | true => simpa [ht s hs, e] using ha rfl s hs
  | false => simpa [ht s hs, e] using hb rfl s hs
theorem tn_if {t : M Bool} {p : Bool} (Ls : σ → Env) {v1 v2 : σ} (ht : TM L t p) (ha : p = true → TN L a (Ls v1)) (hb : p = false → TN L b (Ls v2)) : TN L (mIfS t a b) (Ls (if p = true then v1 else v2)) := by
  cases p with
  | true => exact tx_if ht (fun _ => ha rfl) (fun h => by cases h)
  | false => exact tx_if ht (fun h => by cases h) (fun _ => hb rfl)
theorem tr_if {t : M Bool} {p : Bool} {x y : τ} (ht : TM L t p) (ha : p = true → TR L a (c.enc x)) (hb : p = false → TR L b (c.enc y)) : TR L (mIfS t a b) (c.enc (if p = true then x else y)) := by
  cases p with
  | true => exact tx_if ht (fun _ => ha rfl) (fun h => by cases h)
  | false => exact tx_if ht (fun h => by cases h) (fun _ => hb rfl)
theorem tr_ifs {t : M Bool} {p : Bool} {x y : τ} (ht : TM L t p) (ha : p = true → TR L a (c.enc x)) (hb : p = false → TR L b (c.enc y)) : TR L (mSeq (mIfS t a mNext) b) (c.enc (if p = true then x else y)) := fun s hs => by
  have e : (s.wc s.c) = s := rfl
  cases p with
  | true =>
    have h : a s = .ret (c.enc x) s.c := ha rfl s hs
    show mSeq _ _ s = .ret (c.enc x) s.c
    simp [mSeq, ht s hs, e, h]
  | false =>
    have h : b s = .ret (c.enc y) s.c := hb rfl s hs
    show mSeq _ _ s = .ret (c.enc y) s.c
    simp [mSeq, ht s hs, e, h, mNext]
theorem tn_no {t : M Bool} {p : Bool} (ht : TM L t p) (hp : p = false) : TN L (mIfS t mNo mNext) L := tx_if ht (fun h => by rw [hp] at h; cases h) (fun _ => tn_next)
theorem tn_app (i : Nat) {e : M D} {x : τ} {xs : List τ} (h : TM L e (c.enc x)) (lo : xs.length < 16777216) (hi : L[i]? = some (.at (.ow (xs.map c.enc))) := by rfl) : TN L (mApp i e) (L.set i (.at (.ow ((xs ++ [x]).map c.enc)))) := fun s hs => by
  obtain ⟨u, h1, h2⟩ := hs.get i hi
  subst h2
  have lo' : ltN (xs.map c.enc).length = true := ltN_tt (by simpa using lo)
  refine ⟨s.r.set i (.ow ((xs ++ [x]).map c.enc)), ?_, hs.set i rfl⟩
  simp only [mApp_ap, h1, h s hs, mErr_ok, lo', if_true, List.map_append, List.map_cons, List.map_nil]
theorem tn_ext (i : Nat) {e : M D} {xs ys : List τ} (h : TM L e ((cL c).enc ys)) (lo : xs.length + ys.length ≤ 16777216) (hi : L[i]? = some (.at (.ow (xs.map c.enc))) := by rfl) : TN L (mExt i e) (L.set i (.at (.ow ((xs ++ ys).map c.enc)))) := fun s hs => by
  obtain ⟨u, h1, h2⟩ := hs.get i hi
  subst h2
  have lo' : leN ((xs.map c.enc).length + (ys.map c.enc).length) = true := leN_tt (by simpa using lo)
  refine ⟨s.r.set i (.ow ((xs ++ ys).map c.enc)), ?_, hs.set i rfl⟩
  have e : (cL c).enc ys = .list (ys.map c.enc) := rfl
  simp only [mExt_ap, h1, h s hs, mErr_ok, e, lo', if_true, List.map_append]
theorem tn_augI (i : Nat) {e : M D} {x y : Int} (h : TM L e (cI.enc y)) (hi : L[i]? = some (.at (.fz (cI.enc x))) := by rfl) : TN L (mAug i addI e) (L.set i (.at (.fz (cI.enc (x + y))))) := fun s hs => by
  obtain ⟨u, h1, h2⟩ := hs.get i hi
  subst h2
  refine ⟨s.r.set i (.fz (cI.enc (x + y))), ?_, hs.set i rfl⟩
  simp [h1, h s hs, cI]
theorem modify_set {f : Sl → Sl} {r : List Sl} {i : Nat} {t : Sl} (h : r[i]? = some t) : r.modify i f = r.set i (f t) := by
  apply List.ext_getElem?
  intro j
  rw [List.getElem?_modify, List.getElem?_set]
  by_cases e : i = j
  · subst e
    obtain ⟨h1, h2⟩ := List.getElem?_eq_some_iff.mp h
    simp [h1, h2]
  · simp [e]
theorem tx_frO (i : Nat) {xs : List τ} (h : TX (L.set i (.at (.fz ((cL c).enc xs)))) m P) (hi : L[i]? = some (.at (.ow (xs.map c.enc))) := by rfl) : TX L (mFrz i m) P := fun s hs => by
  obtain ⟨u, h1, h2⟩ := hs.get i hi
  subst h2
  refine h (s.frz i) ?_
  have : (s.frz i).r = s.r.set i (.fz ((cL c).enc xs)) := by
    show s.r.modify i frzSl = _
    rw [modify_set h1]; rfl
  rw [this]
  exact hs.set i rfl
theorem tx_frL (i : Nat) {xs : List τ} (h : TX (L.set i (.at (.fz ((cL c).enc xs)))) m P) (hi : L[i]? = some (.li (xs.map c.enc)) := by rfl) : TX L (mFrz i m) P := fun s hs => by
  obtain ⟨u, h1, h2⟩ := hs.get i hi
  refine h (s.frz i) ?_
  have : (s.frz i).r = s.r.set i (.fz ((cL c).enc xs)) := by
    show s.r.modify i frzSl = _
    rw [modify_set h1]
    rcases h2 with rfl | rfl <;> rfl
  rw [this]
  exact hs.set i rfl
theorem Fits.len : ∀ {L : Env} {r : List Sl}, Fits L r → L.length = r.length
  | [], [], _ => rfl
  | [], _ :: _, h => h.elim
  | _ :: _, [], h => h.elim
  | _ :: _, _ :: _, h => by simp [Fits.len h.2]
theorem tx_frN (i : Nat) {d : D} (h : TX L m P) (hi : L[i]? = some (.at (.fz d)) := by rfl) : TX L (mFrz i m) P := fun s hs => by
  obtain ⟨u, h1, h2⟩ := hs.get i hi
  subst h2
  have : s.frz i = s := by
    show ({ s with r := s.r.modify i frzSl } : S) = s
    rw [modify_set h1]
    have hl := (List.getElem?_eq_some_iff.mp h1)
    obtain ⟨hl, e⟩ := hl
    have : s.r.set i (.fz d) = s.r := by rw [← e]; exact List.set_getElem_self _
    show ({ s with r := s.r.set i (.fz d) } : S) = s
    rw [this]
  show P s.c (m (s.frz i))
  rw [this]
  exact h s hs
theorem tx_frA (i : Nat) (h : TX L m P) (hi : L[i]? = some .no := by rfl) : TX L (mFrz i m) P := fun s hs => by
  obtain ⟨u, h1, h2⟩ := hs.get i hi
  refine h (s.frz i) ?_
  have e1 : (s.frz i).r = s.r.set i (frzSl u) := by
    show s.r.modify i frzSl = _
    rw [modify_set h1]
  have e2 : L.set i .no = L := by
    obtain ⟨hl, e⟩ := List.getElem?_eq_some_iff.mp hi
    conv => lhs; rw [← e]
    exact List.set_getElem_self _
  rw [e1, ← e2]
  exact hs.set i trivial
theorem tn_par (i j : Nat) {e f : M D} {d1 d2 : D} {t1 t2 : Sl} (h1 : TM L e d1) (h2 : TM L f d2) (ht1 : slF d1 = t1) (ht2 : slF d2 = t2) : TN L (mPar i j e f) ((L.set i (.at t1)).set j (.at t2)) := fun s hs => by
  refine ⟨(s.r.set i t1).set j t2, ?_, (hs.set i (a := .at t1) rfl).set j (a := .at t2) rfl⟩
  have e0 : s.wc s.c = s := rfl
  simp [h1 s hs, e0, h2 s hs, ht1, ht2]
theorem tn_parEF (i j : Nat) {e f : M D} {d1 d2 : D} {t2 : Sl} (h1 : TM L e d1) (h2 : TM L f d2) (ht2 : slF d2 = t2) : TN L (mParEF i j e f) ((L.set i (.at (.fz d1))).set j (.at t2)) := fun s hs => by
  refine ⟨(s.r.set i (.fz d1)).set j t2, ?_, (hs.set i (a := .at (.fz d1)) rfl).set j (a := .at t2) rfl⟩
  have e0 : s.wc s.c = s := rfl
  simp [h1 s hs, e0, h2 s hs, ht2]
theorem tn_parFE (i j : Nat) {e f : M D} {d1 d2 : D} {t1 : Sl} (h1 : TM L e d1) (h2 : TM L f d2) (ht1 : slF d1 = t1) : TN L (mParFE i j e f) ((L.set i (.at t1)).set j (.at (.fz d2))) := fun s hs => by
  refine ⟨(s.r.set i t1).set j (.fz d2), ?_, (hs.set i (a := .at t1) rfl).set j (a := .at (.fz d2)) rfl⟩
  have e0 : s.wc s.c = s := rfl
  simp [h1 s hs, e0, h2 s hs, ht1]
theorem tn_parE (i j : Nat) {e : M (List D)} {d1 d2 : D} (h : TM L e [d1, d2]) : TN L (mParE i j e) ((L.set i (.at (.fz d1))).set j (.at (.fz d2))) := fun s hs => by
  refine ⟨(s.r.set i (.fz d1)).set j (.fz d2), ?_, (hs.set i (a := .at (.fz d1)) rfl).set j (a := .at (.fz d2)) rfl⟩
  simp [h s hs]
theorem tn_parE3 (i j k : Nat) {e : M (List D)} {d1 d2 d3 : D} (h : TM L e [d1, d2, d3]) : TN L (mParE3 i j k e) (((L.set i (.at (.fz d1))).set j (.at (.fz d2))).set k (.at (.fz d3))) := fun s hs => by
  refine ⟨((s.r.set i (.fz d1)).set j (.fz d2)).set k (.fz d3), ?_, ((hs.set i (a := .at (.fz d1)) rfl).set j (a := .at (.fz d2)) rfl).set k (a := .at (.fz d3)) rfl⟩
  simp [h s hs]
theorem tn_bind {bd : Bd} {e : M D} {d : D} (h : TM L e d) (hb : TBd bd d L L1) : TN L (mBind bd e) L1 := fun s hs => by
  obtain ⟨r, e1, hr⟩ := hb s hs
  have e0 : s.wc s.c = s := rfl
  exact ⟨r, by simp [h s hs, e0, e1], hr⟩
/-! ### loops -/
def FoldOk (ok : σ → α → Prop) (step : σ → α → σ) : σ → List α → Prop
  | _, [] => True
  | st, x :: xs => ok st x ∧ FoldOk ok step (step st x) xs
theorem tn_for {bd : Bd} {it : M (List D)} {body : MS} {g : α → D} {xs : List α} (Ls : σ → Env) {st0 : σ} (ok : σ → α → Prop) (step : σ → α → σ) (hit : TM L it (xs.map g)) (h0 : Wk L (Ls st0))
    (hb : ∀ st x, ok st x → ∃ L1, TBd bd (g x) (Ls st) L1 ∧ ∃ L2, TN L1 body L2 ∧ Wk L2 (Ls (step st x))) (hok : FoldOk ok step st0 xs) : TN L (mFor bd it body) (Ls (xs.foldl step st0)) := fun s hs => by
  have key : ∀ (xs : List α) (st : σ) (s : S), Fits (Ls st) s.r → FoldOk ok step st xs → ∃ r, loopL bd body (xs.map g) s = .next ⟨s.c, r⟩ ∧ Fits (Ls (xs.foldl step st)) r := fun xs => by
    induction xs with
    | nil => intro st s h _; exact ⟨s.r, rfl, h⟩
    | cons x xs ih =>
      intro st s h ⟨h1, h2⟩
      obtain ⟨L1, hb1, L2, hb2, hw⟩ := hb st x h1
      obtain ⟨r1, e1, hr1⟩ := hb1 s h
      obtain ⟨r2, e2, hr2⟩ := hb2 ⟨s.c, r1⟩ hr1
      obtain ⟨r3, e3, hr3⟩ := ih (step st x) ⟨s.c, r2⟩ (hw.fits hr2) h2
      refine ⟨r3, ?_, hr3⟩
      rw [List.map_cons]
      unfold loopL
      rw [e1]
      simp only [e2]
      exact e3
  obtain ⟨r, e, hr⟩ := key xs st0 s (h0.fits hs) hok
  have e0 : s.wc s.c = s := rfl
  exact ⟨r, by simp [hit s hs, e0, e], hr⟩
@[irreducible] def whl (cond : σ → Bool) (step : σ → σ) : Nat → σ → σ
  | 0, st => st
  | n + 1, st => if cond st = true then whl cond step n (step st) else st
def WhOk (cond : σ → Bool) (okc ok : σ → Prop) (step : σ → σ) : Nat → σ → Prop
  | 0, _ => False
  | n + 1, st => okc st ∧ (cond st = true → ok st ∧ WhOk cond okc ok step n (step st))
theorem tn_while {t : M Bool} {body : MS} {n : Nat} (Ls : σ → Env) {st0 : σ} (cond : σ → Bool) (okc ok : σ → Prop) (step : σ → σ) (h0 : Wk L (Ls st0)) (hc : ∀ st, okc st → TM (Ls st) t (cond st))
    (hb : ∀ st, cond st = true → ok st → ∃ L2, TN (Ls st) body L2 ∧ Wk L2 (Ls (step st))) (hok : WhOk cond okc ok step n st0) : TN L (mWhile n t body) (Ls (whl cond step n st0)) := fun s hs => by
  have key : ∀ (n : Nat) (st : σ) (s : S), Fits (Ls st) s.r → WhOk cond okc ok step n st → ∃ r, mWhile n t body s = .next ⟨s.c, r⟩ ∧ Fits (Ls (whl cond step n st)) r := fun n => by
    induction n with
    | zero => intro st s _ h; exact h.elim
    | succ n ih =>
      intro st s h ⟨h1, h2⟩
      have e0 : s.wc s.c = s := rfl
      rw [mWhile_succ, hc st h1 s h]
      cases e : cond st with
      | false =>
        refine ⟨s.r, rfl, ?_⟩
        simp [whl, e]; exact h
      | true =>
        obtain ⟨h3, h4⟩ := h2 e
        obtain ⟨L2, hb2, hw⟩ := hb st e h3
        obtain ⟨r2, e2, hr2⟩ := hb2 s h
        obtain ⟨r3, e3, hr3⟩ := ih (step st) ⟨s.c, r2⟩ (hw.fits hr2) h4
        refine ⟨r3, ?_, by simp [whl, e]; exact hr3⟩
        simp only [mErr_ok, e0, e2]
        exact e3
  exact key n st0 s (h0.fits hs) hok
/-! ### whole defs -/
theorem fin_tr {r : List Sl} {d : D} (h : TR L m d) (hf : Fits L r) : fin (m ⟨(0, 0), r⟩) = .ok d := by
  have : m ⟨(0, 0), r⟩ = .ret d (0, 0) := h ⟨(0, 0), r⟩ hf
  rw [this]; rfl
theorem fin_tn {r : List Sl} (h : TN L m L1) (hf : Fits L r) : fin (m ⟨(0, 0), r⟩) = .ok (cU.enc ()) := by
  obtain ⟨r', e, _⟩ := h ⟨(0, 0), r⟩ hf
  rw [e]; rfl
end
end Pu
end

noncomputable section
set_option Elab.async false
set_option linter.all false
set_option maxRecDepth 100000
set_option maxHeartbeats 2000000
/-! PtO: the typed layer: the order of data. -/
namespace Pu
open PySem PySem.Spec L2
section
variable {α β γ δ τ : Type} {c : Cd τ} {xs ys : List τ}
/-- the values of a code can be put in order -/
structure AK (c : Cd τ) : Prop where
  al : ∀ x y, PySem.W.alike (c.enc x) (c.enc y) = true
  nn : ∀ x, c.enc x ≠ .none
  pl : ∀ x, plain (c.enc x) = true
  w : c.dp ≤ 60
theorem plain_lay : ∀ {d : D}, d.canLay0 = true → plain d = true := fun {d} h => plain_of_lay d h
theorem akI : AK cI := ⟨fun _ _ => by simp [cI, PySem.W.alike], fun _ => (nofun), fun x => plain_lay (cI.lay (by decide) x), by decide⟩
theorem akB : AK cB := ⟨fun _ _ => by simp [cB, PySem.W.alike], fun _ => (nofun), fun x => plain_lay (cB.lay (by decide) x), by decide⟩
theorem akS : AK cS := ⟨fun _ _ => by simp [cS, PySem.W.alike], fun _ => (nofun), fun x => plain_lay (cS.lay (by decide) x), by decide⟩
theorem akG : AK cG := ⟨fun _ _ => by simp [cG, PySem.W.alike], fun _ => (nofun), fun x => plain_lay (cG.lay (by decide) x), by decide⟩
theorem alikeAll_enc (h : AK c) : ∀ xs ys : List τ, PySem.W.alikeAll (xs.map c.enc) (ys.map c.enc) = true
  | [], _ => by simp [PySem.W.alikeAll]
  | _ :: _, [] => by simp [PySem.W.alikeAll]
  | x :: xs, y :: ys => by simp [PySem.W.alikeAll, h.al x y, alikeAll_enc h xs ys]
theorem akL (h : AK c) (hw : (cL c).dp ≤ 60 := by decide) : AK (cL c) := ⟨fun x y => by simp only [cL, PySem.W.alike]; exact alikeAll_enc h x y, fun _ => (nofun), fun x => plain_lay ((cL c).lay (by omega) x), hw⟩
theorem akT (h : AK c) (hw : (cT c).dp ≤ 60 := by decide) : AK (cT c) := ⟨fun x y => by simp only [cT, PySem.W.alike]; exact alikeAll_enc h x y, fun _ => (nofun), fun x => plain_lay ((cT c).lay (by omega) x), hw⟩
theorem akP2 {a : Cd α} {b : Cd β} (h1 : AK a) (h2 : AK b) (hw : (cP2 a b).dp ≤ 60 := by decide) : AK (cP2 a b) := ⟨fun x y => by simp [cP2, PySem.W.alike, PySem.W.alikeAll, h1.al, h2.al], fun _ => (nofun), fun x => plain_lay ((cP2 a b).lay (by omega) x), hw⟩
theorem akP3 {a : Cd α} {b : Cd β} {d : Cd γ} (h1 : AK a) (h2 : AK b) (h3 : AK d) (hw : (cP3 a b d).dp ≤ 60 := by decide) : AK (cP3 a b d) := ⟨fun x y => by simp [cP3, PySem.W.alike, PySem.W.alikeAll, h1.al, h2.al, h3.al], fun _ => (nofun), fun x => plain_lay ((cP3 a b d).lay (by omega) x), hw⟩
theorem akP4 {a : Cd α} {b : Cd β} {d : Cd γ} {e : Cd δ} (h1 : AK a) (h2 : AK b) (h3 : AK d) (h4 : AK e) (hw : (cP4 a b d e).dp ≤ 60 := by decide) : AK (cP4 a b d e) := ⟨fun x y => by simp [cP4, PySem.W.alike, PySem.W.alikeAll, h1.al, h2.al, h3.al, h4.al], fun _ => (nofun), fun x => plain_lay ((cP4 a b d e).lay (by omega) x), hw⟩
def ltC (c : Cd τ) (x y : τ) : Bool := PySem.W.dataLt (c.enc x) (c.enc y)
theorem ltC_irrefl (x : τ) : ltC c x x = false := PyProof.Rows.lex_irrefl _
theorem ltC_trans {x y z : τ} (h1 : ltC c x y = true) (h2 : ltC c y z = true) : ltC c x z = true := PyProof.Rows.lex_trans _ _ _ h1 h2
theorem ltC_neg {x y z : τ} (h1 : ltC c y x = false) (h2 : ltC c z y = false) : ltC c z x = false := by
  cases e : ltC c z x with
  | false => rfl
  | true =>
    rcases PyProof.Rows.lex_negTrans (O := PyProof.Rows.itemOrd) _ (PySem.W.keyToks (c.enc y)) _ e with h | h
    · have h : ltC c z y = true := h
      rw [h2] at h; cases h
    · have h : ltC c y x = true := h
      rw [h1] at h; cases h
theorem ltC_tri (h : AK c) {x y : τ} (h1 : ltC c x y = false) (h2 : ltC c y x = false) : x = y := by
  have e := PyProof.Rows.lex_total (O := PyProof.Rows.itemOrd) _ _ h1 h2
  refine (c.eqv (Nat.le_trans h.w (by decide)) x y).mp ?_
  cases q : PyData.eqv (c.enc x) (c.enc y) with
  | true => rfl
  | false =>
    have k := (PySem.W.toks_eqv _ _ (h.al x y)).2 q [] [.inl 0]
    rw [e, List.append_nil] at k
    have : ∀ t : List (Int ⊕ List Nat), PyProof.Rows.lexLt PyProof.Rows.itemOrd t (t ++ [.inl 0]) = true := fun t => by
      induction t with
      | nil => rfl
      | cons a t ih => rw [List.cons_append, PyProof.Rows.lex_self]; exact ih
    rw [this, PyProof.Rows.lex_irrefl] at k
    cases k
theorem ltC_int (x y : Int) : ltC cI x y = decide (x < y) := PySem.W.dataLt_int x y
theorem ltC_S (x y : List Sg) : ltC cS x y = decide (x.map Sg.code < y.map Sg.code) := by
  have := PySem.W.dataLt_str (txS x) (txS y)
  rw [show ltC cS x y = PySem.W.dataLt (.str (txS x)) (.str (txS y)) from rfl, this]
  have e : ∀ l : List Sg, (txS l).cps.toList = l.map Sg.code := cps_txS
  rw [e, e]
theorem ltC_nil_cons {y : τ} : ltC (cT c) [] (y :: ys) = true := rfl
theorem ltC_cons_nil {x : τ} : ltC (cT c) (x :: xs) [] = false := rfl
theorem ltC_cons (h : AK c) [DecidableEq τ] (x y : τ) (xs ys : List τ) : ltC (cT c) (x :: xs) (y :: ys) = if x = y then ltC (cT c) xs ys else ltC c x y := by
  have e1 : ∀ as bs : List τ, ltC (cT c) as bs = PyProof.Rows.lexLt PyProof.Rows.itemOrd (PySem.W.keyToksAll (as.map c.enc)) (PySem.W.keyToksAll (bs.map c.enc)) := fun as bs => PySem.W.dataLt_tuple _ _
  rw [e1, e1, List.map_cons, List.map_cons]
  by_cases hxy : x = y
  · rw [if_pos hxy, PySem.W.dataLt_all_yes (h.al x y) ((c.eqv (Nat.le_trans h.w (by decide)) x y).mpr hxy)]
  · rw [if_neg hxy, PySem.W.dataLt_all_no (h.al x y) (by rw [eqv_cd c (Nat.le_trans h.w (by decide))]; simpa using hxy)]; rfl
theorem ltC_P2 {a : Cd α} {b : Cd β} (h1 : AK a) (h2 : AK b) [DecidableEq α] [DecidableEq β] (p q : α × β) : ltC (cP2 a b) p q = if p.1 = q.1 then ltC b p.2 q.2 else ltC a p.1 q.1 := by
  refine (PySem.W.dataLt_tuple _ _).trans ?_
  by_cases hp : p.1 = q.1
  · rw [if_pos hp, PySem.W.dataLt_all_yes (h1.al p.1 q.1) ((a.eqv (Nat.le_trans h1.w (by decide)) _ _).mpr hp)]
    by_cases hq : p.2 = q.2
    · rw [PySem.W.dataLt_all_yes (h2.al p.2 q.2) ((b.eqv (Nat.le_trans h2.w (by decide)) _ _).mpr hq), PyProof.Rows.lex_irrefl, hq, ltC_irrefl]
    · rw [PySem.W.dataLt_all_no (h2.al p.2 q.2) (by rw [eqv_cd b (Nat.le_trans h2.w (by decide))]; simpa using hq)]; rfl
  · rw [if_neg hp, PySem.W.dataLt_all_no (h1.al p.1 q.1) (by rw [eqv_cd a (Nat.le_trans h1.w (by decide))]; simpa using hp)]; rfl
/-! ### least, greatest -/
def minF (c : Cd τ) (x : τ) (xs : List τ) : τ := xs.foldl (fun a y => if ltC c y a = true then y else a) x
def maxF (c : Cd τ) (x : τ) (xs : List τ) : τ := xs.foldl (fun a y => if ltC c a y = true then y else a) x
def minC [Inhabited τ] (c : Cd τ) (xs : List τ) : τ := match xs with
  | [] => default
  | x :: xs => minF c x xs
def maxC [Inhabited τ] (c : Cd τ) (xs : List τ) : τ := match xs with
  | [] => default
  | x :: xs => maxF c x xs
theorem minD_enc (x : τ) : ∀ xs : List τ, PySem.W.minD (c.enc x) (xs.map c.enc) = c.enc (minF c x xs) := fun xs => by
  unfold PySem.W.minD minF
  induction xs generalizing x with
  | nil => rfl
  | cons y ys ih =>
    rw [List.map_cons, List.foldl_cons, List.foldl_cons]
    have e : (if PySem.W.dataLt (c.enc y) (c.enc x) = true then c.enc y else c.enc x) = c.enc (if ltC c y x = true then y else x) := by
      unfold ltC; split <;> rfl
    rw [e, ih]
theorem maxD_enc (x : τ) : ∀ xs : List τ, PySem.W.maxD (c.enc x) (xs.map c.enc) = c.enc (maxF c x xs) := fun xs => by
  unfold PySem.W.maxD maxF
  induction xs generalizing x with
  | nil => rfl
  | cons y ys ih =>
    rw [List.map_cons, List.foldl_cons, List.foldl_cons]
    have e : (if PySem.W.dataLt (c.enc x) (c.enc y) = true then c.enc y else c.enc x) = c.enc (if ltC c x y = true then y else x) := by
      unfold ltC; split <;> rfl
    rw [e, ih]
theorem plainAll_enc (h : AK c) : ∀ xs : List τ, plain.plainAll (xs.map c.enc) = true
  | [] => rfl
  | x :: xs => by simp [plain.plainAll, h.pl x, plainAll_enc h xs]
theorem alkOk_enc (h : AK c) (hd : c.dp ≤ 60) (xs : List τ) : alkOk (xs.map c.enc) = true := alkOk_i.mpr ⟨⟨fun d hd e he => by
    obtain ⟨x, _, rfl⟩ := List.mem_map.mp hd
    obtain ⟨y, _, rfl⟩ := List.mem_map.mp he
    exact h.al x y, fun d hd => by
    obtain ⟨x, _, rfl⟩ := List.mem_map.mp hd
    exact h.nn x⟩, plainAll_enc h xs, Nat.le_trans (depAll c (by omega) xs) hd⟩
theorem mm_list {f : D → List D → D} {d : D} {ds : List D} (h : alkOk (d :: ds) = true) : mmD f (.list (d :: ds)) = some (f d ds) := if_pos h
theorem mm_tuple {f : D → List D → D} {d : D} {ds : List D} (h : alkOk (d :: ds) = true) : mmD f (.tuple (d :: ds)) = some (f d ds) := if_pos h
theorem o_minLC [Inhabited τ] (h : AK c) (hn : xs ≠ []) (hd : c.dp ≤ 60 := by decide) : minGD ((cL c).enc xs) = some (c.enc (minC c xs)) := by
  cases xs with
  | nil => exact absurd rfl hn
  | cons x xs => exact (mm_list (alkOk_enc h hd (x :: xs))).trans (by rw [minD_enc]; rfl)
theorem o_minTC [Inhabited τ] (h : AK c) (hn : xs ≠ []) (hd : c.dp ≤ 60 := by decide) : minGD ((cT c).enc xs) = some (c.enc (minC c xs)) := by
  cases xs with
  | nil => exact absurd rfl hn
  | cons x xs => exact (mm_tuple (alkOk_enc h hd (x :: xs))).trans (by rw [minD_enc]; rfl)
theorem o_maxLC [Inhabited τ] (h : AK c) (hn : xs ≠ []) (hd : c.dp ≤ 60 := by decide) : maxGD ((cL c).enc xs) = some (c.enc (maxC c xs)) := by
  cases xs with
  | nil => exact absurd rfl hn
  | cons x xs => exact (mm_list (alkOk_enc h hd (x :: xs))).trans (by rw [maxD_enc]; rfl)
theorem o_maxTC [Inhabited τ] (h : AK c) (hn : xs ≠ []) (hd : c.dp ≤ 60 := by decide) : maxGD ((cT c).enc xs) = some (c.enc (maxC c xs)) := by
  cases xs with
  | nil => exact absurd rfl hn
  | cons x xs => exact (mm_tuple (alkOk_enc h hd (x :: xs))).trans (by rw [maxD_enc]; rfl)
theorem minI_C (xs : List Int) (h : xs ≠ []) : minC cI xs = minI xs := by
  cases xs with
  | nil => exact absurd rfl h
  | cons x xs =>
    show minF cI x xs = xs.foldl min x
    unfold minF
    induction xs generalizing x with
    | nil => rfl
    | cons y ys ih =>
      rw [List.foldl_cons, List.foldl_cons, ih _ (by simp)]
      congr 1
      rw [ltC_int]
      by_cases h : y < x <;> simp [h] <;> omega
theorem maxI_C (xs : List Int) (h : xs ≠ []) : maxC cI xs = maxI xs := by
  cases xs with
  | nil => exact absurd rfl h
  | cons x xs =>
    show maxF cI x xs = xs.foldl max x
    unfold maxF
    induction xs generalizing x with
    | nil => rfl
    | cons y ys ih =>
      rw [List.foldl_cons, List.foldl_cons, ih _ (by simp)]
      congr 1
      rw [ltC_int]
      by_cases h : x < y <;> simp [h] <;> omega
theorem o_minL {xs : List Int} (h : xs ≠ []) : minGD ((cL cI).enc xs) = some (cI.enc (minI xs)) := by rw [o_minLC akI h, minI_C xs h]
theorem o_minT {xs : List Int} (h : xs ≠ []) : minGD ((cT cI).enc xs) = some (cI.enc (minI xs)) := by rw [o_minTC akI h, minI_C xs h]
theorem o_maxL {xs : List Int} (h : xs ≠ []) : maxGD ((cL cI).enc xs) = some (cI.enc (maxI xs)) := by rw [o_maxLC akI h, maxI_C xs h]
theorem o_maxT {xs : List Int} (h : xs ≠ []) : maxGD ((cT cI).enc xs) = some (cI.enc (maxI xs)) := by rw [o_maxTC akI h, maxI_C xs h]
theorem minF_spec (c : Cd τ) : ∀ (xs : List τ) (x : τ), (minF c x xs = x ∨ minF c x xs ∈ xs) ∧ ltC c x (minF c x xs) = false ∧ ∀ y ∈ xs, ltC c y (minF c x xs) = false
  | [], x => ⟨.inl rfl, ltC_irrefl x, fun y hy => by cases hy⟩
  | z :: zs, x => by
    obtain ⟨h1, h2, h3⟩ := minF_spec c zs (if ltC c z x = true then z else x)
    have e : minF c x (z :: zs) = minF c (if ltC c z x = true then z else x) zs := rfl
    rw [e]
    cases q : ltC c z x with
    | true =>
      simp only [q, if_true] at h1 h2 h3 ⊢
      refine ⟨.inr (h1.elim (fun h => by rw [h]; exact List.mem_cons_self) (List.mem_cons_of_mem _)), ?_, fun y hy => ?_⟩
      · refine ltC_neg h2 ?_
        cases q2 : ltC c x z with
        | false => rfl
        | true => have := ltC_trans q q2; rw [ltC_irrefl] at this; cases this
      · rcases List.mem_cons.mp hy with rfl | hy
        · exact h2
        · exact h3 y hy
    | false =>
      simp only [q, Bool.false_eq_true, if_false] at h1 h2 h3 ⊢
      refine ⟨h1.imp id (List.mem_cons_of_mem _), h2, fun y hy => ?_⟩
      rcases List.mem_cons.mp hy with rfl | hy
      · exact ltC_neg h2 q
      · exact h3 y hy
theorem minC_spec [Inhabited τ] (c : Cd τ) {xs : List τ} (h : xs ≠ []) : minC c xs ∈ xs ∧ ∀ y ∈ xs, ltC c y (minC c xs) = false := by
  cases xs with
  | nil => exact absurd rfl h
  | cons x xs =>
    obtain ⟨h1, h2, h3⟩ := minF_spec c xs x
    refine ⟨?_, fun y hy => ?_⟩
    · rcases h1 with h1 | h1
      · show minF c x xs ∈ _; rw [h1]; exact List.mem_cons_self
      · exact List.mem_cons_of_mem _ h1
    · rcases List.mem_cons.mp hy with rfl | hy
      · exact h2
      · exact h3 y hy
theorem minC_eq [Inhabited τ] (h : AK c) {m : τ} (h1 : m ∈ xs) (h2 : ∀ y ∈ xs, ltC c y m = false) : minC c xs = m := by
  have hn : xs ≠ [] := fun e => by rw [e] at h1; cases h1
  obtain ⟨k1, k2⟩ := minC_spec c hn
  exact ltC_tri h (h2 _ k1) (k2 _ h1)
/-! ### sorted -/
theorem srtC_le (x y : τ) : PySem.W.dataLe false id (c.enc x) (c.enc y) = !ltC c y x := rfl
theorem srtC_def (c : Cd τ) (xs : List τ) : srtC c xs = xs.mergeSort fun a b => PySem.W.dataLe false id (c.enc a) (c.enc b) := by unfold srtC; rfl
theorem srtC_perm (c : Cd τ) (xs : List τ) : (srtC c xs).Perm xs := by rw [srtC_def]; exact List.mergeSort_perm _ _
theorem srtC_sorted (c : Cd τ) (xs : List τ) : (srtC c xs).Pairwise fun x y => ltC c y x = false := by
  have := List.pairwise_mergeSort (le := fun a b => PySem.W.dataLe false id (c.enc a) (c.enc b)) (fun x y z h1 h2 => by
    rw [srtC_le, Bool.not_eq_true'] at h1 h2 ⊢
    exact ltC_neg h1 h2) (fun x y => by
    rw [srtC_le, srtC_le]
    cases e : ltC c y x with
    | false => rfl
    | true =>
      cases e2 : ltC c x y with
      | false => rfl
      | true => have := ltC_trans e e2; rw [ltC_irrefl] at this; cases this) xs
  rw [srtC_def]
  exact this.imp fun h => by rw [srtC_le, Bool.not_eq_true'] at h; exact h
theorem srtC_eq (h : AK c) (hp : ys.Perm xs) (hs : ys.Pairwise fun x y => ltC c y x = false) : srtC c xs = ys :=
  List.Perm.eq_of_pairwise (le := fun x y => ltC c y x = false) (fun a b _ _ h1 h2 => ltC_tri h h2 h1) (srtC_sorted c xs) hs ((srtC_perm c xs).trans hp.symm)
theorem srtC_len (c : Cd τ) (xs : List τ) : (srtC c xs).length = xs.length := (srtC_perm c xs).length_eq
theorem mem_srtC {x : τ} : x ∈ srtC c xs ↔ x ∈ xs := (srtC_perm c xs).mem_iff
theorem srtC_head [Inhabited τ] (h : AK c) (hn : xs ≠ []) : ixG (srtC c xs) 0 = minC c xs := by
  have hl := srtC_len c xs
  have hs := srtC_sorted c xs
  cases e : srtC c xs with
  | nil => rw [e] at hl; exact absurd (List.length_eq_zero_iff.mp hl.symm) hn
  | cons m r =>
    rw [e] at hs
    have hm : m ∈ xs := (mem_srtC (c := c)).mp (by rw [e]; exact List.mem_cons_self)
    have : ixG (m :: r) 0 = m := by rw [ixG_nat (by decide) (by simp)]; rfl
    rw [this]
    refine (minC_eq h hm fun y hy => ?_).symm
    have hy : y ∈ m :: r := by rw [← e]; exact (mem_srtC (c := c)).mpr hy
    rcases List.mem_cons.mp hy with rfl | hy
    · exact ltC_irrefl _
    · exact (List.pairwise_cons.mp hs).1 y hy
/-- what sorting wants: all are tuples with an item at least, or none is one -/
def SO (c : Cd τ) : Prop := (∀ x, ∃ y r, c.enc x = .tuple (y :: r)) ∨ ∀ x, c.enc x ≠ .none ∧ ∀ ys, c.enc x ≠ .tuple ys
theorem soI : SO cI := .inr fun _ => ⟨nofun, nofun⟩
theorem soS : SO cS := .inr fun _ => ⟨nofun, nofun⟩
theorem soG : SO cG := .inr fun _ => ⟨nofun, nofun⟩
theorem soP2 {a : Cd α} {b : Cd β} : SO (cP2 a b) := .inl fun _ => ⟨_, _, rfl⟩
theorem soP3 {a : Cd α} {b : Cd β} {d : Cd γ} : SO (cP3 a b d) := .inl fun _ => ⟨_, _, rfl⟩
theorem sortOk_enc (h : AK c) (so : SO c) (hd : c.dp ≤ 64) (xs : List τ) : sortOk (xs.map c.enc) = true := sortOk_i.mpr ⟨fun d hd e he => by
    obtain ⟨x, _, rfl⟩ := List.mem_map.mp hd
    obtain ⟨y, _, rfl⟩ := List.mem_map.mp he
    exact h.al x y, by
    rcases so with so | so
    · exact PySem.W.Sortable.tuples so
    · exact PySem.W.Sortable.others so, plainAll_enc h xs, fun d hd' => by
    obtain ⟨x, _, rfl⟩ := List.mem_map.mp hd'
    exact Nat.le_trans (c.dep (by omega) x) hd⟩
/-- tuples that are not empty -/
theorem sortOk_T (h : AK c) (hw0 : (cT c).dp ≤ 60) {xs : List (List τ)} (hn : ∀ x ∈ xs, x ≠ []) : sortOk (xs.map (cT c).enc) = true := sortOk_i.mpr ⟨fun d hd e he => by
    obtain ⟨x, _, rfl⟩ := List.mem_map.mp hd
    obtain ⟨y, _, rfl⟩ := List.mem_map.mp he
    exact (akT h hw0).al x y, .inl fun d hd => by
    obtain ⟨x, hx, rfl⟩ := List.mem_map.mp hd
    cases x with
    | nil => exact absurd rfl (hn _ hx)
    | cons y r => exact ⟨_, _, rfl⟩, plainAll_enc (akT h hw0) xs, fun d hd' => by
    obtain ⟨x, _, rfl⟩ := List.mem_map.mp hd'
    exact Nat.le_trans ((cT c).dep (Nat.le_trans hw0 (by decide)) x) (Nat.le_trans hw0 (by decide))⟩
theorem srt_enc (xs : List τ) : srt (xs.map c.enc) = (srtC c xs).map c.enc := by
  rw [srtC_def]
  exact (List.map_mergeSort (f := c.enc) (r := fun a b => PySem.W.dataLe false id (c.enc a) (c.enc b)) (s := PySem.W.dataLe false id) (l := xs) fun a _ b _ => rfl).symm
theorem o_sortL (h : AK c) (so : SO c) (hd : c.dp ≤ 64 := by decide) : sortD ((cL c).enc xs) = some ((cL c).enc (srtC c xs)) := by
  have := sortD_l (sortOk_enc h so hd xs)
  rw [srt_enc] at this
  exact this
theorem o_sortLT {xs : List (List τ)} (h : AK c) (hn : ∀ x ∈ xs, x ≠ []) (hd : (cT c).dp ≤ 60 := by decide) : sortD ((cL (cT c)).enc xs) = some ((cL (cT c)).enc (srtC (cT c) xs)) := by
  have := sortD_l (sortOk_T h hd hn)
  rw [srt_enc] at this
  exact this
theorem cmpOk_enc (h : AK c) (hd : c.dp ≤ 60) (x y : τ) : cmpOk (c.enc x) (c.enc y) = true := cmpOk_i.mpr ⟨h.al x y, h.nn x, h.pl x, h.pl y, Nat.le_trans (c.dep (by omega) x) hd⟩
theorem o_ltP2 {a : Cd α} {b : Cd β} {x y : α × β} (h : AK (cP2 a b)) (hd : (cP2 a b).dp ≤ 60 := by decide) : ltG ((cP2 a b).enc x) ((cP2 a b).enc y) = some (cB.enc (ltC (cP2 a b) x y)) := if_pos (cmpOk_enc h hd x y)
theorem o_ltT {x y : List τ} (h : AK c) (hd : (cT c).dp ≤ 60 := by decide) : ltG ((cT c).enc x) ((cT c).enc y) = some (cB.enc (ltC (cT c) x y)) := if_pos (cmpOk_enc (akT h hd) hd x y)
theorem o_gtP2 {a : Cd α} {b : Cd β} {x y : α × β} (h : AK (cP2 a b)) (hd : (cP2 a b).dp ≤ 60 := by decide) : gtG ((cP2 a b).enc x) ((cP2 a b).enc y) = some (cB.enc (ltC (cP2 a b) y x)) := if_pos (cmpOk_enc h hd x y)
end
end Pu
end

noncomputable section
set_option Elab.async false
set_option linter.all false
set_option maxRecDepth 100000
set_option maxHeartbeats 2000000
/-! Pt3: the typed layer: the forms that tgen.py prints. -/
namespace Pu
open PySem PySem.Spec L2
section
variable {L L1 L2 : Env} {α β γ τ σ : Type} {c : Cd τ} {a b m : M D} {e : M (List D)}
theorem tm_int (i : Int) : TM L (rt (.int i)) (cI.enc i) := tm_rt
theorem tm_bool (i : Bool) : TM L (rt (.bool i)) (cB.enc i) := tm_rt
theorem tm_str {z : Str} (l : List Sg) (h : PyData.str z = cS.enc l) : TM L (rt (.str z)) (cS.enc l) := by rw [h]; exact tm_rt
theorem tm_sg {z : Str} (l : Sg) (h : PyData.str z = cG.enc l) : TM L (rt (.str z)) (cG.enc l) := by rw [h]; exact tm_rt
theorem tm_gs {g : Sg} (h : TM L m (cG.enc g)) : TM L m (cS.enc [g]) := h
theorem tm_some (n : NN c) {x : τ} (h : TM L m (c.enc x)) : TM L m ((cO c n).enc (some x)) := h
theorem tm_none (n : NN c) : TM L (rt .none) ((cO c n).enc none) := tm_rt
theorem tm_unO [Inhabited τ] {n : NN c} {o : Option τ} (h : TM L m ((cO c n).enc o)) (ho : o.isSome = true) : TM L m (c.enc (o.getD default)) := by
  cases o with
  | none => cases ho
  | some x => exact h
theorem ta_nil : TM L aNil (([] : List τ).map c.enc) := tm_anil
theorem ta_cons {x : τ} {xs : List τ} (ha : TM L a (c.enc x)) (hb : TM L e (xs.map c.enc)) : TM L (aCons a e) ((x :: xs).map c.enc) := tm_acons ha hb
theorem tm_lstC {xs : List τ} (h : TM L e (xs.map c.enc)) (hl : xs.length ≤ 100 := by simp) : TM L (mLst e) ((cL c).enc xs) := tm_lst h (by simpa using hl)
theorem tm_tupC {xs : List τ} (h : TM L e (xs.map c.enc)) (hl : xs.length ≤ 100 := by simp) : TM L (mTup e) ((cT c).enc xs) := tm_tup h (by simpa using hl)
theorem tm_tupP1 {c1 : Cd α} {x : α} (h1 : TM L a (c1.enc x)) : TM L (mTup (aCons a aNil)) ((cP1 c1).enc x) := tm_tup (tm_acons h1 tm_anil)
theorem tm_tupP2 {c1 : Cd α} {c2 : Cd β} {x : α} {y : β} (h1 : TM L a (c1.enc x)) (h2 : TM L b (c2.enc y)) : TM L (mTup (aCons a (aCons b aNil))) ((cP2 c1 c2).enc (x, y)) := tm_tup (tm_acons h1 (tm_acons h2 tm_anil))
theorem tm_tupP3 {c1 : Cd α} {c2 : Cd β} {c3 : Cd γ} {x : α} {y : β} {z : γ} (h1 : TM L a (c1.enc x)) (h2 : TM L b (c2.enc y)) (h3 : TM L m (c3.enc z)) : TM L (mTup (aCons a (aCons b (aCons m aNil)))) ((cP3 c1 c2 c3).enc (x, y, z)) := tm_tup (tm_acons h1 (tm_acons h2 (tm_acons h3 tm_anil)))
theorem tm_tupP4 {m' : M D} {c1 : Cd α} {c2 : Cd β} {c3 : Cd γ} {c4 : Cd σ} {x : α} {y : β} {z : γ} {w : σ} (h1 : TM L a (c1.enc x)) (h2 : TM L b (c2.enc y)) (h3 : TM L m (c3.enc z)) (h4 : TM L m' (c4.enc w)) : TM L (mTup (aCons a (aCons b (aCons m (aCons m' aNil))))) ((cP4 c1 c2 c3 c4).enc (x, y, z, w)) := tm_tup (tm_acons h1 (tm_acons h2 (tm_acons h3 (tm_acons h4 tm_anil))))
theorem tm_tupP5 {m' m2 : M D} {ε : Type} {c1 : Cd α} {c2 : Cd β} {c3 : Cd γ} {c4 : Cd σ} {c5 : Cd ε} {x : α} {y : β} {z : γ} {w : σ} {v : ε} (h1 : TM L a (c1.enc x)) (h2 : TM L b (c2.enc y)) (h3 : TM L m (c3.enc z)) (h4 : TM L m' (c4.enc w)) (h5 : TM L m2 (c5.enc v)) : TM L (mTup (aCons a (aCons b (aCons m (aCons m' (aCons m2 aNil)))))) ((cP5 c1 c2 c3 c4 c5).enc (x, y, z, w, v)) := tm_tup (tm_acons h1 (tm_acons h2 (tm_acons h3 (tm_acons h4 (tm_acons h5 tm_anil)))))
section
variable {δ : Type} {c1 : Cd α} {c2 : Cd β} {c3 : Cd γ} {c4 : Cd δ}
theorem o_ix1_0 {p : α} : ixD ((cP1 c1).enc p) (cI.enc 0) = some (c1.enc p) := rfl
theorem o_ix2_0 {p : α × β} : ixD ((cP2 c1 c2).enc p) (cI.enc 0) = some (c1.enc p.1) := rfl
theorem o_ix2_1 {p : α × β} : ixD ((cP2 c1 c2).enc p) (cI.enc 1) = some (c2.enc p.2) := rfl
theorem o_ix3_0 {p : α × β × γ} : ixD ((cP3 c1 c2 c3).enc p) (cI.enc 0) = some (c1.enc p.1) := rfl
theorem o_ix3_1 {p : α × β × γ} : ixD ((cP3 c1 c2 c3).enc p) (cI.enc 1) = some (c2.enc p.2.1) := rfl
theorem o_ix3_2 {p : α × β × γ} : ixD ((cP3 c1 c2 c3).enc p) (cI.enc 2) = some (c3.enc p.2.2) := rfl
theorem o_ix4_0 {p : α × β × γ × δ} : ixD ((cP4 c1 c2 c3 c4).enc p) (cI.enc 0) = some (c1.enc p.1) := rfl
theorem o_ix4_1 {p : α × β × γ × δ} : ixD ((cP4 c1 c2 c3 c4).enc p) (cI.enc 1) = some (c2.enc p.2.1) := rfl
theorem o_ix4_2 {p : α × β × γ × δ} : ixD ((cP4 c1 c2 c3 c4).enc p) (cI.enc 2) = some (c3.enc p.2.2.1) := rfl
theorem o_ix4_3 {p : α × β × γ × δ} : ixD ((cP4 c1 c2 c3 c4).enc p) (cI.enc 3) = some (c4.enc p.2.2.2) := rfl
theorem o_lenP2 {p : α × β} : lenD ((cP2 c1 c2).enc p) = some (cI.enc 2) := rfl
theorem o_lenP3 {p : α × β × γ} : lenD ((cP3 c1 c2 c3).enc p) = some (cI.enc 3) := rfl
theorem o_lenP4 {p : α × β × γ × δ} : lenD ((cP4 c1 c2 c3 c4).enc p) = some (cI.enc 4) := rfl
end
def ltS (l m : List Sg) : Bool := decide (l.map Sg.code < m.map Sg.code)
theorem o_ltS {l m : List Sg} : ltG (cS.enc l) (cS.enc m) = some (cB.enc (ltS l m)) := by
  show some (PyData.bool (decide (cps (txS l) < cps (txS m)))) = _
  rw [cps_txS, cps_txS]; rfl
theorem o_gtS {l m : List Sg} : gtG (cS.enc l) (cS.enc m) = some (cB.enc (ltS m l)) := by
  show some (PyData.bool (decide (cps (txS m) < cps (txS l)))) = _
  rw [cps_txS, cps_txS]; rfl
theorem o_leS {l m : List Sg} : leD (cS.enc l) (cS.enc m) = some (cB.enc (!ltS m l)) := by
  show some (PyData.bool (!decide (cps (txS m) < cps (txS l)))) = _
  rw [cps_txS, cps_txS]; rfl
theorem o_geS {l m : List Sg} : geD (cS.enc l) (cS.enc m) = some (cB.enc (!ltS l m)) := by
  show some (PyData.bool (!decide (cps (txS l) < cps (txS m)))) = _
  rw [cps_txS, cps_txS]; rfl
theorem tab_SIZES : ∀ g, L_SIZES.lookup (txS [g]) = some g.size := by intro g; cases g <;> rfl
theorem tab_SIZES_in : ∀ g, (L_SIZES.lookup (txS [g])).isSome = true := by intro g; cases g <;> rfl
/-! ### two fors -/
section
variable {it it1 : M (List D)} {bd bd1 : Bd} {t t1 : M Bool} {el : M D} {vs vs1 : List Nat} {g : α → D} {g1 : β → D} {cc : Cd γ} {xs : List α} {p : α → Bool} {ys : α → List β} {q : α → β → Bool} {f : α → β → γ}
theorem tm_lc210 (hit : TM L it (xs.map g))
    (he : ∀ x ∈ xs, ∃ L1, TBd bd (g x) (wipeE L vs) L1 ∧ TM L1 t (p x) ∧ (p x = true → TM L1 it1 ((ys x).map g1) ∧ ∀ y ∈ ys x, ∃ L2, TBd bd1 (g1 y) (wipeE L1 vs1) L2 ∧ TM L2 el (cc.enc (f x y))))
    (lo : ((xs.filter p).flatMap fun x => (ys x).map (f x)).length ≤ 16777216) : TM L (mLc2 vs it bd t vs1 it1 bd1 mYes el) ((cL cc).enc ((xs.filter p).flatMap fun x => (ys x).map (f x))) := by
  have e : ∀ x, ((ys x).filter fun _ => true) = ys x := fun x => List.filter_eq_self.mpr fun _ _ => rfl
  have := tm_lc2 (t1 := mYes) (q := fun _ _ => true) hit (fun x hx => by
    obtain ⟨L1, h1, h2, h3⟩ := he x hx
    refine ⟨L1, h1, h2, fun hp => ⟨(h3 hp).1, fun y hy => ?_⟩⟩
    obtain ⟨L2, h4, h5⟩ := (h3 hp).2 y hy
    exact ⟨L2, h4, tm_rt, fun _ => h5⟩) (by simpa only [e] using lo)
  simpa only [e] using this
theorem tm_lc201 (hit : TM L it (xs.map g))
    (he : ∀ x ∈ xs, ∃ L1, TBd bd (g x) (wipeE L vs) L1 ∧ TM L1 it1 ((ys x).map g1) ∧ ∀ y ∈ ys x, ∃ L2, TBd bd1 (g1 y) (wipeE L1 vs1) L2 ∧ TM L2 t1 (q x y) ∧ (q x y = true → TM L2 el (cc.enc (f x y))))
    (lo : (xs.flatMap fun x => ((ys x).filter fun y => q x y).map fun y => f x y).length ≤ 16777216) : TM L (mLc2 vs it bd mYes vs1 it1 bd1 t1 el) ((cL cc).enc (xs.flatMap fun x => ((ys x).filter fun y => q x y).map fun y => f x y)) := by
  have e : (xs.filter fun _ => true) = xs := List.filter_eq_self.mpr fun _ _ => rfl
  have := tm_lc2 (t := mYes) (p := fun _ => true) hit (fun x hx => by
    obtain ⟨L1, h1, h2⟩ := he x hx
    exact ⟨L1, h1, tm_rt, fun _ => h2⟩) (by rw [e]; exact lo)
  rw [e] at this
  exact this
theorem tm_lc200 (hit : TM L it (xs.map g))
    (he : ∀ x ∈ xs, ∃ L1, TBd bd (g x) (wipeE L vs) L1 ∧ TM L1 it1 ((ys x).map g1) ∧ ∀ y ∈ ys x, ∃ L2, TBd bd1 (g1 y) (wipeE L1 vs1) L2 ∧ TM L2 el (cc.enc (f x y)))
    (lo : (xs.flatMap fun x => (ys x).map fun y => f x y).length ≤ 16777216) : TM L (mLc2 vs it bd mYes vs1 it1 bd1 mYes el) ((cL cc).enc (xs.flatMap fun x => (ys x).map fun y => f x y)) := by
  have e : (xs.filter fun _ => true) = xs := List.filter_eq_self.mpr fun _ _ => rfl
  have := tm_lc210 (t := mYes) (p := fun _ => true) hit (fun x hx => by
    obtain ⟨L1, h1, h2⟩ := he x hx
    exact ⟨L1, h1, tm_rt, fun _ => h2⟩) (by rw [e]; exact lo)
  rw [e] at this
  exact this
end
/-! ### loops, ifs: the environment is today's, with what is carried -/
theorem tn_forU {bd : Bd} {it : M (List D)} {body : MS} {g : α → D} {xs : List α} (U : σ → Env → Env) (dead : List Nat) {st0 : σ} (ok : σ → α → Prop) (step : σ → α → σ) (hit : TM L it (xs.map g)) (h0 : Wk L (U st0 (wipeE L dead)))
    (hb : ∀ st x, ok st x → ∃ L1, TBd bd (g x) (U st (wipeE L dead)) L1 ∧ ∃ L2, TN L1 body L2 ∧ Wk L2 (U (step st x) (wipeE L dead))) (hok : FoldOk ok step st0 xs) : TN L (mFor bd it body) (U (xs.foldl step st0) (wipeE L dead)) :=
  tn_for (fun st => U st (wipeE L dead)) ok step hit h0 hb hok
theorem tn_whileU {t : M Bool} {body : MS} {n : Nat} (U : σ → Env → Env) (dead : List Nat) {st0 : σ} (cond : σ → Bool) (okc ok : σ → Prop) (step : σ → σ) (h0 : Wk L (U st0 (wipeE L dead))) (hc : ∀ st, okc st → TM (U st (wipeE L dead)) t (cond st))
    (hb : ∀ st, cond st = true → ok st → ∃ L2, TN (U st (wipeE L dead)) body L2 ∧ Wk L2 (U (step st) (wipeE L dead))) (hok : WhOk cond okc ok step n st0) : TN L (mWhile n t body) (U (whl cond step n st0) (wipeE L dead)) :=
  tn_while (fun st => U st (wipeE L dead)) cond okc ok step h0 hc hb hok
theorem tn_ifU {t : M Bool} {s1 s2 : MS} {p : Bool} (U : σ → Env → Env) (dead : List Nat) {v1 v2 : σ} (ht : TM L t p) (ha : p = true → ∃ L1, TN L s1 L1 ∧ Wk L1 (U v1 (wipeE L dead))) (hb : p = false → ∃ L1, TN L s2 L1 ∧ Wk L1 (U v2 (wipeE L dead))) :
    TN L (mIfS t s1 s2) (U (if p = true then v1 else v2) (wipeE L dead)) :=
  tn_if (fun v => U v (wipeE L dead)) ht (fun h => by obtain ⟨L1, h1, h2⟩ := ha h; exact tn_wk h1 h2) (fun h => by obtain ⟨L1, h1, h2⟩ := hb h; exact tn_wk h1 h2)
end
end Pu
end

noncomputable section
set_option Elab.async false
set_option linter.all false
set_option maxRecDepth 100000
set_option maxHeartbeats 2000000
/-! PtD: the typed layer: dicts, as lists of pairs in their order. -/
namespace Pu
open PySem PySem.Spec L2
section
variable {κ τ σ : Type} {a : Cd κ} {c : Cd τ}
def dlk [DecidableEq κ] : List (κ × τ) → κ → Option τ
  | [], _ => none
  | p :: r, k => if p.1 = k then some p.2 else dlk r k
def dget [DecidableEq κ] [Inhabited τ] (xs : List (κ × τ)) (k : κ) : τ := (dlk xs k).getD default
def dput [DecidableEq κ] (xs : List (κ × τ)) (k : κ) (v : τ) : List (κ × τ) := if (xs.any fun p => decide (p.1 = k)) = true then xs.map (fun p => if p.1 = k then (p.1, v) else p) else xs ++ [(k, v)]
/-- values that can be keys -/
structure KC (a : Cd κ) : Prop where
  eq : ∀ [DecidableEq κ] (x y : κ), keq (a.enc x) (a.enc y) = decide (x = y)
  kd : (∀ x, flK (a.enc x) = true) ∨ ∀ x, tpK (a.enc x) = true
theorem kcI : KC cI := ⟨fun x y => by simp [cI, keq], .inl fun _ => rfl⟩
theorem kcS : KC cS := ⟨fun x y => by simp [cS, keq, txS_inj], .inl fun _ => rfl⟩
theorem kcG : KC cG := ⟨fun x y => by simp [cG, keq, txS_inj], .inl fun _ => rfl⟩
theorem kc2II : KC (cP2 cI cI) := ⟨fun x y => by simp [cP2, cI, keq, keqs, keq0, Prod.ext_iff], .inr fun _ => rfl⟩
theorem kindOk_enc (h : KC a) (xs : List (κ × τ)) (k : κ) : kindOk (xs.map fun p => (a.enc p.1, c.enc p.2)) (a.enc k) = true := by
  rcases h.kd with h | h
  · have hk := h k
    have ha : ((xs.map fun p => (a.enc p.1, c.enc p.2)).all fun p => flK p.1) = true := by
      rw [List.all_map]; simp [h]
    cases e : a.enc k with
    | int i => exact ha
    | str x => exact ha
    | _ => rw [e] at hk; cases hk
  · have hk := h k
    have ha : ((xs.map fun p => (a.enc p.1, c.enc p.2)).all fun p => tpK p.1) = true := by
      rw [List.all_map]; simp [h]
    cases e : a.enc k with
    | tuple ys =>
      rw [e] at hk
      have hk : ys.all flK = true := hk
      show (ys.all flK && _) = true
      rw [hk, ha]; rfl
    | _ => rw [e] at hk; cases hk
theorem dputL_enc [DecidableEq κ] (h : KC a) (xs : List (κ × τ)) (k : κ) (v : τ) : dputL (xs.map fun p => (a.enc p.1, c.enc p.2)) (a.enc k) (c.enc v) = (dput xs k v).map fun p => (a.enc p.1, c.enc p.2) := by
  unfold dputL dput
  rw [List.any_map]
  have e : ((fun p : D × D => keq p.1 (a.enc k)) ∘ fun p : κ × τ => (a.enc p.1, c.enc p.2)) = fun p => decide (p.1 = k) := by
    funext p; exact h.eq p.1 k
  rw [e]
  split
  · rw [List.map_map, List.map_map]
    apply List.map_congr_left
    intro p _
    show (if keq (a.enc p.1) (a.enc k) = true then (a.enc p.1, c.enc v) else (a.enc p.1, c.enc p.2)) = _
    rw [h.eq]
    by_cases q : p.1 = k
    · simp [q]
    · simp [q]
  · simp
theorem dput_len [DecidableEq κ] (xs : List (κ × τ)) (k : κ) (v : τ) : (dput xs k v).length ≤ xs.length + 1 := by
  unfold dput
  split <;> simp
theorem dputD_enc [DecidableEq κ] (h : KC a) (xs : List (κ × τ)) (k : κ) (v : τ) (lo : xs.length < 16777216) : dputD (xs.map fun p => (a.enc p.1, c.enc p.2)) (a.enc k) (c.enc v) = some ((dput xs k v).map fun p => (a.enc p.1, c.enc p.2)) := by
  unfold dputD
  rw [kindOk_enc h, dputL_enc h, Bool.and_true, List.length_map]
  exact if_pos (ltN_tt lo)
theorem dfind_enc [DecidableEq κ] (h : KC a) (k : κ) : ∀ xs : List (κ × τ), dfind (xs.map fun p => (a.enc p.1, c.enc p.2)) (a.enc k) = (dlk xs k).map c.enc
  | [] => rfl
  | p :: xs => by
    rw [List.map_cons]
    show (if keq (a.enc p.1) (a.enc k) = true then some (c.enc p.2) else dfind _ _) = _
    rw [h.eq, dfind_enc h k xs]
    by_cases q : p.1 = k
    · simp [q, dlk]
    · simp [q, dlk]
theorem o_dget [DecidableEq κ] [Inhabited τ] {xs : List (κ × τ)} {k : κ} (h : KC a) (hk : (dlk xs k).isSome = true) : dgD ((cD a c).enc xs) (a.enc k) = some (c.enc (dget xs k)) := by
  have e := dfind_enc (c := c) h k xs
  obtain ⟨v, hv⟩ := Option.isSome_iff_exists.mp hk
  rw [hv] at e
  have e2 : dget xs k = v := by unfold dget; rw [hv]; rfl
  rw [e2]
  have key : dgD ((cD a c).enc xs) (a.enc k) = dfind (xs.map fun p => (a.enc p.1, c.enc p.2)) (a.enc k) := by
    rcases h.kd with h | h
    · have hk := h k
      show dgD (.dict _) (a.enc k) = _
      cases q : a.enc k with
      | int i => rfl
      | str x => rfl
      | _ => rw [q] at hk; cases hk
    · have hk := h k
      show dgD (.dict _) (a.enc k) = _
      cases q : a.enc k with
      | tuple ys =>
        rw [q] at hk
        exact if_pos hk
      | _ => rw [q] at hk; cases hk
  rw [key, e]; rfl
/-! ### sorted(d) -/
theorem o_sortD [DecidableEq κ] {xs : List (κ × τ)} (h : AK a) (so : SO a) (kt : ∀ x, tpK (a.enc x) = true) (hn : xs ≠ []) (hd : a.dp ≤ 64 := by decide) : sortDD ((cD a c).enc xs) = some ((cL a).enc (srtC a (xs.map Prod.fst))) := by
  have e1 : (xs.map fun p => (a.enc p.1, c.enc p.2)).map Prod.fst = (xs.map Prod.fst).map a.enc := by rw [List.map_map, List.map_map]; rfl
  have e2 : ((xs.map fun p => (a.enc p.1, c.enc p.2)).all fun p => tpK p.1) = true := by rw [List.all_map]; simp [kt]
  have e3 : (!(xs.map fun p => (a.enc p.1, c.enc p.2)).isEmpty) = true := by cases xs with | nil => exact absurd rfl hn | cons _ _ => rfl
  show (if _ then _ else _) = _
  rw [e1, e2, e3, sortOk_enc h so hd, srt_enc]
  rfl
/-! ### statements -/
variable {L : Env} {mk mv e : M D}
theorem tn_put (i : Nat) [DecidableEq κ] {xs : List (κ × τ)} {k : κ} {v : τ} (h : KC a) (hk : TM L mk (a.enc k)) (hv : TM L mv (c.enc v)) (lo : xs.length < 16777216) (hi : L[i]? = some (.at (.od (xs.map fun p => (a.enc p.1, c.enc p.2)))) := by rfl) : TN L (mPut i mk mv) (L.set i (.at (.od ((dput xs k v).map fun p => (a.enc p.1, c.enc p.2))))) := fun s hs => by
  obtain ⟨u, h1, h2⟩ := hs.get i hi
  subst h2
  have e1 := hv s hs
  have e2 := hk s hs
  have ew : s.wc s.c = s := rfl
  refine ⟨_, ?_, hs.set i rfl⟩
  simp only [mPut_ap, h1, e1, mErr_ok, ew, e2, dputD_enc h xs k v lo]
theorem tn_setD (i : Nat) {xs : List (κ × τ)} (h : TM L e ((cD a c).enc xs)) : TN L (mSetF i e) (L.set i (.at (.od (xs.map fun p => (a.enc p.1, c.enc p.2))))) := tn_set i h rfl
theorem tm_dct0 : TM L (rt (.dict [])) ((cD a c).enc []) := tm_rt
/-! ### what a dict has -/
theorem dlk_put_self [DecidableEq κ] (xs : List (κ × τ)) (k : κ) (v : τ) : dlk (dput xs k v) k = some v := by
  unfold dput
  split
  · rename_i h
    induction xs with
    | nil => cases h
    | cons p xs ih =>
      rw [List.map_cons]
      by_cases q : p.1 = k
      · simp [q, dlk]
      · simp only [q, if_false, dlk]
        simp [q] at h
        exact ih (by simpa using h)
  · rename_i h
    induction xs with
    | nil => simp [dlk]
    | cons p xs ih =>
      simp only [List.any_cons, Bool.or_eq_true, not_or, decide_eq_true_eq] at h
      simp only [List.cons_append, dlk, h.1, if_false]
      exact ih h.2
theorem dlk_put_ne [DecidableEq κ] {xs : List (κ × τ)} {k j : κ} {v : τ} (h : j ≠ k) : dlk (dput xs k v) j = dlk xs j := by
  unfold dput
  split
  · rename_i ha
    clear ha
    induction xs with
    | nil => rfl
    | cons p xs ih =>
      rw [List.map_cons]
      by_cases q : p.1 = k
      · simp only [q, if_true, dlk]
        rw [if_neg (fun z => h z.symm), if_neg (fun z => h z.symm), ih]
      · simp only [q, if_false, dlk, ih]
  · rename_i ha
    clear ha
    induction xs with
    | nil => simp [dlk, Ne.symm h]
    | cons p xs ih => simp only [List.cons_append, dlk, ih]
theorem dlk_put [DecidableEq κ] (xs : List (κ × τ)) (k j : κ) (v : τ) : dlk (dput xs k v) j = if j = k then some v else dlk xs j := by
  by_cases h : j = k
  · rw [if_pos h, h, dlk_put_self]
  · rw [if_neg h, dlk_put_ne h]
theorem keys_put_new [DecidableEq κ] {xs : List (κ × τ)} {k : κ} {v : τ} (h : k ∉ xs.map Prod.fst) : dput xs k v = xs ++ [(k, v)] := by
  unfold dput
  rw [if_neg]
  simp only [List.any_eq_true, decide_eq_true_eq, not_exists, not_and]
  intro p hp e
  exact h (List.mem_map.mpr ⟨p, hp, e⟩)
theorem keys_put_old [DecidableEq κ] {xs : List (κ × τ)} {k : κ} {v : τ} (h : k ∈ xs.map Prod.fst) : (dput xs k v).map Prod.fst = xs.map Prod.fst := by
  unfold dput
  have ha : (xs.any fun p => decide (p.1 = k)) = true := by
    obtain ⟨p, hp, e⟩ := List.mem_map.mp h
    simp only [List.any_eq_true, decide_eq_true_eq]
    exact ⟨p, hp, e⟩
  rw [if_pos ha, List.map_map]
  apply List.map_congr_left
  intro p _
  show (if p.1 = k then (p.1, v) else p).1 = p.1
  split <;> rfl
theorem dlk_mem [DecidableEq κ] {xs : List (κ × τ)} {k : κ} : (dlk xs k).isSome = true ↔ k ∈ xs.map Prod.fst := by
  induction xs with
  | nil => simp [dlk]
  | cons p xs ih =>
    simp only [dlk, List.map_cons, List.mem_cons]
    by_cases q : p.1 = k
    · simp [q]
    · simp only [q, if_false, ih]
      constructor
      · exact .inr
      · rintro (h | h)
        · exact absurd h.symm q
        · exact h
theorem dget_put_self [DecidableEq κ] [Inhabited τ] (xs : List (κ × τ)) (k : κ) (v : τ) : dget (dput xs k v) k = v := by unfold dget; rw [dlk_put_self]; rfl
theorem dget_put_ne [DecidableEq κ] [Inhabited τ] {xs : List (κ × τ)} {k j : κ} {v : τ} (h : j ≠ k) : dget (dput xs k v) j = dget xs j := by unfold dget; rw [dlk_put_ne h]
theorem seq_L {xs : List τ} : seqD ((cL c).enc xs) = some (xs.map c.enc) := rfl
theorem seq_T {xs : List τ} : seqD ((cT c).enc xs) = some (xs.map c.enc) := rfl
theorem seq_S {l : List Sg} : seqD (cS.enc l) = some (l.map cG.enc) := o_iterS
theorem o_zipG {α β : Type} {a : Cd α} {b : Cd β} {A B : D} {xs : List α} {ys : List β} (h1 : seqD A = some (xs.map a.enc)) (h2 : seqD B = some (ys.map b.enc)) : zipD [A, B] = some ((xs.zip ys).map (cP2 a b).enc) := by
  show ((seqD A).bind fun xs => (seqD B).map fun ys => zipL xs ys) = _
  rw [h1, h2, ← zipL_enc]; rfl
theorem o_enumG {A : D} {xs : List τ} (h1 : seqD A = some (xs.map c.enc)) : enumD [A] = some ((enumI xs).map (cP2 cI c).enc) := by
  show (seqD A).map enumL = _
  rw [h1]
  show some (enumL (xs.map c.enc)) = _
  unfold enumL enumI
  rw [List.map_zipWith, List.length_map, List.zipWith_map_right]; rfl
theorem tm_listZip {α β : Type} {a : Cd α} {b : Cd β} {m : M (List D)} {xs : List α} {ys : List β} (h : TM L m [(cL a).enc xs, (cL b).enc ys]) : TM L (mListZip m) ((cL (cP2 a b)).enc (xs.zip ys)) := fun s hs => by
  have e : lzD [(cL a).enc xs, (cL b).enc ys] = some ((cL (cP2 a b)).enc (xs.zip ys)) := by
    show some (PyData.list (zipL (xs.map a.enc) (ys.map b.enc))) = _
    rw [zipL_enc]; rfl
  simp [bnd, h s hs, lift, e]
theorem tx_frD (i : Nat) {xs : List (κ × τ)} {m : MS} {P : Int × Int → RS → Prop} (h : TX (L.set i (.at (.fz ((cD a c).enc xs)))) m P) (hi : L[i]? = some (.at (.od (xs.map fun p => (a.enc p.1, c.enc p.2)))) := by rfl) : TX L (mFrz i m) P := fun s hs => by
  obtain ⟨u, h1, h2⟩ := hs.get i hi
  subst h2
  refine h (s.frz i) ?_
  have : (s.frz i).r = s.r.set i (.fz ((cD a c).enc xs)) := by
    show s.r.modify i frzSl = _
    rw [modify_set h1]; rfl
  rw [this]
  exact hs.set i rfl
theorem tx_frDi (i : Nat) {xs : List (κ × τ)} {m : MS} {P : Int × Int → RS → Prop} (h : TX (L.set i (.at (.fz ((cD a c).enc xs)))) m P) (hi : L[i]? = some (.di (xs.map fun p => (a.enc p.1, c.enc p.2))) := by rfl) : TX L (mFrz i m) P := fun s hs => by
  obtain ⟨u, h1, h2⟩ := hs.get i hi
  refine h (s.frz i) ?_
  have : (s.frz i).r = s.r.set i (.fz ((cD a c).enc xs)) := by
    show s.r.modify i frzSl = _
    rw [modify_set h1]
    rcases h2 with rfl | rfl <;> rfl
  rw [this]
  exact hs.set i rfl
end
end Pu
end

noncomputable section
set_option Elab.async false
set_option linter.all false
set_option maxRecDepth 100000
set_option maxHeartbeats 2000000
/-! Pt4: the typed layer: what is drawn. -/
namespace Pu
open PySem PySem.Spec L2
inductive F2 {α β : Type} (R : α → β → Prop) : List α → List β → Prop
  | nil : F2 R [] []
  | cons {x : α} {y : β} {xs : List α} {ys : List β} : R x y → F2 R xs ys → F2 R (x :: xs) (y :: ys)
/-- an expression that draws: whatever is drawn, it comes to some x with Q x, where W Q -/
def WG {α τ : Type} (L : Env) (m : M α) (enc : τ → α) (W : (τ → Prop) → Prop) : Prop := ∀ (s : S) (Q : τ → Prop), CupOk s.c → Fits L s.r → W Q → ∃ x c, m s = .ok (enc x) c ∧ CupOk c ∧ Q x
/-- a def that draws -/
def WF {τ : Type} (φ : Int × Int → List D → R D) (ds : List D) (c : Cd τ) (W : (τ → Prop) → Prop) : Prop := ∀ (c0 : Int × Int) (Q : τ → Prop), CupOk c0 → W Q → ∃ x c', φ c0 ds = .ok (c.enc x) c' ∧ CupOk c' ∧ Q x
section
variable {L L1 L2 : Env} {α β γ τ σ ρ : Type} {W : (τ → Prop) → Prop} {Wa : (α → Prop) → Prop} {Wb : (β → Prop) → Prop} {a b m : M D}
theorem fits_c {s : S} {c : Int × Int} (h : Fits L s.r) : Fits L (s.wc c).r := h
theorem wg_p {m : M ρ} {enc : τ → ρ} {x : τ} (h : TM L m (enc x)) : WG L m enc (fun Q => Q x) := fun s Q hc hs hq => ⟨x, s.c, h s hs, hc, hq⟩
theorem wg_c {m : M ρ} {enc : τ → ρ} {x : τ} {cond : Prop} (h : cond → TM L m (enc x)) : WG L m enc (fun Q => cond ∧ Q x) := fun s Q hc hs hq => ⟨x, s.c, h hq.1 s hs, hc, hq.2⟩
theorem wg_map {m : M ρ} {e1 : α → ρ} {e2 : β → ρ} (f : α → β) (he : ∀ x, e1 x = e2 (f x)) (h : WG L m e1 Wa) : WG L m e2 (fun Q => Wa fun x => Q (f x)) := fun s Q hc hs hq => by
  obtain ⟨x, c, e, h1, h2⟩ := h s _ hc hs hq
  exact ⟨f x, c, by rw [e, he], h1, h2⟩
theorem wg_m1 {g : D → Option D} {e1 : α → D} {e2 : β → D} {ok : α → Prop} {f : α → β} (ha : WG L a e1 Wa) (hg : ∀ x, ok x → g (e1 x) = some (e2 (f x))) : WG L (m1 g a) e2 (fun Q => Wa fun x => ok x ∧ Q (f x)) := fun s Q hc hs hq => by
  obtain ⟨x, c, e, h1, h2, h3⟩ := ha s _ hc hs hq
  exact ⟨f x, c, by simp [m1, bnd, e, lift, hg x h2], h1, h3⟩
theorem wg_m2 {g : D → D → Option D} {e1 : α → D} {e2 : β → D} {e3 : γ → D} {ok : α → β → Prop} {f : α → β → γ} (ha : WG L a e1 Wa) (hb : WG L b e2 Wb) (hg : ∀ x y, ok x y → g (e1 x) (e2 y) = some (e3 (f x y))) : WG L (m2 g a b) e3 (fun Q => Wa fun x => Wb fun y => ok x y ∧ Q (f x y)) := fun s Q hc hs hq => by
  obtain ⟨x, c, e, h1, h2⟩ := ha s _ hc hs hq
  obtain ⟨y, c', e', h1', h2', h3'⟩ := hb (s.wc c) _ h1 (fits_c hs) h2
  exact ⟨f x y, c', by simp [m2, bnd, e, e', lift, hg x y h2'], h1', h3'⟩
theorem wg_mB {W : (Bool → Prop) → Prop} (ha : WG L a cB.enc W) : WG L (mB a) id W := fun s Q hc hs hq => by
  obtain ⟨x, c, e, h1, h2⟩ := ha s _ hc hs hq
  exact ⟨x, c, by simp [mB, bnd, e, lift, cB], h1, h2⟩
theorem wg_not {m : M Bool} {W : (Bool → Prop) → Prop} (ha : WG L m id W) : WG L (mNot m) id (fun Q => W fun p => Q (!p)) := fun s Q hc hs hq => by
  obtain ⟨x, c, e, h1, h2⟩ := ha s _ hc hs hq
  exact ⟨!x, c, by simp [mNot, bnd, e], h1, h2⟩
theorem wg_nil : WG L aNil (fun _ : Unit => []) (fun Q => Q ()) := wg_p tm_anil
theorem wg_cons {e : M (List D)} {e1 : α → D} {e2 : β → List D} (ha : WG L a e1 Wa) (hb : WG L e e2 Wb) : WG L (aCons a e) (fun p : α × β => e1 p.1 :: e2 p.2) (fun Q => Wa fun x => Wb fun y => Q (x, y)) := fun s Q hc hs hq => by
  obtain ⟨x, c, e, h1, h2⟩ := ha s _ hc hs hq
  obtain ⟨y, c', e', h1', h2'⟩ := hb (s.wc c) _ h1 (fits_c hs) h2
  exact ⟨(x, y), c', by simp [aCons, bnd, e, e', rt], h1', h2'⟩
theorem wg_tup {e : M (List D)} {e1 : α → List D} (ha : WG L e e1 Wa) (hl : ∀ x, (e1 x).length ≤ 100 := by intro _; simp) : WG L (mTup e) (fun x => .tuple (e1 x)) Wa := fun s Q hc hs hq => by
  obtain ⟨x, c, e, h1, h2⟩ := ha s _ hc hs hq
  exact ⟨x, c, by simp [mTup, bnd, e, lift, lenOk_s (hl x)], h1, h2⟩
theorem wg_lst {e : M (List D)} {e1 : α → List D} (ha : WG L e e1 Wa) (hl : ∀ x, (e1 x).length ≤ 100 := by intro _; simp) : WG L (mLst e) (fun x => .list (e1 x)) Wa := fun s Q hc hs hq => by
  obtain ⟨x, c, e, h1, h2⟩ := ha s _ hc hs hq
  exact ⟨x, c, by simp [mLst, bnd, e, lift, lenOk_s (hl x)], h1, h2⟩
theorem wg_call {φ : List D → O} {e : M (List D)} {e1 : α → List D} {c : Cd β} {ok : α → Prop} {f : α → β} (ha : WG L e e1 Wa) (h : ∀ x, ok x → φ (e1 x) = .ok (c.enc (f x))) : WG L (mCall φ e) c.enc (fun Q => Wa fun x => ok x ∧ Q (f x)) := fun s Q hc hs hq => by
  obtain ⟨x, c', e, h1, h2, h3⟩ := ha s _ hc hs hq
  exact ⟨f x, c', by simp [bnd, e, h x h2], h1, h3⟩
theorem wg_callC (i : Nat) {φ : Int × Int → List D → R D} {e : M (List D)} {e1 : α → List D} {c : Cd β} {Wf : α → (β → Prop) → Prop} (ha : WG L e e1 Wa) (h : ∀ x, WF φ (e1 x) c (Wf x)) (hi : L[i]? = some (.at .cup) := by rfl) :
    WG L (mCallC i φ e) c.enc (fun Q => Wa fun x => Wf x Q) := fun s Q hc hs hq => by
  obtain ⟨u, k1, k2⟩ := hs.get i hi
  have k2 : u = .cup := k2
  subst k2
  obtain ⟨x, c', e, h1, h2⟩ := ha s _ hc hs hq
  obtain ⟨y, c2, e2, h3, h4⟩ := h x c' Q h1 h2
  exact ⟨y, c2, by simp [k1, bnd, e, e2], h3, h4⟩
theorem wg_if {t : M Bool} {c : Cd τ} {Wt : (Bool → Prop) → Prop} {W1 W2 : (τ → Prop) → Prop} (ht : WG L t id Wt) (ha : WG L a c.enc W1) (hb : WG L b c.enc W2) : WG L (mIf t a b) c.enc (fun Q => Wt fun p => (p = true → W1 Q) ∧ (p = false → W2 Q)) := fun s Q hc hs hq => by
  obtain ⟨p, c', e, h1, h2, h3⟩ := ht s _ hc hs hq
  cases p with
  | true =>
    obtain ⟨x, c2, e2, k⟩ := ha (s.wc c') Q h1 (fits_c hs) (h2 rfl)
    exact ⟨x, c2, by simp only [mIf, bnd, e, id]; exact e2, k⟩
  | false =>
    obtain ⟨x, c2, e2, k⟩ := hb (s.wc c') Q h1 (fits_c hs) (h3 rfl)
    exact ⟨x, c2, by simp only [mIf, bnd, e, id]; exact e2, k⟩
theorem wg_I {g : D → Option (List D)} {e1 : α → D} {e2 : β → List D} {ok : α → Prop} {f : α → β} (ha : WG L a e1 Wa) (hg : ∀ x, ok x → g (e1 x) = some (e2 (f x))) : WG L (mI g a) e2 (fun Q => Wa fun x => ok x ∧ Q (f x)) := fun s Q hc hs hq => by
  obtain ⟨x, c, e, h1, h2, h3⟩ := ha s _ hc hs hq
  exact ⟨f x, c, by simp [bnd, e, lift, hg x h2], h1, h3⟩
theorem wg_join {z : Str} {e1 : α → D} {e2 : β → D} {ok : α → Prop} {f : α → β} (ha : WG L a e1 Wa) (hg : ∀ x, ok x → joinD (.str z) (e1 x) = some (e2 (f x))) : WG L (mJoin z a) e2 (fun Q => Wa fun x => ok x ∧ Q (f x)) := wg_m1 ha hg
/-- what is drawn for each of a list -/
def Wall {α β : Type} (xs : List α) (We : α → (β → Prop) → Prop) (Q : List β → Prop) : Prop := ∃ R : α → β → Prop, (∀ x ∈ xs, We x (R x)) ∧ ∀ ys, F2 R xs ys → Q ys
theorem wg_lc0 {it : M (List D)} {bd : Bd} {e : M D} {vs : List Nat} {g : α → D} {c : Cd β} {Wi : (List α → Prop) → Prop} {We : α → (β → Prop) → Prop} (hit : WG L it (List.map g) Wi)
    (he : ∀ x, ∃ L1, TBd bd (g x) (wipeE L vs) L1 ∧ WG L1 e c.enc (We x)) : WG L (mLc vs it bd mYes e) (cL c).enc (fun Q => Wi fun xs => xs.length ≤ 16777216 ∧ Wall xs We Q) := fun s Q hc hs hq => by
  obtain ⟨xs, c1, e1, hc1, lo, R, hR, hq⟩ := hit s _ hc hs hq
  have key : ∀ (xs : List α) (c1 : Int × Int), CupOk c1 → (∀ x ∈ xs, We x (R x)) → ∃ ys c2, lcL bd mYes e (wipeS s vs) (xs.map g) c1 = .ok (ys.map c.enc) c2 ∧ CupOk c2 ∧ F2 R xs ys := fun xs => by
    induction xs with
    | nil => intro c1 h1 _; exact ⟨[], c1, rfl, h1, .nil⟩
    | cons x xs ih =>
      intro c1 h1 hx
      obtain ⟨L1, hb, hw⟩ := he x
      obtain ⟨r, er, hr⟩ := hb ((wipeS s vs).wc c1) (by exact hs.wipe vs)
      obtain ⟨y, c2, ey, hc2, hy⟩ := hw ⟨c1, r⟩ (R x) h1 hr (hx x List.mem_cons_self)
      obtain ⟨ys, c3, eys, hc3, hys⟩ := ih c2 hc2 fun z hz => hx z (List.mem_cons_of_mem _ hz)
      refine ⟨y :: ys, c3, ?_, hc3, .cons hy hys⟩
      rw [List.map_cons]
      unfold lcL
      have er : bd (g x) ((wipeS s vs).wc c1) = some ⟨c1, r⟩ := er
      have ey : e ((⟨c1, r⟩ : S).wc c1) = _ := ey
      simp only [er, mYes_ap, ey, eys, List.map_cons]
  obtain ⟨ys, c2, e2, hc2, hys⟩ := key xs c1 hc1 hR
  refine ⟨ys, c2, ?_, hc2, hq ys hys⟩
  have hl : ys.length = xs.length := by
    have : ∀ {xs : List α} {ys : List β}, F2 R xs ys → ys.length = xs.length := fun h => by
      induction h with
      | nil => rfl
      | cons _ _ ih => simp [ih]
    exact this hys
  have lo' : lenOk (ys.map c.enc) = true := lenOk_tt (by simp; omega)
  have ew : wipeS (s.wc c1) vs = (wipeS s vs).wc c1 := (wipeS_wc s c1 vs).symm
  have e2 : lcL bd mYes e (wipeS s vs) (xs.map g) c1 = _ := e2
  have e3 : ∀ (zs : List D) (c : Int × Int), lcL bd mYes e ((wipeS s vs).wc c1) zs c = lcL bd mYes e (wipeS s vs) zs c := fun zs => by
    induction zs with
    | nil => intro c; rfl
    | cons z zs ih => intro c; unfold lcL; simp only [ih]
  simp only [mLc_ap, bnd, e1, ew, e3, e2, lo', if_true]
  rfl
/-! ### statements -/
def KR {τ : Type} (c : Cd τ) (Q : τ → Prop) (x : RS) : Prop := ∃ y c', x = .ret (c.enc y) c' ∧ CupOk c' ∧ Q y
def KN {σ : Type} (Ls : σ → Env) (Q : σ → Prop) (x : RS) : Prop := ∃ st c' r, x = .next ⟨c', r⟩ ∧ CupOk c' ∧ Fits (Ls st) r ∧ Q st
def WX (L : Env) (m : MS) (P : Prop) (K : RS → Prop) : Prop := P → ∀ s : S, CupOk s.c → Fits L s.r → K (m s)
variable {K : RS → Prop} {x y : MS} {P P1 : Prop}
theorem wx_pure (h : TN L x L1) (hb : WX L1 y P K) : WX L (mSeq x y) P K := fun hp s hc hs => by
  obtain ⟨r, e, hr⟩ := h s hs
  have := hb hp ⟨s.c, r⟩ hc hr
  unfold mSeq
  rw [e]
  exact this
theorem wx_pureC {cond : Prop} (h : cond → TN L x L1) (hb : WX L1 y P K) : WX L (mSeq x y) (cond ∧ P) K := fun hp => wx_pure (h hp.1) hb hp.2
theorem wx_setE (i : Nat) {e : M D} {c : Cd τ} {Pv : τ → Prop} (he : WG L e c.enc W) (hb : ∀ v, WX (L.set i (.at (.fz (c.enc v)))) y (Pv v) K) : WX L (mSeq (mSetE i e) y) (W Pv) K := fun hp s hc hs => by
  obtain ⟨v, c', e', h1, h2⟩ := he s _ hc hs hp
  have := hb v h2 ⟨c', s.r.set i (.fz (c.enc v))⟩ h1 (hs.set i rfl)
  unfold mSeq
  simp only [mSetE, e', mErr_ok]
  exact this
theorem wx_setF (i : Nat) {e : M D} {c : Cd τ} {Pv : τ → Prop} (hsc : ScF c) (he : WG L e c.enc W) (hb : ∀ v, WX (L.set i (.at (.fz (c.enc v)))) y (Pv v) K) : WX L (mSeq (mSetF i e) y) (W Pv) K := fun hp s hc hs => by
  obtain ⟨v, c', e', h1, h2⟩ := he s _ hc hs hp
  have := hb v h2 ⟨c', s.r.set i (.fz (c.enc v))⟩ h1 (hs.set i rfl)
  unfold mSeq
  simp only [mSetF, e', mErr_ok, hsc v]
  exact this
theorem wx_setL (i : Nat) {e : M D} {c : Cd τ} {W : (List τ → Prop) → Prop} {Pv : List τ → Prop} (he : WG L e (cL c).enc W) (hb : ∀ v, WX (L.set i (.at (.ow (v.map c.enc)))) y (Pv v) K) : WX L (mSeq (mSetF i e) y) (W Pv) K := fun hp s hc hs => by
  obtain ⟨v, c', e', h1, h2⟩ := he s _ hc hs hp
  have := hb v h2 ⟨c', s.r.set i (.ow (v.map c.enc))⟩ h1 (hs.set i rfl)
  unfold mSeq
  simp only [mSetF, e', mErr_ok]
  exact this
theorem wx_bind {bd : Bd} {e : M D} {e1 : τ → D} {Pv : τ → Prop} {Lv : τ → Env} (he : WG L e e1 W) (ht : ∀ v, TBd bd (e1 v) L (Lv v)) (hb : ∀ v, WX (Lv v) y (Pv v) K) : WX L (mSeq (mBind bd e) y) (W Pv) K := fun hp s hc hs => by
  obtain ⟨v, c', e', h1, h2⟩ := he s _ hc hs hp
  obtain ⟨r, er, hr⟩ := ht v (s.wc c') hs
  have := hb v h2 ⟨c', r⟩ h1 hr
  unfold mSeq
  simp only [mBind, e', mErr_ok, er]
  exact this
theorem wx_par (i j : Nat) {e f : M D} {c1 : Cd α} {c2 : Cd β} {Pv : α → β → Prop} (hij : i ≠ j) (s1 : ScF c1) (s2 : ScF c2) (he : WG L e c1.enc Wa) (hf : WG L f c2.enc Wb) (hb : ∀ u v, WX ((L.set i (.at (.fz (c1.enc u)))).set j (.at (.fz (c2.enc v)))) y (Pv u v) K) : WX L (mSeq (mPar i j e f) y) (Wa fun u => Wb fun v => Pv u v) K := fun hp s hc hs => by
  obtain ⟨u, c', e', h1, h2⟩ := he s _ hc hs hp
  obtain ⟨v, c2', e2', h3, h4⟩ := hf (s.wc c') _ h1 hs h2
  have := hb u v h4 ⟨c2', (s.r.set i (.fz (c1.enc u))).set j (.fz (c2.enc v))⟩ h3 ((hs.set i (a := .at (.fz (c1.enc u))) rfl).set j (a := .at (.fz (c2.enc v))) rfl)
  unfold mSeq
  simp only [mPar_ap, e', mErr_ok, e2', s1 u, s2 v]
  exact this
theorem wx_ret {e : M D} {c : Cd τ} {Q : τ → Prop} (he : WG L e c.enc W) : WX L (mRet e) (W Q) (KR c Q) := fun hp s hc hs => by
  obtain ⟨v, c', e', h1, h2⟩ := he s _ hc hs hp
  exact ⟨v, c', by simp [mRet, e'], h1, h2⟩
/-- if t: return False: never -/
theorem wx_never {t : M Bool} {r : MS} {Wt : (Bool → Prop) → Prop} (ht : WG L t id Wt) (hb : WX L y P K) : WX L (mSeq (mIfS t r mNext) y) (Wt fun p => p = false ∧ P) K := fun hp s hc hs => by
  obtain ⟨p, c', e', h1, h2, h3⟩ := ht s _ hc hs hp
  subst h2
  have := hb h3 (s.wc c') h1 (fits_c hs)
  unfold mSeq
  simp only [mIfS_ap, e', mErr_ok, id]
  exact this
theorem wx_wk (w : Wk L L1) (h : WX L1 x P K) : WX L x P K := fun hp s hc hs => h hp s hc (w.fits hs)
theorem wx_next {Ls : σ → Env} {Q : σ → Prop} (st : σ) (w : Wk L (Ls st)) : WX L mNext (Q st) (KN Ls Q) := fun hp s hc hs => ⟨st, s.c, s.r, rfl, hc, w.fits hs, hp⟩
/-- the last statement of a block that goes on -/
theorem wx_last (h : WX L (mSeq x mNext) P K) : WX L x P K := fun hp s hc hs => by
  have := h hp s hc hs
  unfold mSeq at this
  cases e : x s with
  | next s' => rw [e] at this; exact this
  | _ => rw [e] at this; exact this
theorem wx_if {t : M Bool} {p : Bool} {a b : MS} {P2 : Prop} (ht : TM L t p) (ha : p = true → WX L a P1 K) (hb : p = false → WX L b P2 K) : WX L (mIfS t a b) ((p = true → P1) ∧ (p = false → P2)) K := fun hp s hc hs => by
  have e : (s.wc s.c) = s := rfl
  cases p with
  | true => simpa [ht s hs, e] using ha rfl (hp.1 rfl) s hc hs
  | false => simpa [ht s hs, e] using hb rfl (hp.2 rfl) s hc hs
theorem wx_seq {Ls : σ → Env} {Wx : (σ → Prop) → Prop} {Pv : σ → Prop} (ha : ∀ Q, WX L x (Wx Q) (KN Ls Q)) (hb : ∀ st, WX (Ls st) y (Pv st) K) : WX L (mSeq x y) (Wx Pv) K := fun hp s hc hs => by
  obtain ⟨st, c', r, e, h1, h2, h3⟩ := ha Pv hp s hc hs
  have := hb st h3 ⟨c', r⟩ h1 h2
  unfold mSeq
  rw [e]
  exact this
theorem wx_frz (i : Nat) (h : ∀ P' : Int × Int → RS → Prop, TX L1 x P' → TX L (mFrz i x) P') (hx : WX L1 x P K) : WX L (mFrz i x) P K := fun hp s hc hs => by
  have := h (fun c y => CupOk c → K y) (fun s hs hc => hx hp s hc hs) s hs hc
  exact this
/-- a walk over a list, each turn draws: nothing is carried -/
theorem wx_for0 {bd : Bd} {it : M (List D)} {body : MS} {g : α → D} {Wi : (List α → Prop) → Prop} {Pb : α → Prop} (L0 : Env) (hit : WG L it (List.map g) Wi) (hw : Wk L L0)
    (hb : ∀ v, ∃ L1, TBd bd (g v) L0 L1 ∧ WX L1 body (Pb v) (KN (fun _ : Unit => L0) fun _ => True)) (hy : WX L0 y P K) : WX L (mSeq (mFor bd it body) y) (Wi fun xs => (∀ v ∈ xs, Pb v) ∧ P) K := fun hp s hc hs => by
  obtain ⟨xs, c1, e1, hc1, h1, h2⟩ := hit s _ hc hs hp
  have key : ∀ (xs : List α) (s : S), CupOk s.c → Fits L0 s.r → (∀ v ∈ xs, Pb v) → ∃ c r, loopL bd body (xs.map g) s = .next ⟨c, r⟩ ∧ CupOk c ∧ Fits L0 r := fun xs => by
    induction xs with
    | nil => intro s hc hs _; exact ⟨s.c, s.r, rfl, hc, hs⟩
    | cons v xs ih =>
      intro s hc hs hx
      obtain ⟨L1, hb1, hb2⟩ := hb v
      obtain ⟨r, er, hr⟩ := hb1 s hs
      obtain ⟨_, c2, r2, e2, hc2, hr2, _⟩ := hb2 (hx v List.mem_cons_self) ⟨s.c, r⟩ hc hr
      obtain ⟨c3, r3, e3, hc3, hr3⟩ := ih ⟨c2, r2⟩ hc2 hr2 fun z hz => hx z (List.mem_cons_of_mem _ hz)
      refine ⟨c3, r3, ?_, hc3, hr3⟩
      rw [List.map_cons]
      unfold loopL
      rw [er]
      simp only [e2]
      exact e3
  obtain ⟨c2, r2, e2, hc2, hr2⟩ := key xs (s.wc c1) hc1 (hw.fits hs) h1
  have := hy h2 ⟨c2, r2⟩ hc2 hr2
  unfold mSeq
  simp only [mFor_ap, e1, mErr_ok, e2]
  exact this
/-- a walk over a list, each turn draws; an invariant over what is carried -/
def WFor {α σ : Type} (xs : List α) (st0 : σ) (Wb : σ → α → (σ → Prop) → Prop) (Q : σ → Prop) : Prop := ∃ I : List α → σ → Prop, I [] st0 ∧ (∀ pre v post st, xs = pre ++ v :: post → I pre st → Wb st v (I (pre ++ [v]))) ∧ ∀ st, I xs st → Q st
theorem wx_for {bd : Bd} {it : M (List D)} {body : MS} {g : α → D} {Wi : (List α → Prop) → Prop} {Wb : σ → α → (σ → Prop) → Prop} {st0 : σ} {Pv : σ → Prop} (U : σ → Env → Env) (L0 : Env) (hit : WG L it (List.map g) Wi) (hw : Wk L (U st0 L0))
    (hb : ∀ st v Q, ∃ L1, TBd bd (g v) (U st L0) L1 ∧ WX L1 body (Wb st v Q) (KN (fun st => U st L0) Q)) (hy : ∀ st, WX (U st L0) y (Pv st) K) : WX L (mSeq (mFor bd it body) y) (Wi fun xs => WFor xs st0 Wb Pv) K := fun hp s hc hs => by
  obtain ⟨xs, c1, e1, hc1, I, i0, i1, i2⟩ := hit s _ hc hs hp
  have key : ∀ (ys pre : List α) (st : σ) (s : S), xs = pre ++ ys → I pre st → CupOk s.c → Fits (U st L0) s.r → ∃ st' c r, loopL bd body (ys.map g) s = .next ⟨c, r⟩ ∧ CupOk c ∧ Fits (U st' L0) r ∧ I xs st' := fun ys => by
    induction ys with
    | nil => intro pre st s e hi hc hs; exact ⟨st, s.c, s.r, rfl, hc, hs, by rw [e, List.append_nil]; exact hi⟩
    | cons v ys ih =>
      intro pre st s e hi hc hs
      obtain ⟨L1, hb1, hb2⟩ := hb st v (I (pre ++ [v]))
      obtain ⟨r, er, hr⟩ := hb1 s hs
      obtain ⟨st2, c2, r2, e2, hc2, hr2, hi2⟩ := hb2 (i1 pre v ys st e hi) ⟨s.c, r⟩ hc hr
      obtain ⟨st3, c3, r3, e3, k⟩ := ih (pre ++ [v]) st2 ⟨c2, r2⟩ (by rw [e]; simp) hi2 hc2 hr2
      refine ⟨st3, c3, r3, ?_, k⟩
      rw [List.map_cons]
      unfold loopL
      rw [er]
      simp only [e2]
      exact e3
  obtain ⟨st2, c2, r2, e2, hc2, hr2, hi2⟩ := key xs [] st0 (s.wc c1) rfl i0 hc1 (hw.fits hs)
  have := hy st2 (i2 st2 hi2) ⟨c2, r2⟩ hc2 hr2
  unfold mSeq
  simp only [mFor_ap, e1, mErr_ok, e2]
  exact this
def WWh {σ : Type} (st0 : σ) (cond : σ → Bool) (okc : σ → Prop) (Wb : σ → (σ → Prop) → Prop) (n : Nat) (Q : σ → Prop) : Prop := ∃ (I : σ → Prop) (μ : σ → Nat), I st0 ∧ μ st0 < n ∧ (∀ st, I st → okc st ∧ (cond st = true → Wb st fun st' => I st' ∧ μ st' < μ st) ∧ (cond st = false → Q st))
theorem wx_while {t : M Bool} {body : MS} {n : Nat} {Wb : σ → (σ → Prop) → Prop} {st0 : σ} {Pv : σ → Prop} (U : σ → Env → Env) (L0 : Env) (cond : σ → Bool) (okc : σ → Prop) (hw : Wk L (U st0 L0)) (hc0 : ∀ st, okc st → TM (U st L0) t (cond st))
    (hb : ∀ st Q, WX (U st L0) body (Wb st Q) (KN (fun st => U st L0) Q)) (hy : ∀ st, WX (U st L0) y (Pv st) K) : WX L (mSeq (mWhile n t body) y) (WWh st0 cond okc Wb n Pv) K := fun ⟨I, μ, i0, m0, hI⟩ s hc hs => by
  have key : ∀ (n : Nat) (st : σ) (s : S), I st → μ st < n → CupOk s.c → Fits (U st L0) s.r → ∃ st' c r, mWhile n t body s = .next ⟨c, r⟩ ∧ CupOk c ∧ Fits (U st' L0) r ∧ Pv st' := fun n => by
    induction n with
    | zero => intro st s _ h; exact absurd h (Nat.not_lt_zero _)
    | succ n ih =>
      intro st s hi hm hc hs
      obtain ⟨h1, h2, h3⟩ := hI st hi
      have e0 : s.wc s.c = s := rfl
      rw [mWhile_succ, hc0 st h1 s hs]
      cases e : cond st with
      | false => exact ⟨st, s.c, s.r, rfl, hc, hs, h3 e⟩
      | true =>
        obtain ⟨st2, c2, r2, e2, hc2, hr2, hi2, hm2⟩ := hb st _ (h2 e) s hc hs
        obtain ⟨st3, c3, r3, e3, k⟩ := ih st2 ⟨c2, r2⟩ hi2 (by omega) hc2 hr2
        refine ⟨st3, c3, r3, ?_, k⟩
        simp only [mErr_ok, e0, e2]
        exact e3
  obtain ⟨st2, c2, r2, e2, hc2, hr2, hp2⟩ := key n st0 s i0 m0 hc (hw.fits hs)
  have := hy st2 hp2 ⟨c2, r2⟩ hc2 hr2
  unfold mSeq
  rw [e2]
  exact this
/-! ### whole defs -/
theorem finC_wx {r : List Sl} {c : Cd τ} {x : MS} {Q : τ → Prop} {c0 : Int × Int} (h : WX L x P (KR c Q)) (hp : P) (hc : CupOk c0) (hf : Fits L r) : ∃ y c', finC (x ⟨c0, r⟩) = .ok (c.enc y) c' ∧ CupOk c' ∧ Q y := by
  obtain ⟨y, c', e, h1, h2⟩ := h hp ⟨c0, r⟩ hc hf
  exact ⟨y, c', by rw [e]; rfl, h1, h2⟩
def Wroll (n : Int) (Q : Int → Prop) : Prop := (0 < n ∧ n < 536870912) ∧ ∀ v, 0 ≤ v → v < n → Q v
theorem w_roll {roll : Int × Int → List D → R D} (hr : RollOk roll) (n : Int) : WF roll [cI.enc n] cI (Wroll n) := fun c0 Q hc ⟨⟨h1, h2⟩, h3⟩ => by
  obtain ⟨r, c', e, hc', r0, r1⟩ := hr c0 hc n h1 h2
  exact ⟨r, c', e, hc', h3 r r0 r1⟩
def Wsome {τ : Type} (xs : List τ) (Q : τ → Prop) : Prop := xs ≠ [] ∧ xs.length < 10000000 ∧ ∀ x ∈ xs, Q x
theorem w_someL {roll : Int × Int → List D → R D} (hr : RollOk roll) {c : Cd τ} (xs : List τ) : WF (phi_law_some roll) [(cL c).enc xs] c (Wsome xs) := fun c0 Q hc ⟨h0, h1, h2⟩ => by
  obtain ⟨d, c', e, hc', hd⟩ := gSome_ok hr hc (xs := xs.map c.enc) (by simpa using h0) (by simpa using h1)
  obtain ⟨x, hx, rfl⟩ := List.mem_map.mp hd
  exact ⟨x, c', e, hc', h2 x hx⟩
theorem w_someT {roll : Int × Int → List D → R D} (hr : RollOk roll) {c : Cd τ} (xs : List τ) : WF (phi_law_some roll) [(cT c).enc xs] c (Wsome xs) := fun c0 Q hc ⟨h0, h1, h2⟩ => by
  obtain ⟨d, c', e, hc', hd⟩ := gSome_okT hr hc (xs := xs.map c.enc) (by simpa using h0) (by simpa using h1)
  obtain ⟨x, hx, rfl⟩ := List.mem_map.mp hd
  exact ⟨x, c', e, hc', h2 x hx⟩
theorem w_someS {roll : Int × Int → List D → R D} (hr : RollOk roll) (l : List Sg) : WF (phi_law_some roll) [cS.enc l] cG (Wsome l) := fun c0 Q hc ⟨h0, h1, h2⟩ => by
  have hp : 0 < l.length := List.length_pos_iff.mpr h0
  obtain ⟨r, c', e, hc', r0, r1⟩ := hr c0 hc l.length (by omega) (by omega)
  have ix := o_ixS (l := l) (i := r) ⟨ixOk_nat r0 r1, by omega⟩
  refine ⟨ixG l r, c', ?_, hc', h2 _ (by rw [ixG_nat r0 r1]; exact List.getElem_mem _)⟩
  have el := o_lenS (l := l) (by omega)
  have e : roll c0 [cI.enc (l.length : Int)] = _ := e
  simp only [phi_law_some, b_law_some, st0]
  have ec : PyData.int r = cI.enc r := rfl
  simp [el, e, ec, ix]
theorem same_eq' : ∀ k, phi_law_same_ k = gSameN k
  | 0 => rfl
  | k + 1 => by funext ds; show fin (b_law_same (phi_law_same_ k) _) = fin (gSame (gSameN k) _); rw [same_eq' k]; rfl
/-- what the law's likeness wants of a value -/
@[irreducible] def Smp (c : Cd τ) (x : τ) : Prop := smp 8 (c.enc x) = true
theorem smp_of {c : Cd τ} {x : τ} (h : smp 8 (c.enc x) = true) : Smp c x := by unfold Smp; exact h
theorem r_same {c : Cd τ} {x y : τ} (h : x = y) (hs : Smp c x) : phi_law_same [c.enc x, c.enc y] = .ok (cB.enc true) := by
  subst h
  rw [phi_law_same, same_eq' 8]; unfold Smp at hs; exact gSame_ok 8 _ hs
end
end Pu
end

noncomputable section
set_option Elab.async false
set_option linter.all false
set_option maxRecDepth 100000
set_option maxHeartbeats 2000000
/-! Pt5: more forms that tgen.py prints for what is drawn, and for laws. -/
namespace Pu
open PySem PySem.Spec L2
def Qlaw (b : Bool) : Prop := b = true
section
variable {L L1 L2 : Env} {α β γ τ σ ρ : Type} {W : (τ → Prop) → Prop} {Wa : (α → Prop) → Prop} {Wb : (β → Prop) → Prop} {a b m : M D} {x y : MS} {P P1 : Prop} {K : RS → Prop}
theorem wg_m1t {g : D → Option D} {e1 : α → D} {e2 : β → D} {f : α → β} (ha : WG L a e1 Wa) (hg : ∀ x, g (e1 x) = some (e2 (f x))) : WG L (m1 g a) e2 (fun Q => Wa fun x => Q (f x)) := fun s Q hc hs hq => by
  obtain ⟨x, c, e, h1, h2⟩ := ha s _ hc hs hq
  exact ⟨f x, c, by simp [m1, bnd, e, lift, hg x], h1, h2⟩
theorem wg_m2t {g : D → D → Option D} {e1 : α → D} {e2 : β → D} {e3 : γ → D} {f : α → β → γ} (ha : WG L a e1 Wa) (hb : WG L b e2 Wb) (hg : ∀ x y, g (e1 x) (e2 y) = some (e3 (f x y))) : WG L (m2 g a b) e3 (fun Q => Wa fun x => Wb fun y => Q (f x y)) := fun s Q hc hs hq => by
  obtain ⟨x, c, e, h1, h2⟩ := ha s _ hc hs hq
  obtain ⟨y, c', e', h1', h2'⟩ := hb (s.wc c) _ h1 (fits_c hs) h2
  exact ⟨f x y, c', by simp [m2, bnd, e, e', lift, hg x y], h1', h2'⟩
theorem wg_callt {φ : List D → O} {e : M (List D)} {e1 : α → List D} {c : Cd β} {f : α → β} (ha : WG L e e1 Wa) (h : ∀ x, φ (e1 x) = .ok (c.enc (f x))) : WG L (mCall φ e) c.enc (fun Q => Wa fun x => Q (f x)) := fun s Q hc hs hq => by
  obtain ⟨x, c', e, h1, h2⟩ := ha s _ hc hs hq
  exact ⟨f x, c', by simp [bnd, e, h x], h1, h2⟩
theorem wg_It {g : D → Option (List D)} {e1 : α → D} {e2 : β → List D} {f : α → β} (ha : WG L a e1 Wa) (hg : ∀ x, g (e1 x) = some (e2 (f x))) : WG L (mI g a) e2 (fun Q => Wa fun x => Q (f x)) := fun s Q hc hs hq => by
  obtain ⟨x, c, e, h1, h2⟩ := ha s _ hc hs hq
  exact ⟨f x, c, by simp [bnd, e, lift, hg x], h1, h2⟩
def Wif {τ : Type} (p : Bool) (W1 W2 : (τ → Prop) → Prop) (Q : τ → Prop) : Prop := (p = true → W1 Q) ∧ (p = false → W2 Q)
theorem wg_ifW {t : M Bool} {c : Cd τ} {Wt : (Bool → Prop) → Prop} {W1 W2 : (τ → Prop) → Prop} (ht : WG L t id Wt) (ha : WG L a c.enc W1) (hb : WG L b c.enc W2) : WG L (mIf t a b) c.enc (fun Q => Wt fun p => Wif p W1 W2 Q) := wg_if ht ha hb
theorem wx_frzS (i : Nat) (h : ∀ P' : Int × Int → RS → Prop, TX L1 (mSeq x y) P' → TX L (mFrz i (mSeq x y)) P') (hx : WX L1 (mSeq x y) P K) : WX L (mSeq (mFrz i x) y) P K := wx_frz (x := mSeq x y) i h hx
/-- what must not be is not -/
theorem wx_neverT {t : M Bool} {r : MS} {p : Bool} (ht : TM L t p) (hp : p = false) (hb : WX L y P K) : WX L (mSeq (mIfS t r mNext) y) P K := fun hP s hc hs => by
  subst hp
  have e0 : s.wc s.c = s := rfl
  have := hb hP s hc hs
  unfold mSeq
  simp only [mIfS_ap, ht s hs, mErr_ok, e0]
  exact this
theorem wx_neverC {t : M Bool} {r : MS} {p : Bool} {cond : Prop} (ht : cond → TM L t p) (hp : p = false) (hb : WX L y P K) : WX L (mSeq (mIfS t r mNext) y) (cond ∧ P) K := fun hP => wx_neverT (ht hP.1) hp hb hP.2
theorem tx_frS {i : Nat} {P : Int × Int → RS → Prop} (h : TX L (mFrz i (mSeq x y)) P) : TX L (mSeq (mFrz i x) y) P := h
theorem tn_skip {t : M Bool} {r : MS} {p : Bool} (ht : TM L t p) (hp : p = false) : TN L (mIfS t r mNext) L := tx_if ht (fun h => by rw [hp] at h; cases h) (fun _ => tn_next)
theorem tn_for0U {bd : Bd} {it : M (List D)} {body : MS} {g : α → D} {xs : List α} (dead : List Nat) (ok : α → Prop) (hit : TM L it (xs.map g)) (h0 : Wk L (wipeE L dead))
    (hb : ∀ x, ok x → ∃ L1, TBd bd (g x) (wipeE L dead) L1 ∧ ∃ L2, TN L1 body L2 ∧ Wk L2 (wipeE L dead)) (hok : ∀ x ∈ xs, ok x) : TN L (mFor bd it body) (wipeE L dead) := by
  have : ∀ xs : List α, (∀ x ∈ xs, ok x) → FoldOk (fun (_ : Unit) x => ok x) (fun _ _ => ()) () xs := fun xs => by
    induction xs with
    | nil => intro _; trivial
    | cons x xs ih => intro h; exact ⟨h x List.mem_cons_self, ih fun y hy => h y (List.mem_cons_of_mem _ hy)⟩
  have := this xs hok
  exact tn_for (σ := Unit) (fun _ => wipeE L dead) (fun _ x => ok x) (fun _ _ => ()) hit h0 (fun _ x h => hb x h) this
/-! ### loops that return -/
def foldR (step : σ → α → ρ ⊕ σ) : σ → List α → ρ ⊕ σ
  | st, [] => .inr st
  | st, x :: xs => match step st x with
    | .inl r => .inl r
    | .inr st' => foldR step st' xs
def FoldROk (ok : σ → α → Prop) (step : σ → α → ρ ⊕ σ) : σ → List α → Prop
  | _, [] => True
  | st, x :: xs => ok st x ∧ match step st x with
    | .inl _ => True
    | .inr st' => FoldROk ok step st' xs
def PQ (c : Cd ρ) (Ls : σ → Env) (r : ρ ⊕ σ) (cc : Int × Int) (x : RS) : Prop := match r with
  | .inl y => x = .ret (c.enc y) cc
  | .inr st => ∃ r, (x = .next ⟨cc, r⟩ ∨ x = .cnt ⟨cc, r⟩) ∧ Fits (Ls st) r
variable {c : Cd ρ} {Ls : σ → Env}
theorem tq_n {st : σ} (h : TN L x L1) (w : Wk L1 (Ls st)) : TX L x (PQ c Ls (.inr st)) := fun s hs => by
  obtain ⟨r, e, hr⟩ := h s hs
  exact ⟨r, .inl e, w.fits hr⟩
theorem tq_cnt {st : σ} (w : Wk L (Ls st)) : TX L mCnt (PQ c Ls (.inr st)) := fun s hs => ⟨s.r, .inr rfl, w.fits hs⟩
theorem tq_r {y : ρ} (h : TR L x (c.enc y)) : TX L x (PQ c Ls (.inl y)) := fun s hs => h s hs
theorem tq_if {t : M Bool} {p : Bool} {a b : MS} {r1 r2 : ρ ⊕ σ} (ht : TM L t p) (ha : p = true → TX L a (PQ c Ls r1)) (hb : p = false → TX L b (PQ c Ls r2)) : TX L (mIfS t a b) (PQ c Ls (if p = true then r1 else r2)) := by
  cases p with
  | true => exact tx_if ht (fun _ => ha rfl) (fun h => by cases h)
  | false => exact tx_if ht (fun h => by cases h) (fun _ => hb rfl)
theorem tq_if1 {t : M Bool} {p : Bool} {a : MS} {r1 : ρ ⊕ σ} {st : σ} (ht : TM L t p) (ha : p = true → TX L a (PQ c Ls r1)) (w : Wk L (Ls st)) : TX L (mIfS t a mNext) (PQ c Ls (if p = true then r1 else .inr st)) := tq_if ht ha fun _ => tq_n tn_next w
/-- a first statement that leaves, or does nothing -/
theorem tq_ifs {t : M Bool} {p : Bool} {a b : MS} {r2 : ρ ⊕ σ} {r1 : ρ ⊕ σ} (ht : TM L t p) (ha : p = true → (∀ s, Fits L s.r → ∃ z, a s = z ∧ (∀ s', z ≠ .next s') ∧ PQ c Ls r1 s.c z)) (hb : p = false → TX L b (PQ c Ls r2)) : TX L (mSeq (mIfS t a mNext) b) (PQ c Ls (if p = true then r1 else r2)) := fun s hs => by
  have e : (s.wc s.c) = s := rfl
  cases p with
  | true =>
    obtain ⟨z, e1, e2, e3⟩ := ha rfl s hs
    have : mSeq (mIfS t a mNext) b s = z := by
      unfold mSeq
      simp only [mIfS_ap, ht s hs, mErr_ok, e, e1]
    rw [this]
    exact e3
  | false =>
    have := hb rfl s hs
    have e2 : mSeq (mIfS t a mNext) b s = b s := by
      unfold mSeq
      simp only [mIfS_ap, ht s hs, mErr_ok, e]
      rfl
    rw [e2]
    exact this
theorem lv_ret {y : ρ} (h : TR L x (c.enc y)) : ∀ s, Fits L s.r → ∃ z, x s = z ∧ (∀ s', z ≠ .next s') ∧ PQ c Ls (.inl y) s.c z := fun s hs => ⟨_, h s hs, (fun s' e => by cases e), rfl⟩
theorem lv_cnt {st : σ} (w : Wk L (Ls st)) : ∀ s, Fits L s.r → ∃ z, mCnt s = z ∧ (∀ s', z ≠ .next s') ∧ PQ c Ls (.inr st) s.c z := fun s hs => ⟨_, rfl, (fun s' e => by cases e), s.r, .inr rfl, w.fits hs⟩
theorem tr_forR {bd : Bd} {it : M (List D)} {body rest : MS} {g : α → D} {xs : List α} (U : σ → Env → Env) (dead : List Nat) {st0 : σ} (ok : σ → α → Prop) (step : σ → α → ρ ⊕ σ) {k : σ → ρ} (hit : TM L it (xs.map g)) (h0 : Wk L (U st0 (wipeE L dead)))
    (hb : ∀ st x, ok st x → ∃ L1, TBd bd (g x) (U st (wipeE L dead)) L1 ∧ TX L1 body (PQ c (fun st => U st (wipeE L dead)) (step st x))) (hok : FoldROk ok step st0 xs) (hr : ∀ st, foldR step st0 xs = .inr st → TR (U st (wipeE L dead)) rest (c.enc (k st))) :
    TR L (mSeq (mFor bd it body) rest) (c.enc (Sum.elim id k (foldR step st0 xs))) := fun s hs => by
  have key : ∀ (xs : List α) (st : σ) (s : S), Fits (U st (wipeE L dead)) s.r → FoldROk ok step st xs → match foldR step st xs with
      | .inl y => loopL bd body (xs.map g) s = .ret (c.enc y) s.c
      | .inr st' => ∃ r, loopL bd body (xs.map g) s = .next ⟨s.c, r⟩ ∧ Fits (U st' (wipeE L dead)) r := fun xs => by
    induction xs with
    | nil => intro st s h _; exact ⟨s.r, rfl, h⟩
    | cons x xs ih =>
      intro st s h ⟨h1, h2⟩
      obtain ⟨L1, hb1, hb2⟩ := hb st x h1
      obtain ⟨r1, e1, hr1⟩ := hb1 s h
      have hb2 := hb2 ⟨s.c, r1⟩ hr1
      unfold foldR
      rw [List.map_cons]
      unfold loopL
      rw [e1]
      cases e : step st x with
      | inl y =>
        rw [e] at hb2
        have hb2 : body ⟨s.c, r1⟩ = .ret (c.enc y) s.c := hb2
        simp only [hb2]
      | inr st' =>
        rw [e] at hb2 h2
        obtain ⟨r2, e2, hr2⟩ := hb2
        have := ih st' ⟨s.c, r2⟩ hr2 h2
        rcases e2 with e2 | e2 <;> simp only [e2] <;> exact this
  have e0 : s.wc s.c = s := rfl
  have hk := key xs st0 s (h0.fits hs) hok
  show mSeq _ _ s = .ret _ s.c
  unfold mSeq
  simp only [mFor_ap, hit s hs, mErr_ok, e0]
  cases e : foldR step st0 xs with
  | inl y => rw [e] at hk; simp only [hk]; rfl
  | inr st =>
    rw [e] at hk
    obtain ⟨r, e1, hr1⟩ := hk
    simp only [e1]
    exact hr st e ⟨s.c, r⟩ hr1
end
theorem smp_OI {x : Option Int} : Smp (cO cI nI) x := smp_of (by cases x <;> rfl)
end Pu
end

noncomputable section
set_option Elab.async false
set_option linter.all false
set_option maxRecDepth 100000
set_option maxHeartbeats 2000000
/-! PtM: the mathematics that laws share: sizes of courses, cuts, ranges, repetitions, loops. -/
namespace Pu
open PySem PySem.Spec L2
def sz (l : List Sg) : Int := (l.map fun g => g.size).sum
@[simp] theorem sz_nil : sz [] = 0 := rfl
@[simp] theorem sz_cons (g : Sg) (l : List Sg) : sz (g :: l) = g.size + sz l := rfl
@[simp] theorem sz_app (l m : List Sg) : sz (l ++ m) = sz l + sz m := by simp [sz]
theorem size_pos (g : Sg) : 1 ≤ g.size := by cases g <;> decide
theorem size_le (g : Sg) : g.size ≤ 4 := by cases g <;> decide
theorem sz_ge (l : List Sg) : (l.length : Int) ≤ sz l := by
  induction l with
  | nil => simp
  | cons g l ih => have := size_pos g; simp only [sz_cons, List.length_cons]; omega
theorem sz_le (l : List Sg) : sz l ≤ 4 * (l.length : Int) := by
  induction l with
  | nil => simp
  | cons g l ih => have := size_le g; simp only [sz_cons, List.length_cons]; omega
theorem sz_rev (l : List Sg) : sz l.reverse = sz l := by
  unfold sz
  rw [List.map_reverse, List.sum_reverse]
section
variable {α β σ ρ τ : Type}
theorem cut_take (xs : List α) (k : Nat) : cut xs none (some (k : Int)) = xs.take k := by
  unfold cut
  rw [HT.sIx_none, HT.sIx_nat, List.drop_zero, Nat.sub_zero]
  by_cases h : k ≤ xs.length
  · rw [Nat.min_eq_left h]
  · rw [Nat.min_eq_right (by omega), List.take_of_length_le (Nat.le_refl _), List.take_of_length_le (by omega)]
theorem cut_drop (xs : List α) (k : Nat) : cut xs (some (k : Int)) none = xs.drop k := by
  unfold cut
  rw [HT.sIx_none, HT.sIx_nat]
  by_cases h : k ≤ xs.length
  · rw [Nat.min_eq_left h, List.take_of_length_le (by simp)]
  · rw [Nat.min_eq_right (by omega), List.drop_of_length_le (Nat.le_refl _), List.drop_of_length_le (by omega), List.take_nil]
theorem cut_take' (xs : List α) {k : Int} (h : 0 ≤ k) : cut xs none (some k) = xs.take k.toNat := by
  have := cut_take xs k.toNat
  rwa [show ((k.toNat : Nat) : Int) = k by omega] at this
theorem cut_drop' (xs : List α) {k : Int} (h : 0 ≤ k) : cut xs (some k) none = xs.drop k.toNat := by
  have := cut_drop xs k.toNat
  rwa [show ((k.toNat : Nat) : Int) = k by omega] at this
theorem cut_init (xs : List α) : cut xs none (some (-1)) = xs.dropLast := by
  unfold cut
  have e : HT.sIx xs.length xs.length (some (-1)) = xs.length - 1 := by
    have : HT.sIx xs.length xs.length (some (-1)) = ((-1 : Int) + (xs.length : Int)).toNat := by simp [HT.sIx]
    rw [this]; omega
  rw [e, HT.sIx_none, List.drop_zero, Nat.sub_zero, List.dropLast_eq_take]
theorem irange0 (n : Nat) : irange 0 (n : Int) = (List.range n).map fun (i : Nat) => (i : Int) := by simp [irange]
theorem irange_map {f : Int → β} (n : Nat) : (irange 0 (n : Int)).map f = (List.range n).map fun (i : Nat) => f i := by rw [irange0, List.map_map]; rfl
theorem ixG_natD [Inhabited τ] {xs : List τ} {i : Nat} (h : i < xs.length) : ixG xs (i : Int) = xs[i] := by
  rw [ixG_nat (by omega) (by omega)]; simp
theorem ixG_get? [Inhabited τ] {xs : List τ} {i : Nat} (h : i < xs.length) : xs[i]? = some (ixG xs (i : Int)) := by
  rw [ixG_natD h, List.getElem?_eq_getElem h]
theorem ixOk_natD {xs : List τ} {i : Nat} (h : i < xs.length) : IxOk xs (i : Int) := ixOk_nat (by omega) (by omega)
theorem ixOk_last {xs : List τ} (h : xs ≠ []) : IxOk xs (-1) := by
  have : 0 < xs.length := List.length_pos_iff.mpr h
  unfold IxOk atI
  have e : ixN xs.length (-1) = some (xs.length - 1) := by
    unfold ixN
    simp
    omega
  rw [e]
  simp
  omega
theorem foldOk_inv {ok : σ → α → Prop} {step : σ → α → σ} (I : σ → Prop) : ∀ (xs : List α) (st : σ), I st → (∀ st, ∀ x ∈ xs, I st → ok st x ∧ I (step st x)) → FoldOk ok step st xs
  | [], _, _, _ => trivial
  | x :: xs, st, h, hs => ⟨(hs st x List.mem_cons_self h).1, foldOk_inv I xs _ (hs st x List.mem_cons_self h).2 fun st y hy => hs st y (List.mem_cons_of_mem _ hy)⟩
/-- with how many turns are done -/
theorem foldOk_len {ok : σ → α → Prop} {step : σ → α → σ} (I : Nat → σ → Prop) : ∀ (xs : List α) (k : Nat) (st : σ), I k st → (∀ k st, ∀ x ∈ xs, I k st → ok st x ∧ I (k + 1) (step st x)) → FoldOk ok step st xs
  | [], _, _, _, _ => trivial
  | x :: xs, k, st, h, hs => ⟨(hs k st x List.mem_cons_self h).1, foldOk_len I xs (k + 1) _ (hs k st x List.mem_cons_self h).2 fun k st y hy => hs k st y (List.mem_cons_of_mem _ hy)⟩
theorem foldROk_all {ok : σ → α → Prop} {step : σ → α → ρ ⊕ σ} : ∀ (xs : List α) (st : σ), (∀ st, ∀ x ∈ xs, ok st x) → FoldROk ok step st xs
  | [], _, _ => trivial
  | x :: xs, st, h => ⟨h st x List.mem_cons_self, by
    split
    · trivial
    · exact foldROk_all xs _ fun st y hy => h st y (List.mem_cons_of_mem _ hy)⟩
/-- a walk that returns at the first good one -/
theorem foldR_first (p : α → Bool) (r : α → ρ) : ∀ (xs : List α), foldR (fun (_ : Unit) x => if p x = true then Sum.inl (r x) else Sum.inr ()) () xs = match xs.find? p with
    | some x => Sum.inl (r x)
    | none => Sum.inr ()
  | [] => rfl
  | x :: xs => by
    unfold foldR
    rw [List.find?_cons]
    cases h : p x with
    | true => simp
    | false => simpa using foldR_first p r xs
theorem F2.len {R : α → β → Prop} {xs : List α} {ys : List β} (h : F2 R xs ys) : ys.length = xs.length := by
  induction h with
  | nil => rfl
  | cons _ _ ih => simp [ih]
theorem F2.all {R : α → β → Prop} {P : β → Prop} {xs : List α} {ys : List β} (h : F2 R xs ys) (hp : ∀ x y, R x y → P y) : ∀ y ∈ ys, P y := by
  induction h with
  | nil => intro y hy; cases hy
  | cons r _ ih => intro y hy; rcases List.mem_cons.mp hy with rfl | hy
                   · exact hp _ _ r
                   · exact ih y hy
theorem wall_all {xs : List α} {We : α → (β → Prop) → Prop} {Q : List β → Prop} (P : β → Prop) (h1 : ∀ x ∈ xs, We x P) (h2 : ∀ ys : List β, ys.length = xs.length → (∀ y ∈ ys, P y) → Q ys) : Wall xs We Q :=
  ⟨fun _ y => P y, h1, fun ys h => h2 ys h.len (h.all fun _ _ hp => hp)⟩
theorem wroll_of {n : Int} {Q : Int → Prop} (h0 : 0 < n) (h1 : n < 536870912) (h : ∀ v, 0 ≤ v → v < n → Q v) : Wroll n Q := ⟨⟨h0, h1⟩, h⟩
theorem wsome_of {xs : List τ} {Q : τ → Prop} (h0 : xs ≠ []) (h1 : xs.length < 10000000) (h : ∀ x ∈ xs, Q x) : Wsome xs Q := ⟨h0, h1, h⟩
/-! ### repetitions -/
theorem rep_len (l : List α) (m : Nat) : (rep l (m : Int)).length = m * l.length := by simp [rep]
theorem rep_succ (l : List α) (m : Nat) : rep l ((m + 1 : Nat) : Int) = l ++ rep l (m : Int) := by
  unfold rep
  rw [show ((m + 1 : Nat) : Int).toNat = m + 1 by omega, show ((m : Nat) : Int).toNat = m by omega, List.replicate_succ, List.flatten_cons]
theorem rep_zero (l : List α) : rep l ((0 : Nat) : Int) = [] := rfl
theorem rep_get (l : List α) : ∀ (m i : Nat), i < m * l.length → (rep l (m : Int))[i]? = l[i % l.length]?
  | 0, i, h => by simp at h
  | m + 1, i, h => by
    rw [rep_succ]
    have h' : i < m * l.length + l.length := by rw [Nat.add_mul, Nat.one_mul] at h; exact h
    by_cases hi : i < l.length
    · rw [List.getElem?_append_left hi, Nat.mod_eq_of_lt hi]
    · rw [List.getElem?_append_right (by omega), rep_get l m (i - l.length) (by omega)]
      congr 1
      rw [Nat.mod_eq_sub_mod (show i ≥ l.length by omega)]
theorem mem_rep {l : List α} {x : α} : ∀ {m : Nat}, x ∈ rep l (m : Int) → x ∈ l
  | 0, h => by rw [rep_zero] at h; cases h
  | m + 1, h => by
    rw [rep_succ] at h
    rcases List.mem_append.mp h with h | h
    · exact h
    · exact mem_rep h
end
end Pu
end

noncomputable section
set_option Elab.async false
set_option linter.all false
set_option maxRecDepth 100000
set_option maxHeartbeats 2000000
/-! ML0: folds, dicts, ranges. -/
namespace Pu
open PySem PySem.Spec L2
section
variable {α β κ σ τ : Type}
theorem foldOk_pre {ok : σ → α → Prop} {step : σ → α → σ} : ∀ (xs : List α) (st0 : σ), (∀ pre x post, xs = pre ++ x :: post → ok (pre.foldl step st0) x) → FoldOk ok step st0 xs
  | [], _, _ => trivial
  | x :: xs, st0, h => ⟨h [] x xs rfl, foldOk_pre xs _ fun pre y post e => by
    have := h (x :: pre) y post (by rw [e]; rfl)
    exact this⟩
theorem foldl_flat {f : List β → α → List β} {g : α → List β} : ∀ (xs : List α) (acc : List β), (∀ acc x, x ∈ xs → f acc x = acc ++ g x) → xs.foldl f acc = acc ++ xs.flatMap g
  | [], acc, _ => by simp
  | x :: xs, acc, h => by
    rw [List.foldl_cons, h acc x List.mem_cons_self, foldl_flat xs _ fun acc y hy => h acc y (List.mem_cons_of_mem _ hy), List.flatMap_cons, List.append_assoc]
theorem foldl_map' {f : List β → α → List β} {g : α → β} : ∀ (xs : List α) (acc : List β), (∀ acc x, x ∈ xs → f acc x = acc ++ [g x]) → xs.foldl f acc = acc ++ xs.map g
  | [], acc, _ => by simp
  | x :: xs, acc, h => by
    rw [List.foldl_cons, h acc x List.mem_cons_self, foldl_map' xs _ fun acc y hy => h acc y (List.mem_cons_of_mem _ hy), List.map_cons, List.append_assoc]; rfl
theorem dlk_map [DecidableEq κ] {k : α → κ} {v : α → τ} (inj : ∀ a b, k a = k b → a = b) {a : α} : ∀ {xs : List α}, a ∈ xs → dlk (xs.map fun b => (k b, v b)) (k a) = some (v a)
  | [], h => by cases h
  | b :: xs, h => by
    rw [List.map_cons]
    show (if k b = k a then some (v b) else dlk _ _) = _
    by_cases q : k b = k a
    · rw [if_pos q, inj _ _ q]
    · rw [if_neg q]
      rcases List.mem_cons.mp h with rfl | h
      · exact absurd rfl q
      · exact dlk_map inj h
theorem foldl_put [DecidableEq κ] {f : List (κ × τ) → α → List (κ × τ)} {k : α → κ} {v : α → τ} : ∀ (xs : List α) (acc : List (κ × τ)), (∀ acc x, x ∈ xs → f acc x = dput acc (k x) (v x)) → (xs.map k).Nodup → (∀ x ∈ xs, k x ∉ acc.map Prod.fst) → xs.foldl f acc = acc ++ xs.map fun x => (k x, v x)
  | [], acc, _, _, _ => by simp
  | x :: xs, acc, h, hn, hd => by
    rw [List.map_cons, List.nodup_cons] at hn
    rw [List.foldl_cons, h acc x List.mem_cons_self, keys_put_new (hd x List.mem_cons_self), foldl_put xs _ (fun acc y hy => h acc y (List.mem_cons_of_mem _ hy)) hn.2 fun y hy => ?_, List.map_cons, List.append_assoc]; rfl
    rw [List.map_append, List.mem_append, not_or]
    refine ⟨hd y (List.mem_cons_of_mem _ hy), ?_⟩
    rw [List.map_cons, List.map_nil, List.mem_singleton]
    exact fun e => hn.1 (List.mem_map.mpr ⟨y, hy, e⟩)
theorem range_flat_if {f : Nat → List β} {k : Nat} : ∀ n, ((List.range n).flatMap fun a => if a = k then f a else []) = if k < n then f k else []
  | 0 => by simp
  | n + 1 => by
    rw [List.range_succ, List.flatMap_append, range_flat_if n]
    by_cases h : n = k
    · subst h; simp
    · by_cases h2 : k < n
      · rw [if_pos h2, if_pos (by omega)]; simp [h]
      · rw [if_neg h2, if_neg (by omega)]; simp [h]
theorem flatMap_congr' {f g : α → List β} : ∀ {xs : List α}, (∀ x ∈ xs, f x = g x) → xs.flatMap f = xs.flatMap g
  | [], _ => rfl
  | x :: xs, h => by rw [List.flatMap_cons, List.flatMap_cons, h x List.mem_cons_self, flatMap_congr' fun y hy => h y (List.mem_cons_of_mem _ hy)]
theorem flatMap_map' {γ : Type} {f : α → β} {g : β → List γ} : ∀ {xs : List α}, (xs.map f).flatMap g = xs.flatMap fun a => g (f a)
  | [] => rfl
  | x :: xs => by rw [List.map_cons, List.flatMap_cons, List.flatMap_cons, flatMap_map']
theorem flatMap_flatMap' {γ : Type} {f : α → List β} {g : β → List γ} : ∀ {xs : List α}, (xs.flatMap f).flatMap g = xs.flatMap fun a => (f a).flatMap g
  | [] => rfl
  | x :: xs => by rw [List.flatMap_cons, List.flatMap_cons, List.flatMap_append, flatMap_flatMap']
theorem map_flatMap' {γ : Type} {f : α → List β} {g : β → γ} : ∀ {xs : List α}, (xs.flatMap f).map g = xs.flatMap fun a => (f a).map g
  | [] => rfl
  | x :: xs => by rw [List.flatMap_cons, List.flatMap_cons, List.map_append, map_flatMap']
theorem flatMap_len_le {f : α → List β} (n : Nat) : ∀ {xs : List α}, (∀ x ∈ xs, (f x).length ≤ n) → (xs.flatMap f).length ≤ xs.length * n
  | [], _ => by simp
  | x :: xs, h => by
    have h1 := h x List.mem_cons_self
    have h2 := flatMap_len_le n (xs := xs) fun y hy => h y (List.mem_cons_of_mem _ hy)
    rw [List.flatMap_cons, List.length_append, List.length_cons, Nat.add_mul, Nat.one_mul]
    omega
theorem enumI_map [Inhabited α] (xs : List α) : enumI xs = (List.range xs.length).map fun (i : Nat) => ((i : Int), xs.getD i default) := by
  unfold enumI
  apply List.ext_getElem
  · simp
  · intro i h1 h2
    simp at h1
    simp [h1]
theorem enumI_mem {xs : List α} {y : Int × α} : y ∈ enumI xs ↔ ∃ i : Nat, y.1 = i ∧ xs[i]? = some y.2 := by
  unfold enumI
  constructor
  · intro h
    obtain ⟨i, hi, e⟩ := List.mem_iff_getElem.mp h
    simp at hi
    simp at e
    exact ⟨i, by rw [← e], by rw [← e]; simp [hi]⟩
  · rintro ⟨i, e1, e2⟩
    have hi := (List.getElem?_eq_some_iff.mp e2).1
    refine List.mem_iff_getElem.mpr ⟨i, by simp [hi], ?_⟩
    simp
    have := (List.getElem?_eq_some_iff.mp e2).2
    rw [this, ← e1]
/-- loops that end within so many turns -/
theorem whOk_of {cond : σ → Bool} {okc ok : σ → Prop} {step : σ → σ} (I : σ → Prop) (μ : σ → Nat) (h : ∀ st, I st → okc st ∧ (cond st = true → ok st ∧ I (step st) ∧ μ (step st) < μ st)) : ∀ (n : Nat) (st : σ), I st → μ st < n → WhOk cond okc ok step n st
  | 0, _, _, hn => absurd hn (Nat.not_lt_zero _)
  | n + 1, st, hI, hn => by
    obtain ⟨h1, h2⟩ := h st hI
    refine ⟨h1, fun hc => ?_⟩
    obtain ⟨h3, h4, h5⟩ := h2 hc
    exact ⟨h3, whOk_of I μ h n _ h4 (by omega)⟩
theorem whl_succ {cond : σ → Bool} {step : σ → σ} {n : Nat} {st : σ} : whl cond step (n + 1) st = if cond st = true then whl cond step n (step st) else st := by rw [whl]
theorem whl_end {cond : σ → Bool} {step : σ → σ} {st : σ} (h : cond st = false) : ∀ n, whl cond step n st = st
  | 0 => by rw [whl]
  | n + 1 => by rw [whl_succ, h]; rfl
/-- the loop goes on k times -/
theorem whl_iter {cond : σ → Bool} {step : σ → σ} (f : Nat → σ) : ∀ (k n : Nat) (i : Nat), k ≤ n → (∀ j, i ≤ j → j < i + k → cond (f j) = true ∧ step (f j) = f (j + 1)) → cond (f (i + k)) = false → whl cond step n (f i) = f (i + k)
  | 0, n, i, _, _, h => whl_end h n
  | k + 1, 0, i, hk, _, _ => absurd hk (by omega)
  | k + 1, n + 1, i, hk, h, he => by
    obtain ⟨h1, h2⟩ := h i (Nat.le_refl _) (by omega)
    rw [whl_succ, h1, if_pos rfl, h2]
    have e : i + (k + 1) = i + 1 + k := by omega
    rw [e] at he ⊢
    exact whl_iter f k n (i + 1) (by omega) (fun j h3 h4 => h j (by omega) (by omega)) he
theorem whl_inv {cond : σ → Bool} {step : σ → σ} (I : σ → Prop) (μ : σ → Nat) (h : ∀ st, I st → cond st = true → I (step st) ∧ μ (step st) < μ st) : ∀ (n : Nat) (st : σ), I st → μ st < n → I (whl cond step n st) ∧ cond (whl cond step n st) = false
  | 0, _, _, hn => absurd hn (Nat.not_lt_zero _)
  | n + 1, st, hI, hn => by
    rw [whl_succ]
    cases hc : cond st with
    | false => rw [if_neg (by simp)]; exact ⟨hI, hc⟩
    | true =>
      rw [if_pos rfl]
      obtain ⟨h3, h4⟩ := h st hI hc
      exact whl_inv I μ h n _ h3 (by omega)
theorem foldOk_lt {α σ : Type} {ok : σ → α → Prop} {step : σ → α → σ} (I : Nat → σ → Prop) (n : Nat) : ∀ (xs : List α) (k : Nat) (st : σ), k + xs.length ≤ n → I k st → (∀ k st, ∀ x ∈ xs, k < n → I k st → ok st x ∧ I (k + 1) (step st x)) → FoldOk ok step st xs
  | [], _, _, _, _, _ => trivial
  | x :: xs, k, st, hn, h, hs => by
    have h1 := hs k st x List.mem_cons_self (by simp at hn; omega) h
    exact ⟨h1.1, foldOk_lt I n xs (k + 1) _ (by simp at hn; omega) h1.2 fun k st y hy => hs k st y (List.mem_cons_of_mem _ hy)⟩
theorem flat_len {α β : Type} (f : α → List β) (n : Nat) : ∀ xs : List α, (∀ x ∈ xs, (f x).length ≤ n) → (xs.flatMap f).length ≤ xs.length * n
  | [], _ => by simp
  | x :: xs, h => by
    have h1 := h x List.mem_cons_self
    have h2 := flat_len f n xs fun y hy => h y (List.mem_cons_of_mem _ hy)
    rw [List.flatMap_cons, List.length_append, List.length_cons, Nat.add_mul, Nat.one_mul]
    omega
theorem smp_T {c : Cd τ} {k : Nat} {p : List τ} (h : p.length ≤ 1000000) (hx : ∀ x ∈ p, smp k (c.enc x) = true) : smp (k + 1) ((cT c).enc p) = true := by
  show (decide ((p.map c.enc).length ≤ 1000000) && (p.map c.enc).all (smp k)) = true
  rw [Bool.and_eq_true, decide_eq_true_eq, List.length_map, List.all_eq_true]
  exact ⟨h, fun d hd => by obtain ⟨r, hr, rfl⟩ := List.mem_map.mp hd; exact hx r hr⟩
theorem smp_P2 {a : Cd α} {b : Cd β} {k : Nat} {x : α × β} (h1 : smp k (a.enc x.1) = true) (h2 : smp k (b.enc x.2) = true) : smp (k + 1) ((cP2 a b).enc x) = true := by
  show (decide (([a.enc x.1, b.enc x.2] : List D).length ≤ 1000000) && ([a.enc x.1, b.enc x.2] : List D).all (smp k)) = true
  simp [h1, h2]
theorem smp_P3 {γ : Type} {a : Cd α} {b : Cd β} {c : Cd γ} {k : Nat} {x : α × β × γ} (h1 : smp k (a.enc x.1) = true) (h2 : smp k (b.enc x.2.1) = true) (h3 : smp k (c.enc x.2.2) = true) : smp (k + 1) ((cP3 a b c).enc x) = true := by
  show (decide (([a.enc x.1, b.enc x.2.1, c.enc x.2.2] : List D).length ≤ 1000000) && ([a.enc x.1, b.enc x.2.1, c.enc x.2.2] : List D).all (smp k)) = true
  simp [h1, h2, h3]
theorem smp_P4 {γ δ : Type} {a : Cd α} {b : Cd β} {c : Cd γ} {d : Cd δ} {k : Nat} {x : α × β × γ × δ} (h1 : smp k (a.enc x.1) = true) (h2 : smp k (b.enc x.2.1) = true) (h3 : smp k (c.enc x.2.2.1) = true) (h4 : smp k (d.enc x.2.2.2) = true) : smp (k + 1) ((cP4 a b c d).enc x) = true := by
  show (decide (([a.enc x.1, b.enc x.2.1, c.enc x.2.2.1, d.enc x.2.2.2] : List D).length ≤ 1000000) && ([a.enc x.1, b.enc x.2.1, c.enc x.2.2.1, d.enc x.2.2.2] : List D).all (smp k)) = true
  simp [h1, h2, h3, h4]
theorem smp_O {c : Cd τ} {n : NN c} {k : Nat} {x : Option τ} (h : ∀ y, x = some y → smp (k + 1) (c.enc y) = true) : smp (k + 1) ((cO c n).enc x) = true := by
  cases x with
  | none => rfl
  | some y => exact h y rfl
end
end Pu
end

noncomputable section
set_option Elab.async false
set_option linter.all false
set_option maxRecDepth 100000
set_option maxHeartbeats 8000000
namespace Pu
open PySem PySem.Spec L2
def topS (i : Nat) : Stmt := PySem.Challenge.pw_brickbonds_k84_whole_ways_down.main.body.getD i (.Pass ⟨0, 0, 0, 0⟩)
abbrev s_is_whole : Stmt := topS 9
theorem sc_is_whole : FnScope ["value"] ["value"] (defScope s_is_whole) := ⟨rfl, rfl, rfl, by decide +kernel, rfl, by decide +kernel, by decide +kernel⟩
abbrev s_fits_whole : Stmt := topS 10
theorem sc_fits_whole : FnScope ["value", "low", "high"] ["value", "low", "high"] (defScope s_fits_whole) := ⟨rfl, rfl, rfl, by decide +kernel, rfl, by decide +kernel, by decide +kernel⟩
abbrev s_is_tuple_of : Stmt := topS 11
theorem sc_is_tuple_of : FnScope ["value", "least", "most"] ["value", "least", "most"] (defScope s_is_tuple_of) := ⟨rfl, rfl, rfl, by decide +kernel, rfl, by decide +kernel, by decide +kernel⟩
abbrev s_fits_course : Stmt := topS 12
theorem sc_fits_course : FnScope ["value", "sign"] ["value"] (defScope s_fits_course) := ⟨rfl, rfl, rfl, by decide +kernel, rfl, by decide +kernel, by decide +kernel⟩
abbrev s_length_in : Stmt := topS 15
theorem sc_length_in : FnScope ["course", "sign"] ["course"] (defScope s_length_in) := ⟨rfl, rfl, rfl, by decide +kernel, rfl, by decide +kernel, by decide +kernel⟩
abbrev s_fits_front : Stmt := topS 13
theorem sc_fits_front : FnScope ["value", "one"] ["value"] (defScope s_fits_front) := ⟨rfl, rfl, rfl, by decide +kernel, rfl, by decide +kernel, by decide +kernel⟩
abbrev s_need_front : Stmt := topS 14
theorem sc_need_front : FnScope ["value"] ["value"] (defScope s_need_front) := ⟨rfl, rfl, rfl, by decide +kernel, rfl, by decide +kernel, by decide +kernel⟩
abbrev s_joints_in : Stmt := topS 16
theorem sc_joints_in : FnScope ["course", "found", "at", "sign"] ["course"] (defScope s_joints_in) := ⟨rfl, rfl, rfl, by decide +kernel, rfl, by decide +kernel, by decide +kernel⟩
abbrev s_spans_in : Stmt := topS 17
theorem sc_spans_in : FnScope ["course", "ends"] ["course"] (defScope s_spans_in) := ⟨rfl, rfl, rfl, by decide +kernel, rfl, by decide +kernel, by decide +kernel⟩
abbrev s_fits_brick : Stmt := topS 19
theorem sc_fits_brick : FnScope ["front", "value"] ["front", "value"] (defScope s_fits_brick) := ⟨rfl, rfl, rfl, by decide +kernel, rfl, by decide +kernel, by decide +kernel⟩
abbrev s_need_brick : Stmt := topS 20
theorem sc_need_brick : FnScope ["front", "value"] ["front", "value"] (defScope s_need_brick) := ⟨rfl, rfl, rfl, by decide +kernel, rfl, by decide +kernel, by decide +kernel⟩
abbrev s_bricks_in : Stmt := topS 21
theorem sc_bricks_in : FnScope ["front", "row", "one", "at"] ["front"] (defScope s_bricks_in) := ⟨rfl, rfl, rfl, by decide +kernel, rfl, by decide +kernel, by decide +kernel⟩
abbrev s_over_in : Stmt := topS 22
theorem sc_over_in : FnScope ["front", "row", "at", "begin", "end", "found", "number", "low", "high", "many"] ["front", "row", "at"] (defScope s_over_in) := ⟨rfl, rfl, rfl, by decide +kernel, rfl, by decide +kernel, by decide +kernel⟩
abbrev s_laid_in : Stmt := topS 23
theorem sc_laid_in : FnScope ["front", "found", "row", "at", "number", "many"] ["front"] (defScope s_laid_in) := ⟨rfl, rfl, rfl, by decide +kernel, rfl, by decide +kernel, by decide +kernel⟩
abbrev s_lies_on : Stmt := topS 24
theorem sc_lies_on : FnScope ["front", "brick", "number", "many"] ["front", "brick"] (defScope s_lies_on) := ⟨rfl, rfl, rfl, by decide +kernel, rfl, by decide +kernel, by decide +kernel⟩
abbrev s_ways_down : Stmt := topS 25
theorem sc_ways_down : FnScope ["front", "brick", "laid", "found", "own", "below", "many"] ["front", "brick"] (defScope s_ways_down) := ⟨rfl, rfl, rfl, by decide +kernel, rfl, by decide +kernel, by decide +kernel⟩
abbrev s_first_way : Stmt := topS 26
theorem sc_first_way : FnScope ["front", "brick", "found", "row", "at"] ["front", "brick"] (defScope s_first_way) := ⟨rfl, rfl, rfl, by decide +kernel, rfl, by decide +kernel, by decide +kernel⟩
abbrev s_law_cup : Stmt := topS 28
theorem sc_law_cup : FnScope ["script", "cell"] ["script"] (defScope s_law_cup) := ⟨rfl, rfl, rfl, by decide +kernel, rfl, by decide +kernel, by decide +kernel⟩
def b_law_cup : MS := (mSeq (mSetF 1 (m1 absD (m2 ixD (m2 addD (sqL 0) (mLst (aCons (rt (.int 0)) aNil))) (rt (.int 0))))) (mRet (mLst (aCons (mIf (mB (m2 geD (slB 1) (m2 powD (rt (.int 10)) (rt (.int 18))))) (m2 fdivD (slB 1) (rt (.int 283))) (rt (.int 0))) (aCons (m2 addD (m2 modD (m1 intD (m2 addD (m2 mulD (slB 1) (rt (.int 673))) (rt (.int 5449)))) (rt (.int 2077503947))) (rt (.int 491))) aNil)))))
def phi_law_cup (ns : List Int) : O := fin (b_law_cup ⟨(0, 0), .sq (ns.map .int) :: List.replicate 1 .no⟩)
abbrev s_law_roll : Stmt := topS 29
theorem sc_law_roll : FnScope ["cup", "many", "found", "deep"] ["cup", "many"] (defScope s_law_roll) := ⟨rfl, rfl, rfl, by decide +kernel, rfl, by decide +kernel, by decide +kernel⟩
def b_law_roll : MS := (mSeq (mIfS (mB (m2 gtD (cupGet 0 0) (rt (.int 0)))) (mSeq (mSetF 2 (m2 modD (m1 intD (cupGet 0 0)) (slB 1))) (mSeq (mCupSet 0 0 (m2 fdivD (cupGet 0 0) (slB 1))) (mRet (slE 2)))) mNext) (mSeq (mCupSet 0 1 (m2 modD (m1 intD (m2 addD (m2 mulD (cupGet 0 1) (rt (.int 32749))) (rt (.int 9103)))) (rt (.int 2147483563)))) (mSeq (mSetF 3 (m2 modD (m1 intD (m2 mulD (cupGet 0 1) (m2 addD (cupGet 0 1) (rt (.int 643))))) (rt (.int 2147483423)))) (mRet (m2 modD (m1 intD (m2 fdivD (slB 3) (rt (.int 1367)))) (slB 1))))))
def phi_law_roll (c : Int × Int) (ds : List D) : R D := finC (b_law_roll ⟨c, .cup :: st0 3 ds⟩)
abbrev s_law_some : Stmt := topS 30
theorem sc_law_some : FnScope ["cup", "things"] ["cup", "things"] (defScope s_law_some) := ⟨rfl, rfl, rfl, by decide +kernel, rfl, by decide +kernel, by decide +kernel⟩
abbrev s_law_same : Stmt := topS 31
theorem sc_law_same : FnScope ["told", "due", "at"] ["told", "due"] (defScope s_law_same) := ⟨rfl, rfl, rfl, by decide +kernel, rfl, by decide +kernel, by decide +kernel⟩
abbrev s_law_size : Stmt := topS 32
theorem sc_law_size : FnScope ["course", "sign"] ["course"] (defScope s_law_size) := ⟨rfl, rfl, rfl, by decide +kernel, rfl, by decide +kernel, by decide +kernel⟩
abbrev s_law_row : Stmt := topS 33
theorem sc_law_row : FnScope ["cup", "length", "found", "left", "sign", "one"] ["cup", "length"] (defScope s_law_row) := ⟨rfl, rfl, rfl, by decide +kernel, rfl, by decide +kernel, by decide +kernel⟩
abbrev s_law_front : Stmt := topS 34
theorem sc_law_front : FnScope ["cup", "high", "most", "length", "course"] ["cup", "high", "most"] (defScope s_law_front) := ⟨rfl, rfl, rfl, by decide +kernel, rfl, by decide +kernel, by decide +kernel⟩
abbrev s_law_bricks : Stmt := topS 35
theorem sc_law_bricks : FnScope ["front", "found", "row", "one", "at"] ["front"] (defScope s_law_bricks) := ⟨rfl, rfl, rfl, by decide +kernel, rfl, by decide +kernel, by decide +kernel⟩
abbrev s_law_laid : Stmt := topS 36
theorem sc_law_laid : FnScope ["front", "bricks", "found", "row", "at", "begin", "end", "low", "number", "start", "stop", "many"] ["front"] (defScope s_law_laid) := ⟨rfl, rfl, rfl, by decide +kernel, rfl, by decide +kernel, by decide +kernel⟩
abbrev s_law_ways : Stmt := topS 37
theorem sc_law_ways : FnScope ["laid", "brick", "found", "line", "later", "way", "below", "many"] ["laid", "brick"] (defScope s_law_ways) := ⟨rfl, rfl, rfl, by decide +kernel, rfl, by decide +kernel, by decide +kernel⟩
def b_law_ways : MS := (mSeq (mPar 2 3 (mLst aNil) (mLst (aCons (mTup (aCons (slE 1) aNil)) aNil))) (mSeq (mWhile fuel (mB (m2 neD (slB 3) (mLst aNil))) (mSeq (mFrz 3 (mSetF 2 (m2 addD (slB 2) (mLc [5] (mI iterD (slE 3)) (bName 5) (mB (m2 eqD (m2 ixD (m2 ixD (slB 5) (m1 negD (rt (.int 1)))) (rt (.int 0))) (rt (.int 0)))) (slE 5))))) (mSeq (mSetF 4 (mLst aNil)) (mSeq (mFrz 3 (mFor (bName 5) (mI iterD (slE 3)) (mSetF 4 (m2 addD (slB 4) (mLc [6, 7] (mI iterD (m2 dgD (slB 0) (m2 ixD (slB 5) (m1 negD (rt (.int 1)))))) (bTup [(bName 6), (bName 7)]) mYes (m2 addD (slB 5) (mTup (aCons (slE 6) aNil)))))))) (mFrz 4 (mSetE 3 (slE 4))))))) (mRet (m1 sortD (slB 2)))))
def phi_law_ways (ds : List D) : O := fin (b_law_ways ⟨(0, 0), st0 8 ds⟩)
abbrev s_law_right : Stmt := topS 38
theorem sc_law_right : FnScope ["cup", "front", "laid", "brick", "ways", "way", "at", "low", "many"] ["cup"] (defScope s_law_right) := ⟨rfl, rfl, rfl, by decide +kernel, rfl, by decide +kernel, by decide +kernel⟩
def b_law_right (phi_law_roll : Int × Int → List D → R D) : MS := (mSeq (mSetE 1 (mCallC 0 (phi_law_front phi_law_roll) (aCons (rt (.int 5)) (aCons (rt (.int 14)) aNil)))) (mSeq (mFrz 1 (mSetE 2 (mCall phi_law_laid (aCons (slE 1) aNil)))) (mSeq (mSetE 3 (mCallC 0 (phi_law_some phi_law_roll) (aCons (m1 sortDD (slB 2)) aNil))) (mSeq (mFrz 3 (mFrz 2 (mSetE 4 (mCall phi_law_ways (aCons (slE 2) (aCons (slE 3) aNil)))))) (mSeq (mFrz 3 (mFrz 1 (mIfS (mNot (mB (mCall phi_law_same (aCons (mTup (aCons (mCall phi_ways_down (aCons (slE 1) (aCons (slE 3) aNil))) (aCons (mCall phi_first_way (aCons (slE 1) (aCons (slE 3) aNil))) aNil))) (aCons (mTup (aCons (m1 lenD (slB 4)) (aCons (m2 ixD (slB 4) (rt (.int 0))) aNil))) aNil))))) (mRet (rt (.bool false))) mNext))) (mSeq (mFrz 3 (mFrz 1 (mSetE 5 (mCall phi_first_way (aCons (slE 1) (aCons (slE 3) aNil)))))) (mFrz 1 (mRet (m2 eqD (mLc [6] (mI rng1D (m2 subD (m1 lenD (slB 5)) (rt (.int 1)))) (bName 6) (mB (m2 ninD (m2 ixD (slB 5) (m2 addD (slB 6) (rt (.int 1)))) (mLc [7, 8] (mI iterD (mCall phi_lies_on (aCons (slE 1) (aCons (m2 ixD (slB 5) (slB 6)) aNil)))) (bTup [(bName 7), (bName 8)]) mYes (slE 7)))) (slE 6)) (mLst aNil))))))))))
def phi_law_right (phi_law_roll : Int × Int → List D → R D) (c : Int × Int) (ds : List D) : R D := finC (b_law_right phi_law_roll ⟨c, .cup :: st0 8 ds⟩)
abbrev s_law : Stmt := topS 39
theorem sc_law : FnScope ["script", "cup", "turn", "high", "front", "ways", "course", "at"] ["script"] (defScope s_law) := ⟨rfl, rfl, rfl, by decide +kernel, rfl, by decide +kernel, by decide +kernel⟩
def b_law : MS := (mSeq (mFor (bName 2) (mI rng1D (rt (.int 7))) (mIfS (mNot (mB (mCallC 1 (phi_law_right phi_law_roll) aNil))) (mRet (rt (.bool false))) mNext)) (mSeq (mSetF 3 (m2 addD (rt (.int 1)) (mCallC 1 phi_law_roll (aCons (rt (.int 9)) aNil)))) (mSeq (mSetF 4 (m1 tupD (mLc [7] (mI rng1D (slB 3)) (bName 7) mYes (mIf (mB (m2 eqD (m2 mulX (m2 fdivD (slB 7) (rt (.int 2))) (rt (.int 2))) (slB 7))) (m2 mulX (rt (.str "s")) (rt (.int 11))) (m2 addD (m2 addD (rt (.str "h")) (m2 mulX (rt (.str "s")) (rt (.int 10)))) (rt (.str "h"))))))) (mSeq (mSetF 5 (rt (.int 1))) (mSeq (mFor (bName 6) (mI rng1D (m2 subD (slB 3) (rt (.int 1)))) (mSetF 5 (m2 mulX (rt (.int 2)) (slB 5)))) (mRet (mCall phi_law_same (aCons (mTup (aCons (mCall phi_ways_down (aCons (slE 4) (aCons (mTup (aCons (m2 subD (slB 3) (rt (.int 1))) (aCons (rt (.int 5)) aNil))) aNil))) (aCons (m1 lenD (mCall phi_first_way (aCons (slE 4) (aCons (mTup (aCons (m2 subD (slB 3) (rt (.int 1))) (aCons (rt (.int 5)) aNil))) aNil)))) aNil))) (aCons (mTup (aCons (slE 5) (aCons (slE 3) aNil))) aNil)))))))))
theorem cup_ok (ns : List Int) (h : ns.length ≤ 63) : ∃ a b : Int, phi_law_cup ns = .ok (.list [.int a, .int b]) ∧ CupOk (a, b) := gCup_ok 283 673 5449 2077503947 491 (by decide) (by decide) (by decide) (by decide) ns h
theorem roll_ok : RollOk phi_law_roll := fun c hc m h0 h1 => gRoll_ok 32749 9103 2147483563 643 2147483423 1367 (by decide) (by decide) (by decide) (by decide) hc h0 h1
/-- what the top leaves -/
structure Tx (K : PySem.W.Frag) (w : World) (mg : Str → Option Value) : Prop where
  a_is_whole : At K mg "is_whole" s_is_whole
  a_fits_whole : At K mg "fits_whole" s_fits_whole
  a_is_tuple_of : At K mg "is_tuple_of" s_is_tuple_of
  a_fits_course : At K mg "fits_course" s_fits_course
  a_length_in : At K mg "length_in" s_length_in
  a_fits_front : At K mg "fits_front" s_fits_front
  a_need_front : At K mg "need_front" s_need_front
  a_joints_in : At K mg "joints_in" s_joints_in
  a_spans_in : At K mg "spans_in" s_spans_in
  a_fits_brick : At K mg "fits_brick" s_fits_brick
  a_need_brick : At K mg "need_brick" s_need_brick
  a_bricks_in : At K mg "bricks_in" s_bricks_in
  a_over_in : At K mg "over_in" s_over_in
  a_laid_in : At K mg "laid_in" s_laid_in
  a_lies_on : At K mg "lies_on" s_lies_on
  a_ways_down : At K mg "ways_down" s_ways_down
  a_first_way : At K mg "first_way" s_first_way
  a_law_cup : At K mg "_law_cup" s_law_cup
  a_law_roll : At K mg "_law_roll" s_law_roll
  a_law_some : At K mg "_law_some" s_law_some
  a_law_same : At K mg "_law_same" s_law_same
  a_law_size : At K mg "_law_size" s_law_size
  a_law_row : At K mg "_law_row" s_law_row
  a_law_front : At K mg "_law_front" s_law_front
  a_law_bricks : At K mg "_law_bricks" s_law_bricks
  a_law_laid : At K mg "_law_laid" s_law_laid
  a_law_ways : At K mg "_law_ways" s_law_ways
  a_law_right : At K mg "_law_right" s_law_right
  z_abs : mg "abs" = none
  z_all : mg "all" = none
  z_bool : mg "bool" = none
  z_enumerate : mg "enumerate" = none
  z_int : mg "int" = none
  z_isinstance : mg "isinstance" = none
  z_len : mg "len" = none
  z_list : mg "list" = none
  z_max : mg "max" = none
  z_min : mg "min" = none
  z_range : mg "range" = none
  z_sorted : mg "sorted" = none
  z_str : mg "str" = none
  z_sum : mg "sum" = none
  z_tuple : mg "tuple" = none
  z_zip : mg "zip" = none
  g_HIGH : ∃ t, mg "HIGH" = some (.int 24 t)
  g_LONG : ∃ t, mg "LONG" = some (.int 60 t)
  g_MANY : ∃ t, mg "MANY" = some (.int 24 t)
  w_SIZES : WD K w mg "SIZES" L_SIZES
section
variable {P : Program} {w : World} {K : PySem.W.Frag} {mg : Str → Option Value} {base : Heap}
theorem cal_is_whole (T : Tx K w mg) : Cal P w K mg base 1 "is_whole" 1 phi_is_whole := cal_of T.a_is_whole sc_is_whole b_is_whole (by decide) (fun _ _ _ _ _ _ us hl => match us, hl with | [_], _ => rfl) (fun _ _ => .inr rfl) (fun f cdv A outer s H E hr => (st_one (st_ret (fd (pf_and (fb (pe_isi (cd_isi isi_int) (by rfl) T.z_isinstance bt_isinstance (pb_v 0) (by rfl) T.z_int bt_int)) (pe_one (pf_not (fb (pe_isi (cd_isi isi_bool) (by rfl) T.z_isinstance bt_isinstance (pb_v 0) (by rfl) T.z_bool bt_bool)))))))))
theorem cal_fits_whole (T : Tx K w mg) : Cal P w K mg base 2 "fits_whole" 3 phi_fits_whole := cal_of T.a_fits_whole sc_fits_whole b_fits_whole (by decide) (fun _ _ _ _ _ _ us hl => match us, hl with | [_, _, _], _ => rfl) (fun _ _ => .inr rfl) (fun f cdv A outer s H E hr => (st_one (st_ret (fd (pf_and (db (pd_cal (cal_is_whole T) hr (by decide) pass_def (an_cons (pd_v 0) an_nil))) (pe_one (pf_chain od_le od_le leD_b (pb_v 1) (pb_v 0) (pb_v 2))))))))
theorem cal_is_tuple_of (T : Tx K w mg) : Cal P w K mg base 1 "is_tuple_of" 3 phi_is_tuple_of := cal_of T.a_is_tuple_of sc_is_tuple_of b_is_tuple_of (by decide) (fun _ _ _ _ _ _ us hl => match us, hl with | [_, _, _], _ => rfl) (fun _ _ => .inr rfl) (fun f cdv A outer s H E hr => (st_one (st_ret (fd (pf_and (fb (pe_isi (cd_isi isi_tup) (by rfl) T.z_isinstance bt_isinstance (pb_v 0) (by rfl) T.z_tuple bt_tuple)) (pe_one (pf_chain od_le od_le leD_b (pb_v 1) (fb (pf_b1 cd_len (by rfl) T.z_len bt_len (pb_v 0))) (pb_v 2))))))))
theorem cal_fits_course (T : Tx K w mg) : Cal P w K mg base 1 "fits_course" 1 phi_fits_course := cal_of T.a_fits_course sc_fits_course b_fits_course (by decide) (fun _ _ _ _ _ _ us hl => match us, hl with | [_], _ => rfl) (fun _ _ => .inr rfl) (fun f cdv A outer s H E hr => (st_cons (st_if (PW.pt (pw_or (pt_not (pt_e (fb (pe_isi (cd_isi isi_str) (by rfl) T.z_isinstance bt_isinstance (pb_v 0) (by rfl) T.z_str bt_str)))) (pw_or (pt_not (pt_chain od_le od_le leD_b (fb pf_int) (fb (pf_b1 cd_len (by rfl) T.z_len bt_len (pb_v 0))) (fb (pf_gi (by rfl) T.g_MANY)))) (L2.pw_or1 (pt_not (pt_e (fb (pf_b1 (cd_all rfl) (by rfl) T.z_all bt_all (fb (pf_lc (own := [("sign", 1)]) rfl sc_fits_course.nd (i_d (pd_v 0)) (blkOk_by (N := ["value", "sign"]) (sc := (defScope s_fits_course)) (by decide +kernel)) (fun _ _ _ _ _ => (g_name 1 sc_fits_course.nd)) (fun _ _ _ _ _ => ts_nil) (fun _ _ _ _ _ => (fd (pf_wIn T.w_SIZES (pb_v 1)))))))))))))) (st_one (st_ret (fd pf_bl))) st_nil) (st_one (st_ret (fd (pf_cmp od_le (fb (pf_b1 (cd_sum rfl) (by rfl) T.z_sum bt_sum (fb (pf_lc (own := [("sign", 1)]) rfl sc_fits_course.nd (i_d (pd_v 0)) (blkOk_by (N := ["value", "sign"]) (sc := (defScope s_fits_course)) (by decide +kernel)) (fun _ _ _ _ _ => (g_name 1 sc_fits_course.nd)) (fun _ _ _ _ _ => ts_nil) (fun _ _ _ _ _ => (fd (pf_wd T.w_SIZES (pb_v 1)))))))) (fb (pf_gi (by rfl) T.g_LONG))))))))
theorem cal_length_in (T : Tx K w mg) : Cal P w K mg base 1 "length_in" 1 phi_length_in := cal_of T.a_length_in sc_length_in b_length_in (by decide) (fun _ _ _ _ _ _ us hl => match us, hl with | [_], _ => rfl) (fun _ _ => .inr rfl) (fun f cdv A outer s H E hr => (st_one (st_ret (fd (pf_b1 (cd_sum rfl) (by rfl) T.z_sum bt_sum (fb (pf_lc (own := [("sign", 1)]) rfl sc_length_in.nd (i_d (pd_v 0)) (blkOk_by (N := ["course", "sign"]) (sc := (defScope s_length_in)) (by decide +kernel)) (fun _ _ _ _ _ => (g_name 1 sc_length_in.nd)) (fun _ _ _ _ _ => ts_nil) (fun _ _ _ _ _ => (fd (pf_wd T.w_SIZES (pb_v 1)))))))))))
theorem cal_fits_front (T : Tx K w mg) : Cal P w K mg base 2 "fits_front" 1 phi_fits_front := cal_of T.a_fits_front sc_fits_front b_fits_front (by decide) (fun _ _ _ _ _ _ us hl => match us, hl with | [_], _ => rfl) (fun _ _ => .inr rfl) (fun f cdv A outer s H E hr => (st_cons (st_if (PW.pt (pw_or (pt_not (pt_e (db (pd_cal (cal_is_tuple_of T) hr (by decide) pass_def (an_cons (pd_v 0) (an_cons (fd pf_int) (an_cons (fd (pf_gi (by rfl) T.g_HIGH)) an_nil))))))) (L2.pw_or1 (pt_not (pt_e (fb (pf_b1 (cd_all rfl) (by rfl) T.z_all bt_all (fb (pf_lc (own := [("one", 1)]) rfl sc_fits_front.nd (i_d (pd_v 0)) (blkOk_by (N := ["value", "one"]) (sc := (defScope s_fits_front)) (by decide +kernel)) (fun _ _ _ _ _ => (g_name 1 sc_fits_front.nd)) (fun _ _ _ _ _ => ts_nil) (fun _ _ _ _ _ => (pd_cal (cal_fits_course T) hr (by decide) L2.passL (an_cons (pd_v 1) an_nil)))))))))))) (st_one (st_ret (fd pf_bl))) st_nil) (st_one (st_ret (fd (pf_b1 (cd_all rfl) (by rfl) T.z_all bt_all (fb (pf_lc (own := [("one", 1)]) rfl sc_fits_front.nd (i_d (pd_v 0)) (blkOk_by (N := ["value", "one"]) (sc := (defScope s_fits_front)) (by decide +kernel)) (fun _ _ _ _ _ => (g_name 1 sc_fits_front.nd)) (fun _ _ _ _ _ => ts_nil) (fun _ _ _ _ _ => (fd (pf_cmp (od_eq hr.units) (db (pd_cal (cal_length_in T) hr (by decide) L2.passL (an_cons (pd_v 1) an_nil))) (db (pd_cal (cal_length_in T) hr (by decide) L2.passL (an_cons (pd_ix (pb_v 0) (fb pf_int)) an_nil))))))))))))))
theorem cal_need_front (T : Tx K w mg) : Cal P w K mg base 3 "need_front" 1 phi_need_front := cal_of T.a_need_front sc_need_front b_need_front (by decide) (fun _ _ _ _ _ _ us hl => match us, hl with | [_], _ => rfl) (fun _ _ => .inr rfl) (fun f cdv A outer s H E hr => (st_one (st_if (pt_not (pt_e (db (pd_cal (cal_fits_front T) hr (by decide) pass_def (an_cons (pd_v 0) an_nil))))) (st_one st_never) st_nil)))
theorem cal_joints_in (T : Tx K w mg) : Cal P w K mg base 1 "joints_in" 1 phi_joints_in := cal_of T.a_joints_in sc_joints_in b_joints_in (by decide) (fun _ _ _ _ _ _ us hl => match us, hl with | [_], _ => rfl) (fun _ _ => .inr rfl) (fun f cdv A outer s H E hr => (st_cons (st_par 1 2 rfl sc_joints_in.nd (by decide) (pf_lst pa_nil) pf_int) (st_cons (st_for own_def rfl (i_d (fd (pf_sl (pb_v 0) po_no (po_at (fb (pf_un ud_neg (fb pf_int))))))) (g_name 3 sc_joints_in.nd) (st_cons (st_setF 2 sc_joints_in.nd (pf_op od_add (pb_v 2) (fb (pf_wd T.w_SIZES (pb_v 3))))) (st_one (st_app 1 (pd_v 2))))) (st_one (st_frz 1 (st_ret (pd_v 1)))))))
theorem cal_spans_in (T : Tx K w mg) : Cal P w K mg base 2 "spans_in" 1 phi_spans_in := cal_of T.a_spans_in sc_spans_in b_spans_in (by decide) (fun _ _ _ _ _ _ us hl => match us, hl with | [_], _ => rfl) (fun _ _ => .inr rfl) (fun f cdv A outer s H E hr => (st_cons (st_setF 1 sc_spans_in.nd (pf_op od_add (fb (pf_op od_add (fb (pf_lst (pa_cons (fd pf_int) pa_nil))) (db (pd_cal (cal_joints_in T) hr (by decide) pass_def (an_cons (pd_v 0) an_nil))))) (fb (pf_lst (pa_cons (pd_cal (cal_length_in T) hr (by decide) pass_def (an_cons (pd_v 0) an_nil)) pa_nil))))) (st_one (st_frz 1 (st_ret (fd (pf_listZip rfl T.z_list T.z_zip (pa_cons (pd_v 1) (pa_cons (fd (pf_sl (pb_v 1) (po_at (fb pf_int)) po_no)) pa_nil)))))))))
theorem cal_fits_brick (T : Tx K w mg) : Cal P w K mg base 3 "fits_brick" 2 phi_fits_brick := cal_of T.a_fits_brick sc_fits_brick b_fits_brick (by decide) (fun _ _ _ _ _ _ us hl => match us, hl with | [_, _], _ => rfl) (fun _ _ => .inr rfl) (fun f cdv A outer s H E hr => (st_cons (st_if (PW.pt (pw_or (pt_not (pt_e (db (pd_cal (cal_is_tuple_of T) hr (by decide) pass_def (an_cons (pd_v 1) (an_cons (fd pf_int) (an_cons (fd pf_int) an_nil))))))) (L2.pw_or1 (pt_not (pt_e (db (pd_cal (cal_fits_whole T) hr (by decide) pass_def (an_cons (pd_ix (pb_v 1) (fb pf_int)) (an_cons (fd pf_int) (an_cons (fd (pf_op od_sub (fb (pf_b1 cd_len (by rfl) T.z_len bt_len (pb_v 0))) (fb pf_int))) an_nil)))))))))) (st_one (st_ret (fd pf_bl))) st_nil) (st_one (st_ret (pd_cal (cal_fits_whole T) hr (by decide) pass_def (an_cons (pd_ix (pb_v 1) (fb pf_int)) (an_cons (fd pf_int) (an_cons (fd (pf_op od_sub (fb (pf_b1 cd_len (by rfl) T.z_len bt_len (db (pd_ix (pb_v 0) (db (pd_ix (pb_v 1) (fb pf_int))))))) (fb pf_int))) an_nil))))))))
theorem cal_need_brick (T : Tx K w mg) : Cal P w K mg base 4 "need_brick" 2 phi_need_brick := cal_of T.a_need_brick sc_need_brick b_need_brick (by decide) (fun _ _ _ _ _ _ us hl => match us, hl with | [_, _], _ => rfl) (fun _ _ => .inr rfl) (fun f cdv A outer s H E hr => (st_cons (st_expr (db (pd_cal (cal_need_front T) hr (by decide) pass_def (an_cons (pd_v 0) an_nil)))) (st_one (st_if (pt_not (pt_e (db (pd_cal (cal_fits_brick T) hr (by decide) pass_def (an_cons (pd_v 0) (an_cons (pd_v 1) an_nil)))))) (st_one st_never) st_nil))))
theorem cal_bricks_in (T : Tx K w mg) : Cal P w K mg base 1 "bricks_in" 1 phi_bricks_in := cal_of T.a_bricks_in sc_bricks_in b_bricks_in (by decide) (fun _ _ _ _ _ _ us hl => match us, hl with | [_], _ => rfl) (fun _ _ => .inr rfl) (fun f cdv A outer s H E hr => (st_one (st_ret (fd (pf_lc2 (own := [("row", 1), ("one", 2), ("at", 3)]) (vs1 := [3]) rfl sc_bricks_in.nd (i_enum T.z_enumerate (pa_cons (pd_v 0) pa_nil)) (blkOk_by (N := ["front", "row", "one", "at"]) (sc := (defScope s_bricks_in)) (by decide +kernel)) (fun _ _ _ _ _ => (g_tup rfl (gs_cons (g_name 1 sc_bricks_in.nd) (gs_cons (g_name 2 sc_bricks_in.nd) gs_nil)))) (fun _ _ _ _ _ => ts_nil) (fun _ _ _ _ _ => (i_rng1 T.z_range (fb (pf_b1 cd_len (by rfl) T.z_len bt_len (pb_v 2))))) (fun _ _ _ _ _ => (g_name 3 sc_bricks_in.nd)) (fun _ _ _ _ _ => ts_nil) (fun _ _ _ _ _ => (fd (pf_tup (pa_cons (pd_v 1) (pa_cons (pd_v 3) pa_nil))))))))))
theorem cal_over_in (T : Tx K w mg) : Cal P w K mg base 3 "over_in" 3 phi_over_in := cal_of T.a_over_in sc_over_in b_over_in (by decide) (fun _ _ _ _ _ _ us hl => match us, hl with | [_, _, _], _ => rfl) (fun _ _ => .inr rfl) (fun f cdv A outer s H E hr => (st_cons (st_bind (pd_ix (db (pd_cal (cal_spans_in T) hr (by decide) pass_def (an_cons (pd_ix (pb_v 0) (pb_v 1)) an_nil))) (pb_v 2)) (g_tup rfl (gs_cons (g_name 3 sc_over_in.nd) (gs_cons (g_name 4 sc_over_in.nd) gs_nil)))) (st_cons (st_setF 5 sc_over_in.nd (pf_lst pa_nil)) (st_cons (st_if (pt_cmp (od_gtG (u130 hr)) (pb_v 1) (fb pf_int)) (st_one (st_for own_def rfl (i_enum T.z_enumerate (pa_cons (pd_cal (cal_spans_in T) hr (by decide) pass_def (an_cons (pd_ix (pb_v 0) (fb (pf_op od_sub (pb_v 1) (fb pf_int)))) an_nil)) pa_nil)) (g_tup rfl (gs_cons (g_name 6 sc_over_in.nd) (gs_cons (g_tup rfl (gs_cons (g_name 7 sc_over_in.nd) (gs_cons (g_name 8 sc_over_in.nd) gs_nil))) gs_nil))) (st_cons (st_setF 9 sc_over_in.nd (pf_op od_sub (fb (pf_b2 (cd_min2 rfl) (by rfl) T.z_min bt_min (pb_v 4) (pb_v 8))) (fb (pf_b2 (cd_max2 rfl) (by rfl) T.z_max bt_max (pb_v 3) (pb_v 7))))) (st_one (st_ext 5 sc_over_in.nd (fb (pf_if (pt_cmp (od_gtG (u130 hr)) (pb_v 9) (fb pf_int)) (pf_lst (pa_cons (fd (pf_tup (pa_cons (pd_v 6) (pa_cons (pd_v 9) pa_nil)))) pa_nil)) (pf_lst pa_nil)))))))) st_nil) (st_one (st_frz 5 (st_ret (pd_v 5))))))))
theorem cal_laid_in (T : Tx K w mg) : Cal P w K mg base 4 "laid_in" 1 phi_laid_in := cal_of T.a_laid_in sc_laid_in b_laid_in (by decide) (fun _ _ _ _ _ _ us hl => match us, hl with | [_], _ => rfl) (fun _ _ => .inr rfl) (fun f cdv A outer s H E hr => (st_cons (st_setF 1 sc_laid_in.nd pf_dct0) (st_cons (st_for own_def rfl (i_d (pd_cal (cal_bricks_in T) hr (by decide) pass_def (an_cons (pd_v 0) an_nil))) (g_tup rfl (gs_cons (g_name 2 sc_laid_in.nd) (gs_cons (g_name 3 sc_laid_in.nd) gs_nil))) (st_one (st_put 1 (hu_of hr) (fd (pf_tup (pa_cons (pd_v 2) (pa_cons (pd_v 3) pa_nil)))) (fd (pf_lc (own := [("number", 4), ("many", 5)]) rfl sc_laid_in.nd (i_d (pd_cal (cal_over_in T) hr (by decide) pass_def (an_cons (pd_v 0) (an_cons (pd_v 2) (an_cons (pd_v 3) an_nil))))) (blkOk_by (N := ["front", "found", "row", "at", "number", "many"]) (sc := (defScope s_laid_in)) (by decide +kernel)) (fun _ _ _ _ _ => (g_tup rfl (gs_cons (g_name 4 sc_laid_in.nd) (gs_cons (g_name 5 sc_laid_in.nd) gs_nil)))) (fun _ _ _ _ _ => ts_nil) (fun _ _ _ _ _ => (fd (pf_tup (pa_cons (fd (pf_tup (pa_cons (fd (pf_op od_sub (pb_v 2) (fb pf_int))) (pa_cons (pd_v 4) pa_nil)))) (pa_cons (pd_v 5) pa_nil)))))))))) (st_one (st_frz 1 (st_ret (pd_v 1)))))))
theorem cal_lies_on (T : Tx K w mg) : Cal P w K mg base 5 "lies_on" 2 phi_lies_on := cal_of T.a_lies_on sc_lies_on b_lies_on (by decide) (fun _ _ _ _ _ _ us hl => match us, hl with | [_, _], _ => rfl) (fun _ _ => .inr rfl) (fun f cdv A outer s H E hr => (st_cons (st_expr (db (pd_cal (cal_need_brick T) hr (by decide) pass_def (an_cons (pd_v 0) (an_cons (pd_v 1) an_nil))))) (st_one (st_ret (fd (pf_t1 cd_tuple (by rfl) T.z_tuple bt_tuple (fb (pf_lc (own := [("number", 2), ("many", 3)]) rfl sc_lies_on.nd (i_d (pd_cal (cal_over_in T) hr (by decide) pass_def (an_cons (pd_v 0) (an_cons (pd_ix (pb_v 1) (fb pf_int)) (an_cons (pd_ix (pb_v 1) (fb pf_int)) an_nil))))) (blkOk_by (N := ["front", "brick", "number", "many"]) (sc := (defScope s_lies_on)) (by decide +kernel)) (fun _ _ _ _ _ => (g_tup rfl (gs_cons (g_name 2 sc_lies_on.nd) (gs_cons (g_name 3 sc_lies_on.nd) gs_nil)))) (fun _ _ _ _ _ => ts_nil) (fun _ _ _ _ _ => (fd (pf_tup (pa_cons (fd (pf_tup (pa_cons (fd (pf_op od_sub (db (pd_ix (pb_v 1) (fb pf_int))) (fb pf_int))) (pa_cons (pd_v 2) pa_nil)))) (pa_cons (pd_v 3) pa_nil)))))))))))))
theorem cal_ways_down (T : Tx K w mg) : Cal P w K mg base 5 "ways_down" 2 phi_ways_down := cal_of T.a_ways_down sc_ways_down b_ways_down (by decide) (fun _ _ _ _ _ _ us hl => match us, hl with | [_, _], _ => rfl) (fun _ _ => .inr rfl) (fun f cdv A outer s H E hr => (st_cons (st_expr (db (pd_cal (cal_need_brick T) hr (by decide) pass_def (an_cons (pd_v 0) (an_cons (pd_v 1) an_nil))))) (st_cons (st_parEFc 2 3 rfl sc_ways_down.nd (pd_cal (cal_laid_in T) hr (by decide) pass_def (an_cons (pd_v 0) an_nil)) pf_dct0) (st_cons (st_for own_def rfl (i_d (pd_cal (cal_bricks_in T) hr (by decide) pass_def (an_cons (pd_v 0) an_nil))) (g_name 4 sc_ways_down.nd) (st_one (st_put 3 (hu_of hr) (pd_v 4) (fd (pf_if (pt_cmp (od_gtG (u130 hr)) (db (pd_ix (pb_v 4) (fb pf_int))) (fb pf_int)) (pf_b1 (cd_sum rfl) (by rfl) T.z_sum bt_sum (fb (pf_lc (own := [("below", 5), ("many", 6)]) rfl sc_ways_down.nd (i_d (pd_dget (hu_of hr) (pb_v 2) (pb_v 4))) (blkOk_by (N := ["front", "brick", "laid", "found", "own", "below", "many"]) (sc := (defScope s_ways_down)) (by decide +kernel)) (fun _ _ _ _ _ => (g_tup rfl (gs_cons (g_name 5 sc_ways_down.nd) (gs_cons (g_name 6 sc_ways_down.nd) gs_nil)))) (fun _ _ _ _ _ => ts_nil) (fun _ _ _ _ _ => (pd_dget (hu_of hr) (pb_v 3) (pb_v 5)))))) pf_int))))) (st_one (st_ret (pd_dget (hu_of hr) (pb_v 3) (pb_v 1))))))))
theorem cal_first_way (T : Tx K w mg) : Cal P w K mg base 5 "first_way" 2 phi_first_way := cal_of T.a_first_way sc_first_way b_first_way (by decide) (fun _ _ _ _ _ _ us hl => match us, hl with | [_, _], _ => rfl) (fun _ _ => .inr rfl) (fun f cdv A outer s H E hr => (st_cons (st_expr (db (pd_cal (cal_need_brick T) hr (by decide) pass_def (an_cons (pd_v 0) (an_cons (pd_v 1) an_nil))))) (st_cons (st_setF 2 sc_first_way.nd (pf_lst (pa_cons (pd_v 1) pa_nil))) (st_cons (st_while fuel own_def (pt_cmp (od_gtG (u130 hr)) (db (pd_ix (db (pd_ix (pb_v 2) (fb (pf_un ud_neg (fb pf_int))))) (fb pf_int))) (fb pf_int)) (st_cons (st_bind (pd_ix (pb_v 2) (fb (pf_un ud_neg (fb pf_int)))) (g_tup rfl (gs_cons (g_name 3 sc_first_way.nd) (gs_cons (g_name 4 sc_first_way.nd) gs_nil)))) (st_one (st_app 2 (fd (pf_tup (pa_cons (fd (pf_op od_sub (pb_v 3) (fb pf_int))) (pa_cons (pd_ix (db (pd_ix (db (pd_cal (cal_over_in T) hr (by decide) pass_def (an_cons (pd_v 0) (an_cons (pd_v 3) (an_cons (pd_v 4) an_nil))))) (fb pf_int))) (fb pf_int)) pa_nil)))))))) (st_one (st_ret (fd (pf_t1 cd_tuple (by rfl) T.z_tuple bt_tuple (pb_v 2)))))))))
theorem cal_law_cup (T : Tx K w mg) : CalS P w K mg base 1 "_law_cup" phi_law_cup := calS_of T.a_law_cup sc_law_cup b_law_cup (fun _ _ _ _ _ _ us hl => match us, hl with | [_], _ => rfl) (fun _ _ => .inr rfl) (fun f cdv A outer s H E hr => (st_cons (st_setF 1 sc_law_cup.nd (pf_b1 cd_abs (by rfl) T.z_abs bt_abs (db (pd_ix (fb (pf_op od_add (fb (pf_listS 0 T.z_list bt_list)) (fb (pf_lst (pa_cons (fd pf_int) pa_nil))))) (fb pf_int))))) (st_one (st_ret (fd (pf_lst (pa_cons (fd (pf_if (pt_cmp od_ge (pb_v 1) (fb (pf_op od_pow (fb pf_int) (fb pf_int)))) (pf_op od_fdiv (pb_v 1) (fb pf_int)) pf_int)) (pa_cons (fd (pf_op od_add (fb (pf_op od_mod (fb (pf_t1 cd_int (by rfl) T.z_int bt_int (fb (pf_op od_add (fb (pf_op od_mul (pb_v 1) (fb pf_int))) (fb pf_int))))) (fb pf_int))) (fb pf_int))) pa_nil))))))))
theorem cal_law_roll (T : Tx K w mg) : CalC P w K mg base 1 "_law_roll" 1 phi_law_roll := calC_of T.a_law_roll sc_law_roll (b_law_roll) rfl (by decide) (fun _ _ _ _ _ _ us hl => match us, hl with | [_, _], _ => rfl) (fun _ _ _ => .inr rfl) (fun f cdv A outer s H E hr => (st_cons (st_if (pt_cmp od_gt (fb (pf_cup 0)) (fb pf_int)) (st_cons (st_setF 2 sc_law_roll.nd (pf_op od_mod (fb (pf_t1 cd_int (by rfl) T.z_int bt_int (fb (pf_cup 0)))) (pb_v 1))) (st_cons (st_cup 0 (fb (pf_op od_fdiv (fb (pf_cup 0)) (pb_v 1)))) (st_one (st_ret (pd_v 2))))) st_nil) (st_cons (st_cup 0 (fb (pf_op od_mod (fb (pf_t1 cd_int (by rfl) T.z_int bt_int (fb (pf_op od_add (fb (pf_op od_mul (fb (pf_cup 0)) (fb pf_int))) (fb pf_int))))) (fb pf_int)))) (st_cons (st_setF 3 sc_law_roll.nd (pf_op od_mod (fb (pf_t1 cd_int (by rfl) T.z_int bt_int (fb (pf_op od_mul (fb (pf_cup 0)) (fb (pf_op od_add (fb (pf_cup 0)) (fb pf_int))))))) (fb pf_int))) (st_one (st_ret (fd (pf_op od_mod (fb (pf_t1 cd_int (by rfl) T.z_int bt_int (fb (pf_op od_fdiv (pb_v 3) (fb pf_int))))) (pb_v 1)))))))))
theorem cal_law_some (T : Tx K w mg) : CalC P w K mg base 2 "_law_some" 1 (phi_law_some phi_law_roll) := calC_of T.a_law_some sc_law_some (b_law_some phi_law_roll) rfl (by decide) (fun _ _ _ _ _ _ us hl => match us, hl with | [_, _], _ => rfl) (fun _ _ _ => .inr rfl) (fun f cdv A outer s H E hr => (st_one (st_ret (pd_ix (pb_v 1) (db (pd_calC 0 (cal_law_roll T) hr (by decide) pass_def (an_cons (fd (pf_b1 cd_len (by rfl) T.z_len bt_len (pb_v 1))) an_nil)))))))
theorem cal_law_same_ (T : Tx K w mg) : ∀ k, Cal P w K mg base (1 + k) "_law_same" 2 (phi_law_same_ k)
  | 0 => cal_none T.a_law_same sc_law_same (fun _ _ _ _ _ _ us hl => match us, hl with | [_, _], _ => rfl)
  | k + 1 => by
    have C := cal_law_same_ T k
    exact cal_of T.a_law_same sc_law_same (b_law_same (phi_law_same_ k)) (by decide) (fun _ _ _ _ _ _ us hl => match us, hl with | [_, _], _ => rfl) (fun _ _ => .inr rfl) (fun f cdv A outer s H E hr => (st_cons (st_if (pt_e (fb (pe_isi (cd_isi isi_tup) (by rfl) T.z_isinstance bt_isinstance (pb_v 1) (by rfl) T.z_tuple bt_tuple))) (st_cons (st_if (PW.pt (pw_or (pt_not (pt_e (fb (pe_isi (cd_isi isi_tup) (by rfl) T.z_isinstance bt_isinstance (pb_v 0) (by rfl) T.z_tuple bt_tuple)))) (L2.pw_or1 (pt_cmp (od_ne hr.units) (fb (pf_b1 cd_len (by rfl) T.z_len bt_len (pb_v 0))) (fb (pf_b1 cd_len (by rfl) T.z_len bt_len (pb_v 1))))))) (st_one (st_ret (fd pf_bl))) st_nil) (st_one (st_ret (fd (pf_b1 (cd_all rfl) (by rfl) T.z_all bt_all (fb (pf_lc (own := [("at", 2)]) rfl sc_law_same.nd (i_rng1 T.z_range (fb (pf_b1 cd_len (by rfl) T.z_len bt_len (pb_v 1)))) (blkOk_by (N := ["told", "due", "at"]) (sc := (defScope s_law_same)) (by decide +kernel)) (fun _ _ _ _ _ => (g_name 2 sc_law_same.nd)) (fun _ _ _ _ _ => ts_nil) (fun _ _ _ _ _ => (pd_cal C hr (Nat.le_refl _) L2.passL (an_cons (pd_ix (pb_v 0) (pb_v 2)) (an_cons (pd_ix (pb_v 1) (pb_v 2)) an_nil))))))))))) st_nil) (st_cons (st_if (pt_cmp od_is (pb_v 1) (fb pf_non)) (st_one (st_ret (fd (pf_cmp od_is (pb_v 0) (fb pf_non))))) st_nil) (st_cons (st_if (pt_e (fb (pe_isi (cd_isi isi_bool) (by rfl) T.z_isinstance bt_isinstance (pb_v 1) (by rfl) T.z_bool bt_bool))) (st_one (st_ret (fd (pf_if (pt_e (pb_v 1)) (pf_cmp od_is (pb_v 0) (fb pf_bl)) (pf_cmp od_is (pb_v 0) (fb pf_bl)))))) st_nil) (st_cons (st_if (pt_e (fb (pe_isi (cd_isi isi_int) (by rfl) T.z_isinstance bt_isinstance (pb_v 1) (by rfl) T.z_int bt_int))) (st_one (st_ret (fd (pf_and (fb (pe_isi (cd_isi isi_int) (by rfl) T.z_isinstance bt_isinstance (pb_v 0) (by rfl) T.z_int bt_int)) (pf_and (fb (pf_not (fb (pe_isi (cd_isi isi_bool) (by rfl) T.z_isinstance bt_isinstance (pb_v 0) (by rfl) T.z_bool bt_bool)))) (pe_one (pf_cmp (od_eq hr.units) (fb (pf_t1 cd_int (by rfl) T.z_int bt_int (pb_v 0))) (pb_v 1)))))))) st_nil) (st_one (st_ret (fd (pf_and (fb (pe_isi (cd_isi isi_str) (by rfl) T.z_isinstance bt_isinstance (pb_v 0) (by rfl) T.z_str bt_str)) (pe_one (pf_cmp (od_eq hr.units) (fb (pf_t1 cd_str (by rfl) T.z_str bt_str (pb_v 0))) (pb_v 1))))))))))))
theorem cal_law_same (T : Tx K w mg) : Cal P w K mg base 9 "_law_same" 2 phi_law_same := cal_law_same_ T 8
theorem cal_law_size (T : Tx K w mg) : Cal P w K mg base 1 "_law_size" 1 phi_law_size := cal_of T.a_law_size sc_law_size b_law_size (by decide) (fun _ _ _ _ _ _ us hl => match us, hl with | [_], _ => rfl) (fun _ _ => .inr rfl) (fun f cdv A outer s H E hr => (st_one (st_ret (fd (pf_b1 (cd_sum rfl) (by rfl) T.z_sum bt_sum (fb (pf_lc (own := [("sign", 1)]) rfl sc_law_size.nd (i_d (pd_v 0)) (blkOk_by (N := ["course", "sign"]) (sc := (defScope s_law_size)) (by decide +kernel)) (fun _ _ _ _ _ => (g_name 1 sc_law_size.nd)) (fun _ _ _ _ _ => ts_nil) (fun _ _ _ _ _ => (pd_dget (hu_of hr) (fb (pf_lit [("s", 4), ("t", 3), ("h", 2), ("q", 1)] (pps_cons pe_str pe_int (pps_cons pe_str pe_int (pps_cons pe_str pe_int (pps_cons pe_str pe_int pps_nil)))) rfl (by decide))) (pb_v 1))))))))))
theorem cal_law_row (T : Tx K w mg) : CalC P w K mg base 3 "_law_row" 1 (phi_law_row phi_law_roll) := calC_of T.a_law_row sc_law_row (b_law_row phi_law_roll) rfl (by decide) (fun _ _ _ _ _ _ us hl => match us, hl with | [_, _], _ => rfl) (fun _ _ _ => .inr rfl) (fun f cdv A outer s H E hr => (st_cons (st_bind (fd (pf_tup (pa_cons (fd pf_str) (pa_cons (pd_v 1) pa_nil)))) (g_tup rfl (gs_cons (g_name 2 sc_law_row.nd) (gs_cons (g_name 3 sc_law_row.nd) gs_nil)))) (st_cons (st_while fuel own_def (pt_cmp (od_gtG (u130 hr)) (pb_v 3) (fb pf_int)) (st_cons (st_setE 4 sc_law_row.nd (pd_calC 0 (cal_law_some T) hr (by decide) pass_def (an_cons (fd (pf_lc (own := [("one", 5)]) rfl sc_law_row.nd (i_d (fd pf_str)) (blkOk_by (N := ["cup", "length", "found", "left", "sign", "one"]) (sc := (defScope s_law_row)) (by decide +kernel)) (fun _ _ _ _ _ => (g_name 5 sc_law_row.nd)) (fun _ _ _ _ _ => (ts_one (pt_cmp od_le (db (pd_cal (cal_law_size T) hr (by decide) L2.passL (an_cons (pd_v 5) an_nil))) (pb_v 3)))) (fun _ _ _ _ _ => (pd_v 5)))) an_nil))) (st_one (st_frz 4 (st_bind (fd (pf_tup (pa_cons (fd (pf_op od_add (pb_v 2) (pb_v 4))) (pa_cons (fd (pf_op od_sub (pb_v 3) (db (pd_cal (cal_law_size T) hr (by decide) pass_def (an_cons (pd_v 4) an_nil))))) pa_nil)))) (g_tup rfl (gs_cons (g_name 2 sc_law_row.nd) (gs_cons (g_name 3 sc_law_row.nd) gs_nil)))))))) (st_one (st_ret (pd_v 2))))))
theorem cal_law_front (T : Tx K w mg) : CalC P w K mg base 4 "_law_front" 2 (phi_law_front phi_law_roll) := calC_of T.a_law_front sc_law_front (b_law_front phi_law_roll) rfl (by decide) (fun _ _ _ _ _ _ us hl => match us, hl with | [_, _, _], _ => rfl) (fun _ _ _ => .inr rfl) (fun f cdv A outer s H E hr => (st_cons (st_setF 3 sc_law_front.nd (pf_op od_add (fb pf_int) (db (pd_calC 0 (cal_law_roll T) hr (by decide) pass_def (an_cons (pd_v 2) an_nil))))) (st_one (st_ret (fd (pf_t1 cd_tuple (by rfl) T.z_tuple bt_tuple (fb (pf_lc (own := [("course", 4)]) rfl sc_law_front.nd (i_rng1 T.z_range (fb (pf_op od_add (fb pf_int) (db (pd_calC 0 (cal_law_roll T) hr (by decide) pass_def (an_cons (pd_v 1) an_nil)))))) (blkOk_by (N := ["cup", "high", "most", "length", "course"]) (sc := (defScope s_law_front)) (by decide +kernel)) (fun _ _ _ _ _ => (g_name 4 sc_law_front.nd)) (fun _ _ _ _ _ => ts_nil) (fun _ _ _ _ _ => (pd_calC 0 (cal_law_row T) hr (by decide) L2.passL (an_cons (pd_v 3) an_nil)))))))))))
theorem cal_law_bricks (T : Tx K w mg) : Cal P w K mg base 2 "_law_bricks" 1 phi_law_bricks := cal_of T.a_law_bricks sc_law_bricks b_law_bricks (by decide) (fun _ _ _ _ _ _ us hl => match us, hl with | [_], _ => rfl) (fun _ _ => .inr rfl) (fun f cdv A outer s H E hr => (st_cons (st_setF 1 sc_law_bricks.nd (pf_lst pa_nil)) (st_cons (st_for own_def rfl (i_rng1 T.z_range (fb (pf_b1 cd_len (by rfl) T.z_len bt_len (pb_v 0)))) (g_name 2 sc_law_bricks.nd) (st_cons (st_setE 3 sc_law_bricks.nd (pd_ix (pb_v 0) (pb_v 2))) (st_one (st_for own_def rfl (i_rng1 T.z_range (fb (pf_b1 cd_len (by rfl) T.z_len bt_len (pb_v 3)))) (g_name 4 sc_law_bricks.nd) (st_one (st_app 1 (fd (pf_tup (pa_cons (pd_v 2) (pa_cons (pd_v 4) (pa_cons (pd_cal (cal_law_size T) hr (by decide) pass_def (an_cons (fd (pf_sl (pb_v 3) po_no (po_at (pb_v 4)))) an_nil)) (pa_cons (pd_cal (cal_law_size T) hr (by decide) pass_def (an_cons (fd (pf_sl (pb_v 3) po_no (po_at (fb (pf_op od_add (pb_v 4) (fb pf_int)))))) an_nil)) pa_nil)))))))))))) (st_one (st_frz 1 (st_ret (pd_v 1)))))))
theorem cal_law_laid (T : Tx K w mg) : Cal P w K mg base 3 "_law_laid" 1 phi_law_laid := cal_of T.a_law_laid sc_law_laid b_law_laid (by decide) (fun _ _ _ _ _ _ us hl => match us, hl with | [_], _ => rfl) (fun _ _ => .inr rfl) (fun f cdv A outer s H E hr => (st_cons (st_parEF 1 2 rfl sc_law_laid.nd (by decide) (pd_cal (cal_law_bricks T) hr (by decide) pass_def (an_cons (pd_v 0) an_nil)) pf_dct0) (st_cons (st_for own_def rfl (i_d (pd_v 1)) (g_tup rfl (gs_cons (g_name 3 sc_law_laid.nd) (gs_cons (g_name 4 sc_law_laid.nd) (gs_cons (g_name 5 sc_law_laid.nd) (gs_cons (g_name 6 sc_law_laid.nd) gs_nil))))) (st_cons (st_put 2 (hu_of hr) (fd (pf_tup (pa_cons (pd_v 3) (pa_cons (pd_v 4) pa_nil)))) (fd (pf_lst pa_nil))) (st_one (st_for own_def rfl (i_d (pd_v 1)) (g_tup rfl (gs_cons (g_name 7 sc_law_laid.nd) (gs_cons (g_name 8 sc_law_laid.nd) (gs_cons (g_name 9 sc_law_laid.nd) (gs_cons (g_name 10 sc_law_laid.nd) gs_nil))))) (st_cons (st_setF 11 sc_law_laid.nd (pf_op od_sub (fb (pf_b2 (cd_min2 rfl) (by rfl) T.z_min bt_min (pb_v 6) (pb_v 10))) (fb (pf_b2 (cd_max2 rfl) (by rfl) T.z_max bt_max (pb_v 5) (pb_v 9))))) (st_one (st_if (PW.pt (pw_and (pt_cmp (od_eq hr.units) (pb_v 7) (fb (pf_op od_sub (pb_v 3) (fb pf_int)))) (L2.pw_and1 (pt_cmp (od_gtG (u130 hr)) (pb_v 11) (fb pf_int))))) (st_one (st_put 2 (hu_of hr) (fd (pf_tup (pa_cons (pd_v 3) (pa_cons (pd_v 4) pa_nil)))) (fd (pf_op od_add (db (pd_dget (hu_of hr) (pb_v 2) (fb (pf_tup (pa_cons (pd_v 3) (pa_cons (pd_v 4) pa_nil)))))) (fb (pf_lst (pa_cons (fd (pf_tup (pa_cons (fd (pf_tup (pa_cons (pd_v 7) (pa_cons (pd_v 8) pa_nil)))) (pa_cons (pd_v 11) pa_nil)))) pa_nil))))))) st_nil))))))) (st_one (st_frz 2 (st_ret (pd_v 2)))))))
theorem cal_law_ways (T : Tx K w mg) : Cal P w K mg base 1 "_law_ways" 2 phi_law_ways := cal_of T.a_law_ways sc_law_ways b_law_ways (by decide) (fun _ _ _ _ _ _ us hl => match us, hl with | [_, _], _ => rfl) (fun _ _ => .inr rfl) (fun f cdv A outer s H E hr => (st_cons (st_par 2 3 rfl sc_law_ways.nd (by decide) (pf_lst pa_nil) (pf_lst (pa_cons (fd (pf_tup (pa_cons (pd_v 1) pa_nil))) pa_nil))) (st_cons (st_while fuel own_def (pt_cmp (od_ne hr.units) (pb_v 3) (fb (pf_lst pa_nil))) (st_cons (st_frz 3 (st_setF 2 sc_law_ways.nd (pf_op od_add (pb_v 2) (fb (pf_lc (own := [("way", 5)]) rfl sc_law_ways.nd (i_d (pd_v 3)) (blkOk_by (N := ["laid", "brick", "found", "line", "later", "way", "below", "many"]) (sc := (defScope s_law_ways)) (by decide +kernel)) (fun _ _ _ _ _ => (g_name 5 sc_law_ways.nd)) (fun _ _ _ _ _ => (ts_one (pt_cmp (od_eq hr.units) (db (pd_ix (db (pd_ix (pb_v 5) (fb (pf_un ud_neg (fb pf_int))))) (fb pf_int))) (fb pf_int)))) (fun _ _ _ _ _ => (pd_v 5))))))) (st_cons (st_setF 4 sc_law_ways.nd (pf_lst pa_nil)) (st_cons (st_frz 3 (st_for own_def rfl (i_d (pd_v 3)) (g_name 5 sc_law_ways.nd) (st_one (st_setF 4 sc_law_ways.nd (pf_op od_add (pb_v 4) (fb (pf_lc (own := [("below", 6), ("many", 7)]) rfl sc_law_ways.nd (i_d (pd_dget (hu_of hr) (pb_v 0) (db (pd_ix (pb_v 5) (fb (pf_un ud_neg (fb pf_int))))))) (blkOk_by (N := ["laid", "brick", "found", "line", "later", "way", "below", "many"]) (sc := (defScope s_law_ways)) (by decide +kernel)) (fun _ _ _ _ _ => (g_tup rfl (gs_cons (g_name 6 sc_law_ways.nd) (gs_cons (g_name 7 sc_law_ways.nd) gs_nil)))) (fun _ _ _ _ _ => ts_nil) (fun _ _ _ _ _ => (fd (pf_op od_add (pb_v 5) (fb (pf_tup (pa_cons (pd_v 6) pa_nil))))))))))))) (st_one (st_frz 4 (st_setE 3 sc_law_ways.nd (pd_v 4)))))))) (st_one (st_ret (fd (pf_b1 (cd_sorted (u130 hr)) (by rfl) T.z_sorted bt_sorted (pb_v 2))))))))
theorem cal_law_right (T : Tx K w mg) : CalC P w K mg base 10 "_law_right" 0 (phi_law_right phi_law_roll) := calC_of T.a_law_right sc_law_right (b_law_right phi_law_roll) rfl (by decide) (fun _ _ _ _ _ _ us hl => match us, hl with | [_], _ => rfl) (fun _ _ _ => .inr rfl) (fun f cdv A outer s H E hr => (st_cons (st_setE 1 sc_law_right.nd (pd_calC 0 (cal_law_front T) hr (by decide) pass_def (an_cons (fd pf_int) (an_cons (fd pf_int) an_nil)))) (st_cons (st_frz 1 (st_setE 2 sc_law_right.nd (pd_cal (cal_law_laid T) hr (by decide) pass_def (an_cons (pd_v 1) an_nil)))) (st_cons (st_setE 3 sc_law_right.nd (pd_calC 0 (cal_law_some T) hr (by decide) pass_def (an_cons (fd (pf_b1 (cd_sortedD rfl (u130 hr)) (by rfl) T.z_sorted bt_sorted (pb_v 2))) an_nil))) (st_cons (st_frz 3 (st_frz 2 (st_setE 4 sc_law_right.nd (pd_cal (cal_law_ways T) hr (by decide) pass_def (an_cons (pd_v 2) (an_cons (pd_v 3) an_nil)))))) (st_cons (st_frz 3 (st_frz 1 (st_if (pt_not (pt_e (db (pd_cal (cal_law_same T) hr (by decide) pass_def (an_cons (fd (pf_tup (pa_cons (pd_cal (cal_ways_down T) hr (by decide) pass_def (an_cons (pd_v 1) (an_cons (pd_v 3) an_nil))) (pa_cons (pd_cal (cal_first_way T) hr (by decide) pass_def (an_cons (pd_v 1) (an_cons (pd_v 3) an_nil))) pa_nil)))) (an_cons (fd (pf_tup (pa_cons (fd (pf_b1 cd_len (by rfl) T.z_len bt_len (pb_v 4))) (pa_cons (pd_ix (pb_v 4) (fb pf_int)) pa_nil)))) an_nil)))))) (st_one (st_ret (fd pf_bl))) st_nil))) (st_cons (st_frz 3 (st_frz 1 (st_setE 5 sc_law_right.nd (pd_cal (cal_first_way T) hr (by decide) pass_def (an_cons (pd_v 1) (an_cons (pd_v 3) an_nil)))))) (st_one (st_frz 1 (st_ret (fd (pf_cmp (od_eq hr.units) (fb (pf_lc (own := [("at", 6)]) rfl sc_law_right.nd (i_rng1 T.z_range (fb (pf_op od_sub (fb (pf_b1 cd_len (by rfl) T.z_len bt_len (pb_v 5))) (fb pf_int)))) (blkOk_by (N := ["cup", "front", "laid", "brick", "ways", "way", "at", "low", "many"]) (sc := (defScope s_law_right)) (by decide +kernel)) (fun _ _ _ _ _ => (g_name 6 sc_law_right.nd)) (fun _ _ _ _ _ => (ts_one (pt_cmpN rfl (od_nin (u65 hr)) (db (pd_ix (pb_v 5) (fb (pf_op od_add (pb_v 6) (fb pf_int))))) (fb (pf_lc (own := [("low", 7), ("many", 8)]) rfl sc_law_right.nd (i_d (pd_cal (cal_lies_on T) hr (by decide) L2.passL (an_cons (pd_v 1) (an_cons (pd_ix (pb_v 5) (pb_v 6)) an_nil)))) (blkOk_by (N := ["cup", "front", "laid", "brick", "ways", "way", "at", "low", "many"]) (sc := (relS _ (defScope s_law_right))) (by decide +kernel)) (fun _ _ _ _ _ => (g_tup rfl (gs_cons (g_name 7 sc_law_right.nd) (gs_cons (g_name 8 sc_law_right.nd) gs_nil)))) (fun _ _ _ _ _ => ts_nil) (fun _ _ _ _ _ => (pd_v 7))))))) (fun _ _ _ _ _ => (pd_v 6)))) (fb (pf_lst pa_nil))))))))))))))
theorem ok_law {ff : Addr} {ffd : FuncData} (F : Fun K "law" "law" s_law ff ffd) (T : Tx K w mg) (hlaw : ∀ ns : List Int, ns.length ≤ 63 → ∃ a b c, phi_law_cup ns = .ok (.list [.int a, .int b]) ∧ b_law ⟨(a, b), .no :: .cup :: List.replicate 6 .no⟩ = .ret (.bool true) c) : FnOk P w K mg base (L2.CX P w) 11 ff ffd ["script"] (spLaw K) :=
  law_of F rfl sc_law b_law rfl (cal_law_cup T) (by decide) rfl (.inl rfl) (by first | exact .inl rfl | exact .inr rfl) (by decide) rfl (fun env he => by rfl) hlaw (fun cdv A outer s H E hr => (st_cons (st_for own_def rfl (i_rng1 T.z_range (fb pf_int)) (g_name 2 sc_law.nd) (st_one (st_if (pt_not (pt_e (db (pd_calC 1 (cal_law_right T) hr (by decide) pass_def an_nil)))) (st_one (st_ret (fd pf_bl))) st_nil))) (st_cons (st_setF 3 sc_law.nd (pf_op od_add (fb pf_int) (db (pd_calC 1 (cal_law_roll T) hr (by decide) pass_def (an_cons (fd pf_int) an_nil))))) (st_cons (st_setF 4 sc_law.nd (pf_t1 cd_tuple (by rfl) T.z_tuple bt_tuple (fb (pf_lc (own := [("at", 7)]) rfl sc_law.nd (i_rng1 T.z_range (pb_v 3)) (blkOk_by (N := ["script", "cup", "turn", "high", "front", "ways", "course", "at"]) (sc := (defScope s_law)) (by decide +kernel)) (fun _ _ _ _ _ => (g_name 7 sc_law.nd)) (fun _ _ _ _ _ => ts_nil) (fun _ _ _ _ _ => (fd (pf_if (pt_cmp (od_eq hr.units) (fb (pf_op od_mulX (fb (pf_op od_fdiv (pb_v 7) (fb pf_int))) (fb pf_int))) (pb_v 7)) (pf_op od_mulX (fb pf_str) (fb pf_int)) (pf_op od_add (fb (pf_op od_add (fb pf_str) (fb (pf_op od_mulX (fb pf_str) (fb pf_int))))) (fb pf_str))))))))) (st_cons (st_setF 5 sc_law.nd pf_int) (st_cons (st_for own_def rfl (i_rng1 T.z_range (fb (pf_op od_sub (pb_v 3) (fb pf_int)))) (g_name 6 sc_law.nd) (st_one (st_setF 5 sc_law.nd (pf_op od_mulX (fb pf_int) (pb_v 5))))) (st_one (st_ret (pd_cal (cal_law_same T) hr (by decide) pass_def (an_cons (fd (pf_tup (pa_cons (pd_cal (cal_ways_down T) hr (by decide) pass_def (an_cons (pd_v 4) (an_cons (fd (pf_tup (pa_cons (fd (pf_op od_sub (pb_v 3) (fb pf_int))) (pa_cons (fd pf_int) pa_nil)))) an_nil))) (pa_cons (fd (pf_b1 cd_len (by rfl) T.z_len bt_len (db (pd_cal (cal_first_way T) hr (by decide) pass_def (an_cons (pd_v 4) (an_cons (fd (pf_tup (pa_cons (fd (pf_op od_sub (pb_v 3) (fb pf_int))) (pa_cons (fd pf_int) pa_nil)))) an_nil)))))) pa_nil)))) (an_cons (fd (pf_tup (pa_cons (pd_v 5) (pa_cons (pd_v 3) pa_nil)))) an_nil)))))))))))
end
end Pu
end

noncomputable section
set_option Elab.async false
set_option linter.all false
set_option maxRecDepth 100000
set_option maxHeartbeats 2000000
namespace Pu
open PySem PySem.Spec L2

@[irreducible] def F_law_size (course_1 : (List Sg)) : Int := (course_1.map fun (sign_1 : Sg) => sign_1.size).sum
@[irreducible] def Ok_law_size (course_1 : (List Sg)) : Prop := course_1.length ≤ 16777216
theorem r_law_size (course_1 : (List Sg)) (h : Ok_law_size course_1) : phi_law_size [cS.enc course_1] = .ok (cI.enc (F_law_size course_1)) := by
  unfold F_law_size
  unfold Ok_law_size at h
  exact fin_tr (L := [.at (.fz (cS.enc course_1)), .no]) ((tr_ret (tm_m1 (tm_lc0 (c := cI) (xs := course_1) (f := fun (sign_1 : Sg) => sign_1.size) (tm_I (tm_fe 0) o_iterS) (fun sign_1 hsign_1 => ⟨_, (tb_name 1), (tm_m2 tm_rt (tm_fz 1) (o_lit Sg.size (by intro g; cases g <;> rfl)))⟩) h) o_sumL))) ⟨rfl, trivial, trivial⟩
@[irreducible] def W_law_row (length_1 : Int) (Q : (List Sg) → Prop) : Prop := (let w_1 : ((List Sg) × Int) := ([], length_1); (WWh (w_1.1, w_1.2) (fun (st_1 : (List Sg) × Int) => (decide (0 < st_1.2))) (fun (st_1 : (List Sg) × Int) => True) (fun (st_1 : (List Sg) × Int) Q => (([Sg.s, Sg.h, Sg.t, Sg.q].length ≤ 16777216 ∧ (∀ one_1 ∈ [Sg.s, Sg.h, Sg.t, Sg.q], Ok_law_size [one_1])) ∧ (Wsome (([Sg.s, Sg.h, Sg.t, Sg.q].filter fun (one_1 : Sg) => (decide ((F_law_size [one_1]) ≤ st_1.2))).map fun (one_1 : Sg) => one_1) fun v_1 => (let sign_1 : Sg := v_1; ((st_1.1.length + [sign_1].length ≤ 16777216 ∧ Ok_law_size [sign_1]) ∧ (let w_2 : ((List Sg) × Int) := ((st_1.1 ++ [sign_1]), (st_1.2 - (F_law_size [sign_1]))); Q (w_2.1, w_2.2))))))) fuel fun st_2 => Q st_2.1))
theorem w_law_row {phi_law_roll : Int × Int → List D → R D} (hr : RollOk phi_law_roll) (length_1 : Int) : WF (phi_law_row phi_law_roll) [cI.enc length_1] cS (W_law_row length_1) := fun c0 Q hc hp => by
  unfold W_law_row at hp
  exact finC_wx (L := [.at .cup, .at (.fz (cI.enc length_1)), .no, .no, .no, .no]) ((wx_wk (L1 := [.at .cup, .at (.fz (cI.enc length_1)), .no, .no, .no, .no]) ⟨wi, wi, wn, wn, wn, wn, trivial⟩ (wx_pure (tn_bind (tm_tupP2 (c1 := cS) (c2 := cI) (tm_str (z := "") [] rfl) (tm_fe 1)) (tb_tup (tg_cons (tb_name 2) (tg_cons (tb_name 3) tg_nil)))) (let w_1 : ((List Sg) × Int) := ([], length_1); (wx_wk (L1 := [.at .cup, .at (.fz (cI.enc length_1)), .at (.fz (cS.enc w_1.1)), .at (.fz (cI.enc w_1.2)), .no, .no]) ⟨wi, wi, wi, wi, wn, wn, trivial⟩ (wx_while (Wb := (fun (st_1 : (List Sg) × Int) Q => (([Sg.s, Sg.h, Sg.t, Sg.q].length ≤ 16777216 ∧ (∀ one_1 ∈ [Sg.s, Sg.h, Sg.t, Sg.q], Ok_law_size [one_1])) ∧ (Wsome (([Sg.s, Sg.h, Sg.t, Sg.q].filter fun (one_1 : Sg) => (decide ((F_law_size [one_1]) ≤ st_1.2))).map fun (one_1 : Sg) => one_1) fun v_1 => (let sign_1 : Sg := v_1; ((st_1.1.length + [sign_1].length ≤ 16777216 ∧ Ok_law_size [sign_1]) ∧ (let w_2 : ((List Sg) × Int) := ((st_1.1 ++ [sign_1]), (st_1.2 - (F_law_size [sign_1]))); Q (w_2.1, w_2.2)))))))) (st0 := (w_1.1, w_1.2)) (Pv := fun st_2 => Q st_2.1) (fun (st_1 : (List Sg) × Int) E => ((E.set 2 (.at (.fz (cS.enc st_1.1)))).set 3 (.at (.fz (cI.enc st_1.2))))) [.at .cup, .at (.fz (cI.enc length_1)), .no, .no, .no, .no] (fun (st_1 : (List Sg) × Int) => (decide (0 < st_1.2))) (fun (st_1 : (List Sg) × Int) => True) ⟨wi, wi, wi, wi, wn, wn, trivial⟩ (fun st_1 h => (tm_mB (tm_m2 (tm_fz 3) (tm_int 0) o_gtI))) (fun st_1 Q => (wx_wk (L1 := [.at .cup, .at (.fz (cI.enc length_1)), .at (.fz (cS.enc st_1.1)), .at (.fz (cI.enc st_1.2)), .no, .no]) ⟨wi, wi, wi, wi, wn, wn, trivial⟩ (wx_setE 4 (c := cG) (W := fun Q => (([Sg.s, Sg.h, Sg.t, Sg.q].length ≤ 16777216 ∧ (∀ one_1 ∈ [Sg.s, Sg.h, Sg.t, Sg.q], Ok_law_size [one_1])) ∧ (Wsome (([Sg.s, Sg.h, Sg.t, Sg.q].filter fun (one_1 : Sg) => (decide ((F_law_size [one_1]) ≤ st_1.2))).map fun (one_1 : Sg) => one_1) fun v_2 => Q v_2))) (Pv := fun sign_1 => ((st_1.1.length + [sign_1].length ≤ 16777216 ∧ Ok_law_size [sign_1]) ∧ (let w_2 : ((List Sg) × Int) := ((st_1.1 ++ [sign_1]), (st_1.2 - (F_law_size [sign_1]))); Q (w_2.1, w_2.2)))) (wg_callC 0 (c := cG) (Wf := (fun (p : (List Sg) × Unit) => Wsome p.1)) (wg_cons (wg_c (enc := (cL cG).enc) (x := (([Sg.s, Sg.h, Sg.t, Sg.q].filter fun (one_1 : Sg) => (decide ((F_law_size [one_1]) ≤ st_1.2))).map fun (one_1 : Sg) => one_1)) (fun h => (tm_lc (c := cG) (xs := [Sg.s, Sg.h, Sg.t, Sg.q]) (p := fun (one_1 : Sg) => (decide ((F_law_size [one_1]) ≤ st_1.2))) (f := fun (one_1 : Sg) => one_1) (tm_I (tm_str (z := "shtq") [Sg.s, Sg.h, Sg.t, Sg.q] rfl) o_iterS) (fun one_1 hone_1 => ⟨_, (tb_name 5), (tm_mB (tm_m2 (tm_call (tm_acons (tm_gs (tm_fe 5)) tm_anil) (r_law_size _ (h.2 one_1 hone_1))) (tm_fz 3) o_leI)), fun hp_1 => (tm_fe 5)⟩) h.1))) wg_nil) (fun (p : (List Sg) × Unit) => w_someL hr (c := cG) p.1)) (fun sign_1 => (wx_wk (L1 := [.at .cup, .at (.fz (cI.enc length_1)), .at (.fz (cS.enc st_1.1)), .at (.fz (cI.enc st_1.2)), .at (.fz (cG.enc sign_1)), .no]) ⟨wi, wi, wi, wi, wi, wn, trivial⟩ (wx_last (wx_pureC (fun h => (tx_frN 4 (tn_bind (tm_tupP2 (c1 := cS) (c2 := cI) (tm_m2 (tm_fz 2) (tm_gs (tm_fz 4)) (o_addS h.1)) (tm_m2 (tm_fz 3) (tm_call (tm_acons (tm_gs (tm_fe 4)) tm_anil) (r_law_size _ h.2)) o_subI)) (tb_tup (tg_cons (tb_name 2) (tg_cons (tb_name 3) tg_nil)))))) (let w_2 : ((List Sg) × Int) := ((st_1.1 ++ [sign_1]), (st_1.2 - (F_law_size [sign_1]))); (wx_next (Q := Q) (w_2.1, w_2.2) ⟨wi, wi, wi, wi, wn, wn, trivial⟩))))))))) (fun st_2 => (wx_wk (L1 := [.at .cup, .at (.fz (cI.enc length_1)), .at (.fz (cS.enc st_2.1)), .at (.fz (cI.enc st_2.2)), .no, .no]) ⟨wi, wi, wi, wi, wn, wn, trivial⟩ (wx_ret (W := fun Q => Q st_2.1) (wg_p (enc := cS.enc) (x := st_2.1) (tm_fe 2))))))))))) hp hc ⟨rfl, rfl, trivial, trivial, trivial, trivial, trivial⟩
@[irreducible] def W_law_front (high_1 : Int) (most_1 : Int) (Q : (List (List Sg)) → Prop) : Prop := (Wroll most_1 fun v_4 => (let length_1 : Int := (1 + v_4); (Wroll high_1 fun v_2 => ((-100000000 < (1 + v_2) ∧ (1 + v_2) < 100000000) ∧ ((irange 0 (1 + v_2)).length ≤ 16777216 ∧ Wall (irange 0 (1 + v_2)) (fun course_1 Q => (W_law_row length_1 fun v_1 => Q v_1)) fun ys_1 => Q ys_1)))))
theorem w_law_front {phi_law_roll : Int × Int → List D → R D} (hr : RollOk phi_law_roll) (high_1 : Int) (most_1 : Int) : WF (phi_law_front phi_law_roll) [cI.enc high_1, cI.enc most_1] (cT cS) (W_law_front high_1 most_1) := fun c0 Q hc hp => by
  unfold W_law_front at hp
  exact finC_wx (L := [.at .cup, .at (.fz (cI.enc high_1)), .at (.fz (cI.enc most_1)), .no, .no]) ((wx_wk (L1 := [.at .cup, .at (.fz (cI.enc high_1)), .at (.fz (cI.enc most_1)), .no, .no]) ⟨wi, wi, wi, wn, wn, trivial⟩ (wx_setF 3 (c := cI) (W := fun Q => (Wroll most_1 fun v_5 => Q (1 + v_5))) (Pv := fun length_1 => (Wroll high_1 fun v_2 => ((-100000000 < (1 + v_2) ∧ (1 + v_2) < 100000000) ∧ ((irange 0 (1 + v_2)).length ≤ 16777216 ∧ Wall (irange 0 (1 + v_2)) (fun course_1 Q => (W_law_row length_1 fun v_1 => Q v_1)) fun ys_1 => Q ys_1)))) sI (wg_m2t (e3 := cI.enc) (f := fun u_1 u_2 => (u_1 + u_2)) (wg_p (enc := cI.enc) (x := 1) (tm_int 1)) (wg_callC 0 (c := cI) (Wf := (fun (p : Int × Unit) => Wroll p.1)) (wg_cons (wg_p (enc := cI.enc) (x := most_1) (tm_fe 2)) wg_nil) (fun (p : Int × Unit) => w_roll hr p.1)) (fun u_1 u_2 => o_addI)) (fun length_1 => (wx_wk (L1 := [.at .cup, .at (.fz (cI.enc high_1)), .at (.fz (cI.enc most_1)), .at (.fz (cI.enc length_1)), .no]) ⟨wi, wi, wi, wi, wn, trivial⟩ (wx_ret (W := fun Q => (Wroll high_1 fun v_3 => ((-100000000 < (1 + v_3) ∧ (1 + v_3) < 100000000) ∧ ((irange 0 (1 + v_3)).length ≤ 16777216 ∧ Wall (irange 0 (1 + v_3)) (fun course_1 Q => (W_law_row length_1 fun v_1 => Q v_1)) fun ys_2 => Q ys_2)))) (wg_m1t (e2 := (cT cS).enc) (f := fun u_5 => u_5) (wg_lc0 (c := cS) (We := (fun course_1 Q => (W_law_row length_1 fun v_1 => Q v_1))) (wg_I (e2 := List.map cI.enc) (ok := fun u => (-100000000 < u ∧ u < 100000000)) (f := fun u => irange 0 u) (wg_m2t (e3 := cI.enc) (f := fun u_3 u_4 => (u_3 + u_4)) (wg_p (enc := cI.enc) (x := 1) (tm_int 1)) (wg_callC 0 (c := cI) (Wf := (fun (p : Int × Unit) => Wroll p.1)) (wg_cons (wg_p (enc := cI.enc) (x := high_1) (tm_fe 1)) wg_nil) (fun (p : Int × Unit) => w_roll hr p.1)) (fun u_3 u_4 => o_addI)) (fun u h => o_rng1 h)) (fun course_1 => ⟨_, (tb_name 4), (wg_callC 0 (c := cS) (Wf := (fun (p : Int × Unit) => W_law_row p.1)) (wg_cons (wg_p (enc := cI.enc) (x := length_1) (tm_fe 3)) wg_nil) (fun (p : Int × Unit) => w_law_row hr p.1))⟩)) (fun u_5 => (o_tup (c := cS)))))))))) hp hc ⟨rfl, rfl, rfl, trivial, trivial, trivial⟩
def F_law_bricks_2_s (one_1 : (List Sg)) (x_1 : Int) (st_2 : (List (Int × Int × Int × Int))) (x_2 : Int) : (List (Int × Int × Int × Int)) := (let found_1 : (List (Int × Int × Int × Int)) := (st_2 ++ [(x_1, x_2, (F_law_size (cut one_1 none (some x_2))), (F_law_size (cut one_1 none (some (x_2 + 1)))))]); (found_1))
def Ok_law_bricks_2_s (one_1 : (List Sg)) (x_1 : Int) (st_2 : (List (Int × Int × Int × Int))) (x_2 : Int) : Prop := (one_1.length ≤ 16777216 ∧ Ok_law_size (cut one_1 none (some x_2)) ∧ Ok_law_size (cut one_1 none (some (x_2 + 1))) ∧ st_2.length < 16777216)
def F_law_bricks_1_s (front_1 : (List (List Sg))) (st_1 : (List (Int × Int × Int × Int))) (x_1 : Int) : (List (Int × Int × Int × Int)) := (let one_1 : (List Sg) := (ixG front_1 x_1); (let st_3 : (List (Int × Int × Int × Int)) := ((irange 0 (one_1.length : Int)).foldl (F_law_bricks_2_s one_1 x_1) (st_1)); (st_3)))
def Ok_law_bricks_1_s (front_1 : (List (List Sg))) (st_1 : (List (Int × Int × Int × Int))) (x_1 : Int) : Prop := (IxOk front_1 x_1 ∧ (let one_1 : (List Sg) := (ixG front_1 x_1); one_1.length ≤ 16777216 ∧ (-100000000 < (one_1.length : Int) ∧ (one_1.length : Int) < 100000000) ∧ FoldOk (Ok_law_bricks_2_s one_1 x_1) (F_law_bricks_2_s one_1 x_1) (st_1) (irange 0 (one_1.length : Int))))
@[irreducible] def F_law_bricks (front_1 : (List (List Sg))) : (List (Int × Int × Int × Int)) := (let st_4 : (List (Int × Int × Int × Int)) := ((irange 0 (front_1.length : Int)).foldl (F_law_bricks_1_s front_1) (([] : List (Int × Int × Int × Int)))); st_4)
@[irreducible] def Ok_law_bricks (front_1 : (List (List Sg))) : Prop := ((-100000000 < (front_1.length : Int) ∧ (front_1.length : Int) < 100000000) ∧ FoldOk (Ok_law_bricks_1_s front_1) (F_law_bricks_1_s front_1) (([] : List (Int × Int × Int × Int))) (irange 0 (front_1.length : Int)))
theorem r_law_bricks (front_1 : (List (List Sg))) (h : Ok_law_bricks front_1) : phi_law_bricks [(cT cS).enc front_1] = .ok ((cL (cP4 cI cI cI cI)).enc (F_law_bricks front_1)) := by
  unfold F_law_bricks
  unfold Ok_law_bricks at h
  exact fin_tr (L := [.at (.fz ((cT cS).enc front_1)), .no, .no, .no, .no]) ((tx_seq (tn_setL 1 (c := (cP4 cI cI cI cI)) (tm_lstC (ta_nil (c := (cP4 cI cI cI cI))))) (tx_seq (tn_forU (fun (st_1 : (List (Int × Int × Int × Int))) _ => [.at (.fz ((cT cS).enc front_1)), .at (.ow (st_1.map (cP4 cI cI cI cI).enc)), .no, .no, .no]) [] (st0 := (([] : List (Int × Int × Int × Int)))) (Ok_law_bricks_1_s front_1) (F_law_bricks_1_s front_1) (tm_I (tm_m1 (tm_fz 0) (o_lenT (c := cS))) (o_rng1 h.1)) ⟨wi, wi, wn, wn, wn, trivial⟩ (fun st_1 x_1 hok => ⟨_, (tb_name 2), _, (tx_wk (L0 := [.at (.fz ((cT cS).enc front_1)), .at (.ow (st_1.map (cP4 cI cI cI cI).enc)), .at (.fz (cI.enc x_1)), .no, .no]) ⟨wi, wi, wi, wn, wn, trivial⟩ (tx_seq (tn_setE 3 (tm_m2 (tm_fz 0) (tm_fz 2) (o_ixT (c := cS) hok.1))) (let one_1 : (List Sg) := (ixG front_1 x_1); (tn_forU (fun (st_2 : (List (Int × Int × Int × Int))) _ => [.at (.fz ((cT cS).enc front_1)), .at (.ow (st_2.map (cP4 cI cI cI cI).enc)), .at (.fz (cI.enc x_1)), .at (.fz (cS.enc one_1)), .no]) [] (st0 := (st_1)) (Ok_law_bricks_2_s one_1 x_1) (F_law_bricks_2_s one_1 x_1) (tm_I (tm_m1 (tm_fz 3) (o_lenS hok.2.1)) (o_rng1 hok.2.2.1)) ⟨wi, wi, wi, wi, wn, trivial⟩ (fun st_2 x_2 hok => ⟨_, (tb_name 4), _, (tx_wk (L0 := [.at (.fz ((cT cS).enc front_1)), .at (.ow (st_2.map (cP4 cI cI cI cI).enc)), .at (.fz (cI.enc x_1)), .at (.fz (cS.enc one_1)), .at (.fz (cI.enc x_2))]) ⟨wi, wi, wi, wi, wi, trivial⟩ (tn_app 1 (c := (cP4 cI cI cI cI)) (tm_tupP4 (c1 := cI) (c2 := cI) (c3 := cI) (c4 := cI) (tm_fe 2) (tm_fe 4) (tm_call (tm_acons (tm_sl (tm_fz 3) to_no (to_at (tm_fz 4)) (o_slS hok.1)) tm_anil) (r_law_size _ hok.2.1)) (tm_call (tm_acons (tm_sl (tm_fz 3) to_no (to_at (tm_m2 (tm_fz 4) (tm_int 1) o_addI)) (o_slS hok.1)) tm_anil) (r_law_size _ hok.2.2.1))) hok.2.2.2)), ⟨wi, wi, wi, wi, wn, trivial⟩⟩) hok.2.2.2)))), ⟨wi, wi, wn, wn, wn, trivial⟩⟩) h.2) (let st_4 : (List (Int × Int × Int × Int)) := ((irange 0 (front_1.length : Int)).foldl (F_law_bricks_1_s front_1) (([] : List (Int × Int × Int × Int)))); (tx_wk (L0 := [.at (.fz ((cT cS).enc front_1)), .at (.ow (st_4.map (cP4 cI cI cI cI).enc)), .no, .no, .no]) ⟨wi, wi, wn, wn, wn, trivial⟩ (tx_frO 1 (tr_ret (tm_fe 1)))))))) ⟨rfl, trivial, trivial, trivial, trivial, trivial⟩
def F_law_laid_2_s (x_1 : (Int × Int × Int × Int)) (st_2 : (List ((Int × Int) × (List ((Int × Int) × Int))))) (x_2 : (Int × Int × Int × Int)) : (List ((Int × Int) × (List ((Int × Int) × Int)))) := (let many_1 : Int := ((min x_1.2.2.2 x_2.2.2.2) - (max x_1.2.2.1 x_2.2.2.1)); (let st_3 : (List ((Int × Int) × (List ((Int × Int) × Int)))) := (if ((decide (x_2.1 = (x_1.1 - 1))) && (decide (0 < many_1))) = true then (let found_2 : (List ((Int × Int) × (List ((Int × Int) × Int)))) := (dput st_2 (x_1.1, x_1.2.1) ((dget st_2 (x_1.1, x_1.2.1)) ++ ([((x_2.1, x_2.2.1), many_1)] : List ((Int × Int) × Int)))); (found_2)) else (st_2)); (st_3)))
def Ok_law_laid_2_s (x_1 : (Int × Int × Int × Int)) (st_2 : (List ((Int × Int) × (List ((Int × Int) × Int))))) (x_2 : (Int × Int × Int × Int)) : Prop := ((let many_1 : Int := ((min x_1.2.2.2 x_2.2.2.2) - (max x_1.2.2.1 x_2.2.2.1)); (((decide (x_2.1 = (x_1.1 - 1))) && (decide (0 < many_1))) = true → ((dlk st_2 (x_1.1, x_1.2.1)).isSome = true ∧ (dget st_2 (x_1.1, x_1.2.1)).length + ([((x_2.1, x_2.2.1), many_1)] : List ((Int × Int) × Int)).length ≤ 16777216 ∧ st_2.length < 16777216))))
def F_law_laid_1_s (bricks_1 : (List (Int × Int × Int × Int))) (st_1 : (List ((Int × Int) × (List ((Int × Int) × Int))))) (x_1 : (Int × Int × Int × Int)) : (List ((Int × Int) × (List ((Int × Int) × Int)))) := (let found_1 : (List ((Int × Int) × (List ((Int × Int) × Int)))) := (dput st_1 (x_1.1, x_1.2.1) ([] : List ((Int × Int) × Int))); (let st_4 : (List ((Int × Int) × (List ((Int × Int) × Int)))) := (bricks_1.foldl (F_law_laid_2_s x_1) (found_1)); (st_4)))
def Ok_law_laid_1_s (bricks_1 : (List (Int × Int × Int × Int))) (st_1 : (List ((Int × Int) × (List ((Int × Int) × Int))))) (x_1 : (Int × Int × Int × Int)) : Prop := (st_1.length < 16777216 ∧ (let found_1 : (List ((Int × Int) × (List ((Int × Int) × Int)))) := (dput st_1 (x_1.1, x_1.2.1) ([] : List ((Int × Int) × Int))); FoldOk (Ok_law_laid_2_s x_1) (F_law_laid_2_s x_1) (found_1) bricks_1))
@[irreducible] def F_law_laid (front_1 : (List (List Sg))) : (List ((Int × Int) × (List ((Int × Int) × Int)))) := (let bricks_1 : (List (Int × Int × Int × Int)) := (F_law_bricks front_1); (let st_5 : (List ((Int × Int) × (List ((Int × Int) × Int)))) := (bricks_1.foldl (F_law_laid_1_s bricks_1) (([] : (List ((Int × Int) × (List ((Int × Int) × Int))))))); st_5))
@[irreducible] def Ok_law_laid (front_1 : (List (List Sg))) : Prop := (Ok_law_bricks front_1 ∧ (let bricks_1 : (List (Int × Int × Int × Int)) := (F_law_bricks front_1); FoldOk (Ok_law_laid_1_s bricks_1) (F_law_laid_1_s bricks_1) (([] : (List ((Int × Int) × (List ((Int × Int) × Int)))))) bricks_1))
theorem r_law_laid (front_1 : (List (List Sg))) (h : Ok_law_laid front_1) : phi_law_laid [(cT cS).enc front_1] = .ok ((cD (cP2 cI cI) (cL (cP2 (cP2 cI cI) cI))).enc (F_law_laid front_1)) := by
  unfold F_law_laid
  unfold Ok_law_laid at h
  exact fin_tr (L := [.at (.fz ((cT cS).enc front_1)), .no, .no, .no, .no, .no, .no, .no, .no, .no, .no, .no]) ((tx_seq (tn_parEF 1 2 (tm_call (tm_acons (tm_fe 0) tm_anil) (r_law_bricks _ h.1)) (tm_dct0 (a := (cP2 cI cI)) (c := (cL (cP2 (cP2 cI cI) cI)))) rfl) (let bricks_1 : (List (Int × Int × Int × Int)) := (F_law_bricks front_1); (tx_seq (tn_forU (fun (st_1 : (List ((Int × Int) × (List ((Int × Int) × Int))))) _ => [.at (.fz ((cT cS).enc front_1)), .at (.fz ((cL (cP4 cI cI cI cI)).enc bricks_1)), .at (.od (st_1.map fun (p : (Int × Int) × (List ((Int × Int) × Int))) => ((cP2 cI cI).enc p.1, (cL (cP2 (cP2 cI cI) cI)).enc p.2))), .no, .no, .no, .no, .no, .no, .no, .no, .no]) [] (st0 := (([] : (List ((Int × Int) × (List ((Int × Int) × Int))))))) (Ok_law_laid_1_s bricks_1) (F_law_laid_1_s bricks_1) (tm_I (tm_fe 1) (o_iterL (c := (cP4 cI cI cI cI)))) ⟨wi, wi, wi, wn, wn, wn, wn, wn, wn, wn, wn, wn, trivial⟩ (fun st_1 x_1 hok => ⟨_, (tb_tup (tg_cons (tb_name 3) (tg_cons (tb_name 4) (tg_cons (tb_name 5) (tg_cons (tb_name 6) tg_nil))))), _, (tx_wk (L0 := [.at (.fz ((cT cS).enc front_1)), .at (.fz ((cL (cP4 cI cI cI cI)).enc bricks_1)), .at (.od (st_1.map fun (p : (Int × Int) × (List ((Int × Int) × Int))) => ((cP2 cI cI).enc p.1, (cL (cP2 (cP2 cI cI) cI)).enc p.2))), .at (.fz (cI.enc x_1.1)), .at (.fz (cI.enc x_1.2.1)), .at (.fz (cI.enc x_1.2.2.1)), .at (.fz (cI.enc x_1.2.2.2)), .no, .no, .no, .no, .no]) ⟨wi, wi, wi, wi, wi, wi, wi, wn, wn, wn, wn, wn, trivial⟩ (tx_seq (tn_put 2 (a := (cP2 cI cI)) (c := (cL (cP2 (cP2 cI cI) cI))) kc2II (tm_tupP2 (c1 := cI) (c2 := cI) (tm_fe 3) (tm_fe 4)) (tm_lstC (ta_nil (c := (cP2 (cP2 cI cI) cI)))) hok.1) (let found_1 : (List ((Int × Int) × (List ((Int × Int) × Int)))) := (dput st_1 (x_1.1, x_1.2.1) ([] : List ((Int × Int) × Int))); (tn_forU (fun (st_2 : (List ((Int × Int) × (List ((Int × Int) × Int))))) _ => [.at (.fz ((cT cS).enc front_1)), .at (.fz ((cL (cP4 cI cI cI cI)).enc bricks_1)), .at (.od (st_2.map fun (p : (Int × Int) × (List ((Int × Int) × Int))) => ((cP2 cI cI).enc p.1, (cL (cP2 (cP2 cI cI) cI)).enc p.2))), .at (.fz (cI.enc x_1.1)), .at (.fz (cI.enc x_1.2.1)), .at (.fz (cI.enc x_1.2.2.1)), .at (.fz (cI.enc x_1.2.2.2)), .no, .no, .no, .no, .no]) [] (st0 := (found_1)) (Ok_law_laid_2_s x_1) (F_law_laid_2_s x_1) (tm_I (tm_fe 1) (o_iterL (c := (cP4 cI cI cI cI)))) ⟨wi, wi, wi, wi, wi, wi, wi, wn, wn, wn, wn, wn, trivial⟩ (fun st_2 x_2 hok => ⟨_, (tb_tup (tg_cons (tb_name 7) (tg_cons (tb_name 8) (tg_cons (tb_name 9) (tg_cons (tb_name 10) tg_nil))))), _, (tx_wk (L0 := [.at (.fz ((cT cS).enc front_1)), .at (.fz ((cL (cP4 cI cI cI cI)).enc bricks_1)), .at (.od (st_2.map fun (p : (Int × Int) × (List ((Int × Int) × Int))) => ((cP2 cI cI).enc p.1, (cL (cP2 (cP2 cI cI) cI)).enc p.2))), .at (.fz (cI.enc x_1.1)), .at (.fz (cI.enc x_1.2.1)), .at (.fz (cI.enc x_1.2.2.1)), .at (.fz (cI.enc x_1.2.2.2)), .at (.fz (cI.enc x_2.1)), .at (.fz (cI.enc x_2.2.1)), .at (.fz (cI.enc x_2.2.2.1)), .at (.fz (cI.enc x_2.2.2.2)), .no]) ⟨wi, wi, wi, wi, wi, wi, wi, wi, wi, wi, wi, wn, trivial⟩ (tx_seq (tn_setF 11 (c := cI) (tm_m2 (tm_m2 (tm_fz 6) (tm_fz 10) o_min2) (tm_m2 (tm_fz 5) (tm_fz 9) o_max2) o_subI) sI) (let many_1 : Int := ((min x_1.2.2.2 x_2.2.2.2) - (max x_1.2.2.1 x_2.2.2.1)); (tn_ifU (fun (st_3 : (List ((Int × Int) × (List ((Int × Int) × Int))))) _ => [.at (.fz ((cT cS).enc front_1)), .at (.fz ((cL (cP4 cI cI cI cI)).enc bricks_1)), .at (.od (st_3.map fun (p : (Int × Int) × (List ((Int × Int) × Int))) => ((cP2 cI cI).enc p.1, (cL (cP2 (cP2 cI cI) cI)).enc p.2))), .at (.fz (cI.enc x_1.1)), .at (.fz (cI.enc x_1.2.1)), .at (.fz (cI.enc x_1.2.2.1)), .at (.fz (cI.enc x_1.2.2.2)), .at (.fz (cI.enc x_2.1)), .at (.fz (cI.enc x_2.2.1)), .at (.fz (cI.enc x_2.2.2.1)), .at (.fz (cI.enc x_2.2.2.2)), .at (.fz (cI.enc many_1))]) [] (v1 := (let found_2 : (List ((Int × Int) × (List ((Int × Int) × Int)))) := (dput st_2 (x_1.1, x_1.2.1) ((dget st_2 (x_1.1, x_1.2.1)) ++ ([((x_2.1, x_2.2.1), many_1)] : List ((Int × Int) × Int)))); (found_2))) (v2 := (st_2)) (tm_and (tm_mB (tm_m2 (tm_fz 7) (tm_m2 (tm_fz 3) (tm_int 1) o_subI) (o_eq (c := cI)))) (fun hp_1 => (tm_mB (tm_m2 (tm_fz 11) (tm_int 0) o_gtI)))) (fun hp_2 => ⟨_, (tn_put 2 (a := (cP2 cI cI)) (c := (cL (cP2 (cP2 cI cI) cI))) kc2II (tm_tupP2 (c1 := cI) (c2 := cI) (tm_fe 3) (tm_fe 4)) (tm_m2 (tm_m2 (tm_od 2) (tm_tupP2 (c1 := cI) (c2 := cI) (tm_fe 3) (tm_fe 4)) (o_dget (a := (cP2 cI cI)) (c := (cL (cP2 (cP2 cI cI) cI))) kc2II (hok hp_2).1)) (tm_lstC (ta_cons (c := (cP2 (cP2 cI cI) cI)) (tm_tupP2 (c1 := (cP2 cI cI)) (c2 := cI) (tm_tupP2 (c1 := cI) (c2 := cI) (tm_fe 7) (tm_fe 8)) (tm_fe 11)) (ta_nil (c := (cP2 (cP2 cI cI) cI))))) (o_addL (c := (cP2 (cP2 cI cI) cI)) (hok hp_2).2.1)) (hok hp_2).2.2), ⟨wi, wi, wi, wi, wi, wi, wi, wi, wi, wi, wi, wi, trivial⟩⟩) (fun hn_1 => ⟨_, tn_next, ⟨wi, wi, wi, wi, wi, wi, wi, wi, wi, wi, wi, wi, trivial⟩⟩))))), ⟨wi, wi, wi, wi, wi, wi, wi, wn, wn, wn, wn, wn, trivial⟩⟩) hok.2)))), ⟨wi, wi, wi, wn, wn, wn, wn, wn, wn, wn, wn, wn, trivial⟩⟩) h.2) (let st_5 : (List ((Int × Int) × (List ((Int × Int) × Int)))) := (bricks_1.foldl (F_law_laid_1_s bricks_1) (([] : (List ((Int × Int) × (List ((Int × Int) × Int))))))); (tx_wk (L0 := [.at (.fz ((cT cS).enc front_1)), .at (.fz ((cL (cP4 cI cI cI cI)).enc bricks_1)), .at (.od (st_5.map fun (p : (Int × Int) × (List ((Int × Int) × Int))) => ((cP2 cI cI).enc p.1, (cL (cP2 (cP2 cI cI) cI)).enc p.2))), .no, .no, .no, .no, .no, .no, .no, .no, .no]) ⟨wi, wi, wi, wn, wn, wn, wn, wn, wn, wn, wn, wn, trivial⟩ (tx_frD 2 (tr_ret (tm_fe 2))))))))) ⟨rfl, trivial, trivial, trivial, trivial, trivial, trivial, trivial, trivial, trivial, trivial, trivial, trivial⟩
def F_law_ways_2_s (laid_1 : (List ((Int × Int) × (List ((Int × Int) × Int))))) (st_2 : (List (List (Int × Int)))) (x_2 : (List (Int × Int))) : (List (List (Int × Int))) := (let later_1 : (List (List (Int × Int))) := (st_2 ++ ((dget laid_1 (ixG x_2 (-1))).map fun (x_3 : ((Int × Int) × Int)) => (x_2 ++ ([x_3.1] : List (Int × Int))))); (later_1))
def Ok_law_ways_2_s (laid_1 : (List ((Int × Int) × (List ((Int × Int) × Int))))) (st_2 : (List (List (Int × Int)))) (x_2 : (List (Int × Int))) : Prop := (IxOk x_2 (-1) ∧ (dlk laid_1 (ixG x_2 (-1))).isSome = true ∧ (dget laid_1 (ixG x_2 (-1))).length ≤ 16777216 ∧ (∀ x_3 ∈ (dget laid_1 (ixG x_2 (-1))), x_2.length + ([x_3.1] : List (Int × Int)).length ≤ 16777216) ∧ st_2.length + ((dget laid_1 (ixG x_2 (-1))).map fun (x_3 : ((Int × Int) × Int)) => (x_2 ++ ([x_3.1] : List (Int × Int)))).length ≤ 16777216)
def F_law_ways_1_c (laid_1 : (List ((Int × Int) × (List ((Int × Int) × Int))))) (st_1 : (List (List (Int × Int))) × (List (List (Int × Int)))) : Bool := (decide (st_1.2 ≠ ([] : List (List (Int × Int)))))
def F_law_ways_1_s (laid_1 : (List ((Int × Int) × (List ((Int × Int) × Int))))) (st_1 : (List (List (Int × Int))) × (List (List (Int × Int)))) : (List (List (Int × Int))) × (List (List (Int × Int))) := (let found_1 : (List (List (Int × Int))) := (st_1.1 ++ ((st_1.2.filter fun (way_1 : (List (Int × Int))) => (decide ((ixG way_1 (-1)).1 = 0))).map fun (way_1 : (List (Int × Int))) => way_1)); (let st_3 : (List (List (Int × Int))) := (st_1.2.foldl (F_law_ways_2_s laid_1) (([] : List (List (Int × Int))))); (found_1, st_3)))
def Okc_law_ways_1 (laid_1 : (List ((Int × Int) × (List ((Int × Int) × Int))))) (st_1 : (List (List (Int × Int))) × (List (List (Int × Int)))) : Prop := True
def Ok_law_ways_1_s (laid_1 : (List ((Int × Int) × (List ((Int × Int) × Int))))) (st_1 : (List (List (Int × Int))) × (List (List (Int × Int)))) : Prop := (st_1.2.length ≤ 16777216 ∧ (∀ way_1 ∈ st_1.2, IxOk way_1 (-1)) ∧ st_1.1.length + ((st_1.2.filter fun (way_1 : (List (Int × Int))) => (decide ((ixG way_1 (-1)).1 = 0))).map fun (way_1 : (List (Int × Int))) => way_1).length ≤ 16777216 ∧ (let found_1 : (List (List (Int × Int))) := (st_1.1 ++ ((st_1.2.filter fun (way_1 : (List (Int × Int))) => (decide ((ixG way_1 (-1)).1 = 0))).map fun (way_1 : (List (Int × Int))) => way_1)); FoldOk (Ok_law_ways_2_s laid_1) (F_law_ways_2_s laid_1) (([] : List (List (Int × Int)))) st_1.2))
@[irreducible] def F_law_ways (laid_1 : (List ((Int × Int) × (List ((Int × Int) × Int))))) (brick_1 : (Int × Int)) : (List (List (Int × Int))) := (let line_1 : (List (List (Int × Int))) := ([([brick_1] : List (Int × Int))] : List (List (Int × Int))); (let st_4 : (List (List (Int × Int))) × (List (List (Int × Int))) := (whl (F_law_ways_1_c laid_1) (F_law_ways_1_s laid_1) fuel (([] : List (List (Int × Int))), line_1)); (srtC (cT (cP2 cI cI)) st_4.1)))
@[irreducible] def Ok_law_ways (laid_1 : (List ((Int × Int) × (List ((Int × Int) × Int))))) (brick_1 : (Int × Int)) : Prop := ((let line_1 : (List (List (Int × Int))) := ([([brick_1] : List (Int × Int))] : List (List (Int × Int))); WhOk (F_law_ways_1_c laid_1) (Okc_law_ways_1 laid_1) (Ok_law_ways_1_s laid_1) (F_law_ways_1_s laid_1) fuel (([] : List (List (Int × Int))), line_1) ∧ (let st_4 : (List (List (Int × Int))) × (List (List (Int × Int))) := (whl (F_law_ways_1_c laid_1) (F_law_ways_1_s laid_1) fuel (([] : List (List (Int × Int))), line_1)); (∀ x ∈ st_4.1, x ≠ []))))
theorem r_law_ways (laid_1 : (List ((Int × Int) × (List ((Int × Int) × Int))))) (brick_1 : (Int × Int)) (h : Ok_law_ways laid_1 brick_1) : phi_law_ways [(cD (cP2 cI cI) (cL (cP2 (cP2 cI cI) cI))).enc laid_1, (cP2 cI cI).enc brick_1] = .ok ((cL (cT (cP2 cI cI))).enc (F_law_ways laid_1 brick_1)) := by
  unfold F_law_ways
  unfold Ok_law_ways at h
  exact fin_tr (L := [.at (.fz ((cD (cP2 cI cI) (cL (cP2 (cP2 cI cI) cI))).enc laid_1)), .at (.fz ((cP2 cI cI).enc brick_1)), .no, .no, .no, .no, .no, .no]) ((tx_seq (tn_par 2 3 (tm_lstC (ta_nil (c := (cT (cP2 cI cI))))) (tm_lstC (ta_cons (c := (cT (cP2 cI cI))) (tm_tupC (ta_cons (c := (cP2 cI cI)) (tm_fe 1) (ta_nil (c := (cP2 cI cI))))) (ta_nil (c := (cT (cP2 cI cI)))))) rfl rfl) (let line_1 : (List (List (Int × Int))) := ([([brick_1] : List (Int × Int))] : List (List (Int × Int))); (tx_seq (tn_whileU (fun (st_1 : (List (List (Int × Int))) × (List (List (Int × Int)))) _ => [.at (.fz ((cD (cP2 cI cI) (cL (cP2 (cP2 cI cI) cI))).enc laid_1)), .at (.fz ((cP2 cI cI).enc brick_1)), .at (.ow (st_1.1.map (cT (cP2 cI cI)).enc)), .li (st_1.2.map (cT (cP2 cI cI)).enc), .no, .no, .no, .no]) [] (st0 := (([] : List (List (Int × Int))), line_1)) (F_law_ways_1_c laid_1) (Okc_law_ways_1 laid_1) (Ok_law_ways_1_s laid_1) (F_law_ways_1_s laid_1) ⟨wi, wi, wi, wo, wn, wn, wn, wn, trivial⟩ (fun st_1 hokc => (tm_mB (tm_m2 (tm_li 3) (tm_lstC (ta_nil (c := (cT (cP2 cI cI))))) (o_ne (c := (cL (cT (cP2 cI cI)))))))) (fun st_1 hcond hok => ⟨_, (tx_wk (L0 := [.at (.fz ((cD (cP2 cI cI) (cL (cP2 (cP2 cI cI) cI))).enc laid_1)), .at (.fz ((cP2 cI cI).enc brick_1)), .at (.ow (st_1.1.map (cT (cP2 cI cI)).enc)), .li (st_1.2.map (cT (cP2 cI cI)).enc), .no, .no, .no, .no]) ⟨wi, wi, wi, wi, wn, wn, wn, wn, trivial⟩ (tx_seq (tx_frL 3 (tn_setL 2 (c := (cT (cP2 cI cI))) (tm_m2 (tm_ow 2) (tm_lc (c := (cT (cP2 cI cI))) (xs := st_1.2) (p := fun (way_1 : (List (Int × Int))) => (decide ((ixG way_1 (-1)).1 = 0))) (f := fun (way_1 : (List (Int × Int))) => way_1) (tm_I (tm_fe 3) (o_iterL (c := (cT (cP2 cI cI))))) (fun way_1 hway_1 => ⟨_, (tb_name 5), (tm_mB (tm_m2 (tm_m2 (tm_m2 (tm_fz 5) (tm_m1 (tm_int 1) o_negI) (o_ixT (c := (cP2 cI cI)) (hok.2.1 way_1 hway_1))) (tm_int 0) (o_ix2_0)) (tm_int 0) (o_eq (c := cI)))), fun hp_1 => (tm_fe 5)⟩) hok.1) (o_addL (c := (cT (cP2 cI cI))) hok.2.2.1)))) (let found_1 : (List (List (Int × Int))) := (st_1.1 ++ ((st_1.2.filter fun (way_1 : (List (Int × Int))) => (decide ((ixG way_1 (-1)).1 = 0))).map fun (way_1 : (List (Int × Int))) => way_1)); (tx_seq (tn_setL 4 (c := (cT (cP2 cI cI))) (tm_lstC (ta_nil (c := (cT (cP2 cI cI)))))) (tx_seq (tx_frN 3 (tn_forU (fun (st_2 : (List (List (Int × Int)))) _ => [.at (.fz ((cD (cP2 cI cI) (cL (cP2 (cP2 cI cI) cI))).enc laid_1)), .at (.fz ((cP2 cI cI).enc brick_1)), .at (.ow (found_1.map (cT (cP2 cI cI)).enc)), .at (.fz ((cL (cT (cP2 cI cI))).enc st_1.2)), .at (.ow (st_2.map (cT (cP2 cI cI)).enc)), .no, .no, .no]) [] (st0 := (([] : List (List (Int × Int))))) (Ok_law_ways_2_s laid_1) (F_law_ways_2_s laid_1) (tm_I (tm_fe 3) (o_iterL (c := (cT (cP2 cI cI))))) ⟨wi, wi, wi, wi, wi, wn, wn, wn, trivial⟩ (fun st_2 x_2 hok => ⟨_, (tb_name 5), _, (tx_wk (L0 := [.at (.fz ((cD (cP2 cI cI) (cL (cP2 (cP2 cI cI) cI))).enc laid_1)), .at (.fz ((cP2 cI cI).enc brick_1)), .at (.ow (found_1.map (cT (cP2 cI cI)).enc)), .at (.fz ((cL (cT (cP2 cI cI))).enc st_1.2)), .at (.ow (st_2.map (cT (cP2 cI cI)).enc)), .at (.fz ((cT (cP2 cI cI)).enc x_2)), .no, .no]) ⟨wi, wi, wi, wi, wi, wi, wn, wn, trivial⟩ (tn_setL 4 (c := (cT (cP2 cI cI))) (tm_m2 (tm_ow 4) (tm_lc0 (c := (cT (cP2 cI cI))) (xs := (dget laid_1 (ixG x_2 (-1)))) (f := fun (x_3 : ((Int × Int) × Int)) => (x_2 ++ ([x_3.1] : List (Int × Int)))) (tm_I (tm_m2 (tm_fz 0) (tm_m2 (tm_fz 5) (tm_m1 (tm_int 1) o_negI) (o_ixT (c := (cP2 cI cI)) hok.1)) (o_dget (a := (cP2 cI cI)) (c := (cL (cP2 (cP2 cI cI) cI))) kc2II hok.2.1)) (o_iterL (c := (cP2 (cP2 cI cI) cI)))) (fun x_3 hx_3 => ⟨_, (tb_tup (tg_cons (tb_name 6) (tg_cons (tb_name 7) tg_nil))), (tm_m2 (tm_fz 5) (tm_tupC (ta_cons (c := (cP2 cI cI)) (tm_fe 6) (ta_nil (c := (cP2 cI cI))))) (o_addT (c := (cP2 cI cI)) (hok.2.2.2.1 x_3 hx_3)))⟩) hok.2.2.1) (o_addL (c := (cT (cP2 cI cI))) hok.2.2.2.2)))), ⟨wi, wi, wi, wi, wi, wn, wn, wn, trivial⟩⟩) hok.2.2.2)) (let st_3 : (List (List (Int × Int))) := (st_1.2.foldl (F_law_ways_2_s laid_1) (([] : List (List (Int × Int))))); (tx_wk (L0 := [.at (.fz ((cD (cP2 cI cI) (cL (cP2 (cP2 cI cI) cI))).enc laid_1)), .at (.fz ((cP2 cI cI).enc brick_1)), .at (.ow (found_1.map (cT (cP2 cI cI)).enc)), .at (.fz ((cL (cT (cP2 cI cI))).enc st_1.2)), .at (.ow (st_3.map (cT (cP2 cI cI)).enc)), .no, .no, .no]) ⟨wi, wi, wi, wi, wi, wn, wn, wn, trivial⟩ (tx_frO 4 (tn_setE 3 (tm_fe 4)))))))))), ⟨wi, wi, wi, wf, wn, wn, wn, wn, trivial⟩⟩) h.1) (let st_4 : (List (List (Int × Int))) × (List (List (Int × Int))) := (whl (F_law_ways_1_c laid_1) (F_law_ways_1_s laid_1) fuel (([] : List (List (Int × Int))), line_1)); (tx_wk (L0 := [.at (.fz ((cD (cP2 cI cI) (cL (cP2 (cP2 cI cI) cI))).enc laid_1)), .at (.fz ((cP2 cI cI).enc brick_1)), .at (.ow (st_4.1.map (cT (cP2 cI cI)).enc)), .li (st_4.2.map (cT (cP2 cI cI)).enc), .no, .no, .no, .no]) ⟨wi, wi, wi, wi, wn, wn, wn, wn, trivial⟩ (tr_ret (tm_m1 (tm_ow 2) (o_sortLT (c := (cP2 cI cI)) (akP2 akI akI) h.2))))))))) ⟨rfl, rfl, trivial, trivial, trivial, trivial, trivial, trivial, trivial⟩
@[irreducible] def F_is_tuple_of (value_1 : (List (List Sg))) (least_1 : Int) (most_1 : Int) : Bool := (true && ((decide (least_1 ≤ (value_1.length : Int))) && (decide ((value_1.length : Int) ≤ most_1))))
theorem r_is_tuple_of (value_1 : (List (List Sg))) (least_1 : Int) (most_1 : Int) : phi_is_tuple_of [(cT cS).enc value_1, cI.enc least_1, cI.enc most_1] = .ok (cB.enc (F_is_tuple_of value_1 least_1 most_1)) := by
  unfold F_is_tuple_of
  exact fin_tr (L := [.at (.fz ((cT cS).enc value_1)), .at (.fz (cI.enc least_1)), .at (.fz (cI.enc most_1))]) ((tr_ret (tm_andV (tm_m1 (tm_fz 0) (z := cB.enc true) rfl) (fun hp_1 => (tm_chain (tm_fz 1) (tm_m1 (tm_fz 0) (o_lenT (c := cS))) o_leI (fun hp_2 => (tm_fz 2)) (fun hp_2 => o_leI)))))) ⟨rfl, rfl, rfl, trivial⟩
@[irreducible] def F_fits_course (value_1 : (List Sg)) : Bool := (if ((!true) || ((!((decide (1 ≤ (value_1.length : Int))) && (decide ((value_1.length : Int) ≤ 24)))) || (!((value_1.map fun (sign_1 : Sg) => true).all id)))) = true then false else (decide ((value_1.map fun (sign_2 : Sg) => sign_2.size).sum ≤ 60)))
@[irreducible] def Ok_fits_course (value_1 : (List Sg)) : Prop := (((!true) = false → (value_1.length ≤ 16777216 ∧ ((!((decide (1 ≤ (value_1.length : Int))) && (decide ((value_1.length : Int) ≤ 24)))) = false → value_1.length ≤ 16777216))) ∧ (((!true) || ((!((decide (1 ≤ (value_1.length : Int))) && (decide ((value_1.length : Int) ≤ 24)))) || (!((value_1.map fun (sign_1 : Sg) => true).all id)))) = false → value_1.length ≤ 16777216))
theorem r_fits_course (value_1 : (List Sg)) (h : Ok_fits_course value_1) : phi_fits_course [cS.enc value_1] = .ok (cB.enc (F_fits_course value_1)) := by
  unfold F_fits_course
  unfold Ok_fits_course at h
  exact fin_tr (L := [.at (.fz (cS.enc value_1)), .no]) ((tr_ifs (c := cB) (tm_or (tm_not (tm_mB (tm_m1 (tm_fz 0) (z := cB.enc true) rfl))) (fun hp_1 => (tm_or (tm_not (tm_mB (tm_chain (tm_int 1) (tm_m1 (tm_fz 0) (o_lenS (h.1 hp_1).1)) o_leI (fun hp_2 => (tm_int 24)) (fun hp_2 => o_leI)))) (fun hp_3 => (tm_not (tm_mB (tm_m1 (tm_lc0 (c := cB) (xs := value_1) (f := fun (sign_1 : Sg) => true) (tm_I (tm_fe 0) o_iterS) (fun sign_1 hsign_1 => ⟨_, (tb_name 1), (tm_m1 (tm_fz 1) (o_wIn tab_SIZES_in))⟩) ((h.1 hp_1).2 hp_3)) o_allL))))))) (fun hp_4 => (tr_ret (tm_bool false))) (fun hn_1 => (tr_ret (tm_m2 (tm_m1 (tm_lc0 (c := cI) (xs := value_1) (f := fun (sign_2 : Sg) => sign_2.size) (tm_I (tm_fe 0) o_iterS) (fun sign_2 hsign_2 => ⟨_, (tb_name 1), (tm_m1 (tm_fz 1) (o_wg Sg.size tab_SIZES))⟩) (h.2 hn_1)) o_sumL) (tm_int 60) o_leI))))) ⟨rfl, trivial, trivial⟩
@[irreducible] def F_length_in (course_1 : (List Sg)) : Int := (course_1.map fun (sign_1 : Sg) => sign_1.size).sum
@[irreducible] def Ok_length_in (course_1 : (List Sg)) : Prop := course_1.length ≤ 16777216
theorem r_length_in (course_1 : (List Sg)) (h : Ok_length_in course_1) : phi_length_in [cS.enc course_1] = .ok (cI.enc (F_length_in course_1)) := by
  unfold F_length_in
  unfold Ok_length_in at h
  exact fin_tr (L := [.at (.fz (cS.enc course_1)), .no]) ((tr_ret (tm_m1 (tm_lc0 (c := cI) (xs := course_1) (f := fun (sign_1 : Sg) => sign_1.size) (tm_I (tm_fe 0) o_iterS) (fun sign_1 hsign_1 => ⟨_, (tb_name 1), (tm_m1 (tm_fz 1) (o_wg Sg.size tab_SIZES))⟩) h) o_sumL))) ⟨rfl, trivial, trivial⟩
@[irreducible] def F_fits_front (value_1 : (List (List Sg))) : Bool := (if ((!(F_is_tuple_of value_1 1 24)) || (!((value_1.map fun (one_1 : (List Sg)) => (F_fits_course one_1)).all id))) = true then false else ((value_1.map fun (one_2 : (List Sg)) => (decide ((F_length_in one_2) = (F_length_in (ixG value_1 0))))).all id))
@[irreducible] def Ok_fits_front (value_1 : (List (List Sg))) : Prop := (((!(F_is_tuple_of value_1 1 24)) = false → (value_1.length ≤ 16777216 ∧ (∀ one_1 ∈ value_1, Ok_fits_course one_1))) ∧ (((!(F_is_tuple_of value_1 1 24)) || (!((value_1.map fun (one_1 : (List Sg)) => (F_fits_course one_1)).all id))) = false → (value_1.length ≤ 16777216 ∧ (∀ one_2 ∈ value_1, (Ok_length_in one_2 ∧ IxOk value_1 0 ∧ Ok_length_in (ixG value_1 0))))))
theorem r_fits_front (value_1 : (List (List Sg))) (h : Ok_fits_front value_1) : phi_fits_front [(cT cS).enc value_1] = .ok (cB.enc (F_fits_front value_1)) := by
  unfold F_fits_front
  unfold Ok_fits_front at h
  exact fin_tr (L := [.at (.fz ((cT cS).enc value_1)), .no]) ((tr_ifs (c := cB) (tm_or (tm_not (tm_mB (tm_call (tm_acons (tm_fe 0) (tm_acons (tm_int 1) (tm_acons (tm_int 24) tm_anil))) (r_is_tuple_of _ _ _)))) (fun hp_1 => (tm_not (tm_mB (tm_m1 (tm_lc0 (c := cB) (xs := value_1) (f := fun (one_1 : (List Sg)) => (F_fits_course one_1)) (tm_I (tm_fe 0) (o_iterT (c := cS))) (fun one_1 hone_1 => ⟨_, (tb_name 1), (tm_call (tm_acons (tm_fe 1) tm_anil) (r_fits_course _ ((h.1 hp_1).2 one_1 hone_1)))⟩) (h.1 hp_1).1) o_allL))))) (fun hp_2 => (tr_ret (tm_bool false))) (fun hn_1 => (tr_ret (tm_m1 (tm_lc0 (c := cB) (xs := value_1) (f := fun (one_2 : (List Sg)) => (decide ((F_length_in one_2) = (F_length_in (ixG value_1 0))))) (tm_I (tm_fe 0) (o_iterT (c := cS))) (fun one_2 hone_2 => ⟨_, (tb_name 1), (tm_m2 (tm_call (tm_acons (tm_fe 1) tm_anil) (r_length_in _ ((h.2 hn_1).2 one_2 hone_2).1)) (tm_call (tm_acons (tm_m2 (tm_fz 0) (tm_int 0) (o_ixT (c := cS) ((h.2 hn_1).2 one_2 hone_2).2.1)) tm_anil) (r_length_in _ ((h.2 hn_1).2 one_2 hone_2).2.2)) (o_eq (c := cI)))⟩) (h.2 hn_1).1) o_allL))))) ⟨rfl, trivial, trivial⟩
@[irreducible] def F_need_front (value_1 : (List (List Sg))) : Unit := ()
@[irreducible] def Ok_need_front (value_1 : (List (List Sg))) : Prop := (Ok_fits_front value_1 ∧ (!(F_fits_front value_1)) = false)
theorem r_need_front (value_1 : (List (List Sg))) (h : Ok_need_front value_1) : phi_need_front [(cT cS).enc value_1] = .ok (cU.enc (F_need_front value_1)) := by
  unfold Ok_need_front at h
  exact fin_tn (L := [.at (.fz ((cT cS).enc value_1))]) ((tn_no (tm_not (tm_mB (tm_call (tm_acons (tm_fe 0) tm_anil) (r_fits_front _ h.1)))) h.2)) ⟨rfl, trivial⟩
@[irreducible] def F_is_tuple_of_2 (value_1 : (Int × Int)) (least_1 : Int) (most_1 : Int) : Bool := (true && ((decide (least_1 ≤ 2)) && (decide (2 ≤ most_1))))
theorem r_is_tuple_of_2 (value_1 : (Int × Int)) (least_1 : Int) (most_1 : Int) : phi_is_tuple_of [(cP2 cI cI).enc value_1, cI.enc least_1, cI.enc most_1] = .ok (cB.enc (F_is_tuple_of_2 value_1 least_1 most_1)) := by
  unfold F_is_tuple_of_2
  exact fin_tr (L := [.at (.fz ((cP2 cI cI).enc value_1)), .at (.fz (cI.enc least_1)), .at (.fz (cI.enc most_1))]) ((tr_ret (tm_andV (tm_m1 (tm_fz 0) (z := cB.enc true) rfl) (fun hp_1 => (tm_chain (tm_fz 1) (tm_m1 (tm_fz 0) o_lenP2) o_leI (fun hp_2 => (tm_fz 2)) (fun hp_2 => o_leI)))))) ⟨rfl, rfl, rfl, trivial⟩
@[irreducible] def F_is_whole (value_1 : Int) : Bool := (true && (!false))
theorem r_is_whole (value_1 : Int) : phi_is_whole [cI.enc value_1] = .ok (cB.enc (F_is_whole value_1)) := by
  unfold F_is_whole
  exact fin_tr (L := [.at (.fz (cI.enc value_1))]) ((tr_ret (tm_andV (tm_m1 (tm_fz 0) (z := cB.enc true) rfl) (fun hp_1 => (tm_notV (tm_m1 (tm_fz 0) (z := cB.enc false) rfl)))))) ⟨rfl, trivial⟩
@[irreducible] def F_fits_whole (value_1 : Int) (low_1 : Int) (high_1 : Int) : Bool := ((F_is_whole value_1) && ((decide (low_1 ≤ value_1)) && (decide (value_1 ≤ high_1))))
theorem r_fits_whole (value_1 : Int) (low_1 : Int) (high_1 : Int) : phi_fits_whole [cI.enc value_1, cI.enc low_1, cI.enc high_1] = .ok (cB.enc (F_fits_whole value_1 low_1 high_1)) := by
  unfold F_fits_whole
  exact fin_tr (L := [.at (.fz (cI.enc value_1)), .at (.fz (cI.enc low_1)), .at (.fz (cI.enc high_1))]) ((tr_ret (tm_andV (tm_call (tm_acons (tm_fe 0) tm_anil) (r_is_whole _)) (fun hp_1 => (tm_chain (tm_fz 1) (tm_fz 0) o_leI (fun hp_2 => (tm_fz 2)) (fun hp_2 => o_leI)))))) ⟨rfl, rfl, rfl, trivial⟩
@[irreducible] def F_fits_brick (front_1 : (List (List Sg))) (value_1 : (Int × Int)) : Bool := (if ((!(F_is_tuple_of_2 value_1 2 2)) || (!(F_fits_whole value_1.1 0 ((front_1.length : Int) - 1)))) = true then false else (F_fits_whole value_1.2 0 (((ixG front_1 value_1.1).length : Int) - 1)))
@[irreducible] def Ok_fits_brick (front_1 : (List (List Sg))) (value_1 : (Int × Int)) : Prop := (((!(F_is_tuple_of_2 value_1 2 2)) || (!(F_fits_whole value_1.1 0 ((front_1.length : Int) - 1)))) = false → (IxOk front_1 value_1.1 ∧ (ixG front_1 value_1.1).length ≤ 16777216))
theorem r_fits_brick (front_1 : (List (List Sg))) (value_1 : (Int × Int)) (h : Ok_fits_brick front_1 value_1) : phi_fits_brick [(cT cS).enc front_1, (cP2 cI cI).enc value_1] = .ok (cB.enc (F_fits_brick front_1 value_1)) := by
  unfold F_fits_brick
  unfold Ok_fits_brick at h
  exact fin_tr (L := [.at (.fz ((cT cS).enc front_1)), .at (.fz ((cP2 cI cI).enc value_1))]) ((tr_ifs (c := cB) (tm_or (tm_not (tm_mB (tm_call (tm_acons (tm_fe 1) (tm_acons (tm_int 2) (tm_acons (tm_int 2) tm_anil))) (r_is_tuple_of_2 _ _ _)))) (fun hp_1 => (tm_not (tm_mB (tm_call (tm_acons (tm_m2 (tm_fz 1) (tm_int 0) (o_ix2_0)) (tm_acons (tm_int 0) (tm_acons (tm_m2 (tm_m1 (tm_fz 0) (o_lenT (c := cS))) (tm_int 1) o_subI) tm_anil))) (r_fits_whole _ _ _)))))) (fun hp_2 => (tr_ret (tm_bool false))) (fun hn_1 => (tr_ret (tm_call (tm_acons (tm_m2 (tm_fz 1) (tm_int 1) (o_ix2_1)) (tm_acons (tm_int 0) (tm_acons (tm_m2 (tm_m1 (tm_m2 (tm_fz 0) (tm_m2 (tm_fz 1) (tm_int 0) (o_ix2_0)) (o_ixT (c := cS) (h hn_1).1)) (o_lenS (h hn_1).2)) (tm_int 1) o_subI) tm_anil))) (r_fits_whole _ _ _)))))) ⟨rfl, rfl, trivial⟩
@[irreducible] def F_need_brick (front_1 : (List (List Sg))) (value_1 : (Int × Int)) : Unit := ()
@[irreducible] def Ok_need_brick (front_1 : (List (List Sg))) (value_1 : (Int × Int)) : Prop := (Ok_need_front front_1 ∧ Ok_fits_brick front_1 value_1 ∧ (!(F_fits_brick front_1 value_1)) = false)
theorem r_need_brick (front_1 : (List (List Sg))) (value_1 : (Int × Int)) (h : Ok_need_brick front_1 value_1) : phi_need_brick [(cT cS).enc front_1, (cP2 cI cI).enc value_1] = .ok (cU.enc (F_need_brick front_1 value_1)) := by
  unfold Ok_need_brick at h
  exact fin_tn (L := [.at (.fz ((cT cS).enc front_1)), .at (.fz ((cP2 cI cI).enc value_1))]) ((tx_seq (tn_drop (tm_call (tm_acons (tm_fe 0) tm_anil) (r_need_front _ h.1))) (tn_no (tm_not (tm_mB (tm_call (tm_acons (tm_fe 0) (tm_acons (tm_fe 1) tm_anil)) (r_fits_brick _ _ h.2.1)))) h.2.2))) ⟨rfl, rfl, trivial⟩
@[irreducible] def F_bricks_in (front_1 : (List (List Sg))) : (List (Int × Int)) := ((enumI front_1).flatMap fun (x_1 : (Int × (List Sg))) => (irange 0 (x_1.2.length : Int)).map fun (at_1 : Int) => (x_1.1, at_1))
@[irreducible] def Ok_bricks_in (front_1 : (List (List Sg))) : Prop := ((∀ x_1 ∈ (enumI front_1), (x_1.2.length ≤ 16777216 ∧ (-100000000 < (x_1.2.length : Int) ∧ (x_1.2.length : Int) < 100000000))) ∧ ((enumI front_1).flatMap fun (x_1 : (Int × (List Sg))) => (irange 0 (x_1.2.length : Int)).map fun (at_1 : Int) => (x_1.1, at_1)).length ≤ 16777216)
theorem r_bricks_in (front_1 : (List (List Sg))) (h : Ok_bricks_in front_1) : phi_bricks_in [(cT cS).enc front_1] = .ok ((cL (cP2 cI cI)).enc (F_bricks_in front_1)) := by
  unfold F_bricks_in
  unfold Ok_bricks_in at h
  exact fin_tr (L := [.at (.fz ((cT cS).enc front_1)), .no, .no, .no]) ((tr_ret (tm_lc200 (cc := (cP2 cI cI)) (xs := (enumI front_1)) (ys := fun (x_1 : (Int × (List Sg))) => (irange 0 (x_1.2.length : Int))) (f := fun (x_1 : (Int × (List Sg))) (at_1 : Int) => (x_1.1, at_1)) (tm_enum (tm_acons (tm_fe 0) tm_anil) (o_enumG (c := cS) seq_T)) (fun x_1 hx_1 => ⟨_, (tb_tup (tg_cons (tb_name 1) (tg_cons (tb_name 2) tg_nil))), ⟨(tm_I (tm_m1 (tm_fz 2) (o_lenS (h.1 x_1 hx_1).1)) (o_rng1 (h.1 x_1 hx_1).2)), fun at_1 hat_1 => ⟨_, (tb_name 3), (tm_tupP2 (c1 := cI) (c2 := cI) (tm_fe 1) (tm_fe 3))⟩⟩⟩) h.2))) ⟨rfl, trivial, trivial, trivial, trivial⟩
def F_joints_in_1_s (st_1 : (List Int) × Int) (x_1 : Sg) : (List Int) × Int := (let at_1 : Int := (st_1.2 + x_1.size); (let found_1 : (List Int) := (st_1.1 ++ [at_1]); (found_1, at_1)))
def Ok_joints_in_1_s (st_1 : (List Int) × Int) (x_1 : Sg) : Prop := ((let at_1 : Int := (st_1.2 + x_1.size); st_1.1.length < 16777216))
@[irreducible] def F_joints_in (course_1 : (List Sg)) : (List Int) := (let st_2 : (List Int) × Int := ((cut course_1 none (some (-1))).foldl (F_joints_in_1_s) (([] : List Int), 0)); st_2.1)
@[irreducible] def Ok_joints_in (course_1 : (List Sg)) : Prop := (course_1.length ≤ 16777216 ∧ FoldOk (Ok_joints_in_1_s) (F_joints_in_1_s) (([] : List Int), 0) (cut course_1 none (some (-1))))
theorem r_joints_in (course_1 : (List Sg)) (h : Ok_joints_in course_1) : phi_joints_in [cS.enc course_1] = .ok ((cL cI).enc (F_joints_in course_1)) := by
  unfold F_joints_in
  unfold Ok_joints_in at h
  exact fin_tr (L := [.at (.fz (cS.enc course_1)), .no, .no, .no]) ((tx_seq (tn_par 1 2 (tm_lstC (ta_nil (c := cI))) (tm_int 0) rfl rfl) (tx_seq (tn_forU (fun (st_1 : (List Int) × Int) _ => [.at (.fz (cS.enc course_1)), .at (.ow (st_1.1.map cI.enc)), .at (.fz (cI.enc st_1.2)), .no]) [] (st0 := (([] : List Int), 0)) (Ok_joints_in_1_s) (F_joints_in_1_s) (tm_I (tm_sl (tm_fz 0) to_no (to_at (tm_m1 (tm_int 1) o_negI)) (o_slS h.1)) o_iterS) ⟨wi, wi, wi, wn, trivial⟩ (fun st_1 x_1 hok => ⟨_, (tb_name 3), _, (tx_wk (L0 := [.at (.fz (cS.enc course_1)), .at (.ow (st_1.1.map cI.enc)), .at (.fz (cI.enc st_1.2)), .at (.fz (cG.enc x_1))]) ⟨wi, wi, wi, wi, trivial⟩ (tx_seq (tn_setF 2 (c := cI) (tm_m2 (tm_fz 2) (tm_m1 (tm_fz 3) (o_wg Sg.size tab_SIZES)) o_addI) sI) (let at_1 : Int := (st_1.2 + x_1.size); (tn_app 1 (c := cI) (tm_fe 2) hok)))), ⟨wi, wi, wi, wn, trivial⟩⟩) h.2) (let st_2 : (List Int) × Int := ((cut course_1 none (some (-1))).foldl (F_joints_in_1_s) (([] : List Int), 0)); (tx_wk (L0 := [.at (.fz (cS.enc course_1)), .at (.ow (st_2.1.map cI.enc)), .at (.fz (cI.enc st_2.2)), .no]) ⟨wi, wi, wi, wn, trivial⟩ (tx_frO 1 (tr_ret (tm_fe 1)))))))) ⟨rfl, trivial, trivial, trivial, trivial⟩
@[irreducible] def F_spans_in (course_1 : (List Sg)) : (List (Int × Int)) := (let ends_1 : (List Int) := ((([0] : List Int) ++ (F_joints_in course_1)) ++ ([(F_length_in course_1)] : List Int)); (ends_1.zip (cut ends_1 (some 1) none)))
@[irreducible] def Ok_spans_in (course_1 : (List Sg)) : Prop := (Ok_joints_in course_1 ∧ ([0] : List Int).length + (F_joints_in course_1).length ≤ 16777216 ∧ Ok_length_in course_1 ∧ (([0] : List Int) ++ (F_joints_in course_1)).length + ([(F_length_in course_1)] : List Int).length ≤ 16777216)
theorem r_spans_in (course_1 : (List Sg)) (h : Ok_spans_in course_1) : phi_spans_in [cS.enc course_1] = .ok ((cL (cP2 cI cI)).enc (F_spans_in course_1)) := by
  unfold F_spans_in
  unfold Ok_spans_in at h
  exact fin_tr (L := [.at (.fz (cS.enc course_1)), .no]) ((tx_seq (tn_setL 1 (c := cI) (tm_m2 (tm_m2 (tm_lstC (ta_cons (c := cI) (tm_int 0) (ta_nil (c := cI)))) (tm_call (tm_acons (tm_fe 0) tm_anil) (r_joints_in _ h.1)) (o_addL (c := cI) h.2.1)) (tm_lstC (ta_cons (c := cI) (tm_call (tm_acons (tm_fe 0) tm_anil) (r_length_in _ h.2.2.1)) (ta_nil (c := cI)))) (o_addL (c := cI) h.2.2.2))) (let ends_1 : (List Int) := ((([0] : List Int) ++ (F_joints_in course_1)) ++ ([(F_length_in course_1)] : List Int)); (tx_frO 1 (tr_ret (tm_listZip (a := cI) (b := cI) (tm_acons (tm_fe 1) (tm_acons (tm_sl (tm_fz 1) (to_at (tm_int 1)) to_no (o_slL (c := cI))) tm_anil)))))))) ⟨rfl, trivial, trivial⟩
def F_over_in_1_s (w_1 : (Int × Int)) (st_1 : (List (Int × Int))) (x_1 : (Int × (Int × Int))) : (List (Int × Int)) := (let many_1 : Int := ((min w_1.2 x_1.2.2) - (max w_1.1 x_1.2.1)); (let found_1 : (List (Int × Int)) := (st_1 ++ (if (decide (0 < many_1)) = true then ([(x_1.1, many_1)] : List (Int × Int)) else ([] : List (Int × Int)))); (found_1)))
def Ok_over_in_1_s (w_1 : (Int × Int)) (st_1 : (List (Int × Int))) (x_1 : (Int × (Int × Int))) : Prop := ((let many_1 : Int := ((min w_1.2 x_1.2.2) - (max w_1.1 x_1.2.1)); st_1.length + (if (decide (0 < many_1)) = true then ([(x_1.1, many_1)] : List (Int × Int)) else ([] : List (Int × Int))).length ≤ 16777216))
@[irreducible] def F_over_in (front_1 : (List (List Sg))) (row_1 : Int) (at_1 : Int) : (List (Int × Int)) := (let w_1 : (Int × Int) := (ixG (F_spans_in (ixG front_1 row_1)) at_1); (let st_3 : (List (Int × Int)) := (if (decide (0 < row_1)) = true then (let st_2 : (List (Int × Int)) := ((enumI (F_spans_in (ixG front_1 (row_1 - 1)))).foldl (F_over_in_1_s w_1) (([] : List (Int × Int)))); (st_2)) else (([] : List (Int × Int)))); st_3))
@[irreducible] def Ok_over_in (front_1 : (List (List Sg))) (row_1 : Int) (at_1 : Int) : Prop := (IxOk front_1 row_1 ∧ Ok_spans_in (ixG front_1 row_1) ∧ IxOk (F_spans_in (ixG front_1 row_1)) at_1 ∧ (let w_1 : (Int × Int) := (ixG (F_spans_in (ixG front_1 row_1)) at_1); ((decide (0 < row_1)) = true → (IxOk front_1 (row_1 - 1) ∧ Ok_spans_in (ixG front_1 (row_1 - 1)) ∧ FoldOk (Ok_over_in_1_s w_1) (F_over_in_1_s w_1) (([] : List (Int × Int))) (enumI (F_spans_in (ixG front_1 (row_1 - 1))))))))
theorem r_over_in (front_1 : (List (List Sg))) (row_1 : Int) (at_1 : Int) (h : Ok_over_in front_1 row_1 at_1) : phi_over_in [(cT cS).enc front_1, cI.enc row_1, cI.enc at_1] = .ok ((cL (cP2 cI cI)).enc (F_over_in front_1 row_1 at_1)) := by
  unfold F_over_in
  unfold Ok_over_in at h
  exact fin_tr (L := [.at (.fz ((cT cS).enc front_1)), .at (.fz (cI.enc row_1)), .at (.fz (cI.enc at_1)), .no, .no, .no, .no, .no, .no, .no]) ((tx_seq (tn_bind (tm_m2 (tm_call (tm_acons (tm_m2 (tm_fz 0) (tm_fz 1) (o_ixT (c := cS) h.1)) tm_anil) (r_spans_in _ h.2.1)) (tm_fz 2) (o_ixL (c := (cP2 cI cI)) h.2.2.1)) (tb_tup (tg_cons (tb_name 3) (tg_cons (tb_name 4) tg_nil)))) (let w_1 : (Int × Int) := (ixG (F_spans_in (ixG front_1 row_1)) at_1); (tx_seq (tn_setL 5 (c := (cP2 cI cI)) (tm_lstC (ta_nil (c := (cP2 cI cI))))) (tx_seq (tn_ifU (fun (st_3 : (List (Int × Int))) _ => [.at (.fz ((cT cS).enc front_1)), .at (.fz (cI.enc row_1)), .at (.fz (cI.enc at_1)), .at (.fz (cI.enc w_1.1)), .at (.fz (cI.enc w_1.2)), .at (.ow (st_3.map (cP2 cI cI).enc)), .no, .no, .no, .no]) [] (v1 := (let st_2 : (List (Int × Int)) := ((enumI (F_spans_in (ixG front_1 (row_1 - 1)))).foldl (F_over_in_1_s w_1) (([] : List (Int × Int)))); (st_2))) (v2 := (([] : List (Int × Int)))) (tm_mB (tm_m2 (tm_fz 1) (tm_int 0) o_gtI)) (fun hp_1 => ⟨_, (tn_forU (fun (st_1 : (List (Int × Int))) _ => [.at (.fz ((cT cS).enc front_1)), .at (.fz (cI.enc row_1)), .at (.fz (cI.enc at_1)), .at (.fz (cI.enc w_1.1)), .at (.fz (cI.enc w_1.2)), .at (.ow (st_1.map (cP2 cI cI).enc)), .no, .no, .no, .no]) [] (st0 := (([] : List (Int × Int)))) (Ok_over_in_1_s w_1) (F_over_in_1_s w_1) (tm_enum (tm_acons (tm_call (tm_acons (tm_m2 (tm_fz 0) (tm_m2 (tm_fz 1) (tm_int 1) o_subI) (o_ixT (c := cS) (h.2.2.2 hp_1).1)) tm_anil) (r_spans_in _ (h.2.2.2 hp_1).2.1)) tm_anil) (o_enumG (c := (cP2 cI cI)) seq_L)) ⟨wi, wi, wi, wi, wi, wi, wn, wn, wn, wn, trivial⟩ (fun st_1 x_1 hok => ⟨_, (tb_tup (tg_cons (tb_name 6) (tg_cons (tb_tup (tg_cons (tb_name 7) (tg_cons (tb_name 8) tg_nil))) tg_nil))), _, (tx_wk (L0 := [.at (.fz ((cT cS).enc front_1)), .at (.fz (cI.enc row_1)), .at (.fz (cI.enc at_1)), .at (.fz (cI.enc w_1.1)), .at (.fz (cI.enc w_1.2)), .at (.ow (st_1.map (cP2 cI cI).enc)), .at (.fz (cI.enc x_1.1)), .at (.fz (cI.enc x_1.2.1)), .at (.fz (cI.enc x_1.2.2)), .no]) ⟨wi, wi, wi, wi, wi, wi, wi, wi, wi, wn, trivial⟩ (tx_seq (tn_setF 9 (c := cI) (tm_m2 (tm_m2 (tm_fz 4) (tm_fz 8) o_min2) (tm_m2 (tm_fz 3) (tm_fz 7) o_max2) o_subI) sI) (let many_1 : Int := ((min w_1.2 x_1.2.2) - (max w_1.1 x_1.2.1)); (tn_ext 5 (c := (cP2 cI cI)) (tm_if (c := (cL (cP2 cI cI))) (tm_mB (tm_m2 (tm_fz 9) (tm_int 0) o_gtI)) (fun hp_2 => (tm_lstC (ta_cons (c := (cP2 cI cI)) (tm_tupP2 (c1 := cI) (c2 := cI) (tm_fe 6) (tm_fe 9)) (ta_nil (c := (cP2 cI cI)))))) (fun hn_2 => (tm_lstC (ta_nil (c := (cP2 cI cI)))))) hok)))), ⟨wi, wi, wi, wi, wi, wi, wn, wn, wn, wn, trivial⟩⟩) (h.2.2.2 hp_1).2.2), ⟨wi, wi, wi, wi, wi, wi, wn, wn, wn, wn, trivial⟩⟩) (fun hn_1 => ⟨_, tn_next, ⟨wi, wi, wi, wi, wi, wi, wn, wn, wn, wn, trivial⟩⟩)) (let st_3 : (List (Int × Int)) := (if (decide (0 < row_1)) = true then (let st_2 : (List (Int × Int)) := ((enumI (F_spans_in (ixG front_1 (row_1 - 1)))).foldl (F_over_in_1_s w_1) (([] : List (Int × Int)))); (st_2)) else (([] : List (Int × Int)))); (tx_wk (L0 := [.at (.fz ((cT cS).enc front_1)), .at (.fz (cI.enc row_1)), .at (.fz (cI.enc at_1)), .at (.fz (cI.enc w_1.1)), .at (.fz (cI.enc w_1.2)), .at (.ow (st_3.map (cP2 cI cI).enc)), .no, .no, .no, .no]) ⟨wi, wi, wi, wi, wi, wi, wn, wn, wn, wn, trivial⟩ (tx_frO 5 (tr_ret (tm_fe 5)))))))))) ⟨rfl, rfl, rfl, trivial, trivial, trivial, trivial, trivial, trivial, trivial, trivial⟩
def F_laid_in_1_s (front_1 : (List (List Sg))) (st_1 : (List ((Int × Int) × (List ((Int × Int) × Int))))) (x_1 : (Int × Int)) : (List ((Int × Int) × (List ((Int × Int) × Int)))) := (let found_1 : (List ((Int × Int) × (List ((Int × Int) × Int)))) := (dput st_1 (x_1.1, x_1.2) ((F_over_in front_1 x_1.1 x_1.2).map fun (x_2 : (Int × Int)) => (((x_1.1 - 1), x_2.1), x_2.2))); (found_1))
def Ok_laid_in_1_s (front_1 : (List (List Sg))) (st_1 : (List ((Int × Int) × (List ((Int × Int) × Int))))) (x_1 : (Int × Int)) : Prop := (Ok_over_in front_1 x_1.1 x_1.2 ∧ (F_over_in front_1 x_1.1 x_1.2).length ≤ 16777216 ∧ st_1.length < 16777216)
@[irreducible] def F_laid_in (front_1 : (List (List Sg))) : (List ((Int × Int) × (List ((Int × Int) × Int)))) := (let st_2 : (List ((Int × Int) × (List ((Int × Int) × Int)))) := ((F_bricks_in front_1).foldl (F_laid_in_1_s front_1) (([] : (List ((Int × Int) × (List ((Int × Int) × Int))))))); st_2)
@[irreducible] def Ok_laid_in (front_1 : (List (List Sg))) : Prop := (Ok_bricks_in front_1 ∧ FoldOk (Ok_laid_in_1_s front_1) (F_laid_in_1_s front_1) (([] : (List ((Int × Int) × (List ((Int × Int) × Int)))))) (F_bricks_in front_1))
theorem r_laid_in (front_1 : (List (List Sg))) (h : Ok_laid_in front_1) : phi_laid_in [(cT cS).enc front_1] = .ok ((cD (cP2 cI cI) (cL (cP2 (cP2 cI cI) cI))).enc (F_laid_in front_1)) := by
  unfold F_laid_in
  unfold Ok_laid_in at h
  exact fin_tr (L := [.at (.fz ((cT cS).enc front_1)), .no, .no, .no, .no, .no]) ((tx_seq (tn_setD 1 (a := (cP2 cI cI)) (c := (cL (cP2 (cP2 cI cI) cI))) (tm_dct0 (a := (cP2 cI cI)) (c := (cL (cP2 (cP2 cI cI) cI))))) (tx_seq (tn_forU (fun (st_1 : (List ((Int × Int) × (List ((Int × Int) × Int))))) _ => [.at (.fz ((cT cS).enc front_1)), .at (.od (st_1.map fun (p : (Int × Int) × (List ((Int × Int) × Int))) => ((cP2 cI cI).enc p.1, (cL (cP2 (cP2 cI cI) cI)).enc p.2))), .no, .no, .no, .no]) [] (st0 := (([] : (List ((Int × Int) × (List ((Int × Int) × Int))))))) (Ok_laid_in_1_s front_1) (F_laid_in_1_s front_1) (tm_I (tm_call (tm_acons (tm_fe 0) tm_anil) (r_bricks_in _ h.1)) (o_iterL (c := (cP2 cI cI)))) ⟨wi, wi, wn, wn, wn, wn, trivial⟩ (fun st_1 x_1 hok => ⟨_, (tb_tup (tg_cons (tb_name 2) (tg_cons (tb_name 3) tg_nil))), _, (tx_wk (L0 := [.at (.fz ((cT cS).enc front_1)), .at (.od (st_1.map fun (p : (Int × Int) × (List ((Int × Int) × Int))) => ((cP2 cI cI).enc p.1, (cL (cP2 (cP2 cI cI) cI)).enc p.2))), .at (.fz (cI.enc x_1.1)), .at (.fz (cI.enc x_1.2)), .no, .no]) ⟨wi, wi, wi, wi, wn, wn, trivial⟩ (tn_put 1 (a := (cP2 cI cI)) (c := (cL (cP2 (cP2 cI cI) cI))) kc2II (tm_tupP2 (c1 := cI) (c2 := cI) (tm_fe 2) (tm_fe 3)) (tm_lc0 (c := (cP2 (cP2 cI cI) cI)) (xs := (F_over_in front_1 x_1.1 x_1.2)) (f := fun (x_2 : (Int × Int)) => (((x_1.1 - 1), x_2.1), x_2.2)) (tm_I (tm_call (tm_acons (tm_fe 0) (tm_acons (tm_fe 2) (tm_acons (tm_fe 3) tm_anil))) (r_over_in _ _ _ hok.1)) (o_iterL (c := (cP2 cI cI)))) (fun x_2 hx_2 => ⟨_, (tb_tup (tg_cons (tb_name 4) (tg_cons (tb_name 5) tg_nil))), (tm_tupP2 (c1 := (cP2 cI cI)) (c2 := cI) (tm_tupP2 (c1 := cI) (c2 := cI) (tm_m2 (tm_fz 2) (tm_int 1) o_subI) (tm_fe 4)) (tm_fe 5))⟩) hok.2.1) hok.2.2)), ⟨wi, wi, wn, wn, wn, wn, trivial⟩⟩) h.2) (let st_2 : (List ((Int × Int) × (List ((Int × Int) × Int)))) := ((F_bricks_in front_1).foldl (F_laid_in_1_s front_1) (([] : (List ((Int × Int) × (List ((Int × Int) × Int))))))); (tx_wk (L0 := [.at (.fz ((cT cS).enc front_1)), .at (.od (st_2.map fun (p : (Int × Int) × (List ((Int × Int) × Int))) => ((cP2 cI cI).enc p.1, (cL (cP2 (cP2 cI cI) cI)).enc p.2))), .no, .no, .no, .no]) ⟨wi, wi, wn, wn, wn, wn, trivial⟩ (tx_frD 1 (tr_ret (tm_fe 1)))))))) ⟨rfl, trivial, trivial, trivial, trivial, trivial, trivial⟩
def F_ways_down_1_s (laid_1 : (List ((Int × Int) × (List ((Int × Int) × Int))))) (st_1 : (List ((Int × Int) × Int))) (x_1 : (Int × Int)) : (List ((Int × Int) × Int)) := (let found_1 : (List ((Int × Int) × Int)) := (dput st_1 x_1 (if (decide (0 < x_1.1)) = true then ((dget laid_1 x_1).map fun (x_2 : ((Int × Int) × Int)) => (dget st_1 x_2.1)).sum else 1)); (found_1))
def Ok_ways_down_1_s (laid_1 : (List ((Int × Int) × (List ((Int × Int) × Int))))) (st_1 : (List ((Int × Int) × Int))) (x_1 : (Int × Int)) : Prop := (((decide (0 < x_1.1)) = true → ((dlk laid_1 x_1).isSome = true ∧ (dget laid_1 x_1).length ≤ 16777216 ∧ (∀ x_2 ∈ (dget laid_1 x_1), (dlk st_1 x_2.1).isSome = true))) ∧ st_1.length < 16777216)
@[irreducible] def F_ways_down (front_1 : (List (List Sg))) (brick_1 : (Int × Int)) : Int := (let laid_1 : (List ((Int × Int) × (List ((Int × Int) × Int)))) := (F_laid_in front_1); (let st_2 : (List ((Int × Int) × Int)) := ((F_bricks_in front_1).foldl (F_ways_down_1_s laid_1) (([] : (List ((Int × Int) × Int))))); (dget st_2 brick_1)))
@[irreducible] def Ok_ways_down (front_1 : (List (List Sg))) (brick_1 : (Int × Int)) : Prop := (Ok_need_brick front_1 brick_1 ∧ Ok_laid_in front_1 ∧ (let laid_1 : (List ((Int × Int) × (List ((Int × Int) × Int)))) := (F_laid_in front_1); Ok_bricks_in front_1 ∧ FoldOk (Ok_ways_down_1_s laid_1) (F_ways_down_1_s laid_1) (([] : (List ((Int × Int) × Int)))) (F_bricks_in front_1) ∧ (let st_2 : (List ((Int × Int) × Int)) := ((F_bricks_in front_1).foldl (F_ways_down_1_s laid_1) (([] : (List ((Int × Int) × Int))))); (dlk st_2 brick_1).isSome = true)))
theorem r_ways_down (front_1 : (List (List Sg))) (brick_1 : (Int × Int)) (h : Ok_ways_down front_1 brick_1) : phi_ways_down [(cT cS).enc front_1, (cP2 cI cI).enc brick_1] = .ok (cI.enc (F_ways_down front_1 brick_1)) := by
  unfold F_ways_down
  unfold Ok_ways_down at h
  exact fin_tr (L := [.at (.fz ((cT cS).enc front_1)), .at (.fz ((cP2 cI cI).enc brick_1)), .no, .no, .no, .no, .no]) ((tx_seq (tn_drop (tm_call (tm_acons (tm_fe 0) (tm_acons (tm_fe 1) tm_anil)) (r_need_brick _ _ h.1))) (tx_seq (tn_parEF 2 3 (tm_call (tm_acons (tm_fe 0) tm_anil) (r_laid_in _ h.2.1)) (tm_dct0 (a := (cP2 cI cI)) (c := cI)) rfl) (let laid_1 : (List ((Int × Int) × (List ((Int × Int) × Int)))) := (F_laid_in front_1); (tx_seq (tn_forU (fun (st_1 : (List ((Int × Int) × Int))) _ => [.at (.fz ((cT cS).enc front_1)), .at (.fz ((cP2 cI cI).enc brick_1)), .at (.fz ((cD (cP2 cI cI) (cL (cP2 (cP2 cI cI) cI))).enc laid_1)), .at (.od (st_1.map fun (p : (Int × Int) × Int) => ((cP2 cI cI).enc p.1, cI.enc p.2))), .no, .no, .no]) [] (st0 := (([] : (List ((Int × Int) × Int))))) (Ok_ways_down_1_s laid_1) (F_ways_down_1_s laid_1) (tm_I (tm_call (tm_acons (tm_fe 0) tm_anil) (r_bricks_in _ h.2.2.1)) (o_iterL (c := (cP2 cI cI)))) ⟨wi, wi, wi, wi, wn, wn, wn, trivial⟩ (fun st_1 x_1 hok => ⟨_, (tb_name 4), _, (tx_wk (L0 := [.at (.fz ((cT cS).enc front_1)), .at (.fz ((cP2 cI cI).enc brick_1)), .at (.fz ((cD (cP2 cI cI) (cL (cP2 (cP2 cI cI) cI))).enc laid_1)), .at (.od (st_1.map fun (p : (Int × Int) × Int) => ((cP2 cI cI).enc p.1, cI.enc p.2))), .at (.fz ((cP2 cI cI).enc x_1)), .no, .no]) ⟨wi, wi, wi, wi, wi, wn, wn, trivial⟩ (tn_put 3 (a := (cP2 cI cI)) (c := cI) kc2II (tm_fe 4) (tm_if (c := cI) (tm_mB (tm_m2 (tm_m2 (tm_fz 4) (tm_int 0) (o_ix2_0)) (tm_int 0) o_gtI)) (fun hp_1 => (tm_m1 (tm_lc0 (c := cI) (xs := (dget laid_1 x_1)) (f := fun (x_2 : ((Int × Int) × Int)) => (dget st_1 x_2.1)) (tm_I (tm_m2 (tm_fz 2) (tm_fz 4) (o_dget (a := (cP2 cI cI)) (c := (cL (cP2 (cP2 cI cI) cI))) kc2II (hok.1 hp_1).1)) (o_iterL (c := (cP2 (cP2 cI cI) cI)))) (fun x_2 hx_2 => ⟨_, (tb_tup (tg_cons (tb_name 5) (tg_cons (tb_name 6) tg_nil))), (tm_m2 (tm_od 3) (tm_fz 5) (o_dget (a := (cP2 cI cI)) (c := cI) kc2II ((hok.1 hp_1).2.2 x_2 hx_2)))⟩) (hok.1 hp_1).2.1) o_sumL)) (fun hn_1 => (tm_int 1))) hok.2)), ⟨wi, wi, wi, wi, wn, wn, wn, trivial⟩⟩) h.2.2.2.1) (let st_2 : (List ((Int × Int) × Int)) := ((F_bricks_in front_1).foldl (F_ways_down_1_s laid_1) (([] : (List ((Int × Int) × Int))))); (tx_wk (L0 := [.at (.fz ((cT cS).enc front_1)), .at (.fz ((cP2 cI cI).enc brick_1)), .at (.fz ((cD (cP2 cI cI) (cL (cP2 (cP2 cI cI) cI))).enc laid_1)), .at (.od (st_2.map fun (p : (Int × Int) × Int) => ((cP2 cI cI).enc p.1, cI.enc p.2))), .no, .no, .no]) ⟨wi, wi, wi, wi, wn, wn, wn, trivial⟩ (tr_ret (tm_m2 (tm_od 3) (tm_fz 1) (o_dget (a := (cP2 cI cI)) (c := cI) kc2II h.2.2.2.2)))))))))) ⟨rfl, rfl, trivial, trivial, trivial, trivial, trivial, trivial⟩
def F_first_way_1_c (front_1 : (List (List Sg))) (st_1 : (List (Int × Int))) : Bool := (decide (0 < (ixG st_1 (-1)).1))
def F_first_way_1_s (front_1 : (List (List Sg))) (st_1 : (List (Int × Int))) : (List (Int × Int)) := (let w_1 : (Int × Int) := (ixG st_1 (-1)); (let found_2 : (List (Int × Int)) := (st_1 ++ [((w_1.1 - 1), (ixG (F_over_in front_1 w_1.1 w_1.2) 0).1)]); (found_2)))
def Okc_first_way_1 (front_1 : (List (List Sg))) (st_1 : (List (Int × Int))) : Prop := IxOk st_1 (-1)
def Ok_first_way_1_s (front_1 : (List (List Sg))) (st_1 : (List (Int × Int))) : Prop := (IxOk st_1 (-1) ∧ (let w_1 : (Int × Int) := (ixG st_1 (-1)); Ok_over_in front_1 w_1.1 w_1.2 ∧ IxOk (F_over_in front_1 w_1.1 w_1.2) 0 ∧ st_1.length < 16777216))
@[irreducible] def F_first_way (front_1 : (List (List Sg))) (brick_1 : (Int × Int)) : (List (Int × Int)) := (let found_1 : (List (Int × Int)) := ([brick_1] : List (Int × Int)); (let st_2 : (List (Int × Int)) := (whl (F_first_way_1_c front_1) (F_first_way_1_s front_1) fuel (found_1)); st_2))
@[irreducible] def Ok_first_way (front_1 : (List (List Sg))) (brick_1 : (Int × Int)) : Prop := (Ok_need_brick front_1 brick_1 ∧ (let found_1 : (List (Int × Int)) := ([brick_1] : List (Int × Int)); WhOk (F_first_way_1_c front_1) (Okc_first_way_1 front_1) (Ok_first_way_1_s front_1) (F_first_way_1_s front_1) fuel (found_1)))
theorem r_first_way (front_1 : (List (List Sg))) (brick_1 : (Int × Int)) (h : Ok_first_way front_1 brick_1) : phi_first_way [(cT cS).enc front_1, (cP2 cI cI).enc brick_1] = .ok ((cT (cP2 cI cI)).enc (F_first_way front_1 brick_1)) := by
  unfold F_first_way
  unfold Ok_first_way at h
  exact fin_tr (L := [.at (.fz ((cT cS).enc front_1)), .at (.fz ((cP2 cI cI).enc brick_1)), .no, .no, .no]) ((tx_seq (tn_drop (tm_call (tm_acons (tm_fe 0) (tm_acons (tm_fe 1) tm_anil)) (r_need_brick _ _ h.1))) (tx_seq (tn_setL 2 (c := (cP2 cI cI)) (tm_lstC (ta_cons (c := (cP2 cI cI)) (tm_fe 1) (ta_nil (c := (cP2 cI cI)))))) (let found_1 : (List (Int × Int)) := ([brick_1] : List (Int × Int)); (tx_seq (tn_whileU (fun (st_1 : (List (Int × Int))) _ => [.at (.fz ((cT cS).enc front_1)), .at (.fz ((cP2 cI cI).enc brick_1)), .at (.ow (st_1.map (cP2 cI cI).enc)), .no, .no]) [] (st0 := (found_1)) (F_first_way_1_c front_1) (Okc_first_way_1 front_1) (Ok_first_way_1_s front_1) (F_first_way_1_s front_1) ⟨wi, wi, wi, wn, wn, trivial⟩ (fun st_1 hokc => (tm_mB (tm_m2 (tm_m2 (tm_m2 (tm_ow 2) (tm_m1 (tm_int 1) o_negI) (o_ixL (c := (cP2 cI cI)) hokc)) (tm_int 0) (o_ix2_0)) (tm_int 0) o_gtI))) (fun st_1 hcond hok => ⟨_, (tx_wk (L0 := [.at (.fz ((cT cS).enc front_1)), .at (.fz ((cP2 cI cI).enc brick_1)), .at (.ow (st_1.map (cP2 cI cI).enc)), .no, .no]) ⟨wi, wi, wi, wn, wn, trivial⟩ (tx_seq (tn_bind (tm_m2 (tm_ow 2) (tm_m1 (tm_int 1) o_negI) (o_ixL (c := (cP2 cI cI)) hok.1)) (tb_tup (tg_cons (tb_name 3) (tg_cons (tb_name 4) tg_nil)))) (let w_1 : (Int × Int) := (ixG st_1 (-1)); (tn_app 2 (c := (cP2 cI cI)) (tm_tupP2 (c1 := cI) (c2 := cI) (tm_m2 (tm_fz 3) (tm_int 1) o_subI) (tm_m2 (tm_m2 (tm_call (tm_acons (tm_fe 0) (tm_acons (tm_fe 3) (tm_acons (tm_fe 4) tm_anil))) (r_over_in _ _ _ hok.2.1)) (tm_int 0) (o_ixL (c := (cP2 cI cI)) hok.2.2.1)) (tm_int 0) (o_ix2_0))) hok.2.2.2)))), ⟨wi, wi, wi, wn, wn, trivial⟩⟩) h.2) (let st_2 : (List (Int × Int)) := (whl (F_first_way_1_c front_1) (F_first_way_1_s front_1) fuel (found_1)); (tx_wk (L0 := [.at (.fz ((cT cS).enc front_1)), .at (.fz ((cP2 cI cI).enc brick_1)), .at (.ow (st_2.map (cP2 cI cI).enc)), .no, .no]) ⟨wi, wi, wi, wn, wn, trivial⟩ (tr_ret (tm_m1 (tm_ow 2) (o_tup (c := (cP2 cI cI)))))))))))) ⟨rfl, rfl, trivial, trivial, trivial, trivial⟩
@[irreducible] def F_lies_on (front_1 : (List (List Sg))) (brick_1 : (Int × Int)) : (List ((Int × Int) × Int)) := ((F_over_in front_1 brick_1.1 brick_1.2).map fun (x_1 : (Int × Int)) => (((brick_1.1 - 1), x_1.1), x_1.2))
@[irreducible] def Ok_lies_on (front_1 : (List (List Sg))) (brick_1 : (Int × Int)) : Prop := (Ok_need_brick front_1 brick_1 ∧ Ok_over_in front_1 brick_1.1 brick_1.2 ∧ (F_over_in front_1 brick_1.1 brick_1.2).length ≤ 16777216)
theorem r_lies_on (front_1 : (List (List Sg))) (brick_1 : (Int × Int)) (h : Ok_lies_on front_1 brick_1) : phi_lies_on [(cT cS).enc front_1, (cP2 cI cI).enc brick_1] = .ok ((cT (cP2 (cP2 cI cI) cI)).enc (F_lies_on front_1 brick_1)) := by
  unfold F_lies_on
  unfold Ok_lies_on at h
  exact fin_tr (L := [.at (.fz ((cT cS).enc front_1)), .at (.fz ((cP2 cI cI).enc brick_1)), .no, .no]) ((tx_seq (tn_drop (tm_call (tm_acons (tm_fe 0) (tm_acons (tm_fe 1) tm_anil)) (r_need_brick _ _ h.1))) (tr_ret (tm_m1 (tm_lc0 (c := (cP2 (cP2 cI cI) cI)) (xs := (F_over_in front_1 brick_1.1 brick_1.2)) (f := fun (x_1 : (Int × Int)) => (((brick_1.1 - 1), x_1.1), x_1.2)) (tm_I (tm_call (tm_acons (tm_fe 0) (tm_acons (tm_m2 (tm_fz 1) (tm_int 0) (o_ix2_0)) (tm_acons (tm_m2 (tm_fz 1) (tm_int 1) (o_ix2_1)) tm_anil))) (r_over_in _ _ _ h.2.1)) (o_iterL (c := (cP2 cI cI)))) (fun x_1 hx_1 => ⟨_, (tb_tup (tg_cons (tb_name 2) (tg_cons (tb_name 3) tg_nil))), (tm_tupP2 (c1 := (cP2 cI cI)) (c2 := cI) (tm_tupP2 (c1 := cI) (c2 := cI) (tm_m2 (tm_m2 (tm_fz 1) (tm_int 0) (o_ix2_0)) (tm_int 1) o_subI) (tm_fe 2)) (tm_fe 3))⟩) h.2.2) (o_tup (c := (cP2 (cP2 cI cI) cI))))))) ⟨rfl, rfl, trivial, trivial, trivial⟩
@[irreducible] def W_law_right (Q : Bool → Prop) : Prop := (W_law_front 5 14 fun v_3 => (let front_1 : (List (List Sg)) := v_3; (Ok_law_laid front_1 ∧ (let laid_1 : (List ((Int × Int) × (List ((Int × Int) × Int)))) := (F_law_laid front_1); (laid_1 ≠ [] ∧ (Wsome (srtC (cP2 cI cI) (laid_1.map Prod.fst)) fun v_1 => (let brick_1 : (Int × Int) := v_1; (Ok_law_ways laid_1 brick_1 ∧ (let ways_1 : (List (List (Int × Int))) := (F_law_ways laid_1 brick_1); ((Ok_ways_down front_1 brick_1 ∧ Ok_first_way front_1 brick_1 ∧ IxOk ways_1 0 ∧ ((F_ways_down front_1 brick_1), (F_first_way front_1 brick_1)) = ((ways_1.length : Int), (ixG ways_1 0)) ∧ Smp (cP2 cI (cT (cP2 cI cI))) ((F_ways_down front_1 brick_1), (F_first_way front_1 brick_1))) ∧ (Ok_first_way front_1 brick_1 ∧ (let way_1 : (List (Int × Int)) := (F_first_way front_1 brick_1); (((-100000000 < ((way_1.length : Int) - 1) ∧ ((way_1.length : Int) - 1) < 100000000) ∧ (irange 0 ((way_1.length : Int) - 1)).length ≤ 16777216 ∧ (∀ at_1 ∈ (irange 0 ((way_1.length : Int) - 1)), (IxOk way_1 (at_1 + 1) ∧ IxOk way_1 at_1 ∧ Ok_lies_on front_1 (ixG way_1 at_1) ∧ (F_lies_on front_1 (ixG way_1 at_1)).length ≤ 16777216))) ∧ Q (decide ((((irange 0 ((way_1.length : Int) - 1)).filter fun (at_1 : Int) => (!inB (ixG way_1 (at_1 + 1)) ((F_lies_on front_1 (ixG way_1 at_1)).map fun (x_1 : ((Int × Int) × Int)) => x_1.1))).map fun (at_1 : Int) => at_1) = ([] : List Int))))))))))))))))
theorem w_law_right {phi_law_roll : Int × Int → List D → R D} (hr : RollOk phi_law_roll)  : WF (phi_law_right phi_law_roll) [] cB (W_law_right ) := fun c0 Q hc hp => by
  unfold W_law_right at hp
  exact finC_wx (L := [.at .cup, .no, .no, .no, .no, .no, .no, .no, .no]) ((wx_wk (L1 := [.at .cup, .no, .no, .no, .no, .no, .no, .no, .no]) ⟨wi, wn, wn, wn, wn, wn, wn, wn, wn, trivial⟩ (wx_setE 1 (c := (cT cS)) (W := fun Q => (W_law_front 5 14 fun v_4 => Q v_4)) (Pv := fun front_1 => (Ok_law_laid front_1 ∧ (let laid_1 : (List ((Int × Int) × (List ((Int × Int) × Int)))) := (F_law_laid front_1); (laid_1 ≠ [] ∧ (Wsome (srtC (cP2 cI cI) (laid_1.map Prod.fst)) fun v_1 => (let brick_1 : (Int × Int) := v_1; (Ok_law_ways laid_1 brick_1 ∧ (let ways_1 : (List (List (Int × Int))) := (F_law_ways laid_1 brick_1); ((Ok_ways_down front_1 brick_1 ∧ Ok_first_way front_1 brick_1 ∧ IxOk ways_1 0 ∧ ((F_ways_down front_1 brick_1), (F_first_way front_1 brick_1)) = ((ways_1.length : Int), (ixG ways_1 0)) ∧ Smp (cP2 cI (cT (cP2 cI cI))) ((F_ways_down front_1 brick_1), (F_first_way front_1 brick_1))) ∧ (Ok_first_way front_1 brick_1 ∧ (let way_1 : (List (Int × Int)) := (F_first_way front_1 brick_1); (((-100000000 < ((way_1.length : Int) - 1) ∧ ((way_1.length : Int) - 1) < 100000000) ∧ (irange 0 ((way_1.length : Int) - 1)).length ≤ 16777216 ∧ (∀ at_1 ∈ (irange 0 ((way_1.length : Int) - 1)), (IxOk way_1 (at_1 + 1) ∧ IxOk way_1 at_1 ∧ Ok_lies_on front_1 (ixG way_1 at_1) ∧ (F_lies_on front_1 (ixG way_1 at_1)).length ≤ 16777216))) ∧ Q (decide ((((irange 0 ((way_1.length : Int) - 1)).filter fun (at_1 : Int) => (!inB (ixG way_1 (at_1 + 1)) ((F_lies_on front_1 (ixG way_1 at_1)).map fun (x_1 : ((Int × Int) × Int)) => x_1.1))).map fun (at_1 : Int) => at_1) = ([] : List Int))))))))))))))) (wg_callC 0 (c := (cT cS)) (Wf := (fun (p : Int × Int × Unit) => W_law_front p.1 p.2.1)) (wg_cons (wg_p (enc := cI.enc) (x := 5) (tm_int 5)) (wg_cons (wg_p (enc := cI.enc) (x := 14) (tm_int 14)) wg_nil)) (fun (p : Int × Int × Unit) => w_law_front hr p.1 p.2.1)) (fun front_1 => (wx_wk (L1 := [.at .cup, .at (.fz ((cT cS).enc front_1)), .no, .no, .no, .no, .no, .no, .no]) ⟨wi, wi, wn, wn, wn, wn, wn, wn, wn, trivial⟩ (wx_pureC (fun h => (tx_frN 1 (tn_setE 2 (tm_call (tm_acons (tm_fe 1) tm_anil) (r_law_laid _ h))))) (let laid_1 : (List ((Int × Int) × (List ((Int × Int) × Int)))) := (F_law_laid front_1); (wx_wk (L1 := [.at .cup, .at (.fz ((cT cS).enc front_1)), .at (.fz ((cD (cP2 cI cI) (cL (cP2 (cP2 cI cI) cI))).enc laid_1)), .no, .no, .no, .no, .no, .no]) ⟨wi, wi, wi, wn, wn, wn, wn, wn, wn, trivial⟩ (wx_setE 3 (c := (cP2 cI cI)) (W := fun Q => (laid_1 ≠ [] ∧ (Wsome (srtC (cP2 cI cI) (laid_1.map Prod.fst)) fun v_2 => Q v_2))) (Pv := fun brick_1 => (Ok_law_ways laid_1 brick_1 ∧ (let ways_1 : (List (List (Int × Int))) := (F_law_ways laid_1 brick_1); ((Ok_ways_down front_1 brick_1 ∧ Ok_first_way front_1 brick_1 ∧ IxOk ways_1 0 ∧ ((F_ways_down front_1 brick_1), (F_first_way front_1 brick_1)) = ((ways_1.length : Int), (ixG ways_1 0)) ∧ Smp (cP2 cI (cT (cP2 cI cI))) ((F_ways_down front_1 brick_1), (F_first_way front_1 brick_1))) ∧ (Ok_first_way front_1 brick_1 ∧ (let way_1 : (List (Int × Int)) := (F_first_way front_1 brick_1); (((-100000000 < ((way_1.length : Int) - 1) ∧ ((way_1.length : Int) - 1) < 100000000) ∧ (irange 0 ((way_1.length : Int) - 1)).length ≤ 16777216 ∧ (∀ at_1 ∈ (irange 0 ((way_1.length : Int) - 1)), (IxOk way_1 (at_1 + 1) ∧ IxOk way_1 at_1 ∧ Ok_lies_on front_1 (ixG way_1 at_1) ∧ (F_lies_on front_1 (ixG way_1 at_1)).length ≤ 16777216))) ∧ Q (decide ((((irange 0 ((way_1.length : Int) - 1)).filter fun (at_1 : Int) => (!inB (ixG way_1 (at_1 + 1)) ((F_lies_on front_1 (ixG way_1 at_1)).map fun (x_1 : ((Int × Int) × Int)) => x_1.1))).map fun (at_1 : Int) => at_1) = ([] : List Int)))))))))) (wg_callC 0 (c := (cP2 cI cI)) (Wf := (fun (p : (List (Int × Int)) × Unit) => Wsome p.1)) (wg_cons (wg_c (enc := (cL (cP2 cI cI)).enc) (x := (srtC (cP2 cI cI) (laid_1.map Prod.fst))) (fun h => (tm_m1 (tm_fz 2) (o_sortD (a := (cP2 cI cI)) (c := (cL (cP2 (cP2 cI cI) cI))) (akP2 akI akI) soP2 (fun _ => rfl) h)))) wg_nil) (fun (p : (List (Int × Int)) × Unit) => w_someL hr (c := (cP2 cI cI)) p.1)) (fun brick_1 => (wx_wk (L1 := [.at .cup, .at (.fz ((cT cS).enc front_1)), .at (.fz ((cD (cP2 cI cI) (cL (cP2 (cP2 cI cI) cI))).enc laid_1)), .at (.fz ((cP2 cI cI).enc brick_1)), .no, .no, .no, .no, .no]) ⟨wi, wi, wi, wi, wn, wn, wn, wn, wn, trivial⟩ (wx_pureC (fun h => (tx_frN 3 (tx_frN 2 (tn_setE 4 (tm_call (tm_acons (tm_fe 2) (tm_acons (tm_fe 3) tm_anil)) (r_law_ways _ _ h)))))) (let ways_1 : (List (List (Int × Int))) := (F_law_ways laid_1 brick_1); (wx_wk (L1 := [.at .cup, .at (.fz ((cT cS).enc front_1)), .at (.fz ((cD (cP2 cI cI) (cL (cP2 (cP2 cI cI) cI))).enc laid_1)), .at (.fz ((cP2 cI cI).enc brick_1)), .at (.fz ((cL (cT (cP2 cI cI))).enc ways_1)), .no, .no, .no, .no]) ⟨wi, wi, wi, wi, wi, wn, wn, wn, wn, trivial⟩ (wx_frzS 3 (fun _ => tx_frN 3) (wx_frzS 1 (fun _ => tx_frN 1) (wx_neverC (fun h => (tm_not (tm_mB (tm_call (tm_acons (tm_tupP2 (c1 := cI) (c2 := (cT (cP2 cI cI))) (tm_call (tm_acons (tm_fe 1) (tm_acons (tm_fe 3) tm_anil)) (r_ways_down _ _ h.1)) (tm_call (tm_acons (tm_fe 1) (tm_acons (tm_fe 3) tm_anil)) (r_first_way _ _ h.2.1))) (tm_acons (tm_tupP2 (c1 := cI) (c2 := (cT (cP2 cI cI))) (tm_m1 (tm_fz 4) (o_lenL (c := (cT (cP2 cI cI))))) (tm_m2 (tm_fz 4) (tm_int 0) (o_ixL (c := (cT (cP2 cI cI))) h.2.2.1))) tm_anil)) (r_same (c := (cP2 cI (cT (cP2 cI cI)))) h.2.2.2.1 h.2.2.2.2))))) rfl (wx_wk (L1 := [.at .cup, .at (.fz ((cT cS).enc front_1)), .at (.fz ((cD (cP2 cI cI) (cL (cP2 (cP2 cI cI) cI))).enc laid_1)), .at (.fz ((cP2 cI cI).enc brick_1)), .at (.fz ((cL (cT (cP2 cI cI))).enc ways_1)), .no, .no, .no, .no]) ⟨wi, wi, wi, wi, wi, wn, wn, wn, wn, trivial⟩ (wx_pureC (fun h => (tx_frN 3 (tx_frN 1 (tn_setE 5 (tm_call (tm_acons (tm_fe 1) (tm_acons (tm_fe 3) tm_anil)) (r_first_way _ _ h)))))) (let way_1 : (List (Int × Int)) := (F_first_way front_1 brick_1); (wx_wk (L1 := [.at .cup, .at (.fz ((cT cS).enc front_1)), .at (.fz ((cD (cP2 cI cI) (cL (cP2 (cP2 cI cI) cI))).enc laid_1)), .at (.fz ((cP2 cI cI).enc brick_1)), .at (.fz ((cL (cT (cP2 cI cI))).enc ways_1)), .at (.fz ((cT (cP2 cI cI)).enc way_1)), .no, .no, .no]) ⟨wi, wi, wi, wi, wi, wi, wn, wn, wn, trivial⟩ (wx_frz 1 (fun _ => tx_frN 1) (wx_ret (W := fun Q => (((-100000000 < ((way_1.length : Int) - 1) ∧ ((way_1.length : Int) - 1) < 100000000) ∧ (irange 0 ((way_1.length : Int) - 1)).length ≤ 16777216 ∧ (∀ at_1 ∈ (irange 0 ((way_1.length : Int) - 1)), (IxOk way_1 (at_1 + 1) ∧ IxOk way_1 at_1 ∧ Ok_lies_on front_1 (ixG way_1 at_1) ∧ (F_lies_on front_1 (ixG way_1 at_1)).length ≤ 16777216))) ∧ Q (decide ((((irange 0 ((way_1.length : Int) - 1)).filter fun (at_1 : Int) => (!inB (ixG way_1 (at_1 + 1)) ((F_lies_on front_1 (ixG way_1 at_1)).map fun (x_1 : ((Int × Int) × Int)) => x_1.1))).map fun (at_1 : Int) => at_1) = ([] : List Int))))) (wg_c (enc := cB.enc) (x := (decide ((((irange 0 ((way_1.length : Int) - 1)).filter fun (at_1 : Int) => (!inB (ixG way_1 (at_1 + 1)) ((F_lies_on front_1 (ixG way_1 at_1)).map fun (x_1 : ((Int × Int) × Int)) => x_1.1))).map fun (at_1 : Int) => at_1) = ([] : List Int)))) (fun h => (tm_m2 (tm_lc (c := cI) (xs := (irange 0 ((way_1.length : Int) - 1))) (p := fun (at_1 : Int) => (!inB (ixG way_1 (at_1 + 1)) ((F_lies_on front_1 (ixG way_1 at_1)).map fun (x_1 : ((Int × Int) × Int)) => x_1.1))) (f := fun (at_1 : Int) => at_1) (tm_I (tm_m2 (tm_m1 (tm_fz 5) (o_lenT (c := (cP2 cI cI)))) (tm_int 1) o_subI) (o_rng1 h.1)) (fun at_1 hat_1 => ⟨_, (tb_name 6), (tm_mB (tm_m2 (tm_m2 (tm_fz 5) (tm_m2 (tm_fz 6) (tm_int 1) o_addI) (o_ixT (c := (cP2 cI cI)) (h.2.2 at_1 hat_1).1)) (tm_lc0 (c := (cP2 cI cI)) (xs := (F_lies_on front_1 (ixG way_1 at_1))) (f := fun (x_1 : ((Int × Int) × Int)) => x_1.1) (tm_I (tm_call (tm_acons (tm_fe 1) (tm_acons (tm_m2 (tm_fz 5) (tm_fz 6) (o_ixT (c := (cP2 cI cI)) (h.2.2 at_1 hat_1).2.1)) tm_anil)) (r_lies_on _ _ (h.2.2 at_1 hat_1).2.2.1)) (o_iterT (c := (cP2 (cP2 cI cI) cI)))) (fun x_1 hx_1 => ⟨_, (tb_tup (tg_cons (tb_name 7) (tg_cons (tb_name 8) tg_nil))), (tm_fe 7)⟩) (h.2.2 at_1 hat_1).2.2.2) (o_ninL (c := (cP2 cI cI))))), fun hp_1 => (tm_fe 6)⟩) h.2.1) (tm_lstC (ta_nil (c := cI))) (o_eq (c := (cL cI))))))))))))))))))))))))))))) hp hc ⟨rfl, trivial, trivial, trivial, trivial, trivial, trivial, trivial, trivial, trivial⟩
def F_law_1_s (st_2 : Int) (x_2 : Int) : Int := (let ways_1 : Int := (2 * st_2); (ways_1))
def Ok_law_1_s (st_2 : Int) (x_2 : Int) : Prop := True
def P_law : Prop := ((∀ x_1 ∈ (irange 0 7), (W_law_right fun v_1 => ((!v_1) = false ∧ True))) ∧ (Wroll 9 fun v_3 => (let high_1 : Int := (1 + v_3); (((-100000000 < high_1 ∧ high_1 < 100000000) ∧ (irange 0 high_1).length ≤ 16777216 ∧ (∀ at_1 ∈ (irange 0 high_1), (((decide (((at_1 / 2) * 2) = at_1)) = true → ([Sg.s].length ≤ 1000 ∧ -1000000 ≤ (11 : Int) ∧ (11 : Int) ≤ 1000)) ∧ ((decide (((at_1 / 2) * 2) = at_1)) = false → (([Sg.s].length ≤ 1000 ∧ -1000000 ≤ (10 : Int) ∧ (10 : Int) ≤ 1000) ∧ [Sg.h].length + (rep [Sg.s] 10).length ≤ 16777216 ∧ ([Sg.h] ++ (rep [Sg.s] 10)).length + [Sg.h].length ≤ 16777216))))) ∧ (let front_1 : (List (List Sg)) := ((irange 0 high_1).map fun (at_1 : Int) => (if (decide (((at_1 / 2) * 2) = at_1)) = true then (rep [Sg.s] 11) else (([Sg.h] ++ (rep [Sg.s] 10)) ++ [Sg.h]))); (((-100000000 < (high_1 - 1) ∧ (high_1 - 1) < 100000000) ∧ FoldOk (Ok_law_1_s) (F_law_1_s) (1) (irange 0 (high_1 - 1))) ∧ (let st_3 : Int := ((irange 0 (high_1 - 1)).foldl (F_law_1_s) (1)); ((Ok_ways_down front_1 ((high_1 - 1), 5) ∧ Ok_first_way front_1 ((high_1 - 1), 5) ∧ ((F_ways_down front_1 ((high_1 - 1), 5)), ((F_first_way front_1 ((high_1 - 1), 5)).length : Int)) = (st_3, high_1) ∧ Smp (cP2 cI cI) ((F_ways_down front_1 ((high_1 - 1), 5)), ((F_first_way front_1 ((high_1 - 1), 5)).length : Int))) ∧ Qlaw true))))))))
theorem law_ok (hp : P_law) {a b : Int} (hc : CupOk (a, b)) : ∃ c, b_law ⟨(a, b), .no :: .cup :: List.replicate 6 .no⟩ = .ret (.bool true) c := by
  have hr := roll_ok
  have h : WX [.no, .at .cup, .no, .no, .no, .no, .no, .no] b_law P_law (KR cB Qlaw) := (wx_wk (L1 := [.no, .at .cup, .no, .no, .no, .no, .no, .no]) ⟨wn, wi, wn, wn, wn, wn, wn, wn, trivial⟩ (wx_for0 (Wi := fun Q => Q (irange 0 7)) (Pb := fun x_1 => (W_law_right fun v_1 => ((!v_1) = false ∧ True))) [.no, .at .cup, .no, .no, .no, .no, .no, .no] (wg_p (enc := (List.map cI.enc)) (x := (irange 0 7)) (tm_I (tm_int 7) (o_rng1 (by decide)))) ⟨wi, wi, wn, wi, wi, wi, wi, wi, trivial⟩ (fun x_1 => ⟨_, (tb_name 2), (wx_wk (L1 := [.no, .at .cup, .at (.fz (cI.enc x_1)), .no, .no, .no, .no, .no]) ⟨wn, wi, wi, wn, wn, wn, wn, wn, trivial⟩ (wx_last (wx_never (Wt := fun Q => (W_law_right fun v_2 => Q (!v_2))) (wg_not (wg_mB (wg_callC 1 (c := cB) (Wf := (fun (p : Unit) => W_law_right)) wg_nil (fun (p : Unit) => w_law_right hr)))) (wx_next (Q := fun _ => True) () ⟨wi, wi, wn, wi, wi, wi, wi, wi, trivial⟩))))⟩) (wx_wk (L1 := [.no, .at .cup, .no, .no, .no, .no, .no, .no]) ⟨wn, wi, wn, wn, wn, wn, wn, wn, trivial⟩ (wx_setF 3 (c := cI) (W := fun Q => (Wroll 9 fun v_4 => Q (1 + v_4))) (Pv := fun high_1 => (((-100000000 < high_1 ∧ high_1 < 100000000) ∧ (irange 0 high_1).length ≤ 16777216 ∧ (∀ at_1 ∈ (irange 0 high_1), (((decide (((at_1 / 2) * 2) = at_1)) = true → ([Sg.s].length ≤ 1000 ∧ -1000000 ≤ (11 : Int) ∧ (11 : Int) ≤ 1000)) ∧ ((decide (((at_1 / 2) * 2) = at_1)) = false → (([Sg.s].length ≤ 1000 ∧ -1000000 ≤ (10 : Int) ∧ (10 : Int) ≤ 1000) ∧ [Sg.h].length + (rep [Sg.s] 10).length ≤ 16777216 ∧ ([Sg.h] ++ (rep [Sg.s] 10)).length + [Sg.h].length ≤ 16777216))))) ∧ (let front_1 : (List (List Sg)) := ((irange 0 high_1).map fun (at_1 : Int) => (if (decide (((at_1 / 2) * 2) = at_1)) = true then (rep [Sg.s] 11) else (([Sg.h] ++ (rep [Sg.s] 10)) ++ [Sg.h]))); (((-100000000 < (high_1 - 1) ∧ (high_1 - 1) < 100000000) ∧ FoldOk (Ok_law_1_s) (F_law_1_s) (1) (irange 0 (high_1 - 1))) ∧ (let st_3 : Int := ((irange 0 (high_1 - 1)).foldl (F_law_1_s) (1)); ((Ok_ways_down front_1 ((high_1 - 1), 5) ∧ Ok_first_way front_1 ((high_1 - 1), 5) ∧ ((F_ways_down front_1 ((high_1 - 1), 5)), ((F_first_way front_1 ((high_1 - 1), 5)).length : Int)) = (st_3, high_1) ∧ Smp (cP2 cI cI) ((F_ways_down front_1 ((high_1 - 1), 5)), ((F_first_way front_1 ((high_1 - 1), 5)).length : Int))) ∧ Qlaw true)))))) sI (wg_m2t (e3 := cI.enc) (f := fun u_1 u_2 => (u_1 + u_2)) (wg_p (enc := cI.enc) (x := 1) (tm_int 1)) (wg_callC 1 (c := cI) (Wf := (fun (p : Int × Unit) => Wroll p.1)) (wg_cons (wg_p (enc := cI.enc) (x := 9) (tm_int 9)) wg_nil) (fun (p : Int × Unit) => w_roll hr p.1)) (fun u_1 u_2 => o_addI)) (fun high_1 => (wx_wk (L1 := [.no, .at .cup, .no, .at (.fz (cI.enc high_1)), .no, .no, .no, .no]) ⟨wn, wi, wn, wi, wn, wn, wn, wn, trivial⟩ (wx_pureC (fun h => (tn_setF 4 (c := (cT cS)) (tm_m1 (tm_lc0 (c := cS) (xs := (irange 0 high_1)) (f := fun (at_1 : Int) => (if (decide (((at_1 / 2) * 2) = at_1)) = true then (rep [Sg.s] 11) else (([Sg.h] ++ (rep [Sg.s] 10)) ++ [Sg.h]))) (tm_I (tm_fz 3) (o_rng1 h.1)) (fun at_1 hat_1 => ⟨_, (tb_name 7), (tm_if (c := cS) (tm_mB (tm_m2 (tm_m2 (tm_m2 (tm_fz 7) (tm_int 2) (o_fdivI (by decide))) (tm_int 2) (o_mulI (by decide))) (tm_fz 7) (o_eq (c := cI)))) (fun hp_1 => (tm_m2 (tm_gs (tm_sg (z := "s") Sg.s rfl)) (tm_int 11) (o_mulS ((h.2.2 at_1 hat_1).1 hp_1)))) (fun hn_1 => (tm_m2 (tm_m2 (tm_gs (tm_sg (z := "h") Sg.h rfl)) (tm_m2 (tm_gs (tm_sg (z := "s") Sg.s rfl)) (tm_int 10) (o_mulS ((h.2.2 at_1 hat_1).2 hn_1).1)) (o_addS ((h.2.2 at_1 hat_1).2 hn_1).2.1)) (tm_gs (tm_sg (z := "h") Sg.h rfl)) (o_addS ((h.2.2 at_1 hat_1).2 hn_1).2.2))))⟩) h.2.1) (o_tup (c := cS))) sT)) (let front_1 : (List (List Sg)) := ((irange 0 high_1).map fun (at_1 : Int) => (if (decide (((at_1 / 2) * 2) = at_1)) = true then (rep [Sg.s] 11) else (([Sg.h] ++ (rep [Sg.s] 10)) ++ [Sg.h]))); (wx_wk (L1 := [.no, .at .cup, .no, .at (.fz (cI.enc high_1)), .at (.fz ((cT cS).enc front_1)), .no, .no, .no]) ⟨wn, wi, wn, wi, wi, wn, wn, wn, trivial⟩ (wx_pure (tn_setF 5 (c := cI) (tm_int 1) sI) (wx_wk (L1 := [.no, .at .cup, .no, .at (.fz (cI.enc high_1)), .at (.fz ((cT cS).enc front_1)), .at (.fz (cI.enc 1)), .no, .no]) ⟨wn, wi, wn, wi, wi, wi, wn, wn, trivial⟩ (wx_pureC (fun h => (tn_forU (fun (st_2 : Int) _ => [.no, .at .cup, .no, .at (.fz (cI.enc high_1)), .at (.fz ((cT cS).enc front_1)), .at (.fz (cI.enc st_2)), .no, .no]) [] (st0 := (1)) (Ok_law_1_s) (F_law_1_s) (tm_I (tm_m2 (tm_fz 3) (tm_int 1) o_subI) (o_rng1 h.1)) ⟨wi, wi, wi, wi, wi, wi, wn, wi, trivial⟩ (fun st_2 x_2 hok => ⟨_, (tb_name 6), _, (tx_wk (L0 := [.no, .at .cup, .no, .at (.fz (cI.enc high_1)), .at (.fz ((cT cS).enc front_1)), .at (.fz (cI.enc st_2)), .at (.fz (cI.enc x_2)), .no]) ⟨wn, wi, wn, wi, wi, wi, wi, wn, trivial⟩ (tn_setF 5 (c := cI) (tm_m2 (tm_int 2) (tm_fz 5) (o_mulI' (by decide))) sI)), ⟨wi, wi, wi, wi, wi, wi, wn, wi, trivial⟩⟩) h.2)) (let st_3 : Int := ((irange 0 (high_1 - 1)).foldl (F_law_1_s) (1)); (wx_wk (L1 := [.no, .at .cup, .no, .at (.fz (cI.enc high_1)), .at (.fz ((cT cS).enc front_1)), .at (.fz (cI.enc st_3)), .no, .no]) ⟨wn, wi, wn, wi, wi, wi, wn, wn, trivial⟩ (wx_ret (W := fun Q => ((Ok_ways_down front_1 ((high_1 - 1), 5) ∧ Ok_first_way front_1 ((high_1 - 1), 5) ∧ ((F_ways_down front_1 ((high_1 - 1), 5)), ((F_first_way front_1 ((high_1 - 1), 5)).length : Int)) = (st_3, high_1) ∧ Smp (cP2 cI cI) ((F_ways_down front_1 ((high_1 - 1), 5)), ((F_first_way front_1 ((high_1 - 1), 5)).length : Int))) ∧ Q true)) (wg_c (enc := cB.enc) (x := true) (fun h => (tm_call (tm_acons (tm_tupP2 (c1 := cI) (c2 := cI) (tm_call (tm_acons (tm_fe 4) (tm_acons (tm_tupP2 (c1 := cI) (c2 := cI) (tm_m2 (tm_fz 3) (tm_int 1) o_subI) (tm_int 5)) tm_anil)) (r_ways_down _ _ h.1)) (tm_m1 (tm_call (tm_acons (tm_fe 4) (tm_acons (tm_tupP2 (c1 := cI) (c2 := cI) (tm_m2 (tm_fz 3) (tm_int 1) o_subI) (tm_int 5)) tm_anil)) (r_first_way _ _ h.2.1)) (o_lenT (c := (cP2 cI cI))))) (tm_acons (tm_tupP2 (c1 := cI) (c2 := cI) (tm_fe 5) (tm_fe 3)) tm_anil)) (r_same (c := (cP2 cI cI)) h.2.2.1 h.2.2.2)))))))))))))))))))
  obtain ⟨y, c, e, _, hy⟩ := h hp ⟨(a, b), .no :: .cup :: List.replicate 6 .no⟩ hc ⟨trivial, rfl, trivial, trivial, trivial, trivial, trivial, trivial, trivial⟩
  have hy : y = true := hy
  subst hy
  exact ⟨c, e⟩
end Pu
end

noncomputable section
set_option Elab.async false
set_option linter.all false
set_option maxRecDepth 100000
set_option maxHeartbeats 2000000
/-! MLa: courses and fronts of a law's draws. -/
namespace Pu
open PySem PySem.Spec L2
theorem law_size_eq (l : List Sg) : F_law_size l = sz l := by unfold F_law_size; rfl
theorem length_in_eq (l : List Sg) : F_length_in l = sz l := by unfold F_length_in; rfl
/-- a random course of a length -/
theorem row_of {n : Int} (h0 : 0 ≤ n) (h1 : n ≤ 100000) {Q : List Sg → Prop} (h : ∀ l, sz l = n → Q l) : W_law_row n Q := by
  unfold W_law_row
  refine ⟨fun st => sz st.1 + st.2 = n ∧ 0 ≤ st.2, fun st => st.2.toNat, ⟨by simp, h0⟩, ?_, fun st ⟨h2, h3⟩ => ⟨trivial, fun hc => ?_, fun hc => ?_⟩⟩
  · show n.toNat < fuel
    rw [fuel_eq]; omega
  · have hc : 0 < st.2 := by simpa using hc
    have hl := sz_ge st.1
    refine ⟨⟨by decide, fun g _ => by unfold Ok_law_size; simp⟩, wsome_of ?_ ?_ fun g hg => ⟨⟨by simp; omega, by unfold Ok_law_size; simp⟩, ?_⟩⟩
    · intro e
      have : Sg.q ∈ ((([Sg.s, Sg.h, Sg.t, Sg.q].filter fun one_1 => (decide ((F_law_size [one_1]) ≤ st.2))).map fun one_1 => one_1)) := by
        rw [List.map_id', List.mem_filter]
        refine ⟨by decide, ?_⟩
        have : F_law_size [Sg.q] = 1 := by rw [law_size_eq]; rfl
        rw [this]; simp; omega
      rw [e] at this; cases this
    · rw [List.length_map]
      exact Nat.lt_of_le_of_lt (List.length_filter_le _ _) (by decide)
    · rw [List.map_id', List.mem_filter] at hg
      have hg := hg.2
      have e : F_law_size [g] = g.size := by rw [law_size_eq]; simp
      rw [e] at hg
      have hg : g.size ≤ st.2 := by simpa using hg
      have hp := size_pos g
      show (sz (st.1 ++ [g]) + (st.2 - F_law_size [g]) = n ∧ 0 ≤ st.2 - F_law_size [g]) ∧ (st.2 - F_law_size [g]).toNat < st.2.toNat
      rw [e]
      refine ⟨⟨by simp; omega, by omega⟩, by omega⟩
  · have hc : ¬ 0 < st.2 := by simpa using hc
    exact h _ (by omega)
/-- a front of a length -/
structure Frt (L : Int) (p : List (List Sg)) : Prop where
  l0 : 1 ≤ L
  l1 : L ≤ 60
  n0 : 1 ≤ p.length
  n1 : p.length ≤ 24
  c : ∀ r ∈ p, sz r = L
  m : ∀ r ∈ p, r.length ≤ 24
theorem front_of {high most : Int} (h0 : 1 ≤ high) (h1 : high ≤ 24) (m0 : 1 ≤ most) (m1 : most ≤ 24) {Q : List (List Sg) → Prop} (h : ∀ L p, Frt L p → L ≤ most → (p.length : Int) ≤ high → Q p) : W_law_front high most Q := by
  unfold W_law_front
  refine wroll_of (by omega) (by omega) fun w w0 w1 => ?_
  show Wroll high _
  refine wroll_of (by omega) (by omega) fun v v0 v1 => ⟨⟨by omega, by omega⟩, by rw [irange_len]; omega, wall_all (fun r => sz r = 1 + w) (fun x _ => row_of (by omega) (by omega) fun l hl => hl) fun ys hl hy => ?_⟩
  rw [irange_len] at hl
  refine h (1 + w) ys ⟨by omega, by omega, by omega, by omega, hy, fun r hr => ?_⟩ (by omega) (by omega)
  have e := hy r hr
  have h1 := sz_ge r
  omega
section
variable {L : Int} {p : List (List Sg)}
theorem Frt.row (h : Frt L p) {r : List Sg} (hr : r ∈ p) : 1 ≤ r.length ∧ r.length ≤ 24 ∧ sz r = L := by
  have e := h.c r hr
  have h1 := h.m r hr
  have h2 := sz_le r
  have h3 := h.l0
  exact ⟨by omega, h1, e⟩
theorem fits_course_ok {r : List Sg} (h0 : 1 ≤ r.length) (h1 : r.length ≤ 24) (h2 : sz r ≤ 60) : F_fits_course r = true ∧ Ok_fits_course r := by
  have h3' : (r.map fun sign_2 => sign_2.size).sum ≤ 60 := h2
  refine ⟨?_, ?_⟩
  · unfold F_fits_course
    have e1 : decide ((1 : Int) ≤ (r.length : Int)) = true := by simp; omega
    have e2 : decide ((r.length : Int) ≤ 24) = true := by simp; omega
    have e3 : decide ((r.map fun sign_2 => sign_2.size).sum ≤ 60) = true := by simpa using h3'
    rw [e1, e2, e3]
    simp
  · unfold Ok_fits_course
    exact ⟨fun _ => ⟨by omega, fun _ => by omega⟩, fun _ => by omega⟩
theorem Frt.fits_c (h : Frt L p) {r : List Sg} (hr : r ∈ p) : F_fits_course r = true ∧ Ok_fits_course r := by
  obtain ⟨h1, h2, h3⟩ := h.row hr
  exact fits_course_ok h1 h2 (by rw [h3]; exact h.l1)
theorem is_tuple_front (h0 : 1 ≤ p.length) (h1 : p.length ≤ 24) : F_is_tuple_of p 1 24 = true := by
  unfold F_is_tuple_of
  have e1 : decide ((1 : Int) ≤ (p.length : Int)) = true := by simp; omega
  have e2 : decide ((p.length : Int) ≤ 24) = true := by simp; omega
  rw [e1, e2]; rfl
theorem Frt.fits (h : Frt L p) : F_fits_front p = true ∧ Ok_fits_front p := by
  have hn1 := h.n1
  have hn0 := h.n0
  have h0 : 0 < p.length := by omega
  have hi : ixG p 0 ∈ p := by
    have := ixG_natD (xs := p) (i := 0) h0
    rw [show ((0 : Nat) : Int) = 0 from rfl] at this
    rw [this]; exact List.getElem_mem h0
  have lin : ∀ r ∈ p, Ok_length_in r := fun r hr => by
    unfold Ok_length_in
    have := h.m r hr; omega
  have e2 : ((p.map fun one_1 => F_fits_course one_1).all id) = true := by
    rw [List.all_map, List.all_eq_true]
    intro r hr
    exact (h.fits_c hr).1
  have e3 : ((p.map fun one_2 => (decide (F_length_in one_2 = F_length_in (ixG p 0)))).all id) = true := by
    rw [List.all_map, List.all_eq_true]
    intro r hr
    show decide (_ = _) = true
    rw [length_in_eq, length_in_eq, h.c r hr, h.c _ hi]; simp
  refine ⟨?_, ?_⟩
  · unfold F_fits_front
    rw [is_tuple_front hn0 hn1, e2, e3]; rfl
  · unfold Ok_fits_front
    exact ⟨fun _ => ⟨by omega, fun r hr => (h.fits_c hr).2⟩, fun _ => ⟨by omega, fun r hr => ⟨lin r hr, ixOk_natD (i := 0) h0, lin _ hi⟩⟩⟩
theorem Frt.need (h : Frt L p) : Ok_need_front p := by
  unfold Ok_need_front
  exact ⟨h.fits.2, by rw [h.fits.1]; rfl⟩
end
end Pu
end

noncomputable section
set_option Elab.async false
set_option linter.all false
set_option maxRecDepth 100000
set_option maxHeartbeats 2000000
/-! MLj: joints. -/
namespace Pu
open PySem PySem.Spec L2
def pre : Int → List Sg → List Int
  | _, [] => []
  | a, g :: l => (a + g.size) :: pre (a + g.size) l
theorem pre_len : ∀ (a : Int) (l : List Sg), (pre a l).length = l.length
  | _, [] => rfl
  | a, g :: l => by simp [pre, pre_len]
theorem joints_fold : ∀ (l : List Sg) (acc : List Int) (a : Int), l.foldl F_joints_in_1_s (acc, a) = (acc ++ pre a l, a + sz l)
  | [], acc, a => by simp [pre]
  | g :: l, acc, a => by
    have e : F_joints_in_1_s (acc, a) g = (acc ++ [a + g.size], a + g.size) := rfl
    rw [List.foldl_cons, e, joints_fold l]
    simp [pre]; omega
theorem joints_eq (r : List Sg) : F_joints_in r = pre 0 r.dropLast := by
  unfold F_joints_in
  show ((cut r none (some (-1))).foldl F_joints_in_1_s ([], 0)).1 = _
  rw [cut_init, joints_fold]; rfl
theorem mem_pre {x : Int} : ∀ {l : List Sg} {a : Int}, x ∈ pre a l ↔ ∃ l1 l2, l = l1 ++ l2 ∧ l1 ≠ [] ∧ x = a + sz l1
  | [], a => by
    simp only [pre, List.not_mem_nil, false_iff]
    rintro ⟨l1, l2, e, hn, _⟩
    exact hn (List.append_eq_nil_iff.mp e.symm).1
  | g :: l, a => by
    simp only [pre, List.mem_cons, mem_pre (l := l)]
    constructor
    · rintro (rfl | ⟨l1, l2, rfl, hn, rfl⟩)
      · exact ⟨[g], l, rfl, by simp, by simp⟩
      · exact ⟨g :: l1, l2, rfl, by simp, by simp; omega⟩
    · rintro ⟨l1, l2, e, hn, rfl⟩
      cases l1 with
      | nil => exact absurd rfl hn
      | cons h l1 =>
        rw [List.cons_append, List.cons.injEq] at e
        obtain ⟨rfl, rfl⟩ := e
        cases l1 with
        | nil => left; simp
        | cons h' l1 => right; exact ⟨h' :: l1, l2, rfl, by simp, by simp; omega⟩
theorem mem_joints {x : Int} {r : List Sg} : x ∈ F_joints_in r ↔ ∃ l m, r = l ++ m ∧ l ≠ [] ∧ m ≠ [] ∧ x = sz l := by
  rw [joints_eq, mem_pre]
  constructor
  · rintro ⟨l1, l2, e, hn, rfl⟩
    have hr : r ≠ [] := fun h => by rw [h] at e; exact hn (List.append_eq_nil_iff.mp e.symm).1
    refine ⟨l1, l2 ++ [r.getLast hr], ?_, hn, by simp, by simp⟩
    rw [← List.append_assoc, ← e, List.dropLast_concat_getLast]
  · rintro ⟨l, m, rfl, hl, hm, rfl⟩
    exact ⟨l, m.dropLast, by rw [List.dropLast_append_of_ne_nil hm], hl, by simp⟩
theorem joints_len (r : List Sg) : (F_joints_in r).length ≤ r.length := by rw [joints_eq, pre_len]; simp
theorem joints_rev {x : Int} {r : List Sg} : x ∈ F_joints_in r.reverse ↔ (sz r - x) ∈ F_joints_in r := by
  rw [mem_joints, mem_joints]
  constructor
  · rintro ⟨l, m, e, hl, hm, rfl⟩
    have e : r = m.reverse ++ l.reverse := by have := congrArg List.reverse e; simpa using this
    exact ⟨m.reverse, l.reverse, e, by simpa using hm, by simpa using hl, by rw [e]; simp [sz_rev]⟩
  · rintro ⟨l, m, rfl, hl, hm, e⟩
    exact ⟨m.reverse, l.reverse, by simp, by simpa using hm, by simpa using hl, by simp [sz_rev] at e ⊢; omega⟩
theorem ok_joints {r : List Sg} (h : r.length ≤ 24) : Ok_joints_in r := by
  unfold Ok_joints_in
  refine ⟨by omega, ?_⟩
  rw [cut_init]
  refine foldOk_lt (fun k st => st.1.length = k) 24 _ 0 _ (by simp; omega) rfl fun k st x _ hk h => ⟨?_, ?_⟩
  · show st.1.length < 16777216
    omega
  · show (st.1 ++ [st.2 + x.size]).length = k + 1
    simp [h]
end Pu
end

noncomputable section
set_option Elab.async false
set_option linter.all false
set_option maxRecDepth 100000
set_option maxHeartbeats 2000000
/-! MLd: bricks, spans, what lies on what. -/
namespace Pu
open PySem PySem.Spec L2
theorem zip_pre : ∀ (c : List Sg) (a : Int), (a :: pre a c).zip (pre a c) = (List.range c.length).map fun i => (a + sz (c.take i), a + sz (c.take (i + 1)))
  | [], _ => rfl
  | g :: c, a => by
    have ih := zip_pre c (a + g.size)
    rw [List.length_cons, List.range_succ_eq_map, List.map_cons, List.map_map]
    show (a, a + g.size) :: ((a + g.size) :: pre (a + g.size) c).zip (pre (a + g.size) c) = _
    rw [ih]
    congr 1
    · simp
    · apply List.map_congr_left
      intro i _
      simp; omega
theorem spans_eq {c : List Sg} (h : c ≠ []) : F_spans_in c = (List.range c.length).map fun i => (sz (c.take i), sz (c.take (i + 1))) := by
  unfold F_spans_in
  have e : (([0] : List Int) ++ F_joints_in c) ++ [F_length_in c] = 0 :: pre 0 c := by
    rw [joints_eq, length_in_eq]
    have key : ∀ (l : List Sg) (a : Int), l ≠ [] → pre a l.dropLast ++ [a + sz l] = pre a l := fun l => by
      induction l with
      | nil => intro a h; exact absurd rfl h
      | cons g l ih =>
        intro a _
        cases l with
        | nil => simp [pre]
        | cons g' l =>
          have := ih (a + g.size) (by simp)
          rw [List.dropLast_cons_of_ne_nil (by simp)]
          show (a + g.size) :: (pre (a + g.size) (g' :: l).dropLast ++ [a + sz (g :: g' :: l)]) = (a + g.size) :: pre (a + g.size) (g' :: l)
          rw [← this]
          simp; omega
    have := key c 0 h
    rw [Int.zero_add] at this
    rw [← this]; simp
  show List.zip ((([0] : List Int) ++ F_joints_in c) ++ [F_length_in c]) (cut ((([0] : List Int) ++ F_joints_in c) ++ [F_length_in c]) (some 1) none) = _
  rw [e, show (some (1 : Int)) = some ((1 : Nat) : Int) from rfl, cut_drop]
  have := zip_pre c 0
  simp only [Int.zero_add] at this
  exact this
theorem ok_spans {c : List Sg} (h : c.length ≤ 24) : Ok_spans_in c := by
  unfold Ok_spans_in
  have h1 := joints_len c
  refine ⟨ok_joints h, by simp; omega, by unfold Ok_length_in; omega, by simp; omega⟩
/-! ### what is meant -/
def cr (p : List (List Sg)) (r : Nat) : List Sg := p.getD r []
def ov (c : List Sg) (i : Nat) (d : List Sg) (j : Nat) : Int := min (sz (c.take (i + 1))) (sz (d.take (j + 1))) - max (sz (c.take i)) (sz (d.take j))
def ovs (c : List Sg) (i : Nat) (d : List Sg) : List (Int × Int) := (List.range d.length).flatMap fun j => if 0 < ov c i d j then [((j : Int), ov c i d j)] else []
/-- on what a brick lies -/
def und (p : List (List Sg)) : Nat → Nat → List ((Int × Int) × Int)
  | 0, _ => []
  | k + 1, i => (ovs (cr p (k + 1)) i (cr p k)).map fun x => (((k : Int), x.1), x.2)
def bks (p : List (List Sg)) : List (Nat × Nat) := (List.range p.length).flatMap fun r => (List.range (cr p r).length).map fun i => (r, i)
def nb (b : Nat × Nat) : Int × Int := ((b.1 : Int), (b.2 : Int))
theorem nb_inj (a b : Nat × Nat) (h : nb a = nb b) : a = b := by
  obtain ⟨a1, a2⟩ := a
  obtain ⟨b1, b2⟩ := b
  simp only [nb, Prod.mk.injEq] at h
  simp; omega
def LD (p : List (List Sg)) : List ((Int × Int) × List ((Int × Int) × Int)) := (bks p).map fun b => (nb b, und p b.1 b.2)
theorem mem_bks {p : List (List Sg)} {b : Nat × Nat} : b ∈ bks p ↔ b.1 < p.length ∧ b.2 < (cr p b.1).length := by
  unfold bks
  rw [List.mem_flatMap]
  constructor
  · rintro ⟨r, hr, h⟩
    obtain ⟨i, hi, e⟩ := List.mem_map.mp h
    rw [List.mem_range] at hr hi
    subst e
    exact ⟨hr, hi⟩
  · rintro ⟨h1, h2⟩
    exact ⟨b.1, List.mem_range.mpr h1, List.mem_map.mpr ⟨b.2, List.mem_range.mpr h2, rfl⟩⟩
theorem nodup_flat {α β : Type} {f : α → List β} : ∀ {xs : List α}, xs.Nodup → (∀ x ∈ xs, (f x).Nodup) → (∀ x ∈ xs, ∀ y ∈ xs, ∀ z, z ∈ f x → z ∈ f y → x = y) → (xs.flatMap f).Nodup
  | [], _, _, _ => by simp
  | x :: xs, hn, h1, h2 => by
    rw [List.nodup_cons] at hn
    rw [List.flatMap_cons, List.nodup_append]
    refine ⟨h1 x List.mem_cons_self, nodup_flat hn.2 (fun y hy => h1 y (List.mem_cons_of_mem _ hy)) (fun y hy z hz => h2 y (List.mem_cons_of_mem _ hy) z (List.mem_cons_of_mem _ hz)), fun a ha b hb e => ?_⟩
    subst e
    obtain ⟨y, hy, hb⟩ := List.mem_flatMap.mp hb
    have := h2 x List.mem_cons_self y (List.mem_cons_of_mem _ hy) a ha hb
    subst this
    exact hn.1 hy
theorem nodup_map' {α β : Type} {f : α → β} (hf : ∀ a b, f a = f b → a = b) : ∀ {xs : List α}, xs.Nodup → (xs.map f).Nodup
  | [], _ => by simp
  | x :: xs, h => by
    rw [List.nodup_cons] at h
    rw [List.map_cons, List.nodup_cons]
    refine ⟨fun hm => ?_, nodup_map' hf h.2⟩
    obtain ⟨y, hy, e⟩ := List.mem_map.mp hm
    exact h.1 (hf _ _ e ▸ hy)
theorem bks_nodup (p : List (List Sg)) : (bks p).Nodup := by
  unfold bks
  refine nodup_flat List.nodup_range (fun r _ => nodup_map' (fun a b e => (Prod.mk.inj e).2) List.nodup_range) fun r _ r' _ z hz hz' => ?_
  obtain ⟨i, _, rfl⟩ := List.mem_map.mp hz
  obtain ⟨i', _, e⟩ := List.mem_map.mp hz'
  exact (Prod.mk.inj e).1.symm
section
variable {L : Int} {p : List (List Sg)}
theorem cr_mem {r : Nat} (h : r < p.length) : cr p r ∈ p := by
  unfold cr
  rw [List.getD_eq_getElem?_getD, List.getElem?_eq_getElem h]
  exact List.getElem_mem h
theorem ix_cr {r : Nat} (h : r < p.length) : ixG p (r : Int) = cr p r := by
  rw [ixG_natD h]; unfold cr
  rw [List.getD_eq_getElem?_getD, List.getElem?_eq_getElem h]; rfl
theorem Frt.cr (h : Frt L p) {r : Nat} (hr : r < p.length) : 1 ≤ (cr p r).length ∧ (cr p r).length ≤ 24 ∧ sz (cr p r) = L := h.row (cr_mem hr)
theorem Frt.ne (h : Frt L p) {r : Nat} (hr : r < p.length) : Pu.cr p r ≠ [] := fun e => by
  have := (h.cr hr).1
  rw [e] at this
  cases this
theorem bks_len (h : Frt L p) : (bks p).length ≤ 576 := by
  have := flatMap_len_le (f := fun r => (List.range (cr p r).length).map fun i => (r, i)) 24 (xs := List.range p.length) fun r hr => by
    rw [List.length_map, List.length_range]
    exact (h.cr (List.mem_range.mp hr)).2.1
  rw [List.length_range] at this
  have h1 := h.n1
  show (bks p).length ≤ 576
  have : (bks p).length ≤ p.length * 24 := this
  omega
theorem bricks_in_eq : F_bricks_in p = (bks p).map nb := by
  unfold F_bricks_in bks
  rw [enumI_map, flatMap_map', map_flatMap']
  apply flatMap_congr'
  intro r hr
  rw [irange_map, List.map_map]
  rfl
theorem ok_bricks_in (h : Frt L p) : Ok_bricks_in p := by
  unfold Ok_bricks_in
  refine ⟨fun x hx => ?_, ?_⟩
  · obtain ⟨i, _, e⟩ := enumI_mem.mp hx
    have := h.m _ (List.mem_of_getElem? e)
    omega
  · have e := bricks_in_eq (p := p)
    unfold F_bricks_in at e
    rw [e, List.length_map]
    have := bks_len h
    omega
theorem spans_ix {c : List Sg} {i : Nat} (hi : i < c.length) : ixG (F_spans_in c) (i : Int) = (sz (c.take i), sz (c.take (i + 1))) := by
  have hc : c ≠ [] := fun e => by rw [e] at hi; cases hi
  rw [ixG_natD (by rw [spans_eq hc]; simpa using hi)]
  simp only [spans_eq hc]
  simp
theorem spans_len {c : List Sg} (hc : c ≠ []) : (F_spans_in c).length = c.length := by rw [spans_eq hc]; simp
theorem over_eq {c d : List Sg} (hd : d ≠ []) {i : Nat} (w : Int × Int) (hw : w = (sz (c.take i), sz (c.take (i + 1)))) : (enumI (F_spans_in d)).foldl (F_over_in_1_s w) [] = ovs c i d := by
  subst hw
  rw [foldl_flat (g := fun x : Int × (Int × Int) => if 0 < (min (sz (c.take (i + 1))) x.2.2) - (max (sz (c.take i)) x.2.1) then [(x.1, (min (sz (c.take (i + 1))) x.2.2) - (max (sz (c.take i)) x.2.1))] else [])]
  · rw [List.nil_append, enumI_map, spans_len hd, flatMap_map']
    unfold ovs
    apply flatMap_congr'
    intro j hj
    rw [List.mem_range] at hj
    have : (F_spans_in d).getD j default = (sz (d.take j), sz (d.take (j + 1))) := by
      rw [spans_eq hd, List.getD_eq_getElem?_getD, List.getElem?_map, List.getElem?_range hj]; rfl
    rw [this]; rfl
  · intro acc x _
    show acc ++ _ = _
    congr 1
    simp
theorem over_in_eq (h : Frt L p) {r i : Nat} (hb : (r, i) ∈ bks p) : F_over_in p (r : Int) (i : Int) = match r with | 0 => [] | k + 1 => ovs (cr p (k + 1)) i (cr p k) := by
  obtain ⟨h1, h2⟩ := mem_bks.mp hb
  unfold F_over_in
  cases r with
  | zero => rfl
  | succ k =>
    have hk : k < p.length := Nat.lt_of_succ_lt h1
    have e1 : ((k + 1 : Nat) : Int) - 1 = (k : Int) := by omega
    have e2 : decide ((0 : Int) < ((k + 1 : Nat) : Int)) = true := decide_eq_true (by omega)
    show (if decide ((0 : Int) < ((k + 1 : Nat) : Int)) = true then _ else _) = _
    rw [e2, if_pos rfl]
    show (enumI (F_spans_in (ixG p (((k + 1 : Nat) : Int) - 1)))).foldl (F_over_in_1_s _) [] = _
    rw [e1, ix_cr hk, ix_cr h1]
    exact over_eq (h.ne hk) _ (spans_ix h2)
theorem ovs_len (c : List Sg) (i : Nat) (d : List Sg) : (ovs c i d).length ≤ d.length := by
  unfold ovs
  have := flatMap_len_le (f := fun j => if 0 < ov c i d j then [((j : Int), ov c i d j)] else []) 1 (xs := List.range d.length) fun j _ => by split <;> simp
  rw [List.length_range] at this
  omega
theorem ok_over_in (h : Frt L p) {r i : Nat} (hb : (r, i) ∈ bks p) : Ok_over_in p (r : Int) (i : Int) := by
  obtain ⟨h1, h2⟩ := mem_bks.mp hb
  have h2 : i < (cr p r).length := h2
  have h1 : r < p.length := h1
  unfold Ok_over_in
  rw [ix_cr h1]
  refine ⟨ixOk_natD h1, ok_spans (h.cr h1).2.1, ixOk_natD (by rw [spans_len (h.ne h1)]; exact h2), fun hr => ?_⟩
  have hr : (0 : Int) < (r : Int) := by simpa using hr
  obtain ⟨k, rfl⟩ : ∃ k, r = k + 1 := ⟨r - 1, by omega⟩
  have hk : k < p.length := Nat.lt_of_succ_lt h1
  have e1 : ((k + 1 : Nat) : Int) - 1 = (k : Int) := by omega
  rw [e1, ix_cr hk]
  have h3 := (h.cr hk).2.1
  refine ⟨ixOk_natD hk, ok_spans h3, foldOk_lt (fun k st => st.length ≤ k) 24 _ 0 _ (by unfold enumI; simp [spans_len (h.ne hk)]; exact h3) (by simp) fun m st x _ hm hl => ⟨?_, ?_⟩⟩
  · show st.length + _ ≤ 16777216
    split <;> simp <;> omega
  · show (st ++ _).length ≤ m + 1
    rw [List.length_append]
    split <;> simp <;> omega
theorem und_eq (h : Frt L p) {r i : Nat} (hb : (r, i) ∈ bks p) : (F_over_in p (r : Int) (i : Int)).map (fun x => ((((r : Int) - 1), x.1), x.2)) = und p r i := by
  rw [over_in_eq h hb]
  cases r with
  | zero => rfl
  | succ k =>
    show (ovs _ _ _).map _ = (ovs _ _ _).map _
    have e1 : ((k + 1 : Nat) : Int) - 1 = (k : Int) := by omega
    rw [e1]
theorem und_len (h : Frt L p) {r i : Nat} (hr : r < p.length) : (und p r i).length ≤ 24 := by
  cases r with
  | zero => simp [und]
  | succ k =>
    have h1 := ovs_len (cr p (k + 1)) i (cr p k)
    have h2 := (h.cr (Nat.lt_of_succ_lt hr)).2.1
    simp only [und, List.length_map]
    omega
theorem keys_LD : (LD p).map Prod.fst = (bks p).map nb := by unfold LD; rw [List.map_map]; rfl
theorem nb_nodup : ((bks p).map nb).Nodup := nodup_map' nb_inj (bks_nodup p)
theorem laid_pre (h : Frt L p) (bs : List (Nat × Nat)) (hs : ∀ b ∈ bs, b ∈ bks p) (hn : (bs.map nb).Nodup) : (bs.map nb).foldl (F_laid_in_1_s p) [] = bs.map fun b => (nb b, und p b.1 b.2) := by
  rw [List.foldl_map, foldl_put (k := nb) (v := fun b => und p b.1 b.2) bs [] (fun acc b hb => ?_) hn (by simp)]
  · rfl
  · show dput acc _ _ = _
    have e := und_eq h (r := b.1) (i := b.2) (hs b hb)
    rw [← e]; rfl
theorem laid_in_eq (h : Frt L p) : F_laid_in p = LD p := by
  unfold F_laid_in
  show (F_bricks_in p).foldl (F_laid_in_1_s p) [] = _
  rw [bricks_in_eq, laid_pre h _ (fun b hb => hb) nb_nodup]; rfl
theorem split_map {α β : Type} {f : α → β} {xs : List α} {pr : List β} {x : β} {po : List β} (e : xs.map f = pr ++ x :: po) : ∃ a b c, xs = a ++ b :: c ∧ pr = a.map f ∧ x = f b ∧ po = c.map f := by
  obtain ⟨a, r, rfl, e1, e2⟩ := List.map_eq_append_iff.mp e
  obtain ⟨b, c, rfl, e3, e4⟩ := List.map_eq_cons_iff.mp e2
  exact ⟨a, b, c, rfl, e1.symm, e3.symm, e4.symm⟩
theorem ok_laid_in (h : Frt L p) : Ok_laid_in p := by
  unfold Ok_laid_in
  refine ⟨ok_bricks_in h, foldOk_pre _ _ fun pr x po e => ?_⟩
  rw [bricks_in_eq] at e
  obtain ⟨a, b, c, e1, rfl, rfl, rfl⟩ := split_map e
  have hb : ∀ b' ∈ a, b' ∈ bks p := fun b' hb' => by rw [e1]; exact List.mem_append_left _ hb'
  have hb0 : b ∈ bks p := by rw [e1]; simp
  have hn : (a.map nb).Nodup := by
    have := nb_nodup (p := p)
    rw [e1, List.map_append, List.nodup_append] at this
    exact this.1
  rw [laid_pre h a hb hn]
  have hl := bks_len h
  have hl2 : a.length ≤ (bks p).length := by rw [e1]; simp
  have hu : (F_over_in p (nb b).1 (nb b).2).length ≤ 24 := by
    have := und_len h (i := b.2) (mem_bks.mp hb0).1
    rw [← und_eq h hb0, List.length_map] at this
    exact this
  refine ⟨ok_over_in h hb0, by omega, ?_⟩
  rw [List.length_map]; omega
theorem dlk_LD {b : Nat × Nat} (hb : b ∈ bks p) : dlk (LD p) (nb b) = some (und p b.1 b.2) := dlk_map (k := nb) (v := fun b => und p b.1 b.2) nb_inj hb
theorem dget_LD {b : Nat × Nat} (hb : b ∈ bks p) : dget (LD p) (nb b) = und p b.1 b.2 := by unfold dget; rw [dlk_LD hb]; rfl
/-! ### the law's own bricks -/
def b4 (p : List (List Sg)) (b : Nat × Nat) : Int × Int × Int × Int := ((b.1 : Int), (b.2 : Int), sz ((cr p b.1).take b.2), sz ((cr p b.1).take (b.2 + 1)))
theorem law_bricks_row {c : List Sg} {r : Nat} (acc : List (Int × Int × Int × Int)) : (irange 0 (c.length : Int)).foldl (F_law_bricks_2_s c (r : Int)) acc = acc ++ (List.range c.length).map fun (i : Nat) => ((r : Int), (i : Int), sz (c.take i), sz (c.take (i + 1))) := by
  rw [irange0, List.foldl_map]
  refine foldl_map' _ _ fun acc i _ => ?_
  show acc ++ [_] = _
  rw [cut_take, show ((i : Int) + 1) = ((i + 1 : Nat) : Int) from rfl, cut_take, law_size_eq, law_size_eq]
theorem law_bricks_eq : F_law_bricks p = (bks p).map (b4 p) := by
  unfold F_law_bricks
  show (irange 0 (p.length : Int)).foldl (F_law_bricks_1_s p) [] = _
  rw [irange0, List.foldl_map, foldl_flat (g := fun r => (List.range (cr p r).length).map fun (i : Nat) => b4 p (r, i))]
  · unfold bks
    rw [List.nil_append, map_flatMap']
    apply flatMap_congr'
    intro r _
    rw [List.map_map]; rfl
  · intro acc r hr
    show (irange 0 ((ixG p (r : Int)).length : Int)).foldl (F_law_bricks_2_s (ixG p (r : Int)) (r : Int)) acc = _
    rw [ix_cr (List.mem_range.mp hr), law_bricks_row]; rfl
theorem ok_law_bricks (h : Frt L p) : Ok_law_bricks p := by
  have hn := h.n1
  unfold Ok_law_bricks
  refine ⟨by omega, foldOk_pre _ _ fun pre x po e => ?_⟩
  · rw [irange0] at e
    obtain ⟨a, r, c, e1, rfl, rfl, rfl⟩ := split_map e
    have hr : r < p.length := by
      have : r ∈ List.range p.length := by rw [e1]; simp
      exact List.mem_range.mp this
    have ha : ∀ r' ∈ a, r' < p.length := fun r' h' => by
      have : r' ∈ List.range p.length := by rw [e1]; exact List.mem_append_left _ h'
      exact List.mem_range.mp this
    have hla : a.length ≤ 24 := by
      have := congrArg List.length e1
      simp at this; omega
    have est : (a.map fun (i : Nat) => (i : Int)).foldl (F_law_bricks_1_s p) [] = a.flatMap fun r => (List.range (cr p r).length).map fun (i : Nat) => b4 p (r, i) := by
      rw [List.foldl_map, foldl_flat (g := fun r => (List.range (cr p r).length).map fun (i : Nat) => b4 p (r, i))]
      · rfl
      · intro acc r hr
        show (irange 0 ((ixG p (r : Int)).length : Int)).foldl (F_law_bricks_2_s (ixG p (r : Int)) (r : Int)) acc = _
        rw [ix_cr (ha r hr), law_bricks_row]; rfl
    have hl0 : (a.flatMap fun r => (List.range (cr p r).length).map fun (i : Nat) => b4 p (r, i)).length ≤ a.length * 24 := flatMap_len_le 24 fun r hr => by
      rw [List.length_map, List.length_range]; exact (h.cr (ha r hr)).2.1
    rw [est]
    have h3 := (h.cr hr).2.1
    show IxOk p (r : Int) ∧ (_ ∧ _ ∧ _)
    rw [ix_cr hr]
    have lt : ∀ k : Nat, Ok_law_size ((cr p r).take k) := fun k => by
      unfold Ok_law_size
      rw [List.length_take]; omega
    refine ⟨ixOk_natD hr, by omega, by omega, foldOk_pre _ _ fun pr y po e2 => ?_⟩
    rw [irange0] at e2
    obtain ⟨a', i, c', e3, rfl, rfl, rfl⟩ := split_map e2
    have hla' : a'.length ≤ 24 := by
      have := congrArg List.length e3
      simp at this; omega
    refine ⟨by omega, by rw [cut_take]; exact lt _, by rw [show ((i : Int) + 1) = ((i + 1 : Nat) : Int) from rfl, cut_take]; exact lt _, ?_⟩
    rw [List.foldl_map, foldl_map' (g := fun (i : Nat) => b4 p (r, i)) a' _ fun acc i _ => ?_]
    · simp only [List.length_append, List.length_map]; omega
    · show acc ++ [_] = _
      rw [cut_take, show ((i : Int) + 1) = ((i + 1 : Nat) : Int) from rfl, cut_take, law_size_eq, law_size_eq]; rfl
theorem dlk_snoc {κ τ : Type} [DecidableEq κ] {k : κ} {v : τ} : ∀ {st : List (κ × τ)}, k ∉ st.map Prod.fst → dlk (st ++ [(k, v)]) k = some v
  | [], _ => by simp [dlk]
  | q :: st, h => by
    rw [List.map_cons, List.mem_cons, not_or] at h
    rw [List.cons_append]
    show (if q.1 = k then some q.2 else dlk (st ++ [(k, v)]) k) = _
    rw [if_neg (Ne.symm h.1), dlk_snoc h.2]
theorem dput_snoc {κ τ : Type} [DecidableEq κ] {k : κ} {v w : τ} {st : List (κ × τ)} (h : k ∉ st.map Prod.fst) : dput (st ++ [(k, v)]) k w = st ++ [(k, w)] := by
  unfold dput
  have ha : ((st ++ [(k, v)]).any fun p => decide (p.1 = k)) = true := by simp
  rw [if_pos ha, List.map_append]
  congr 1
  · rw [List.map_congr_left (g := id), List.map_id]
    intro q hq
    have : q.1 ≠ k := fun e => h (List.mem_map.mpr ⟨q, hq, e⟩)
    simp [this]
  · simp
def lcond (x y : Int × Int × Int × Int) : List ((Int × Int) × Int) := if y.1 = x.1 - 1 ∧ 0 < (min x.2.2.2 y.2.2.2) - (max x.2.2.1 y.2.2.1) then [((y.1, y.2.1), (min x.2.2.2 y.2.2.2) - (max x.2.2.1 y.2.2.1))] else []
theorem law_laid_in {x : Int × Int × Int × Int} {st : List ((Int × Int) × List ((Int × Int) × Int))} (h : (x.1, x.2.1) ∉ st.map Prod.fst) : ∀ (ys : List (Int × Int × Int × Int)) (l : List ((Int × Int) × Int)), ys.foldl (F_law_laid_2_s x) (st ++ [((x.1, x.2.1), l)]) = st ++ [((x.1, x.2.1), l ++ ys.flatMap (lcond x))]
  | [], l => by simp
  | y :: ys, l => by
    have e : F_law_laid_2_s x (st ++ [((x.1, x.2.1), l)]) y = st ++ [((x.1, x.2.1), l ++ lcond x y)] := by
      show (if ((decide (y.1 = (x.1 - 1))) && (decide (0 < (min x.2.2.2 y.2.2.2) - (max x.2.2.1 y.2.2.1)))) = true then dput _ _ (dget _ _ ++ _) else _) = _
      unfold lcond
      by_cases c : y.1 = x.1 - 1 ∧ 0 < (min x.2.2.2 y.2.2.2) - (max x.2.2.1 y.2.2.1)
      · rw [if_pos (by rw [Bool.and_eq_true, decide_eq_true_eq, decide_eq_true_eq]; exact c), if_pos c]
        unfold dget
        rw [dlk_snoc h, dput_snoc h]; rfl
      · rw [if_neg (by rw [Bool.and_eq_true, decide_eq_true_eq, decide_eq_true_eq]; exact c), if_neg c, List.append_nil]
    rw [List.foldl_cons, e, law_laid_in h ys, List.flatMap_cons, List.append_assoc]
theorem lcond_und (h : Frt L p) {b : Nat × Nat} (hb : b ∈ bks p) : ((bks p).map (b4 p)).flatMap (lcond (b4 p b)) = und p b.1 b.2 := by
  obtain ⟨r, i⟩ := b
  obtain ⟨h1, h2⟩ := mem_bks.mp hb
  have h1 : r < p.length := h1
  rw [flatMap_map']
  unfold bks
  rw [flatMap_flatMap']
  cases r with
  | zero =>
    rw [flatMap_congr' (g := fun _ => [])]
    · simp [und]
    · intro r' _
      rw [flatMap_map', flatMap_congr' (g := fun _ => [])]
      · simp
      · intro j _
        unfold lcond
        rw [if_neg]
        rintro ⟨h3, _⟩
        have h3 : (r' : Int) = ((0 : Nat) : Int) - 1 := h3
        omega
  | succ k =>
    rw [flatMap_congr' (g := fun r' => if r' = k then und p (k + 1) i else [])]
    · rw [range_flat_if (f := fun _ => und p (k + 1) i), if_pos (Nat.lt_of_succ_lt h1)]
    · intro r' _
      rw [flatMap_map']
      by_cases hr : r' = k
      · subst hr
        rw [if_pos rfl]
        show _ = (ovs (cr p (r' + 1)) i (cr p r')).map (fun x => (((r' : Int), x.1), x.2))
        unfold ovs
        rw [map_flatMap']
        apply flatMap_congr'
        intro j _
        unfold lcond
        have e1 : ((b4 p (r', j)).1 = (b4 p (r' + 1, i)).1 - 1) := by show (r' : Int) = ((r' + 1 : Nat) : Int) - 1; omega
        by_cases c : 0 < ov (cr p (r' + 1)) i (cr p r') j
        · rw [if_pos ⟨e1, c⟩, if_pos c]; rfl
        · rw [if_neg (fun z => c z.2), if_neg c]; rfl
      · rw [if_neg hr, flatMap_congr' (g := fun _ => [])]
        · simp
        · intro j _
          unfold lcond
          rw [if_neg]
          rintro ⟨h3, _⟩
          have h3 : (r' : Int) = ((k + 1 : Nat) : Int) - 1 := h3
          omega
theorem law_laid_pre (h : Frt L p) (bs : List (Nat × Nat)) (hs : ∀ b ∈ bs, b ∈ bks p) (hn : (bs.map nb).Nodup) : (bs.map (b4 p)).foldl (F_law_laid_1_s ((bks p).map (b4 p))) [] = bs.map fun b => (nb b, und p b.1 b.2) := by
  have key : ∀ (bs : List (Nat × Nat)) (acc : List ((Int × Int) × List ((Int × Int) × Int))), (∀ b ∈ bs, b ∈ bks p) → (bs.map nb).Nodup → (∀ b ∈ bs, nb b ∉ acc.map Prod.fst) → (bs.map (b4 p)).foldl (F_law_laid_1_s ((bks p).map (b4 p))) acc = acc ++ bs.map fun b => (nb b, und p b.1 b.2) := fun bs => by
    induction bs with
    | nil => intro acc _ _ _; simp
    | cons b bs ih =>
      intro acc hs hn hd
      have e : F_law_laid_1_s ((bks p).map (b4 p)) acc (b4 p b) = acc ++ [(nb b, und p b.1 b.2)] := by
        show ((bks p).map (b4 p)).foldl (F_law_laid_2_s (b4 p b)) (dput acc (nb b) []) = _
        rw [keys_put_new (hd b List.mem_cons_self)]
        have := law_laid_in (x := b4 p b) (hd b List.mem_cons_self) ((bks p).map (b4 p)) []
        rw [lcond_und h (hs b List.mem_cons_self), List.nil_append] at this
        exact this
      rw [List.map_cons, List.nodup_cons] at hn
      rw [List.map_cons, List.foldl_cons, e, ih _ (fun b' hb' => hs b' (List.mem_cons_of_mem _ hb')) hn.2 fun b' hb' => ?_, List.map_cons, List.append_assoc]; rfl
      rw [List.map_append, List.mem_append, not_or]
      refine ⟨hd b' (List.mem_cons_of_mem _ hb'), ?_⟩
      rw [List.map_cons, List.map_nil, List.mem_singleton]
      exact fun e => hn.1 (List.mem_map.mpr ⟨b', hb', e⟩)
  have := key bs [] hs hn (by simp)
  rw [List.nil_append] at this
  exact this
theorem law_laid_eq (h : Frt L p) : F_law_laid p = LD p := by
  unfold F_law_laid
  show (F_law_bricks p).foldl (F_law_laid_1_s (F_law_bricks p)) [] = _
  rw [law_bricks_eq, law_laid_pre h _ (fun b hb => hb) nb_nodup]; rfl
theorem ok_law_laid (h : Frt L p) : Ok_law_laid p := by
  have hl := bks_len h
  unfold Ok_law_laid
  refine ⟨ok_law_bricks h, ?_⟩
  show FoldOk (Ok_law_laid_1_s (F_law_bricks p)) (F_law_laid_1_s (F_law_bricks p)) [] (F_law_bricks p)
  rw [law_bricks_eq]
  refine foldOk_pre _ _ fun pr x po e => ?_
  obtain ⟨a, b, c, e1, rfl, rfl, rfl⟩ := split_map e
  have hb : ∀ b' ∈ a, b' ∈ bks p := fun b' hb' => by rw [e1]; exact List.mem_append_left _ hb'
  have hb0 : b ∈ bks p := by rw [e1]; simp
  have hn := nb_nodup (p := p)
  rw [e1, List.map_append, List.nodup_append] at hn
  have hnew : nb b ∉ (a.map fun b => (nb b, und p b.1 b.2)).map Prod.fst := fun hm => by
    rw [List.map_map] at hm
    exact hn.2.2 _ hm _ (List.mem_map.mpr ⟨b, by simp, rfl⟩) rfl
  have hla : a.length ≤ 576 := by
    have := congrArg List.length e1
    simp at this; omega
  rw [law_laid_pre h a hb hn.1]
  refine ⟨by rw [List.length_map]; omega, ?_⟩
  show FoldOk (Ok_law_laid_2_s (b4 p b)) (F_law_laid_2_s (b4 p b)) (dput _ (nb b) []) _
  rw [keys_put_new hnew]
  refine foldOk_pre _ _ fun pr y po e2 => ?_
  have hnew : ((b4 p b).1, (b4 p b).2.1) ∉ (a.map fun b => (nb b, und p b.1 b.2)).map Prod.fst := hnew
  have hpl : pr.length ≤ 576 := by
    have := congrArg List.length e2
    simp at this; omega
  have ef := law_laid_in (x := b4 p b) hnew pr []
  rw [List.nil_append] at ef
  show Ok_law_laid_2_s (b4 p b) (pr.foldl (F_law_laid_2_s (b4 p b)) (_ ++ [(((b4 p b).1, (b4 p b).2.1), [])])) y
  rw [ef]
  have hc : (pr.flatMap (lcond (b4 p b))).length ≤ pr.length * 1 := flatMap_len_le 1 fun y _ => by unfold lcond; split <;> simp
  intro _
  unfold dget
  rw [dlk_snoc hnew]
  refine ⟨rfl, ?_, ?_⟩
  · show (pr.flatMap (lcond (b4 p b))).length + 1 ≤ 16777216
    omega
  · simp only [List.length_append, List.length_map, List.length_cons, List.length_nil]; omega
theorem LD_ne (h : Frt L p) : LD p ≠ [] := fun e => by
  have h0 := h.n0
  have : (0, 0) ∈ bks p := mem_bks.mpr ⟨h0, (h.cr h0).1⟩
  unfold LD at e
  rw [List.map_eq_nil_iff.mp e] at this
  cases this
/-! ### a brick of a front -/
theorem fits_whole_i {x lo hi : Int} (h : lo ≤ x ∧ x ≤ hi) : F_fits_whole x lo hi = true := by
  unfold F_fits_whole F_is_whole
  rw [decide_eq_true h.1, decide_eq_true h.2]; rfl
theorem fits_brick_ok (h : Frt L p) {b : Nat × Nat} (hb : b ∈ bks p) : F_fits_brick p (nb b) = true ∧ Ok_fits_brick p (nb b) := by
  obtain ⟨h1, h2⟩ := mem_bks.mp hb
  have e1 : F_fits_whole (nb b).1 0 ((p.length : Int) - 1) = true := by
    refine fits_whole_i ?_
    show (0 : Int) ≤ (b.1 : Int) ∧ (b.1 : Int) ≤ (p.length : Int) - 1
    omega
  have e2 : ixG p (nb b).1 = cr p b.1 := ix_cr h1
  have e3 : F_fits_whole (nb b).2 0 (((cr p b.1).length : Int) - 1) = true := by
    refine fits_whole_i ?_
    show (0 : Int) ≤ (b.2 : Int) ∧ (b.2 : Int) ≤ ((cr p b.1).length : Int) - 1
    omega
  have e4 : F_is_tuple_of_2 (nb b) 2 2 = true := by unfold F_is_tuple_of_2; rfl
  refine ⟨?_, ?_⟩
  · unfold F_fits_brick
    rw [e1, e2, e3, e4]; rfl
  · unfold Ok_fits_brick
    rw [e2]
    have := (h.cr h1).2.1
    exact fun _ => ⟨ixOk_natD h1, by omega⟩
theorem need_brick_ok (h : Frt L p) {b : Nat × Nat} (hb : b ∈ bks p) : Ok_need_brick p (nb b) := by
  unfold Ok_need_brick
  exact ⟨h.need, (fits_brick_ok h hb).2, by rw [(fits_brick_ok h hb).1]; rfl⟩
end
end Pu
end

noncomputable section
set_option Elab.async false
set_option linter.all false
set_option maxRecDepth 100000
set_option maxHeartbeats 2000000
/-! M84a: ways down. -/
namespace Pu
open PySem PySem.Spec L2
abbrev Br := Int × Int
theorem mem_ovs {c d : List Sg} {i : Nat} {x : Int × Int} : x ∈ ovs c i d ↔ ∃ j, j < d.length ∧ 0 < ov c i d j ∧ x = ((j : Int), ov c i d j) := by
  unfold ovs
  rw [List.mem_flatMap]
  constructor
  · rintro ⟨j, hj, h⟩
    by_cases c' : 0 < ov c i d j
    · rw [if_pos c', List.mem_singleton] at h
      exact ⟨j, List.mem_range.mp hj, c', h⟩
    · rw [if_neg c'] at h; cases h
  · rintro ⟨j, hj, h, e⟩
    exact ⟨j, List.mem_range.mpr hj, by rw [if_pos h, List.mem_singleton]; exact e⟩
theorem ovs_sorted (c d : List Sg) (i : Nat) : (ovs c i d).Pairwise fun a b => a.1 < b.1 := by
  have key : ∀ n, ((List.range n).flatMap fun j => if 0 < ov c i d j then [((j : Int), ov c i d j)] else []).Pairwise (fun a b => a.1 < b.1) := fun n => by
    induction n with
    | zero => simp
    | succ n ih =>
      rw [List.range_succ, List.flatMap_append, List.pairwise_append]
      refine ⟨ih, ?_, fun a ha b hb => ?_⟩
      · simp only [List.flatMap_cons, List.flatMap_nil, List.append_nil]; split <;> simp
      · obtain ⟨j, hj, ha⟩ := List.mem_flatMap.mp ha
        rw [List.mem_range] at hj
        simp only [List.flatMap_cons, List.flatMap_nil, List.append_nil] at hb
        split at ha
        · split at hb
          · rw [List.mem_singleton] at ha hb
            subst ha hb
            show (j : Int) < (n : Int)
            omega
          · cases hb
        · cases ha
  exact key d.length
theorem cross {b : Int} (hb : 0 ≤ b) (d : List Sg) : ∀ n, b < sz (d.take n) → ∃ j, j < n ∧ sz (d.take j) ≤ b ∧ b < sz (d.take (j + 1))
  | 0, h => by simp at h; omega
  | n + 1, h => by
    by_cases q : b < sz (d.take n)
    · obtain ⟨j, h1, h2⟩ := cross hb d n q
      exact ⟨j, by omega, h2⟩
    · exact ⟨n, by omega, by omega, h⟩
theorem sz_take_succ (c : List Sg) {i : Nat} (h : i < c.length) : sz (c.take (i + 1)) = sz (c.take i) + c[i].size := by
  rw [← List.take_append_getElem h, sz_app]
  simp
theorem sz_take_le (c : List Sg) (i : Nat) : sz (c.take i) ≤ sz c := by
  have e : sz c = sz (c.take i) + sz (c.drop i) := by rw [← sz_app, List.take_append_drop]
  have := sz_ge (c.drop i)
  omega
theorem sz_nonneg (c : List Sg) : 0 ≤ sz c := by have := sz_ge c; omega
theorem ovs_ne {c d : List Sg} {i : Nat} (hi : i < c.length) (e : sz c = sz d) : ovs c i d ≠ [] := by
  have h1 := sz_take_succ c hi
  have h2 := size_pos c[i]
  have h3 := sz_take_le c (i + 1)
  have h4 := sz_nonneg (c.take i)
  have h5 : sz (c.take i) < sz (d.take d.length) := by rw [List.take_length]; omega
  obtain ⟨j, hj, h6, h7⟩ := cross h4 d d.length h5
  have : ((j : Int), ov c i d j) ∈ ovs c i d := mem_ovs.mpr ⟨j, hj, by unfold ov; omega, rfl⟩
  exact List.ne_nil_of_mem this
section
variable {L : Int} {p : List (List Sg)}
theorem und_mem (h : Frt L p) {k i : Nat} (hk : k + 1 < p.length) {x : Br × Int} (hx : x ∈ und p (k + 1) i) : ∃ j, x.1 = nb (k, j) ∧ (k, j) ∈ bks p := by
  have hx : x ∈ (ovs (cr p (k + 1)) i (cr p k)).map (fun x => (((k : Int), x.1), x.2)) := hx
  obtain ⟨y, hy, rfl⟩ := List.mem_map.mp hx
  obtain ⟨j, hj, _, rfl⟩ := mem_ovs.mp hy
  exact ⟨j, rfl, mem_bks.mpr ⟨by show k < _; omega, hj⟩⟩
theorem und_ne (h : Frt L p) {k i : Nat} (hb : (k + 1, i) ∈ bks p) : und p (k + 1) i ≠ [] := by
  obtain ⟨h1, h2⟩ := mem_bks.mp hb
  have h1 : k + 1 < p.length := h1
  have h2 : i < (cr p (k + 1)).length := h2
  intro e
  have e : (ovs (cr p (k + 1)) i (cr p k)).map (fun x => (((k : Int), x.1), x.2)) = [] := e
  rw [List.map_eq_nil_iff] at e
  exact ovs_ne h2 (by rw [(h.cr h1).2.2, (h.cr (show k < p.length by omega)).2.2]) e
/-- what comes behind a brick, on all ways -/
def cw (p : List (List Sg)) : Nat → Nat → List (List Br)
  | 0, _ => [[]]
  | k + 1, j => (und p (k + 1) j).flatMap fun x => (cw p k x.1.2.toNat).map (x.1 :: ·)
/-- .. on the first way -/
def nx (p : List (List Sg)) (r j : Nat) : Nat := ((und p r j).headD default).1.2.toNat
def fc (p : List (List Sg)) : Nat → Nat → List Br
  | 0, _ => []
  | k + 1, j => nb (k, nx p (k + 1) j) :: fc p k (nx p (k + 1) j)
theorem und_cons (h : Frt L p) {k i : Nat} (hb : (k + 1, i) ∈ bks p) : ∃ m r, und p (k + 1) i = (nb (k, nx p (k + 1) i), m) :: r ∧ (k, nx p (k + 1) i) ∈ bks p ∧ ∀ x ∈ und p (k + 1) i, (nx p (k + 1) i : Int) ≤ x.1.2 := by
  have hn := und_ne h hb
  cases e : und p (k + 1) i with
  | nil => exact absurd e hn
  | cons x r =>
    have hx : x ∈ und p (k + 1) i := by rw [e]; exact List.mem_cons_self
    obtain ⟨j, e1, hj⟩ := und_mem h (mem_bks.mp hb).1 hx
    have en : nx p (k + 1) i = j := by
      unfold nx
      rw [e]
      show x.1.2.toNat = j
      rw [e1]; simp [nb]
    rw [en]
    refine ⟨x.2, r, by rw [← e1], hj, fun y hy => ?_⟩
    have hs : (und p (k + 1) i).Pairwise fun a b => a.1.2 < b.1.2 := by
      show ((ovs (cr p (k + 1)) i (cr p k)).map (fun x => (((k : Int), x.1), x.2))).Pairwise _
      rw [List.pairwise_map]
      exact ovs_sorted _ _ _
    rw [e] at hs
    rcases List.mem_cons.mp hy with rfl | hy
    · rw [e1]; exact Int.le_refl _
    · have := (List.pairwise_cons.mp hs).1 y hy
      rw [e1] at this
      exact Int.le_of_lt this
theorem fc_mem (h : Frt L p) : ∀ (r i : Nat), (r, i) ∈ bks p → fc p r i ∈ cw p r i
  | 0, i, _ => by simp [fc, cw]
  | k + 1, i, hb => by
    obtain ⟨m, r, e, hj, _⟩ := und_cons h hb
    refine List.mem_flatMap.mpr ⟨(nb (k, nx p (k + 1) i), m), by rw [e]; exact List.mem_cons_self, List.mem_map.mpr ⟨fc p k (nx p (k + 1) i), ?_, rfl⟩⟩
    have : (nb (k, nx p (k + 1) i)).2.toNat = nx p (k + 1) i := by simp [nb]
    show _ ∈ cw p k (nb (k, nx p (k + 1) i)).2.toNat
    rw [this]
    exact fc_mem h k _ hj
theorem fc_least (h : Frt L p) : ∀ (r i : Nat), (r, i) ∈ bks p → ∀ y ∈ cw p r i, ltC (cT (cP2 cI cI)) y (fc p r i) = false
  | 0, i, _, y, hy => by
    have hy : y = [] := by simpa [cw] using hy
    subst hy
    exact ltC_irrefl _
  | k + 1, i, hb, y, hy => by
    obtain ⟨m, r, e, hj, hle⟩ := und_cons h hb
    obtain ⟨x, hx, hy⟩ := List.mem_flatMap.mp hy
    obtain ⟨y', hy', rfl⟩ := List.mem_map.mp hy
    obtain ⟨j, e1, hj2⟩ := und_mem h (mem_bks.mp hb).1 hx
    have h2 := hle x hx
    rw [e1] at hy' h2 ⊢
    have ej : (nb (k, j)).2.toNat = j := by simp [nb]
    rw [ej] at hy'
    show ltC (cT (cP2 cI cI)) (nb (k, j) :: y') (nb (k, nx p (k + 1) i) :: fc p k (nx p (k + 1) i)) = false
    rw [ltC_cons (akP2 akI akI)]
    by_cases q : nb (k, j) = nb (k, nx p (k + 1) i)
    · rw [if_pos q]
      have := nb_inj _ _ q
      have : j = nx p (k + 1) i := (Prod.mk.inj this).2
      subst this
      exact fc_least h k _ hj2 y' hy'
    · rw [if_neg q, ltC_P2 akI akI]
      show (if (k : Int) = (k : Int) then _ else _) = false
      rw [if_pos rfl, ltC_int]
      have h2 : (nx p (k + 1) i : Int) ≤ (j : Int) := h2
      show decide ((j : Int) < (nx p (k + 1) i : Int)) = false
      simp; omega
/-! ### the program's first way -/
theorem last_snoc {α : Type} [Inhabited α] (w : List α) (b : α) : ixG (w ++ [b]) (-1) = b ∧ IxOk (w ++ [b]) (-1) := by
  have h : IxOk (w ++ [b]) (-1) := ixOk_last (by simp)
  refine ⟨?_, h⟩
  have e := ixG_some h
  have e2 : atI (w ++ [b]) (-1) = some b := by
    unfold atI
    have e : ixN (w ++ [b]).length (-1) = some w.length := by
      unfold ixN
      simp
      omega
    rw [e]
    simp
  rw [e2] at e
  exact (Option.some.inj e).symm
theorem over_first (h : Frt L p) {k i : Nat} (hb : (k + 1, i) ∈ bks p) : (ixG (F_over_in p ((k + 1 : Nat) : Int) (i : Int)) 0).1 = (nx p (k + 1) i : Int) ∧ IxOk (F_over_in p ((k + 1 : Nat) : Int) (i : Int)) 0 := by
  obtain ⟨m, r, e, hj, hle⟩ := und_cons h hb
  have e2 := und_eq h hb
  rw [e] at e2
  cases e3 : F_over_in p ((k + 1 : Nat) : Int) (i : Int) with
  | nil => rw [e3] at e2; cases e2
  | cons a l =>
    rw [e3, List.map_cons] at e2
    have e4 := (List.cons.inj e2).1
    have e5 : a.1 = (nx p (k + 1) i : Int) := congrArg (fun z : Br × Int => z.1.2) e4
    exact ⟨by rw [show ixG (a :: l) 0 = a from ixG_natD (xs := a :: l) (i := 0) (by simp)]; exact e5, ixOk_natD (i := 0) (by simp)⟩
theorem first_go (h : Frt L p) : ∀ (k j n : Nat) (w : List Br), (k, j) ∈ bks p → w.length + k ≤ 30 → k < n →
    whl (F_first_way_1_c p) (F_first_way_1_s p) n (w ++ [nb (k, j)]) = w ++ nb (k, j) :: fc p k j ∧ WhOk (F_first_way_1_c p) (Okc_first_way_1 p) (Ok_first_way_1_s p) (F_first_way_1_s p) n (w ++ [nb (k, j)])
  | 0, j, n, w, hb, hw, hn => by
    obtain ⟨m, rfl⟩ : ∃ m, n = m + 1 := ⟨n - 1, by omega⟩
    have hc : F_first_way_1_c p (w ++ [nb (0, j)]) = false := by
      show decide ((0 : Int) < (ixG (w ++ [nb (0, j)]) (-1)).1) = false
      rw [(last_snoc w (nb (0, j))).1]; rfl
    refine ⟨by rw [whl_end hc]; rfl, (last_snoc w (nb (0, j))).2, fun z => ?_⟩
    rw [hc] at z; cases z
  | k + 1, j, n, w, hb, hw, hn => by
    obtain ⟨m, rfl⟩ : ∃ m, n = m + 1 := ⟨n - 1, by omega⟩
    have hl := last_snoc w (nb (k + 1, j))
    have hc : F_first_way_1_c p (w ++ [nb (k + 1, j)]) = true := by
      show decide ((0 : Int) < (ixG (w ++ [nb (k + 1, j)]) (-1)).1) = true
      rw [hl.1]
      exact decide_eq_true (by show (0 : Int) < ((k + 1 : Nat) : Int); omega)
    obtain ⟨e1, e2⟩ := over_first h hb
    have hs : F_first_way_1_s p (w ++ [nb (k + 1, j)]) = (w ++ [nb (k + 1, j)]) ++ [nb (k, nx p (k + 1) j)] := by
      show (w ++ [nb (k + 1, j)]) ++ [((ixG (w ++ [nb (k + 1, j)]) (-1)).1 - 1, (ixG (F_over_in p (ixG (w ++ [nb (k + 1, j)]) (-1)).1 (ixG (w ++ [nb (k + 1, j)]) (-1)).2) 0).1)] = _
      rw [hl.1]
      have e1' : (ixG (F_over_in p (nb (k + 1, j)).1 (nb (k + 1, j)).2) 0).1 = (nx p (k + 1) j : Int) := e1
      rw [e1']
      have e3 : (nb (k + 1, j)).1 - 1 = (k : Int) := by show ((k + 1 : Nat) : Int) - 1 = _; omega
      rw [e3]; rfl
    obtain ⟨_, _, _, hj, _⟩ := und_cons h hb
    obtain ⟨g1, g2⟩ := first_go h k (nx p (k + 1) j) m (w ++ [nb (k + 1, j)]) hj (by simp; omega) (by omega)
    refine ⟨by rw [whl_succ, hc, if_pos rfl, hs, g1]; simp [fc], hl.2, fun _ => ⟨⟨hl.2, ?_⟩, by rw [hs]; exact g2⟩⟩
    show Ok_over_in p (ixG (w ++ [nb (k + 1, j)]) (-1)).1 (ixG (w ++ [nb (k + 1, j)]) (-1)).2 ∧ IxOk (F_over_in p (ixG (w ++ [nb (k + 1, j)]) (-1)).1 (ixG (w ++ [nb (k + 1, j)]) (-1)).2) 0 ∧ (w ++ [nb (k + 1, j)]).length < 16777216
    rw [hl.1]
    exact ⟨ok_over_in h hb, e2, by simp; omega⟩
theorem first_way_eq (h : Frt L p) {r i : Nat} (hb : (r, i) ∈ bks p) : F_first_way p (nb (r, i)) = nb (r, i) :: fc p r i ∧ Ok_first_way p (nb (r, i)) := by
  have hr := (mem_bks.mp hb).1
  have h1 := h.n1
  have hr : r < p.length := hr
  obtain ⟨g1, g2⟩ := first_go h r i fuel [] hb (by simp; omega) (by rw [fuel_eq]; omega)
  refine ⟨?_, ?_⟩
  · unfold F_first_way
    exact g1
  · unfold Ok_first_way
    exact ⟨need_brick_ok h hb, g2⟩
/-! ### the law's ways -/
def ext (p : List (List Sg)) (l : List (List Br)) : List (List Br) := l.flatMap fun w => (dget (LD p) (ixG w (-1))).map fun x => w ++ [x.1]
def En (p : List (List Sg)) (k : Nat) (l : List (List Br)) : Prop := ∀ w ∈ l, ∃ w0 j, w = w0 ++ [nb (k, j)] ∧ (k, j) ∈ bks p ∧ w0.length + k ≤ 30
theorem ext_fold (l : List (List Br)) : l.foldl (F_law_ways_2_s (LD p)) [] = ext p l := by
  rw [foldl_flat (g := fun w => (dget (LD p) (ixG w (-1))).map fun x => w ++ [x.1])]
  · rfl
  · intro acc x _; rfl
theorem ext_zero (h : Frt L p) {l : List (List Br)} (he : En p 0 l) : ext p l = [] := by
  unfold ext
  rw [flatMap_congr' (g := fun _ => [])]
  · simp
  · intro w hw
    obtain ⟨w0, j, rfl, hj, _⟩ := he w hw
    rw [(last_snoc w0 _).1, dget_LD hj]; rfl
theorem ext_succ (h : Frt L p) {k : Nat} {l : List (List Br)} (he : En p (k + 1) l) : En p k (ext p l) := fun w hw => by
  obtain ⟨v, hv, hw⟩ := List.mem_flatMap.mp hw
  obtain ⟨w0, j, rfl, hj, hl⟩ := he v hv
  rw [(last_snoc w0 _).1, dget_LD hj] at hw
  obtain ⟨x, hx, rfl⟩ := List.mem_map.mp hw
  obtain ⟨j', e1, hj'⟩ := und_mem h (mem_bks.mp hj).1 hx
  exact ⟨w0 ++ [nb (k + 1, j)], j', by rw [e1], hj', by simp; omega⟩
theorem ext_ne (h : Frt L p) {k : Nat} {l : List (List Br)} (he : En p (k + 1) l) (hn : l ≠ []) : ext p l ≠ [] := by
  cases l with
  | nil => exact absurd rfl hn
  | cons w l =>
    obtain ⟨w0, j, rfl, hj, hl⟩ := he w List.mem_cons_self
    unfold ext
    rw [List.flatMap_cons, (last_snoc w0 _).1, dget_LD hj]
    obtain ⟨m, r, e, _⟩ := und_cons h hj
    show List.map _ (und p (k + 1) j) ++ _ ≠ []
    rw [e]; simp
theorem ext_len (h : Frt L p) {k : Nat} {l : List (List Br)} (he : En p k l) : (ext p l).length ≤ l.length * 24 := flatMap_len_le 24 fun w hw => by
  obtain ⟨w0, j, rfl, hj, _⟩ := he w hw
  rw [(last_snoc w0 _).1, dget_LD hj, List.length_map]
  exact und_len h (mem_bks.mp hj).1
/-- all ways on -/
def on (p : List (List Sg)) (k : Nat) (l : List (List Br)) : List (List Br) := l.flatMap fun w => (cw p k (ixG w (-1)).2.toNat).map (w ++ ·)
theorem on_zero (l : List (List Br)) : on p 0 l = l := by
  unfold on
  rw [flatMap_congr' (g := fun w => [w])]
  · simp
  · intro w _; simp [cw]
theorem on_ext (h : Frt L p) {k : Nat} {l : List (List Br)} (he : En p (k + 1) l) : on p k (ext p l) = on p (k + 1) l := by
  unfold on ext
  rw [flatMap_flatMap']
  apply flatMap_congr'
  intro w hw
  obtain ⟨w0, j, rfl, hj, _⟩ := he w hw
  rw [(last_snoc w0 _).1, dget_LD hj, flatMap_map']
  have ej : (nb (k + 1, j)).2.toNat = j := by simp [nb]
  show _ = (cw p (k + 1) (nb (k + 1, j)).2.toNat).map _
  rw [ej]
  show _ = ((und p (k + 1) j).flatMap fun x => (cw p k x.1.2.toNat).map (x.1 :: ·)).map _
  rw [map_flatMap']
  apply flatMap_congr'
  intro x _
  rw [(last_snoc _ x.1).1, List.map_map]
  apply List.map_congr_left
  intro y _
  simp
theorem filter_zero {l : List (List Br)} (he : En p 0 l) : ((l.filter fun w => decide ((ixG w (-1)).1 = 0)).map fun w => w) = l := by
  rw [List.map_id', List.filter_eq_self]
  intro w hw
  obtain ⟨w0, j, rfl, hj, _⟩ := he w hw
  rw [(last_snoc w0 _).1]; rfl
theorem filter_succ {k : Nat} {l : List (List Br)} (he : En p (k + 1) l) : ((l.filter fun w => decide ((ixG w (-1)).1 = 0)).map fun w => w) = [] := by
  rw [List.map_id', List.filter_eq_nil_iff]
  intro w hw
  obtain ⟨w0, j, rfl, hj, _⟩ := he w hw
  rw [(last_snoc w0 _).1]
  have : ¬ ((k + 1 : Nat) : Int) = 0 := by omega
  rw [decide_eq_true_eq]
  exact this
theorem ways_ok1 (h : Frt L p) {k : Nat} {l : List (List Br)} (he : En p k l) (hl : l.length ≤ 331776) : Ok_law_ways_1_s (LD p) ([], l) := by
  have hf : ((l.filter fun w => decide ((ixG w (-1)).1 = 0)).map fun w => w).length ≤ l.length := by rw [List.length_map]; exact List.length_filter_le _ _
  refine ⟨by show l.length ≤ _; omega, fun w hw => ?_, by show 0 + _ ≤ _; rw [Nat.zero_add]; exact Nat.le_trans hf (by omega), foldOk_pre _ _ fun pr x po e => ?_⟩
  · obtain ⟨w0, j, rfl, _, _⟩ := he w hw
    exact (last_snoc w0 _).2
  · have e : l = pr ++ x :: po := e
    obtain ⟨w0, j, ex, hj, hw0⟩ := he x (by rw [e]; simp)
    have hpr : En p k pr := fun w hw => he w (by rw [e]; exact List.mem_append_left _ hw)
    have hlp : pr.length ≤ l.length := by rw [e]; simp
    rw [ext_fold]
    have hx := ext_len h hpr
    have hu := und_len h (i := j) (mem_bks.mp hj).1
    have hd : dget (LD p) (nb (k, j)) = und p k j := dget_LD hj
    have hu : (und p k j).length ≤ 24 := hu
    unfold Ok_law_ways_2_s
    rw [ex, (last_snoc w0 _).1, hd, dlk_LD hj]
    refine ⟨(last_snoc w0 _).2, rfl, by omega, fun y _ => by simp; omega, ?_⟩
    rw [List.length_map]
    omega
theorem ways_go (h : Frt L p) : ∀ (k n : Nat) (l : List (List Br)), En p k l → l ≠ [] → l.length * 24 ^ k ≤ 331776 → k + 1 < n →
    (whl (F_law_ways_1_c (LD p)) (F_law_ways_1_s (LD p)) n ([], l)).1 = on p k l ∧ WhOk (F_law_ways_1_c (LD p)) (Okc_law_ways_1 (LD p)) (Ok_law_ways_1_s (LD p)) (F_law_ways_1_s (LD p)) n ([], l)
  | 0, n, l, he, hn, hl, hk => by
    obtain ⟨m, rfl⟩ : ∃ m, n = m + 2 := ⟨n - 2, by omega⟩
    have hc : F_law_ways_1_c (LD p) ([], l) = true := decide_eq_true hn
    have hs : F_law_ways_1_s (LD p) ([], l) = (l, []) := by
      show ([] ++ ((l.filter fun w => decide ((ixG w (-1)).1 = 0)).map fun w => w), l.foldl (F_law_ways_2_s (LD p)) []) = _
      rw [filter_zero he, ext_fold, ext_zero h he]; rfl
    have hc2 : F_law_ways_1_c (LD p) (l, []) = false := rfl
    refine ⟨by rw [whl_succ, hc, if_pos rfl, hs, whl_end hc2, on_zero], trivial, fun _ => ⟨ways_ok1 h he (by simpa using hl), ?_⟩⟩
    rw [hs]
    exact ⟨trivial, fun z => by rw [hc2] at z; cases z⟩
  | k + 1, n, l, he, hn, hl, hk => by
    obtain ⟨m, rfl⟩ : ∃ m, n = m + 1 := ⟨n - 1, by omega⟩
    have hc : F_law_ways_1_c (LD p) ([], l) = true := decide_eq_true hn
    have hs : F_law_ways_1_s (LD p) ([], l) = ([], ext p l) := by
      show ([] ++ ((l.filter fun w => decide ((ixG w (-1)).1 = 0)).map fun w => w), l.foldl (F_law_ways_2_s (LD p)) []) = _
      rw [filter_succ he, ext_fold]; rfl
    have hp : 0 < 24 ^ (k + 1) := Nat.pow_pos (by decide)
    have hx := ext_len h he
    have hl2 : (ext p l).length * 24 ^ k ≤ 331776 := by
      refine Nat.le_trans (Nat.mul_le_mul_right _ hx) ?_
      rw [Nat.mul_assoc, Nat.mul_comm 24, ← Nat.pow_succ]
      exact hl
    obtain ⟨g1, g2⟩ := ways_go h k m (ext p l) (ext_succ h he) (ext_ne h he hn) hl2 (by omega)
    refine ⟨by rw [whl_succ, hc, if_pos rfl, hs, g1, on_ext h he], trivial, fun _ => ⟨ways_ok1 h he (Nat.le_trans (Nat.le_mul_of_pos_right _ hp) hl), by rw [hs]; exact g2⟩⟩
def ways (p : List (List Sg)) (r i : Nat) : List (List Br) := (cw p r i).map (nb (r, i) :: ·)
theorem law_ways_eq (h : Frt L p) (h5 : p.length ≤ 5) {r i : Nat} (hb : (r, i) ∈ bks p) : F_law_ways (LD p) (nb (r, i)) = srtC (cT (cP2 cI cI)) (ways p r i) ∧ Ok_law_ways (LD p) (nb (r, i)) := by
  have hr : r < p.length := (mem_bks.mp hb).1
  have he : En p r [[nb (r, i)]] := fun w hw => ⟨[], i, by simpa using hw, hb, by simp; omega⟩
  have hp : 24 ^ r ≤ 24 ^ 4 := Nat.pow_le_pow_right (by decide) (by omega)
  obtain ⟨g1, g2⟩ := ways_go h r fuel [[nb (r, i)]] he (by simp) (by simp; omega) (by rw [fuel_eq]; omega)
  have e : on p r [[nb (r, i)]] = ways p r i := by
    unfold on ways
    have ej : (nb (r, i)).2.toNat = i := by simp [nb]
    rw [List.flatMap_cons, List.flatMap_nil, List.append_nil]
    show (cw p r (nb (r, i)).2.toNat).map _ = _
    rw [ej]; rfl
  rw [e] at g1
  refine ⟨?_, ?_⟩
  · unfold F_law_ways
    show srtC _ (whl _ _ fuel ([], [[nb (r, i)]])).1 = _
    rw [g1]
  · unfold Ok_law_ways
    refine ⟨g2, ?_⟩
    show ∀ x ∈ (whl _ _ fuel ([], [[nb (r, i)]])).1, x ≠ []
    rw [g1]
    intro x hx
    obtain ⟨y, _, rfl⟩ := List.mem_map.mp hx
    simp
theorem ways_first (h : Frt L p) {r i : Nat} (hb : (r, i) ∈ bks p) : ixG (srtC (cT (cP2 cI cI)) (ways p r i)) 0 = nb (r, i) :: fc p r i ∧ IxOk (srtC (cT (cP2 cI cI)) (ways p r i)) 0 := by
  have hm : nb (r, i) :: fc p r i ∈ ways p r i := List.mem_map.mpr ⟨_, fc_mem h r i hb, rfl⟩
  have hn := List.ne_nil_of_mem hm
  refine ⟨?_, ixOk_natD (i := 0) ?_⟩
  · rw [srtC_head (akT (akP2 akI akI)) hn]
    refine minC_eq (akT (akP2 akI akI)) hm fun y hy => ?_
    obtain ⟨y', hy', rfl⟩ := List.mem_map.mp hy
    rw [ltC_cons (akP2 akI akI), if_pos rfl]
    exact fc_least h r i hb y' hy'
  · rw [srtC_len]
    exact List.length_pos_iff.mpr hn
/-! ### how many ways -/
def cnt (p : List (List Sg)) (r i : Nat) : Int := ((cw p r i).length : Int)
theorem flat_len_sum {α β : Type} (f : α → List β) : ∀ xs : List α, ((xs.flatMap f).length : Int) = (xs.map fun x => ((f x).length : Int)).sum
  | [] => rfl
  | x :: xs => by
    rw [List.flatMap_cons, List.length_append, List.map_cons, List.sum_cons, ← flat_len_sum f xs]; omega
theorem cnt_succ (k i : Nat) : cnt p (k + 1) i = ((und p (k + 1) i).map fun x => cnt p k x.1.2.toNat).sum := by
  unfold cnt
  show (((und p (k + 1) i).flatMap fun x => (cw p k x.1.2.toNat).map (x.1 :: ·)).length : Int) = _
  rw [flat_len_sum]
  simp only [List.length_map]
theorem bks_rows : (bks p).Pairwise fun a b => a.1 ≤ b.1 := by
  unfold bks
  rw [List.pairwise_flatMap]
  refine ⟨fun r _ => ?_, ?_⟩
  · rw [List.pairwise_map]
    exact List.pairwise_lt_range.imp fun _ => Nat.le_refl _
  · refine List.pairwise_lt_range.imp fun {a b} hab x hx y hy => ?_
    obtain ⟨_, _, rfl⟩ := List.mem_map.mp hx
    obtain ⟨_, _, rfl⟩ := List.mem_map.mp hy
    exact Nat.le_of_lt hab
theorem below_before {a c : List (Nat × Nat)} {k i j : Nat} (e : bks p = a ++ (k + 1, i) :: c) (hj : (k, j) ∈ bks p) : (k, j) ∈ a := by
  have hp := bks_rows (p := p)
  rw [e] at hj hp
  rcases List.mem_append.mp hj with h | h
  · exact h
  · rcases List.mem_cons.mp h with h | h
    · have := (Prod.mk.inj h).1; omega
    · have := (List.pairwise_cons.mp (List.pairwise_append.mp hp).2.1).1 _ h
      have : k + 1 ≤ k := this
      omega
theorem ways_step (h : Frt L p) {a c : List (Nat × Nat)} {b : Nat × Nat} (e : bks p = a ++ b :: c) : (if (decide ((0 : Int) < (nb b).1)) = true then ((dget (LD p) (nb b)).map fun x => dget (a.map fun b => (nb b, cnt p b.1 b.2)) x.1).sum else 1) = cnt p b.1 b.2 ∧ ∀ x ∈ dget (LD p) (nb b), (0 : Int) < (nb b).1 → (dlk (a.map fun b => (nb b, cnt p b.1 b.2)) x.1).isSome = true := by
  have hb : b ∈ bks p := by rw [e]; simp
  obtain ⟨r, i⟩ := b
  rw [dget_LD hb]
  cases r with
  | zero => exact ⟨rfl, fun x _ z => absurd z (by simp [nb])⟩
  | succ k =>
    have e2 : decide ((0 : Int) < (nb (k + 1, i)).1) = true := decide_eq_true (by show (0 : Int) < ((k + 1 : Nat) : Int); omega)
    have key : ∀ x ∈ und p (k + 1) i, dlk (a.map fun b => (nb b, cnt p b.1 b.2)) x.1 = some (cnt p k x.1.2.toNat) := fun x hx => by
      obtain ⟨j, e1, hj⟩ := und_mem h (mem_bks.mp hb).1 hx
      have ha := below_before e hj
      have := dlk_map (k := nb) (v := fun b => cnt p b.1 b.2) nb_inj ha
      rw [e1]
      have ej : (nb (k, j)).2.toNat = j := by simp [nb]
      rw [ej]
      exact this
    refine ⟨?_, fun x hx _ => by rw [key x hx]; rfl⟩
    rw [if_pos e2]
    show _ = cnt p (k + 1) i
    rw [cnt_succ]
    congr 1
    apply List.map_congr_left
    intro x hx
    unfold dget
    rw [key x hx]; rfl
theorem ways_fold' (h : Frt L p) : ∀ (a a0 c : List (Nat × Nat)), bks p = a0 ++ (a ++ c) → (a.map nb).foldl (F_ways_down_1_s (LD p)) (a0.map fun b => (nb b, cnt p b.1 b.2)) = (a0 ++ a).map fun b => (nb b, cnt p b.1 b.2)
  | [], a0, c, _ => by simp
  | b :: a, a0, c, e => by
    rw [List.map_cons, List.foldl_cons]
    have es : F_ways_down_1_s (LD p) (a0.map fun b => (nb b, cnt p b.1 b.2)) (nb b) = (a0 ++ [b]).map fun b => (nb b, cnt p b.1 b.2) := by
      show dput (a0.map fun b => (nb b, cnt p b.1 b.2)) (nb b) _ = _
      rw [(ways_step h e).1, keys_put_new, List.map_append]; rfl
      have hn := nb_nodup (p := p)
      rw [e, List.map_append, List.nodup_append] at hn
      intro hm
      rw [List.map_map] at hm
      exact hn.2.2 _ hm _ (List.mem_map.mpr ⟨b, by simp, rfl⟩) rfl
    rw [es, ways_fold' h a (a0 ++ [b]) c (by rw [e]; simp)]
    simp
theorem ways_fold (h : Frt L p) (a c : List (Nat × Nat)) (e : bks p = a ++ c) : (a.map nb).foldl (F_ways_down_1_s (LD p)) [] = a.map fun b => (nb b, cnt p b.1 b.2) := ways_fold' h a [] c e
theorem ways_down_eq (h : Frt L p) {r i : Nat} (hb : (r, i) ∈ bks p) : F_ways_down p (nb (r, i)) = cnt p r i ∧ Ok_ways_down p (nb (r, i)) := by
  have hf := ways_fold h (bks p) [] (by simp)
  have hd : dlk ((bks p).map fun b => (nb b, cnt p b.1 b.2)) (nb (r, i)) = some (cnt p r i) := dlk_map (k := nb) (v := fun b => cnt p b.1 b.2) nb_inj hb
  have hl := bks_len h
  refine ⟨?_, ?_⟩
  · unfold F_ways_down
    rw [laid_in_eq h, bricks_in_eq]
    show dget ((((bks p).map nb)).foldl (F_ways_down_1_s (LD p)) []) _ = _
    rw [hf]
    unfold dget
    rw [hd]; rfl
  · unfold Ok_ways_down
    rw [laid_in_eq h, bricks_in_eq]
    refine ⟨need_brick_ok h hb, ok_laid_in h, ok_bricks_in h, foldOk_pre _ _ fun pr x po e => ?_, ?_⟩
    · obtain ⟨a, b, c, e1, rfl, rfl, rfl⟩ := split_map e
      rw [ways_fold h a _ e1]
      have hb' : b ∈ bks p := by rw [e1]; simp
      have hla : a.length ≤ 576 := by
        have := congrArg List.length e1
        simp at this; omega
      refine ⟨fun hz => ⟨by rw [dlk_LD hb']; rfl, ?_, fun y hy => (ways_step h e1).2 y hy (by simpa using hz)⟩, by rw [List.length_map]; omega⟩
      rw [dget_LD hb']
      have := und_len h (i := b.2) (mem_bks.mp hb').1
      omega
    · show (dlk ((((bks p).map nb)).foldl (F_ways_down_1_s (LD p)) []) _).isSome = true
      rw [hf, hd]; rfl
end
end Pu
end

noncomputable section
set_option Elab.async false
set_option linter.all false
set_option maxRecDepth 100000
set_option maxHeartbeats 2000000
/-! M84: the law. -/
namespace Pu
open PySem PySem.Spec L2
section
variable {L : Int} {p : List (List Sg)}
theorem fc_len : ∀ (r i : Nat), (fc p r i).length = r
  | 0, _ => rfl
  | k + 1, i => by simp [fc, fc_len k]
theorem ok_lies (h : Frt L p) {r i : Nat} (hb : (r, i) ∈ bks p) : Ok_lies_on p (nb (r, i)) ∧ F_lies_on p (nb (r, i)) = und p r i ∧ (F_lies_on p (nb (r, i))).length ≤ 24 := by
  have e : F_lies_on p (nb (r, i)) = und p r i := by
    unfold F_lies_on
    exact und_eq h hb
  have hu := und_len h (i := i) (mem_bks.mp hb).1
  refine ⟨?_, e, by rw [e]; exact hu⟩
  unfold Ok_lies_on
  refine ⟨need_brick_ok h hb, ok_over_in h hb, ?_⟩
  have e2 := und_eq h hb
  rw [← e2, List.length_map] at hu
  exact Nat.le_trans hu (by decide)
/-- each step goes to a brick on which the last one lies -/
theorem fc_steps (h : Frt L p) : ∀ (r i : Nat), (r, i) ∈ bks p → ∀ t, t < r → ∃ k j j', (nb (r, i) :: fc p r i)[t]? = some (nb (k + 1, j)) ∧ (nb (r, i) :: fc p r i)[t + 1]? = some (nb (k, j')) ∧ (k + 1, j) ∈ bks p ∧ nb (k, j') ∈ (und p (k + 1) j).map Prod.fst
  | 0, _, _, t, ht => absurd ht (Nat.not_lt_zero _)
  | k + 1, i, hb, 0, _ => by
    obtain ⟨m, r, e, hj, _⟩ := und_cons h hb
    exact ⟨k, i, nx p (k + 1) i, rfl, rfl, hb, by rw [e]; simp⟩
  | k + 1, i, hb, t + 1, ht => by
    obtain ⟨m, r, e, hj, _⟩ := und_cons h hb
    obtain ⟨k', j, j', h1, h2, h3, h4⟩ := fc_steps h k (nx p (k + 1) i) hj t (by omega)
    exact ⟨k', j, j', h1, h2, h3, h4⟩
theorem ix_of {α : Type} [Inhabited α] {xs : List α} {t : Nat} {a : α} (h : xs[t]? = some a) : ixG xs (t : Int) = a ∧ IxOk xs (t : Int) := by
  obtain ⟨h1, h2⟩ := List.getElem?_eq_some_iff.mp h
  exact ⟨by rw [ixG_natD h1, h2], ixOk_natD h1⟩
theorem steps_ok (h : Frt L p) {r i : Nat} (hb : (r, i) ∈ bks p) {x : Int} (hx : x ∈ irange 0 (r : Int)) : IxOk (nb (r, i) :: fc p r i) (x + 1) ∧ IxOk (nb (r, i) :: fc p r i) x ∧ Ok_lies_on p (ixG (nb (r, i) :: fc p r i) x) ∧ (F_lies_on p (ixG (nb (r, i) :: fc p r i) x)).length ≤ 16777216 ∧ (!inB (ixG (nb (r, i) :: fc p r i) (x + 1)) ((F_lies_on p (ixG (nb (r, i) :: fc p r i) x)).map fun x_1 => x_1.1)) = false := by
  obtain ⟨h0, h1⟩ := mem_irange.mp hx
  obtain ⟨t, rfl⟩ : ∃ t : Nat, x = t := ⟨x.toNat, by omega⟩
  obtain ⟨k, j, j', e1, e2, e3, e4⟩ := fc_steps h r i hb t (by omega)
  obtain ⟨a1, a2⟩ := ix_of e1
  obtain ⟨b1, b2⟩ := ix_of e2
  have ec : ((t + 1 : Nat) : Int) = (t : Int) + 1 := by omega
  rw [ec] at b1 b2
  rw [a1, b1]
  obtain ⟨o1, o2, o3⟩ := ok_lies h e3
  refine ⟨b2, a2, o1, by omega, ?_⟩
  rw [o2]
  have : inB (nb (k, j')) ((und p (k + 1) j).map fun x_1 => x_1.1) = true := inB_iff.mpr e4
  rw [this]; rfl
end
theorem right_ok {Q : Bool → Prop} (hQ : Q true) : W_law_right Q := by
  unfold W_law_right
  refine front_of (by decide) (by decide) (by decide) (by decide) fun L p h hL h5 => ⟨ok_law_laid h, ?_⟩
  show F_law_laid p ≠ [] ∧ _
  rw [law_laid_eq h]
  have hk : (LD p).map Prod.fst = (bks p).map nb := keys_LD
  refine ⟨LD_ne h, wsome_of ?_ ?_ fun b hb => ?_⟩
  · intro e
    have hl := srtC_len (cP2 cI cI) ((LD p).map Prod.fst)
    rw [e] at hl
    rw [List.length_map] at hl
    exact LD_ne h (List.eq_nil_of_length_eq_zero hl.symm)
  · rw [srtC_len, hk, List.length_map]
    have := bks_len h
    omega
  · rw [mem_srtC, hk] at hb
    obtain ⟨⟨r, i⟩, hb', e⟩ := List.mem_map.mp hb
    subst e
    have hb := hb'
    have hr := (mem_bks.mp hb).1
    have hr : r < p.length := hr
    obtain ⟨w1, w2⟩ := law_ways_eq h (by omega) hb
    obtain ⟨d1, d2⟩ := ways_down_eq h hb
    obtain ⟨f1, f2⟩ := first_way_eq h hb
    obtain ⟨s1, s2⟩ := ways_first h hb
    have hlen : (nb (r, i) :: fc p r i).length = r + 1 := by simp [fc_len]
    refine ⟨w2, ?_⟩
    simp only [w1, d1, f1, s1]
    have el : ((nb (r, i) :: fc p r i).length : Int) - 1 = (r : Int) := by rw [hlen]; omega
    refine ⟨⟨d2, f2, s2, ?_, smp_of (smp_P2 rfl (smp_T (by rw [hlen]; omega) fun x _ => rfl))⟩, f2, ⟨⟨by rw [el]; omega, by rw [el, irange_len]; omega, fun x hx => ?_⟩, ?_⟩⟩
    · rw [srtC_len]
      unfold ways cnt
      rw [List.length_map]
    · rw [el] at hx
      obtain ⟨a1, a2, a3, a4, _⟩ := steps_ok h hb hx
      exact ⟨a1, a2, a3, a4⟩
    · have : (((irange 0 (((nb (r, i) :: fc p r i).length : Int) - 1)).filter fun (at_1 : Int) => (!inB (ixG (nb (r, i) :: fc p r i) (at_1 + 1)) ((F_lies_on p (ixG (nb (r, i) :: fc p r i) at_1)).map fun x_1 => x_1.1))).map fun (at_1 : Int) => at_1) = ([] : List Int) := by
        rw [List.map_id', List.filter_eq_nil_iff, el]
        intro x hx
        rw [(steps_ok h hb hx).2.2.2.2]
        simp
      rw [this]
      exact hQ
/-! ### stretcher bond -/
def bond (k : Nat) : List (List Sg) := (irange 0 (1 + (k : Int))).map fun (at_1 : Int) => (if (decide (((at_1 / 2) * 2) = at_1)) = true then (rep [Sg.s] 11) else (([Sg.h] ++ (rep [Sg.s] 10)) ++ [Sg.h]))
theorem bond_len (k : Nat) : (bond k).length = k + 1 := by unfold bond; rw [List.length_map, irange_len]; omega
theorem bond_frt (k : Nat) (hk : k < 9) : Frt 44 (bond k) := by
  have key : ∀ r ∈ bond k, sz r = 44 ∧ r.length ≤ 24 := fun r hr => by
    obtain ⟨x, _, rfl⟩ := List.mem_map.mp hr
    show sz (if _ then _ else _) = 44 ∧ (if _ then _ else _ : List Sg).length ≤ 24
    split <;> decide
  exact ⟨by decide, by decide, by rw [bond_len]; omega, by rw [bond_len]; omega, fun r hr => (key r hr).1, fun r hr => (key r hr).2⟩
theorem bond_cnt : ∀ k : Fin 9, cnt (bond k.val) k.val 5 = 2 ^ k.val := by decide +kernel
theorem bond_mem : ∀ k : Fin 9, (k.val, 5) ∈ bks (bond k.val) := by decide +kernel
theorem pow_fold (k : Nat) : (irange 0 ((1 + (k : Int)) - 1)).foldl F_law_1_s 1 = 2 ^ k := by
  have e : (1 + (k : Int)) - 1 = (k : Int) := by omega
  rw [e, irange0, List.foldl_map]
  induction k with
  | zero => rfl
  | succ k ih =>
    rw [List.range_succ, List.foldl_append, ih (by omega)]
    show 2 * (2 : Int) ^ k = 2 ^ (k + 1)
    rw [Int.pow_succ, Int.mul_comm]
theorem the_P : P_law := by
  unfold P_law
  refine ⟨fun x _ => right_ok ⟨rfl, trivial⟩, wroll_of (by decide) (by decide) fun v v0 v1 => ?_⟩
  obtain ⟨k, rfl⟩ : ∃ k : Nat, v = k := ⟨v.toNat, by omega⟩
  have hk : k < 9 := by omega
  have h := bond_frt k hk
  have hb : (k, 5) ∈ bks (bond k) := bond_mem ⟨k, hk⟩
  have hc : cnt (bond k) k 5 = 2 ^ k := bond_cnt ⟨k, hk⟩
  obtain ⟨d1, d2⟩ := ways_down_eq h hb
  obtain ⟨f1, f2⟩ := first_way_eq h hb
  have en : ((1 + (k : Int)) - 1, (5 : Int)) = nb (k, 5) := by
    have e : (1 + (k : Int)) - 1 = (k : Int) := by omega
    rw [e]; rfl
  refine ⟨⟨by omega, by rw [irange_len]; omega, fun x _ => ⟨fun _ => by decide, fun _ => by decide⟩⟩, ⟨by omega, foldOk_pre _ _ fun _ _ _ _ => trivial⟩, ⟨?_, rfl⟩⟩
  show Ok_ways_down (bond k) ((1 + (k : Int)) - 1, 5) ∧ Ok_first_way (bond k) ((1 + (k : Int)) - 1, 5) ∧ (F_ways_down (bond k) ((1 + (k : Int)) - 1, 5), ((F_first_way (bond k) ((1 + (k : Int)) - 1, 5)).length : Int)) = ((irange 0 ((1 + (k : Int)) - 1)).foldl F_law_1_s 1, 1 + (k : Int)) ∧ Smp (cP2 cI cI) (F_ways_down (bond k) ((1 + (k : Int)) - 1, 5), ((F_first_way (bond k) ((1 + (k : Int)) - 1, 5)).length : Int))
  rw [pow_fold, en, d1, f1, hc]
  refine ⟨d2, f2, ?_, smp_of (smp_P2 rfl rfl)⟩
  rw [List.length_cons, fc_len]
  have : ((k + 1 : Nat) : Int) = 1 + (k : Int) := by omega
  rw [this]
theorem the_law (ns : List Int) (h : ns.length ≤ 63) : ∃ a b c, phi_law_cup ns = .ok (.list [.int a, .int b]) ∧ b_law ⟨(a, b), .no :: .cup :: List.replicate 6 .no⟩ = .ret (.bool true) c := by
  obtain ⟨a, b, e, hc⟩ := cup_ok ns h
  obtain ⟨c, e2⟩ := law_ok the_P hc
  exact ⟨a, b, c, e, e2⟩
end Pu
end

section
open PySem PySem.Spec L2
namespace Pu
theorem at_mk {K : PySem.W.Frag} {h : Heap} {mg : Str → Option Value} (X : K.In h) (G : h.Ns mainGlobals mg) {x : Str} {st : Stmt} {f : Addr} {oc kV dc pm cd ct : Value} {od an : Option Addr} {sl : Array (Option Value)}
    (a : PySem.W.nsIn K mainGlobals x = some (some (.ref f))) (l : K.lookup f = some ⟨oc, od, .func (PySem.W.fnOf x x (defArgs st) (defBody st) (defScope st) .none kV dc pm an cd ct), sl⟩) (c : PySem.W.codeIn K cd x = true) (k : PySem.W.keepIn K (.ref f) = true) : At K mg x st :=
  ⟨f, _, fun_mk (st := st) l c k, PySem.W.mg_of X G a⟩
theorem g_mk {K : PySem.W.Frag} {h : Heap} {mg : Str → Option Value} (X : K.In h) (G : h.Ns mainGlobals mg) {x : Str} {v : Value} {i : Int} (a : PySem.W.nsIn K mainGlobals x = some (some v)) (e : ∃ t, v = .int i t) : ∃ t, mg x = some (.int i t) := by
  obtain ⟨t, rfl⟩ := e
  exact ⟨t, PySem.W.mg_of X G a⟩
theorem w_mk4 {K : PySem.W.Frag} {w : World} {h : Heap} {mg : Str → Option Value} (X : K.In h) (G : h.Ns mainGlobals mg) {x : Str} {p : Addr} {es : Array DictEntry} {n : Nat} {y1 y2 y3 y4 : Str} {i1 i2 i3 i4 : Int} {v1 v2 v3 v4 : Value}
    (a : PySem.W.nsIn K mainGlobals x = some (some (.ref p))) (l : K.lookup p = some ⟨.type "dict", none, .dict es n, #[]⟩) (k : PySem.W.KeysLit w.params es.toList) (lo : (p == sysModules) = false)
    (a1 : PySem.W.nsIn K p y1 = some (some v1)) (a2 : PySem.W.nsIn K p y2 = some (some v2)) (a3 : PySem.W.nsIn K p y3 = some (some v3)) (a4 : PySem.W.nsIn K p y4 = some (some v4))
    (e1 : ∃ t, v1 = .int i1 t) (e2 : ∃ t, v2 = .int i2 t) (e3 : ∃ t, v3 = .int i3 t) (e4 : ∃ t, v4 = .int i4 t)
    (ky : ∃ t1 t2 t3 t4, es.toList.map (fun e => e.key) = [.str y1 t1, .str y2 t2, .str y3 t3, .str y4 t4]) : WD K w mg x [(y1, i1), (y2, i2), (y3, i3), (y4, i4)] := by
  refine ⟨p, es, n, PySem.W.mg_of X G a, ⟨l, k, lo⟩, fun z i e => ?_, fun z e => ?_⟩
  rotate_left
  · obtain ⟨t1, t2, t3, t4, ky⟩ := ky
    have q1 : (y1 == z) = false := by cases q : z == y1 with
      | true => rw [List.lookup_cons, q] at e; cases e
      | false => exact (by simpa using q : ¬ z = y1) |> fun h => by simpa using fun h2 => h h2.symm
    have q2 : (y2 == z) = false := by cases q : z == y2 with
      | true => cases q0 : z == y1 <;> simp [List.lookup_cons, q0, q] at e
      | false => exact (by simpa using q : ¬ z = y2) |> fun h => by simpa using fun h2 => h h2.symm
    have q3 : (y3 == z) = false := by cases q : z == y3 with
      | true => cases q0 : z == y1 <;> cases q00 : z == y2 <;> simp [List.lookup_cons, q0, q00, q] at e
      | false => exact (by simpa using q : ¬ z = y3) |> fun h => by simpa using fun h2 => h h2.symm
    have q4 : (y4 == z) = false := by cases q : z == y4 with
      | true => cases q0 : z == y1 <;> cases q00 : z == y2 <;> cases q000 : z == y3 <;> simp [List.lookup_cons, q0, q00, q000, q] at e
      | false => exact (by simpa using q : ¬ z = y4) |> fun h => by simpa using fun h2 => h h2.symm
    have f1 : es.toList.find? (·.key.isStr z) = none := by
      have : (es.toList.map fun e => e.key).find? (fun v => v.isStr z) = none := by
        rw [ky]; simp [List.find?_cons, Value.isStr, q1, q2, q3, q4]
      rw [List.find?_map] at this
      simpa [Function.comp_def] using this
    have f2 : es.toList.any (·.refKey) = false := by
      have : (es.toList.map fun e => e.key).any (fun v => match v with | .ref _ => true | _ => false) = false := by
        rw [ky]; rfl
      rw [List.any_map] at this
      exact this
    unfold PySem.W.nsIn
    rw [l]
    simp only [f1, f2, Bool.false_eq_true, if_false]
  obtain ⟨t1, rfl⟩ := e1
  obtain ⟨t2, rfl⟩ := e2
  obtain ⟨t3, rfl⟩ := e3
  obtain ⟨t4, rfl⟩ := e4
  have go : ∀ {y : Str} {j : Int} {t : Tok} {L : List (Str × Int)}, PySem.W.nsIn K p y = some (some (.int j t)) → (L.lookup z = some i → ∃ t, PySem.W.nsIn K p z = some (some (.int i t))) → ((y, j) :: L).lookup z = some i → ∃ t, PySem.W.nsIn K p z = some (some (.int i t)) := fun {y j t L} hy hr e => by
    rw [List.lookup_cons] at e
    cases q : z == y with
    | true =>
      have q : z = y := by simpa using q
      subst q
      simp at e
      subst e
      exact ⟨t, hy⟩
    | false =>
      rw [q] at e
      exact hr e
  exact go a1 (go a2 (go a3 (go a4 (fun e => by cases e)))) e
theorem gs_mk {K : PySem.W.Frag} {h : Heap} {mg : Str → Option Value} (X : K.In h) (G : h.Ns mainGlobals mg) {x : Str} {v : Value} {i : Str} (a : PySem.W.nsIn K mainGlobals x = some (some v)) (e : ∃ t, v = .str i t) : ∃ t, mg x = some (.str i t) := by
  obtain ⟨t, rfl⟩ := e
  exact ⟨t, PySem.W.mg_of X G a⟩
theorem end_mk {P : Program} {w : World} {K : PySem.W.Frag} {h : Heap} {mg : Str → Option Value} {fa f2 : Addr} (X : K.In h) (G : h.Ns mainGlobals mg) (hfa : mg "law" = some (.ref fa)) (T : Tx K w mg)
    {od2 an2 : Option Addr} {sl2 : Array (Option Value)} {oc2 kV2 dc2 pm2 cd2 ct2 : Value}
    (a2 : PySem.W.nsIn K mainGlobals "law" = some (some (.ref f2))) (l2 : K.lookup f2 = some ⟨oc2, od2, .func (PySem.W.fnOf "law" "law" (defArgs s_law) (defBody s_law) (defScope s_law) .none kV2 dc2 pm2 an2 cd2 ct2), sl2⟩) (c2 : PySem.W.codeIn K cd2 "law" = true) (k2 : PySem.W.keepIn K (.ref f2) = true) :
    ∃ fd : FuncData, (∀ (s : Shared) (v : Value), BindsTo s fd ⟨[v], []⟩ [("script", v)]) ∧ ∀ base : Heap, K.In base → base.Ns mainGlobals mg → FnOk P w K mg base (L2.CX P w) 11 fa fd ["script"] (spLaw K) := by
  have e := hfa.symm.trans (PySem.W.mg_of X G a2)
  cases e
  have F2 := fun_mk (st := s_law) l2 c2 k2
  exact ⟨PySem.W.fnOf "law" "law" (defArgs s_law) (defBody s_law) (defScope s_law) .none kV2 dc2 pm2 an2 cd2 ct2, fun s v => .of_eq rfl, fun base _ _ => ok_law F2 T the_law⟩
end Pu
end
open PySem PySem.W PyProof.Rows
set_option maxHeartbeats 0 in
theorem PySem.Challenge.cw_brickbonds_k84_whole_ways_down_holds : PySem.Challenge.rw_brickbonds_k84_whole_ways_down.Holds := by
  w_on; o_law; k_head; (case hw => w_witness2)
  k_fill
  refine L2.walk_of (l := PySem.Challenge.rw_brickbonds_k84_whole_ways_down) (n := 63) (k := 11) (x := "script") (CX := fun w => L2.CX PySem.Challenge.rw_brickbonds_k84_whole_ways_down.prog w) (sp := fun w => Pu.spLaw _) rfl (by decide) rfl ⟨rfl, by decide, by decide⟩ (fun w h Y => PySem.W.kIn_of Y) ?F (fun _ _ a ns hl _ hS => ⟨a, ns, rfl, hS, hl, fun _ => rfl⟩) (fun _ _ _ _ _ ⟨_, _, _, _, _, _, _, _, _, _, _, _, h⟩ => h)
  case F =>
    intro w mg fa h KX G hmg
    refine' Pu.end_mk KX G hmg ⟨Pu.at_mk KX G ?a1 ?l1 ?c1 ?k1, Pu.at_mk KX G ?a2 ?l2 ?c2 ?k2, Pu.at_mk KX G ?a3 ?l3 ?c3 ?k3, Pu.at_mk KX G ?a4 ?l4 ?c4 ?k4, Pu.at_mk KX G ?a5 ?l5 ?c5 ?k5, Pu.at_mk KX G ?a6 ?l6 ?c6 ?k6, Pu.at_mk KX G ?a7 ?l7 ?c7 ?k7, Pu.at_mk KX G ?a8 ?l8 ?c8 ?k8, Pu.at_mk KX G ?a9 ?l9 ?c9 ?k9, Pu.at_mk KX G ?a10 ?l10 ?c10 ?k10, Pu.at_mk KX G ?a11 ?l11 ?c11 ?k11, Pu.at_mk KX G ?a12 ?l12 ?c12 ?k12, Pu.at_mk KX G ?a13 ?l13 ?c13 ?k13, Pu.at_mk KX G ?a14 ?l14 ?c14 ?k14, Pu.at_mk KX G ?a15 ?l15 ?c15 ?k15, Pu.at_mk KX G ?a16 ?l16 ?c16 ?k16, Pu.at_mk KX G ?a17 ?l17 ?c17 ?k17, Pu.at_mk KX G ?a18 ?l18 ?c18 ?k18, Pu.at_mk KX G ?a19 ?l19 ?c19 ?k19, Pu.at_mk KX G ?a20 ?l20 ?c20 ?k20, Pu.at_mk KX G ?a21 ?l21 ?c21 ?k21, Pu.at_mk KX G ?a22 ?l22 ?c22 ?k22, Pu.at_mk KX G ?a23 ?l23 ?c23 ?k23, Pu.at_mk KX G ?a24 ?l24 ?c24 ?k24, Pu.at_mk KX G ?a25 ?l25 ?c25 ?k25, Pu.at_mk KX G ?a26 ?l26 ?c26 ?k26, Pu.at_mk KX G ?a27 ?l27 ?c27 ?k27, Pu.at_mk KX G ?a28 ?l28 ?c28 ?k28, PySem.W.mg_none_of KX G ?z29, PySem.W.mg_none_of KX G ?z30, PySem.W.mg_none_of KX G ?z31, PySem.W.mg_none_of KX G ?z32, PySem.W.mg_none_of KX G ?z33, PySem.W.mg_none_of KX G ?z34, PySem.W.mg_none_of KX G ?z35, PySem.W.mg_none_of KX G ?z36, PySem.W.mg_none_of KX G ?z37, PySem.W.mg_none_of KX G ?z38, PySem.W.mg_none_of KX G ?z39, PySem.W.mg_none_of KX G ?z40, PySem.W.mg_none_of KX G ?z41, PySem.W.mg_none_of KX G ?z42, PySem.W.mg_none_of KX G ?z43, PySem.W.mg_none_of KX G ?z44, Pu.g_mk KX G ?z45 ?e45, Pu.g_mk KX G ?z46 ?e46, Pu.g_mk KX G ?z47 ?e47, Pu.w_mk4 KX G ?z48 ?l48 ?kl48 ?lo48 ?z48_0 ?z48_1 ?z48_2 ?z48_3 ?e48_0 ?e48_1 ?e48_2 ?e48_3 ?ky48⟩ ?a0 ?l0 ?c0 ?k0
    (case a1 => k_is)
    (case l1 => k_is)
    (case c1 => k_is)
    (case k1 => k_is)
    (case a2 => k_is)
    (case l2 => k_is)
    (case c2 => k_is)
    (case k2 => k_is)
    (case a3 => k_is)
    (case l3 => k_is)
    (case c3 => k_is)
    (case k3 => k_is)
    (case a4 => k_is)
    (case l4 => k_is)
    (case c4 => k_is)
    (case k4 => k_is)
    (case a5 => k_is)
    (case l5 => k_is)
    (case c5 => k_is)
    (case k5 => k_is)
    (case a6 => k_is)
    (case l6 => k_is)
    (case c6 => k_is)
    (case k6 => k_is)
    (case a7 => k_is)
    (case l7 => k_is)
    (case c7 => k_is)
    (case k7 => k_is)
    (case a8 => k_is)
    (case l8 => k_is)
    (case c8 => k_is)
    (case k8 => k_is)
    (case a9 => k_is)
    (case l9 => k_is)
    (case c9 => k_is)
    (case k9 => k_is)
    (case a10 => k_is)
    (case l10 => k_is)
    (case c10 => k_is)
    (case k10 => k_is)
    (case a11 => k_is)
    (case l11 => k_is)
    (case c11 => k_is)
    (case k11 => k_is)
    (case a12 => k_is)
    (case l12 => k_is)
    (case c12 => k_is)
    (case k12 => k_is)
    (case a13 => k_is)
    (case l13 => k_is)
    (case c13 => k_is)
    (case k13 => k_is)
    (case a14 => k_is)
    (case l14 => k_is)
    (case c14 => k_is)
    (case k14 => k_is)
    (case a15 => k_is)
    (case l15 => k_is)
    (case c15 => k_is)
    (case k15 => k_is)
    (case a16 => k_is)
    (case l16 => k_is)
    (case c16 => k_is)
    (case k16 => k_is)
    (case a17 => k_is)
    (case l17 => k_is)
    (case c17 => k_is)
    (case k17 => k_is)
    (case a18 => k_is)
    (case l18 => k_is)
    (case c18 => k_is)
    (case k18 => k_is)
    (case a19 => k_is)
    (case l19 => k_is)
    (case c19 => k_is)
    (case k19 => k_is)
    (case a20 => k_is)
    (case l20 => k_is)
    (case c20 => k_is)
    (case k20 => k_is)
    (case a21 => k_is)
    (case l21 => k_is)
    (case c21 => k_is)
    (case k21 => k_is)
    (case a22 => k_is)
    (case l22 => k_is)
    (case c22 => k_is)
    (case k22 => k_is)
    (case a23 => k_is)
    (case l23 => k_is)
    (case c23 => k_is)
    (case k23 => k_is)
    (case a24 => k_is)
    (case l24 => k_is)
    (case c24 => k_is)
    (case k24 => k_is)
    (case a25 => k_is)
    (case l25 => k_is)
    (case c25 => k_is)
    (case k25 => k_is)
    (case a26 => k_is)
    (case l26 => k_is)
    (case c26 => k_is)
    (case k26 => k_is)
    (case a27 => k_is)
    (case l27 => k_is)
    (case c27 => k_is)
    (case k27 => k_is)
    (case a28 => k_is)
    (case l28 => k_is)
    (case c28 => k_is)
    (case k28 => k_is)
    (case z29 => k_is)
    (case z30 => k_is)
    (case z31 => k_is)
    (case z32 => k_is)
    (case z33 => k_is)
    (case z34 => k_is)
    (case z35 => k_is)
    (case z36 => k_is)
    (case z37 => k_is)
    (case z38 => k_is)
    (case z39 => k_is)
    (case z40 => k_is)
    (case z41 => k_is)
    (case z42 => k_is)
    (case z43 => k_is)
    (case z44 => k_is)
    (case z45 => k_is)
    (case e45 => exact ⟨_, rfl⟩)
    (case z46 => k_is)
    (case e46 => exact ⟨_, rfl⟩)
    (case z47 => k_is)
    (case e47 => exact ⟨_, rfl⟩)
    (case z48 => k_is)
    (case l48 => k_is)
    (case z48_0 => k_is)
    (case z48_1 => k_is)
    (case z48_2 => k_is)
    (case z48_3 => k_is)
    (case e48_0 => exact ⟨_, rfl⟩)
    (case e48_1 => exact ⟨_, rfl⟩)
    (case e48_2 => exact ⟨_, rfl⟩)
    (case e48_3 => exact ⟨_, rfl⟩)
    (case kl48 => exact ⟨⟨_, _, rfl, rfl⟩, ⟨_, _, rfl, rfl⟩, ⟨_, _, rfl, rfl⟩, ⟨_, _, rfl, rfl⟩, trivial⟩)
    (case lo48 => rfl)
    (case ky48 => exact ⟨_, _, _, _, rfl⟩)
    (case a0 => k_is)
    (case l0 => k_is)
    (case c0 => k_is)
    (case k0 => k_is)
