import PyProof.Rows.All
import Wide.All
import OpenK.AllK
import Wide.FinOn
import HandS.ForMost
import HandS.ForExc
import PyProof.StrOps2
import HandS.TupAny
import HandS.TupLe
import HandS.RaiseMore
import HandS.IsInst
import HandS.Style
import HandS.Text
import HandS.Dict
import HandS.More
import HandS.Comp
import HandS.Zip
import HandS.Deep
import KE.SortData
import HandS.Codes
import PySem.Challenge.RW_brickbonds_k90_whole_ends_that_meet
noncomputable section
set_option Elab.async false
set_option linter.all false
set_option maxRecDepth 100000
set_option maxHeartbeats 4000000
/-! Pu: the pure meaning of expressions and statements, over the hand layer. -/
namespace Pu
open PySem PySem.Spec L2

abbrev D := PyData

/-! ### data in the abstract heap -/
mutual
inductive Rp (K : PySem.W.Frag) (F : Hp) : V → D → Prop
  | non : Rp K F .non .none
  | bl (b : Bool) : Rp K F (.bl b) (.bool b)
  | int (i : Int) : Rp K F (.int i) (.int i)
  | str (x : Str) : Rp K F (.str x) (.str x)
  | lst {a : Addr} {vs : List V} {ds : List D} : F a = some (.lst vs) → RpL K F vs ds → Rp K F (.ref a) (.list ds)
  | tup {a : Addr} {vs : List V} {ds : List D} : F a = some (.tup vs) → RpL K F vs ds → Rp K F (.ref a) (.tuple ds)
  | dK {a : Addr} {kvs : List (Key × V)} {ds : List (D × D)} : Rd F a (.dK kvs) → RpK K F kvs ds → Rp K F (.ref a) (.dict ds)
inductive RpL (K : PySem.W.Frag) (F : Hp) : List V → List D → Prop
  | nil : RpL K F [] []
  | cons {v : V} {vs : List V} {d : D} {ds : List D} : Rp K F v d → RpL K F vs ds → RpL K F (v :: vs) (d :: ds)
inductive RpK (K : PySem.W.Frag) (F : Hp) : List (Key × V) → List (D × D) → Prop
  | nil : RpK K F [] []
  | consI {i : Int} {v : V} {d : D} {kvs : List (Key × V)} {ds : List (D × D)} : Rp K F v d → RpK K F kvs ds → RpK K F ((.inl i, v) :: kvs) ((.int i, d) :: ds)
  | consS {x : Str} {v : V} {d : D} {kvs : List (Key × V)} {ds : List (D × D)} : Rp K F v d → RpK K F kvs ds → RpK K F ((.inr x, v) :: kvs) ((.str x, d) :: ds)
end

theorem rd_same {F F' : Hp} {a : Addr} {u : HO} (e : Same F F') (h : Rd F a u) : Rd F' a u := by
  rcases h with h | ⟨o, h⟩
  · exact .inl (e _ _ h)
  · exact .inr ⟨o, e _ _ h⟩
theorem sqT_same {K : PySem.W.Frag} {H H' : Hp} {a : Addr} {xs : List V} (e : Same H H') (h : SqT K H a xs) : SqT K H' a xs := by
  rcases h with h | h
  · exact .inl (rd_same e h)
  · exact .inr h

mutual
theorem Rp.mono {K : PySem.W.Frag} {F F' : Hp} (e : Same F F') : ∀ {v : V} {d : D}, Rp K F v d → Rp K F' v d
  | _, _, .non => .non
  | _, _, .bl b => .bl b
  | _, _, .int i => .int i
  | _, _, .str x => .str x
  | _, _, .lst h r => .lst (e _ _ h) (RpL.mono e r)
  | _, _, .tup h r => .tup (e _ _ h) (RpL.mono e r)
  | _, _, .dK h r => .dK (rd_same e h) (RpK.mono e r)
theorem RpL.mono {K : PySem.W.Frag} {F F' : Hp} (e : Same F F') : ∀ {vs : List V} {ds : List D}, RpL K F vs ds → RpL K F' vs ds
  | _, _, .nil => .nil
  | _, _, .cons h r => .cons (Rp.mono e h) (RpL.mono e r)
theorem RpK.mono {K : PySem.W.Frag} {F F' : Hp} (e : Same F F') : ∀ {vs : List (Key × V)} {ds : List (D × D)}, RpK K F vs ds → RpK K F' vs ds
  | _, _, .nil => .nil
  | _, _, .consI h r => .consI (Rp.mono e h) (RpK.mono e r)
  | _, _, .consS h r => .consS (Rp.mono e h) (RpK.mono e r)
end

theorem RpL.length {K : PySem.W.Frag} {F : Hp} : ∀ {vs : List V} {ds : List D}, RpL K F vs ds → vs.length = ds.length
  | _, _, .nil => rfl
  | _, _, .cons _ r => by simp [RpL.length r]
theorem RpL.get {K : PySem.W.Frag} {F : Hp} : ∀ {vs : List V} {ds : List D} (i : Nat), RpL K F vs ds → ∀ {d : D}, ds[i]? = some d → ∃ v, vs[i]? = some v ∧ Rp K F v d
  | _, _, _, .nil, _, h => by simp at h
  | _, _, 0, .cons h _, _, e => by simp at e; subst e; exact ⟨_, rfl, h⟩
  | _, _, i + 1, .cons _ r, _, e => by
    obtain ⟨v, h1, h2⟩ := RpL.get i r (by simpa using e)
    exact ⟨v, by simpa using h1, h2⟩
theorem RpL.getV {K : PySem.W.Frag} {F : Hp} : ∀ {vs : List V} {ds : List D} (i : Nat), RpL K F vs ds → ∀ {v : V}, vs[i]? = some v → ∃ d, ds[i]? = some d ∧ Rp K F v d
  | _, _, _, .nil, _, h => by simp at h
  | _, _, 0, .cons h _, _, e => by simp at e; subst e; exact ⟨_, rfl, h⟩
  | _, _, i + 1, .cons _ r, _, e => by
    obtain ⟨v, h1, h2⟩ := RpL.getV i r (by simpa using e)
    exact ⟨v, by simpa using h1, h2⟩
theorem RpL.append {K : PySem.W.Frag} {F : Hp} : ∀ {vs ws : List V} {ds es : List D}, RpL K F vs ds → RpL K F ws es → RpL K F (vs ++ ws) (ds ++ es)
  | _, _, _, _, .nil, s => s
  | _, _, _, _, .cons h r, s => .cons h (RpL.append r s)
theorem RpL.take {K : PySem.W.Frag} {F : Hp} : ∀ {vs : List V} {ds : List D} (n : Nat), RpL K F vs ds → RpL K F (vs.take n) (ds.take n)
  | _, _, 0, _ => by simp; exact .nil
  | _, _, _ + 1, .nil => by simp; exact .nil
  | _, _, n + 1, .cons h r => .cons h (RpL.take n r)
theorem RpL.drop {K : PySem.W.Frag} {F : Hp} : ∀ {vs : List V} {ds : List D} (n : Nat), RpL K F vs ds → RpL K F (vs.drop n) (ds.drop n)
  | _, _, 0, r => r
  | _, _, _ + 1, .nil => by simp; exact .nil
  | _, _, n + 1, .cons _ r => RpL.drop n r
theorem RpL.set {K : PySem.W.Frag} {F : Hp} : ∀ {vs : List V} {ds : List D} (n : Nat) {v : V} {d : D}, RpL K F vs ds → Rp K F v d → RpL K F (vs.set n v) (ds.set n d)
  | _, _, _, _, _, .nil, _ => .nil
  | _, _, 0, _, _, .cons _ r, h => .cons h r
  | _, _, n + 1, _, _, .cons h0 r, h => .cons h0 (RpL.set n r h)
theorem RpL.reverse {K : PySem.W.Frag} {F : Hp} : ∀ {vs : List V} {ds : List D}, RpL K F vs ds → RpL K F vs.reverse ds.reverse
  | _, _, .nil => .nil
  | _, _, .cons h r => by simp; exact (RpL.reverse r).append (.cons h .nil)

/-- no dict within -/
def plain : D → Bool
  | .none | .bool _ | .int _ | .str _ => true
  | .list xs => plainAll xs
  | .tuple xs => plainAll xs
  | .dict _ => false
where plainAll : List D → Bool
  | [] => true
  | x :: xs => plain x && plainAll xs
mutual
theorem Rp.dp {K : PySem.W.Frag} {F : Hp} : ∀ {v : V} {d : D}, plain d = true → Rp K F v d → Dp K F v d
  | _, _, _, .non => .non
  | _, _, _, .bl b => .bl b
  | _, _, _, .int i => .int i
  | _, _, _, .str x => .str x
  | _, _, p, .lst h r => .lst (SqL.of h) (RpL.dp (by simpa [plain] using p) r)
  | _, _, p, .tup h r => .tup (SqT.of h) (RpL.dp (by simpa [plain] using p) r)
  | _, _, p, .dK h r => by simp [plain] at p
theorem RpL.dp {K : PySem.W.Frag} {F : Hp} : ∀ {vs : List V} {ds : List D}, plain.plainAll ds = true → RpL K F vs ds → DpAll K F vs ds
  | _, _, _, .nil => .nil
  | _, _, p, .cons h r => by
    simp [plain.plainAll] at p
    exact .cons (Rp.dp p.1 h) (RpL.dp p.2 r)
end

/-! ### the state of a frame -/
inductive Sl where
  | no | fz (d : D) | ow (xs : List D) | od (kvs : List (D × D)) | cup | sq (xs : List D)
structure S where
  c : Int × Int
  r : List Sl
structure Fr where
  pc : Option Addr
  F0 : Hp
  H0 : Hp
abbrev S.wc (s : S) (c : Int × Int) : S := { s with c := c }
abbrev S.up (s : S) (i : Nat) (t : Sl) : S := { s with r := s.r.set i t }

/-- the heap goes on: frozen F, whole H; the cup alone may turn -/
structure Go (pc : Option Addr) (F H F' H' : Hp) : Prop where
  f : Same F F'
  h : ∀ a o, pc ≠ some a → H a = some o → H' a = some o
  t : ∀ a, H a ≠ none → H' a ≠ none
  n : ∀ a, H a ≠ none → F a = none → F' a = none
theorem Go.refl (pc : Option Addr) (F H : Hp) : Go pc F H F H := ⟨Same.refl F, fun _ _ _ h => h, fun _ h => h, fun _ _ h => h⟩
theorem Go.trans {pc : Option Addr} {F H F1 H1 F2 H2 : Hp} (a : Go pc F H F1 H1) (b : Go pc F1 H1 F2 H2) : Go pc F H F2 H2 :=
  ⟨a.f.trans b.f, fun x o p h => b.h x o p (a.h x o p h), fun x h => b.t x (a.t x h), fun x h1 h2 => b.n x (a.t x h1) (a.n x h1 h2)⟩
theorem Go.weak {pc : Option Addr} {F H F' H' : Hp} (a : Go none F H F' H') : Go pc F H F' H' := ⟨a.f, fun x o _ h => a.h x o (by simp) h, a.t, a.n⟩
theorem same_none {H H' : Hp} {p : Addr} (e : Same H H') (h : H' p = none) : H p = none := e.free h
/-- a new object, frozen at once -/
theorem Go.newF {pc : Option Addr} {F H : Hp} {p : Addr} {o : HO} (s : Same F H) (h : H p = none) : Go pc F H (upd F p o) (upd H p o) where
  f := fun b u e => by rw [upd_ne (ne_of_none e (s.free h))]; exact e
  h := fun b u _ e => by rw [upd_ne (ne_of_none e h)]; exact e
  t := fun b e => by
    by_cases hb : b = p
    · subst hb; rw [upd_same]; exact fun z => nomatch z
    · rw [upd_ne hb]; exact e
  n := fun b e z => by
    have hb : b ≠ p := by rintro rfl; exact e h
    rw [upd_ne hb]; exact z
/-- a new object, not frozen -/
theorem Go.newH {pc : Option Addr} {F H : Hp} {p : Addr} {o : HO} (h : H p = none) : Go pc F H F (upd H p o) where
  f := Same.refl F
  h := fun b u _ e => by rw [upd_ne (ne_of_none e h)]; exact e
  t := fun b e => by
    by_cases hb : b = p
    · subst hb; rw [upd_same]; exact fun z => nomatch z
    · rw [upd_ne hb]; exact e
  n := fun b e z => z
theorem same_updF {F H : Hp} {p : Addr} {o : HO} (s : Same F H) : Same (upd F p o) (upd H p o) := fun b u e => by
  by_cases hb : b = p
  · subst hb; rw [upd_same] at e ⊢; exact e
  · rw [upd_ne hb] at e ⊢; exact s _ _ e
theorem same_updH {F H : Hp} {p : Addr} {o : HO} (s : Same F H) (h : H p = none) : Same F (upd H p o) := fun b u e => by
  have e' := s _ _ e
  rw [upd_ne (ne_of_none e' h)]; exact e'

def CupAt (pc : Option Addr) (F H : Hp) (c : Int × Int) : Prop := ∀ p, pc = some p → F p = none ∧ H p = some (.lst [.int c.1, .int c.2])
theorem CupAt.go {pc : Option Addr} {F H F' H' : Hp} {c : Int × Int} (x : CupAt pc F H c) (g : Go none F H F' H') : CupAt pc F' H' c := fun p e => by
  obtain ⟨h1, h2⟩ := x p e
  exact ⟨g.n p (by rw [h2]; exact fun z => nomatch z) h1, g.h p _ (by simp) h2⟩

/-- an object that one slot alone holds -/
structure Own (fr : Fr) (F H : Hp) (p : Addr) (o : HO) : Prop where
  h : H p = some o
  f : F p = none
  n : fr.H0 p = none
  c : fr.pc ≠ some p
def keyD : Key → D
  | .inl i => .int i
  | .inr x => .str x
def SlOk (K : PySem.W.Frag) (fr : Fr) (F H : Hp) (o : Option V) : Sl → Prop
  | .no => True
  | .fz d => ∃ v, o = some v ∧ Rp K F v d
  | .ow xs => ∃ p vs, o = some (.ref p) ∧ Own fr F H p (.lst vs) ∧ RpL K F vs xs
  | .od ds => ∃ p kvs, o = some (.ref p) ∧ Own fr F H p (.dK kvs) ∧ RpK K F kvs ds
  | .cup => ∃ p, o = some (.ref p) ∧ fr.pc = some p
  | .sq xs => ∃ a vs, o = some (.ref a) ∧ SqL K F a vs ∧ RpL K F vs xs
def Sl.own : Sl → Bool
  | .ow _ => true
  | .od _ => true
  | _ => false
structure Sat (K : PySem.W.Frag) (fr : Fr) (s : S) (F : Hp) (σ : St) (H : Hp) : Prop where
  sub : Same F H
  go : Go fr.pc fr.F0 fr.H0 F H
  cup : CupAt fr.pc F H s.c
  len : σ.length = s.r.length
  sl : ∀ (i : Nat) t, s.r[i]? = some t → ∃ o, σ[i]? = some o ∧ SlOk K fr F H o t
  ap : ∀ (i j : Nat) t u p, s.r[i]? = some t → s.r[j]? = some u → t.own = true → u.own = true → σ[i]? = some (some (.ref p)) → σ[j]? = some (some (.ref p)) → i = j

theorem SlOk.go {K : PySem.W.Frag} {fr : Fr} {F H F' H' : Hp} {o : Option V} {t : Sl} (g : Go fr.pc F H F' H') (h : SlOk K fr F H o t) : SlOk K fr F' H' o t := by
  cases t with
  | no => trivial
  | fz d => obtain ⟨v, e, r⟩ := h; exact ⟨v, e, r.mono g.f⟩
  | ow xs => obtain ⟨p, vs, e, w, r⟩ := h; exact ⟨p, vs, e, ⟨g.h _ _ w.c w.h, g.n _ (by rw [w.h]; exact fun z => nomatch z) w.f, w.n, w.c⟩, r.mono g.f⟩
  | od ds => obtain ⟨p, vs, e, w, r⟩ := h; exact ⟨p, vs, e, ⟨g.h _ _ w.c w.h, g.n _ (by rw [w.h]; exact fun z => nomatch z) w.f, w.n, w.c⟩, r.mono g.f⟩
  | cup => exact h
  | sq xs => obtain ⟨a, vs, e, h1, h2⟩ := h; exact ⟨a, vs, e, g.f.seq h1, h2.mono g.f⟩
theorem Sat.step {K : PySem.W.Frag} {fr : Fr} {s : S} {F F' H H' : Hp} {σ : St} {c : Int × Int} (h : Sat K fr s F σ H) (g : Go fr.pc F H F' H') (sb : Same F' H') (cu : CupAt fr.pc F' H' c) : Sat K fr (s.wc c) F' σ H' where
  sub := sb
  go := h.go.trans g
  cup := cu
  len := h.len
  sl := fun i t e => by
    obtain ⟨o, e1, e2⟩ := h.sl i t e
    exact ⟨o, e1, e2.go g⟩
  ap := h.ap

/-! ### results -/
structure Ex where
  n : Str
  l : Option Int
inductive R (α : Type) where
  | ok (a : α) (c : Int × Int)
  | err (x : Ex) (c : Int × Int)
  | no
abbrev M (α : Type) := S → R α
def bnd {α β : Type} (m : M α) (k : α → M β) : M β := fun s => match m s with
  | .ok a c => k a (s.wc c)
  | .err x c => .err x c
  | .no => .no
def rt {α : Type} (a : α) : M α := fun s => .ok a s.c
def lift {α : Type} (o : Option α) : M α := fun s => match o with
  | some a => .ok a s.c
  | none => .no
/-- what an exception is like -/
def ExOk (mg : Str → Option Value) (H : Hp) (x : Ex) (cls : Value) (d : Option Addr) : Prop :=
  mg x.n = some cls ∧ match x.l with
    | none => True
    | some l => ∃ dx fs, d = some dx ∧ H dx = some (.xd fs) ∧ fs.lookup ("limit" : Str) = some (.int l)
section
variable (mg : Str → Option Value) (E : XK) (fr : Fr)
def Post {α : Type} (F H : Hp) (r : R α) (k : α → Int × Int → Hp → Hp → Prop) : Prop := match r with
  | .ok a c => ∀ F' H', Go fr.pc F H F' H' → Same F' H' → CupAt fr.pc F' H' c → k a c F' H'
  | .err x c => ∀ F' H' cls d, Go fr.pc F H F' H' → Same F' H' → CupAt fr.pc F' H' c → ExOk mg H' x cls d → E cls d H'
  | .no => False
end
section
variable {mg : Str → Option Value} {E : XK} {fr : Fr} {α β : Type}
theorem Post.mono {F H : Hp} {r : R α} {k k' : α → Int × Int → Hp → Hp → Prop} (h : Post mg E fr F H r k) (hk : ∀ a c F' H', Go fr.pc F H F' H' → Same F' H' → CupAt fr.pc F' H' c → k a c F' H' → k' a c F' H') : Post mg E fr F H r k' := by
  cases r with
  | ok a c => exact fun F' H' g s u => hk a c F' H' g s u (h F' H' g s u)
  | err x c => exact h
  | no => exact h
theorem Post.from {F H F1 H1 : Hp} {r : R α} {k : α → Int × Int → Hp → Hp → Prop} (g : Go fr.pc F H F1 H1) (h : Post mg E fr F H r k) : Post mg E fr F1 H1 r k := by
  cases r with
  | ok a c => exact fun F' H' g' s u => h F' H' (g.trans g') s u
  | err x c => exact fun F' H' cls d g' s u => h F' H' cls d (g.trans g') s u
  | no => exact h
/-- one after another -/
theorem Post.bnd {F H : Hp} {m : M α} {k : α → M β} {s : S} {q : β → Int × Int → Hp → Hp → Prop} (h : Post mg E fr F H (bnd m k s) q) :
    Post mg E fr F H (m s) fun a c F1 H1 => Post mg E fr F1 H1 (k a (s.wc c)) q := by
  unfold Pu.bnd at h
  cases e : m s with
  | ok a c =>
    rw [e] at h
    exact fun F' H' g sb cu => Post.from g h
  | err x c => rw [e] at h; exact h
  | no => rw [e] at h; exact h
end

/-- borrowed: frozen, or held by one slot -/
def RpB (K : PySem.W.Frag) (pc : Option Addr) (F H : Hp) (v : V) (d : D) : Prop :=
  Rp K F v d ∨ (∃ p vs ds, v = .ref p ∧ d = .list ds ∧ H p = some (.lst vs) ∧ RpL K F vs ds ∧ pc ≠ some p) ∨ (∃ p kvs ds, v = .ref p ∧ d = .dict ds ∧ H p = some (.dK kvs) ∧ RpK K F kvs ds ∧ pc ≠ some p)
theorem RpB.go {K : PySem.W.Frag} {pc : Option Addr} {F H F' H' : Hp} {v : V} {d : D} (g : Go pc F H F' H') (h : RpB K pc F H v d) : RpB K pc F' H' v d := by
  rcases h with h | ⟨p, vs, ds, e1, e2, h1, h2, h3⟩ | ⟨p, vs, ds, e1, e2, h1, h2, h3⟩
  · exact .inl (h.mono g.f)
  · exact .inr (.inl ⟨p, vs, ds, e1, e2, g.h _ _ h3 h1, h2.mono g.f, h3⟩)
  · exact .inr (.inr ⟨p, vs, ds, e1, e2, g.h _ _ h3 h1, h2.mono g.f, h3⟩)
/-- fresh: a list or a dict is new, all else is frozen; H the heap ahead -/
def RpF (K : PySem.W.Frag) (H F' H' : Hp) (v : V) : D → Prop
  | .list ds => ∃ p vs, v = .ref p ∧ H p = none ∧ F' p = none ∧ H' p = some (.lst vs) ∧ RpL K F' vs ds
  | .dict ds => ∃ p kvs, v = .ref p ∧ H p = none ∧ F' p = none ∧ H' p = some (.dK kvs) ∧ RpK K F' kvs ds
  | d => Rp K F' v d

section
variable (K : PySem.W.Frag) (mg : Str → Option Value) (E : XK)
def rdE (m : M D) : TE := fun σ H Q => ∃ fr s F, Sat K fr s F σ H ∧ Post mg E fr F H (m s) fun d _ F' H' => ∀ v, Rp K F' v d → Q v H'
def rdB (m : M D) : TE := fun σ H Q => ∃ fr s F, Sat K fr s F σ H ∧ Post mg E fr F H (m s) fun d _ F' H' => ∀ v, RpB K fr.pc F' H' v d → Q v H'
def rdF (m : M D) : TE := fun σ H Q => ∃ fr s F, Sat K fr s F σ H ∧ Post mg E fr F H (m s) fun d _ F' H' => ∀ v, RpF K H F' H' v d → Q v H'
def rdT (m : M Bool) : TT := fun σ H Q => ∃ fr s F, Sat K fr s F σ H ∧ Post mg E fr F H (m s) fun b _ F' H' => Q b H'
def rdA (m : M (List D)) : TA := fun σ H Q => ∃ fr s F, Sat K fr s F σ H ∧ Post mg E fr F H (m s) fun ds _ F' H' => ∀ vs, RpL K F' vs ds → Q vs H'
/-- borrowed arguments -/
inductive RpBL (K : PySem.W.Frag) (pc : Option Addr) (F H : Hp) : List V → List D → Prop
  | nil : RpBL K pc F H [] []
  | cons {v : V} {vs : List V} {d : D} {ds : List D} : RpB K pc F H v d → RpBL K pc F H vs ds → RpBL K pc F H (v :: vs) (d :: ds)
def rdAB (m : M (List D)) : TA := fun σ H Q => ∃ fr s F, Sat K fr s F σ H ∧ Post mg E fr F H (m s) fun ds _ F' H' => ∀ vs, RpBL K fr.pc F' H' vs ds → Q vs H'
structure ItOk (J : It) (F : Hp) (ds : List D) : Prop where
  go : ∀ F1 H1 i, Same F F1 → Same F1 H1 → i < ds.length → J.go i H1
  yl : ∀ F1 H1 i x H2, Same F F1 → Same F1 H1 → J.yld i H1 x H2 → i < ds.length → ∃ d F2, ds[i]? = some d ∧ Go none F1 H1 F2 H2 ∧ Same F2 H2 ∧ Rp K F2 x d
  st : ∀ F1 H1, Same F F1 → Same F1 H1 → J.stop ds.length H1
def rdI (m : M (List D)) : TI := fun σ H Q => ∃ fr s F, Sat K fr s F σ H ∧ Post mg E fr F H (m s) fun ds _ F' H' => ∀ J, ItOk K J F' ds → Q J H'
end

inductive RS where
  | next (s : S)
  | ret (d : D) (c : Int × Int)
  | brk (s : S)
  | cnt (s : S)
  | err (x : Ex) (c : Int × Int)
  | no
abbrev MS := S → RS
def Post' (K : PySem.W.Frag) (mg : Str → Option Value) (E : XK) (fr : Fr) (D : Ends) : RS → Prop
  | .next s => ∀ F' σ' H', Sat K fr s F' σ' H' → D.nx σ' H'
  | .brk s => ∀ F' σ' H', Sat K fr s F' σ' H' → D.bk σ' H'
  | .cnt s => ∀ F' σ' H', Sat K fr s F' σ' H' → D.ct σ' H'
  | .ret d c => ∀ v F' H', Go fr.pc fr.F0 fr.H0 F' H' → Same F' H' → CupAt fr.pc F' H' c → Rp K F' v d → D.rt v H'
  | .err x c => ∀ F' H' cls d, Go fr.pc fr.F0 fr.H0 F' H' → Same F' H' → CupAt fr.pc F' H' c → ExOk mg H' x cls d → E cls d H'
  | .no => False
def rdS (K : PySem.W.Frag) (mg : Str → Option Value) (E : XK) (m : MS) : TS := fun D σ H => ∃ fr s F, Sat K fr s F σ H ∧ Post' K mg E fr D (m s)

theorem PE.imp {X : Cx} {e : Expr} {t t' : TE} (h : PE X e t) (hi : ∀ σ H Q, t' σ H Q → t σ H Q) : PE X e t' := ⟨fun pins s σ H Q I q => h.run pins s σ H Q I (hi _ _ _ q)⟩
theorem PT.imp {X : Cx} {e : Expr} {t t' : TT} (h : PT X e t) (hi : ∀ σ H Q, t' σ H Q → t σ H Q) : PT X e t' := ⟨fun pins s σ H Q I q => h.run pins s σ H Q I (hi _ _ _ q)⟩
theorem PW.imp {X : Cx} {e : Expr} {t t' : TT} (h : PW X e t) (hi : ∀ σ H Q, t' σ H Q → t σ H Q) : PW X e t' := ⟨fun wh pins s σ H Q I q => h.run wh pins s σ H Q I (hi _ _ _ q)⟩
theorem PA.imp {X : Cx} {e : List Expr} {t t' : TA} (h : PA X e t) (hi : ∀ σ H Q, t' σ H Q → t σ H Q) : PA X e t' := ⟨fun p pins s σ H Q I q => h.run p pins s σ H Q I (hi _ _ _ q)⟩
theorem PS.imp {X : Cx} {e : Stmt} {t t' : TS} (h : PS X e t) (hi : ∀ D σ H, t' D σ H → t D σ H) : PS X e t' := ⟨fun pins s σ H D I q => h.run pins s σ H D I (hi _ _ _ q)⟩
theorem PSs.imp {X : Cx} {e : List Stmt} {t t' : TS} (h : PSs X e t) (hi : ∀ D σ H, t' D σ H → t D σ H) : PSs X e t' := ⟨fun pins s σ H D I q => h.run pins s σ H D I (hi _ _ _ q)⟩
theorem PI.imp {X : Cx} {tg e : Expr} {t t' : TI} (h : PI X tg e t) (hi : ∀ σ H Q, t' σ H Q → t σ H Q) : PI X tg e t' := ⟨fun pins s σ H Q I q => h.run pins s σ H Q I (hi _ _ _ q)⟩
theorem PG.imp {X : Cx} {tg : Expr} {t t' : TG} (h : PG X tg t) (hi : ∀ v σ H Q, t' v σ H Q → t v σ H Q) : PG X tg t' := ⟨fun pins s σ H v u Q I r q => h.run pins s σ H v u Q I r (hi _ _ _ _ q)⟩

theorem rdE_B {K : PySem.W.Frag} {mg : Str → Option Value} {E : XK} {m : M D} {σ : St} {H : Hp} {Q : VK} (h : rdB K mg E m σ H Q) : rdE K mg E m σ H Q := by
  obtain ⟨fr, s, F, hs, q⟩ := h
  exact ⟨fr, s, F, hs, q.mono fun d c F' H' _ _ _ k v r => k v (.inl r)⟩
/-- a new list is frozen -/
theorem rdF_E {K : PySem.W.Frag} {mg : Str → Option Value} {E : XK} {m : M D} {σ : St} {H : Hp} {Q : VK} (h : rdE K mg E m σ H Q) : rdF K mg E m σ H Q := by
  obtain ⟨fr, s, F, hs, q⟩ := h
  refine ⟨fr, s, F, hs, ?_⟩
  cases e : m s with
  | no => rw [e] at q; exact q
  | err x c => rw [e] at q; exact q
  | ok d c =>
    rw [e] at q
    intro F' H' g sb cu v r
    have fz : ∀ (p : Addr) (o : HO), H p = none → F' p = none → H' p = some o → (∀ F2, Same F' F2 → F2 p = some o → Rp K F2 v d) → Q v H' := fun p o h1 h2 h3 h4 => by
      have s1 : Same F' (upd F' p o) := fun b u e => by rw [upd_ne (ne_of_none e h2)]; exact e
      have s2 : Same (upd F' p o) H' := fun b u e => by
        by_cases hb : b = p
        · subst hb; rw [upd_same] at e; rw [h3]; exact e
        · rw [upd_ne hb] at e; exact sb _ _ e
      refine q (upd F' p o) H' ⟨g.f.trans s1, g.h, g.t, fun a e1 e2 => ?_⟩ s2 (fun b e => ?_) v (h4 _ s1 upd_same)
      · have hb : a ≠ p := by rintro rfl; exact e1 h1
        rw [upd_ne hb]; exact g.n a e1 e2
      · obtain ⟨c1, c2⟩ := cu b e
        have hb : b ≠ p := by
          rintro rfl
          have := hs.cup b e
          rw [h1] at this
          exact nomatch this.2
        exact ⟨by rw [upd_ne hb]; exact c1, c2⟩
    cases d with
    | list ds =>
      obtain ⟨p, vs, rfl, h1, h2, h3, h4⟩ := r
      exact fz p _ h1 h2 h3 fun F2 s2 e2 => .lst e2 (h4.mono s2)
    | dict ds =>
      obtain ⟨p, kvs, rfl, h1, h2, h3, h4⟩ := r
      exact fz p _ h1 h2 h3 fun F2 s2 e2 => .dK (.inl e2) (h4.mono s2)
    | none => exact q F' H' g sb cu v r
    | bool b => exact q F' H' g sb cu v r
    | int b => exact q F' H' g sb cu v r
    | str b => exact q F' H' g sb cu v r
    | tuple b => exact q F' H' g sb cu v r
section
variable {X : Cx} {E : XK} {e : Expr} {m : M D}
abbrev PF (X : Cx) (E : XK) (e : Expr) (m : M D) := PE X e (rdF X.K X.mg E m)
abbrev PD (X : Cx) (E : XK) (e : Expr) (m : M D) := PE X e (rdE X.K X.mg E m)
abbrev PB (X : Cx) (E : XK) (e : Expr) (m : M D) := PE X e (rdB X.K X.mg E m)
abbrev PTD (X : Cx) (E : XK) (e : Expr) (m : M Bool) := PT X e (rdT X.K X.mg E m)
abbrev PAD (X : Cx) (E : XK) (es : List Expr) (m : M (List D)) := PA X es (rdA X.K X.mg E m)
abbrev PABD (X : Cx) (E : XK) (es : List Expr) (m : M (List D)) := PA X es (rdAB X.K X.mg E m)
abbrev PSD (X : Cx) (E : XK) (st : Stmt) (m : MS) := PS X st (rdS X.K X.mg E m)
abbrev PSsD (X : Cx) (E : XK) (st : List Stmt) (m : MS) := PSs X st (rdS X.K X.mg E m)
abbrev PID (X : Cx) (E : XK) (tg e : Expr) (m : M (List D)) := PI X tg e (rdI X.K X.mg E m)
/-- fresh as frozen, frozen as borrowed -/
theorem fd (h : PF X E e m) : PD X E e m := PE.imp h fun _ _ _ q => rdF_E q
theorem db (h : PD X E e m) : PB X E e m := PE.imp h fun _ _ _ q => rdE_B q
theorem fb (h : PF X E e m) : PB X E e m := db (fd h)
end
end Pu
end

noncomputable section
set_option Elab.async false
set_option linter.all false
set_option maxRecDepth 100000
set_option maxHeartbeats 4000000
/-! Pu, second part: rules for expressions. -/
namespace Pu
open PySem PySem.Spec L2
section
variable {K : PySem.W.Frag} {mg : Str → Option Value} {E : XK} {fr : Fr} {pc : Option Addr} {F H F1 H1 F' H' : Hp} {v : V} {d : D}
theorem RpF.back (g : Go pc F H F1 H1) (h : RpF K H1 F' H' v d) : RpF K H F' H' v d := by
  have nn : ∀ p, H1 p = none → H p = none := fun p e => by
    cases q : H p with
    | none => rfl
    | some o => exact absurd e (g.t p (by rw [q]; exact fun z => nomatch z))
  cases d with
  | list ds => obtain ⟨p, vs, e, h1, h2⟩ := h; exact ⟨p, vs, e, nn p h1, h2⟩
  | dict ds => obtain ⟨p, vs, e, h1, h2⟩ := h; exact ⟨p, vs, e, nn p h1, h2⟩
  | none => exact h
  | bool b => exact h
  | int b => exact h
  | str b => exact h
  | tuple b => exact h
theorem OpR.imp {X : Cx} {f : Value → Value → Sem Value} {r r' : R2} (h : OpR X f r) (hi : ∀ x y H Q, r' x y H Q → r x y H Q) : OpR X f r' := fun pins s σ H x y v u Q I r1 r2 q => h pins s σ H x y v u Q I r1 r2 (hi _ _ _ _ q)
theorem CallR.imp {X : Cx} {f : Value} {r r' : List V → Hp → VK → Prop} (h : CallR X f r) (hi : ∀ x H Q, r' x H Q → r x H Q) : CallR X f r' := fun pins s σ H xs us Q I r1 q => h pins s σ H xs us Q I r1 (hi _ _ _ q)
theorem UnR.imp {X : Cx} {f : Value → Sem Value} {r r' : V → Hp → VK → Prop} (h : UnR X f r) (hi : ∀ x H Q, r' x H Q → r x H Q) : UnR X f r' := fun pins s σ H xs us Q I r1 q => h pins s σ H xs us Q I r1 (hi _ _ _ q)
theorem IxR.imp {X : Cx} {r r' : R2} (h : IxR X r) (hi : ∀ x y H Q, r' x y H Q → r x y H Q) : IxR X r' := fun value slice pins s σ H x y v u Q I r1 r2 q hs => h value slice pins s σ H x y v u Q I r1 r2 (hi _ _ _ _ q) hs
theorem SlR.imp {X : Cx} {r r' : V → Option Int → Option Int → Hp → VK → Prop} (h : SlR X r) (hi : ∀ x lo hi H Q, r' x lo hi H Q → r x lo hi H Q) : SlR X r' := fun pins s σ H x v vl vu lo hi' sl Q I rx hs pl pu q => h pins s σ H x v vl vu lo hi' sl Q I rx hs pl pu (hi _ _ _ _ _ q)
theorem MtR.imp {X : Cx} {id : String} {r r' : V → List V → Hp → VK → Prop} (h : MtR X id r) (hi : ∀ x xs H Q, r' x xs H Q → r x xs H Q) : MtR X id r' := fun pins s σ H x xs v us Q I r1 r2 q => h pins s σ H x xs v us Q I r1 r2 (hi _ _ _ _ q)
end

/-! ### readings of operations, by data -/
section
variable (K : PySem.W.Frag)
def Fin1 (H : Hp) (F : Hp) (z : D) (Q : VK) : Prop := ∀ v F' H', Go none F H F' H' → Same F' H' → RpF K H F' H' v z → Q v H'
def rO2 (g : D → D → Option D) : R2 := fun x y H Q => ∃ pc F d e z, RpB K pc F H x d ∧ RpB K pc F H y e ∧ Same F H ∧ g d e = some z ∧ Fin1 K H F z Q
def rO1 (g : D → Option D) : V → Hp → VK → Prop := fun x H Q => ∃ pc F d z, RpB K pc F H x d ∧ Same F H ∧ g d = some z ∧ Fin1 K H F z Q
def rC1 (g : D → Option D) : List V → Hp → VK → Prop := fun xs H Q => ∃ x, xs = [x] ∧ rO1 K g x H Q
def rC2 (g : D → D → Option D) : List V → Hp → VK → Prop := fun xs H Q => ∃ x y, xs = [x, y] ∧ rO2 K g x y H Q
def rMt1 (g : D → D → Option D) : V → List V → Hp → VK → Prop := fun x xs H Q => ∃ y, xs = [y] ∧ rO2 K g x y H Q
end
def m1 (g : D → Option D) (ma : M D) : M D := bnd ma fun x => lift (g x)
def m2 (g : D → D → Option D) (ma mb : M D) : M D := bnd ma fun x => bnd mb fun y => lift (g x y)
section
variable {K : PySem.W.Frag} {mg : Str → Option Value} {E : XK} {ma mb mc : M D} {σ : L2.St} {H : Hp} {Q : VK} {g g' : D → D → Option D} {g1 : D → Option D}
theorem Post.lift {fr : Fr} {α : Type} {F H : Hp} {o : Option α} {s : S} {k : α → Int × Int → Hp → Hp → Prop} (h : Post mg E fr F H (lift o s) k) : ∃ z, o = some z ∧ ∀ F' H', Go fr.pc F H F' H' → Same F' H' → CupAt fr.pc F' H' s.c → k z s.c F' H' := by
  cases o with
  | none => exact h.elim
  | some z => exact ⟨z, rfl, h⟩
theorem rd1 (h : rdF K mg E (m1 g1 ma) σ H Q) : tUn (rO1 K g1) (rdB K mg E ma) σ H Q := by
  obtain ⟨fr, s, F, hs, q⟩ := h
  refine ⟨fr, s, F, hs, (Post.bnd q).mono fun x c1 F1 H1 g1 sb1 cu1 q1 v rv => ?_⟩
  obtain ⟨z, e, k⟩ := q1.lift
  exact ⟨fr.pc, F1, x, z, rv, sb1, e, fun v F' H' g3 sb3 r3 => k F' H' g3.weak sb3 (cu1.go g3) v (r3.back g1)⟩
theorem rd2 (h : rdF K mg E (m2 g ma mb) σ H Q) : tOp (rO2 K g) (rdB K mg E ma) (rdB K mg E mb) σ H Q := by
  obtain ⟨fr, s, F, hs, q⟩ := h
  refine ⟨fr, s, F, hs, (Post.bnd q).mono fun x c1 F1 H1 g1 sb1 cu1 q1 v rv => ?_⟩
  refine ⟨fr, s.wc c1, F1, hs.step g1 sb1 cu1, (Post.bnd q1).mono fun y c2 F2 H2 g2 sb2 cu2 q2 w rw => ?_⟩
  obtain ⟨z, e, k⟩ := q2.lift
  exact ⟨fr.pc, F2, x, y, z, rv.go g2, rw, sb2, e, fun v F' H' g3 sb3 r3 => k F' H' g3.weak sb3 (cu2.go g3) v (r3.back (g1.trans g2))⟩
/-- a op b op c -/
def mChain (g g' : D → D → Option D) (ma mb mc : M D) : M D := bnd ma fun x => bnd mb fun y => bnd (lift (g x y)) fun z => match z with
  | .bool true => bnd mc fun w => lift (g' y w)
  | .bool false => rt (.bool false)
  | _ => lift none
theorem rd_chain (hg : ∀ x y z, g x y = some z → ∃ b, z = .bool b) (h : rdF K mg E (mChain g g' ma mb mc) σ H Q) : tChain (rO2 K g) (rO2 K g') (rdB K mg E ma) (rdB K mg E mb) (rdB K mg E mc) σ H Q := by
  obtain ⟨fr, s, F, hs, q⟩ := h
  refine ⟨fr, s, F, hs, (Post.bnd q).mono fun x c1 F1 H1 g1 sb1 cu1 q1 v rv => ?_⟩
  have hs1 := hs.step g1 sb1 cu1
  refine ⟨fr, s.wc c1, F1, hs1, (Post.bnd q1).mono fun y c2 F2 H2 g2 sb2 cu2 q2 w rw => ?_⟩
  have hs2 := hs1.step g2 sb2 cu2
  obtain ⟨z, e, k⟩ := (Post.bnd q2).lift
  obtain ⟨b, rfl⟩ := hg _ _ _ e
  refine ⟨fr.pc, F2, x, y, .bool b, rv.go g2, rw, sb2, e, fun v3 F3 H3 g3 sb3 r3 => ?_⟩
  have q3 := k F3 H3 g3.weak sb3 (cu2.go g3)
  cases r3
  refine ⟨b, rfl, ?_⟩
  have hs3 := hs2.step (g3.weak) sb3 (cu2.go g3)
  cases b with
  | true =>
    rw [if_pos rfl]
    refine ⟨fr, _, F3, hs3, (Post.bnd q3).mono fun w' c4 F4 H4 g4 sb4 cu4 q4 v4 rv4 => ?_⟩
    obtain ⟨z, e, k⟩ := q4.lift
    exact ⟨fr.pc, F4, y, w', z, (rw.go g3.weak).go g4, rv4, sb4, e, fun v F' H' g5 sb5 r5 => k F' H' g5.weak sb5 (cu4.go g5) v (r5.back (((g1.trans g2).trans g3.weak).trans g4))⟩
  | false =>
    rw [if_neg Bool.false_ne_true]
    exact q3 F3 H3 (Go.refl _ _ _) sb3 (cu2.go g3) (.bl false) (.bl false)
/-- a bool as a test -/
def boolD : D → Option Bool
  | .bool b => some b
  | _ => none
def mB (m : M D) : M Bool := bnd m fun d => lift (boolD d)
theorem rd_mB {Q : Bool → Hp → Prop} (h : rdT K mg E (mB ma) σ H Q) : rdB K mg E ma σ H fun x H' => ∃ k, x = .bl k ∧ Q k H' := by
  obtain ⟨fr, s, F, hs, q⟩ := h
  refine ⟨fr, s, F, hs, (Post.bnd q).mono fun x c1 F1 H1 g1 sb1 cu1 q1 v rv => ?_⟩
  obtain ⟨z, e, k⟩ := q1.lift
  cases x <;> first | cases e | skip
  rcases rv with r | ⟨_, _, _, _, z, _⟩ | ⟨_, _, _, _, z, _⟩
  · cases r
    exact ⟨_, rfl, k _ _ (Go.refl _ _ _) sb1 cu1⟩
  · cases z
  · cases z
theorem rd_mBF {Q : Bool → Hp → Prop} (h : rdT K mg E (mB ma) σ H Q) : rdF K mg E ma σ H fun x H' => ∃ k, x = .bl k ∧ Q k H' := rdF_E (rdE_B (rd_mB h))
def mAnd (a b : M Bool) : M Bool := bnd a fun x => match x with
  | true => b
  | false => rt false
def mOr (a b : M Bool) : M Bool := bnd a fun x => match x with
  | true => rt true
  | false => b
def mNot (a : M Bool) : M Bool := bnd a fun x => rt (!x)
def mAndV (a b : M D) : M D := bnd a fun x => match x with
  | .bool true => b
  | .bool false => rt (.bool false)
  | _ => lift none
def mOrV (a b : M D) : M D := bnd a fun x => match x with
  | .bool true => rt (.bool true)
  | .bool false => b
  | _ => lift none
def mNotV (a : M D) : M D := bnd a fun x => match x with
  | .bool b => rt (.bool (!b))
  | _ => lift none
def mIf (t : M Bool) (a b : M D) : M D := bnd t fun x => match x with
  | true => a
  | false => b
theorem rd_and {a b : M Bool} {Q : Bool → Hp → Prop} (h : rdT K mg E (mAnd a b) σ H Q) : tAnd (rdT K mg E a) (rdT K mg E b) σ H Q := by
  obtain ⟨fr, s, F, hs, q⟩ := h
  refine ⟨fr, s, F, hs, (Post.bnd q).mono fun x c1 F1 H1 g1 sb1 cu1 q1 => ?_⟩
  cases x with
  | true => exact L2.iteT (⟨fr, s.wc c1, F1, hs.step g1 sb1 cu1, q1⟩)
  | false => exact L2.iteF (q1 F1 H1 (Go.refl _ _ _) sb1 cu1)
theorem rd_or {a b : M Bool} {Q : Bool → Hp → Prop} (h : rdT K mg E (mOr a b) σ H Q) : tOr (rdT K mg E a) (rdT K mg E b) σ H Q := by
  obtain ⟨fr, s, F, hs, q⟩ := h
  refine ⟨fr, s, F, hs, (Post.bnd q).mono fun x c1 F1 H1 g1 sb1 cu1 q1 => ?_⟩
  cases x with
  | true => exact L2.iteT (q1 F1 H1 (Go.refl _ _ _) sb1 cu1)
  | false => exact L2.iteF (⟨fr, s.wc c1, F1, hs.step g1 sb1 cu1, q1⟩)
theorem rd_not {a : M Bool} {Q : Bool → Hp → Prop} (h : rdT K mg E (mNot a) σ H Q) : tNot (rdT K mg E a) σ H Q := by
  obtain ⟨fr, s, F, hs, q⟩ := h
  exact ⟨fr, s, F, hs, (Post.bnd q).mono fun x c1 F1 H1 g1 sb1 cu1 q1 => q1 F1 H1 (Go.refl _ _ _) sb1 cu1⟩
theorem Rp.bool {F : Hp} {v : V} {b : Bool} (h : Rp K F v (.bool b)) : v = .bl b := by cases h; rfl
theorem RpB.bool {pc : Option Addr} {F H : Hp} {v : V} {b : Bool} (h : RpB K pc F H v (.bool b)) : v = .bl b := by
  rcases h with h | ⟨_, _, _, _, z, _⟩ | ⟨_, _, _, _, z, _⟩
  · exact h.bool
  · cases z
  · cases z
theorem RpB.int {pc : Option Addr} {F H : Hp} {v : V} {b : Int} (h : RpB K pc F H v (.int b)) : v = .int b := by
  rcases h with h | ⟨_, _, _, _, z, _⟩ | ⟨_, _, _, _, z, _⟩
  · cases h; rfl
  · cases z
  · cases z
theorem RpB.str {pc : Option Addr} {F H : Hp} {v : V} {b : Str} (h : RpB K pc F H v (.str b)) : v = .str b := by
  rcases h with h | ⟨_, _, _, _, z, _⟩ | ⟨_, _, _, _, z, _⟩
  · cases h; rfl
  · cases z
  · cases z
theorem RpB.none {pc : Option Addr} {F H : Hp} {v : V} (h : RpB K pc F H v .none) : v = .non := by
  rcases h with h | ⟨_, _, _, _, z, _⟩ | ⟨_, _, _, _, z, _⟩
  · cases h; rfl
  · cases z
  · cases z
theorem RpB.tuple {pc : Option Addr} {F H : Hp} {v : V} {ds : List D} (h : RpB K pc F H v (.tuple ds)) : ∃ p vs, v = .ref p ∧ F p = some (.tup vs) ∧ RpL K F vs ds := by
  rcases h with h | ⟨_, _, _, _, z, _⟩ | ⟨_, _, _, _, z, _⟩
  · cases h with
    | tup h1 h2 => exact ⟨_, _, rfl, h1, h2⟩
  · cases z
  · cases z
theorem RpB.list {pc : Option Addr} {F H : Hp} {v : V} {ds : List D} (sb : Same F H) (h : RpB K pc F H v (.list ds)) : ∃ p vs, v = .ref p ∧ H p = some (.lst vs) ∧ RpL K F vs ds := by
  rcases h with h | ⟨p, vs, ds, rfl, z, h1, h2, _⟩ | ⟨_, _, _, _, z, _⟩
  · cases h with
    | lst h1 h2 => exact ⟨_, _, rfl, sb _ _ h1, h2⟩
  · cases z; exact ⟨p, vs, rfl, h1, h2⟩
  · cases z
theorem rd_andV {a b : M D} (h : rdF K mg E (mAndV a b) σ H Q) : tAndV (rdB K mg E a) (rdF K mg E b) σ H Q := by
  obtain ⟨fr, s, F, hs, q⟩ := h
  refine ⟨fr, s, F, hs, (Post.bnd q).mono fun x c1 F1 H1 g1 sb1 cu1 q1 v rv => ?_⟩
  have hs1 := hs.step g1 sb1 cu1
  cases x with
  | bool k =>
    refine ⟨k, rv.bool, ?_⟩
    cases k with
    | true => exact L2.iteT (⟨fr, s.wc c1, F1, hs1, q1.mono fun d c2 F2 H2 g2 sb2 cu2 q2 w r => q2 w (r.back g1)⟩)
    | false => exact L2.iteF (q1 F1 H1 (Go.refl _ _ _) sb1 cu1 _ (.bl false))
  | none => exact q1.elim
  | int _ => exact q1.elim
  | str _ => exact q1.elim
  | list _ => exact q1.elim
  | tuple _ => exact q1.elim
  | dict _ => exact q1.elim
theorem rd_orV {a b : M D} (h : rdF K mg E (mOrV a b) σ H Q) : tOrV (rdB K mg E a) (rdF K mg E b) σ H Q := by
  obtain ⟨fr, s, F, hs, q⟩ := h
  refine ⟨fr, s, F, hs, (Post.bnd q).mono fun x c1 F1 H1 g1 sb1 cu1 q1 v rv => ?_⟩
  have hs1 := hs.step g1 sb1 cu1
  cases x with
  | bool k =>
    refine ⟨k, rv.bool, ?_⟩
    cases k with
    | true => exact L2.iteT (q1 F1 H1 (Go.refl _ _ _) sb1 cu1 _ (.bl true))
    | false => exact L2.iteF (⟨fr, s.wc c1, F1, hs1, q1.mono fun d c2 F2 H2 g2 sb2 cu2 q2 w r => q2 w (r.back g1)⟩)
  | none => exact q1.elim
  | int _ => exact q1.elim
  | str _ => exact q1.elim
  | list _ => exact q1.elim
  | tuple _ => exact q1.elim
  | dict _ => exact q1.elim
theorem rd_notV {a : M D} (h : rdF K mg E (mNotV a) σ H Q) : tNotV (rdB K mg E a) σ H Q := by
  obtain ⟨fr, s, F, hs, q⟩ := h
  refine ⟨fr, s, F, hs, (Post.bnd q).mono fun x c1 F1 H1 g1 sb1 cu1 q1 v rv => ?_⟩
  cases x with
  | bool k => exact ⟨k, rv.bool, q1 F1 H1 (Go.refl _ _ _) sb1 cu1 _ (.bl _)⟩
  | none => exact q1.elim
  | int _ => exact q1.elim
  | str _ => exact q1.elim
  | list _ => exact q1.elim
  | tuple _ => exact q1.elim
  | dict _ => exact q1.elim
theorem rd_ifF {t : M Bool} {a b : M D} (h : rdF K mg E (mIf t a b) σ H Q) : tIf (rdT K mg E t) (rdF K mg E a) (rdF K mg E b) σ H Q := by
  obtain ⟨fr, s, F, hs, q⟩ := h
  refine ⟨fr, s, F, hs, (Post.bnd q).mono fun x c1 F1 H1 g1 sb1 cu1 q1 => ?_⟩
  have hs1 := hs.step g1 sb1 cu1
  cases x with
  | true => exact L2.iteT (⟨fr, s.wc c1, F1, hs1, q1.mono fun d c2 F2 H2 g2 sb2 cu2 q2 w r => q2 w (r.back g1)⟩)
  | false => exact L2.iteF (⟨fr, s.wc c1, F1, hs1, q1.mono fun d c2 F2 H2 g2 sb2 cu2 q2 w r => q2 w (r.back g1)⟩)
theorem rd_ifE {t : M Bool} {a b : M D} (h : rdE K mg E (mIf t a b) σ H Q) : tIf (rdT K mg E t) (rdE K mg E a) (rdE K mg E b) σ H Q := by
  obtain ⟨fr, s, F, hs, q⟩ := h
  refine ⟨fr, s, F, hs, (Post.bnd q).mono fun x c1 F1 H1 g1 sb1 cu1 q1 => ?_⟩
  have hs1 := hs.step g1 sb1 cu1
  cases x with
  | true => exact L2.iteT (⟨fr, s.wc c1, F1, hs1, q1⟩)
  | false => exact L2.iteF (⟨fr, s.wc c1, F1, hs1, q1⟩)
theorem rd_ifB {t : M Bool} {a b : M D} (h : rdB K mg E (mIf t a b) σ H Q) : tIf (rdT K mg E t) (rdB K mg E a) (rdB K mg E b) σ H Q := by
  obtain ⟨fr, s, F, hs, q⟩ := h
  refine ⟨fr, s, F, hs, (Post.bnd q).mono fun x c1 F1 H1 g1 sb1 cu1 q1 => ?_⟩
  have hs1 := hs.step g1 sb1 cu1
  cases x with
  | true => exact L2.iteT (⟨fr, s.wc c1, F1, hs1, q1⟩)
  | false => exact L2.iteF (⟨fr, s.wc c1, F1, hs1, q1⟩)
/-- names -/
def slB (i : Nat) : M D := fun s => match s.r[i]? with
  | some (.fz d) => .ok d s.c
  | some (.ow xs) => .ok (.list xs) s.c
  | some (.od xs) => .ok (.dict xs) s.c
  | _ => .no
def slE (i : Nat) : M D := fun s => match s.r[i]? with
  | some (.fz d) => .ok d s.c
  | _ => .no
theorem rd_slB {i : Nat} (h : rdB K mg E (slB i) σ H Q) : tVar i σ H Q := by
  obtain ⟨fr, s, F, hs, q⟩ := h
  unfold slB at q
  split at q
  · rename_i d e
    obtain ⟨o, e1, v, rfl, r⟩ := hs.sl i _ e
    exact ⟨v, e1, q F H (Go.refl _ _ _) hs.sub hs.cup v (.inl r)⟩
  · rename_i d e
    obtain ⟨o, e1, p, vs, rfl, w, r⟩ := hs.sl i _ e
    exact ⟨_, e1, q F H (Go.refl _ _ _) hs.sub hs.cup _ (.inr (.inl ⟨p, vs, _, rfl, rfl, w.h, r, w.c⟩))⟩
  · rename_i d e
    obtain ⟨o, e1, p, vs, rfl, w, r⟩ := hs.sl i _ e
    exact ⟨_, e1, q F H (Go.refl _ _ _) hs.sub hs.cup _ (.inr (.inr ⟨p, vs, _, rfl, rfl, w.h, r, w.c⟩))⟩
  · exact q.elim
theorem rd_slE {i : Nat} (h : rdE K mg E (slE i) σ H Q) : tVar i σ H Q := by
  obtain ⟨fr, s, F, hs, q⟩ := h
  unfold slE at q
  split at q
  · rename_i d e
    obtain ⟨o, e1, v, rfl, r⟩ := hs.sl i _ e
    exact ⟨v, e1, q F H (Go.refl _ _ _) hs.sub hs.cup v r⟩
  · exact q.elim
/-- a constant -/
theorem rd_c {v : V} {d : D} (hr : ∀ H F' H', RpF K H F' H' v d) (h : rdF K mg E (rt d) σ H Q) : tC v σ H Q := by
  obtain ⟨fr, s, F, hs, q⟩ := h
  exact q F H (Go.refl _ _ _) hs.sub hs.cup v (hr _ _ _)
/-- arguments -/
def aNil : M (List D) := rt []
def aCons (a : M D) (b : M (List D)) : M (List D) := bnd a fun x => bnd b fun xs => rt (x :: xs)
theorem rd_anil {Q : List V → Hp → Prop} (h : rdA K mg E aNil σ H Q) : tNil σ H Q := by
  obtain ⟨fr, s, F, hs, q⟩ := h
  exact q F H (Go.refl _ _ _) hs.sub hs.cup [] .nil
theorem rd_acons {a : M D} {b : M (List D)} {Q : List V → Hp → Prop} (h : rdA K mg E (aCons a b) σ H Q) : tCons (rdE K mg E a) (rdA K mg E b) σ H Q := by
  obtain ⟨fr, s, F, hs, q⟩ := h
  refine ⟨fr, s, F, hs, (Post.bnd q).mono fun x c1 F1 H1 g1 sb1 cu1 q1 v rv => ?_⟩
  refine ⟨fr, s.wc c1, F1, hs.step g1 sb1 cu1, (Post.bnd q1).mono fun ys c2 F2 H2 g2 sb2 cu2 q2 vs rs => ?_⟩
  exact q2 F2 H2 (Go.refl _ _ _) sb2 cu2 (v :: vs) (.cons (rv.mono g2.f) rs)
theorem leN_ex : ∃ f : Nat → Bool, ∀ n, f n = true ↔ n ≤ sizeLine := ⟨fun n => decide (n ≤ sizeLine), fun _ => decide_eq_true_iff⟩
/-- tests of size, chosen so that no one computes them -/
noncomputable def leN : Nat → Bool := Classical.choose leN_ex
theorem leN_iff {n : Nat} : leN n = true ↔ n ≤ sizeLine := Classical.choose_spec leN_ex n
theorem leN_le {n : Nat} (h : leN n = true) : n ≤ sizeLine := leN_iff.mp h
theorem ltN_ex : ∃ f : Nat → Bool, ∀ n, f n = true ↔ n < sizeLine := ⟨fun n => decide (n < sizeLine), fun _ => decide_eq_true_iff⟩
noncomputable def ltN : Nat → Bool := Classical.choose ltN_ex
theorem ltN_iff {n : Nat} : ltN n = true ↔ n < sizeLine := Classical.choose_spec ltN_ex n
theorem ltN_lt {n : Nat} (h : ltN n = true) : n < sizeLine := ltN_iff.mp h
def lenOk {α : Type} (xs : List α) : Bool := leN xs.length
def mTup (m : M (List D)) : M D := bnd m fun xs => lift (if lenOk xs = true then some (.tuple xs) else none)
def mLst (m : M (List D)) : M D := bnd m fun xs => lift (if lenOk xs = true then some (.list xs) else none)
theorem lenOk_le {α : Type} {xs : List α} (h : lenOk xs = true) : xs.length ≤ sizeLine := leN_le h
theorem new_tup {fr : Fr} {F H : Hp} {p : Addr} {vs : List V} {ds : List D} (sb : Same F H) (hp : H p = none) (r : RpL K F vs ds) :
    Go none F H (upd F p (.tup vs)) (upd H p (.tup vs)) ∧ Same (upd F p (.tup vs)) (upd H p (.tup vs)) ∧ Rp K (upd F p (.tup vs)) (.ref p) (.tuple ds) :=
  ⟨Go.newF sb hp, same_updF sb, .tup upd_same (r.mono (Go.newF (pc := none) sb hp).f)⟩
theorem new_lst {F H : Hp} {p : Addr} {vs : List V} {ds : List D} (sb : Same F H) (hp : H p = none) (r : RpL K F vs ds) :
    Go none F H F (upd H p (.lst vs)) ∧ Same F (upd H p (.lst vs)) ∧ RpF K H F (upd H p (.lst vs)) (.ref p) (.list ds) :=
  ⟨Go.newH hp, same_updH sb hp, ⟨p, vs, rfl, hp, sb.free hp, upd_same, r⟩⟩
theorem rd_tup {m : M (List D)} (h : rdF K mg E (mTup m) σ H Q) : tTup (rdA K mg E m) σ H Q := by
  obtain ⟨fr, s, F, hs, q⟩ := h
  refine ⟨fr, s, F, hs, (Post.bnd q).mono fun xs c1 F1 H1 g1 sb1 cu1 q1 vs rv => ?_⟩
  obtain ⟨z, e, k⟩ := q1.lift
  split at e
  · rename_i hl
    cases e
    refine ⟨by rw [rv.length]; exact lenOk_le hl, fun p hp => ?_⟩
    obtain ⟨g2, sb2, r2⟩ := new_tup (fr := fr) sb1 hp rv
    exact k _ _ g2.weak sb2 (cu1.go g2) _ r2
  · cases e
theorem rd_lst {m : M (List D)} (h : rdF K mg E (mLst m) σ H Q) : tLst (rdA K mg E m) σ H Q := by
  obtain ⟨fr, s, F, hs, q⟩ := h
  refine ⟨fr, s, F, hs, (Post.bnd q).mono fun xs c1 F1 H1 g1 sb1 cu1 q1 vs rv => ?_⟩
  obtain ⟨z, e, k⟩ := q1.lift
  split at e
  · rename_i hl
    cases e
    refine ⟨by rw [rv.length]; exact lenOk_le hl, fun p hp => ?_⟩
    obtain ⟨g2, sb2, r2⟩ := new_lst (K := K) sb1 hp rv
    exact k _ _ g2.weak sb2 (cu1.go g2) _ (r2.back g1)
  · cases e
end

/-! ### the rules -/
section
variable {X : Cx} {E : XK} {a b c e : Expr} {rest es : List Expr} {ma mb mc : M D} {ta tb : M Bool} {mas : M (List D)} {pos p : Pos} {x : Str} {g g' : D → D → Option D} {g1 : D → Option D}
theorem pf_int {i : Int} {j : Nat} : PF X E (.Constant (.int i) j pos) (rt (.int i)) := PE.imp pe_int fun _ _ _ => rd_c fun _ _ _ => .int i
theorem pf_bl {i : Bool} {j : Nat} : PF X E (.Constant (.bool i) j pos) (rt (.bool i)) := PE.imp pe_bl fun _ _ _ => rd_c fun _ _ _ => .bl i
theorem pf_str {i : Str} {j : Nat} : PF X E (.Constant (.str i) j pos) (rt (.str i)) := PE.imp pe_str fun _ _ _ => rd_c fun _ _ _ => .str i
theorem pf_non {j : Nat} : PF X E (.Constant .none j pos) (rt .none) := PE.imp pe_non fun _ _ _ => rd_c fun _ _ _ => .non
theorem pb_v (i : Nat) (hN : X.N[i]? = some x := by rfl) (hv : Vis X.env.scope x := by first | exact Or.inl rfl | exact Or.inr (Or.inl rfl) | exact Or.inr (Or.inr rfl)) (hd : (x == ("__debug__" : Str)) = false := by decide)
    (hcd : (x == ("__classdict__" : Str)) = false := by decide) : PB X E (.Name x pos) (slB i) := PE.imp (pe_var hN hv hd hcd) fun _ _ _ => rd_slB
theorem pd_v (i : Nat) (hN : X.N[i]? = some x := by rfl) (hv : Vis X.env.scope x := by first | exact Or.inl rfl | exact Or.inr (Or.inl rfl) | exact Or.inr (Or.inr rfl)) (hd : (x == ("__debug__" : Str)) = false := by decide)
    (hcd : (x == ("__classdict__" : Str)) = false := by decide) : PD X E (.Name x pos) (slE i) := PE.imp (pe_var hN hv hd hcd) fun _ _ _ => rd_slE
/-- a module's constant: an int, a text -/
theorem pf_gi {i : Int} (hg : Gl X x) (hm : ∃ t, X.mg x = some (.int i t)) (hd : (x == ("__debug__" : Str)) = false := by decide) : PF X E (.Name x pos) (rt (.int i)) := by
  obtain ⟨t, hm⟩ := hm
  exact PE.imp (pe_glob (v := .int i) hg hm ⟨t, rfl⟩ hd) fun _ _ _ => rd_c fun _ _ _ => .int i
theorem pf_gs {i : Str} (hg : Gl X x) (hm : ∃ t, X.mg x = some (.str i t)) (hd : (x == ("__debug__" : Str)) = false := by decide) : PF X E (.Name x pos) (rt (.str i)) := by
  obtain ⟨t, hm⟩ := hm
  exact PE.imp (pe_glob (v := .str i) hg hm ⟨t, rfl⟩ hd) fun _ _ _ => rd_c fun _ _ _ => .str i
theorem pf_op {op : Operator} (ho : OpR X (binaryOp op) (rO2 X.K g)) (ha : PB X E a ma) (hb : PB X E b mb) : PF X E (.BinOp a op b pos) (m2 g ma mb) := PE.imp (pe_op ho ha hb) fun _ _ _ => rd2
theorem pf_un {op : UnaryOp} (ho : UnR X (unaryOp op) (rO1 X.K g1)) (ha : PB X E a ma) : PF X E (.UnaryOp op a pos) (m1 g1 ma) := PE.imp (pe_un ho ha) fun _ _ _ => rd1
theorem pf_cmp {op : CmpOp} (ho : OpR X (compareOp op) (rO2 X.K g)) (ha : PB X E a ma) (hb : PB X E b mb) (hm : behindInMarks op b = false := by exact nomark _) : PF X E (.Compare a [op] [b] pos) (m2 g ma mb) := PE.imp (pe_cmpR ho ha hb hm) fun _ _ _ => rd2
theorem pt_cmp {op : CmpOp} (ho : OpR X (compareOp op) (rO2 X.K g)) (ha : PB X E a ma) (hb : PB X E b mb) (hm : behindInMarks op b = false := by exact nomark _) : PTD X E (.Compare a [op] [b] pos) (mB (m2 g ma mb)) :=
  PT.imp (pt_cmpR ho ha hb hm) fun _ _ _ q => rd2 (rd_mBF q)
theorem pf_chain {op op' : CmpOp} (ho : OpR X (compareOp op) (rO2 X.K g)) (ho' : OpR X (compareOp op') (rO2 X.K g')) (hg : ∀ x y z, g x y = some z → ∃ b, z = .bool b) (ha : PB X E a ma) (hb : PB X E b mb) (hc : PB X E c mc)
    (hm : lastMarks [op, op'] [b, c] = false := by with_unfolding_all rfl) : PF X E (.Compare a [op, op'] [b, c] pos) (mChain g g' ma mb mc) := PE.imp (pe_chain ho ho' ha hb hc hm) fun _ _ _ => rd_chain hg
theorem pt_chain {op op' : CmpOp} (ho : OpR X (compareOp op) (rO2 X.K g)) (ho' : OpR X (compareOp op') (rO2 X.K g')) (hg : ∀ x y z, g x y = some z → ∃ b, z = .bool b) (ha : PB X E a ma) (hb : PB X E b mb) (hc : PB X E c mc)
    (hm : lastMarks [op, op'] [b, c] = false := by with_unfolding_all rfl) : PTD X E (.Compare a [op, op'] [b, c] pos) (mB (mChain g g' ma mb mc)) := PT.imp (L2.pt_chain ho ho' ha hb hc hm) fun _ _ _ q => rd_chain hg (rd_mBF q)
theorem pt_e (h : PB X E e ma) (he : ∀ whole, isTrue e X.env whole = (do let v ← whole; standAt e.pos; holding [v] (truthy v)) := by intro _; rfl) : PTD X E e (mB ma) := PT.imp (pt_val h he) fun _ _ _ => rd_mB
theorem pw_and (ha : PTD X E a ta) (hb : PW X (.BoolOp .And (b :: rest) pos) (rdT X.K X.mg E tb)) : PW X (.BoolOp .And (a :: b :: rest) pos) (rdT X.K X.mg E (mAnd ta tb)) := PW.imp (L2.pw_and ha hb) fun _ _ _ => rd_and
theorem pw_or (ha : PTD X E a ta) (hb : PW X (.BoolOp .Or (b :: rest) pos) (rdT X.K X.mg E tb)) : PW X (.BoolOp .Or (a :: b :: rest) pos) (rdT X.K X.mg E (mOr ta tb)) := PW.imp (L2.pw_or ha hb) fun _ _ _ => rd_or
theorem pt_not (ha : PTD X E a ta) : PTD X E (.UnaryOp .Not a pos) (mNot ta) := PT.imp (L2.pt_not ha) fun _ _ _ => rd_not
theorem pf_and (ha : PB X E a ma) (hb : PF X E (.BoolOp .And (b :: rest) pos) mb) : PF X E (.BoolOp .And (a :: b :: rest) pos) (mAndV ma mb) := PE.imp (L2.pe_and ha hb) fun _ _ _ => rd_andV
theorem pf_or (ha : PB X E a ma) (hb : PF X E (.BoolOp .Or (b :: rest) pos) mb) : PF X E (.BoolOp .Or (a :: b :: rest) pos) (mOrV ma mb) := PE.imp (L2.pe_or ha hb) fun _ _ _ => rd_orV
theorem pf_not (ha : PB X E a ma) : PF X E (.UnaryOp .Not a pos) (mNotV ma) := PE.imp (L2.pe_not ha) fun _ _ _ => rd_notV
theorem pf_if (hc : PTD X E c ta) (ha : PF X E a ma) (hb : PF X E b mb) : PF X E (.IfExp c a b pos) (mIf ta ma mb) := PE.imp (pe_ifExp hc ha hb) fun _ _ _ => rd_ifF
theorem pd_if (hc : PTD X E c ta) (ha : PD X E a ma) (hb : PD X E b mb) : PD X E (.IfExp c a b pos) (mIf ta ma mb) := PE.imp (pe_ifExp hc ha hb) fun _ _ _ => rd_ifE
theorem pb_if (hc : PTD X E c ta) (ha : PB X E a ma) (hb : PB X E b mb) : PB X E (.IfExp c a b pos) (mIf ta ma mb) := PE.imp (pe_ifExp hc ha hb) fun _ _ _ => rd_ifB
theorem pa_nil : PAD X E [] aNil := PA.imp L2.pa_nil fun _ _ _ => rd_anil
theorem pa_cons (ha : PD X E e ma) (hr : PAD X E es mas) (hs : starEach (e :: es) X.env = (false, eval e X.env) :: starEach es X.env := by rfl) : PAD X E (e :: es) (aCons ma mas) := PA.imp (L2.pa_cons ha hr hs) fun _ _ _ => rd_acons
theorem pf_tup {k : Nat} (h : PAD X E es mas) : PF X E (.Tuple es k pos) (mTup mas) := PE.imp (pe_tup h) fun _ _ _ => rd_tup
theorem pf_lst (h : PAD X E es mas) : PF X E (.List es pos) (mLst mas) := PE.imp (pe_lst h) fun _ _ _ => rd_lst
/-- f(a), f(a, b): built-in functions and types -/
theorem pf_b1 {id : String} (hc : CallR X (.builtin id) (rC1 X.K g1)) (hg : Gl X x) (hm : X.mg x = none) (hv : bootBuiltins x = some (.builtin id)) (ha : PB X E a ma) (hn : x ≠ "__name__" := by decide) (hdb : (x == ("__debug__" : Str)) = false := by decide)
    (he : starEach [a] X.env = [(false, eval a X.env)] := by rfl) : PF X E (.Call (.Name x p) [a] [] pos) (m1 g1 ma) :=
  PE.imp (pe_callB hc hg hm hv (L2.pa_cons ha L2.pa_nil he) hn hdb he rfl) fun σ H Q q => by
    have q := rd1 q
    exact q.imp fun fr ⟨s, F, hs, k⟩ => ⟨s, F, hs, k.mono fun d c F' H' _ _ _ q2 v r => ⟨v, rfl, q2 v r⟩⟩
theorem pf_t1 {T : String} (hc : CallR X (.type T) (rC1 X.K g1)) (hg : Gl X x) (hm : X.mg x = none) (hv : bootBuiltins x = some (.type T)) (ha : PB X E a ma) (hn : x ≠ "__name__" := by decide) (hdb : (x == ("__debug__" : Str)) = false := by decide)
    (he : starEach [a] X.env = [(false, eval a X.env)] := by rfl) : PF X E (.Call (.Name x p) [a] [] pos) (m1 g1 ma) :=
  PE.imp (pe_callTy hc hg hm hv (L2.pa_cons ha L2.pa_nil he) hn hdb he rfl) fun σ H Q q => by
    have q := rd1 q
    exact q.imp fun fr ⟨s, F, hs, k⟩ => ⟨s, F, hs, k.mono fun d c F' H' _ _ _ q2 v r => ⟨v, rfl, q2 v r⟩⟩
theorem rd2_args {K : PySem.W.Frag} {mg : Str → Option Value} {σ : L2.St} {H : Hp} {Q : VK} (q : rdF K mg E (m2 g ma mb) σ H Q) : tCB (rC2 K g) (tCons (rdB K mg E ma) (tCons (rdB K mg E mb) tNil)) σ H Q :=
  (rd2 q).imp fun fr ⟨s, F, hs, k⟩ => ⟨s, F, hs, k.mono fun d c F' H' _ _ _ q2 v r => (q2 v r).imp fun fr2 ⟨s2, F2, hs2, k2⟩ => ⟨s2, F2, hs2, k2.mono fun d2 c2 F3 H3 _ _ _ q3 w r2 => ⟨v, w, rfl, q3 w r2⟩⟩⟩
theorem pf_b2 {id : String} (hc : CallR X (.builtin id) (rC2 X.K g)) (hg : Gl X x) (hm : X.mg x = none) (hv : bootBuiltins x = some (.builtin id)) (ha : PB X E a ma) (hb : PB X E b mb) (hn : x ≠ "__name__" := by decide) (hdb : (x == ("__debug__" : Str)) = false := by decide)
    (he : starEach [a, b] X.env = [(false, eval a X.env), (false, eval b X.env)] := by rfl) (he2 : starEach [b] X.env = [(false, eval b X.env)] := by rfl) : PF X E (.Call (.Name x p) [a, b] [] pos) (m2 g ma mb) :=
  PE.imp (pe_callB hc hg hm hv (L2.pa_cons ha (L2.pa_cons hb L2.pa_nil he2) (by rw [he2]; exact he)) hn hdb (by rw [he2]; exact he) (by rw [he2]; rfl)) fun σ H Q q => rd2_args q
/-- isinstance(a, T) -/
theorem pe_isi {T id : String} {pT : Pos} (hc : ∀ (y : V), y = .ty T → CallR X (.builtin id) fun xs H Q => ∃ x, xs = [x, y] ∧ rO1 X.K g1 x H Q) (hg : Gl X x) (hm : X.mg x = none) (hv : bootBuiltins x = some (.builtin id)) (ha : PB X E a ma) {t : Str}
    (hgT : Gl X t) (hmT : X.mg t = none) (hvT : bootBuiltins t = some (.type T)) (hn : x ≠ "__name__" := by decide) (hdb : (x == ("__debug__" : Str)) = false := by decide) (hnT : t ≠ "__name__" := by decide) (hdT : (t == ("__debug__" : Str)) = false := by decide)
    (he : starEach [a, .Name t pT] X.env = [(false, eval a X.env), (false, eval (.Name t pT) X.env)] := by rfl) (he2 : starEach [.Name t pT] X.env = [(false, eval (.Name t pT) X.env)] := by rfl) : PF X E (.Call (.Name x p) [a, .Name t pT] [] pos) (m1 g1 ma) :=
  PE.imp (pe_callB (hc _ rfl) hg hm hv (L2.pa_cons ha (L2.pa_cons (pe_bltn (v := .ty T) hgT hmT hvT rfl hnT hdT) L2.pa_nil he2) (by rw [he2]; exact he)) hn hdb (by rw [he2]; exact he) (by rw [he2]; rfl)) fun σ H Q q => by
    have q := rd1 q
    exact q.imp fun fr ⟨s, F, hs, k⟩ => ⟨s, F, hs, k.mono fun d c F' H' _ _ _ q2 v r => ⟨v, rfl, q2 v r⟩⟩
/-- a[b] -/
theorem pf_ix (hr : IxR X (rO2 X.K g)) (ha : PB X E a ma) (hb : PB X E b mb) (hs : PlainIx b := by exact fun _ _ => rfl) : PF X E (.Subscript a b pos) (m2 g ma mb) := PE.imp (pe_ix hr ha hb hs) fun _ _ _ => rd2
end
end Pu
end

noncomputable section
set_option Elab.async false
set_option linter.all false
set_option maxRecDepth 100000
set_option maxHeartbeats 4000000
/-! Pu, third part: what operations do to data. -/
namespace Pu
open PySem PySem.Spec L2

mutual
theorem plain_of_lay : ∀ d : D, d.canLay0 = true → plain d = true
  | .none, _ => rfl
  | .bool _, _ => rfl
  | .int _, _ => rfl
  | .str _, _ => rfl
  | .list xs, h => plainAll_of_lay xs (by simpa [PyData.canLay0] using h)
  | .tuple xs, h => plainAll_of_lay xs (by simpa [PyData.canLay0] using h)
  | .dict _, h => by simp [PyData.canLay0] at h
theorem plainAll_of_lay : ∀ ds : List D, PyData.canLayAll0 ds = true → plain.plainAll ds = true
  | [], _ => rfl
  | x :: xs, h => by
    simp [PyData.canLayAll0] at h
    simp [plain.plainAll, plain_of_lay x h.1, plainAll_of_lay xs h.2]
end
section
variable {K : PySem.W.Frag} {pc : Option Addr} {F H : Hp} {v : V} {d : D}
theorem RpB.dpH (sb : Same F H) (p : plain d = true) (h : RpB K pc F H v d) : Dp K H v d := by
  rcases h with h | ⟨p', vs, ds, rfl, rfl, h1, h2, _⟩ | ⟨_, _, _, _, rfl, _⟩
  · exact (h.mono sb).dp p
  · exact .lst (SqL.of h1) ((h2.mono sb).dp (by simpa [plain] using p))
  · simp [plain] at p
theorem atI_map {vs : List V} {ds : List D} (r : RpL K F vs ds) {i : Int} {d : D} (h : atI ds i = some d) : ∃ v, atI vs i = some v ∧ Rp K F v d := by
  unfold atI at h ⊢
  rw [r.length]
  cases e : ixN ds.length i with
  | none => rw [e] at h; cases h
  | some j =>
    rw [e] at h
    exact r.get j h
end
/-! ### + - * // % -/
def addD : D → D → Option D
  | .int i, .int j => some (.int (i + j))
  | .str a, .str b => if leN (a.length + b.length) = true then some (.str (a ++ b)) else none
  | .list a, .list b => if leN (a.length + b.length) = true then some (.list (a ++ b)) else none
  | .tuple a, .tuple b => if leN (a.length + b.length) = true then some (.tuple (a ++ b)) else none
  | _, _ => none
def subD : D → D → Option D
  | .int i, .int j => some (.int (i - j))
  | _, _ => none
theorem smallI_ex : ∃ f : Int → Bool, ∀ i, f i = true ↔ (-(2 ^ 64) < i ∧ i < 2 ^ 64) := ⟨fun i => decide (-(2 ^ 64) < i ∧ i < 2 ^ 64), fun _ => decide_eq_true_iff⟩
noncomputable def smallI : Int → Bool := Classical.choose smallI_ex
theorem smallI_i {i : Int} : smallI i = true ↔ (-(2 ^ 64) < i ∧ i < 2 ^ 64) := Classical.choose_spec smallI_ex i
def repS (a : Str) (k : Int) : Str := if k < 1 then Str.empty else ⟨(List.replicate k.toNat a.cps).foldl (· ++ ·) #[]⟩
theorem foldl_repN (l : List Nat) : ∀ (m : Nat) (acc : List Nat), (List.replicate m l.toArray).foldl (· ++ ·) acc.toArray = (acc ++ (List.replicate m l).flatten).toArray
  | 0, acc => by simp
  | m + 1, acc => by
    have := foldl_repN l m (acc ++ l)
    simp only [List.replicate_succ, List.foldl_cons, List.flatten_cons, List.append_toArray, ← List.append_assoc]
    exact this
theorem repS_cps (a : Str) {k : Int} (h : ¬ k < 1) : (repS a k) = ⟨(List.replicate k.toNat a.cps.toList).flatten.toArray⟩ := by
  unfold repS
  rw [if_neg h]
  have := foldl_repN a.cps.toList k.toNat []
  simp only [Array.toArray_toList, List.nil_append] at this
  rw [← this]
theorem repOk_ex : ∃ f : Str → Int → Bool, ∀ a k, f a k = true ↔ (-1000000 ≤ k ∧ k ≤ 1000 ∧ a.length ≤ 1000) := ⟨fun a k => decide (-1000000 ≤ k ∧ k ≤ 1000 ∧ a.length ≤ 1000), fun _ _ => decide_eq_true_iff⟩
noncomputable def repOk : Str → Int → Bool := Classical.choose repOk_ex
theorem repOk_i {a : Str} {k : Int} : repOk a k = true ↔ (-1000000 ≤ k ∧ k ≤ 1000 ∧ a.length ≤ 1000) := Classical.choose_spec repOk_ex a k
def mulD : D → D → Option D
  | .int i, .int j => if (smallI i || smallI j) = true then some (.int (i * j)) else none
  | .str a, .int k => if repOk a k = true then some (.str (repS a k)) else none
  | _, _ => none
def fdivD : D → D → Option D
  | .int i, .int j => if j ≠ 0 ∧ j.natAbs < 1073741824 then some (.int (i.fdiv j)) else none
  | _, _ => none
def modD : D → D → Option D
  | .int i, .int j => if j ≠ 0 then some (.int (i.fmod j)) else none
  | _, _ => none
def negD : D → Option D
  | .int i => some (.int (-i))
  | _ => none
section
variable {X : Cx}
theorem od_add : OpR X (binaryOp .Add) (rO2 X.K addD) := by
  refine OpR.imp ((op_add.or op_add_str).or (op_cat.or op_catA)) fun x y H Q ⟨pc, F, d, e, z, r1, r2, sb, h, q⟩ => ?_
  unfold addD at h
  split at h
  · cases h
    exact .inl (.inl ⟨_, _, r1.int, r2.int, q _ _ _ (Go.refl _ _ _) sb (.int _)⟩)
  · split at h
    · rename_i hl
      cases h
      exact .inl (.inr ⟨_, _, r1.str, r2.str, leN_le hl, q _ _ _ (Go.refl _ _ _) sb (.str _)⟩)
    · cases h
  · split at h
    · rename_i hl
      cases h
      obtain ⟨p, vs, rfl, h1, k1⟩ := r1.list sb
      obtain ⟨p', ws, rfl, h2, k2⟩ := r2.list sb
      refine .inr (.inl ⟨p, p', vs, ws, rfl, rfl, h1, h2, by rw [k1.length, k2.length]; exact leN_le hl, fun t ht => ?_⟩)
      obtain ⟨g, s2, r3⟩ := new_lst (K := X.K) sb ht (k1.append k2)
      exact q _ _ _ g s2 r3
    · cases h
  · split at h
    · rename_i hl
      cases h
      obtain ⟨p, vs, rfl, h1, k1⟩ := r1.tuple
      obtain ⟨p', ws, rfl, h2, k2⟩ := r2.tuple
      refine .inr (.inr ⟨p, p', vs, ws, rfl, rfl, SqT.of (sb _ _ h1), SqT.of (sb _ _ h2), by rw [k1.length, k2.length]; exact leN_le hl, fun e1 => ?_, fun e1 e2 => ?_, fun e1 e2 t ht => ?_⟩)
      · subst e1
        cases k1
        exact q _ _ _ (Go.refl _ _ _) sb (.tup h2 k2)
      · subst e2
        cases k2
        rw [List.append_nil] at q
        exact q _ _ _ (Go.refl _ _ _) sb (.tup h1 k1)
      · obtain ⟨g, s2, r3⟩ := new_tup (K := X.K) (fr := ⟨none, F, H⟩) sb ht (k1.append k2)
        exact q _ _ _ g s2 r3
    · cases h
  · cases h
theorem od_sub : OpR X (binaryOp .Sub) (rO2 X.K subD) := by
  refine OpR.imp op_sub fun x y H Q ⟨pc, F, d, e, z, r1, r2, sb, h, q⟩ => ?_
  unfold subD at h
  split at h
  · cases h
    exact ⟨_, _, r1.int, r2.int, q _ _ _ (Go.refl _ _ _) sb (.int _)⟩
  · cases h
theorem smallI_iff {i : Int} (h : smallI i = true) : -(2 ^ 64) < i ∧ i < 2 ^ 64 := smallI_i.mp h
theorem op_mulS {X : Cx} : OpR X (binaryOp .Mult) (fun x y H Q => ∃ (a : Str) (k : Int), x = .str a ∧ y = .int k ∧ -1000000 ≤ k ∧ k ≤ 1000 ∧ a.length ≤ 1000 ∧ Q (.str (repS a k)) H) := by
  intro pins s σ H x y v u Q I rx ry h
  obtain ⟨a, k, rfl, rfl, h1, h2, h3, q⟩ := h
  obtain ⟨t, rfl⟩ := rx
  obtain ⟨u, rfl⟩ := ry
  have hlen : a.length * k.toNat ≤ 1000000 := by
    have : a.length * k.toNat ≤ 1000 * 1000 := Nat.mul_le_mul h3 (by omega)
    omega
  refine PySem.P.mul_str ?_ ?_ ?_ ?_
  · rw [decide_eq_false (by omega), decide_eq_false (by omega)]; rfl
  · intro a1 a2
    have hk : 1 ≤ k := by omega
    have : (1000 : Int) ≤ (2 ^ 63 - 1) / k := by
      rw [Int.le_ediv_iff_mul_le (by omega)]
      omega
    omega
  · intro a1 a2
    exact decide_eq_false (by rw [sizeLine_eq]; omega)
  · split
    · rename_i hk
      refine ⟨by decide, Str.empty |> V.str, H, I.tok _, ⟨_, rfl⟩, ?_⟩
      have e : repS a k = Str.empty := if_pos hk
      rw [e] at q; exact q
    · rename_i hk
      split
      · rename_i hk2
        refine ⟨.str a, H, I, ⟨_, rfl⟩, ?_⟩
        have e : repS a k = a := by
          rw [repS_cps a hk]
          rcases Bool.or_eq_true _ _ ▸ hk2 with e | e
          · have e : k = 1 := by simpa using e
            subst e
            simp
          · have e : a.length = 0 := by simpa using e
            have e : a.cps = #[] := Array.eq_empty_of_size_eq_zero e
            cases a
            simp only at e
            subst e
            simp
        rw [e] at q; exact q
      · refine ⟨?_, .str (repS a k), H, I.tok _, ⟨_, by rw [repS, if_neg hk]⟩, q⟩
        have := repS_cps a hk
        rw [repS, if_neg hk] at this
        rw [this, sizeLine_eq]
        show (List.flatten (List.replicate k.toNat a.cps.toList)).toArray.size ≤ _
        have e : a.cps.size = a.length := rfl
        simp [e]
        rw [Nat.mul_comm]; omega
theorem od_mul : OpR X (binaryOp .Mult) (rO2 X.K mulD) := by
  refine OpR.imp (OpR.or op_mul op_mulS) fun x y H Q ⟨pc, F, d, e, z, r1, r2, sb, h, q⟩ => ?_
  unfold mulD at h
  split at h
  · split at h
    · rename_i hl
      cases h
      refine .inl ⟨_, _, r1.int, r2.int, ?_, q _ _ _ (Go.refl _ _ _) sb (.int _)⟩
      rcases Bool.or_eq_true _ _ ▸ hl with hl | hl
      · exact .inl (smallI_iff hl)
      · exact .inr (smallI_iff hl)
    · cases h
  · split at h
    · rename_i hl
      cases h
      obtain ⟨l1, l2, l3⟩ := repOk_i.mp hl
      exact .inr ⟨_, _, r1.str, r2.int, l1, l2, l3, q _ _ _ (Go.refl _ _ _) sb (.str _)⟩
    · cases h
  · cases h
theorem od_fdiv : OpR X (binaryOp .FloorDiv) (rO2 X.K fdivD) := by
  refine OpR.imp op_fdivN fun x y H Q ⟨pc, F, d, e, z, r1, r2, sb, h, q⟩ => ?_
  unfold fdivD at h
  split at h
  · split at h
    · rename_i hl
      cases h
      exact ⟨_, _, r1.int, r2.int, hl, q _ _ _ (Go.refl _ _ _) sb (.int _)⟩
    · cases h
  · cases h
theorem od_mod : OpR X (binaryOp .Mod) (rO2 X.K modD) := by
  refine OpR.imp op_modN fun x y H Q ⟨pc, F, d, e, z, r1, r2, sb, h, q⟩ => ?_
  unfold modD at h
  split at h
  · split at h
    · rename_i hl
      cases h
      exact ⟨_, _, r1.int, r2.int, hl, q _ _ _ (Go.refl _ _ _) sb (.int _)⟩
    · cases h
  · cases h
theorem ud_neg : UnR X (unaryOp .USub) (rO1 X.K negD) := by
  refine UnR.imp un_neg fun x H Q ⟨pc, F, d, z, r1, sb, h, q⟩ => ?_
  unfold negD at h
  split at h
  · cases h
    exact ⟨_, r1.int, q _ _ _ (Go.refl _ _ _) sb (.int _)⟩
  · cases h
end
/-! ### comparisons -/
def cps (x : Str) : List Nat := x.cps.toList
def ltD : D → D → Option D
  | .int i, .int j => some (.bool (decide (i < j)))
  | .str a, .str b => some (.bool (decide (cps a < cps b)))
  | _, _ => none
def leD : D → D → Option D
  | .int i, .int j => some (.bool (decide (i ≤ j)))
  | .str a, .str b => some (.bool (!decide (cps b < cps a)))
  | _, _ => none
def gtD : D → D → Option D
  | .int i, .int j => some (.bool (decide (j < i)))
  | .str a, .str b => some (.bool (decide (cps b < cps a)))
  | _, _ => none
def geD : D → D → Option D
  | .int i, .int j => some (.bool (decide (j ≤ i)))
  | .str a, .str b => some (.bool (!decide (cps a < cps b)))
  | _, _ => none
def isD : D → D → Option D
  | x, .none => some (.bool (match x with | .none => true | _ => false))
  | .bool a, .bool b => some (.bool (decide (a = b)))
  | _, _ => none
def isnD : D → D → Option D
  | x, .none => some (.bool (match x with | .none => false | _ => true))
  | .bool a, .bool b => some (.bool (!decide (a = b)))
  | _, _ => none
def scalD : D → D → Bool
  | .none, .none => true | .none, .int _ => true | .int _, .none => true | .none, .bool _ => true | .bool _, .none => true | .none, .str _ => true | .str _, .none => true
  | .int _, .int _ => true | .bool _, .bool _ => true | .str _, .str _ => true
  | .int _, .str _ => true | .str _, .int _ => true | .bool _, .str _ => true | .str _, .bool _ => true
  | _, _ => false
def eqD (x y : D) : Option D := if (scalD x y || (SeqAt.shaped x && SeqAt.shaped y)) = true then some (.bool (PyData.eqv x y)) else none
def neD (x y : D) : Option D := if (scalD x y || (SeqAt.shaped x && SeqAt.shaped y)) = true then some (.bool (!PyData.eqv x y)) else none
theorem ltD_b : ∀ x y z, ltD x y = some z → ∃ b, z = .bool b := by
  intro x y z h; unfold ltD at h; split at h <;> first | (cases h; exact ⟨_, rfl⟩) | cases h
theorem leD_b : ∀ x y z, leD x y = some z → ∃ b, z = .bool b := by
  intro x y z h; unfold leD at h; split at h <;> first | (cases h; exact ⟨_, rfl⟩) | cases h
section
variable {X : Cx}
theorem od_lt : OpR X (compareOp .Lt) (rO2 X.K ltD) := by
  refine OpR.imp (op_lt.or op_lt_str) fun x y H Q ⟨pc, F, d, e, z, r1, r2, sb, h, q⟩ => ?_
  unfold ltD at h
  split at h
  · cases h; exact .inl ⟨_, _, r1.int, r2.int, q _ _ _ (Go.refl _ _ _) sb (.bl _)⟩
  · cases h; exact .inr ⟨_, _, r1.str, r2.str, q _ _ _ (Go.refl _ _ _) sb (.bl _)⟩
  · cases h
theorem od_le : OpR X (compareOp .LtE) (rO2 X.K leD) := by
  refine OpR.imp (op_le.or op_le_str) fun x y H Q ⟨pc, F, d, e, z, r1, r2, sb, h, q⟩ => ?_
  unfold leD at h
  split at h
  · cases h; exact .inl ⟨_, _, r1.int, r2.int, q _ _ _ (Go.refl _ _ _) sb (.bl _)⟩
  · cases h; exact .inr ⟨_, _, r1.str, r2.str, q _ _ _ (Go.refl _ _ _) sb (.bl _)⟩
  · cases h
theorem od_gt : OpR X (compareOp .Gt) (rO2 X.K gtD) := by
  refine OpR.imp (op_gt.or op_gt_str) fun x y H Q ⟨pc, F, d, e, z, r1, r2, sb, h, q⟩ => ?_
  unfold gtD at h
  split at h
  · cases h; exact .inl ⟨_, _, r1.int, r2.int, q _ _ _ (Go.refl _ _ _) sb (.bl _)⟩
  · cases h; exact .inr ⟨_, _, r1.str, r2.str, q _ _ _ (Go.refl _ _ _) sb (.bl _)⟩
  · cases h
theorem od_ge : OpR X (compareOp .GtE) (rO2 X.K geD) := by
  refine OpR.imp (op_ge.or op_ge_str) fun x y H Q ⟨pc, F, d, e, z, r1, r2, sb, h, q⟩ => ?_
  unfold geD at h
  split at h
  · cases h; exact .inl ⟨_, _, r1.int, r2.int, q _ _ _ (Go.refl _ _ _) sb (.bl _)⟩
  · cases h; exact .inr ⟨_, _, r1.str, r2.str, q _ _ _ (Go.refl _ _ _) sb (.bl _)⟩
  · cases h
theorem RpB.isNon {pc : Option Addr} {K : PySem.W.Frag} {F H : Hp} {v : V} {d : D} (h : RpB K pc F H v d) : decide (v = .non) = (match d with | .none => true | _ => false) := by
  rcases h with h | ⟨_, _, _, rfl, rfl, _⟩ | ⟨_, _, _, rfl, rfl, _⟩
  · cases h <;> rfl
  · rfl
  · rfl
theorem od_is : OpR X (compareOp .Is) (rO2 X.K isD) := by
  refine OpR.imp (op_isN.or op_is_bl) fun x y H Q ⟨pc, F, d, e, z, r1, r2, sb, h, q⟩ => ?_
  unfold isD at h
  split at h
  · cases h
    refine .inl ⟨r2.none, ?_⟩
    rw [r1.isNon]
    have := q (.bl _) _ _ (Go.refl _ _ _) sb (.bl _)
    cases d <;> exact this
  · cases h
    exact .inr ⟨_, _, r1.bool, r2.bool, q _ _ _ (Go.refl _ _ _) sb (.bl _)⟩
  · cases h
theorem od_isn : OpR X (compareOp .IsNot) (rO2 X.K isnD) := by
  refine OpR.imp (op_notN.or op_isnot_bl) fun x y H Q ⟨pc, F, d, e, z, r1, r2, sb, h, q⟩ => ?_
  unfold isnD at h
  split at h
  · cases h
    refine .inl ⟨r2.none, ?_⟩
    rw [r1.isNon]
    have := q (.bl _) _ _ (Go.refl _ _ _) sb (.bl _)
    cases d <;> exact this
  · cases h
    exact .inr ⟨_, _, r1.bool, r2.bool, q _ _ _ (Go.refl _ _ _) sb (.bl _)⟩
  · cases h
theorem scal_ok {pc : Option Addr} {K : PySem.W.Frag} {F H : Hp} {x y : V} {d e : D} (hs : scalD d e = true) (r1 : RpB K pc F H x d) (r2 : RpB K pc F H y e) : scal x y = true ∧ decide (x = y) = PyData.eqv d e := by
  unfold scalD at hs
  split at hs
  all_goals first
    | (cases hs; done)
    | (first | (have e1 := r1.int; subst e1) | (have e1 := r1.bool; subst e1) | (have e1 := r1.str; subst e1) | (have e1 := r1.none; subst e1)
       first | (have e2 := r2.int; subst e2) | (have e2 := r2.bool; subst e2) | (have e2 := r2.str; subst e2) | (have e2 := r2.none; subst e2)
       refine ⟨rfl, ?_⟩
       first | rw [dec_int] | rw [dec_bl] | rw [dec_str] | skip
       first | (simp [PyData.eqv]; done) | rfl | (simp [PyData.eqv]; decide))
theorem shaped_plain {d : D} (h : SeqAt.shaped d = true) : plain d = true := plain_of_lay d (SeqAt.canLay_of_shaped h)
theorem od_eq (hu : X.A.units + 64 < cLine) : OpR X (compareOp .Eq) (rO2 X.K eqD) := by
  refine OpR.imp (op_eq.or (op_eqD hu)) fun x y H Q ⟨pc, F, d, e, z, r1, r2, sb, h, q⟩ => ?_
  unfold eqD at h
  split at h
  · rename_i hc
    cases h
    have q' := q (.bl (PyData.eqv d e)) _ _ (Go.refl _ _ _) sb (.bl _)
    rcases Bool.or_eq_true _ _ ▸ hc with hc | hc
    · obtain ⟨h1, h2⟩ := scal_ok hc r1 r2
      exact .inl ⟨h1, by rw [h2]; exact q'⟩
    · have hc := Bool.and_eq_true_iff.mp hc
      exact .inr ⟨d, e, r1.dpH sb (shaped_plain hc.1), r2.dpH sb (shaped_plain hc.2), hc.1, hc.2, q'⟩
  · cases h
theorem od_ne (hu : X.A.units + 64 < cLine) : OpR X (compareOp .NotEq) (rO2 X.K neD) := by
  refine OpR.imp (op_ne.or (op_neD hu)) fun x y H Q ⟨pc, F, d, e, z, r1, r2, sb, h, q⟩ => ?_
  unfold neD at h
  split at h
  · rename_i hc
    cases h
    have q' := q (.bl (!PyData.eqv d e)) _ _ (Go.refl _ _ _) sb (.bl _)
    rcases Bool.or_eq_true _ _ ▸ hc with hc | hc
    · obtain ⟨h1, h2⟩ := scal_ok hc r1 r2
      exact .inl ⟨h1, by rw [h2]; exact q'⟩
    · have hc := Bool.and_eq_true_iff.mp hc
      exact .inr ⟨d, e, r1.dpH sb (shaped_plain hc.1), r2.dpH sb (shaped_plain hc.2), hc.1, hc.2, q'⟩
  · cases h
end
/-! ### subscripts -/
def ixD : D → D → Option D
  | .list xs, .int i => atI xs i
  | .tuple xs, .int i => atI xs i
  | .str z, .int i => if leN z.length = true then (atI (cps z) i).map fun c => .str ⟨#[c]⟩ else none
  | _, _ => none
/-- an item that is frozen: any list or dict within is not new -/
theorem finE {K : PySem.W.Frag} {F H : Hp} {d : D} {Q : VK} {v : V} (q : ∀ v F' H', Go none F H F' H' → Same F' H' → Rp K F' v d → Q v H') (sb : Same F H) (r : Rp K F v d) : Q v H := q v F H (Go.refl _ _ _) sb r
/-- readings whose answer is frozen -/
def FinE (K : PySem.W.Frag) (H : Hp) (F : Hp) (z : D) (Q : VK) : Prop := ∀ v F' H', Go none F H F' H' → Same F' H' → Rp K F' v z → Q v H'
def rO2E (K : PySem.W.Frag) (g : D → D → Option D) : R2 := fun x y H Q => ∃ pc F d e z, RpB K pc F H x d ∧ RpB K pc F H y e ∧ Same F H ∧ g d e = some z ∧ FinE K H F z Q
def rO1E (K : PySem.W.Frag) (g : D → Option D) : V → Hp → VK → Prop := fun x H Q => ∃ pc F d z, RpB K pc F H x d ∧ Same F H ∧ g d = some z ∧ FinE K H F z Q
def rC1E (K : PySem.W.Frag) (g : D → Option D) : List V → Hp → VK → Prop := fun xs H Q => ∃ x, xs = [x] ∧ rO1E K g x H Q
section
variable {K : PySem.W.Frag} {mg : Str → Option Value} {E : XK} {ma mb mc : M D} {σ : L2.St} {H : Hp} {Q : VK} {g g' : D → D → Option D} {g1 : D → Option D}
theorem rd1E (h : rdE K mg E (m1 g1 ma) σ H Q) : tUn (rO1E K g1) (rdB K mg E ma) σ H Q := by
  obtain ⟨fr, s, F, hs, q⟩ := h
  refine ⟨fr, s, F, hs, (Post.bnd q).mono fun x c1 F1 H1 g1 sb1 cu1 q1 v rv => ?_⟩
  obtain ⟨z, e, k⟩ := q1.lift
  exact ⟨fr.pc, F1, x, z, rv, sb1, e, fun v F' H' g3 sb3 r3 => k F' H' g3.weak sb3 (cu1.go g3) v r3⟩
theorem rd2E (h : rdE K mg E (m2 g ma mb) σ H Q) : tOp (rO2E K g) (rdB K mg E ma) (rdB K mg E mb) σ H Q := by
  obtain ⟨fr, s, F, hs, q⟩ := h
  refine ⟨fr, s, F, hs, (Post.bnd q).mono fun x c1 F1 H1 g1 sb1 cu1 q1 v rv => ?_⟩
  refine ⟨fr, s.wc c1, F1, hs.step g1 sb1 cu1, (Post.bnd q1).mono fun y c2 F2 H2 g2 sb2 cu2 q2 w rw => ?_⟩
  obtain ⟨z, e, k⟩ := q2.lift
  exact ⟨fr.pc, F2, x, y, z, rv.go g2, rw, sb2, e, fun v F' H' g3 sb3 r3 => k F' H' g3.weak sb3 (cu2.go g3) v r3⟩
end
section
variable {X : Cx} {E : XK} {a b : Expr} {ma mb : M D} {pos p : Pos} {x : Str}
theorem RpB.listF {K : PySem.W.Frag} {pc : Option Addr} {F H : Hp} {v : V} {ds : List D} (sb : Same F H) (h : RpB K pc F H v (.list ds)) : ∃ p vs, v = .ref p ∧ SqL K H p vs ∧ RpL K F vs ds := by
  obtain ⟨p, vs, e, h1, h2⟩ := h.list sb
  exact ⟨p, vs, e, SqL.of h1, h2⟩
theorem ixd : IxR X (rO2E X.K ixD) := by
  refine IxR.imp ix_seq fun x y H Q ⟨pc, F, d, e, z, r1, r2, sb, h, q⟩ => ?_
  unfold ixD at h
  split at h
  · obtain ⟨p, vs, rfl, h1, k1⟩ := r1.listF sb
    obtain ⟨v, e, r⟩ := atI_map k1 h
    exact .inl ⟨p, vs, _, v, rfl, r2.int, h1, e, q _ _ _ (Go.refl _ _ _) sb r⟩
  · obtain ⟨p, vs, rfl, h1, k1⟩ := r1.tuple
    obtain ⟨v, e, r⟩ := atI_map k1 h
    exact .inr (.inl ⟨p, vs, _, v, rfl, r2.int, SqT.of (sb _ _ h1), e, q _ _ _ (Go.refl _ _ _) sb r⟩)
  · split at h
    · rename_i z' i hl
      cases e1 : atI (cps z') i with
      | none => rw [e1] at h; cases h
      | some c =>
        rw [e1] at h
        cases h
        exact .inr (.inr ⟨_, _, c, r1.str, r2.int, leN_le hl, e1, q _ _ _ (Go.refl _ _ _) sb (.str _)⟩)
    · cases h
  · cases h
theorem pd_ix (ha : PB X E a ma) (hb : PB X E b mb) (hs : PlainIx b := by exact fun _ _ => rfl) : PD X E (.Subscript a b pos) (m2 ixD ma mb) := PE.imp (pe_ix ixd ha hb hs) fun _ _ _ => rd2E
/-! ### slices -/
end
/-- a frozen bool is fresh -/
def mBd (m : M D) : M D := bnd m fun d => match d with
  | .bool b => rt (.bool b)
  | _ => lift none
theorem ef_b {X : Cx} {E : XK} {e : Expr} {m : M D} (h : PD X E e m) : PF X E e (mBd m) := PE.imp h fun σ H Q ⟨fr, s, F, hs, q⟩ => ⟨fr, s, F, hs, (Post.bnd q).mono fun d c F' H' g sb cu q1 v r => by
  cases d with
  | bool b => exact q1 F' H' (Go.refl _ _ _) sb cu v r
  | none => exact q1.elim
  | int _ => exact q1.elim
  | str _ => exact q1.elim
  | list _ => exact q1.elim
  | tuple _ => exact q1.elim
  | dict _ => exact q1.elim⟩
/-! ### built-ins -/
def lenD : D → Option D
  | .str x => if leN x.length = true then some (.int x.length) else none
  | .list xs => some (.int xs.length)
  | .tuple xs => some (.int xs.length)
  | _ => none
def absD : D → Option D
  | .int i => some (.int (if i < 0 then -i else i))
  | _ => none
def min2D : D → D → Option D
  | .int i, .int j => some (.int (if j < i then j else i))
  | _, _ => none
def max2D : D → D → Option D
  | .int i, .int j => some (.int (if j > i then j else i))
  | _, _ => none
def intD : D → Option D
  | .int i => some (.int i)
  | .bool k => some (.int (if k then 1 else 0))
  | _ => none
def strD : D → Option D
  | .str a => some (.str a)
  | .int i => if i.natAbs.log2 < 1920 then some (.str (toString i)) else none
  | _ => none
@[simp] def boolsD : List D → Option (List Bool)
  | [] => some []
  | .bool b :: r => (boolsD r).map (b :: ·)
  | _ => none
@[simp] def intsD : List D → Option (List Int)
  | [] => some []
  | .int b :: r => (intsD r).map (b :: ·)
  | _ => none
def allD : D → Option D
  | .list xs => (boolsD xs).map fun bs => .bool (bs.all id)
  | _ => none
def anyD : D → Option D
  | .list xs => (boolsD xs).map fun bs => .bool (bs.any id)
  | _ => none
def sumD : D → Option D
  | .list xs => (intsD xs).map fun ns => .int ns.sum
  | _ => none
def tyN : D → String
  | .none => "NoneType" | .bool _ => "bool" | .int _ => "int" | .str _ => "str" | .list _ => "list" | .tuple _ => "tuple" | .dict _ => "dict"
def isIntD : D → Option D
  | .int _ => some (.bool true) | .bool _ => some (.bool true) | _ => some (.bool false)
def isBoolD : D → Option D
  | .bool _ => some (.bool true) | _ => some (.bool false)
def isStrD : D → Option D
  | .str _ => some (.bool true) | _ => some (.bool false)
def isTupD : D → Option D
  | .tuple _ => some (.bool true) | _ => some (.bool false)
def isLstD : D → Option D
  | .list _ => some (.bool true) | _ => some (.bool false)
def listD : D → Option D
  | .list xs => some (.list xs)
  | .tuple xs => some (.list xs)
  | _ => none
def tupD : D → Option D
  | .list xs => some (.tuple xs)
  | .tuple xs => some (.tuple xs)
  | _ => none
def powD : D → D → Option D
  | .int i, .int j => if 0 ≤ j ∧ j ≤ 1000000 ∧ i.natAbs < 2 ^ 64 then some (.int (i ^ j.toNat)) else none
  | _, _ => none
section
variable {X : Cx}
theorem od_pow : OpR X (binaryOp .Pow) (rO2 X.K powD) := by
  refine OpR.imp op_pow fun x y H Q ⟨pc, F, d, e, z, r1, r2, sb, h, q⟩ => ?_
  unfold powD at h
  split at h
  · split at h
    · rename_i hl
      cases h
      exact ⟨_, _, r1.int, r2.int, hl, q _ _ _ (Go.refl _ _ _) sb (.int _)⟩
    · cases h
  · cases h
theorem cd_list : CallR X (.type "list") (rC1 X.K listD) := by
  refine CallR.imp call_list_of fun xs H Q ⟨x, e, pc, F, d, z, r, sb, h, q⟩ => ?_
  subst e
  unfold listD at h
  split at h
  · cases h
    obtain ⟨p, vs, rfl, h1, k1⟩ := r.listF sb
    refine ⟨p, vs, rfl, .inl h1, fun t ht => ?_⟩
    obtain ⟨g, s2, r3⟩ := new_lst (K := X.K) sb ht k1
    exact q _ _ _ g s2 r3
  · cases h
    obtain ⟨p, vs, rfl, h1, k1⟩ := r.tuple
    refine ⟨p, vs, rfl, .inr (SqT.of (sb _ _ h1)), fun t ht => ?_⟩
    obtain ⟨g, s2, r3⟩ := new_lst (K := X.K) sb ht k1
    exact q _ _ _ g s2 r3
  · cases h
theorem cd_tuple : CallR X (.type "tuple") (rC1 X.K tupD) := by
  refine CallR.imp call_tuple_of fun xs H Q ⟨x, e, pc, F, d, z, r, sb, h, q⟩ => ?_
  subst e
  unfold tupD at h
  split at h
  · cases h
    obtain ⟨p, vs, rfl, h1, k1⟩ := r.listF sb
    refine ⟨p, vs, rfl, .inl ⟨h1, fun t ht => ?_⟩⟩
    obtain ⟨g, s2, r3⟩ := new_tup (K := X.K) (fr := ⟨none, F, H⟩) sb ht k1
    exact q _ _ _ g s2 r3
  · cases h
    obtain ⟨p, vs, rfl, h1, k1⟩ := r.tuple
    exact ⟨p, vs, rfl, .inr ⟨SqT.of (sb _ _ h1), q _ _ _ (Go.refl _ _ _) sb (.tup h1 k1)⟩⟩
  · cases h
end
section
variable {X : Cx}
theorem RpL.bools {K : PySem.W.Frag} {F : Hp} : ∀ {vs : List V} {ds : List D} {bs : List Bool}, RpL K F vs ds → boolsD ds = some bs → vs = bs.map V.bl
  | _, _, _, .nil, h => by cases h; rfl
  | _, .bool b :: r, bs, .cons h t, e => by
    unfold boolsD at e
    cases e1 : boolsD r with
    | none => rw [e1] at e; cases e
    | some bs' =>
      rw [e1] at e
      cases e
      cases h
      rw [RpL.bools t e1]
      rfl
  | _, .int _ :: _, _, _, e => by cases e
  | _, .none :: _, _, _, e => by cases e
  | _, .str _ :: _, _, _, e => by cases e
  | _, .list _ :: _, _, _, e => by cases e
  | _, .tuple _ :: _, _, _, e => by cases e
  | _, .dict _ :: _, _, _, e => by cases e
theorem RpL.ints {K : PySem.W.Frag} {F : Hp} : ∀ {vs : List V} {ds : List D} {bs : List Int}, RpL K F vs ds → intsD ds = some bs → vs = bs.map V.int
  | _, _, _, .nil, h => by cases h; rfl
  | _, .int b :: r, bs, .cons h t, e => by
    unfold intsD at e
    cases e1 : intsD r with
    | none => rw [e1] at e; cases e
    | some bs' =>
      rw [e1] at e
      cases e
      cases h
      rw [RpL.ints t e1]
      rfl
  | _, .bool _ :: _, _, _, e => by cases e
  | _, .none :: _, _, _, e => by cases e
  | _, .str _ :: _, _, _, e => by cases e
  | _, .list _ :: _, _, _, e => by cases e
  | _, .tuple _ :: _, _, _, e => by cases e
  | _, .dict _ :: _, _, _, e => by cases e
theorem cd_len : CallR X (.builtin "len") (rC1 X.K lenD) := by
  refine CallR.imp call_len fun xs H Q ⟨x, e, pc, F, d, z, r, sb, h, q⟩ => ?_
  subst e
  refine ⟨x, ?_⟩
  unfold lenD at h
  split at h
  · split at h
    · rename_i hl
      cases h
      rw [r.str]
      exact ⟨_, rfl, ⟨leN_le hl, rfl⟩, q _ _ _ (Go.refl _ _ _) sb (.int _)⟩
    · cases h
  · cases h
    obtain ⟨p, vs, rfl, h1, k1⟩ := r.listF sb
    refine ⟨vs.length, rfl, .inl ⟨vs, h1, rfl⟩, ?_⟩
    rw [k1.length]
    exact q _ _ _ (Go.refl _ _ _) sb (.int _)
  · cases h
    obtain ⟨p, vs, rfl, h1, k1⟩ := r.tuple
    refine ⟨vs.length, rfl, .inr ⟨vs, SqT.of (sb _ _ h1), rfl⟩, ?_⟩
    rw [k1.length]
    exact q _ _ _ (Go.refl _ _ _) sb (.int _)
  · cases h
theorem cd_abs : CallR X (.builtin "abs") (rC1 X.K absD) := by
  refine CallR.imp call_abs fun xs H Q ⟨x, e, pc, F, d, z, r, sb, h, q⟩ => ?_
  subst e
  unfold absD at h
  split at h
  · cases h
    exact ⟨_, by rw [r.int], q _ _ _ (Go.refl _ _ _) sb (.int _)⟩
  · cases h
theorem cd_min2 (hc : X.calm = true) : CallR X (.builtin "min") (rC2 X.K min2D) := by
  refine CallR.imp (call_min2 hc) fun xs H Q ⟨x, y, e, pc, F, d, d', z, r, r', sb, h, q⟩ => ?_
  subst e
  unfold min2D at h
  split at h
  · cases h
    exact ⟨_, _, by rw [r.int, r'.int], q _ _ _ (Go.refl _ _ _) sb (.int _)⟩
  · cases h
theorem cd_max2 (hc : X.calm = true) : CallR X (.builtin "max") (rC2 X.K max2D) := by
  refine CallR.imp (call_max2 hc) fun xs H Q ⟨x, y, e, pc, F, d, d', z, r, r', sb, h, q⟩ => ?_
  subst e
  unfold max2D at h
  split at h
  · cases h
    exact ⟨_, _, by rw [r.int, r'.int], q _ _ _ (Go.refl _ _ _) sb (.int _)⟩
  · cases h
theorem cd_int : CallR X (.type "int") (rC1 X.K intD) := by
  refine CallR.imp call_int1 fun xs H Q ⟨x, e, pc, F, d, z, r, sb, h, q⟩ => ?_
  subst e
  unfold intD at h
  split at h
  · cases h
    exact .inl ⟨_, by rw [r.int], q _ _ _ (Go.refl _ _ _) sb (.int _)⟩
  · cases h
    exact .inr ⟨_, by rw [r.bool], q _ _ _ (Go.refl _ _ _) sb (.int _)⟩
  · cases h
theorem cd_str : CallR X (.type "str") (rC1 X.K strD) := by
  refine CallR.imp (SkE.call_str_str.or call_str_int) fun xs H Q ⟨x, e, pc, F, d, z, r, sb, h, q⟩ => ?_
  subst e
  unfold strD at h
  split at h
  · cases h
    exact .inl ⟨_, by rw [r.str], q _ _ _ (Go.refl _ _ _) sb (.str _)⟩
  · split at h
    · rename_i hl
      cases h
      exact .inr ⟨_, by rw [r.int], hl, q _ _ _ (Go.refl _ _ _) sb (.str _)⟩
    · cases h
  · cases h
theorem cd_all (hc : X.calm = true) : CallR X (.builtin "all") (rC1 X.K allD) := by
  refine CallR.imp (cr_all hc) fun xs H Q ⟨x, e, pc, F, d, z, r, sb, h, q⟩ => ?_
  subst e
  unfold allD at h
  split at h
  · rename_i ds
    obtain ⟨p, vs, rfl, h1, k1⟩ := r.listF sb
    cases e1 : boolsD ds with
    | none => rw [e1] at h; cases h
    | some bs =>
      rw [e1] at h
      cases h
      rw [k1.bools e1] at h1
      exact ⟨p, bs, rfl, h1, q _ _ _ (Go.refl _ _ _) sb (.bl _)⟩
  · cases h
theorem cd_any (hc : X.calm = true) : CallR X (.builtin "any") (rC1 X.K anyD) := by
  refine CallR.imp (cr_any hc) fun xs H Q ⟨x, e, pc, F, d, z, r, sb, h, q⟩ => ?_
  subst e
  unfold anyD at h
  split at h
  · rename_i ds
    obtain ⟨p, vs, rfl, h1, k1⟩ := r.listF sb
    cases e1 : boolsD ds with
    | none => rw [e1] at h; cases h
    | some bs =>
      rw [e1] at h
      cases h
      rw [k1.bools e1] at h1
      exact ⟨p, bs, rfl, h1, q _ _ _ (Go.refl _ _ _) sb (.bl _)⟩
  · cases h
theorem cd_sum (hc : X.calm = true) : CallR X (.builtin "sum") (rC1 X.K sumD) := by
  refine CallR.imp (cr_sum hc) fun xs H Q ⟨x, e, pc, F, d, z, r, sb, h, q⟩ => ?_
  subst e
  unfold sumD at h
  split at h
  · rename_i ds
    obtain ⟨p, vs, rfl, h1, k1⟩ := r.listF sb
    cases e1 : intsD ds with
    | none => rw [e1] at h; cases h
    | some bs =>
      rw [e1] at h
      cases h
      rw [k1.ints e1] at h1
      exact ⟨p, bs, rfl, h1, q _ _ _ (Go.refl _ _ _) sb (.int _)⟩
  · cases h
theorem RpB.ty {K : PySem.W.Frag} {pc : Option Addr} {F H : Hp} {v : V} {d : D} (sb : Same F H) (h : RpB K pc F H v d) : TyX K H v (.type (tyN d)) := by
  rcases h with h | ⟨_, _, _, rfl, rfl, h1, _⟩ | ⟨_, _, _, rfl, rfl, h1, _⟩
  · cases h with
    | non => exact .base .non
    | bl b => exact .base (.bl b)
    | int b => exact .base (.int b)
    | str b => exact .base (.str b)
    | lst h1 _ => exact .base (.lst (sb _ _ h1))
    | tup h1 _ => exact .base (.tup (sb _ _ h1))
    | dK h1 _ =>
      rcases h1 with h1 | ⟨o, h1⟩
      · exact .base (.dK (sb _ _ h1))
      · exact .fDict (sb _ _ h1)
  · exact .base (.lst h1)
  · exact .base (.dK h1)
theorem cd_isi {T : String} {g : D → Option D} (hg : ∀ d, ∃ b, g d = some (.bool b) ∧ kitB (tyN d) T = some b) (y : V) (hy : y = .ty T) : CallR X (.builtin "isinstance") fun xs H Q => ∃ x, xs = [x, y] ∧ rO1 X.K g x H Q := by
  subst hy
  refine CallR.imp call_isi fun xs H Q ⟨x, e, pc, F, d, z, r, sb, h, q⟩ => ?_
  subst e
  obtain ⟨b, e1, e2⟩ := hg d
  rw [e1] at h
  cases h
  exact ⟨x, .ty T, _, _, b, rfl, .ty T, r.ty sb, kit_ty e2, q _ _ _ (Go.refl _ _ _) sb (.bl _)⟩
theorem isi_int : ∀ d, ∃ b, isIntD d = some (.bool b) ∧ kitB (tyN d) "int" = some b := fun d => by
  cases d <;> refine ⟨_, rfl, ?_⟩ <;> simp only [tyN] <;> decide +kernel
theorem isi_bool : ∀ d, ∃ b, isBoolD d = some (.bool b) ∧ kitB (tyN d) "bool" = some b := fun d => by
  cases d <;> refine ⟨_, rfl, ?_⟩ <;> simp only [tyN] <;> decide +kernel
theorem isi_str : ∀ d, ∃ b, isStrD d = some (.bool b) ∧ kitB (tyN d) "str" = some b := fun d => by
  cases d <;> refine ⟨_, rfl, ?_⟩ <;> simp only [tyN] <;> decide +kernel
theorem isi_tup : ∀ d, ∃ b, isTupD d = some (.bool b) ∧ kitB (tyN d) "tuple" = some b := fun d => by
  cases d <;> refine ⟨_, rfl, ?_⟩ <;> simp only [tyN] <;> decide +kernel
theorem isi_lst : ∀ d, ∃ b, isLstD d = some (.bool b) ∧ kitB (tyN d) "list" = some b := fun d => by
  cases d <;> refine ⟨_, rfl, ?_⟩ <;> simp only [tyN] <;> decide +kernel
end
end Pu
end

noncomputable section
set_option Elab.async false
set_option linter.all false
set_option maxRecDepth 100000
set_option maxHeartbeats 4000000
/-! Pu, fourth part: statements, loops, comprehensions, calls, defs. -/
namespace Pu
open PySem PySem.Spec L2

/-! ### slots are set -/
def slF : D → Sl
  | .list xs => .ow xs
  | .dict kvs => .od kvs
  | d => .fz d
section
variable {K : PySem.W.Frag} {mg : Str → Option Value} {E : XK} {fr : Fr} {s : S} {F H Ho : Hp} {σ : L2.St} {v : V} {d : D} {t : Sl} {i : Nat}
theorem Sat.put (h : Sat K fr s F σ H) (ht : SlOk K fr F H (some v) t) (hf : ∀ (j : Nat) u p, j ≠ i → s.r[j]? = some u → u.own = true → t.own = true → σ[j]? = some (some (.ref p)) → v ≠ .ref p) : Sat K fr (s.up i t) F (σ.set i (some v)) H where
  sub := h.sub
  go := h.go
  cup := h.cup
  len := by rw [List.length_set, List.length_set]; exact h.len
  sl := fun j u e => by
    by_cases hj : i = j
    · subst hj
      have hl : i < s.r.length := by
        have := (List.getElem?_eq_some_iff.mp e).1
        rwa [List.length_set] at this
      rw [List.getElem?_set_self hl] at e
      cases e
      exact ⟨some v, List.getElem?_set_self (by rw [h.len]; exact hl), ht⟩
    · rw [List.getElem?_set_ne hj] at e ⊢
      exact h.sl j u e
  ap := fun a b u w p e1 e2 o1 o2 k1 k2 => by
    by_cases ha : i = a
    · by_cases hb : i = b
      · exact ha.symm.trans hb
      · subst ha
        have hl : i < s.r.length := by
          have := (List.getElem?_eq_some_iff.mp e1).1
          rwa [List.length_set] at this
        rw [List.getElem?_set_self hl] at e1
        rw [List.getElem?_set_self (by rw [h.len]; exact hl)] at k1
        rw [List.getElem?_set_ne hb] at e2 k2
        cases e1
        exact absurd (Option.some.inj (Option.some.inj k1)) (hf b w p (Ne.symm hb) e2 o2 o1 k2)
    · by_cases hb : i = b
      · subst hb
        have hl : i < s.r.length := by
          have := (List.getElem?_eq_some_iff.mp e2).1
          rwa [List.length_set] at this
        rw [List.getElem?_set_self hl] at e2
        rw [List.getElem?_set_self (by rw [h.len]; exact hl)] at k2
        rw [List.getElem?_set_ne ha] at e1 k1
        cases e2
        exact absurd (Option.some.inj (Option.some.inj k2)) (hf a u p (Ne.symm ha) e1 o1 o2 k1)
      · rw [List.getElem?_set_ne ha] at e1 k1
        rw [List.getElem?_set_ne hb] at e2 k2
        exact h.ap a b u w p e1 e2 o1 o2 k1 k2
theorem Sat.putZ (h : Sat K fr s F σ H) (r : Rp K F v d) : Sat K fr (s.up i (.fz d)) F (σ.set i (some v)) H := h.put ⟨v, rfl, r⟩ fun _ _ _ _ _ _ o => nomatch o
/-- what a slot owns stands -/
theorem Sat.own (h : Sat K fr s F σ H) {j : Nat} {u : Sl} {p : Addr} (e : s.r[j]? = some u) (o : u.own = true) (k : σ[j]? = some (some (.ref p))) : H p ≠ none ∧ fr.pc ≠ some p ∧ F p = none ∧ fr.H0 p = none := by
  obtain ⟨w, e1, q⟩ := h.sl j u e
  rw [k] at e1
  cases e1
  cases u with
  | ow xs => obtain ⟨p', vs, e2, w, _⟩ := q; cases e2; exact ⟨(by rw [w.h]; exact fun z => nomatch z), w.c, w.f, w.n⟩
  | od xs => obtain ⟨p', vs, e2, w, _⟩ := q; cases e2; exact ⟨(by rw [w.h]; exact fun z => nomatch z), w.c, w.f, w.n⟩
  | no => cases o
  | fz _ => cases o
  | cup => cases o
  | sq _ => cases o
/-- a fresh value comes into a slot; Ho: a heap ahead in which all that is owned stood -/
theorem Sat.putF (h : Sat K fr s F σ H) (h0 : ∀ a, fr.H0 a ≠ none → Ho a ≠ none) (hc : ∀ p, fr.pc = some p → Ho p ≠ none) (ho : ∀ (j : Nat) u p, j ≠ i → s.r[j]? = some u → u.own = true → σ[j]? = some (some (.ref p)) → Ho p ≠ none) (r : RpF K Ho F H v d) :
    Sat K fr (s.up i (slF d)) F (σ.set i (some v)) H := by
  have nn : ∀ p, Ho p = none → fr.H0 p = none := fun p e => by
    cases q : fr.H0 p with
    | none => rfl
    | some o => exact absurd e (h0 p (by rw [q]; exact fun z => nomatch z))
  cases d with
  | list ds =>
    obtain ⟨p, vs, rfl, h1, h2, h3, h4⟩ := r
    exact h.put ⟨p, vs, rfl, ⟨h3, h2, nn p h1, fun e => hc p e h1⟩, h4⟩ fun j u q hj e o _ k z => by cases z; exact ho j u p hj e o k h1
  | dict ds =>
    obtain ⟨p, vs, rfl, h1, h2, h3, h4⟩ := r
    exact h.put ⟨p, vs, rfl, ⟨h3, h2, nn p h1, fun e => hc p e h1⟩, h4⟩ fun j u q hj e o _ k z => by cases z; exact ho j u p hj e o k h1
  | none => exact h.putZ r
  | bool _ => exact h.putZ r
  | int _ => exact h.putZ r
  | str _ => exact h.putZ r
  | tuple _ => exact h.putZ r
theorem RpF.go {F' H' : Hp} {pc : Option Addr} (g : Go pc F H F' H') (hp : ∀ p, pc = some p → Ho p ≠ none) (r : RpF K Ho F H v d) : RpF K Ho F' H' v d := by
  cases d with
  | list ds => obtain ⟨p, vs, e, h1, h2, h3, h4⟩ := r; exact ⟨p, vs, e, h1, g.n p (by rw [h3]; exact fun z => nomatch z) h2, g.h p _ (fun e => hp p e h1) h3, h4.mono g.f⟩
  | dict ds => obtain ⟨p, vs, e, h1, h2, h3, h4⟩ := r; exact ⟨p, vs, e, h1, g.n p (by rw [h3]; exact fun z => nomatch z) h2, g.h p _ (fun e => hp p e h1) h3, h4.mono g.f⟩
  | none => exact Rp.mono g.f r
  | bool _ => exact Rp.mono g.f r
  | int _ => exact Rp.mono g.f r
  | str _ => exact Rp.mono g.f r
  | tuple _ => exact Rp.mono g.f r
theorem Sat.cupne (h : Sat K fr s F σ H) : ∀ p, fr.pc = some p → H p ≠ none := fun p e => by
  rw [(h.cup p e).2]
  exact fun z => nomatch z
end

/-! ### statements by their meaning -/
section
def mErr {α : Type} (r : R α) (k : α → Int × Int → RS) : RS := match r with
  | .ok a c => k a c
  | .err x c => .err x c
  | .no => .no
def mSeq (m n : MS) : MS := fun s => match m s with
  | .next s' => n s'
  | r => r
def mNext : MS := fun s => .next s
def mBrk : MS := fun s => .brk s
def mCnt : MS := fun s => .cnt s
def mNo : MS := fun _ => .no
def mSetF (i : Nat) (m : M D) : MS := fun s => mErr (m s) fun d c => .next ((s.wc c).up i (slF d))
def mSetE (i : Nat) (m : M D) : MS := fun s => mErr (m s) fun d c => .next ((s.wc c).up i (.fz d))
def mDrop (m : M D) : MS := fun s => mErr (m s) fun _ c => .next (s.wc c)
def mRet (m : M D) : MS := fun s => mErr (m s) fun d c => .ret d c
def mRetN : MS := fun s => .ret .none s.c
def mIfS (t : M Bool) (a b : MS) : MS := fun s => mErr (t s) fun k c => match k with
  | true => a (s.wc c)
  | false => b (s.wc c)
abbrev Bd := D → S → Option S
def bName (i : Nat) : Bd := fun d s => some (s.up i (.fz d))
def bTup (bs : List Bd) : Bd := fun d s => match d with
  | .tuple ds => go bs ds s
  | _ => none
where go : List Bd → List D → S → Option S
  | [], [], s => some s
  | b :: bs, d :: ds, s => match b d s with
    | some s' => go bs ds s'
    | none => none
  | _, _, _ => none
def mBind (b : Bd) (m : M D) : MS := fun s => mErr (m s) fun d c => match b d (s.wc c) with
  | some s' => .next s'
  | none => .no
def loopL (b : Bd) (body : MS) : List D → MS
  | [], s => .next s
  | x :: xs, s => match b x s with
    | none => .no
    | some s1 => match body s1 with
      | .next s2 => loopL b body xs s2
      | .cnt s2 => loopL b body xs s2
      | .brk s2 => .next s2
      | .ret d c => .ret d c
      | .err x c => .err x c
      | .no => .no
theorem go_nil (s : S) : bTup.go [] [] s = some s := rfl
@[simp] theorem bgo_nil (s : S) : bTup.go [] [] s = some s := rfl
@[simp] theorem bgo_cons (b : Bd) (bs : List Bd) (d : D) (ds : List D) (s : S) : bTup.go (b :: bs) (d :: ds) s = (match b d s with
    | some s' => bTup.go bs ds s'
    | none => none) := rfl
@[simp] theorem loopL_nil (b : Bd) (body : MS) (s : S) : loopL b body [] s = .next s := rfl
def mFor (b : Bd) (it : M (List D)) (body : MS) : MS := fun s => mErr (it s) fun ds c => loopL b body ds (s.wc c)
def mWhile : Nat → M Bool → MS → MS
  | 0, _, _ => fun _ => .no
  | n + 1, t, body => fun s => mErr (t s) fun k c => match k with
    | false => .next (s.wc c)
    | true => match body (s.wc c) with
      | .next s2 => mWhile n t body s2
      | .cnt s2 => mWhile n t body s2
      | .brk s2 => .next s2
      | .ret d c => .ret d c
      | .err x c => .err x c
      | .no => .no
def mApp (i : Nat) (m : M D) : MS := fun s => match s.r[i]? with
  | some (.ow xs) => mErr (m s) fun d c => if ltN xs.length = true then .next ((s.wc c).up i (.ow (xs ++ [d]))) else .no
  | _ => .no
def mPar (i j : Nat) (ma mb : M D) : MS := fun s => mErr (ma s) fun d c => mErr (mb (s.wc c)) fun e c' => .next (((s.wc c').up i (slF d)).up j (slF e))
def mPar3 (i j l : Nat) (ma mb mc : M D) : MS := fun s => mErr (ma s) fun d c => mErr (mb (s.wc c)) fun e c' => mErr (mc (s.wc c')) fun f c2 => .next ((((s.wc c2).up i (slF d)).up j (slF e)).up l (slF f))
def mAug (i : Nat) (g : D → D → Option D) (m : M D) : MS := fun s => match s.r[i]? with
  | some (.fz a) => mErr (m s) fun b c => match g a b with
    | some d => .next ((s.wc c).up i (.fz d))
    | none => .no
  | _ => .no
def mExt (i : Nat) (m : M D) : MS := fun s => match s.r[i]? with
  | some (.ow xs) => mErr (m s) fun b c => match b with
    | .list ys => if leN (xs.length + ys.length) = true then .next ((s.wc c).up i (.ow (xs ++ ys))) else .no
    | _ => .no
  | _ => .no
def frzSl : Sl → Sl
  | .ow xs => .fz (.list xs)
  | .od xs => .fz (.dict xs)
  | t => t
@[simp] theorem frz_ow (xs : List D) : frzSl (.ow xs) = .fz (.list xs) := rfl
@[simp] theorem frz_od (xs : List (D × D)) : frzSl (.od xs) = .fz (.dict xs) := rfl
@[simp] theorem frz_fz (d : D) : frzSl (.fz d) = .fz d := rfl
@[simp] theorem frz_no : frzSl .no = .no := rfl
@[simp] theorem frz_cup : frzSl .cup = .cup := rfl
def S.frz (s : S) (i : Nat) : S := { s with r := s.r.modify i frzSl }
def mFrz (i : Nat) (m : MS) : MS := fun s => m (s.frz i)
/-- the cup -/
def cupGet (i : Nat) (k : Int) : M D := fun s => match s.r[i]? with
  | some .cup => if k = 0 then .ok (.int s.c.1) s.c else if k = 1 then .ok (.int s.c.2) s.c else .no
  | _ => .no
def mCupSet (i : Nat) (k : Int) (m : M D) : MS := fun s => match s.r[i]? with
  | some .cup => mErr (m s) fun d c => match d with
    | .int v => if k = 0 then .next (s.wc (v, c.2)) else if k = 1 then .next (s.wc (c.1, v)) else .no
    | _ => .no
  | _ => .no
end
section
variable {K : PySem.W.Frag} {mg : Str → Option Value} {E : XK} {m ma mb mc : M D} {D : Ends} {σ : L2.St} {H : Hp} {i j l : Nat}
theorem post_of {α : Type} {fr : Fr} {s : S} {F : Hp} {r : R α} {k : α → Int × Int → RS} (hs : Sat K fr s F σ H) (q : Post' K mg E fr D (mErr r k)) : Post mg E fr F H r fun a c _ _ => Post' K mg E fr D (k a c) := by
  cases r with
  | ok a c => exact fun _ _ _ _ _ => q
  | err x c => exact fun F' H' cls d g sb cu e => q F' H' cls d (hs.go.trans g) sb cu e
  | no => exact q
theorem rd_seq {a b : MS} (h : rdS K mg E (mSeq a b) D σ H) : tSeq (rdS K mg E a) (rdS K mg E b) D σ H := by
  obtain ⟨fr, s, F, hs, q⟩ := h
  refine ⟨fr, s, F, hs, ?_⟩
  unfold mSeq at q
  cases e : a s with
  | next s' => rw [e] at q; exact fun F' σ' H' hs' => ⟨fr, s', F', hs', q⟩
  | ret d c => rw [e] at q; exact q
  | brk s' => rw [e] at q; exact q
  | cnt s' => rw [e] at q; exact q
  | err x c => rw [e] at q; exact q
  | no => rw [e] at q; exact q
theorem rd_next (h : rdS K mg E mNext D σ H) : tNext D σ H := by obtain ⟨fr, s, F, hs, q⟩ := h; exact q F σ H hs
theorem rd_brk (h : rdS K mg E mBrk D σ H) : tBreak D σ H := by obtain ⟨fr, s, F, hs, q⟩ := h; exact q F σ H hs
theorem rd_cnt (h : rdS K mg E mCnt D σ H) : tCont D σ H := by obtain ⟨fr, s, F, hs, q⟩ := h; exact q F σ H hs
theorem rd_no {t : TS} (h : rdS K mg E mNo D σ H) : t D σ H := by obtain ⟨fr, s, F, hs, q⟩ := h; exact q.elim
theorem rd_setF (h : rdS K mg E (mSetF i m) D σ H) : tAsg (rdF K mg E m) (gName i) D σ H := by
  obtain ⟨fr, s, F, hs, q⟩ := h
  refine ⟨fr, s, F, hs, (post_of hs q).mono fun d c F' H' g sb cu q1 v r => ?_⟩
  exact q1 F' _ H' ((hs.step g sb cu).putF hs.go.t hs.cupne (fun j u p _ e o k => (hs.own e o k).1) r)
theorem rd_setE (h : rdS K mg E (mSetE i m) D σ H) : tAsg (rdE K mg E m) (gName i) D σ H := by
  obtain ⟨fr, s, F, hs, q⟩ := h
  refine ⟨fr, s, F, hs, (post_of hs q).mono fun d c F' H' g sb cu q1 v r => ?_⟩
  exact q1 F' _ H' ((hs.step g sb cu).putZ r)
theorem rd_drop (h : rdS K mg E (mDrop m) D σ H) : tDrop (rdB K mg E m) D σ H := by
  obtain ⟨fr, s, F, hs, q⟩ := h
  exact ⟨fr, s, F, hs, (post_of hs q).mono fun d c F' H' g sb cu q1 v r => q1 F' _ H' (hs.step g sb cu)⟩
theorem rd_ret (h : rdS K mg E (mRet m) D σ H) : tRet (rdE K mg E m) D σ H := by
  obtain ⟨fr, s, F, hs, q⟩ := h
  exact ⟨fr, s, F, hs, (post_of hs q).mono fun d c F' H' g sb cu q1 v r => q1 v F' H' (hs.go.trans g) sb cu r⟩
theorem rd_retN (h : rdS K mg E mRetN D σ H) : tRetN D σ H := by
  obtain ⟨fr, s, F, hs, q⟩ := h
  exact q .non F H hs.go hs.sub hs.cup .non
theorem rd_ifS {t : M Bool} {a b : MS} (h : rdS K mg E (mIfS t a b) D σ H) : tIfS (rdT K mg E t) (rdS K mg E a) (rdS K mg E b) D σ H := by
  obtain ⟨fr, s, F, hs, q⟩ := h
  refine ⟨fr, s, F, hs, (post_of hs q).mono fun k c F' H' g sb cu q1 => ?_⟩
  have hs1 := hs.step g sb cu
  cases k with
  | true => exact L2.iteT ⟨fr, _, F', hs1, q1⟩
  | false => exact L2.iteF ⟨fr, _, F', hs1, q1⟩
/-! ### targets -/
/-- σ' is σ but at idx -/
def OnlyAt (idx : List Nat) (σ σ' : L2.St) : Prop := σ'.length = σ.length ∧ ∀ j, j ∉ idx → σ'[j]? = σ[j]?
theorem OnlyAt.refl (idx : List Nat) (σ : L2.St) : OnlyAt idx σ σ := ⟨rfl, fun _ _ => rfl⟩
theorem OnlyAt.trans {idx : List Nat} {σ σ1 σ2 : L2.St} (a : OnlyAt idx σ σ1) (b : OnlyAt idx σ1 σ2) : OnlyAt idx σ σ2 := ⟨b.1.trans a.1, fun j h => (b.2 j h).trans (a.2 j h)⟩
theorem OnlyAt.mono {idx idx' : List Nat} {σ σ1 : L2.St} (a : OnlyAt idx σ σ1) (h : ∀ j ∈ idx, j ∈ idx') : OnlyAt idx' σ σ1 := ⟨a.1, fun j n => a.2 j fun z => n (h j z)⟩
def gD (K : PySem.W.Frag) (b : Bd) (idx : List Nat) : TG := fun v σ H Q => ∃ fr s F d, Sat K fr s F σ H ∧ Rp K F v d ∧ ∃ s', b d s = some s' ∧ ∀ σ', OnlyAt idx σ σ' → Sat K fr s' F σ' H → Q σ' H
def gDs (K : PySem.W.Frag) (bs : List Bd) (idx : List Nat) : TGs := fun vs σ H Q => ∃ fr s F ds, Sat K fr s F σ H ∧ RpL K F vs ds ∧ ∃ s', bTup.go bs ds s = some s' ∧ ∀ σ', OnlyAt idx σ σ' → Sat K fr s' F σ' H → Q σ' H
theorem gd_name {v : V} {Q : L2.St → Hp → Prop} (h : gD K (bName i) [i] v σ H Q) : gName i v σ H Q := by
  obtain ⟨fr, s, F, d, hs, r, s', e, q⟩ := h
  cases e
  refine q _ ⟨List.length_set, fun j hj => ?_⟩ (hs.putZ r)
  rw [List.getElem?_set_ne]
  intro z
  exact hj (by rw [z]; exact List.mem_cons_self)
theorem gd_nil {vs : List V} {Q : L2.St → Hp → Prop} (h : gDs K [] [] vs σ H Q) : gNil vs σ H Q := by
  obtain ⟨fr, s, F, ds, hs, r, s', e, q⟩ := h
  cases r with
  | nil => cases e; exact ⟨rfl, q σ (OnlyAt.refl _ _) hs⟩
  | cons _ _ => cases e
theorem gd_cons {b : Bd} {bs : List Bd} {i1 i2 : List Nat} {vs : List V} {Q : L2.St → Hp → Prop} (h : gDs K (b :: bs) (i1 ++ i2) vs σ H Q) : gCons (gD K b i1) (gDs K bs i2) vs σ H Q := by
  obtain ⟨fr, s, F, ds, hs, r, s', e, q⟩ := h
  cases r with
  | nil => cases e
  | @cons v vs d ds r1 r2 =>
    unfold bTup.go at e
    cases e1 : b d s with
    | none => rw [e1] at e; cases e
    | some s1 =>
      rw [e1] at e
      refine ⟨v, vs, rfl, fr, s, F, d, hs, r1, s1, e1, fun σ1 o1 hs1 => ⟨fr, s1, F, ds, hs1, r2, s', e, fun σ2 o2 hs2 => q σ2 ((o1.mono fun j => List.mem_append_left _).trans (o2.mono fun j => List.mem_append_right _)) hs2⟩⟩
theorem go_len : ∀ {bs : List Bd} {ds : List PyData} {s s' : S}, bTup.go bs ds s = some s' → ds.length = bs.length
  | [], [], _, _, _ => rfl
  | [], _ :: _, _, _, h => by cases h
  | _ :: _, [], _, _, h => by cases h
  | b :: bs, d :: ds, s, s', h => by
    unfold bTup.go at h
    cases e : b d s with
    | none => rw [e] at h; cases h
    | some s1 => rw [e] at h; simp [go_len h]
theorem gd_tup {bs : List Bd} {idx : List Nat} {n : Nat} (hn : bs.length = n) {v : V} {Q : L2.St → Hp → Prop} (h : gD K (bTup bs) idx v σ H Q) : gTup K n (gDs K bs idx) v σ H Q := by
  obtain ⟨fr, s, F, d, hs, r, s', e, q⟩ := h
  cases d with
  | tuple ds =>
    cases r with
    | @tup a vs _ h1 h2 => exact ⟨_, vs, rfl, SqT.of (hs.sub _ _ h1), by rw [h2.length, go_len e, hn], fr, s, F, ds, hs, h2, s', e, q⟩
  | none => cases e
  | bool _ => cases e
  | int _ => cases e
  | str _ => cases e
  | list _ => cases e
  | dict _ => cases e
theorem rd_bind {b : Bd} {idx : List Nat} (h : rdS K mg E (mBind b m) D σ H) : tAsg (rdE K mg E m) (gD K b idx) D σ H := by
  obtain ⟨fr, s, F, hs, q⟩ := h
  refine ⟨fr, s, F, hs, (post_of hs q).mono fun d c F' H' g sb cu q1 v r => ?_⟩
  cases e : b d (s.wc c) with
  | none => rw [e] at q1; exact q1.elim
  | some s' =>
    rw [e] at q1
    exact ⟨fr, _, F', d, hs.step g sb cu, r, s', e, fun σ' _ hs' => q1 F' σ' H' hs'⟩
/-! ### loops -/
/-- the frame with another frozen beginning -/
abbrev Fr.at (fr : Fr) (F' : Hp) : Fr := { fr with F0 := F' }
theorem SlOk.re {fr : Fr} {F' F H : Hp} {o : Option V} {t : Sl} (h : SlOk K fr F H o t) : SlOk K (fr.at F') F H o t := by
  cases t with
  | no => trivial
  | fz d => exact h
  | ow xs => obtain ⟨p, vs, e, w, r⟩ := h; exact ⟨p, vs, e, ⟨w.h, w.f, w.n, w.c⟩, r⟩
  | od xs => obtain ⟨p, vs, e, w, r⟩ := h; exact ⟨p, vs, e, ⟨w.h, w.f, w.n, w.c⟩, r⟩
  | cup => exact h
  | sq _ => exact h
theorem SlOk.unre {fr : Fr} {F' F H : Hp} {o : Option V} {t : Sl} (h : SlOk K (fr.at F') F H o t) : SlOk K fr F H o t := by
  cases t with
  | no => trivial
  | fz d => exact h
  | ow xs => obtain ⟨p, vs, e, w, r⟩ := h; exact ⟨p, vs, e, ⟨w.h, w.f, w.n, w.c⟩, r⟩
  | od xs => obtain ⟨p, vs, e, w, r⟩ := h; exact ⟨p, vs, e, ⟨w.h, w.f, w.n, w.c⟩, r⟩
  | cup => exact h
  | sq _ => exact h
theorem go_re {pc : Option Addr} {F0 H0 F' F H : Hp} (b : Same F0 F') (g : Go pc F0 H0 F H) (sf : Same F' F) : Go pc F' H0 F H := ⟨sf, g.h, g.t, fun a h1 h2 => g.n a h1 (b.free h2)⟩
theorem go_unre {pc : Option Addr} {F0 H0 F' H' F H : Hp} (b : Go pc F0 H0 F' H') (g : Go pc F' H0 F H) : Go pc F0 H0 F H := ⟨b.f.trans g.f, g.h, g.t, fun a h1 h2 => g.n a h1 (b.n a h1 h2)⟩
theorem Sat.re {fr : Fr} {s : S} {F' F H : Hp} (b : Same fr.F0 F') (sf : Same F' F) (h : Sat K fr s F σ H) : Sat K (fr.at F') s F σ H :=
  ⟨h.sub, go_re b h.go sf, h.cup, h.len, fun i t e => let ⟨o, e1, e2⟩ := h.sl i t e; ⟨o, e1, e2.re⟩, h.ap⟩
theorem Sat.unre {fr : Fr} {s : S} {F' H' F H : Hp} (b : Go fr.pc fr.F0 fr.H0 F' H') (h : Sat K (fr.at F') s F σ H) : Sat K fr s F σ H :=
  ⟨h.sub, go_unre b h.go, h.cup, h.len, fun i t e => let ⟨o, e1, e2⟩ := h.sl i t e; ⟨o, e1, e2.unre⟩, h.ap⟩
theorem rd_for {b : Bd} {idx : List Nat} {it : M (List PyData)} {body : MS} (h : rdS K mg E (mFor b it body) D σ H) : tFor (rdI K mg E it) (gD K b idx) (rdS K mg E body) D σ H := by
  obtain ⟨fr, s, F, hs, q⟩ := h
  refine ⟨fr, s, F, hs, (post_of hs q).mono fun ds c F' H' g sb cu q1 J hJ => ?_⟩
  have hB := hs.go.trans g
  refine ⟨fun i m σ H => m = ds.length - i ∧ i ≤ ds.length ∧ ∃ s1 F1, Sat K fr s1 F1 σ H ∧ Same F' F1 ∧ Post' K mg E fr D (loopL b body (ds.drop i) s1), ⟨ds.length, by simp, Nat.zero_le _, _, F', hs.step g sb cu, Same.refl _, q1⟩, ?_⟩
  rintro i m σ1 H1 ⟨rfl, hi, s1, F1, hs1, sf, q2⟩
  by_cases hlt : i < ds.length
  · right
    rw [List.drop_eq_getElem_cons hlt] at q2
    unfold loopL at q2
    refine ⟨hJ.go F1 H1 i sf hs1.sub hlt, fun σ2 H2 => ∃ s2 F2, Sat K fr s2 F2 σ2 H2 ∧ Same F' F2 ∧ Post' K mg E fr D (loopL b body (ds.drop (i + 1)) s2), fun σ2 H2 ⟨s2, F2, k1, k2, k3⟩ => ⟨ds.length - (i + 1), by omega, rfl, hlt, s2, F2, k1, k2, k3⟩, fun x H2 y => ?_⟩
    obtain ⟨d, F2, e1, g2, sb2, r2⟩ := hJ.yl F1 H1 i x H2 sf hs1.sub y hlt
    have hs2 : Sat K fr s1 F2 σ1 H2 := hs1.step g2.weak sb2 (hs1.cup.go g2)
    rw [List.getElem?_eq_getElem hlt] at e1
    cases e1
    cases e2 : b ds[i] s1 with
    | none => rw [e2] at q2; exact q2.elim
    | some s2 =>
      rw [e2] at q2
      refine ⟨fr, s1, F2, _, hs2, r2, s2, e2, fun σ3 _ hs3 => ⟨fr.at F', s2, F2, hs3.re hB.f (sf.trans g2.f), ?_⟩⟩
      cases e3 : body s2 with
      | next s4 => simp only [e3] at q2; exact fun F5 σ5 H5 h5 => ⟨s4, F5, h5.unre hB, h5.go.f, q2⟩
      | cnt s4 => simp only [e3] at q2; exact fun F5 σ5 H5 h5 => ⟨s4, F5, h5.unre hB, h5.go.f, q2⟩
      | brk s4 => simp only [e3] at q2; exact fun F5 σ5 H5 h5 => q2 F5 σ5 H5 (h5.unre hB)
      | ret d c => simp only [e3] at q2; exact fun v F5 H5 g5 => q2 v F5 H5 (go_unre hB g5)
      | err d c => simp only [e3] at q2; exact fun F5 H5 cls dd g5 => q2 F5 H5 cls dd (go_unre hB g5)
      | no => simp only [e3] at q2; exact q2
  · left
    have e : i = ds.length := by omega
    subst e
    rw [List.drop_length] at q2
    exact ⟨hJ.st F1 H1 sf hs1.sub, q2 F1 σ1 H1 hs1⟩
theorem rd_while {t : M Bool} {body : MS} {n : Nat} (h : rdS K mg E (mWhile n t body) D σ H) : tWhile (rdT K mg E t) (rdS K mg E body) D σ H := by
  obtain ⟨fr, s, F, hs, q⟩ := h
  refine ⟨fun m σ H => ∃ s1 F1, Sat K fr s1 F1 σ H ∧ Post' K mg E fr D (mWhile m t body s1), ⟨n, s, F, hs, q⟩, ?_⟩
  rintro m σ1 H1 ⟨s1, F1, hs1, q1⟩
  cases m with
  | zero => exact q1.elim
  | succ m =>
    refine ⟨fr, s1, F1, hs1, (post_of hs1 q1).mono fun k c F' H' g sb cu q2 => ?_⟩
    have hs2 := hs1.step g sb cu
    cases k with
    | false => exact L2.iteF (q2 F' σ1 H' hs2)
    | true =>
      refine L2.iteT ⟨fun σ2 H2 => ∃ s2 F2, Sat K fr s2 F2 σ2 H2 ∧ Post' K mg E fr D (mWhile m t body s2), fun σ2 H2 k => ⟨m, Nat.lt_succ_self m, k⟩, fr, _, F', hs2, ?_⟩
      cases e3 : body (s1.wc c) with
      | next s4 => simp only [e3] at q2; exact fun F5 σ5 H5 h5 => ⟨s4, F5, h5, q2⟩
      | cnt s4 => simp only [e3] at q2; exact fun F5 σ5 H5 h5 => ⟨s4, F5, h5, q2⟩
      | brk s4 => simp only [e3] at q2; exact fun F5 σ5 H5 h5 => q2 F5 σ5 H5 h5
      | ret d c => simp only [e3] at q2; exact q2
      | err d c => simp only [e3] at q2; exact q2
      | no => simp only [e3] at q2; exact q2
/-! ### what is owned changes -/
theorem Sat.setOw {fr : Fr} {s : S} {F : Hp} {p : Addr} {xs ys : List PyData} {vs ws : List V} (h : Sat K fr s F σ H) (e : s.r[i]? = some (.ow xs)) (k : σ[i]? = some (some (.ref p))) (hp : H p = some (.lst vs)) (r : RpL K F ws ys) : Sat K fr (s.up i (.ow ys)) F σ (upd H p (.lst ws)) := by
  obtain ⟨n1, n2, n3, n4⟩ := h.own e rfl k
  have hl : i < s.r.length := (List.getElem?_eq_some_iff.mp e).1
  have gh : ∀ a o, a ≠ p → H a = some o → upd H p (.lst ws) a = some o := fun a o ha e => by rw [upd_ne ha]; exact e
  refine ⟨fun a o e => gh a o (ne_of_none e n3) (h.sub _ _ e), ⟨h.go.f, fun a o pc e => gh a o (ne_of_none e n4) (h.go.h a o pc e), fun a ha => ?_, h.go.n⟩, fun q e => ?_, by rw [List.length_set]; exact h.len, fun j u e1 => ?_, fun a b u w q e1 e2 o1 o2 k1 k2 => ?_⟩
  · by_cases hb : a = p
    · subst hb; rw [upd_same]; exact fun z => nomatch z
    · rw [upd_ne hb]; exact h.go.t a ha
  · obtain ⟨c1, c2⟩ := h.cup q e
    have hb : q ≠ p := fun z => n2 (by rw [← z]; exact e)
    exact ⟨c1, gh _ _ hb c2⟩
  · by_cases hj : i = j
    · subst hj
      rw [List.getElem?_set_self hl] at e1
      cases e1
      exact ⟨_, k, p, ws, rfl, ⟨upd_same, n3, n4, n2⟩, r⟩
    · rw [List.getElem?_set_ne hj] at e1
      obtain ⟨o, e2, q⟩ := h.sl j u e1
      refine ⟨o, e2, ?_⟩
      cases u with
      | no => trivial
      | fz d => exact q
      | ow zs =>
        obtain ⟨q', vs', rfl, w, r'⟩ := q
        have hb : q' ≠ p := fun z => hj (h.ap i j _ _ p e e1 rfl rfl k (by rw [e2, z]))
        exact ⟨q', vs', rfl, ⟨gh _ _ hb w.h, w.f, w.n, w.c⟩, r'⟩
      | od zs =>
        obtain ⟨q', vs', rfl, w, r'⟩ := q
        have hb : q' ≠ p := fun z => hj (h.ap i j _ _ p e e1 rfl rfl k (by rw [e2, z]))
        exact ⟨q', vs', rfl, ⟨gh _ _ hb w.h, w.f, w.n, w.c⟩, r'⟩
      | cup => exact q
      | sq _ => exact q
  · have own_of : ∀ (j : Nat) u, (s.r.set i (.ow ys))[j]? = some u → u.own = true → ∃ u', s.r[j]? = some u' ∧ u'.own = true := fun j u e1 o => by
      by_cases hj : i = j
      · subst hj; exact ⟨_, e, rfl⟩
      · rw [List.getElem?_set_ne hj] at e1; exact ⟨u, e1, o⟩
    obtain ⟨u', e1', o1'⟩ := own_of a u e1 o1
    obtain ⟨w', e2', o2'⟩ := own_of b w e2 o2
    exact h.ap a b u' w' q e1' e2' o1' o2' k1 k2
theorem rd_app (h : rdS K mg E (mApp i m) D σ H) : tDrop (tBM K "list" rAppend (tVar i) (tCons (rdE K mg E m) tNil)) D σ H := by
  obtain ⟨fr, s, F, hs, q⟩ := h
  unfold mApp at q
  split at q
  · rename_i xs e
    obtain ⟨o, k, p, vs, rfl, w, r⟩ := hs.sl i _ e
    refine ⟨_, k, .inl ⟨rfl, vs, SqL.of w.h⟩, fr, s, F, hs, (post_of hs q).mono fun d c F' H' g sb cu q1 v rv => ?_⟩
    split at q1
    · rename_i hl
      have hp := g.h p _ w.c w.h
      refine ⟨p, vs, v, rfl, rfl, hp, by rw [r.length]; exact ltN_lt hl, ?_⟩
      exact q1 F' σ _ ((hs.step g sb cu).setOw e k hp ((r.mono g.f).append (.cons rv .nil)))
    · exact q1.elim
  · exact q.elim
/-- name op= e on scalars and tuples -/
def ipG (K : PySem.W.Frag) (g : PyData → PyData → Option PyData) : TIp := rO2E K g
theorem rd_aug {g : PyData → PyData → Option PyData} (h : rdS K mg E (mAug i g m) D σ H) : tAug i (rdB K mg E m) (ipG K g) D σ H := by
  obtain ⟨fr, s, F, hs, q⟩ := h
  unfold mAug at q
  split at q
  · rename_i a e
    obtain ⟨o, k, v, rfl, r⟩ := hs.sl i _ e
    refine ⟨v, k, fr, s, F, hs, (post_of hs q).mono fun d c F' H' g1 sb cu q1 w rw => ?_⟩
    split at q1
    · rename_i z e2
      exact ⟨fr.pc, F', a, d, z, .inl (r.mono g1.f), rw, sb, e2, fun v F2 H2 g2 sb2 r2 => q1 F2 _ H2 (((hs.step g1 sb cu).step g2.weak sb2 (cu.go g2)).putZ r2)⟩
    · exact q1.elim
  · exact q.elim
theorem rd_ext (h : rdS K mg E (mExt i m) D σ H) : tAug i (rdB K mg E m) rExt2 D σ H := by
  obtain ⟨fr, s, F, hs, q⟩ := h
  unfold mExt at q
  split at q
  · rename_i xs e
    obtain ⟨o, k, p, vs, rfl, w, r⟩ := hs.sl i _ e
    refine ⟨_, k, fr, s, F, hs, (post_of hs q).mono fun d c F' H' g sb cu q1 v rv => ?_⟩
    split at q1
    · rename_i ys
      split at q1
      · rename_i hl
        have hp := g.h p _ w.c w.h
        obtain ⟨b, ws, rfl, h2, k2⟩ := rv.list sb
        refine ⟨p, b, vs, ws, rfl, rfl, hp, h2, by rw [r.length, k2.length]; exact leN_le hl, ?_⟩
        have hs3 := (hs.step g sb cu).setOw e k hp ((r.mono g.f).append k2)
        have e3 : σ.set i (some (.ref p)) = σ := by
          apply List.ext_getElem?
          intro j
          by_cases hj : i = j
          · subst hj
            have hl := (List.getElem?_eq_some_iff.mp k).1
            rw [List.getElem?_set_self hl, k]
          · rw [List.getElem?_set_ne hj]
        show D.nx (List.set σ i (some (V.ref p))) _
        rw [e3]
        exact q1 F' σ _ hs3
      · exact q1.elim
    · exact q1.elim
  · exact q.elim
theorem rd_par (hij : i ≠ j) (h : rdS K mg E (mPar i j ma mb) D σ H) : tPar i j (tCons (rdF K mg E ma) (tCons (rdF K mg E mb) tNil)) D σ H := by
  obtain ⟨fr, s, F, hs, q⟩ := h
  refine ⟨fr, s, F, hs, (post_of hs q).mono fun d c F1 H1 g sb cu q1 v r => ?_⟩
  have hs1 := hs.step g sb cu
  refine ⟨fr, s.wc c, F1, hs1, (post_of hs1 q1).mono fun e c2 F2 H2 g2 sb2 cu2 q2 w r2 => ⟨v, w, rfl, ?_⟩⟩
  have hs2 := hs1.step g2 sb2 cu2
  have hs3 := hs2.putF (i := i) (v := v) hs.go.t hs.cupne (fun j u p _ e o k => (hs.own e o k).1) (r.go g2 hs.cupne)
  refine q2 F2 _ H2 (hs3.putF (Ho := H1) hs1.go.t hs1.cupne (fun l u p hl e o k => ?_) r2)
  by_cases hil : i = l
  · subst hil
    have hl : i < s.r.length := by
      have := (List.getElem?_eq_some_iff.mp e).1
      rwa [List.length_set] at this
    rw [List.getElem?_set_self hl] at e
    rw [List.getElem?_set_self (by rw [hs.len]; exact hl)] at k
    cases e
    cases k
    cases d with
    | list ds => obtain ⟨p', vs, e, h1, h2, h3, h4⟩ := r; cases e; rw [h3]; exact fun z => nomatch z
    | dict ds => obtain ⟨p', vs, e, h1, h2, h3, h4⟩ := r; cases e; rw [h3]; exact fun z => nomatch z
    | none => cases o
    | bool _ => cases o
    | int _ => cases o
    | str _ => cases o
    | tuple _ => cases o
  · rw [List.getElem?_set_ne hil] at e k
    exact (hs1.own e o k).1
/-- ghost: what a slot owns is frozen -/
theorem Sat.frz {fr : Fr} {s : S} {F : Hp} (h : Sat K fr s F σ H) : ∃ F', Sat K fr (s.frz i) F' σ H := by
  have same : (∀ t, s.r[i]? = some t → frzSl t = t) → Sat K fr (s.frz i) F σ H := fun hn => by
    have e : s.frz i = s := by
      have : s.r.modify i frzSl = s.r := by
        apply List.ext_getElem?
        intro j
        rw [List.getElem?_modify]
        by_cases hj : i = j
        · subst hj
          cases e : s.r[i]? with
          | none => rfl
          | some t => simp [hn t e]
        · simp [hj]
      unfold S.frz
      rw [this]
    rw [e]
    exact h
  have fz : ∀ (t : Sl) (p : Addr) (o : HO) (d : PyData), s.r[i]? = some t → t.own = true → σ[i]? = some (some (.ref p)) → Own fr F H p o → frzSl t = .fz d → (∀ F2, Same F F2 → F2 p = some o → Rp K F2 (.ref p) d) → ∃ F', Sat K fr (s.frz i) F' σ H := fun t p o d e ow k w ef rp => by
    have hl : i < s.r.length := (List.getElem?_eq_some_iff.mp e).1
    have s1 : Same F (upd F p o) := fun b u e => by rw [upd_ne (ne_of_none e w.f)]; exact e
    have at_i : (s.frz i).r[i]? = some (.fz d) := by
      show (s.r.modify i frzSl)[i]? = _
      rw [List.getElem?_modify, e]
      simp [ef]
    have at_j : ∀ j, i ≠ j → (s.frz i).r[j]? = s.r[j]? := fun j hj => by
      show (s.r.modify i frzSl)[j]? = _
      rw [List.getElem?_modify]
      simp [hj]
    refine ⟨upd F p o, fun b u e => ?_, ⟨h.go.f.trans s1, h.go.h, h.go.t, fun a h1 h2 => ?_⟩, fun q e => ?_, ?_, fun j u e1 => ?_, fun a b u w' q e1 e2 o1 o2 k1 k2 => ?_⟩
    · by_cases hb : b = p
      · subst hb; rw [upd_same] at e; rw [w.h]; exact e
      · rw [upd_ne hb] at e; exact h.sub _ _ e
    · have hb : a ≠ p := fun z => h1 (by rw [z]; exact w.n)
      rw [upd_ne hb]; exact h.go.n a h1 h2
    · obtain ⟨c1, c2⟩ := h.cup q e
      have hb : q ≠ p := fun z => w.c (by rw [← z]; exact e)
      exact ⟨by rw [upd_ne hb]; exact c1, c2⟩
    · show σ.length = (s.r.modify i frzSl).length
      rw [List.length_modify]; exact h.len
    · by_cases hj : i = j
      · subst hj
        rw [at_i] at e1
        cases e1
        exact ⟨_, k, _, rfl, rp _ s1 upd_same⟩
      · rw [at_j j hj] at e1
        obtain ⟨o', e2, q⟩ := h.sl j u e1
        refine ⟨o', e2, ?_⟩
        cases u with
        | no => trivial
        | fz d => obtain ⟨v, e3, r⟩ := q; exact ⟨v, e3, r.mono s1⟩
        | ow zs =>
          obtain ⟨q', vs', rfl, w', r'⟩ := q
          have hb : q' ≠ p := fun z => hj (h.ap i j _ _ p e e1 ow rfl k (by rw [e2, z]))
          exact ⟨q', vs', rfl, ⟨w'.h, by rw [upd_ne hb]; exact w'.f, w'.n, w'.c⟩, r'.mono s1⟩
        | od zs =>
          obtain ⟨q', vs', rfl, w', r'⟩ := q
          have hb : q' ≠ p := fun z => hj (h.ap i j _ _ p e e1 ow rfl k (by rw [e2, z]))
          exact ⟨q', vs', rfl, ⟨w'.h, by rw [upd_ne hb]; exact w'.f, w'.n, w'.c⟩, r'.mono s1⟩
        | cup => exact q
        | sq zs => obtain ⟨q', vs', e3, h1, h2⟩ := q; exact ⟨q', vs', e3, s1.seq h1, h2.mono s1⟩
    · have ne_i : ∀ (j : Nat) u, (s.frz i).r[j]? = some u → u.own = true → i ≠ j := fun j u e1 o z => by
        subst z
        rw [at_i] at e1
        cases e1
        cases o
      have ha := ne_i a u e1 o1
      have hb := ne_i b w' e2 o2
      rw [at_j a ha] at e1
      rw [at_j b hb] at e2
      exact h.ap a b u w' q e1 e2 o1 o2 k1 k2
  cases e : s.r[i]? with
  | none => exact ⟨F, same fun t z => by rw [e] at z; cases z⟩
  | some t =>
    cases t with
    | ow xs =>
      obtain ⟨o, k, p, vs, rfl, w, r⟩ := h.sl i _ e
      exact fz _ p _ _ e rfl k w rfl fun F2 s2 e2 => .lst e2 (r.mono s2)
    | od xs =>
      obtain ⟨o, k, p, vs, rfl, w, r⟩ := h.sl i _ e
      exact fz _ p _ _ e rfl k w rfl fun F2 s2 e2 => .dK (.inl e2) (r.mono s2)
    | no => exact ⟨F, same fun t z => by rw [e] at z; cases z; rfl⟩
    | fz d => exact ⟨F, same fun t z => by rw [e] at z; cases z; rfl⟩
    | cup => exact ⟨F, same fun t z => by rw [e] at z; cases z; rfl⟩
    | sq _ => exact ⟨F, same fun t z => by rw [e] at z; cases z; rfl⟩
theorem rd_frz {a : MS} (h : rdS K mg E (mFrz i a) D σ H) : rdS K mg E a D σ H := by
  obtain ⟨fr, s, F, hs, q⟩ := h
  obtain ⟨F', hs'⟩ := hs.frz (i := i)
  exact ⟨fr, s.frz i, F', hs', q⟩
/-! ### the cup -/
theorem rd_cupGet {k : Int} {Q : VK} (h : rdF K mg E (cupGet i k) σ H Q) : tOp (rIxL K) (tVar i) (tC (.int k)) σ H Q := by
  obtain ⟨fr, s, F, hs, q⟩ := h
  unfold cupGet at q
  split at q
  · rename_i e
    obtain ⟨o, k', p, rfl, hp⟩ := hs.sl i _ e
    obtain ⟨c1, c2⟩ := hs.cup p hp
    split at q
    · rename_i hk
      subst hk
      exact ⟨_, k', p, _, _, .int s.c.1, rfl, rfl, SqL.of c2, rfl, q F H (Go.refl _ _ _) hs.sub hs.cup _ (.int _)⟩
    · split at q
      · rename_i hk
        subst hk
        exact ⟨_, k', p, _, _, .int s.c.2, rfl, rfl, SqL.of c2, rfl, q F H (Go.refl _ _ _) hs.sub hs.cup _ (.int _)⟩
      · exact q.elim
  · exact q.elim
theorem Sat.setCup {fr : Fr} {s : S} {F : Hp} {p : Addr} {c : Int × Int} (h : Sat K fr s F σ H) (hp : fr.pc = some p) : Sat K fr (s.wc c) F σ (upd H p (.lst [.int c.1, .int c.2])) := by
  obtain ⟨c1, c2⟩ := h.cup p hp
  have gh : ∀ a o, a ≠ p → H a = some o → upd H p (.lst [.int c.1, .int c.2]) a = some o := fun a o ha e => by rw [upd_ne ha]; exact e
  refine ⟨fun a o e => gh a o (ne_of_none e c1) (h.sub _ _ e), ⟨h.go.f, fun a o pc e => gh a o (fun z => pc (by rw [z]; exact hp)) (h.go.h a o pc e), fun a ha => ?_, h.go.n⟩, fun q e => ?_, h.len, fun j u e1 => ?_, h.ap⟩
  · by_cases hb : a = p
    · subst hb; rw [upd_same]; exact fun z => nomatch z
    · rw [upd_ne hb]; exact h.go.t a ha
  · have : q = p := Option.some.inj (e.symm.trans hp)
    subst this
    exact ⟨c1, upd_same⟩
  · obtain ⟨o, e2, q⟩ := h.sl j u e1
    refine ⟨o, e2, ?_⟩
    cases u with
    | no => trivial
    | fz d => exact q
    | ow zs => obtain ⟨q', vs', e, w, r'⟩ := q; exact ⟨q', vs', e, ⟨gh _ _ (fun z => w.c (by rw [z]; exact hp)) w.h, w.f, w.n, w.c⟩, r'⟩
    | od zs => obtain ⟨q', vs', e, w, r'⟩ := q; exact ⟨q', vs', e, ⟨gh _ _ (fun z => w.c (by rw [z]; exact hp)) w.h, w.f, w.n, w.c⟩, r'⟩
    | cup => exact q
    | sq _ => exact q
theorem rd_cupSet {k : Int} (h : rdS K mg E (mCupSet i k m) D σ H) : tAsg (rdB K mg E m) (gSub (tVar i) (tC (.int k)) rSetL) D σ H := by
  obtain ⟨fr, s, F, hs, q⟩ := h
  unfold mCupSet at q
  split at q
  · rename_i e
    obtain ⟨o, k', p, rfl, hp⟩ := hs.sl i _ e
    refine ⟨fr, s, F, hs, (post_of hs q).mono fun d c F' H' g sb cu q1 v rv => ?_⟩
    have hs1 := hs.step g sb cu
    split at q1
    · rename_i z
      rw [rv.int]
      obtain ⟨c1, c2⟩ := hs1.cup p hp
      split at q1
      · rename_i hk
        subst hk
        exact ⟨_, k', p, _, 0, 0, rfl, rfl, c2, rfl, q1 F' σ _ (hs1.setCup (c := (z, c.2)) hp)⟩
      · split at q1
        · rename_i hk
          subst hk
          exact ⟨_, k', p, _, 1, 1, rfl, rfl, c2, rfl, q1 F' σ _ (hs1.setCup (c := (c.1, z)) hp)⟩
        · exact q1.elim
    · exact q1.elim
  · exact q.elim
/-! ### what is walked -/
def iterD : PyData → Option (List PyData)
  | .list xs => some xs
  | .tuple xs => some xs
  | .str z => some ((cps z).map fun c => .str ⟨#[c]⟩)
  | _ => none
def mI (g : PyData → Option (List PyData)) (m : M PyData) : M (List PyData) := bnd m fun d => lift (g d)
def ints2 (lo : Int) (n : Nat) : List PyData := (List.range n).map fun (i : Nat) => .int (lo + (i : Int))
theorem okR_ex : ∃ f : Int → Bool, ∀ i, f i = true ↔ (-(2 ^ 62) ≤ i ∧ i < 2 ^ 62) := ⟨fun i => decide (-(2 ^ 62) ≤ i ∧ i < 2 ^ 62), fun _ => decide_eq_true_iff⟩
noncomputable def okR : Int → Bool := Classical.choose okR_ex
theorem okR_i {i : Int} : okR i = true ↔ (-(2 ^ 62) ≤ i ∧ i < 2 ^ 62) := Classical.choose_spec okR_ex i
def rng1D : PyData → Option (List PyData)
  | .int j => if okR j = true then some (ints2 0 j.toNat) else none
  | _ => none
def rng2D : PyData → PyData → Option (List PyData)
  | .int i, .int j => if (okR i && okR j) = true then some (ints2 i (j - i).toNat) else none
  | _, _ => none
theorem okR_iff {j : Int} (h : okR j = true) : -(2 ^ 62) ≤ j ∧ j < 2 ^ 62 := okR_i.mp h
theorem it_rng {F : Hp} (lo : Int) (n : Nat) : ItOk K (Itr lo n) F (ints2 lo n) where
  go := fun F1 H1 i _ _ h => by
    show i < n
    simpa [ints2] using h
  yl := fun F1 H1 i x H2 _ sb y hi => by
    obtain ⟨e1, e2⟩ := y
    subst e1 e2
    refine ⟨.int (lo + (i : Int)), F1, ?_, Go.refl _ _ _, sb, .int _⟩
    have hi : i < n := by simpa [ints2] using hi
    simp [ints2, hi]
  st := fun F1 H1 _ _ => by simp [ints2, Itr]
theorem it_list {F : Hp} {a : Addr} {vs : List V} {ds : List PyData} (h : F a = some (.lst vs)) (r : RpL K F vs ds) : ItOk K (Itl K a) F ds where
  go := fun F1 H1 i s1 s2 hi => ⟨vs, vs[i]'(by rw [r.length]; exact hi), SqL.of (s2 _ _ (s1 _ _ h)), List.getElem?_eq_getElem _⟩
  yl := fun F1 H1 i x H2 s1 s2 y hi => by
    obtain ⟨e1, y⟩ := y
    subst e1
    obtain ⟨d, e, q⟩ := r.getV i (y vs (SqL.of (s2 _ _ (s1 _ _ h))))
    exact ⟨d, F1, e, Go.refl _ _ _, s2, q.mono s1⟩
  st := fun F1 H1 s1 s2 => ⟨vs, SqL.of (s2 _ _ (s1 _ _ h)), by rw [r.length]; exact Nat.le_refl _⟩
theorem it_tup {F : Hp} {a : Addr} {vs : List V} {ds : List PyData} (h : F a = some (.tup vs)) (r : RpL K F vs ds) : ItOk K (Itt K a) F ds where
  go := fun F1 H1 i s1 s2 hi => ⟨vs, vs[i]'(by rw [r.length]; exact hi), SqT.of (s2 _ _ (s1 _ _ h)), List.getElem?_eq_getElem _⟩
  yl := fun F1 H1 i x H2 s1 s2 y hi => by
    obtain ⟨e1, y⟩ := y
    subst e1
    obtain ⟨d, e, q⟩ := r.getV i (y vs (SqT.of (s2 _ _ (s1 _ _ h))))
    exact ⟨d, F1, e, Go.refl _ _ _, s2, q.mono s1⟩
  st := fun F1 H1 s1 s2 => ⟨vs, SqT.of (s2 _ _ (s1 _ _ h)), by rw [r.length]; exact Nat.le_refl _⟩
theorem it_str {F : Hp} (z : Str) : ItOk K (Its z) F ((cps z).map fun c => .str ⟨#[c]⟩) where
  go := fun F1 H1 i _ _ hi => by simpa [cps, Its] using hi
  yl := fun F1 H1 i x H2 _ sb y hi => by
    obtain ⟨e1, c, e2, e3⟩ := y
    subst e1 e3
    refine ⟨.str ⟨#[c]⟩, F1, ?_, Go.refl _ _ _, sb, .str _⟩
    have : (cps z)[i]? = some c := by simpa [cps] using e2
    simp [this]
  st := fun F1 H1 _ _ => by simp [cps, Its]
theorem rd_it {Q : It → Hp → Prop} (h : rdI K mg E (mI iterD m) σ H Q) : rdE K mg E m σ H fun x H1 => (∃ a, x = .ref a ∧ (∃ xs, SqL K H1 a xs) ∧ Q (Itl K a) H1) ∨ (∃ a, x = .ref a ∧ (∃ xs, SqT K H1 a xs) ∧ Q (Itt K a) H1) ∨ ∃ z, x = .str z ∧ Q (Its z) H1 := by
  obtain ⟨fr, s, F, hs, q⟩ := h
  refine ⟨fr, s, F, hs, (Post.bnd q).mono fun d c F' H' g sb cu q1 v r => ?_⟩
  obtain ⟨ds, e, k⟩ := q1.lift
  have k' := k F' H' (Go.refl _ _ _) sb cu
  cases d with
  | list xs =>
    cases e
    cases r with
    | lst h1 h2 => exact .inl ⟨_, rfl, ⟨_, SqL.of (sb _ _ h1)⟩, k' _ (it_list h1 h2)⟩
  | tuple xs =>
    cases e
    cases r with
    | tup h1 h2 => exact .inr (.inl ⟨_, rfl, ⟨_, SqT.of (sb _ _ h1)⟩, k' _ (it_tup h1 h2)⟩)
  | str z =>
    cases e
    cases r
    exact .inr (.inr ⟨_, rfl, k' _ (it_str z)⟩)
  | none => cases e
  | bool _ => cases e
  | int _ => cases e
  | dict _ => cases e
def mR2 (ma mb : M PyData) : M (List PyData) := bnd ma fun x => bnd mb fun y => lift (rng2D x y)
theorem rd_rng1 {Q : It → Hp → Prop} (h : rdI K mg E (mI rng1D m) σ H Q) : iRng1 (tCons (rdB K mg E m) tNil) σ H Q := by
  obtain ⟨fr, s, F, hs, q⟩ := h
  refine ⟨fr, s, F, hs, (Post.bnd q).mono fun d c F' H' g sb cu q1 v r => ?_⟩
  obtain ⟨ds, e, k⟩ := q1.lift
  unfold rng1D at e
  split at e
  · split at e
    · rename_i hk
      cases e
      obtain ⟨h1, h2⟩ := okR_iff hk
      exact ⟨_, by rw [r.int], h1, h2, k F' H' (Go.refl _ _ _) sb cu _ (it_rng _ _)⟩
    · cases e
  · cases e
theorem rd_rng2 {Q : It → Hp → Prop} (h : rdI K mg E (mR2 ma mb) σ H Q) : iRng2 (tCons (rdB K mg E ma) (tCons (rdB K mg E mb) tNil)) σ H Q := by
  obtain ⟨fr, s, F, hs, q⟩ := h
  refine ⟨fr, s, F, hs, (Post.bnd q).mono fun d c F1 H1 g1 sb1 cu1 q1 v r => ?_⟩
  refine ⟨fr, _, F1, hs.step g1 sb1 cu1, (Post.bnd q1).mono fun d2 c2 F' H' g sb cu q2 w r2 => ?_⟩
  obtain ⟨ds, e, k⟩ := q2.lift
  unfold rng2D at e
  split at e
  · split at e
    · rename_i hk
      cases e
      have hk := Bool.and_eq_true_iff.mp hk
      obtain ⟨h1, h2⟩ := okR_iff hk.1
      obtain ⟨h3, h4⟩ := okR_iff hk.2
      exact ⟨_, _, by rw [r.int, r2.int], ⟨h1, h2, h3, h4⟩, k F' H' (Go.refl _ _ _) sb cu _ (it_rng _ _)⟩
    · cases e
  · cases e
/-! ### comprehensions -/
def lcL (b : Bd) (t : M Bool) (e : M PyData) (s : S) : List PyData → Int × Int → R (List PyData)
  | [], c => .ok [] c
  | x :: xs, c => match b x (s.wc c) with
    | none => .no
    | some s1 => match t s1 with
      | .ok true c1 => (match e (s1.wc c1) with
        | .ok d c2 => (match lcL b t e s xs c2 with
          | .ok ds c3 => .ok (d :: ds) c3
          | _ => .no)
        | _ => .no)
      | .ok false c1 => lcL b t e s xs c1
      | _ => .no
def wipeS (s : S) : List Nat → S
  | [] => s
  | v :: vs => (wipeS s vs).up v .no
def mLc (vs : List Nat) (it : M (List PyData)) (b : Bd) (t : M Bool) (e : M PyData) : M PyData := bnd it fun ds => fun s => match lcL b t e (wipeS s vs) ds s.c with
  | .ok out c => if lenOk out = true then .ok (.list out) c else .no
  | _ => .no
theorem Sat.no {fr : Fr} {s : S} {F : Hp} {v : Option V} (h : Sat K fr s F σ H) : Sat K fr (s.up i .no) F (σ.set i v) H where
  sub := h.sub
  go := h.go
  cup := h.cup
  len := by rw [List.length_set, List.length_set]; exact h.len
  sl := fun j u e => by
    by_cases hj : i = j
    · subst hj
      have hl : i < s.r.length := by
        have := (List.getElem?_eq_some_iff.mp e).1
        rwa [List.length_set] at this
      rw [List.getElem?_set_self hl] at e
      cases e
      exact ⟨v, List.getElem?_set_self (by rw [h.len]; exact hl), trivial⟩
    · rw [List.getElem?_set_ne hj] at e ⊢
      exact h.sl j u e
  ap := fun a b u w p e1 e2 o1 o2 k1 k2 => by
    have ne : ∀ (j : Nat) u, (s.r.set i .no)[j]? = some u → u.own = true → i ≠ j := fun j u e o z => by
      subst z
      have hl : i < s.r.length := by
        have := (List.getElem?_eq_some_iff.mp e).1
        rwa [List.length_set] at this
      rw [List.getElem?_set_self hl] at e
      cases e
      cases o
    have ha := ne a u e1 o1
    have hb := ne b w e2 o2
    rw [List.getElem?_set_ne ha] at e1 k1
    rw [List.getElem?_set_ne hb] at e2 k2
    exact h.ap a b u w p e1 e2 o1 o2 k1 k2
theorem Sat.wipe {fr : Fr} {s : S} {F : Hp} (h : Sat K fr s F σ H) : ∀ vs, Sat K fr (wipeS s vs) F (wipe σ vs) H
  | [] => h
  | v :: vs => (Sat.wipe h vs).no
theorem wipeS_wc (s : S) (c : Int × Int) : ∀ vs, (wipeS s vs).wc c = wipeS (s.wc c) vs
  | [] => rfl
  | v :: vs => by
    have ih := wipeS_wc s c vs
    unfold wipeS
    rw [← ih]
theorem wipe_get {σ : L2.St} {j : Nat} : ∀ (vs : List Nat), (wipe σ vs)[j]? = if j ∈ vs ∧ j < σ.length then some none else σ[j]?
  | [] => by simp [L2.wipe]
  | v :: vs => by
    unfold L2.wipe
    by_cases hj : v = j
    · subst hj
      by_cases hl : v < σ.length
      · rw [List.getElem?_set_self (by rw [wipe_length]; exact hl)]
        simp [hl]
      · rw [List.getElem?_eq_none (by rw [List.length_set, wipe_length]; omega)]
        simp [hl]
    · rw [List.getElem?_set_ne hj, wipe_get vs]
      have : j ≠ v := fun z => hj z.symm
      simp [this]
theorem wipe_only {vs idx : List Nat} {σ1 σ2 : L2.St} (h : OnlyAt idx (wipe σ1 vs) σ2) (hi : ∀ j ∈ idx, j ∈ vs) : wipe σ2 vs = wipe σ1 vs := by
  apply List.ext_getElem?
  intro j
  have hl : σ2.length = σ1.length := by rw [h.1, wipe_length]
  rw [wipe_get, wipe_get]
  by_cases hj : j ∈ vs
  · by_cases hk : j < σ1.length
    · simp [hj, hk, hl]
    · have h1 : ¬ j < σ2.length := by omega
      simp [hk, h1]
  · have := h.2 j fun z => hj (hi j z)
    rw [wipe_get] at this
    simp [hj] at this ⊢
    exact this
theorem rd_lc {vs idx : List Nat} (hi : ∀ j ∈ idx, j ∈ vs) {it : M (List PyData)} {b : Bd} {t : M Bool} {e : M PyData} {E1 : XK} {Q : VK} (h : rdF K mg E (mLc vs it b t e) σ H Q) : tLc (rdI K mg E it) (gD K b idx) (rdT K mg E1 t) (rdE K mg E1 e) vs σ H Q := by
  obtain ⟨fr, s, F, hs, q⟩ := h
  refine ⟨fr, s, F, hs, (Post.bnd q).mono fun ds c F' H' g sb cu q1 J hJ P hP => ?_⟩
  cases e1 : lcL b t e (wipeS (s.wc c) vs) ds c with
  | err x c' => simp only [e1] at q1; exact q1.elim
  | no => simp only [e1] at q1; exact q1.elim
  | ok out c3 =>
    simp only [e1] at q1
    by_cases ho : lenOk out = true
    · rw [if_pos ho] at q1
      have hs1 := hs.step g sb cu
      refine ⟨fun i m H1 => m = ds.length - i ∧ i ≤ ds.length ∧ ∃ F1 acc vacc ci rest, Go fr.pc F' H' F1 H1 ∧ Same F1 H1 ∧ CupAt fr.pc F1 H1 ci ∧ F1 P = none ∧ H1 P = some (.lst vacc) ∧ RpL K F1 vacc acc ∧ lcL b t e (wipeS (s.wc c) vs) (ds.drop i) ci = .ok rest c3 ∧ acc ++ rest = out,
        ⟨ds.length, by simp, Nat.zero_le _, F', [], [], c, out, Go.newH hP, same_updH sb hP, fun p hp => ?_, sb.free hP, upd_same, .nil, e1, rfl⟩, ?_⟩
      · obtain ⟨k1, k2⟩ := cu p hp
        exact ⟨k1, by rw [upd_ne (ne_of_none k2 hP)]; exact k2⟩
      rintro i m H1 ⟨rfl, hi1, F1, acc, vacc, ci, rest, g1, sb1, cu1, fp, hp, ra, el, eo⟩
      by_cases hlt : i < ds.length
      · right
        rw [List.drop_eq_getElem_cons hlt] at el
        unfold lcL at el
        have pne : fr.pc ≠ some P := fun z => by
          have := (cu P z).2
          rw [hP] at this
          cases this
        refine ⟨hJ.go F1 H1 i g1.f sb1 hlt, fun H2 => ∃ F1 acc vacc ci rest, Go fr.pc F' H' F1 H2 ∧ Same F1 H2 ∧ CupAt fr.pc F1 H2 ci ∧ F1 P = none ∧ H2 P = some (.lst vacc) ∧ RpL K F1 vacc acc ∧ lcL b t e (wipeS (s.wc c) vs) (ds.drop (i + 1)) ci = .ok rest c3 ∧ acc ++ rest = out,
          fun H2 k => ⟨ds.length - (i + 1), by omega, rfl, hlt, k⟩, fun x H2 y => ?_⟩
        obtain ⟨d, F2, e2, g2, sb2, r2⟩ := hJ.yl F1 H1 i x H2 g1.f sb1 y hlt
        rw [List.getElem?_eq_getElem hlt] at e2
        cases e2
        have hsw := ((hs1.step (g1.trans g2.weak) sb2 (cu1.go g2)).wipe vs)
        rw [← wipeS_wc] at hsw
        cases e3 : b ds[i] ((wipeS (s.wc c) vs).wc ci) with
        | none => rw [e3] at el; cases el
        | some s2 =>
          simp only [e3] at el
          refine ⟨fr, _, F2, _, hsw, r2, s2, e3, fun σ2 o2 hs2 => ⟨wipe_only o2 hi, fr, s2, F2, hs2, ?_⟩⟩
          cases e4 : t s2 with
          | err _ _ => simp only [e4] at el; cases el
          | no => simp only [e4] at el; cases el
          | ok kb c1 =>
            intro F3 H3 g3 sb3 cu3
            cases kb with
            | false =>
              simp only [e4] at el
              refine L2.iteF ⟨F3, acc, vacc, c1, rest, (g1.trans g2.weak).trans g3, sb3, cu3, g3.n P (g2.t P (by rw [hp]; exact fun z => nomatch z)) (g2.n P (by rw [hp]; exact fun z => nomatch z) fp), g3.h P _ pne (g2.h P _ (by simp) hp), (ra.mono g2.f).mono g3.f, el, eo⟩
            | true =>
              simp only [e4] at el
              have hs3 := hs2.step g3 sb3 cu3
              cases e5 : e (s2.wc c1) with
              | err _ _ => simp only [e5] at el; cases el
              | no => simp only [e5] at el; cases el
              | ok d5 c5 =>
                simp only [e5] at el
                cases e6 : lcL b t e (wipeS (s.wc c) vs) (ds.drop (i + 1)) c5 with
                | err _ _ => simp only [e6] at el; cases el
                | no => simp only [e6] at el; cases el
                | ok rest6 c6 =>
                  simp only [e6] at el
                  cases el
                  refine L2.iteT ⟨fr, _, F3, hs3, ?_⟩
                  show Post mg E1 fr F3 H3 (e (s2.wc c1)) _
                  rw [e5]
                  intro F4 H4 g4 sb4 cu4 v4 r4
                  have hp4 : H4 P = some (.lst vacc) := g4.h P _ pne (g3.h P _ pne (g2.h P _ (by simp) hp))
                  have fp4 : F4 P = none := g4.n P (g3.t P (g2.t P (by rw [hp]; exact fun z => nomatch z))) (g3.n P (g2.t P (by rw [hp]; exact fun z => nomatch z)) (g2.n P (by rw [hp]; exact fun z => nomatch z) fp))
                  have ra4 : RpL K F4 vacc acc := ((ra.mono g2.f).mono g3.f).mono g4.f
                  have gh : ∀ a o, a ≠ P → H4 a = some o → upd H4 P (.lst (vacc ++ [v4])) a = some o := fun a o ha e => by rw [upd_ne ha]; exact e
                  have g14 := ((g1.trans g2.weak).trans g3).trans g4
                  refine ⟨vacc, hp4, ?_, F4, acc ++ [d5], vacc ++ [v4], c5, rest6, ⟨g14.f, fun a o pc e => gh a o (ne_of_none e hP) (g14.h a o pc e), fun a ha => ?_, g14.n⟩, fun a o e => gh a o (ne_of_none e fp4) (sb4 _ _ e), fun p hp => ?_, fp4, upd_same, ra4.append (.cons r4 .nil), e6, by rw [List.append_assoc]; exact eo⟩
                  · have := lenOk_le ho
                    rw [← eo, List.length_append, List.length_cons] at this
                    rw [ra4.length]
                    omega
                  · by_cases hb : a = P
                    · subst hb; rw [upd_same]; exact fun z => nomatch z
                    · rw [upd_ne hb]; exact g14.t a ha
                  · obtain ⟨k1, k2⟩ := cu4 p hp
                    exact ⟨k1, gh _ _ (fun z => pne (by rw [← z]; exact hp)) k2⟩
      · left
        have ei : i = ds.length := by omega
        subst ei
        rw [List.drop_length] at el
        cases el
        rw [List.append_nil] at eo
        subst eo
        refine ⟨hJ.st F1 H1 g1.f sb1, ?_⟩
        have nn : H P = none := by
          cases q : H P with
          | none => rfl
          | some o => exact absurd hP (g.t P (by rw [q]; exact fun z => nomatch z))
        exact q1 F1 H1 g1 sb1 cu1 _ ⟨P, vacc, rfl, nn, fp, hp, ra⟩
    · rw [if_neg ho] at q1
      exact q1.elim
def mYes : M Bool := rt true
theorem rd_yes {Q : Bool → Hp → Prop} (h : rdT K mg E mYes σ H Q) : tYes σ H Q := by
  obtain ⟨fr, s, F, hs, q⟩ := h
  exact q F H (Go.refl _ _ _) hs.sub hs.cup
/-! ### calls and defs -/
inductive O where
  | ok (d : PyData)
  | err (x : Ex)
  | no
def spD (K : PySem.W.Frag) (mg : Str → Option Value) (n : Nat) (φ : List PyData → O) : Sp := fun vs H Q E => vs.length = n ∧ ∃ F ds, Same F H ∧ RpL K F vs ds ∧ match φ ds with
  | .ok d => ∀ v F' H', Go none F H F' H' → Same F' H' → Rp K F' v d → Q v H'
  | .err x => ∀ F' H' cls dd, Go none F H F' H' → Same F' H' → ExOk mg H' x cls dd → E cls dd H'
  | .no => False
def spC (K : PySem.W.Frag) (mg : Str → Option Value) (n : Nat) (φ : Int × Int → List PyData → R PyData) : Sp := fun vs H Q E => vs.length = n ∧ ∃ pc F vs' ds c, vs = .ref pc :: vs' ∧ Same F H ∧ CupAt (some pc) F H c ∧ RpL K F vs' ds ∧ match φ c ds with
  | .ok d c' => ∀ v F' H', Go (some pc) F H F' H' → Same F' H' → CupAt (some pc) F' H' c' → Rp K F' v d → Q v H'
  | .err x c' => ∀ F' H' cls dd, Go (some pc) F H F' H' → Same F' H' → CupAt (some pc) F' H' c' → ExOk mg H' x cls dd → E cls dd H'
  | .no => False
def mCall (φ : List PyData → O) (m : M (List PyData)) : M PyData := bnd m fun ds => fun s => match φ ds with
  | .ok d => .ok d s.c
  | .err x => .err x s.c
  | .no => .no
def mCallC (i : Nat) (φ : Int × Int → List PyData → R PyData) (m : M (List PyData)) : M PyData := fun s => match s.r[i]? with
  | some .cup => bnd m (fun ds => fun s => φ s.c ds) s
  | _ => .no
theorem rd_call {n : Nat} {φ : List PyData → O} {mas : M (List PyData)} (hn : ∀ s ds c, mas s = .ok ds c → ds.length = n) {Q : VK} (h : rdE K mg E (mCall φ mas) σ H Q) : tCall (spD K mg n φ) [] E (rdA K mg E mas) σ H Q := by
  obtain ⟨fr, s, F, hs, q⟩ := h
  have q' := Post.bnd q
  refine ⟨fr, s, F, hs, ?_⟩
  cases e0 : mas s with
  | err x c => rw [e0] at q'; exact q'
  | no => rw [e0] at q'; exact q'
  | ok ds c =>
    rw [e0] at q'
    intro F' H' g sb cu vs r
    have q1 := q' F' H' g sb cu
    rw [List.append_nil]
    refine ⟨by rw [r.length]; exact hn _ _ _ e0, F', ds, sb, r, ?_⟩
    cases e : φ ds with
    | ok d => simp only [e] at q1; exact fun v F2 H2 g2 sb2 r2 => q1 F2 H2 g2.weak sb2 (cu.go g2) v r2
    | err x => simp only [e] at q1; exact fun F2 H2 cls dd g2 sb2 ex => q1 F2 H2 cls dd g2.weak sb2 (cu.go g2) ex
    | no => simp only [e] at q1; exact q1
theorem rd_callC {n : Nat} {φ : Int × Int → List PyData → R PyData} {mas : M (List PyData)} (hn : ∀ s ds c, mas s = .ok ds c → ds.length = n) {Q : VK} (h : rdE K mg E (mCallC i φ mas) σ H Q) : tCall (spC K mg (n + 1) φ) [] E (tCons (tVar i) (rdA K mg E mas)) σ H Q := by
  obtain ⟨fr, s, F, hs, q⟩ := h
  unfold mCallC at q
  split at q
  · rename_i ei
    obtain ⟨o, k', p, rfl, hp⟩ := hs.sl i _ ei
    have q' := Post.bnd q
    refine ⟨_, k', fr, s, F, hs, ?_⟩
    cases e0 : mas s with
    | err x c => rw [e0] at q'; exact q'
    | no => rw [e0] at q'; exact q'
    | ok ds c =>
      rw [e0] at q'
      intro F' H' g sb cu vs r
      have q1 := q' F' H' g sb cu
      show spC K mg (n + 1) φ ((V.ref p :: vs) ++ []) H' Q E
      rw [List.append_nil]
      refine ⟨by rw [List.length_cons, r.length, hn _ _ _ e0], p, F', vs, ds, c, rfl, sb, by rw [← hp]; exact cu, r, ?_⟩
      rw [← hp]
      cases e : φ c ds with
      | ok d c2 => simp only [e] at q1; exact fun v F2 H2 g2 sb2 cu2 r2 => q1 F2 H2 g2 sb2 cu2 v r2
      | err x c2 => simp only [e] at q1; exact fun F2 H2 cls dd g2 sb2 cu2 ex => q1 F2 H2 cls dd g2 sb2 cu2 ex
      | no => simp only [e] at q1; exact q1
  · exact q.elim
end
end Pu
end

noncomputable section
set_option Elab.async false
set_option linter.all false
set_option maxRecDepth 100000
set_option maxHeartbeats 4000000
/-! Pu, fifth part: the rules for statements, loops, comprehensions, calls; defs. -/
namespace Pu
open PySem PySem.Spec L2
section
variable {X : Cx} {E : XK} {a b c e it elt tg tg2 i1 : Expr} {rest es : List Expr} {ma mb mc m : M D} {ta : M Bool} {mas mit : M (List D)} {pos p px py pt apos : Pos} {x y z : Str} {st : Stmt} {sts body orelse : List Stmt} {s1 s2 : MS} {i j l : Nat} {bd : Bd} {bds : List Bd} {idx i2 : List Nat}
theorem st_nil : PSsD X E [] mNext := PSs.imp pss_nil fun _ _ _ => rd_next
theorem st_cons (h1 : PSD X E st s1) (h2 : PSsD X E sts s2) : PSsD X E (st :: sts) (mSeq s1 s2) := PSs.imp (pss_cons h1 h2) fun _ _ _ => rd_seq
theorem st_one (h1 : PSD X E st s1) : PSsD X E [st] s1 := pss_one h1
theorem st_pass : PSD X E (.Pass pos) mNext := PS.imp ps_pass fun _ _ _ => rd_next
theorem st_brk : PSD X E (.Break pos) mBrk := PS.imp ps_break fun _ _ _ => rd_brk
theorem st_cnt : PSD X E (.Continue pos) mCnt := PS.imp ps_continue fun _ _ _ => rd_cnt
theorem st_never : PSD X E st mNo := PS.imp ps_never fun _ _ _ => rd_no
theorem st_frz (i : Nat) (h : PSD X E st s1) : PSD X E st (mFrz i s1) := PS.imp h fun _ _ _ => rd_frz
theorem sts_frz (i : Nat) (h : PSsD X E sts s1) : PSsD X E sts (mFrz i s1) := PSs.imp h fun _ _ _ => rd_frz
theorem st_expr (h : PB X E e m) (hs : swapsWith e none pos.line X.env = pure false := by rfl) : PSD X E (.Expr e pos) (mDrop m) := PS.imp (ps_expr h hs) fun _ _ _ => rd_drop
theorem st_ret (h : PD X E e m) : PSD X E (.Return (some e) pos) (mRet m) := PS.imp (ps_ret h) fun _ _ _ => rd_ret
theorem st_retN : PSD X E (.Return none pos) mRetN := PS.imp ps_retN fun _ _ _ => rd_retN
theorem st_if (hc : PTD X E c ta) (ha : PSsD X E body s1) (hb : PSsD X E orelse s2) : PSD X E (.If c body orelse pos) (mIfS ta s1 s2) := PS.imp (ps_if hc ha hb) fun _ _ _ => rd_ifS
theorem st_setF (i : Nat) (hN : X.N.Nodup) (he : PF X E e m) (hi : X.N[i]? = some x := by rfl) (hx : Loc X.env.scope x := by first | exact .inl rfl | exact .inr rfl) (hs : swapsWith e (some (.Name x px)) pos.line X.env = pure false := by rfl)
    (hf : X.fn x = true ∨ X.env.scope.names.lookup x = some .local := by first | exact .inl rfl | exact .inr rfl) : PSD X E (.Assign [.Name x px] e pos) (mSetF i m) := PS.imp (ps_set hN hi hx he hs hf) fun _ _ _ => rd_setF
theorem st_setE (i : Nat) (hN : X.N.Nodup) (he : PD X E e m) (hi : X.N[i]? = some x := by rfl) (hx : Loc X.env.scope x := by first | exact .inl rfl | exact .inr rfl) (hs : swapsWith e (some (.Name x px)) pos.line X.env = pure false := by rfl)
    (hf : X.fn x = true ∨ X.env.scope.names.lookup x = some .local := by first | exact .inl rfl | exact .inr rfl) : PSD X E (.Assign [.Name x px] e pos) (mSetE i m) := PS.imp (ps_set hN hi hx he hs hf) fun _ _ _ => rd_setE
/-! ### targets -/
abbrev PGD (X : Cx) (tg : Expr) (bd : Bd) (idx : List Nat) := PG X tg (gD X.K bd idx)
abbrev PGsD (X : Cx) (tg : List Expr) (bds : List Bd) (idx : List Nat) := PGs X tg (gDs X.K bds idx)
theorem PGs.imp {ts : List Expr} {t t' : TGs} (h : PGs X ts t) (hi : ∀ vs σ H Q, t' vs σ H Q → t vs σ H Q) : PGs X ts t' := ⟨fun pins s σ H v u Q I r q => h.run pins s σ H v u Q I r (hi _ _ _ _ q)⟩
theorem g_name (i : Nat) (hN : X.N.Nodup) (hi : X.N[i]? = some x := by rfl) (hx : Loc X.env.scope x := by first | exact .inl rfl | exact .inr rfl) (hf : X.fn x = true ∨ X.env.scope.names.lookup x = some .local := by first | exact .inl rfl | exact .inr rfl) : PGD X (.Name x pos) (bName i) [i] :=
  PG.imp (pg_name hN hi hx hf) fun _ _ _ _ => gd_name
theorem gs_nil : PGsD X [] [] [] := PGs.imp pgs_nil fun _ _ _ _ => gd_nil
theorem gs_cons (h1 : PGD X tg bd idx) (h2 : PGsD X es bds i2) (hs : (assignEach (tg :: es) X.env).map (·.2) = assign tg X.env :: (assignEach es X.env).map (·.2) := by rfl) : PGsD X (tg :: es) (bd :: bds) (idx ++ i2) :=
  PGs.imp (pgs_cons h1 h2 hs) fun _ _ _ _ => gd_cons
theorem st_bind (he : PD X E e m) (hg : PGD X tg bd idx) (hs : swapsWithSole [tg] e pos.line X.env = pure false := by rfl) (hw : swappedStores [tg] e X.env = pure none := by rfl) (h1 : (assignEach [tg] X.env).map (·.2) = [assign tg X.env] := by rfl) : PSD X E (.Assign [tg] e pos) (mBind bd m) :=
  PS.imp (ps_asg he hg hs hw h1) fun _ _ _ => rd_bind
theorem st_par {k k2 : Nat} {p2 : Pos} (i j : Nat) (hc : X.calm = true) (hN : X.N.Nodup) (hij : i ≠ j) (ha : PF X E a ma) (hb : PF X E b mb) (hi : X.N[i]? = some x := by rfl) (hj : X.N[j]? = some y := by rfl)
    (hx : X.env.scope.names.lookup x = some .local := by rfl) (hy : X.env.scope.names.lookup y = some .local := by rfl)
    (hw : swappedStores [.Tuple [.Name x px, .Name y py] k pt] (.Tuple [a, b] k2 p2) X.env = pure (some [x, y]) := by rfl)
    (hs : swapsWithSole [.Tuple [.Name x px, .Name y py] k pt] (.Tuple [a, b] k2 p2) pos.line X.env = pure false := by rfl)
    (h1 : starEach [a, b] X.env = (false, eval a X.env) :: starEach [b] X.env := by rfl) (h2 : starEach [b] X.env = (false, eval b X.env) :: starEach [] X.env := by rfl) :
    PSD X E (.Assign [.Tuple [.Name x px, .Name y py] k pt] (.Tuple [a, b] k2 p2) pos) (mPar i j ma mb) :=
  PS.imp (ps_par hc hN hi hj hij hx hy (L2.pa_cons ha (L2.pa_cons hb L2.pa_nil h2) h1) hw hs) fun _ _ _ => rd_par hij
/-! ### stores -/
theorem st_app (i : Nat) (he : PD X E e m) (hN : X.N[i]? = some x := by rfl) (hv : Vis X.env.scope x := by first | exact Or.inl rfl | exact Or.inr (Or.inl rfl) | exact Or.inr (Or.inr rfl)) (hd : (x == ("__debug__" : Str)) = false := by decide) (hcd : (x == ("__classdict__" : Str)) = false := by decide)
    (hbase : attributeBase (.Name x px) "append" X.env (eval (.Name x px) X.env) = eval (.Name x px) X.env := by rfl)
    (hfew : ((backTo p (starEach (e :: []) X.env)).all (fun x => !x.1) && (backToKw p (keywordEach [] X.env)).all (fun x => x.1.isSome) && decide ((e :: ([] : List Expr)).length + ([] : List Keyword).length + (if ([] : List Keyword).isEmpty then 0 else 1) < 30)) = true := by rfl)
    (hline : (apos.endLine == p.line) = true := by rfl) (hs : starEach (e :: []) X.env = (false, eval e X.env) :: starEach [] X.env := by rfl) (hsw : swapsWith (.Call (.Attribute (.Name x px) "append" apos) [e] [] p) none pos.line X.env = pure false := by rfl) :
    PSD X E (.Expr (.Call (.Attribute (.Name x px) "append" apos) [e] [] p) pos) (mApp i m) :=
  PS.imp (ps_expr (pe_bm PySem.F.plainAttrs_list PySem.F.slot_list_append PySem.F.type_list_append mt_append (pe_var hN hv hd hcd) (L2.pa_cons he L2.pa_nil hs) hbase hfew hline hs rfl) hsw) fun _ _ _ => rd_app
theorem st_aug {op : Operator} {g : D → D → Option D} (i : Nat) (hN : X.N.Nodup) (ho : PIp X op (ipG X.K g)) (he : PB X E e m) (hi : X.N[i]? = some x := by rfl) (hx : Loc X.env.scope x := by first | exact .inl rfl | exact .inr rfl)
    (hf : X.fn x = true ∨ X.env.scope.names.lookup x = some .local := by first | exact .inl rfl | exact .inr rfl) : PSD X E (.AugAssign (.Name x px) op e pos) (mAug i g m) := PS.imp (ps_aug hN hi hx he ho hf) fun _ _ _ => rd_aug
theorem st_ext (i : Nat) (hN : X.N.Nodup) (he : PB X E e m) (hi : X.N[i]? = some x := by rfl) (hx : Loc X.env.scope x := by first | exact .inl rfl | exact .inr rfl)
    (hf : X.fn x = true ∨ X.env.scope.names.lookup x = some .local := by first | exact .inl rfl | exact .inr rfl) : PSD X E (.AugAssign (.Name x px) .Add e pos) (mExt i m) := PS.imp (ps_aug hN hi hx he (fun pins s σ H x y v u Q I r1 r2 q => iop_ext pins s σ H x y v u Q I r1 r2 q) hf) fun _ _ _ => rd_ext
def addI : D → D → Option D
  | .int i, .int j => some (.int (i + j))
  | _, _ => none
theorem ipd_add : PIp X .Add (ipG X.K addI) := by
  intro pins s σ H x y v u Q I rx ry h
  obtain ⟨pc, F, d, e, z, r1, r2, sb, h, q⟩ := h
  unfold addI at h
  split at h
  · cases h
    exact iop_add pins s σ H x y v u Q I rx ry ⟨_, _, r1.int, r2.int, q _ _ _ (Go.refl _ _ _) sb (.int _)⟩
  · cases h
theorem pf_cup {k : Int} {kk : Nat} (i : Nat) (hN : X.N[i]? = some x := by rfl) (hv : Vis X.env.scope x := by first | exact Or.inl rfl | exact Or.inr (Or.inl rfl) | exact Or.inr (Or.inr rfl)) (hd : (x == ("__debug__" : Str)) = false := by decide)
    (hcd : (x == ("__classdict__" : Str)) = false := by decide) (hs : PlainIx (.Constant (.int k) kk p) := by exact fun _ _ => rfl) : PF X E (.Subscript (.Name x px) (.Constant (.int k) kk p) pos) (cupGet i k) :=
  PE.imp (pe_ix ix_list (pe_var hN hv hd hcd) pe_int hs) fun _ _ _ => rd_cupGet
theorem st_cup {k : Int} {kk : Nat} (i : Nat) (he : PB X E e m) (hN : X.N[i]? = some x := by rfl) (hv : Vis X.env.scope x := by first | exact Or.inl rfl | exact Or.inr (Or.inl rfl) | exact Or.inr (Or.inr rfl)) (hd : (x == ("__debug__" : Str)) = false := by decide)
    (hcd : (x == ("__classdict__" : Str)) = false := by decide) (ha : ∀ v, assign (.Subscript (.Name x px) (.Constant (.int k) kk p) apos) X.env v = (do
      let ov ← holding [v] (eval (.Name x px) X.env)
      let iv ← holding [v, ov] (eval (.Constant (.int k) kk p) X.env)
      standAt apos
      holding [v, ov, iv] (setItem ov iv v)
      release [v, ov, iv] []) := by intro _; rfl) (hs : swapsWithSole [.Subscript (.Name x px) (.Constant (.int k) kk p) apos] e pos.line X.env = pure false := by rfl) (hw : swappedStores [.Subscript (.Name x px) (.Constant (.int k) kk p) apos] e X.env = pure none := by rfl) :
    PSD X E (.Assign [.Subscript (.Name x px) (.Constant (.int k) kk p) apos] e pos) (mCupSet i k m) :=
  PS.imp (ps_asg he (pg_sub (pe_var hN hv hd hcd) pe_int set_list ha) hs hw) fun _ _ _ => rd_cupSet
/-! ### loops -/
theorem PI.or {w1 w2 : TI} (h1 : PI X tg e w1) (h2 : PI X tg e w2) : PI X tg e fun σ H Q => w1 σ H Q ∨ w2 σ H Q := ⟨fun pins s σ H R I h => by
  rcases h with h | h
  · exact h1.run pins s σ H R I h
  · exact h2.run pins s σ H R I h⟩
/-- a value's walk: by what it is -/
theorem pi_any {t : TE} (he : PE X e t) : PI X tg e fun σ H R => t σ H fun x H1 => (∃ a, x = .ref a ∧ (∃ xs, SqL X.K H1 a xs) ∧ R (Itl X.K a) H1) ∨ (∃ a, x = .ref a ∧ (∃ xs, SqT X.K H1 a xs) ∧ R (Itt X.K a) H1) ∨ ∃ z, x = .str z ∧ R (Its z) H1 := by
  refine ⟨fun pins s σ H R I h => thn (he.run pins s σ H _ I h) fun u s1 ⟨x, H1, I1, r1, q⟩ => ?_⟩
  have fp : ∀ b ∈ [s1.heap.objs.size], FpOk X pins H1 b := fun b hb => by
    have e : b = s1.heap.objs.size := by simpa using hb
    subst e
    exact I1.fpOk (Nat.le_refl _) (I1.hok.fresh (Nat.le_refl _))
  rcases q with ⟨a, rfl, ⟨xs, hq⟩, q⟩ | ⟨a, rfl, ⟨xs, hq⟩, q⟩ | ⟨z, rfl, q⟩
  · cases r1
    obtain ⟨its, rv, p, hz⟩ := I1.list hq
    exact wpAny_pyIter_list p.isList ⟨s1.heap.objs.size, [s1.heap.objs.size], _, _, H1, rfl, I1.kept (t' := s1.toks) fun b o e => Heap.get?_push_of_some _ e, turn_list a _, ⟨_, Heap.get?_push_size _ rfl, rfl, rfl⟩, fp, q⟩
  · cases r1
    obtain ⟨its, rv, p, hz⟩ := I1.tuple hq
    exact wpAny_pyIter_tuple (show s1.heap.IsTuple a its.toArray from p) ⟨s1.heap.objs.size, [s1.heap.objs.size], _, _, H1, rfl, I1.kept (t' := s1.toks) fun b o e => Heap.get?_push_of_some _ e, turn_tuple a _, ⟨_, Heap.get?_push_size _ rfl, rfl, rfl⟩, fp, q⟩
  · obtain ⟨t, rfl⟩ := r1
    cases ha : z.cps.all (· < 128)
    · exact wpAny_pyIter_wide ha (pi_one (tk := s1.toks) I1 _ (turn_str _ z t "str_iterator" (.inr rfl)) ⟨_, Heap.get?_push_size _ rfl, rfl, rfl⟩ q)
    · exact wpAny_pyIter_ascii ha (pi_one (tk := s1.toks) I1 _ (turn_str _ z t "str_ascii_iterator" (.inl rfl)) ⟨_, Heap.get?_push_size _ rfl, rfl, rfl⟩ q)
theorem i_d (he : PD X E e m) : PID X E tg e (mI iterD m) := PI.imp (pi_any he) fun _ _ _ => rd_it
theorem i_rng1 (hm : X.mg "range" = none) (ha : PB X E a m) (hg : Gl X "range" := by rfl) (hs : starEach [a] X.env = [(false, eval a X.env)] := by rfl) : PID X E tg (.Call (.Name "range" p) [a] [] pos) (mI rng1D m) :=
  PI.imp (pi_range1 hg hm (L2.pa_cons ha L2.pa_nil hs) hs) fun _ _ _ => rd_rng1
theorem i_rng2 (hm : X.mg "range" = none) (ha : PB X E a ma) (hb : PB X E b mb) (hg : Gl X "range" := by rfl) (hs : starEach [a, b] X.env = [(false, eval a X.env), (false, eval b X.env)] := by rfl) (hs2 : starEach [b] X.env = [(false, eval b X.env)] := by rfl) : PID X E tg (.Call (.Name "range" p) [a, b] [] pos) (mR2 ma mb) :=
  PI.imp (pi_range2 hg hm (L2.pa_cons ha (L2.pa_cons hb L2.pa_nil hs2) (by rw [hs2]; exact hs)) hs hs2) fun _ _ _ => rd_rng2
theorem g_tup {k : Nat} (hc : X.calm = true) (h : PGsD X es bds idx) (hn : bds.length = es.length := by rfl) (h1 : (assignEach es X.env).length = es.length := by rfl) (h2 : (assignEach es X.env).findIdx? (·.1) = none := by rfl) : PGD X (.Tuple es k pos) (bTup bds) idx :=
  PG.imp (pg_tup (n := es.length) hc h h1 h2) fun _ _ _ _ => gd_tup hn
theorem st_for (hp : PassesOwn (model X.prog X.w) X.A X.env X.xe) (hc : X.calm = true) (hi : PID X E tg it mit) (hg : PGD X tg bd idx) (hb : PSsD X E body s1) (hs : ∀ x, foldedSetIterable it X.env x = pure x := by intro _; rfl) : PSD X E (.For tg it body [] pos) (mFor bd mit s1) :=
  PS.imp (ps_for hp hc hi hg hb hs) fun _ _ _ => rd_for
theorem st_while (n : Nat) (hp : PassesOwn (model X.prog X.w) X.A X.env X.xe) (hc : PTD X E c ta) (hb : PSsD X E body s1) : PSD X E (.While c body [] pos) (mWhile n ta s1) := PS.imp (ps_while hp hc hb) fun _ _ _ => rd_while
/-! ### comprehensions -/
abbrev PTsD (X : Cx) (E : XK) (ifs : List Expr) (m : M Bool) := PTs X ifs (rdT X.K X.mg E m)
theorem ts_nil : PTsD X E [] mYes := ⟨fun pins s σ H Q I h => pts_nil.run pins s σ H Q I (rd_yes h)⟩
theorem ts_one (h : PTD X E c ta) : PTsD X E [c] ta := pts_one h
section
variable {scope : Scope} {own : List (Str × Nat)} {ifs : List Expr}
theorem pf_lc (own : List (Str × Nat)) (hc : X.calm = true) (hN : X.N.Nodup) (hi : PID X E tg it mit) (ok : BlkOk X.N X.env.scope scope own)
    (hg : ∀ (s : Shared) (H : Hp) (C : Addr) (cl : List (Str × Addr)) (fp : List Addr), PGD (X.blk s H scope (compEnvC scope cl C X.env) fp) tg bd idx) (ht : ∀ (s : Shared) (H : Hp) (C : Addr) (cl : List (Str × Addr)) (fp : List Addr), PTsD (X.blk s H scope (compEnvC scope cl C X.env) fp) L2.E0 ifs ta)
    (he : ∀ (s : Shared) (H : Hp) (C : Addr) (cl : List (Str × Addr)) (fp : List Addr), PD (X.blk s H scope (compEnvC scope cl C X.env) fp) L2.E0 elt m) (hx : ∀ j ∈ idx, j ∈ own.map (·.2) := by decide) (hs : ∀ x, foldedSetIterable it X.env x = pure x := by intro _; rfl) :
    PF X E (.ListComp elt [⟨tg, it, ifs, 0⟩] scope pos) (mLc (own.map (·.2)) mit bd ta m) :=
  PE.imp (pe_lc hc hN hi ok hg ht he hs) fun _ _ _ => rd_lc hx
theorem st_setLc (i : Nat) (own : List (Str × Nat)) (hc : X.calm = true) (hN : X.N.Nodup) (hsw : swapsWith (.ListComp elt [⟨tg, it, ifs, 0⟩] scope p) (some (.Name x px)) pos.line X.env = pure true) (hi : PID X E tg it mit) (ok : BlkOk X.N X.env.scope scope own)
    (hg : ∀ (s : Shared) (H : Hp) (C : Addr) (cl : List (Str × Addr)) (fp : List Addr), PGD (X.blk s H scope (compEnvC scope cl C X.env) fp) tg bd idx) (ht : ∀ (s : Shared) (H : Hp) (C : Addr) (cl : List (Str × Addr)) (fp : List Addr), PTsD (X.blk s H scope (compEnvC scope cl C X.env) fp) L2.E0 ifs ta)
    (he : ∀ (s : Shared) (H : Hp) (C : Addr) (cl : List (Str × Addr)) (fp : List Addr), PD (X.blk s H scope (compEnvC scope cl C X.env) fp) L2.E0 elt m) (hx : ∀ j ∈ idx, j ∈ own.map (·.2) := by decide) (hy : X.N[i]? = some x := by rfl) (hyl : X.env.scope.names.lookup x = some .local := by rfl)
    (hs : ∀ x, foldedSetIterable it X.env x = pure x := by intro _; rfl) :
    PSD X E (.Assign [.Name x px] (.ListComp elt [⟨tg, it, ifs, 0⟩] scope p) pos) (mSetF i (mLc (own.map (·.2)) mit bd ta m)) :=
  PS.imp (ps_setLc hc hN hy hyl hsw hi ok hg ht he hs) fun D σ H q => by
    have q := rd_setF q
    exact rd_lc (E1 := L2.E0) hx q
end
/-! ### calls -/
section
variable {k n : Nat} {f : Addr} {fd : FuncData} {ps : List Str} {φ : List D → O} {φc : Int × Int → List D → R D}
theorem acons_len {s : S} {ds : List D} {c : Int × Int} : ∀ {n : Nat} {ma : M D} {mas : M (List D)}, (∀ s ds c, mas s = .ok ds c → ds.length = n) → aCons ma mas s = .ok ds c → ds.length = n + 1 := fun {n ma mas} h e => by
  unfold aCons bnd at e
  cases e1 : ma s with
  | err _ _ => rw [e1] at e; cases e
  | no => rw [e1] at e; cases e
  | ok d c1 =>
    rw [e1] at e
    simp only [bnd] at e
    cases e2 : mas (s.wc c1) with
    | err _ _ => rw [e2] at e; cases e
    | no => rw [e2] at e; cases e
    | ok ds2 c2 =>
      rw [e2] at e
      cases e
      simp [h _ _ _ e2]
/-- argument lists of a known length -/
structure PAN (X : Cx) (E : XK) (es : List Expr) (n : Nat) (mas : M (List D)) : Prop where
  pa : PAD X E es mas
  len : ∀ s ds c, mas s = .ok ds c → ds.length = n
theorem an_nil : PAN X E [] 0 aNil := ⟨pa_nil, fun s ds c e => by cases e; rfl⟩
theorem an_cons (ha : PD X E e m) (hr : PAN X E es n mas) (hs : starEach (e :: es) X.env = (false, eval e X.env) :: starEach es X.env := by rfl) : PAN X E (e :: es) (n + 1) (aCons m mas) := ⟨pa_cons ha hr.pa hs, fun s ds c e => acons_len hr.len e⟩
theorem pd_call (F : FnOk X.prog X.w X.K X.mg X.base (L2.CX X.prog X.w) k f fd ps (spD X.K X.mg n φ)) (hr : Room k X.A) (hx : Passes (L2.CX X.prog X.w) X E) (hm : X.mg x = some (.ref f)) (hk : PySem.W.keepIn X.K (.ref f) = true) (hb : Binds X.K fd ps []) (ha : PAN X E (e :: es) n mas)
    (hg : Gl X x := by rfl) (hdb : (x == ("__debug__" : Str)) = false := by decide) (he : starEach (e :: es) X.env = (false, eval e X.env) :: starEach es X.env := by rfl) (hpl : (backTo pos (starEach es X.env)).any (·.1) = false := by rfl) : PD X E (.Call (.Name x p) (e :: es) [] pos) (mCall φ mas) :=
  PE.imp (pe_call F hr hg hm hk hb .nil hx ha.pa hdb he hpl) fun _ _ _ => rd_call ha.len
theorem pd_callC (i : Nat) (F : FnOk X.prog X.w X.K X.mg X.base (L2.CX X.prog X.w) k f fd ps (spC X.K X.mg (n + 1) φc)) (hr : Room k X.A) (hx : Passes (L2.CX X.prog X.w) X E) (hm : X.mg x = some (.ref f)) (hk : PySem.W.keepIn X.K (.ref f) = true) (hb : Binds X.K fd ps []) (ha : PAN X E es n mas)
    (hN : X.N[i]? = some y := by rfl) (hv : Vis X.env.scope y := by first | exact Or.inl rfl | exact Or.inr (Or.inl rfl) | exact Or.inr (Or.inr rfl)) (hd : (y == ("__debug__" : Str)) = false := by decide) (hcd : (y == ("__classdict__" : Str)) = false := by decide)
    (hg : Gl X x := by rfl) (hdb : (x == ("__debug__" : Str)) = false := by decide) (he : starEach (.Name y py :: es) X.env = (false, eval (.Name y py) X.env) :: starEach es X.env := by rfl) (hpl : (backTo pos (starEach es X.env)).any (·.1) = false := by rfl) : PD X E (.Call (.Name x p) (.Name y py :: es) [] pos) (mCallC i φc mas) :=
  PE.imp (pe_call F hr hg hm hk hb .nil hx (L2.pa_cons (pe_var hN hv hd hcd) ha.pa he) hdb he hpl) fun _ _ _ => rd_callC ha.len
end
/-! ### defs -/
section
variable {P : Program} {w : World} {K : PySem.W.Frag} {mg : Str → Option Value} {base : Heap}
def fin : RS → O
  | .next _ => .ok .none
  | .ret d _ => .ok d
  | .err x _ => .err x
  | _ => .no
def finC : RS → R D
  | .next s => .ok .none s.c
  | .ret d c => .ok d c
  | .err x c => .err x c
  | _ => .no
def st0 (n : Nat) (ds : List D) : List Sl := ds.map .fz ++ List.replicate (n - ds.length) .no
theorem start_get {N : List Str} {vs : List V} {ds : List D} {F : Hp} (r : RpL K F vs ds) {i : Nat} {t : Sl} (e : (st0 N.length ds)[i]? = some t) : ∃ o, (L2.start N vs)[i]? = some o ∧ ((t = .no) ∨ ∃ d v, t = .fz d ∧ o = some v ∧ Rp K F v d) := by
  unfold st0 at e
  unfold L2.start
  have hl := r.length
  by_cases hi : i < ds.length
  · rw [List.getElem?_append_left (by simpa using hi)] at e
    rw [List.getElem?_map, List.getElem?_eq_getElem hi] at e
    cases e
    obtain ⟨v, e1, e2⟩ := r.get i (List.getElem?_eq_getElem hi)
    refine ⟨some v, ?_, .inr ⟨_, v, rfl, rfl, e2⟩⟩
    rw [List.getElem?_append_left (by simp; omega), List.getElem?_map, e1]
    rfl
  · rw [List.getElem?_append_right (by simpa using Nat.le_of_not_lt hi)] at e
    rw [List.getElem?_append_right (by simp; omega)]
    have := List.getElem?_eq_some_iff.mp e
    obtain ⟨h1, h2⟩ := this
    rw [List.length_replicate] at h1
    rw [List.getElem_replicate] at h2
    refine ⟨none, ?_, .inl h2.symm⟩
    rw [List.getElem?_replicate]
    simp only [List.length_map] at h1 ⊢
    rw [if_pos (by omega)]
theorem fn_pure {x qual : Str} {st : Stmt} {f : Addr} {fd : FuncData} {N ps : List Str} {k : Nat} {φ : List D → O} (F : Fun K x qual st f fd) (S0 : FnScope N ps (defScope st)) (m : MS) (hl : ps.length ≤ N.length)
    (hφ : ∀ ds, ds.length = ps.length → φ ds = .no ∨ fin (m ⟨(0, 0), st0 N.length ds⟩) = φ ds)
    (hm : ∀ (cdv : Value) (A : Around) (outer : List Env) (s : Shared) (H : Hp) (E : XK), Room k (A.deeper (PyProof.Rows.envOfC qual (defScope st) s.heap.objs.size f cdv)) →
      PSsD (cxOf (L2.CX P w) P w K mg base N qual (defScope st) f cdv A outer s H E) E (defBody st) m) : FnOk P w K mg base (L2.CX P w) (k + 1) f fd ps (spD K mg ps.length φ) := by
  refine F.okX S0 (fun vs H Q E h => h.1) fun cdv A outer s H vs Q E hr h => ?_
  obtain ⟨hn, Fz, ds, sb, r, q⟩ := h
  have hd : ds.length = ps.length := by rw [← r.length]; exact hn
  refine ⟨_, hm cdv A outer s H E hr, ?_⟩
  have hsat : Sat K ⟨none, Fz, H⟩ ⟨(0, 0), st0 N.length ds⟩ Fz (L2.start N vs) H := by
    refine ⟨sb, Go.refl _ _ _, fun p e => (by cases e), ?_, fun i t e => ?_, fun i j t u p e1 e2 o1 => ?_⟩
    · unfold L2.start st0
      simp only [List.length_append, List.length_map, List.length_replicate]
      rw [r.length]
    · obtain ⟨o, e1, e2⟩ := start_get r e
      refine ⟨o, e1, ?_⟩
      rcases e2 with rfl | ⟨d, v, rfl, rfl, e3⟩
      · trivial
      · exact ⟨v, rfl, e3⟩
    · obtain ⟨o, _, e3⟩ := start_get r e1
      rcases e3 with rfl | ⟨d, v, rfl, _⟩ <;> cases o1
  refine ⟨_, _, Fz, hsat, ?_⟩
  have hag := hφ ds hd
  cases em : m ⟨(0, 0), st0 N.length ds⟩ with
  | next s' =>
    rw [em] at hag
    rcases hag with hag | hag
    · rw [hag] at q; exact q.elim
    · rw [← hag] at q
      exact fun F' σ' H' hs' => q .non F' H' hs'.go hs'.sub .non
  | ret d c =>
    rw [em] at hag
    rcases hag with hag | hag
    · rw [hag] at q; exact q.elim
    · rw [← hag] at q
      exact fun v F' H' g sb cu r => q v F' H' g sb r
  | err x c =>
    rw [em] at hag
    rcases hag with hag | hag
    · rw [hag] at q; exact q.elim
    · rw [← hag] at q
      exact fun F' H' cls dd g sb cu ex => q F' H' cls dd g sb ex
  | brk s' => rw [em] at hag; rcases hag with hag | hag <;> (first | rw [hag] at q | rw [← hag] at q) <;> exact q.elim
  | cnt s' => rw [em] at hag; rcases hag with hag | hag <;> (first | rw [hag] at q | rw [← hag] at q) <;> exact q.elim
  | no => rw [em] at hag; rcases hag with hag | hag <;> (first | rw [hag] at q | rw [← hag] at q) <;> exact q.elim
/-- the same with the cup first -/
theorem fn_cup {x qual : Str} {st : Stmt} {f : Addr} {fd : FuncData} {N ps : List Str} {k n : Nat} {φ : Int × Int → List D → R D} (F : Fun K x qual st f fd) (S0 : FnScope N ps (defScope st)) (m : MS) (hps : ps.length = n + 1) (hl : ps.length ≤ N.length)
    (hφ : ∀ c ds, ds.length = n → φ c ds = .no ∨ finC (m ⟨c, .cup :: st0 (N.length - 1) ds⟩) = φ c ds)
    (hm : ∀ (cdv : Value) (A : Around) (outer : List Env) (s : Shared) (H : Hp) (E : XK), Room k (A.deeper (PyProof.Rows.envOfC qual (defScope st) s.heap.objs.size f cdv)) →
      PSsD (cxOf (L2.CX P w) P w K mg base N qual (defScope st) f cdv A outer s H E) E (defBody st) m) : FnOk P w K mg base (L2.CX P w) (k + 1) f fd ps (spC K mg (n + 1) φ) := by
  refine F.okX S0 (fun vs H Q E h => by rw [hps]; exact h.1) fun cdv A outer s H vs Q E hr h => ?_
  obtain ⟨hn, pc, Fz, vs', ds, c, rfl, sb, cu0, r, q⟩ := h
  have hd : ds.length = n := by
    rw [← r.length]
    simpa using hn
  refine ⟨_, hm cdv A outer s H E hr, ?_⟩
  have hsat : Sat K ⟨some pc, Fz, H⟩ ⟨c, .cup :: st0 (N.length - 1) ds⟩ Fz (L2.start N (.ref pc :: vs')) H := by
    have e0 : L2.start N (.ref pc :: vs') = some (.ref pc) :: (vs'.map some ++ List.replicate (N.length - 1 - vs'.length) none) := by
      unfold L2.start
      simp only [List.map_cons, List.cons_append, List.length_cons]
      rw [show N.length - (vs'.length + 1) = N.length - 1 - vs'.length by omega]
    have gt : ∀ (i : Nat) t, (st0 (N.length - 1) ds)[i]? = some t → ∃ o, (vs'.map some ++ List.replicate (N.length - 1 - vs'.length) none)[i]? = some o ∧ ((t = .no) ∨ ∃ d v, t = .fz d ∧ o = some v ∧ Rp K Fz v d) := fun i t e => by
      have := start_get (N := N.tail) r (i := i) (t := t) (by rw [List.length_tail]; exact e)
      unfold L2.start at this
      rw [List.length_tail] at this
      exact this
    rw [e0]
    refine ⟨sb, Go.refl _ _ _, cu0, ?_, fun i t e => ?_, fun i j t u p e1 e2 o1 => ?_⟩
    · unfold st0
      simp only [List.length_append, List.length_map, List.length_replicate, List.length_cons]
      rw [r.length]
    · cases i with
      | zero => cases e; exact ⟨_, rfl, pc, rfl, rfl⟩
      | succ i =>
        obtain ⟨o, e1, e2⟩ := gt i t (by simpa using e)
        refine ⟨o, by simpa using e1, ?_⟩
        rcases e2 with rfl | ⟨d, v, rfl, rfl, e3⟩
        · trivial
        · exact ⟨v, rfl, e3⟩
    · cases i with
      | zero => cases e1; cases o1
      | succ i =>
        obtain ⟨o, _, e3⟩ := gt i t (by simpa using e1)
        rcases e3 with rfl | ⟨d, v, rfl, _⟩ <;> cases o1
  refine ⟨_, _, Fz, hsat, ?_⟩
  have hag := hφ c ds hd
  cases em : m ⟨c, .cup :: st0 (N.length - 1) ds⟩ with
  | next s' =>
    rw [em] at hag
    rcases hag with hag | hag
    · rw [hag] at q; exact q.elim
    · rw [← hag] at q
      exact fun F' σ' H' hs' => q .non F' H' hs'.go hs'.sub hs'.cup .non
  | ret d c =>
    rw [em] at hag
    rcases hag with hag | hag
    · rw [hag] at q; exact q.elim
    · rw [← hag] at q
      exact fun v F' H' g sb cu r => q v F' H' g sb cu r
  | err x c =>
    rw [em] at hag
    rcases hag with hag | hag
    · rw [hag] at q; exact q.elim
    · rw [← hag] at q
      exact fun F' H' cls dd g sb cu ex => q F' H' cls dd g sb cu ex
  | brk s' => rw [em] at hag; rcases hag with hag | hag <;> (first | rw [hag] at q | rw [← hag] at q) <;> exact q.elim
  | cnt s' => rw [em] at hag; rcases hag with hag | hag <;> (first | rw [hag] at q | rw [← hag] at q) <;> exact q.elim
  | no => rw [em] at hag; rcases hag with hag | hag <;> (first | rw [hag] at q | rw [← hag] at q) <;> exact q.elim
end
/-- the same for the script: one list, of ints -/
def spScr (K : PySem.W.Frag) (mg : Str → Option Value) (φ : List Int → O) : Sp := fun vs H Q E => ∃ a ns, vs = [.ref a] ∧ SqL K H a (ns.map V.int) ∧ ns.length ≤ 63 ∧ match φ ns with
  | .ok d => ∀ v F' H', Same H H' → Same F' H' → Rp K F' v d → Q v H'
  | _ => False
theorem rpl_ints {F : Hp} : ∀ ns : List Int, RpL K F (ns.map V.int) (ns.map PyData.int)
  | [] => .nil
  | n :: ns => .cons (.int n) (rpl_ints ns)
theorem fn_scr {x qual : Str} {st : Stmt} {f : Addr} {fd : FuncData} {N : List Str} {y : Str} {k : Nat} {φ : List Int → O} (F : Fun K x qual st f fd) (S0 : FnScope N [y] (defScope st)) (m : MS)
    (hφ : ∀ ns : List Int, ns.length ≤ 63 → φ ns = .no ∨ fin (m ⟨(0, 0), .sq (ns.map .int) :: List.replicate (N.length - 1) .no⟩) = φ ns)
    (hm : ∀ (cdv : Value) (A : Around) (outer : List Env) (s : Shared) (H : Hp) (E : XK), Room k (A.deeper (PyProof.Rows.envOfC qual (defScope st) s.heap.objs.size f cdv)) →
      PSsD (cxOf (L2.CX P w) P w K mg base N qual (defScope st) f cdv A outer s H E) E (defBody st) m) : FnOk P w K mg base (L2.CX P w) (k + 1) f fd [y] (spScr K mg φ) := by
  refine F.okX S0 (fun vs H Q E h => by obtain ⟨a, ns, rfl, _⟩ := h; rfl) fun cdv A outer s H vs Q E hr h => ?_
  obtain ⟨a, ns, rfl, hS, h63, q⟩ := h
  refine ⟨_, hm cdv A outer s H E hr, ?_⟩
  have hsat : Sat K ⟨none, H, H⟩ ⟨(0, 0), .sq (ns.map .int) :: List.replicate (N.length - 1) .no⟩ H (L2.start N [.ref a]) H := by
    refine ⟨Same.refl _, Go.refl _ _ _, fun p e => (by cases e), ?_, fun i t e => ?_, fun i j t u p e1 e2 o1 => ?_⟩
    · simp [L2.start, Nat.add_comm]
    · cases i with
      | zero => cases e; exact ⟨_, rfl, a, _, rfl, hS, rpl_ints ns⟩
      | succ i =>
        have e : (List.replicate (N.length - 1) Sl.no)[i]? = some t := by simpa using e
        rw [List.getElem?_replicate] at e
        split at e
        · rename_i hi
          cases e
          refine ⟨none, ?_, trivial⟩
          show (some (V.ref a) :: List.replicate (N.length - 1) none)[i + 1]? = _
          simp [hi]
        · cases e
    · cases i with
      | zero => cases e1; cases o1
      | succ i =>
        have e : (List.replicate (N.length - 1) Sl.no)[i]? = some t := by simpa using e1
        rw [List.getElem?_replicate] at e
        split at e
        · cases e; cases o1
        · cases e
  refine ⟨_, _, H, hsat, ?_⟩
  have hag := hφ ns h63
  cases em : m ⟨(0, 0), .sq (ns.map .int) :: List.replicate (N.length - 1) .no⟩ with
  | next s' =>
    rw [em] at hag
    rcases hag with hag | hag
    · rw [hag] at q; exact q.elim
    · rw [← hag] at q
      exact fun F' σ' H' hs' => q .non F' H' (fun a o e => hs'.go.h a o (by simp) e) hs'.sub .non
  | ret d c =>
    rw [em] at hag
    rcases hag with hag | hag
    · rw [hag] at q; exact q.elim
    · rw [← hag] at q
      exact fun v F' H' g sb cu r => q v F' H' (fun a o e => g.h a o (by simp) e) sb r
  | err x c => rw [em] at hag; rcases hag with hag | hag <;> (first | rw [hag] at q | rw [← hag] at q) <;> exact q.elim
  | brk s' => rw [em] at hag; rcases hag with hag | hag <;> (first | rw [hag] at q | rw [← hag] at q) <;> exact q.elim
  | cnt s' => rw [em] at hag; rcases hag with hag | hag <;> (first | rw [hag] at q | rw [← hag] at q) <;> exact q.elim
  | no => rw [em] at hag; rcases hag with hag | hag <;> (first | rw [hag] at q | rw [← hag] at q) <;> exact q.elim
end

/-! ### meanings, applied to a state -/
section
variable {α β : Type} (s : S)
@[simp] theorem st0_def (n : Nat) (ds : List D) : st0 n ds = ds.map .fz ++ List.replicate (n - ds.length) .no := (rfl)
@[simp] theorem wc_mk (c c' : Int × Int) (r : List Sl) : S.wc ⟨c, r⟩ c' = ⟨c', r⟩ := (rfl)
@[simp] theorem up_mk (c : Int × Int) (r : List Sl) (i : Nat) (t : Sl) : S.up ⟨c, r⟩ i t = ⟨c, r.set i t⟩ := (rfl)
@[simp] theorem frz_mk (c : Int × Int) (r : List Sl) (i : Nat) : S.frz ⟨c, r⟩ i = ⟨c, r.modify i frzSl⟩ := (rfl)
@[simp] theorem bnd_ap (m : M α) (k : α → M β) : bnd m k s = (match m s with
  | .ok a c => k a (s.wc c)
  | .err x c => .err x c
  | .no => .no) := (rfl)
@[simp] theorem rt_ap (a : α) : rt a s = .ok a s.c := (rfl)
@[simp] theorem lift_ap (o : Option α) : lift o s = (match o with
  | some a => .ok a s.c
  | none => .no) := (rfl)
@[simp] theorem m1_ap (g : D → Option D) (a : M D) : m1 g a s = bnd a (fun x => lift (g x)) s := (rfl)
@[simp] theorem m2_ap (g : D → D → Option D) (a b : M D) : m2 g a b s = bnd a (fun x => bnd b fun y => lift (g x y)) s := (rfl)
@[simp] theorem mChain_ap (g g' : D → D → Option D) (a b c : M D) : mChain g g' a b c s = bnd a (fun x => bnd b fun y => bnd (lift (g x y)) fun z => match z with
  | .bool true => bnd c fun w => lift (g' y w)
  | .bool false => rt (.bool false)
  | _ => lift none) s := (rfl)
@[simp] theorem mB_ap (a : M D) : mB a s = bnd a (fun d => lift (boolD d)) s := (rfl)
@[simp] theorem mBd_ap (a : M D) : mBd a s = bnd a (fun d => match d with
  | .bool b => rt (.bool b)
  | _ => lift none) s := (rfl)
@[simp] theorem mAnd_ap (a b : M Bool) : mAnd a b s = bnd a (fun x => match x with
  | true => b
  | false => rt false) s := (rfl)
@[simp] theorem mOr_ap (a b : M Bool) : mOr a b s = bnd a (fun x => match x with
  | true => rt true
  | false => b) s := (rfl)
@[simp] theorem mNot_ap (a : M Bool) : mNot a s = bnd a (fun x => rt (!x)) s := (rfl)
@[simp] theorem mAndV_ap (a b : M D) : mAndV a b s = bnd a (fun x => match x with
  | .bool true => b
  | .bool false => rt (.bool false)
  | _ => lift none) s := (rfl)
@[simp] theorem mOrV_ap (a b : M D) : mOrV a b s = bnd a (fun x => match x with
  | .bool true => rt (.bool true)
  | .bool false => b
  | _ => lift none) s := (rfl)
@[simp] theorem mNotV_ap (a : M D) : mNotV a s = bnd a (fun x => match x with
  | .bool b => rt (.bool (!b))
  | _ => lift none) s := (rfl)
@[simp] theorem mIf_ap (t : M Bool) (a b : M D) : mIf t a b s = bnd t (fun x => match x with
  | true => a
  | false => b) s := (rfl)
@[simp] theorem slB_ap (i : Nat) : slB i s = (match s.r[i]? with
  | some (.fz d) => .ok d s.c
  | some (.ow xs) => .ok (.list xs) s.c
  | some (.od xs) => .ok (.dict xs) s.c
  | _ => .no) := (rfl)
@[simp] theorem slE_ap (i : Nat) : slE i s = (match s.r[i]? with
  | some (.fz d) => .ok d s.c
  | _ => .no) := (rfl)
@[simp] theorem aNil_ap : aNil s = .ok [] s.c := (rfl)
@[simp] theorem aCons_ap (a : M D) (b : M (List D)) : aCons a b s = bnd a (fun x => bnd b fun xs => rt (x :: xs)) s := (rfl)
@[simp] theorem mTup_ap (m : M (List D)) : mTup m s = bnd m (fun xs => lift (if lenOk xs = true then some (.tuple xs) else none)) s := (rfl)
@[simp] theorem mLst_ap (m : M (List D)) : mLst m s = bnd m (fun xs => lift (if lenOk xs = true then some (.list xs) else none)) s := (rfl)
@[simp] theorem mSeq_ap (a b : MS) : mSeq a b s = (match a s with
  | .next s' => b s'
  | r => r) := (rfl)
@[simp] theorem mNext_ap : mNext s = .next s := (rfl)
@[simp] theorem mBrk_ap : mBrk s = .brk s := (rfl)
@[simp] theorem mCnt_ap : mCnt s = .cnt s := (rfl)
@[simp] theorem mNo_ap : mNo s = .no := (rfl)
@[simp] theorem mSetF_ap (i : Nat) (m : M D) : mSetF i m s = mErr (m s) fun d c => .next ((s.wc c).up i (slF d)) := (rfl)
@[simp] theorem mSetE_ap (i : Nat) (m : M D) : mSetE i m s = mErr (m s) fun d c => .next ((s.wc c).up i (.fz d)) := (rfl)
@[simp] theorem mDrop_ap (m : M D) : mDrop m s = mErr (m s) fun _ c => .next (s.wc c) := (rfl)
@[simp] theorem mRet_ap (m : M D) : mRet m s = mErr (m s) fun d c => .ret d c := (rfl)
@[simp] theorem mRetN_ap : mRetN s = .ret .none s.c := (rfl)
@[simp] theorem mIfS_ap (t : M Bool) (a b : MS) : mIfS t a b s = mErr (t s) fun k c => match k with
  | true => a (s.wc c)
  | false => b (s.wc c) := (rfl)
@[simp] theorem mBind_ap (b : Bd) (m : M D) : mBind b m s = mErr (m s) fun d c => match b d (s.wc c) with
  | some s' => .next s'
  | none => .no := (rfl)
@[simp] theorem mApp_ap (i : Nat) (m : M D) : mApp i m s = (match s.r[i]? with
  | some (.ow xs) => mErr (m s) fun d c => if ltN xs.length = true then .next ((s.wc c).up i (.ow (xs ++ [d]))) else .no
  | _ => .no) := (rfl)
@[simp] theorem mPar_ap (i j : Nat) (a b : M D) : mPar i j a b s = mErr (a s) fun d c => mErr (b (s.wc c)) fun e c' => .next (((s.wc c').up i (slF d)).up j (slF e)) := (rfl)
@[simp] theorem mPar3_ap (i j l : Nat) (a b c : M D) : mPar3 i j l a b c s = mErr (a s) fun d c1 => mErr (b (s.wc c1)) fun e c' => mErr (c (s.wc c')) fun f c2 => .next ((((s.wc c2).up i (slF d)).up j (slF e)).up l (slF f)) := (rfl)
@[simp] theorem mAug_ap (i : Nat) (g : D → D → Option D) (m : M D) : mAug i g m s = (match s.r[i]? with
  | some (.fz a) => mErr (m s) fun b c => match g a b with
    | some d => .next ((s.wc c).up i (.fz d))
    | none => .no
  | _ => .no) := (rfl)
@[simp] theorem mExt_ap (i : Nat) (m : M D) : mExt i m s = (match s.r[i]? with
  | some (.ow xs) => mErr (m s) fun b c => match b with
    | .list ys => if leN (xs.length + ys.length) = true then .next ((s.wc c).up i (.ow (xs ++ ys))) else .no
    | _ => .no
  | _ => .no) := (rfl)
@[simp] theorem mFrz_ap (i : Nat) (m : MS) : mFrz i m s = m (s.frz i) := (rfl)
@[simp] theorem cupGet_ap (i : Nat) (k : Int) : cupGet i k s = (match s.r[i]? with
  | some .cup => if k = 0 then .ok (.int s.c.1) s.c else if k = 1 then .ok (.int s.c.2) s.c else .no
  | _ => .no) := (rfl)
@[simp] theorem mCupSet_ap (i : Nat) (k : Int) (m : M D) : mCupSet i k m s = (match s.r[i]? with
  | some .cup => mErr (m s) fun d c => match d with
    | .int v => if k = 0 then .next (s.wc (v, c.2)) else if k = 1 then .next (s.wc (c.1, v)) else .no
    | _ => .no
  | _ => .no) := (rfl)
@[simp] theorem mI_ap (g : D → Option (List D)) (m : M D) : mI g m s = bnd m (fun d => lift (g d)) s := (rfl)
@[simp] theorem mR2_ap (a b : M D) : mR2 a b s = bnd a (fun x => bnd b fun y => lift (rng2D x y)) s := (rfl)
@[simp] theorem mLc_ap (vs : List Nat) (it : M (List D)) (b : Bd) (t : M Bool) (e : M D) : mLc vs it b t e s = bnd it (fun ds => fun s => match lcL b t e (wipeS s vs) ds s.c with
  | .ok out c => if lenOk out = true then .ok (.list out) c else .no
  | _ => .no) s := (rfl)
@[simp] theorem mYes_ap : mYes s = .ok true s.c := (rfl)
@[simp] theorem mCall_ap (φ : List D → O) (m : M (List D)) : mCall φ m s = bnd m (fun ds => fun s => match φ ds with
  | .ok d => .ok d s.c
  | .err x => .err x s.c
  | .no => .no) s := (rfl)
@[simp] theorem mCallC_ap (i : Nat) (φ : Int × Int → List D → R D) (m : M (List D)) : mCallC i φ m s = (match s.r[i]? with
  | some .cup => bnd m (fun ds => fun s => φ s.c ds) s
  | _ => .no) := (rfl)
@[simp] theorem mFor_ap (b : Bd) (it : M (List D)) (body : MS) : mFor b it body s = mErr (it s) fun ds c => loopL b body ds (s.wc c) := (rfl)
end
/-! ### what meanings come to -/
theorem leN_tt {n : Nat} (h : n ≤ 16777216) : leN n = true := leN_iff.mpr (by rw [PySem.sizeLine_eq]; exact h)
theorem ltN_tt {n : Nat} (h : n < 16777216) : ltN n = true := ltN_iff.mpr (by rw [PySem.sizeLine_eq]; exact h)
theorem lenOk_tt {α : Type} {xs : List α} (h : xs.length ≤ 16777216) : lenOk xs = true := leN_tt h
theorem smallI_tt {i : Int} (h1 : -18446744073709551616 < i) (h2 : i < 18446744073709551616) : smallI i = true := smallI_i.mpr (by omega)
theorem okR_tt {i : Int} (h1 : -4611686018427387904 ≤ i) (h2 : i < 4611686018427387904) : okR i = true := okR_i.mpr (by omega)
/-! ### operations on data, by what they are -/
section
variable (i j : Int) (a b : Str) (p q : Bool) (xs ys : List D) (d e : D)
@[simp] theorem leN_0 : leN 0 = true := leN_tt (by decide)
@[simp] theorem lenOk_0 {α : Type} : lenOk ([] : List α) = true := leN_tt (Nat.zero_le _)
@[simp] theorem lenOk_1 {α : Type} (x1 : α) : lenOk [x1] = true := leN_tt (by simp)
@[simp] theorem lenOk_2 {α : Type} (x1 x2 : α) : lenOk [x1, x2] = true := leN_tt (by simp)
@[simp] theorem lenOk_3 {α : Type} (x1 x2 x3 : α) : lenOk [x1, x2, x3] = true := leN_tt (by simp)
@[simp] theorem lenOk_4 {α : Type} (x1 x2 x3 x4 : α) : lenOk [x1, x2, x3, x4] = true := leN_tt (by simp)
@[simp] theorem lenOk_5 {α : Type} (x1 x2 x3 x4 x5 : α) : lenOk [x1, x2, x3, x4, x5] = true := leN_tt (by simp)
@[simp] theorem lenOk_6 {α : Type} (x1 x2 x3 x4 x5 x6 : α) : lenOk [x1, x2, x3, x4, x5, x6] = true := leN_tt (by simp)
@[simp] theorem boolD_b : boolD (.bool p) = some p := (rfl)
@[simp] theorem addD_i : addD (.int i) (.int j) = some (.int (i + j)) := (rfl)
theorem addD_s (h : leN (a.length + b.length) = true) : addD (.str a) (.str b) = some (.str (a ++ b)) := if_pos h
theorem addD_l (h : leN (xs.length + ys.length) = true) : addD (.list xs) (.list ys) = some (.list (xs ++ ys)) := if_pos h
theorem addD_t (h : leN (xs.length + ys.length) = true) : addD (.tuple xs) (.tuple ys) = some (.tuple (xs ++ ys)) := if_pos h
@[simp] theorem addI_i : addI (.int i) (.int j) = some (.int (i + j)) := (rfl)
@[simp] theorem subD_i : subD (.int i) (.int j) = some (.int (i - j)) := (rfl)
theorem mulD_i (h : (smallI i || smallI j) = true) : mulD (.int i) (.int j) = some (.int (i * j)) := if_pos h
theorem fdivD_i (h1 : 0 < j) (h2 : j < 1073741824) : fdivD (.int i) (.int j) = some (.int (i / j)) := by
  have : fdivD (.int i) (.int j) = some (.int (i.fdiv j)) := if_pos (by omega)
  rw [this, Int.fdiv_eq_ediv_of_nonneg i (Int.le_of_lt h1)]
theorem modD_i (h1 : 0 < j) : modD (.int i) (.int j) = some (.int (i % j)) := by
  have : modD (.int i) (.int j) = some (.int (i.fmod j)) := if_pos (by omega)
  rw [this, Int.fmod_eq_emod_of_nonneg i (Int.le_of_lt h1)]
@[simp] theorem negD_i : negD (.int i) = some (.int (-i)) := (rfl)
@[simp] theorem ltD_i : ltD (.int i) (.int j) = some (.bool (decide (i < j))) := (rfl)
@[simp] theorem leD_i : leD (.int i) (.int j) = some (.bool (decide (i ≤ j))) := (rfl)
@[simp] theorem gtD_i : gtD (.int i) (.int j) = some (.bool (decide (j < i))) := (rfl)
@[simp] theorem geD_i : geD (.int i) (.int j) = some (.bool (decide (j ≤ i))) := (rfl)
@[simp] theorem ltD_s : ltD (.str a) (.str b) = some (.bool (decide (cps a < cps b))) := (rfl)
@[simp] theorem leD_s : leD (.str a) (.str b) = some (.bool (!decide (cps b < cps a))) := (rfl)
@[simp] theorem gtD_s : gtD (.str a) (.str b) = some (.bool (decide (cps b < cps a))) := (rfl)
@[simp] theorem geD_s : geD (.str a) (.str b) = some (.bool (!decide (cps a < cps b))) := (rfl)
@[simp] theorem isD_n : isD .none .none = some (.bool true) := (rfl)
@[simp] theorem isD_i : isD (.int i) .none = some (.bool false) := (rfl)
@[simp] theorem isD_b : isD (.bool p) .none = some (.bool false) := (rfl)
@[simp] theorem isD_s : isD (.str a) .none = some (.bool false) := (rfl)
@[simp] theorem isD_l : isD (.list xs) .none = some (.bool false) := (rfl)
@[simp] theorem isD_t : isD (.tuple xs) .none = some (.bool false) := (rfl)
@[simp] theorem isD_bb : isD (.bool p) (.bool q) = some (.bool (decide (p = q))) := (rfl)
@[simp] theorem isnD_n : isnD .none .none = some (.bool false) := (rfl)
@[simp] theorem isnD_i : isnD (.int i) .none = some (.bool true) := (rfl)
@[simp] theorem isnD_b : isnD (.bool p) .none = some (.bool true) := (rfl)
@[simp] theorem isnD_s : isnD (.str a) .none = some (.bool true) := (rfl)
@[simp] theorem isnD_l : isnD (.list xs) .none = some (.bool true) := (rfl)
@[simp] theorem isnD_t : isnD (.tuple xs) .none = some (.bool true) := (rfl)
theorem eqD_of (h1 : SeqAt.shaped d = true) (h2 : SeqAt.shaped e = true) : eqD d e = some (.bool (PyData.eqv d e)) := if_pos (by simp [h1, h2])
theorem neD_of (h1 : SeqAt.shaped d = true) (h2 : SeqAt.shaped e = true) : neD d e = some (.bool (!PyData.eqv d e)) := if_pos (by simp [h1, h2])
theorem eqD_sc (h : scalD d e = true) : eqD d e = some (.bool (PyData.eqv d e)) := if_pos (by simp [h])
theorem neD_sc (h : scalD d e = true) : neD d e = some (.bool (!PyData.eqv d e)) := if_pos (by simp [h])
@[simp] theorem eqD_i : eqD (.int i) (.int j) = some (.bool (decide (i = j))) := by rw [eqD_sc _ _ rfl]; simp [PyData.eqv, Bool.beq_eq_decide_eq]
@[simp] theorem eqD_s : eqD (.str a) (.str b) = some (.bool (decide (a = b))) := by rw [eqD_sc _ _ rfl]; simp [PyData.eqv, Bool.beq_eq_decide_eq]
@[simp] theorem eqD_b : eqD (.bool p) (.bool q) = some (.bool (decide (p = q))) := by rw [eqD_sc _ _ rfl]; simp [PyData.eqv, Bool.beq_eq_decide_eq]
@[simp] theorem neD_i : neD (.int i) (.int j) = some (.bool (decide (i ≠ j))) := by rw [neD_sc _ _ rfl]; simp [PyData.eqv, Bool.beq_eq_decide_eq]
@[simp] theorem neD_s : neD (.str a) (.str b) = some (.bool (decide (a ≠ b))) := by rw [neD_sc _ _ rfl]; simp [PyData.eqv, Bool.beq_eq_decide_eq]
@[simp] theorem neD_b : neD (.bool p) (.bool q) = some (.bool (decide (p ≠ q))) := by rw [neD_sc _ _ rfl]; simp [PyData.eqv, Bool.beq_eq_decide_eq]
@[simp] theorem eqD_nn : eqD .none .none = some (.bool true) := by rw [eqD_sc _ _ rfl]; simp [PyData.eqv]
@[simp] theorem eqD_in : eqD (.int i) .none = some (.bool false) := by rw [eqD_sc _ _ rfl]; simp [PyData.eqv]
@[simp] theorem eqD_ni : eqD .none (.int i) = some (.bool false) := by rw [eqD_sc _ _ rfl]; simp [PyData.eqv]
@[simp] theorem ixD_l : ixD (.list xs) (.int i) = atI xs i := (rfl)
@[simp] theorem ixD_t : ixD (.tuple xs) (.int i) = atI xs i := (rfl)
theorem ixD_s (h : leN a.length = true) : ixD (.str a) (.int i) = (atI (cps a) i).map fun c => .str ⟨#[c]⟩ := if_pos h
theorem lenD_s (h : leN a.length = true) : lenD (.str a) = some (.int a.length) := if_pos h
@[simp] theorem lenD_l : lenD (.list xs) = some (.int xs.length) := (rfl)
@[simp] theorem lenD_t : lenD (.tuple xs) = some (.int xs.length) := (rfl)
@[simp] theorem absD_i : absD (.int i) = some (.int (if i < 0 then -i else i)) := (rfl)
@[simp] theorem min2D_i : min2D (.int i) (.int j) = some (.int (if j < i then j else i)) := (rfl)
@[simp] theorem max2D_i : max2D (.int i) (.int j) = some (.int (if j > i then j else i)) := (rfl)
@[simp] theorem intD_i : intD (.int i) = some (.int i) := (rfl)
@[simp] theorem strD_s : strD (.str a) = some (.str a) := (rfl)
@[simp] theorem allD_l : allD (.list xs) = (boolsD xs).map fun bs => .bool (bs.all id) := (rfl)
@[simp] theorem anyD_l : anyD (.list xs) = (boolsD xs).map fun bs => .bool (bs.any id) := (rfl)
@[simp] theorem sumD_l : sumD (.list xs) = (intsD xs).map fun ns => .int ns.sum := (rfl)
@[simp] theorem isIntD_n : isIntD .none = some (.bool false) := (rfl)
@[simp] theorem isIntD_i : isIntD (.int i) = some (.bool true) := (rfl)
@[simp] theorem isIntD_b : isIntD (.bool p) = some (.bool true) := (rfl)
@[simp] theorem isIntD_s : isIntD (.str a) = some (.bool false) := (rfl)
@[simp] theorem isIntD_l : isIntD (.list xs) = some (.bool false) := (rfl)
@[simp] theorem isIntD_t : isIntD (.tuple xs) = some (.bool false) := (rfl)
@[simp] theorem isBoolD_n : isBoolD .none = some (.bool false) := (rfl)
@[simp] theorem isBoolD_i : isBoolD (.int i) = some (.bool false) := (rfl)
@[simp] theorem isBoolD_b : isBoolD (.bool p) = some (.bool true) := (rfl)
@[simp] theorem isBoolD_s : isBoolD (.str a) = some (.bool false) := (rfl)
@[simp] theorem isBoolD_l : isBoolD (.list xs) = some (.bool false) := (rfl)
@[simp] theorem isBoolD_t : isBoolD (.tuple xs) = some (.bool false) := (rfl)
@[simp] theorem isStrD_n : isStrD .none = some (.bool false) := (rfl)
@[simp] theorem isStrD_i : isStrD (.int i) = some (.bool false) := (rfl)
@[simp] theorem isStrD_b : isStrD (.bool p) = some (.bool false) := (rfl)
@[simp] theorem isStrD_s : isStrD (.str a) = some (.bool true) := (rfl)
@[simp] theorem isStrD_l : isStrD (.list xs) = some (.bool false) := (rfl)
@[simp] theorem isStrD_t : isStrD (.tuple xs) = some (.bool false) := (rfl)
@[simp] theorem isTupD_n : isTupD .none = some (.bool false) := (rfl)
@[simp] theorem isTupD_i : isTupD (.int i) = some (.bool false) := (rfl)
@[simp] theorem isTupD_b : isTupD (.bool p) = some (.bool false) := (rfl)
@[simp] theorem isTupD_s : isTupD (.str a) = some (.bool false) := (rfl)
@[simp] theorem isTupD_l : isTupD (.list xs) = some (.bool false) := (rfl)
@[simp] theorem isTupD_t : isTupD (.tuple xs) = some (.bool true) := (rfl)
@[simp] theorem isLstD_n : isLstD .none = some (.bool false) := (rfl)
@[simp] theorem isLstD_i : isLstD (.int i) = some (.bool false) := (rfl)
@[simp] theorem isLstD_b : isLstD (.bool p) = some (.bool false) := (rfl)
@[simp] theorem isLstD_s : isLstD (.str a) = some (.bool false) := (rfl)
@[simp] theorem isLstD_l : isLstD (.list xs) = some (.bool true) := (rfl)
@[simp] theorem isLstD_t : isLstD (.tuple xs) = some (.bool false) := (rfl)
@[simp] theorem listD_l : listD (.list xs) = some (.list xs) := (rfl)
@[simp] theorem listD_t : listD (.tuple xs) = some (.list xs) := (rfl)
@[simp] theorem tupD_l : tupD (.list xs) = some (.tuple xs) := (rfl)
@[simp] theorem tupD_t : tupD (.tuple xs) = some (.tuple xs) := (rfl)
theorem powD_i (h : 0 ≤ j ∧ j ≤ 1000000 ∧ i.natAbs < 2 ^ 64) : powD (.int i) (.int j) = some (.int (i ^ j.toNat)) := if_pos h
@[simp] theorem slF_n : slF .none = .fz .none := (rfl)
@[simp] theorem slF_i : slF (.int i) = .fz (.int i) := (rfl)
@[simp] theorem slF_b : slF (.bool p) = .fz (.bool p) := (rfl)
@[simp] theorem slF_s : slF (.str a) = .fz (.str a) := (rfl)
@[simp] theorem slF_l : slF (.list xs) = .ow xs := (rfl)
@[simp] theorem slF_t : slF (.tuple xs) = .fz (.tuple xs) := (rfl)
@[simp] theorem slF_d (kvs : List (D × D)) : slF (.dict kvs) = .od kvs := (rfl)
@[simp] theorem iterD_l : iterD (.list xs) = some xs := (rfl)
@[simp] theorem iterD_t : iterD (.tuple xs) = some xs := (rfl)
@[simp] theorem iterD_s : iterD (.str a) = some ((cps a).map fun c => .str ⟨#[c]⟩) := (rfl)
theorem rng1D_i (h : okR i = true) : rng1D (.int i) = some (ints2 0 i.toNat) := if_pos h
theorem rng2D_i (h : (okR i && okR j) = true) : rng2D (.int i) (.int j) = some (ints2 i (j - i).toNat) := if_pos h
end
section
variable {α : Type} (a : α) (c : Int × Int) (x : Ex) (k : α → Int × Int → RS) (s : S) (d : D)
@[simp] theorem mErr_ok : mErr (.ok a c) k = k a c := (rfl)
@[simp] theorem mErr_err : mErr (.err x c) k = .err x c := (rfl)
@[simp] theorem mErr_no : mErr .no k = .no := (rfl)
@[simp] theorem fin_next : fin (.next s) = .ok .none := (rfl)
@[simp] theorem fin_ret : fin (.ret d c) = .ok d := (rfl)
@[simp] theorem fin_err : fin (.err x c) = .err x := (rfl)
@[simp] theorem fin_no : fin .no = .no := (rfl)
@[simp] theorem finC_next : finC (.next s) = .ok .none s.c := (rfl)
@[simp] theorem finC_ret : finC (.ret d c) = .ok d c := (rfl)
@[simp] theorem finC_err : finC (.err x c) = .err x c := (rfl)
@[simp] theorem finC_no : finC .no = .no := (rfl)
@[simp] theorem bName_ap (i : Nat) : bName i d s = some (s.up i (.fz d)) := (rfl)
@[simp] theorem bTup_ap (bs : List Bd) (ds : List D) : bTup bs (.tuple ds) s = bTup.go bs ds s := (rfl)
@[simp] theorem wipeS_nil : wipeS s [] = s := (rfl)
@[simp] theorem wipeS_cons (v : Nat) (vs : List Nat) : wipeS s (v :: vs) = (wipeS s vs).up v .no := (rfl)
end
theorem mSeq_of {a b : MS} {s s1 : S} (h : a s = .next s1) : mSeq a b s = b s1 := by simp [h]
/-- a loop that goes on at every turn -/
theorem loop_inv {b : Bd} {body : MS} (Pv : S → Prop) : ∀ (xs : List D) (s : S), Pv s → (∀ x ∈ xs, ∀ s, Pv s → ∃ s1 s2, b x s = some s1 ∧ (body s1 = .next s2 ∨ body s1 = .cnt s2) ∧ Pv s2) → ∃ s', loopL b body xs s = .next s' ∧ Pv s'
  | [], s, h, _ => ⟨s, rfl, h⟩
  | x :: xs, s, h, hb => by
    obtain ⟨s1, s2, e1, e2, h2⟩ := hb x List.mem_cons_self s h
    obtain ⟨s', e3, h3⟩ := loop_inv Pv xs s2 h2 fun y hy => hb y (List.mem_cons_of_mem _ hy)
    refine ⟨s', ?_, h3⟩
    unfold loopL
    rw [e1]
    rcases e2 with e2 | e2 <;> simp only [e2] <;> exact e3
theorem mWhile_succ (n : Nat) (t : M Bool) (body : MS) (s : S) : mWhile (n + 1) t body s = mErr (t s) fun k c => match k with
    | false => .next (s.wc c)
    | true => match body (s.wc c) with
      | .next s2 => mWhile n t body s2
      | .cnt s2 => mWhile n t body s2
      | .brk s2 => .next s2
      | .ret d c => .ret d c
      | .err x c => .err x c
      | .no => .no := rfl
/-- a while by a chain of states st 0, st 1, .. st k -/
theorem while_chain {t : M Bool} {body : MS} (st : Nat → S) (k : Nat) (hgo : ∀ i, i < k → t (st i) = .ok true (st i).c ∧ body (st i) = .next (st (i + 1))) (hend : t (st k) = .ok false (st k).c) : ∀ n, k < n → mWhile n t body (st 0) = .next (st k) := by
  have : ∀ j, j ≤ k → ∀ n, j < n → mWhile n t body (st (k - j)) = .next (st k) := by
    intro j
    induction j with
    | zero =>
      intro _ n hn
      obtain ⟨n, rfl⟩ : ∃ m, n = m + 1 := ⟨n - 1, by omega⟩
      rw [mWhile_succ]
      simp only [Nat.sub_zero, hend, mErr]
    | succ j ih =>
      intro hj n hn
      obtain ⟨n, rfl⟩ : ∃ m, n = m + 1 := ⟨n - 1, by omega⟩
      obtain ⟨h1, h2⟩ := hgo (k - (j + 1)) (by omega)
      rw [mWhile_succ]
      simp only [h1, mErr]
      have e : ((st (k - (j + 1))).wc (st (k - (j + 1))).c) = st (k - (j + 1)) := rfl
      rw [e, h2]
      have e2 : k - (j + 1) + 1 = k - j := by omega
      rw [e2]
      exact ih (by omega) n (by omega)
  intro n hn
  have := this k (Nat.le_refl _) n hn
  simpa using this
end Pu
end

noncomputable section
set_option Elab.async false
set_option linter.all false
set_option maxRecDepth 100000
set_option maxHeartbeats 4000000
/-! Pu, sixth part: defs as they stand, what the laws' own helpers do. -/
namespace Pu
open PySem PySem.Spec L2
theorem bt_isinstance : bootBuiltins "isinstance" = some (.builtin "isinstance") := by decide +kernel
theorem bt_abs : bootBuiltins "abs" = some (.builtin "abs") := by decide +kernel
theorem bt_all : bootBuiltins "all" = some (.builtin "all") := by decide +kernel
theorem bt_any : bootBuiltins "any" = some (.builtin "any") := by decide +kernel
theorem bt_len : bootBuiltins "len" = some (.builtin "len") := by decide +kernel
theorem bt_max : bootBuiltins "max" = some (.builtin "max") := by decide +kernel
theorem bt_min : bootBuiltins "min" = some (.builtin "min") := by decide +kernel
theorem bt_sum : bootBuiltins "sum" = some (.builtin "sum") := by decide +kernel
theorem bt_sorted : bootBuiltins "sorted" = some (.builtin "sorted") := by decide +kernel
theorem bt_int : bootBuiltins "int" = some (.type "int") := by decide +kernel
theorem bt_bool : bootBuiltins "bool" = some (.type "bool") := by decide +kernel
theorem bt_str : bootBuiltins "str" = some (.type "str") := by decide +kernel
theorem bt_tuple : bootBuiltins "tuple" = some (.type "tuple") := by decide +kernel
theorem bt_list : bootBuiltins "list" = some (.type "list") := by decide +kernel
section
variable (P : Program) (w : World) (K : PySem.W.Frag) (mg : Str → Option Value) (base : Heap)
/-- the def st of the text stands under the name x -/
def At (x : Str) (st : Stmt) : Prop := ∃ f fd, Fun K x x st f fd ∧ mg x = some (.ref f)
/-- what stands under the name x may be called: with n arguments it means φ; at level k -/
structure Cal (k : Nat) (x : Str) (n : Nat) (φ : List D → O) : Prop where
  ex : ∃ f fd ps, FnOk P w K mg base (L2.CX P w) k f fd ps (spD K mg n φ) ∧ mg x = some (.ref f) ∧ PySem.W.keepIn K (.ref f) = true ∧ Binds K fd ps []
structure CalC (k : Nat) (x : Str) (n : Nat) (φ : Int × Int → List D → R D) : Prop where
  ex : ∃ f fd ps, FnOk P w K mg base (L2.CX P w) k f fd ps (spC K mg (n + 1) φ) ∧ mg x = some (.ref f) ∧ PySem.W.keepIn K (.ref f) = true ∧ Binds K fd ps []
end
section
variable {X : Cx} {E : XK} {a b c e it elt tg tg2 i1 : Expr} {rest es : List Expr} {ma mb mc m : M D} {ta : M Bool} {mas mit : M (List D)} {pos p px py pt apos : Pos} {x y z : Str} {k n : Nat}
theorem pd_cal {j : Nat} {φ : List D → O} (F : Cal X.prog X.w X.K X.mg X.base j x n φ) (hr : Room k X.A) (hj : j ≤ k) (hx : Passes (L2.CX X.prog X.w) X E) (ha : PAN X E (e :: es) n mas)
    (hg : Gl X x := by rfl) (hdb : (x == ("__debug__" : Str)) = false := by decide) (he : starEach (e :: es) X.env = (false, eval e X.env) :: starEach es X.env := by rfl) (hpl : (backTo pos (starEach es X.env)).any (·.1) = false := by rfl) : PD X E (.Call (.Name x p) (e :: es) [] pos) (mCall φ mas) := by
  obtain ⟨f, fd, ps, h1, h2, h3, h4⟩ := F.ex
  exact pd_call h1 (hr.mono hj) hx h2 h3 h4 ha hg hdb he hpl
theorem pd_calC (i : Nat) {j : Nat} {φ : Int × Int → List D → R D} (F : CalC X.prog X.w X.K X.mg X.base j x n φ) (hr : Room k X.A) (hj : j ≤ k) (hx : Passes (L2.CX X.prog X.w) X E) (ha : PAN X E es n mas)
    (hN : X.N[i]? = some y := by rfl) (hv : Vis X.env.scope y := by first | exact Or.inl rfl | exact Or.inr (Or.inl rfl) | exact Or.inr (Or.inr rfl)) (hd : (y == ("__debug__" : Str)) = false := by decide) (hcd : (y == ("__classdict__" : Str)) = false := by decide)
    (hg : Gl X x := by rfl) (hdb : (x == ("__debug__" : Str)) = false := by decide) (he : starEach (.Name y py :: es) X.env = (false, eval (.Name y py) X.env) :: starEach es X.env := by rfl) (hpl : (backTo pos (starEach es X.env)).any (·.1) = false := by rfl) : PD X E (.Call (.Name x p) (.Name y py :: es) [] pos) (mCallC i φ mas) := by
  obtain ⟨f, fd, ps, h1, h2, h3, h4⟩ := F.ex
  exact pd_callC i h1 (hr.mono hj) hx h2 h3 h4 ha hN hv hd hcd hg hdb he hpl
end
section
variable {P : Program} {w : World} {K : PySem.W.Frag} {mg : Str → Option Value} {base : Heap}
theorem Fun.binds' {x qual : Str} {st : Stmt} {f : Addr} {fd : FuncData} {ps : List Str} (F : Fun K x qual st f fd)
    (h : ∀ (kV doc pm : Value) (an : Option Addr) (cdv ct : Value) (us : List Value), us.length = ps.length → bindArgs (PySem.W.fnOf x qual (defArgs st) (defBody st) (defScope st) .none kV doc pm an cdv ct) ⟨us, []⟩ = pure (ps.zip us)) : Binds K fd ps [] := F.binds h
/-- a def is walked -/
theorem cal_of {x : Str} {st : Stmt} {N ps : List Str} {k : Nat} {φ : List D → O} (A0 : At K mg x st) (S0 : FnScope N ps (defScope st)) (m : MS) (hl : ps.length ≤ N.length)
    (hbi : ∀ (kV doc pm : Value) (an : Option Addr) (cdv ct : Value) (us : List Value), us.length = ps.length → bindArgs (PySem.W.fnOf x x (defArgs st) (defBody st) (defScope st) .none kV doc pm an cdv ct) ⟨us, []⟩ = pure (ps.zip us))
    (hφ : ∀ ds, ds.length = ps.length → φ ds = .no ∨ fin (m ⟨(0, 0), st0 N.length ds⟩) = φ ds)
    (hm : ∀ (f : Addr) (cdv : Value) (A : Around) (outer : List Env) (s : Shared) (H : Hp) (E : XK), Room k (A.deeper (PyProof.Rows.envOfC x (defScope st) s.heap.objs.size f cdv)) →
      PSsD (cxOf (L2.CX P w) P w K mg base N x (defScope st) f cdv A outer s H E) E (defBody st) m) : Cal P w K mg base (k + 1) x ps.length φ := by
  obtain ⟨f, fd, F, g⟩ := A0
  exact ⟨f, fd, ps, fn_pure F S0 m hl hφ (hm f), g, F.kp, F.binds hbi⟩
theorem cal_none {x : Str} {st : Stmt} {N ps : List Str} {k : Nat} (A0 : At K mg x st) (S0 : FnScope N ps (defScope st))
    (hbi : ∀ (kV doc pm : Value) (an : Option Addr) (cdv ct : Value) (us : List Value), us.length = ps.length → bindArgs (PySem.W.fnOf x x (defArgs st) (defBody st) (defScope st) .none kV doc pm an cdv ct) ⟨us, []⟩ = pure (ps.zip us)) : Cal P w K mg base k x ps.length (fun _ => .no) := by
  obtain ⟨f, fd, F, g⟩ := A0
  exact ⟨f, fd, ps, ⟨fun vs H Q E h => h.1, fun A outer s H args us vs Q E _ _ _ _ h => by obtain ⟨_, _, _, _, _, q⟩ := h; exact q.elim⟩, g, F.kp, F.binds hbi⟩
theorem calC_of {x : Str} {st : Stmt} {N ps : List Str} {k n : Nat} {φ : Int × Int → List D → R D} (A0 : At K mg x st) (S0 : FnScope N ps (defScope st)) (m : MS) (hps : ps.length = n + 1) (hl : ps.length ≤ N.length)
    (hbi : ∀ (kV doc pm : Value) (an : Option Addr) (cdv ct : Value) (us : List Value), us.length = ps.length → bindArgs (PySem.W.fnOf x x (defArgs st) (defBody st) (defScope st) .none kV doc pm an cdv ct) ⟨us, []⟩ = pure (ps.zip us))
    (hφ : ∀ c ds, ds.length = n → φ c ds = .no ∨ finC (m ⟨c, .cup :: st0 (N.length - 1) ds⟩) = φ c ds)
    (hm : ∀ (f : Addr) (cdv : Value) (A : Around) (outer : List Env) (s : Shared) (H : Hp) (E : XK), Room k (A.deeper (PyProof.Rows.envOfC x (defScope st) s.heap.objs.size f cdv)) →
      PSsD (cxOf (L2.CX P w) P w K mg base N x (defScope st) f cdv A outer s H E) E (defBody st) m) : CalC P w K mg base (k + 1) x n φ := by
  obtain ⟨f, fd, F, g⟩ := A0
  exact ⟨f, fd, ps, fn_cup F S0 m hps hl hφ (hm f), g, F.kp, F.binds hbi⟩
/-- an exception of a callee leaves a def's body as its own -/
theorem pass_def {N : List Str} {qual : Str} {scope : Scope} {f : Addr} {cd : Value} {A : Around} {outer : List Env} {s : Shared} {H : Hp} {E : XK} :
    Passes (L2.CX (cxOf (L2.CX P w) P w K mg base N qual scope f cd A outer s H E).prog (cxOf (L2.CX P w) P w K mg base N qual scope f cd A outer s H E).w) (cxOf (L2.CX P w) P w K mg base N qual scope f cd A outer s H E) E :=
  passes_call (W := fun c d _ H => E c d H) (takes_of rfl rfl rfl rfl) fun _ _ _ _ h => h
theorem own_def {N : List Str} {qual : Str} {scope : Scope} {f : Addr} {cd : Value} {A : Around} {outer : List Env} {s : Shared} {H : Hp} {E : XK} :
    PassesOwn (model (cxOf (L2.CX P w) P w K mg base N qual scope f cd A outer s H E).prog (cxOf (L2.CX P w) P w K mg base N qual scope f cd A outer s H E).w) (cxOf (L2.CX P w) P w K mg base N qual scope f cd A outer s H E).A (cxOf (L2.CX P w) P w K mg base N qual scope f cd A outer s H E).env (cxOf (L2.CX P w) P w K mg base N qual scope f cd A outer s H E).xe :=
  passes_of rfl
def sqL (i : Nat) : M D := fun s => match s.r[i]? with
    | some (.sq xs) => .ok (.list xs) s.c
    | _ => .no
@[simp] theorem sqL_ap (i : Nat) (s : S) : sqL i s = (match s.r[i]? with
  | some (.sq xs) => .ok (.list xs) s.c
  | _ => .no) := rfl
theorem rd_listS {E : XK} {i : Nat} {σ : L2.St} {H : Hp} {Q : VK} (h : rdF K mg E (sqL i) σ H Q) : tCB (fun xs H Q => ∃ p ys, xs = [.ref p] ∧ (SqL K H p ys ∨ SqT K H p ys) ∧ ∀ l, H l = none → Q (.ref l) (upd H l (.lst ys))) (tCons (tVar i) tNil) σ H Q := by
  obtain ⟨fr, s, F, hs, q⟩ := h
  unfold sqL at q
  split at q
  · rename_i xs e
    obtain ⟨o, k, a, vs, rfl, h1, h2⟩ := hs.sl i _ e
    refine ⟨_, k, a, vs, rfl, .inl (hs.sub.seq h1), fun l hl => ?_⟩
    obtain ⟨g, s2, r3⟩ := new_lst (K := K) hs.sub hl h2
    exact q _ _ g.weak s2 (hs.cup.go g) _ r3
  · exact q.elim
theorem pf_listS {X : Cx} {E : XK} {x y : Str} {p py pos : Pos} (i : Nat) (hm : X.mg x = none) (hv : bootBuiltins x = some (.type "list")) (hN : X.N[i]? = some y := by rfl) (hvs : Vis X.env.scope y := by first | exact Or.inl rfl | exact Or.inr (Or.inl rfl) | exact Or.inr (Or.inr rfl)) (hd : (y == ("__debug__" : Str)) = false := by decide) (hcd : (y == ("__classdict__" : Str)) = false := by decide)
    (hg : Gl X x := by rfl) (hn : x ≠ "__name__" := by decide) (hdb : (x == ("__debug__" : Str)) = false := by decide)
    (he : starEach [.Name y py] X.env = [(false, eval (.Name y py) X.env)] := by rfl) : PF X E (.Call (.Name x p) [.Name y py] [] pos) (sqL i) :=
  PE.imp (pe_callTy call_list_of hg hm hv (L2.pa_cons (pe_var hN hvs hd hcd) L2.pa_nil he) hn hdb he rfl) fun σ H Q q => rd_listS q
/-! ### the law itself -/
def spLaw (K : PySem.W.Frag) : Sp := fun vs H Q _ => ∃ (a : Addr) (ns : List Int), vs = [.ref a] ∧ SqL K H a (ns.map V.int) ∧ ns.length ≤ 63 ∧ ∀ H', Q (.bl true) H'
structure CalS (P : Program) (w : World) (K : PySem.W.Frag) (mg : Str → Option Value) (base : Heap) (k : Nat) (x : Str) (φ : List Int → O) : Prop where
  ex : ∃ f fd ps, FnOk P w K mg base (L2.CX P w) k f fd ps (spScr K mg φ) ∧ mg x = some (.ref f) ∧ PySem.W.keepIn K (.ref f) = true ∧ Binds K fd ps []
theorem calS_of {x y : Str} {st : Stmt} {N : List Str} {k : Nat} {φ : List Int → O} (A0 : At K mg x st) (S0 : FnScope N [y] (defScope st)) (m : MS)
    (hbi : ∀ (kV doc pm : Value) (an : Option Addr) (cdv ct : Value) (us : List Value), us.length = ([y] : List Str).length → bindArgs (PySem.W.fnOf x x (defArgs st) (defBody st) (defScope st) .none kV doc pm an cdv ct) ⟨us, []⟩ = pure (([y] : List Str).zip us))
    (hφ : ∀ ns : List Int, ns.length ≤ 63 → φ ns = .no ∨ fin (m ⟨(0, 0), .sq (ns.map .int) :: List.replicate (N.length - 1) .no⟩) = φ ns)
    (hm : ∀ (f : Addr) (cdv : Value) (A : Around) (outer : List Env) (s : Shared) (H : Hp) (E : XK), Room k (A.deeper (PyProof.Rows.envOfC x (defScope st) s.heap.objs.size f cdv)) →
      PSsD (cxOf (L2.CX P w) P w K mg base N x (defScope st) f cdv A outer s H E) E (defBody st) m) : CalS P w K mg base (k + 1) x φ := by
  obtain ⟨f, fd, F, g⟩ := A0
  exact ⟨f, fd, [y], fn_scr F S0 m hφ (hm f), g, F.kp, F.binds hbi⟩
theorem law_of {x qual xc : Str} {st : Stmt} {f : Addr} {fd : FuncData} {N : List Str} {N' : List Str} {k j : Nat} {φ : List Int → O} (F : Fun K x qual st f fd) (hN : N = ("script" : Str) :: ("cup" : Str) :: N') (S0 : FnScope N ["script"] (defScope st)) (m : MS) {p1 p2 p3 p4 p5 : Pos} {rest : List Stmt}
    (hbody : defBody st = .Assign [.Name "cup" p1] (.Call (.Name xc p2) [.Name "script" p3] [] p4) p5 :: rest) (C : CalS P w K mg base j xc φ) (hj : j ≤ k)
    (hgl : (defScope st).names.lookup xc = some .globalImplicit) (hs0 : Vis (defScope st) "script") (hs1 : (defScope st).names.lookup ("cup" : Str) = some .local) (hdb : (xc == ("__debug__" : Str)) = false) (hk : (defScope st).kind = .function)
    (hsw : ∀ (env : Env), env.scope = defScope st → swapsWith (.Call (.Name xc p2) [.Name "script" p3] [] p4) (some (.Name "cup" p1)) p5.line env = pure false)
    (hφ : ∀ ns : List Int, ns.length ≤ 63 → ∃ a b c, φ ns = .ok (.list [.int a, .int b]) ∧ m ⟨(a, b), .no :: .cup :: List.replicate N'.length .no⟩ = .ret (.bool true) c)
    (hm : ∀ (cdv : Value) (A : Around) (outer : List Env) (s : Shared) (H : Hp) (E : XK), Room k (A.deeper (PyProof.Rows.envOfC qual (defScope st) s.heap.objs.size f cdv)) →
      PSsD (cxOf (L2.CX P w) P w K mg base N qual (defScope st) f cdv A outer s H E) E rest m) : FnOk P w K mg base (L2.CX P w) (k + 1) f fd ["script"] (spLaw K) := by
  refine F.okX S0 (fun vs H Q E h => by obtain ⟨a, ns, rfl, _⟩ := h; rfl) fun cdv A outer s H vs Q E hr h => ?_
  obtain ⟨a, ns, rfl, hS, h63, q⟩ := h
  obtain ⟨fc, fdc, psc, h1, h2, h3, h4⟩ := C.ex
  rw [hbody]
  refine ⟨_, pss_cons (ps_set (i := 1) S0.nd (by rw [show (cxOf (L2.CX P w) P w K mg base N qual (defScope st) f cdv A outer s H E).N = N from rfl, hN]; rfl) (.inl hs1) (pe_call (CX := L2.CX P w) (E := E) h1 (hr.mono hj) hgl h2 h3 h4 .nil pass_def (L2.pa_cons (pe_var (i := 0) (by rw [show (cxOf (L2.CX P w) P w K mg base N qual (defScope st) f cdv A outer s H E).N = N from rfl, hN]; rfl) hs0) L2.pa_nil rfl) hdb rfl rfl) (hsw _ rfl) (.inl rfl)) (hm cdv A outer s H E hr), ?_⟩
  obtain ⟨ca, cb, c, e1, e2⟩ := hφ ns h63
  refine ⟨.ref a, by rw [hN]; rfl, a, ns, rfl, hS, h63, ?_⟩
  rw [e1]
  intro v F' H' s1 sb r
  cases r with
  | @lst p vs _ hp rl =>
    have hv : vs = [.int ca, .int cb] := by
      cases rl with
      | cons r1 rl =>
        cases rl with
        | cons r2 rl =>
          cases rl
          cases r1
          cases r2
          rfl
    subst hv
    refine ⟨⟨some p, fun _ => none, H'⟩, ⟨(ca, cb), .no :: .cup :: List.replicate N'.length .no⟩, fun _ => none, ?_, ?_⟩
    · refine ⟨(fun _ _ z => nomatch z), Go.refl _ _ _, fun q e => (by cases e; exact ⟨rfl, sb _ _ hp⟩), ?_, fun i t e => ?_, fun i j t u p e1 e2 o1 => ?_⟩
      · rw [hN]; simp [L2.start]
      · rw [hN]
        cases i with
        | zero => cases e; exact ⟨_, rfl, trivial⟩
        | succ i =>
          cases i with
          | zero => cases e; exact ⟨_, rfl, p, rfl, rfl⟩
          | succ i =>
            have e : (List.replicate N'.length Sl.no)[i]? = some t := by simpa using e
            rw [List.getElem?_replicate] at e
            split at e
            · rename_i hi
              cases e
              refine ⟨none, ?_, trivial⟩
              simp [L2.start, hi]
            · cases e
      · cases i with
        | zero => cases e1; cases o1
        | succ i =>
          cases i with
          | zero => cases e1; cases o1
          | succ i =>
            have e : (List.replicate N'.length Sl.no)[i]? = some t := by simpa using e1
            rw [List.getElem?_replicate] at e
            split at e
            · cases e; cases o1
            · cases e
    · rw [e2]
      intro v F2 H2 g sb2 cu r
      cases r
      exact q H2
end
end Pu
end

noncomputable section
set_option Elab.async false
set_option linter.all false
set_option maxRecDepth 100000
set_option maxHeartbeats 2000000
/-! Pu, seventh part: what comprehensions come to; the state of all draws. -/
namespace Pu
open PySem PySem.Spec L2
theorem fmodp {a m : Int} (h0 : 0 < m) : a.fmod m = a % m := Int.fmod_eq_emod_of_nonneg a (Int.le_of_lt h0)
theorem fdivp {a m : Int} (h0 : 0 < m) : a.fdiv m = a / m := Int.fdiv_eq_ediv_of_nonneg a (Int.le_of_lt h0)
/-! ### comprehensions that leave the cup -/
@[simp] theorem ints2_len (lo : Int) (n : Nat) : (ints2 lo n).length = n := by simp [ints2]
theorem lcL_filter {b : Bd} {t : M Bool} {e : M D} {s : S} (p : D → Bool) (f : D → D) : ∀ (xs : List D) (c : Int × Int), (∀ x ∈ xs, ∃ s1, b x (s.wc c) = some s1 ∧ t s1 = .ok (p x) c ∧ (p x = true → e (s1.wc c) = .ok (f x) c)) →
    lcL b t e s xs c = .ok ((xs.filter p).map f) c
  | [], c, _ => rfl
  | x :: xs, c, h => by
    obtain ⟨s1, h1, h2, h3⟩ := h x List.mem_cons_self
    have ih := lcL_filter p f xs c fun y hy => h y (List.mem_cons_of_mem _ hy)
    unfold lcL
    simp only [h1, h2]
    cases hp : p x with
    | true => simp only [h3 hp, ih, List.filter_cons, hp, if_true, List.map_cons]
    | false => simp [ih, List.filter_cons, hp]
theorem lcL_map {b : Bd} {t : M Bool} {e : M D} {s : S} (f : D → D) (xs : List D) (c : Int × Int) (h : ∀ x ∈ xs, ∃ s1, b x (s.wc c) = some s1 ∧ t s1 = .ok true c ∧ e (s1.wc c) = .ok (f x) c) : lcL b t e s xs c = .ok (xs.map f) c := by
  have := lcL_filter (fun _ => true) f xs c fun x hx => (h x hx).imp fun s1 k => ⟨k.1, k.2.1, fun _ => k.2.2⟩
  rw [this, List.filter_eq_self.mpr fun _ _ => rfl]
/-- comprehensions whose elements draw: some list of that many items with what each has -/
theorem lcL_draw {b : Bd} {e : M D} {s : S} (C : Int × Int → Prop) (Q : D → Prop) : ∀ (xs : List D) (c : Int × Int), C c → (∀ x ∈ xs, ∀ c, C c → ∃ s1 d c', b x (s.wc c) = some s1 ∧ e (s1.wc s1.c) = .ok d c' ∧ C c' ∧ Q d) →
    ∃ ds c', lcL b mYes e s xs c = .ok ds c' ∧ C c' ∧ ds.length = xs.length ∧ ∀ d ∈ ds, Q d
  | [], c, hc, _ => ⟨[], c, rfl, hc, rfl, fun _ h => by cases h⟩
  | x :: xs, c, hc, h => by
    obtain ⟨s1, d, c1, h1, h2, h3, h4⟩ := h x List.mem_cons_self c hc
    obtain ⟨ds, c2, k1, k2, k3, k4⟩ := lcL_draw C Q xs c1 h3 fun y hy => h y (List.mem_cons_of_mem _ hy)
    refine ⟨d :: ds, c2, ?_, k2, by simp [k3], fun y hy => ?_⟩
    · have hy : mYes s1 = .ok true s1.c := rfl
      unfold lcL
      simp only [h1, hy, h2, k1]
    · rcases List.mem_cons.mp hy with rfl | hy
      · exact h4
      · exact k4 y hy
theorem boolsD_map {α : Type} (f : α → Bool) : ∀ l : List α, boolsD (l.map fun x => .bool (f x)) = some (l.map f)
  | [] => rfl
  | x :: l => by simp [boolsD_map f l]
theorem intsD_map {α : Type} (f : α → Int) : ∀ l : List α, intsD (l.map fun x => .int (f x)) = some (l.map f)
  | [] => rfl
  | x :: l => by simp [intsD_map f l]
theorem atI_get {α : Type} {xs : List α} {i : Int} (h0 : 0 ≤ i) (h1 : i < xs.length) : atI xs i = some (xs[i.toNat]'(by omega)) := by
  unfold atI ixN
  rw [if_pos h0, if_pos h1]
  simp
theorem atI_natD {α : Type} {xs : List α} {j : Nat} (h : j < xs.length) : atI xs (j : Int) = some xs[j] := atI_nat (List.getElem?_eq_getElem h)
/-- the state of all draws -/
structure CupOk (c : Int × Int) : Prop where
  a : 0 ≤ c.1
  b : 0 ≤ c.2 ∧ c.2 < 4294967296
@[simp] theorem eqv_int (a b : Int) : PyData.eqv (.int a) (.int b) = (a == b) := by simp [PyData.eqv]
@[simp] theorem eqv_str (a b : Str) : PyData.eqv (.str a) (.str b) = (a == b) := by simp [PyData.eqv]
@[simp] theorem eqv_bool (a b : Bool) : PyData.eqv (.bool a) (.bool b) = (a == b) := by simp [PyData.eqv]
@[simp] theorem eqv_none : PyData.eqv .none .none = true := by simp [PyData.eqv]
@[simp] theorem eqv_list (a b : List D) : PyData.eqv (.list a) (.list b) = PyData.eqvAll a b := by simp [PyData.eqv]
@[simp] theorem eqv_tuple (a b : List D) : PyData.eqv (.tuple a) (.tuple b) = PyData.eqvAll a b := by simp [PyData.eqv]
@[simp] theorem eqvAll_nil : PyData.eqvAll [] [] = true := by simp [PyData.eqvAll]
@[simp] theorem eqvAll_cons (a b : D) (as bs : List D) : PyData.eqvAll (a :: as) (b :: bs) = (PyData.eqv a b && PyData.eqvAll as bs) := by simp [PyData.eqvAll]
@[simp] theorem eqvAll_nc (b : D) (bs : List D) : PyData.eqvAll [] (b :: bs) = false := by simp [PyData.eqvAll]
@[simp] theorem eqvAll_cn (a : D) (as : List D) : PyData.eqvAll (a :: as) [] = false := by simp [PyData.eqvAll]
@[simp] theorem eqv_int_none (a : Int) : PyData.eqv (.int a) .none = false := by simp [PyData.eqv]
@[simp] theorem eqv_none_int (a : Int) : PyData.eqv .none (.int a) = false := by simp [PyData.eqv]
/-- data that _law_same finds alike to themselves, nested less than k deep -/
def smp : Nat → D → Bool
  | 0, _ => false
  | k + 1, .tuple xs => decide (xs.length ≤ 1000000) && xs.all (smp k)
  | _ + 1, .list _ => false
  | _ + 1, .dict _ => false
  | _ + 1, _ => true
end Pu
end

noncomputable section
set_option Elab.async false
set_option linter.all false
set_option maxRecDepth 100000
set_option maxHeartbeats 2000000
/-! Pu, eighth part: the draws of every law, and its likeness, once for all. -/
namespace Pu
open PySem PySem.Spec L2
section
variable (k1 m1' a1 p1 q1 : Int)
def gCup : MS := (mSeq (mSetF 1 (m1 absD (m2 ixD (m2 addD (sqL 0) (mLst (aCons (rt (.int 0)) aNil))) (rt (.int 0))))) (mRet (mLst (aCons (mIf (mB (m2 geD (slB 1) (m2 powD (rt (.int 10)) (rt (.int 18))))) (m2 fdivD (slB 1) (rt (.int k1))) (rt (.int 0))) (aCons (m2 addD (m2 modD (m1 intD (m2 addD (m2 mulD (slB 1) (rt (.int m1'))) (rt (.int a1)))) (rt (.int p1))) (rt (.int q1))) aNil)))))
theorem gCup_ok (h1 : 0 < k1 ∧ k1 < 1073741824) (h2 : 0 < m1' ∧ m1' < 1073741824) (h3 : 0 < p1 ∧ p1 < 2147483648) (h4 : 0 ≤ q1 ∧ q1 < 1073741824) (ns : List Int) (h63 : ns.length ≤ 63) :
    ∃ a b : Int, fin (gCup k1 m1' a1 p1 q1 ⟨(0, 0), .sq (ns.map .int) :: List.replicate 1 .no⟩) = .ok (.list [.int a, .int b]) ∧ CupOk (a, b) := by
  have at0 : ∃ cell0, atI (ns.map PyData.int ++ [.int 0]) 0 = some (.int cell0) := by
    cases ns with
    | nil => exact ⟨0, rfl⟩
    | cons n ns => exact ⟨n, by simp [atI, ixN]; rw [if_pos (by omega)]; rfl⟩
  obtain ⟨cell0, e0⟩ := at0
  have hl : leN ((ns.map PyData.int).length + [PyData.int 0].length) = true := leN_tt (by simp; omega)
  have ha : ¬ (if cell0 < 0 then -cell0 else cell0) < 0 := by split <;> omega
  generalize hc : (if cell0 < 0 then -cell0 else cell0) = cell at ha
  have ha : 0 ≤ cell := by omega
  have hp : powD (.int 10) (.int 18) = some (.int 1000000000000000000) := by rw [powD_i _ _ (by decide)]; rfl
  have hd := fdivD_i cell k1 h1.1 h1.2
  have hm := mulD_i cell m1' (by rw [smallI_tt (i := m1') (by omega) (by omega), Bool.or_true])
  have hmo := modD_i (cell * m1' + a1) p1 h3.1
  have l1 := Int.emod_nonneg (cell * m1' + a1) (b := p1) (by omega)
  have l2 := Int.emod_lt_of_pos (cell * m1' + a1) h3.1
  unfold gCup
  by_cases hb : 1000000000000000000 ≤ cell
  · simp [addD_l _ _ hl, e0, hc, hp, hd, hm, hmo, hb]
    exact ⟨_, _, ⟨rfl, rfl⟩, Int.ediv_nonneg ha (by omega), by simp only; omega⟩
  · simp [addD_l _ _ hl, e0, hc, hp, hd, hm, hmo, hb]
    exact ⟨_, _, ⟨rfl, rfl⟩, by simp, by simp only; omega⟩
end
section
variable (k1 k2 m1' k3 m2' k4 : Int)
def gRoll : MS := (mSeq (mIfS (mB (m2 gtD (cupGet 0 0) (rt (.int 0)))) (mSeq (mSetF 2 (m2 modD (m1 intD (cupGet 0 0)) (slB 1))) (mSeq (mCupSet 0 0 (m2 fdivD (cupGet 0 0) (slB 1))) (mRet (slE 2)))) mNext) (mSeq (mCupSet 0 1 (m2 modD (m1 intD (m2 addD (m2 mulD (cupGet 0 1) (rt (.int k1))) (rt (.int k2)))) (rt (.int m1')))) (mSeq (mSetF 3 (m2 modD (m1 intD (m2 mulD (cupGet 0 1) (m2 addD (cupGet 0 1) (rt (.int k3))))) (rt (.int m2')))) (mRet (m2 modD (m1 intD (m2 fdivD (slB 3) (rt (.int k4)))) (slB 1))))))
theorem gRoll_ok (h1 : 0 < k1 ∧ k1 < 1073741824) (h3 : 0 < m1' ∧ m1' < 2147483648) (h4 : 0 < m2' ∧ m2' < 2147483648) (h5 : 0 < k4 ∧ k4 < 1073741824) {c : Int × Int} (hc : CupOk c) {m : Int} (hm0 : 0 < m) (hm1 : m < 536870912) :
    ∃ (r : Int) (c' : Int × Int), finC (gRoll k1 k2 m1' k3 m2' k4 ⟨c, .cup :: st0 3 [.int m]⟩) = .ok (.int r) c' ∧ CupOk c' ∧ 0 ≤ r ∧ r < m := by
  obtain ⟨a, b⟩ := c
  obtain ⟨ha, hb0, hb1⟩ := hc
  simp only at ha hb0 hb1
  have em (x : Int) := Int.emod_nonneg x (b := m) (by omega)
  have el (x : Int) := Int.emod_lt_of_pos x hm0
  unfold gRoll
  by_cases h : 0 < a
  · have e1 := modD_i a m hm0
    have e2 := fdivD_i a m hm0 (by omega)
    simp [h, e1, e2]
    exact ⟨_, _, _, ⟨rfl, rfl, rfl⟩, ⟨Int.ediv_nonneg ha (by omega), hb0, hb1⟩, em _, el _⟩
  · have e1 := mulD_i b k1 (by rw [smallI_tt (i := k1) (by omega) (by omega), Bool.or_true])
    have e2 := modD_i (b * k1 + k2) m1' h3.1
    have l1 := Int.emod_nonneg (b * k1 + k2) (b := m1') (by omega)
    have l2 := Int.emod_lt_of_pos (b * k1 + k2) h3.1
    generalize (b * k1 + k2) % m1' = d at e2 l1 l2
    have e3 := mulD_i d (d + k3) (by rw [smallI_tt (i := d) (by omega) (by omega), Bool.true_or])
    have e4 := modD_i (d * (d + k3)) m2' h4.1
    have e5 := fdivD_i (d * (d + k3) % m2') k4 h5.1 h5.2
    have e6 := modD_i (d * (d + k3) % m2' / k4) m hm0
    simp [h, e1, e2, e3, e4, e5, e6]
    exact ⟨_, _, _, ⟨rfl, rfl, rfl⟩, ⟨ha, l1, by simp only; omega⟩, em _, el _⟩
end
def gSome (roll : Int × Int → List D → R D) : MS := (mRet (m2 ixD (slB 1) (mCallC 0 roll (aCons (m1 lenD (slB 1)) aNil))))
/-- what _law_roll is good for -/
def RollOk (roll : Int × Int → List D → R D) : Prop := ∀ c, CupOk c → ∀ m : Int, 0 < m → m < 536870912 → ∃ (r : Int) (c' : Int × Int), roll c [.int m] = .ok (.int r) c' ∧ CupOk c' ∧ 0 ≤ r ∧ r < m
theorem gSome_ok {roll : Int × Int → List D → R D} (hr : RollOk roll) {c : Int × Int} (hc : CupOk c) {xs : List D} (h0 : xs ≠ []) (h1 : xs.length < 10000000) :
    ∃ d c', finC (gSome roll ⟨c, .cup :: st0 1 [.list xs]⟩) = .ok d c' ∧ CupOk c' ∧ d ∈ xs := by
  have hp : 0 < xs.length := List.length_pos_iff.mpr h0
  obtain ⟨r, c', e, hc', r0, r1⟩ := hr c hc (xs.length : Int) (by omega) (by omega)
  unfold gSome
  simp [e, atI_get r0 r1]
  exact ⟨_, _, _, ⟨rfl, rfl⟩, hc', List.getElem_mem _⟩
theorem gSome_okT {roll : Int × Int → List D → R D} (hr : RollOk roll) {c : Int × Int} (hc : CupOk c) {xs : List D} (h0 : xs ≠ []) (h1 : xs.length < 10000000) :
    ∃ d c', finC (gSome roll ⟨c, .cup :: st0 1 [.tuple xs]⟩) = .ok d c' ∧ CupOk c' ∧ d ∈ xs := by
  have hp : 0 < xs.length := List.length_pos_iff.mpr h0
  obtain ⟨r, c', e, hc', r0, r1⟩ := hr c hc (xs.length : Int) (by omega) (by omega)
  unfold gSome
  simp [e, atI_get r0 r1]
  exact ⟨_, _, _, ⟨rfl, rfl⟩, hc', List.getElem_mem _⟩
def gSame (rec : List D → O) : MS := (mSeq (mIfS (mB (m1 isTupD (slB 1))) (mSeq (mIfS (mOr (mNot (mB (m1 isTupD (slB 0)))) (mB (m2 neD (m1 lenD (slB 0)) (m1 lenD (slB 1))))) (mRet (rt (.bool false))) mNext) (mRet (m1 allD (mLc [2] (mI rng1D (m1 lenD (slB 1))) (bName 2) mYes (mCall rec (aCons (m2 ixD (slB 0) (slB 2)) (aCons (m2 ixD (slB 1) (slB 2)) aNil))))))) mNext) (mSeq (mIfS (mB (m2 isD (slB 1) (rt .none))) (mRet (m2 isD (slB 0) (rt .none))) mNext) (mSeq (mIfS (mB (m1 isBoolD (slB 1))) (mRet (mIf (mB (slB 1)) (m2 isD (slB 0) (rt (.bool true))) (m2 isD (slB 0) (rt (.bool false))))) mNext) (mSeq (mIfS (mB (m1 isIntD (slB 1))) (mRet (mAndV (m1 isIntD (slB 0)) (mAndV (mNotV (m1 isBoolD (slB 0))) (m2 eqD (m1 intD (slB 0)) (slB 1))))) mNext) (mRet (mAndV (m1 isStrD (slB 0)) (m2 eqD (m1 strD (slB 0)) (slB 1))))))))
def gSameN : Nat → List D → O
  | 0 => fun _ => .no
  | k + 1 => fun ds => fin (gSame (gSameN k) ⟨(0, 0), st0 3 ds⟩)
theorem gSame_ok (k : Nat) : ∀ (d : D), smp k d = true → gSameN k [d, d] = .ok (.bool true) := by
  induction k with
  | zero => intro d h; simp [smp] at h
  | succ k ih =>
    intro d h
    show fin (gSame (gSameN k) ⟨(0, 0), st0 3 [d, d]⟩) = _
    unfold gSame
    cases d with
    | none => simp
    | bool b => cases b <;> simp
    | int i => simp
    | str x => simp
    | list xs => simp [smp] at h
    | dict xs => simp [smp] at h
    | tuple xs =>
      simp [smp] at h
      obtain ⟨h1, h2⟩ := h
      have h1' : leN xs.length = true := leN_tt (by omega)
      have er : rng1D (.int xs.length) = some (ints2 0 xs.length) := by
        have := rng1D_i (xs.length : Int) (okR_tt (by omega) (by omega))
        simpa using this
      have key : ∀ s : S, s.r = [.fz (.tuple xs), .fz (.tuple xs), .no] → lcL (bName 2) mYes (mCall (gSameN k) (aCons (m2 ixD (slB 0) (slB 2)) (aCons (m2 ixD (slB 1) (slB 2)) aNil))) s (ints2 0 xs.length) (0, 0) = .ok ((ints2 0 xs.length).map fun _ => .bool true) (0, 0) := fun s hs => by
        refine lcL_map _ _ _ fun x hx => ?_
        obtain ⟨j, hj, rfl⟩ := List.mem_map.mp hx
        have hj : j < xs.length := by simpa using hj
        have hs' := ih xs[j] (h2 _ (List.getElem_mem hj))
        refine ⟨_, rfl, rfl, ?_⟩
        simp [hs, atI_natD hj, hs']
      have lo : lenOk ((ints2 0 xs.length).map fun _ => PyData.bool true) = true := lenOk_tt (by simp; omega)
      simp [er, key, boolsD_map (fun _ => true), lo]
/-- the items alike to one whole number -/
def isI (g : Int) : D → Bool
  | .int o => decide (o = g)
  | _ => false
theorem ints2_one (lo g : Int) (n : Nat) : (ints2 lo n).filter (isI g) = if lo ≤ g ∧ g < lo + n then [.int g] else [] := by
  induction n generalizing lo with
  | zero => rw [if_neg (by omega)]; rfl
  | succ n ih =>
    have e : ints2 lo (n + 1) = .int lo :: ints2 (lo + 1) n := by
      simp only [ints2, List.range_succ_eq_map, List.map_cons, List.map_map]
      congr 1
      · simp
      · apply List.map_congr_left; intro j _; simp; omega
    rw [e, List.filter_cons, ih]
    by_cases h : lo = g
    · rw [if_pos (by simp [isI, h]), if_neg (by omega), if_pos (by omega), h]
    · rw [if_neg (by simp [isI, h])]
      by_cases h2 : lo + 1 ≤ g ∧ g < lo + 1 + n
      · rw [if_pos h2, if_pos (by omega)]
      · rw [if_neg h2, if_neg (by omega)]
theorem ints2_mem {lo : Int} {n : Nat} {x : D} (h : x ∈ ints2 lo n) : ∃ i : Int, x = .int i ∧ lo ≤ i ∧ i < lo + n := by
  obtain ⟨j, hj, rfl⟩ := List.mem_map.mp h
  have hj : j < n := by simpa using hj
  exact ⟨_, rfl, by omega, by omega⟩
theorem rng1_ok {i : Int} (h0 : 0 ≤ i) (h1 : i < 100000000) : rng1D (.int i) = some (ints2 0 i.toNat) := rng1D_i i (okR_tt (by omega) (by omega))
theorem mul_ok {i j : Int} (h0 : -1000000000 < j) (h1 : j < 1000000000) : mulD (.int i) (.int j) = some (.int (i * j)) := mulD_i i j (by rw [smallI_tt (i := j) (by omega) (by omega), Bool.or_true])
theorem mul_ok' {i j : Int} (h0 : -1000000000 < i) (h1 : i < 1000000000) : mulD (.int i) (.int j) = some (.int (i * j)) := mulD_i i j (by rw [smallI_tt (i := i) (by omega) (by omega), Bool.true_or])
end Pu
end

noncomputable section
set_option Elab.async false
set_option linter.all false
set_option maxRecDepth 100000
set_option maxHeartbeats 2000000
/-! Pu, ninth part: dict lookups, slices, joins. -/
namespace Pu
open PySem PySem.Spec L2
/-! ### an item of a dict -/
def keq : D → D → Bool
  | .int i, .int j => decide (i = j)
  | .str a, .str b => decide (a = b)
  | _, _ => false
def dfind : List (D × D) → D → Option D
  | [], _ => none
  | (k, v) :: r, x => if keq k x = true then some v else dfind r x
theorem valV_skip {p : Key × V} {r : List (Key × V)} {k : Key} (e : p.1 ≠ k) : valV (p :: r) k = valV r k := by simp [valV, List.find?_cons, e]
theorem RpK.find {K : PySem.W.Frag} {F : Hp} : ∀ {kvs : List (Key × V)} {ds : List (D × D)} (k : Key) {z : D}, RpK K F kvs ds → dfind ds (keyD k) = some z → ∃ v, valV kvs k = some v ∧ Rp K F v z
  | _, _, _, _, .nil, e => by cases e
  | _, _, .inl j, _, .consI (i := i) h r, e => by
    by_cases q : i = j
    · subst q
      simp [dfind, keyD, keq] at e
      subst e
      exact ⟨_, valV_pos rfl, h⟩
    · simp [dfind, keyD, keq, q] at e
      obtain ⟨v, e1, e2⟩ := RpK.find (.inl j) r e
      exact ⟨v, by rw [valV_skip (by simpa using q)]; exact e1, e2⟩
  | _, _, .inr j, _, .consI (i := i) h r, e => by
    simp [dfind, keyD, keq] at e
    obtain ⟨v, e1, e2⟩ := RpK.find (.inr j) r e
    exact ⟨v, by rw [valV_skip (by simp)]; exact e1, e2⟩
  | _, _, .inl j, _, .consS (x := i) h r, e => by
    simp [dfind, keyD, keq] at e
    obtain ⟨v, e1, e2⟩ := RpK.find (.inl j) r e
    exact ⟨v, by rw [valV_skip (by simp)]; exact e1, e2⟩
  | _, _, .inr j, _, .consS (x := i) h r, e => by
    by_cases q : i = j
    · subst q
      simp [dfind, keyD, keq] at e
      subst e
      exact ⟨_, valV_pos rfl, h⟩
    · simp [dfind, keyD, keq, q] at e
      obtain ⟨v, e1, e2⟩ := RpK.find (.inr j) r e
      exact ⟨v, by rw [valV_skip (by simpa using q)]; exact e1, e2⟩
theorem RpB.dict {K : PySem.W.Frag} {pc : Option Addr} {F H : Hp} {v : V} {ds : List (D × D)} (sb : Same F H) (h : RpB K pc F H v (.dict ds)) : ∃ p kvs, v = .ref p ∧ Rd H p (.dK kvs) ∧ RpK K F kvs ds := by
  rcases h with h | ⟨_, _, _, _, z, _⟩ | ⟨p, kvs, ds', e, z, h1, h2, _⟩
  · cases h with
    | dK h1 h2 => exact ⟨_, _, rfl, rd_same sb h1, h2⟩
  · cases z
  · cases z
    exact ⟨p, kvs, e, .inl h1, h2⟩
def dgD : D → D → Option D
  | .dict kvs, .int i => dfind kvs (.int i)
  | .dict kvs, .str x => dfind kvs (.str x)
  | _, _ => none
section
variable {X : Cx} {E : XK} {a b e : Expr} {ma mb : M D} {pos p : Pos} {x : Str}
theorem rd_dget {K : PySem.W.Frag} {mg : Str → Option Value} {σ : L2.St} {H : Hp} {Q : VK} (h : rdE K mg E (m2 dgD ma mb) σ H Q) : tDGet (rdB K mg E ma) (rdB K mg E mb) σ H Q := by
  obtain ⟨fr, s, F, hs, q⟩ := h
  refine ⟨fr, s, F, hs, (Post.bnd q).mono fun x c1 F1 H1 g1 sb1 cu1 q1 v rv => ?_⟩
  refine ⟨fr, s.wc c1, F1, hs.step g1 sb1 cu1, (Post.bnd q1).mono fun y c2 F2 H2 g2 sb2 cu2 q2 w rw => ?_⟩
  obtain ⟨z, e, k⟩ := q2.lift
  have rv := rv.go g2
  unfold dgD at e
  split at e
  · obtain ⟨p, kvs, rfl, h1, h2⟩ := rv.dict sb2
    obtain ⟨v, e1, e2⟩ := RpK.find (.inl _) h2 e
    exact ⟨p, v, rfl, .inl ⟨kvs, .inl _, h1, rw.int, e1.symm⟩, k _ _ (Go.refl _ _ _) sb2 cu2 _ e2⟩
  · obtain ⟨p, kvs, rfl, h1, h2⟩ := rv.dict sb2
    obtain ⟨v, e1, e2⟩ := RpK.find (.inr _) h2 e
    exact ⟨p, v, rfl, .inl ⟨kvs, .inr _, h1, rw.str, e1.symm⟩, k _ _ (Go.refl _ _ _) sb2 cu2 _ e2⟩
  · cases e
theorem pd_dget (hu : X.A.units + 1 < cLine) (ha : PB X E a ma) (hb : PB X E b mb) (hs : NoSl b := by exact fun _ _ => rfl) : PD X E (.Subscript a b pos) (m2 dgD ma mb) := PE.imp (pe_dget hu ha hb hs) fun _ _ _ => rd_dget
/-! ### a written dict of texts and whole numbers -/
def litD (L : List (Str × Int)) : D := .dict (L.map fun p => (.str p.1, .int p.2))
def litK (L : List (Str × Int)) : List (Key × V) := L.map fun p => (.inr p.1, .int p.2)
theorem litK_ok {K : PySem.W.Frag} {F : Hp} : ∀ L : List (Str × Int), RpK K F (litK L) (L.map fun p => (.str p.1, .int p.2))
  | [] => .nil
  | (_, _) :: L => .consS (.int _) (litK_ok L)
def litT (L : List (Str × Int)) : List (TE × TE) := L.map fun p => (tC (.str p.1), tC (.int p.2))
theorem litT_ok : ∀ (L : List (Str × Int)) {σ : L2.St} {H : Hp} {Q : List (V × V) → Hp → Prop}, Q (L.map fun p => (.str p.1, .int p.2)) H → tPairs (litT L) σ H Q
  | [], _, _, _, h => h
  | (x, i) :: L, _, H, Q, h => by
    show tPairs (litT L) _ H fun ps H3 => Q ((.str x, .int i) :: ps) H3
    exact litT_ok L h
theorem new_dct {K : PySem.W.Frag} {F H : Hp} {p : Addr} {kvs : List (Key × V)} {ds : List (D × D)} (sb : Same F H) (hp : H p = none) (r : RpK K F kvs ds) :
    Go none F H F (upd H p (.dK kvs)) ∧ Same F (upd H p (.dK kvs)) ∧ RpF K H F (upd H p (.dK kvs)) (.ref p) (.dict ds) := by
  have hF : F p = none := by
    cases e : F p with
    | none => rfl
    | some o => have := sb _ _ e; rw [hp] at this; cases this
  have ne : ∀ a o, H a = some o → upd H p (.dK kvs) a = some o := fun a o h => by
    unfold upd
    split
    · rename_i e; subst e; rw [hp] at h; cases h
    · exact h
  refine ⟨⟨Same.refl _, fun a o _ h => ne a o h, fun a h => ?_, fun a _ h => h⟩, fun a o h => ne a o (sb _ _ h), ⟨p, kvs, rfl, hp, hF, upd_same, r⟩⟩
  cases e : H a with
  | none => exact absurd e h
  | some o => rw [ne a o e]; exact fun z => by cases z
theorem pf_lit (L : List (Str × Int)) {keys : List (Option Expr)} {values : List Expr} (h : PPs X pos keys values (litT L)) (hm : mergeK [] (litK L) = litK L) (hl15 : (litK L).length ≤ 15) (hall : keys.all (·.isSome) = true := by rfl) (hl : keys.length = values.length := by rfl) (h0 : keys ≠ [] := by exact fun z => by cases z)
    (h15 : keys.length ≤ 15 := by decide) : PF X E (.Dict keys values pos) (rt (litD L)) := PE.imp (pe_disp h hall hl h0 h15) fun σ H Q ⟨fr, s, F, hs, q⟩ => fun p hp => by
  refine litT_ok L ⟨upd_same, litK L, by simp [litK, kV], hl15, ?_⟩
  rw [hm]
  have e : upd (upd H p (.dK [])) p (.dK (litK L)) = upd H p (.dK (litK L)) := by funext b; unfold upd; split <;> rfl
  rw [e]
  obtain ⟨g, sb, r⟩ := new_dct (K := X.K) hs.sub hp (litK_ok (K := X.K) (F := F) L)
  exact q _ _ g.weak sb (hs.cup.go g) _ r
end
/-! ### a dict of the module -/
structure WD (K : PySem.W.Frag) (w : World) (mg : Str → Option Value) (x : Str) (L : List (Str × Int)) : Prop where
  ex : ∃ p es n, mg x = some (.ref p) ∧ KDict K w p es n ∧ ∀ z i, L.lookup z = some i → ∃ t, PySem.W.nsIn K p z = some (some (.int i t))
def wgD (L : List (Str × Int)) : D → Option D
  | .str z => (L.lookup z).map .int
  | _ => none
def wInD (L : List (Str × Int)) : D → Option D
  | .str z => if (L.lookup z).isSome = true then some (.bool true) else none
  | _ => none
section
variable {X : Cx} {E : XK} {a b e : Expr} {ma mb : M D} {pos p : Pos} {x : Str}
theorem pf_wd {L : List (Str × Int)} (W : WD X.K X.w X.mg x L) (hb : PB X E b mb) (hg : Gl X x := by rfl) (hd : (x == ("__debug__" : Str)) = false := by decide) (hs : PlainIx b := by exact fun _ _ => rfl) : PF X E (.Subscript (.Name x p) b pos) (m1 (wgD L) mb) := by
  obtain ⟨d, es, n, hm, D, hk⟩ := W.ex
  refine PE.imp (pe_ix ix_kdict (pe_glob (v := .ref d) hg hm rfl hd) hb hs) fun σ H Q h => ?_
  obtain ⟨fr, s, F, hs, q⟩ := h
  refine ⟨fr, s, F, hs, (Post.bnd q).mono fun x c1 F1 H1 g1 sb1 cu1 q1 v rv => ?_⟩
  obtain ⟨z, e, k⟩ := q1.lift
  unfold wgD at e
  split at e
  · rename_i zz
    cases el : L.lookup zz with
    | none => rw [el] at e; cases e
    | some i =>
      rw [el] at e
      cases e
      obtain ⟨t, hn⟩ := hk _ _ el
      exact ⟨d, zz, .int i, rfl, rv.str, ⟨es, n, _, D.at_, D.lit, hn, ⟨t, rfl⟩⟩, k _ _ (Go.refl _ _ _) sb1 cu1 _ (.int i)⟩
  · cases e
theorem rd_wIn {K : PySem.W.Frag} {w : World} {mg : Str → Option Value} {d : Addr} {L : List (Str × Int)} (hk : ∀ z i, L.lookup z = some i → ∃ t, PySem.W.nsIn K d z = some (some (.int i t))) {σ : L2.St} {H : Hp} {Q : VK} (h : rdF K mg E (m1 (wInD L) mb) σ H Q) :
    tOp (fun x y H Q => ∃ (z : Str) (r : Option Value), x = .str z ∧ y = .ref d ∧ PySem.W.nsIn K d z = some r ∧ Q (.bl r.isSome) H) (rdB K mg E mb) (tC (.ref d)) σ H Q := by
  obtain ⟨fr, s, F, hs, q⟩ := h
  refine ⟨fr, s, F, hs, (Post.bnd q).mono fun x c1 F1 H1 g1 sb1 cu1 q1 v rv => ?_⟩
  obtain ⟨z, e, k⟩ := q1.lift
  unfold wInD at e
  split at e
  · rename_i zz
    cases el : L.lookup zz with
    | none => rw [el] at e; cases e
    | some i =>
      rw [el] at e
      cases e
      obtain ⟨t, hn⟩ := hk _ _ el
      exact ⟨zz, _, rv.str, rfl, hn, k _ _ (Go.refl _ _ _) sb1 cu1 _ (.bl _)⟩
  · cases e
theorem pf_wIn {L : List (Str × Int)} (W : WD X.K X.w X.mg x L) (hb : PB X E b mb) (hg : Gl X x := by rfl) (hd : (x == ("__debug__" : Str)) = false := by decide) : PF X E (.Compare b [.In] [.Name x p] pos) (m1 (wInD L) mb) := by
  obtain ⟨d, es, n, hm, D, hk⟩ := W.ex
  exact PE.imp (pe_cmpR (op_in_kd D) hb (pe_glob (v := .ref d) hg hm rfl hd) rfl) fun σ H Q h => rd_wIn (w := X.w) hk h
/-! ### slices -/
def cutD (xs : List D) (lo hi : Option Int) : List D := (xs.drop (HT.sIx xs.length 0 lo)).take (HT.sIx xs.length xs.length hi - HT.sIx xs.length 0 lo)
def slD : D → Option Int → Option Int → Option D
  | .list xs, l, u => some (.list (cutD xs l u))
  | .tuple xs, l, u => some (.tuple (cutD xs l u))
  | .str z, l, u => if leN z.length = true then some (.str (cutS z l u)) else none
  | _, _, _ => none
def pNo : M (Option Int) := rt none
def pAt (m : M D) : M (Option Int) := bnd m fun d => match d with
  | .int i => rt (some i)
  | _ => lift none
def mSl (ma : M D) (lo hi : M (Option Int)) : M D := bnd ma fun x => bnd lo fun l => bnd hi fun u => lift (slD x l u)
def rdO (K : PySem.W.Frag) (mg : Str → Option Value) (E : XK) (m : M (Option Int)) : TO := fun σ H Q => ∃ fr s F, Sat K fr s F σ H ∧ Post mg E fr F H (m s) fun o _ _ H' => Q o H'
def POD (X : Cx) (E : XK) (e : Option Expr) (m : M (Option Int)) : Prop := PO X e (rdO X.K X.mg E m)
theorem PO.imp {X : Cx} {e : Option Expr} {t t' : TO} (h : PO X e t) (hi : ∀ σ H Q, t' σ H Q → t σ H Q) : PO X e t' := ⟨fun pins s σ H Q I q => h.run pins s σ H Q I (hi _ _ _ q)⟩
theorem po_no : POD X E none pNo := PO.imp po_none fun σ H Q ⟨fr, s, F, hs, q⟩ => q F H (Go.refl _ _ _) hs.sub hs.cup
theorem po_at (h : PB X E a ma) : POD X E (some a) (pAt ma) := PO.imp (po_some h) fun σ H Q ⟨fr, s, F, hs, q⟩ => by
  refine ⟨fr, s, F, hs, (Post.bnd q).mono fun x c1 F1 H1 g1 sb1 cu1 q1 v rv => ?_⟩
  split at q1
  · exact ⟨_, rv.int, q1 _ _ (Go.refl _ _ _) sb1 cu1⟩
  · exact q1.elim
theorem RpL.cut {K : PySem.W.Frag} {F : Hp} {vs : List V} {ds : List D} (r : RpL K F vs ds) (lo hi : Option Int) : RpL K F (cutV vs lo hi) (cutD ds lo hi) := by
  unfold cutV cutD
  rw [r.length]
  exact (r.drop _).take _
theorem sld : SlR X (fun x lo hi H Q => rSlL X.K x lo hi H Q ∨ rSlA X.K x lo hi H Q ∨ rSlS x lo hi H Q) := SlR.or sl_list (SlR.or sl_tupA sl_str)
theorem pf_sl {lo hi : Option Expr} {ml mh : M (Option Int)} {p2 : Pos} (ha : PB X E a ma) (hl : POD X E lo ml) (hh : POD X E hi mh) : PF X E (.Subscript a (.Slice lo hi none p2) pos) (mSl ma ml mh) := PE.imp (pe_slice sld ha hl hh) fun σ H Q ⟨fr, s, F, hs, q⟩ => by
  refine ⟨fr, s, F, hs, (Post.bnd q).mono fun x c1 F1 H1 g1 sb1 cu1 q1 v rv => ?_⟩
  have hs1 := hs.step g1 sb1 cu1
  refine ⟨fr, s.wc c1, F1, hs1, (Post.bnd q1).mono fun l c2 F2 H2 g2 sb2 cu2 q2 => ?_⟩
  refine ⟨fr, (s.wc c1).wc c2, F2, hs1.step g2 sb2 cu2, (Post.bnd q2).mono fun u c3 F3 H3 g3 sb3 cu3 q3 => ?_⟩
  obtain ⟨z, e, k⟩ := q3.lift
  have rv := (rv.go g2).go g3
  have gg := (g1.trans g2).trans g3
  unfold slD at e
  split at e
  · cases e
    obtain ⟨p, vs, rfl, h1, h2⟩ := rv.listF sb3
    refine .inl ⟨p, vs, rfl, h1, fun t ht => ?_⟩
    obtain ⟨g, sb, r⟩ := new_lst (K := X.K) sb3 ht (h2.cut l u)
    exact k _ _ g.weak sb (cu3.go g) _ (r.back gg)
  · cases e
    obtain ⟨p, vs, rfl, h1, h2⟩ := rv.tuple
    refine .inr (.inl ⟨p, vs, rfl, SqT.of (sb3 _ _ h1), fun hw => ?_, fun _ t ht => ?_⟩)
    · refine k _ _ (Go.refl _ _ _) sb3 cu3 _ (.tup h1 ?_)
      have := h2.cut l u
      unfold cutV at this
      rw [hw.1, hw.2, List.drop_zero, Nat.sub_zero, List.take_length] at this
      exact this
    · obtain ⟨g, sb, r⟩ := new_tup (fr := fr) sb3 ht (h2.cut l u)
      exact k _ _ g.weak sb (cu3.go g) _ r
  · split at e
    · rename_i hl
      cases e
      exact .inr (.inr ⟨_, rv.str, leN_le hl, k _ _ (Go.refl _ _ _) sb3 cu3 _ (.str _)⟩)
    · cases e
  · cases e
/-! ### join -/
def strsD : List D → Option (List Str)
  | [] => some []
  | .str x :: r => (strsD r).map (x :: ·)
  | _ :: _ => none
theorem strsD_ok {K : PySem.W.Frag} {F : Hp} : ∀ {vs : List V} {ds : List D} {ys : List Str}, RpL K F vs ds → strsD ds = some ys → vs = ys.map V.str
  | _, _, _, .nil, e => by cases e; rfl
  | _, _, _, .cons (d := d) (ds := ds) h r, e => by
    cases d with
    | str x =>
      have e : (strsD ds).map (x :: ·) = some _ := e
      cases er : strsD ds with
      | none => rw [er] at e; cases e
      | some zs =>
        rw [er] at e
        cases e
        cases h
        rw [strsD_ok r er]
        rfl
    | none => cases e
    | bool _ => cases e
    | int _ => cases e
    | list _ => cases e
    | tuple _ => cases e
    | dict _ => cases e
def joinN (a : Str) (ys : List Str) : Bool := leN ((ys.map (·.length)).sum + ys.length * a.length)
def joinD : D → D → Option D
  | .str a, .list ds => match strsD ds with
    | some ys => if joinN a ys = true then some (.str (Txt.join a ys)) else none
    | none => none
  | .str a, .tuple ds => match strsD ds with
    | some ys => if joinN a ys = true then some (.str (Txt.join a ys)) else none
    | none => none
  | _, _ => none
def isSD : D → Bool
  | .str _ => true
  | _ => false
/-- the separator is asked for being a text before the rest is read -/
def mJoin (x : Str) (mb : M D) : M D := m1 (joinD (.str x)) mb
theorem pf_join {z : Str} {j : Nat} {zp apos : Pos} (hb : PB X E b mb) (hs : starEach [b] X.env = [(false, eval b X.env)] := by rfl) (hbase : attributeBase (.Constant (.str z) j zp) "join" X.env (eval (.Constant (.str z) j zp) X.env) = eval (.Constant (.str z) j zp) X.env := by rfl) (hline : (apos.endLine == pos.line) = true := by rfl) :
    PF X E (.Call (.Attribute (.Constant (.str z) j zp) "join" apos) [b] [] pos) (mJoin z mb) := PE.imp (pe_join pe_str hb hs hbase hline) fun σ H Q ⟨fr, s, F, hs, q⟩ => by
  refine ⟨⟨z, rfl⟩, fr, s, F, hs, (Post.bnd q).mono fun x c1 F1 H1 g1 sb1 cu1 q1 v rv => ?_⟩
  obtain ⟨d, e, k⟩ := q1.lift
  unfold joinD at e
  split at e
  · rename_i ez
    cases ez
    split at e
    · rename_i ys es
      split at e
      · rename_i hl
        cases e
        obtain ⟨p, vs, rfl, h1, h2⟩ := rv.listF sb1
        exact ⟨_, p, ys, rfl, rfl, .inl (by rw [← strsD_ok h2 es]; exact h1), by rw [← PySem.sizeLine_eq]; exact leN_le hl, k _ _ (Go.refl _ _ _) sb1 cu1 _ (.str _)⟩
      · cases e
    · cases e
  · rename_i ez
    cases ez
    split at e
    · rename_i ys es
      split at e
      · rename_i hl
        cases e
        obtain ⟨p, vs, rfl, h1, h2⟩ := rv.tuple
        exact ⟨_, p, ys, rfl, rfl, .inr (by rw [← strsD_ok h2 es]; exact SqT.of (sb1 _ _ h1)), by rw [← PySem.sizeLine_eq]; exact leN_le hl, k _ _ (Go.refl _ _ _) sb1 cu1 _ (.str _)⟩
      · cases e
    · cases e
  · cases e
end
section
variable (s : S)
@[simp] theorem pNo_ap : pNo s = .ok none s.c := (rfl)
@[simp] theorem pAt_ap (m : M D) : pAt m s = bnd m (fun d => match d with
  | .int i => rt (some i)
  | _ => lift none) s := (rfl)
@[simp] theorem mSl_ap (ma : M D) (lo hi : M (Option Int)) : mSl ma lo hi s = bnd ma (fun x => bnd lo fun l => bnd hi fun u => lift (slD x l u)) s := (rfl)
@[simp] theorem mJoin_ap (x : Str) (mb : M D) : mJoin x mb s = m1 (joinD (.str x)) mb s := (rfl)
@[simp] theorem slD_l (xs : List D) (l u : Option Int) : slD (.list xs) l u = some (.list (cutD xs l u)) := (rfl)
@[simp] theorem slD_t (xs : List D) (l u : Option Int) : slD (.tuple xs) l u = some (.tuple (cutD xs l u)) := (rfl)
theorem slD_s {z : Str} (h : leN z.length = true) (l u : Option Int) : slD (.str z) l u = some (.str (cutS z l u)) := if_pos h
@[simp] theorem wgD_s (L : List (Str × Int)) (z : Str) : wgD L (.str z) = (L.lookup z).map .int := (rfl)
theorem wInD_s {L : List (Str × Int)} {z : Str} (h : (L.lookup z).isSome = true) : wInD L (.str z) = some (.bool true) := if_pos h
theorem dfind_lit (z : Str) : ∀ L : List (Str × Int), dfind (L.map fun p => (.str p.1, .int p.2)) (.str z) = (L.lookup z).map .int
  | [] => rfl
  | (x, i) :: L => by
    by_cases h : x = z
    · subst h; simp [dfind, keq]
    · have h' : (z == x) = false := by
        have : ¬ z = x := fun e => h e.symm
        simpa using this
      have h2 : keq (.str x) (.str z) = false := by simp [keq, h]
      simp only [List.map_cons, dfind, h2, List.lookup_cons, h']
      simpa using dfind_lit z L
@[simp] theorem dgD_lit (L : List (Str × Int)) (z : Str) : dgD (litD L) (.str z) = (L.lookup z).map .int := dfind_lit z L
end
end Pu
end

noncomputable section
set_option Elab.async false
set_option linter.all false
set_option maxRecDepth 100000
set_option maxHeartbeats 4000000
/-! Pu, tenth part: comprehensions with two fors. -/
namespace Pu
open PySem PySem.Spec L2
section
variable {K : PySem.W.Frag} {mg : Str → Option Value} {E E1 : XK} {σ : L2.St} {H H1 F F1 : Hp} {Q : VK} {s : S}
/-- the frame that knows of the list P under way -/
def frP (fr : Fr) (P : Addr) (va : List V) : Fr := { fr with H0 := upd fr.H0 P (.lst va) }
theorem Sat.enter {fr : Fr} {P : Addr} {va : List V} {c1 : Int × Int} (h : Sat K fr s F σ H) (hP : H P = none) (g : Go fr.pc F H F1 H1) (sb : Same F1 H1) (cu : CupAt fr.pc F1 H1 c1) (fp : F1 P = none) (hp : H1 P = some (.lst va)) : Sat K (frP fr P va) (s.wc c1) F1 σ H1 := by
  have h1 := h.step g sb cu
  refine ⟨h1.sub, ⟨h1.go.f, fun a o pc e => ?_, fun a e => ?_, fun a e z => ?_⟩, h1.cup, h1.len, fun i t e => ?_, h1.ap⟩
  · by_cases ha : a = P
    · subst ha
      have e : upd fr.H0 a (.lst va) a = some o := e
      rw [upd_same] at e; cases e; exact hp
    · have e : upd fr.H0 P (.lst va) a = some o := e
      rw [upd_ne ha] at e; exact h1.go.h a o pc e
  · by_cases ha : a = P
    · subst ha; rw [hp]; exact fun z => nomatch z
    · have e : upd fr.H0 P (.lst va) a ≠ none := e
      rw [upd_ne ha] at e; exact h1.go.t a e
  · by_cases ha : a = P
    · subst ha; exact fp
    · have e : upd fr.H0 P (.lst va) a ≠ none := e
      rw [upd_ne ha] at e; exact h1.go.n a e z
  · obtain ⟨o, e1, e2⟩ := h1.sl i t e
    obtain ⟨o', e1', e2'⟩ := h.sl i t e
    rw [e1] at e1'
    cases e1'
    refine ⟨o, e1, ?_⟩
    cases t with
    | no => trivial
    | fz d => exact e2
    | ow xs =>
      obtain ⟨p, vs, ep, w, r⟩ := e2
      obtain ⟨p', vs', ep', w', _⟩ := e2'
      rw [ep] at ep'
      cases ep'
      exact ⟨p, vs, ep, ⟨w.h, w.f, by show upd fr.H0 P (.lst va) p = none; rw [upd_ne (fun z => by subst z; exact nomatch hP.symm.trans w'.h)]; exact w.n, w.c⟩, r⟩
    | od xs =>
      obtain ⟨p, vs, ep, w, r⟩ := e2
      obtain ⟨p', vs', ep', w', _⟩ := e2'
      rw [ep] at ep'
      cases ep'
      exact ⟨p, vs, ep, ⟨w.h, w.f, by show upd fr.H0 P (.lst va) p = none; rw [upd_ne (fun z => by subst z; exact nomatch hP.symm.trans w'.h)]; exact w.n, w.c⟩, r⟩
    | cup => exact e2
    | sq xs => exact e2
theorem Sat.app {fr : Fr} {P : Addr} {va vb : List V} (h : Sat K (frP fr P va) s F σ H) (pne : fr.pc ≠ some P) (fp : F P = none) : Sat K (frP fr P vb) s F σ (upd H P (.lst vb)) := by
  have gh : ∀ a o, a ≠ P → H a = some o → upd H P (.lst vb) a = some o := fun a o ha e => by rw [upd_ne ha]; exact e
  refine ⟨fun a o e => gh a o (fun z => by rw [z, fp] at e; cases e) (h.sub a o e), ⟨h.go.f, fun a o pc e => ?_, fun a e => ?_, fun a e z => ?_⟩, fun p e => ?_, h.len, fun i t e => ?_, h.ap⟩
  · by_cases ha : a = P
    · subst ha
      have e : upd fr.H0 a (.lst vb) a = some o := e
      rw [upd_same] at e ⊢; exact e
    · have e : upd fr.H0 P (.lst vb) a = some o := e
      rw [upd_ne ha] at e
      exact gh a o ha (h.go.h a o pc (by show upd fr.H0 P (.lst va) a = some o; rw [upd_ne ha]; exact e))
  · by_cases ha : a = P
    · subst ha; rw [upd_same]; exact fun z => nomatch z
    · have e : upd fr.H0 P (.lst vb) a ≠ none := e
      rw [upd_ne ha] at e ⊢
      exact h.go.t a (by show upd fr.H0 P (.lst va) a ≠ none; rw [upd_ne ha]; exact e)
  · by_cases ha : a = P
    · subst ha; exact fp
    · have e : upd fr.H0 P (.lst vb) a ≠ none := e
      rw [upd_ne ha] at e
      exact h.go.n a (by show upd fr.H0 P (.lst va) a ≠ none; rw [upd_ne ha]; exact e) z
  · obtain ⟨k1, k2⟩ := h.cup p e
    exact ⟨k1, gh _ _ (fun z => pne (by rw [← z]; exact e)) k2⟩
  · obtain ⟨o, e1, e2⟩ := h.sl i t e
    refine ⟨o, e1, ?_⟩
    have pn : ∀ p, upd fr.H0 P (.lst va) p = none → p ≠ P := fun p e z => by subst z; rw [upd_same] at e; cases e
    cases t with
    | no => trivial
    | fz d => exact e2
    | ow xs =>
      obtain ⟨p, vs, ep, w, r⟩ := e2
      have ne := pn p w.n
      have wn : upd fr.H0 P (.lst va) p = none := w.n
      rw [upd_ne ne] at wn
      exact ⟨p, vs, ep, ⟨gh _ _ ne w.h, w.f, by show upd fr.H0 P (.lst vb) p = none; rw [upd_ne ne]; exact wn, w.c⟩, r⟩
    | od xs =>
      obtain ⟨p, vs, ep, w, r⟩ := e2
      have ne := pn p w.n
      have wn : upd fr.H0 P (.lst va) p = none := w.n
      rw [upd_ne ne] at wn
      exact ⟨p, vs, ep, ⟨gh _ _ ne w.h, w.f, by show upd fr.H0 P (.lst vb) p = none; rw [upd_ne ne]; exact wn, w.c⟩, r⟩
    | cup => exact e2
    | sq xs => exact e2
end
def lcL2 (b : Bd) (t : M Bool) (vs1 : List Nat) (it1 : M (List D)) (b1 : Bd) (t1 : M Bool) (e : M D) (s : S) : List D → Int × Int → R (List D)
  | [], c => .ok [] c
  | x :: xs, c => match b x (s.wc c) with
    | none => .no
    | some s1 => match t s1 with
      | .ok true c1 => (match it1 (s1.wc c1) with
        | .ok ds1 c2 => (match lcL b1 t1 e (wipeS (s1.wc c2) vs1) ds1 c2 with
          | .ok out c3 => (match lcL2 b t vs1 it1 b1 t1 e s xs c3 with
            | .ok outs c4 => .ok (out ++ outs) c4
            | _ => .no)
          | _ => .no)
        | _ => .no)
      | .ok false c1 => lcL2 b t vs1 it1 b1 t1 e s xs c1
      | _ => .no
def mLc2 (vs : List Nat) (it : M (List D)) (b : Bd) (t : M Bool) (vs1 : List Nat) (it1 : M (List D)) (b1 : Bd) (t1 : M Bool) (e : M D) : M D := bnd it fun ds => fun s => match lcL2 b t vs1 it1 b1 t1 e (wipeS s vs) ds s.c with
  | .ok out c => if lenOk out = true then .ok (.list out) c else .no
  | _ => .no
section
variable {K : PySem.W.Frag} {mg : Str → Option Value} {E E1 : XK} {σ : L2.St} {H : Hp} {Q : VK}
/-- the list P under way -/
structure Lq (K : PySem.W.Frag) (fr : Fr) (F' H' : Hp) (P : Addr) (F1 H1 : Hp) (acc : List D) (vacc : List V) : Prop where
  g : Go fr.pc F' H' F1 H1
  fp : F1 P = none
  hp : H1 P = some (.lst vacc)
  ra : RpL K F1 vacc acc
theorem Lq.go {fr : Fr} {F' H' F1 H1 F2 H2 : Hp} {P : Addr} {acc : List D} {vacc : List V} (h : Lq K fr F' H' P F1 H1 acc vacc) (pne : fr.pc ≠ some P) (g : Go fr.pc F1 H1 F2 H2) : Lq K fr F' H' P F2 H2 acc vacc :=
  ⟨h.g.trans g, g.n P (by rw [h.hp]; exact fun z => nomatch z) h.fp, g.h P _ pne h.hp, h.ra.mono g.f⟩
theorem Lq.app {fr : Fr} {F' H' F1 H1 : Hp} {P : Addr} {acc : List D} {vacc : List V} {d : D} {v : V} (h : Lq K fr F' H' P F1 H1 acc vacc) (hP : H' P = none) (r : Rp K F1 v d) : Lq K fr F' H' P F1 (upd H1 P (.lst (vacc ++ [v]))) (acc ++ [d]) (vacc ++ [v]) := by
  have gh : ∀ a o, a ≠ P → H1 a = some o → upd H1 P (.lst (vacc ++ [v])) a = some o := fun a o ha e => by rw [upd_ne ha]; exact e
  refine ⟨⟨h.g.f, fun a o pc e => gh a o (ne_of_none e hP) (h.g.h a o pc e), fun a ha => ?_, h.g.n⟩, h.fp, upd_same, h.ra.append (.cons r .nil)⟩
  by_cases hb : a = P
  · subst hb; rw [upd_same]; exact fun z => nomatch z
  · rw [upd_ne hb]; exact h.g.t a ha
theorem rd_lc2 {vs idx vs1 idx1 : List Nat} (hi : ∀ j ∈ idx, j ∈ vs) (hi1 : ∀ j ∈ idx1, j ∈ vs1) {it it1 : M (List D)} {b b1 : Bd} {t t1 : M Bool} {e : M D} (h : rdF K mg E (mLc2 vs it b t vs1 it1 b1 t1 e) σ H Q) :
    tLc2 (rdI K mg E it) (gD K b idx) (rdT K mg E1 t) (rdI K mg E1 it1) (gD K b1 idx1) (rdT K mg E1 t1) (rdE K mg E1 e) vs vs1 σ H Q := by
  obtain ⟨fr, s, F, hs, q⟩ := h
  refine ⟨fr, s, F, hs, (Post.bnd q).mono fun ds c F' H' g sb cu q1 J hJ P hP => ?_⟩
  cases e1 : lcL2 b t vs1 it1 b1 t1 e (wipeS (s.wc c) vs) ds c with
  | err x c' => simp only [e1] at q1; exact q1.elim
  | no => simp only [e1] at q1; exact q1.elim
  | ok out c3 =>
    simp only [e1] at q1
    by_cases ho : lenOk out = true
    · rw [if_pos ho] at q1
      have hs1 := (hs.step g sb cu).wipe vs
      have pne : fr.pc ≠ some P := fun z => by
        have := (cu P z).2
        rw [hP] at this
        cases this
      have nn : H P = none := by
        cases q : H P with
        | none => rfl
        | some o => exact absurd hP (g.t P (by rw [q]; exact fun z => nomatch z))
      have lim : ∀ (acc : List D) (d : D) (r : List D), acc ++ (d :: r) = out → acc.length < sizeLine := fun acc d r eo => by
        have := lenOk_le ho
        rw [← eo, List.length_append, List.length_cons] at this
        omega
      generalize hSW : wipeS (s.wc c) vs = SW at e1 hs1
      refine ⟨fun i m H1 => m = ds.length - i ∧ i ≤ ds.length ∧ ∃ F1 acc vacc ci rest, Lq K fr F' H' P F1 H1 acc vacc ∧ Same F1 H1 ∧ CupAt fr.pc F1 H1 ci ∧ lcL2 b t vs1 it1 b1 t1 e SW (ds.drop i) ci = .ok rest c3 ∧ acc ++ rest = out,
        ⟨ds.length, by simp, Nat.zero_le _, F', [], [], c, out, ⟨Go.newH hP, sb.free hP, upd_same, .nil⟩, same_updH sb hP, fun p hp => ?_, e1, rfl⟩, ?_⟩
      · obtain ⟨k1, k2⟩ := cu p hp
        exact ⟨k1, by rw [upd_ne (ne_of_none k2 hP)]; exact k2⟩
      rintro i m H1 ⟨rfl, hil, F1, acc, vacc, ci, rest, L, sb1, cu1, el, eo⟩
      by_cases hlt : i < ds.length
      · right
        rw [List.drop_eq_getElem_cons hlt] at el
        unfold lcL2 at el
        refine ⟨hJ.go F1 H1 i L.g.f sb1 hlt, fun H2 => ∃ F1 acc vacc ci rest, Lq K fr F' H' P F1 H2 acc vacc ∧ Same F1 H2 ∧ CupAt fr.pc F1 H2 ci ∧ lcL2 b t vs1 it1 b1 t1 e SW (ds.drop (i + 1)) ci = .ok rest c3 ∧ acc ++ rest = out,
          fun H2 k => ⟨ds.length - (i + 1), by omega, rfl, hlt, k⟩, fun x H2 y => ?_⟩
        obtain ⟨d, F2, e2, g2, sb2, r2⟩ := hJ.yl F1 H1 i x H2 L.g.f sb1 y hlt
        rw [List.getElem?_eq_getElem hlt] at e2
        cases e2
        have L2' := L.go pne g2.weak
        have hsw := hs1.enter (va := vacc) hP L2'.g sb2 (cu1.go g2) L2'.fp L2'.hp
        cases e3 : b ds[i] (SW.wc ci) with
        | none => rw [e3] at el; cases el
        | some s2 =>
          simp only [e3] at el
          refine ⟨frP fr P vacc, _, F2, _, hsw, r2, s2, e3, fun σ2 o2 hs2 => ⟨wipe_only o2 hi, frP fr P vacc, s2, F2, hs2, ?_⟩⟩
          cases e4 : t s2 with
          | err _ _ => simp only [e4] at el; cases el
          | no => simp only [e4] at el; cases el
          | ok kb c1 =>
            intro F3 H3 g3 sb3 cu3
            have L3 := L2'.go pne g3
            cases kb with
            | false =>
              simp only [e4] at el
              exact L2.iteF ⟨F3, acc, vacc, c1, rest, L3, sb3, cu3, el, eo⟩
            | true =>
              simp only [e4] at el
              have hs3 := hs2.step g3 sb3 cu3
              cases e5 : it1 (s2.wc c1) with
              | err _ _ => simp only [e5] at el; cases el
              | no => simp only [e5] at el; cases el
              | ok ds1 c2 =>
                simp only [e5] at el
                cases e6 : lcL b1 t1 e (wipeS (s2.wc c2) vs1) ds1 c2 with
                | err _ _ => simp only [e6] at el; cases el
                | no => simp only [e6] at el; cases el
                | ok out1 c4 =>
                  simp only [e6] at el
                  cases e7 : lcL2 b t vs1 it1 b1 t1 e SW (ds.drop (i + 1)) c4 with
                  | err _ _ => simp only [e7] at el; cases el
                  | no => simp only [e7] at el; cases el
                  | ok outs c5 =>
                    simp only [e7] at el
                    cases el
                    refine L2.iteT ⟨frP fr P vacc, _, F3, hs3, ?_⟩
                    show Post mg E1 (frP fr P vacc) F3 H3 (it1 (s2.wc c1)) _
                    rw [e5]
                    intro F4 H4 g4 sb4 cu4 J1 hJ1
                    have L4 := L3.go pne g4
                    refine ⟨fun j k H1 => k = ds1.length - j ∧ j ≤ ds1.length ∧ ∃ F1 acc vacc cj rest1, Sat K (frP fr P vacc) (s2.wc cj) F1 σ2 H1 ∧ Lq K fr F' H' P F1 H1 acc vacc ∧ Same F4 F1 ∧ lcL b1 t1 e (wipeS (s2.wc c2) vs1) (ds1.drop j) cj = .ok rest1 c4 ∧ acc ++ (rest1 ++ outs) = out,
                      ⟨ds1.length, by simp, Nat.zero_le _, F4, acc, vacc, c2, out1, hs3.step g4 sb4 cu4, L4, Same.refl _, e6, eo⟩, ?_⟩
                    rintro j k H5 ⟨rfl, hjl, F5, acc5, vacc5, cj, rest1, hs5, L5, s45, el1, eo1⟩
                    by_cases hlt1 : j < ds1.length
                    · right
                      rw [List.drop_eq_getElem_cons hlt1] at el1
                      unfold lcL at el1
                      refine ⟨hJ1.go F5 H5 j s45 hs5.sub hlt1, fun H2 => ∃ F1 acc vacc cj rest1, Sat K (frP fr P vacc) (s2.wc cj) F1 σ2 H2 ∧ Lq K fr F' H' P F1 H2 acc vacc ∧ Same F4 F1 ∧ lcL b1 t1 e (wipeS (s2.wc c2) vs1) (ds1.drop (j + 1)) cj = .ok rest1 c4 ∧ acc ++ (rest1 ++ outs) = out,
                        fun H2 k => ⟨ds1.length - (j + 1), by omega, rfl, hlt1, k⟩, fun x H6 y => ?_⟩
                      obtain ⟨d6, F6, e8, g6, sb6, r6⟩ := hJ1.yl F5 H5 j x H6 s45 hs5.sub y hlt1
                      rw [List.getElem?_eq_getElem hlt1] at e8
                      cases e8
                      have L6 := L5.go pne g6.weak
                      have cu6 : CupAt fr.pc F6 H6 cj := hs5.cup.go g6
                      have hs6 : Sat K (frP fr P vacc5) (s2.wc cj) F6 σ2 H6 := hs5.step (c := cj) g6.weak sb6 cu6
                      have hw6 := hs6.wipe vs1
                      have ew : wipeS (s2.wc cj) vs1 = (wipeS (s2.wc c2) vs1).wc cj := by rw [wipeS_wc]
                      rw [ew] at hw6
                      cases e9 : b1 ds1[j] ((wipeS (s2.wc c2) vs1).wc cj) with
                      | none => rw [e9] at el1; cases el1
                      | some s3 =>
                        simp only [e9] at el1
                        refine ⟨frP fr P vacc5, _, F6, _, hw6, r6, s3, e9, fun σ3 o3 hs3' => ⟨wipe_only o3 hi1, frP fr P vacc5, s3, F6, hs3', ?_⟩⟩
                        cases e10 : t1 s3 with
                        | err _ _ => simp only [e10] at el1; cases el1
                        | no => simp only [e10] at el1; cases el1
                        | ok kb1 c6 =>
                          intro F7 H7 g7 sb7 cu7
                          have L7 := L6.go pne g7
                          have hs7 : Sat K (frP fr P vacc5) (s2.wc c6) F7 σ2 H7 := hs6.step (c := c6) g7 sb7 cu7
                          cases kb1 with
                          | false =>
                            simp only [e10] at el1
                            exact L2.iteF ⟨F7, acc5, vacc5, c6, rest1, hs7, L7, (s45.trans g6.f).trans g7.f, el1, eo1⟩
                          | true =>
                            simp only [e10] at el1
                            cases e11 : e (s3.wc c6) with
                            | err _ _ => simp only [e11] at el1; cases el1
                            | no => simp only [e11] at el1; cases el1
                            | ok d7 c7 =>
                              simp only [e11] at el1
                              cases e12 : lcL b1 t1 e (wipeS (s2.wc c2) vs1) (ds1.drop (j + 1)) c7 with
                              | err _ _ => simp only [e12] at el1; cases el1
                              | no => simp only [e12] at el1; cases el1
                              | ok rest2 c8 =>
                                simp only [e12] at el1
                                cases el1
                                refine L2.iteT ⟨frP fr P vacc5, _, F7, hs3'.step g7 sb7 cu7, ?_⟩
                                show Post mg E1 (frP fr P vacc5) F7 H7 (e (s3.wc c6)) _
                                rw [e11]
                                intro F8 H8 g8 sb8 cu8 v8 r8
                                have L8 := L7.go pne g8
                                have hs8 : Sat K (frP fr P vacc5) (s2.wc c7) F8 σ2 H8 := hs7.step (c := c7) g8 sb8 cu8
                                refine ⟨vacc5, L8.hp, ?_, F8, acc5 ++ [d7], vacc5 ++ [v8], c7, rest2, hs8.app pne L8.fp, L8.app hP r8, ((s45.trans g6.f).trans g7.f).trans g8.f, e12, by rw [List.append_assoc]; exact eo1⟩
                                rw [L8.ra.length]
                                exact lim _ _ _ eo1
                    · left
                      have ej : j = ds1.length := by omega
                      subst ej
                      rw [List.drop_length] at el1
                      cases el1
                      exact ⟨hJ1.st F5 H5 s45 hs5.sub, F5, acc5, vacc5, _, outs, L5, hs5.sub, hs5.cup, e7, eo1⟩
      · left
        have ei : i = ds.length := by omega
        subst ei
        rw [List.drop_length] at el
        cases el
        rw [List.append_nil] at eo
        subst eo
        exact ⟨hJ.st F1 H1 L.g.f sb1, q1 F1 H1 L.g sb1 cu1 _ ⟨P, vacc, rfl, nn, L.fp, L.hp, L.ra⟩⟩
    · rw [if_neg ho] at q1
      exact q1.elim
end
section
variable {X : Cx} {E : XK} {elt tg it tg1 it1 : Expr} {ifs ifs1 : List Expr} {scope : Scope} {pos p px : Pos} {x : Str} {mit mit1 : M (List D)} {bd bd1 : Bd} {idx idx1 : List Nat} {ta ta1 : M Bool} {m : M D}
theorem pf_lc2 (own : List (Str × Nat)) (vs1 : List Nat) (hc : X.calm = true) (hN : X.N.Nodup) (hi : PID X E tg it mit) (ok : BlkOk X.N X.env.scope scope own)
    (hg : ∀ (s : Shared) (H : Hp) (C : Addr) (cl : List (Str × Addr)) (fp : List Addr), PGD (X.blk s H scope (compEnvC scope cl C X.env) fp) tg bd idx) (ht : ∀ (s : Shared) (H : Hp) (C : Addr) (cl : List (Str × Addr)) (fp : List Addr), PTsD (X.blk s H scope (compEnvC scope cl C X.env) fp) L2.E0 ifs ta)
    (hi1 : ∀ (s : Shared) (H : Hp) (C : Addr) (cl : List (Str × Addr)) (fp : List Addr), PID (X.blk s H scope (compEnvC scope cl C X.env) fp) L2.E0 tg1 it1 mit1)
    (hg1 : ∀ (s : Shared) (H : Hp) (C : Addr) (cl : List (Str × Addr)) (fp : List Addr), PGD (X.blk s H scope (compEnvC scope cl C X.env) fp) tg1 bd1 idx1) (ht1 : ∀ (s : Shared) (H : Hp) (C : Addr) (cl : List (Str × Addr)) (fp : List Addr), PTsD (X.blk s H scope (compEnvC scope cl C X.env) fp) L2.E0 ifs1 ta1)
    (he : ∀ (s : Shared) (H : Hp) (C : Addr) (cl : List (Str × Addr)) (fp : List Addr), PD (X.blk s H scope (compEnvC scope cl C X.env) fp) L2.E0 elt m) (hx : ∀ j ∈ idx, j ∈ own.map (·.2) := by decide) (hx1 : ∀ j ∈ idx1, j ∈ vs1 := by decide) (hv : ∀ j ∈ vs1, j ∈ own.map (·.2) := by decide)
    (hs : ∀ x, foldedSetIterable it X.env x = pure x := by intro _; rfl) (hs1 : ∀ env x, foldedSetIterable it1 env x = pure x := by intro _ _; rfl) :
    PF X E (.ListComp elt [⟨tg, it, ifs, 0⟩, ⟨tg1, it1, ifs1, 0⟩] scope pos) (mLc2 (own.map (·.2)) mit bd ta vs1 mit1 bd1 ta1 m) :=
  PE.imp (pe_lc2 hc hN hi ok hv hg ht hi1 hg1 ht1 he hs hs1) fun _ _ _ => rd_lc2 hx hx1
theorem st_setLc2 (i : Nat) (own : List (Str × Nat)) (vs1 : List Nat) (hc : X.calm = true) (hN : X.N.Nodup) (hsw : swapsWith (.ListComp elt [⟨tg, it, ifs, 0⟩, ⟨tg1, it1, ifs1, 0⟩] scope p) (some (.Name x px)) pos.line X.env = pure true) (hi : PID X E tg it mit) (ok : BlkOk X.N X.env.scope scope own)
    (hg : ∀ (s : Shared) (H : Hp) (C : Addr) (cl : List (Str × Addr)) (fp : List Addr), PGD (X.blk s H scope (compEnvC scope cl C X.env) fp) tg bd idx) (ht : ∀ (s : Shared) (H : Hp) (C : Addr) (cl : List (Str × Addr)) (fp : List Addr), PTsD (X.blk s H scope (compEnvC scope cl C X.env) fp) L2.E0 ifs ta)
    (hi1 : ∀ (s : Shared) (H : Hp) (C : Addr) (cl : List (Str × Addr)) (fp : List Addr), PID (X.blk s H scope (compEnvC scope cl C X.env) fp) L2.E0 tg1 it1 mit1)
    (hg1 : ∀ (s : Shared) (H : Hp) (C : Addr) (cl : List (Str × Addr)) (fp : List Addr), PGD (X.blk s H scope (compEnvC scope cl C X.env) fp) tg1 bd1 idx1) (ht1 : ∀ (s : Shared) (H : Hp) (C : Addr) (cl : List (Str × Addr)) (fp : List Addr), PTsD (X.blk s H scope (compEnvC scope cl C X.env) fp) L2.E0 ifs1 ta1)
    (he : ∀ (s : Shared) (H : Hp) (C : Addr) (cl : List (Str × Addr)) (fp : List Addr), PD (X.blk s H scope (compEnvC scope cl C X.env) fp) L2.E0 elt m) (hx : ∀ j ∈ idx, j ∈ own.map (·.2) := by decide) (hx1 : ∀ j ∈ idx1, j ∈ vs1 := by decide) (hv : ∀ j ∈ vs1, j ∈ own.map (·.2) := by decide)
    (hy : X.N[i]? = some x := by rfl) (hyl : X.env.scope.names.lookup x = some .local := by rfl)
    (hs : ∀ x, foldedSetIterable it X.env x = pure x := by intro _; rfl) (hs1 : ∀ env x, foldedSetIterable it1 env x = pure x := by intro _ _; rfl) :
    PSD X E (.Assign [.Name x px] (.ListComp elt [⟨tg, it, ifs, 0⟩, ⟨tg1, it1, ifs1, 0⟩] scope p) pos) (mSetF i (mLc2 (own.map (·.2)) mit bd ta vs1 mit1 bd1 ta1 m)) :=
  PS.imp (ps_setLc2 hc hN hy hyl hsw hi ok hv hg ht hi1 hg1 ht1 he hs hs1) fun D σ H q => by
    have q := rd_setF q
    exact rd_lc2 (E1 := L2.E0) hx hx1 q
end
section
variable (s : S)
@[simp] theorem mLc2_ap (vs : List Nat) (it : M (List D)) (b : Bd) (t : M Bool) (vs1 : List Nat) (it1 : M (List D)) (b1 : Bd) (t1 : M Bool) (e : M D) : mLc2 vs it b t vs1 it1 b1 t1 e s = bnd it (fun ds => fun s => match lcL2 b t vs1 it1 b1 t1 e (wipeS s vs) ds s.c with
  | .ok out c => if lenOk out = true then .ok (.list out) c else .no
  | _ => .no) s := (rfl)
end
end Pu
end

noncomputable section
set_option Elab.async false
set_option linter.all false
set_option maxRecDepth 100000
set_option maxHeartbeats 4000000
/-! Pu, eleventh part: zip, enumerate, in, turned round, least and greatest. -/
namespace Pu
open PySem PySem.Spec L2
open RZ (ItzT iZipA pi_zipA)
section
variable {K : PySem.W.Frag} {mg : Str → Option Value} {E E1 : XK} {σ : L2.St} {H : Hp} {Q : VK}
def zipL (xs ys : List D) : List D := (xs.zip ys).map fun p => .tuple [p.1, p.2]
def zipD : List D → Option (List D)
  | [.list xs, .list ys] => some (zipL xs ys)
  | [.tuple xs, .tuple ys] => some (zipL xs ys)
  | _ => none
def mZip (m : M (List D)) : M (List D) := bnd m fun ds => lift (zipD ds)
theorem zipL_get {xs ys : List D} {i : Nat} {x y : D} (hx : xs[i]? = some x) (hy : ys[i]? = some y) : (zipL xs ys)[i]? = some (.tuple [x, y]) := by
  unfold zipL
  have : (xs.zip ys)[i]? = some (x, y) := List.getElem?_zip_eq_some.mpr ⟨hx, hy⟩
  rw [List.getElem?_map, this]
  rfl
theorem zipL_len (xs ys : List D) : (zipL xs ys).length = min xs.length ys.length := by simp [zipL]
theorem new_pair {F1 H1 : Hp} {T : Addr} {x y : V} {dx dy : D} (sb : Same F1 H1) (hT : H1 T = none) (rx : Rp K F1 x dx) (ry : Rp K F1 y dy) :
    ∃ F2, Go none F1 H1 F2 (upd H1 T (.tup [x, y])) ∧ Same F2 (upd H1 T (.tup [x, y])) ∧ Rp K F2 (.ref T) (.tuple [dx, dy]) := by
  obtain ⟨g, s, r⟩ := new_tup (K := K) (fr := ⟨none, F1, H1⟩) sb hT (.cons rx (.cons ry .nil))
  exact ⟨_, g, s, r⟩
theorem it_zipL {F : Hp} {a b : Addr} {vs ws : List V} {xs ys : List D} (h1 : F a = some (.lst vs)) (r1 : RpL K F vs xs) (h2 : F b = some (.lst ws)) (r2 : RpL K F ws ys) : ItOk K (Itz K a b) F (zipL xs ys) where
  go := fun F1 H1 i s1 s2 hi => by
    rw [zipL_len] at hi
    exact ⟨vs, ws, vs[i]'(by rw [r1.length]; omega), ws[i]'(by rw [r2.length]; omega), SqL.of (s2 _ _ (s1 _ _ h1)), SqL.of (s2 _ _ (s1 _ _ h2)), List.getElem?_eq_getElem _, List.getElem?_eq_getElem _⟩
  yl := fun F1 H1 i x H2 s1 s2 y hi => by
    obtain ⟨T, u, w, rfl, hT, rfl, k1, k2⟩ := y
    obtain ⟨d1, e1, q1⟩ := r1.getV i (k1 vs (SqL.of (s2 _ _ (s1 _ _ h1))))
    obtain ⟨d2, e2, q2⟩ := r2.getV i (k2 ws (SqL.of (s2 _ _ (s1 _ _ h2))))
    obtain ⟨F2, g, sb, r⟩ := new_pair s2 hT (q1.mono s1) (q2.mono s1)
    exact ⟨_, F2, zipL_get e1 e2, g, sb, r⟩
  st := fun F1 H1 s1 s2 => ⟨vs, ws, SqL.of (s2 _ _ (s1 _ _ h1)), SqL.of (s2 _ _ (s1 _ _ h2)), by rw [r1.length, r2.length, zipL_len]; omega⟩
theorem it_zipT {F : Hp} {a b : Addr} {vs ws : List V} {xs ys : List D} (h1 : F a = some (.tup vs)) (r1 : RpL K F vs xs) (h2 : F b = some (.tup ws)) (r2 : RpL K F ws ys) : ItOk K (ItzT K a b) F (zipL xs ys) where
  go := fun F1 H1 i s1 s2 hi => by
    rw [zipL_len] at hi
    exact ⟨vs, ws, vs[i]'(by rw [r1.length]; omega), ws[i]'(by rw [r2.length]; omega), SqT.of (s2 _ _ (s1 _ _ h1)), SqT.of (s2 _ _ (s1 _ _ h2)), List.getElem?_eq_getElem _, List.getElem?_eq_getElem _⟩
  yl := fun F1 H1 i x H2 s1 s2 y hi => by
    obtain ⟨T, u, w, rfl, hT, rfl, k1, k2⟩ := y
    obtain ⟨d1, e1, q1⟩ := r1.getV i (k1 vs (SqT.of (s2 _ _ (s1 _ _ h1))))
    obtain ⟨d2, e2, q2⟩ := r2.getV i (k2 ws (SqT.of (s2 _ _ (s1 _ _ h2))))
    obtain ⟨F2, g, sb, r⟩ := new_pair s2 hT (q1.mono s1) (q2.mono s1)
    exact ⟨_, F2, zipL_get e1 e2, g, sb, r⟩
  st := fun F1 H1 s1 s2 => ⟨vs, ws, SqT.of (s2 _ _ (s1 _ _ h1)), SqT.of (s2 _ _ (s1 _ _ h2)), by rw [r1.length, r2.length, zipL_len]; omega⟩
theorem rd_zip {m : M (List D)} {Q : It → Hp → Prop} (h : rdI K mg E (mZip m) σ H Q) : iZipA K (rdA K mg E m) σ H Q := by
  obtain ⟨fr, s, F, hs, q⟩ := h
  refine ⟨fr, s, F, hs, (Post.bnd q).mono fun ds c F' H' g sb cu q1 vs rv => ?_⟩
  obtain ⟨l, e, k⟩ := q1.lift
  have k := k F' H' (Go.refl _ _ _) sb cu
  unfold zipD at e
  split at e
  · cases e
    cases rv with
    | cons r1 rv =>
      cases rv with
      | cons r2 rv =>
        cases rv
        cases r1 with
        | lst h1 l1 =>
          cases r2 with
          | lst h2 l2 => exact ⟨_, _, _, _, rfl, .inl ⟨SqL.of (sb _ _ h1), SqL.of (sb _ _ h2), k _ (it_zipL h1 l1 h2 l2)⟩⟩
  · cases e
    cases rv with
    | cons r1 rv =>
      cases rv with
      | cons r2 rv =>
        cases rv
        cases r1 with
        | tup h1 l1 =>
          cases r2 with
          | tup h2 l2 => exact ⟨_, _, _, _, rfl, .inr ⟨SqT.of (sb _ _ h1), SqT.of (sb _ _ h2), k _ (it_zipT h1 l1 h2 l2)⟩⟩
  · cases e
/-- enumerate of a list -/
def enumL (xs : List D) : List D := (List.range xs.length).zipWith (fun i x => .tuple [.int (i : Nat), x]) xs
def enumD : List D → Option (List D)
  | [.list xs] => some (enumL xs)
  | _ => none
def mEnum (m : M (List D)) : M (List D) := bnd m fun ds => lift (enumD ds)
theorem enumL_get {xs : List D} {i : Nat} {x : D} (hx : xs[i]? = some x) : (enumL xs)[i]? = some (.tuple [.int (i : Nat), x]) := by
  have hi := (List.getElem?_eq_some_iff.mp hx).1
  unfold enumL
  rw [List.getElem?_zipWith, hx, List.getElem?_eq_getElem (by simpa using hi)]
  simp
theorem enumL_len (xs : List D) : (enumL xs).length = xs.length := by simp [enumL]
theorem it_enum {F : Hp} {a : Addr} {vs : List V} {xs : List D} (h1 : F a = some (.lst vs)) (r1 : RpL K F vs xs) : ItOk K (Ite K a) F (enumL xs) where
  go := fun F1 H1 i s1 s2 hi => by
    rw [enumL_len] at hi
    exact ⟨vs, vs[i]'(by rw [r1.length]; omega), SqL.of (s2 _ _ (s1 _ _ h1)), List.getElem?_eq_getElem _⟩
  yl := fun F1 H1 i x H2 s1 s2 y hi => by
    obtain ⟨T, u, rfl, hT, rfl, k1⟩ := y
    obtain ⟨d1, e1, q1⟩ := r1.getV i (k1 vs (SqL.of (s2 _ _ (s1 _ _ h1))))
    obtain ⟨F2, g, sb, r⟩ := new_pair (x := .int (i : Nat)) s2 hT (.int _) (q1.mono s1)
    exact ⟨_, F2, enumL_get e1, g, sb, r⟩
  st := fun F1 H1 s1 s2 => ⟨vs, SqL.of (s2 _ _ (s1 _ _ h1)), by rw [r1.length, enumL_len]; omega⟩
theorem rd_enum {m : M (List D)} {Q : It → Hp → Prop} (h : rdI K mg E (mEnum m) σ H Q) : iEnum K (rdA K mg E m) σ H Q := by
  obtain ⟨fr, s, F, hs, q⟩ := h
  refine ⟨fr, s, F, hs, (Post.bnd q).mono fun ds c F' H' g sb cu q1 vs rv => ?_⟩
  obtain ⟨l, e, k⟩ := q1.lift
  have k := k F' H' (Go.refl _ _ _) sb cu
  unfold enumD at e
  split at e
  · cases e
    cases rv with
    | cons r1 rv =>
      cases rv
      cases r1 with
      | lst h1 l1 => exact ⟨_, _, rfl, SqL.of (sb _ _ h1), k _ (it_enum h1 l1)⟩
  · cases e
end
section
variable {X : Cx} {E : XK} {a b e e2 : Expr} {es : List Expr} {ma mb m : M D} {mas : M (List D)} {pos p tpos : Pos} {x : Str} {kk : Nat} {elts : List Expr}
theorem i_zip (hm : X.mg "zip" = none) (ha : PAD X E [e, e2] mas) (hg : Gl X "zip" := by rfl) (hs : starEach [e, e2] X.env = (false, eval e X.env) :: starEach [e2] X.env := by rfl) (hpl : (backTo pos (starEach [e2] X.env)).any (·.1) = false := by rfl) :
    PID X E (.Tuple elts kk tpos) (.Call (.Name "zip" p) [e, e2] [] pos) (mZip mas) := PI.imp (pi_zipA hg hm ha hs hpl) fun _ _ _ => rd_zip
theorem i_enum (hm : X.mg "enumerate" = none) (ha : PAD X E [e] mas) (hg : Gl X "enumerate" := by rfl) (hs : starEach [e] X.env = [(false, eval e X.env)] := by rfl) :
    PID X E (.Tuple elts kk tpos) (.Call (.Name "enumerate" p) [e] [] pos) (mEnum mas) := PI.imp (pi_enum hg hm ha hs) fun _ _ _ => rd_enum
end
section
variable (s : S)
@[simp] theorem mZip_ap (m : M (List D)) : mZip m s = bnd m (fun ds => lift (zipD ds)) s := (rfl)
@[simp] theorem mEnum_ap (m : M (List D)) : mEnum m s = bnd m (fun ds => lift (enumD ds)) s := (rfl)
@[simp] theorem zipD_l (xs ys : List D) : zipD [.list xs, .list ys] = some (zipL xs ys) := (rfl)
@[simp] theorem zipD_t (xs ys : List D) : zipD [.tuple xs, .tuple ys] = some (zipL xs ys) := (rfl)
@[simp] theorem enumD_l (xs : List D) : enumD [.list xs] = some (enumL xs) := (rfl)
end
/-! ### a, b = e1, e2: all frozen -/
def mParE (i j : Nat) (m : M (List D)) : MS := fun s => mErr (m s) fun ds c => match ds with
  | [d, e] => .next (((s.wc c).up i (.fz d)).up j (.fz e))
  | _ => .no
def mParE3 (i j l : Nat) (m : M (List D)) : MS := fun s => mErr (m s) fun ds c => match ds with
  | [d, e, f] => .next ((((s.wc c).up i (.fz d)).up j (.fz e)).up l (.fz f))
  | _ => .no
section
variable {K : PySem.W.Frag} {mg : Str → Option Value} {E : XK} {σ : L2.St} {H : Hp} {D : Ends} {m : M (List Pu.D)}
theorem rd_parE {i j : Nat} (h : rdS K mg E (mParE i j m) D σ H) : tPar i j (rdA K mg E m) D σ H := by
  obtain ⟨fr, s, F, hs, q⟩ := h
  refine ⟨fr, s, F, hs, (post_of hs q).mono fun ds c F1 H1 g sb cu q1 vs r => ?_⟩
  have hs1 := hs.step g sb cu
  split at q1
  · cases r with
    | cons r1 r =>
      cases r with
      | cons r2 r =>
        cases r
        exact ⟨_, _, rfl, q1 _ _ _ ((hs1.putZ r1).putZ r2)⟩
  · exact q1.elim
theorem rd_parE3 {i j l : Nat} (h : rdS K mg E (mParE3 i j l m) D σ H) : tPar3 i j l (rdA K mg E m) D σ H := by
  obtain ⟨fr, s, F, hs, q⟩ := h
  refine ⟨fr, s, F, hs, (post_of hs q).mono fun ds c F1 H1 g sb cu q1 vs r => ?_⟩
  have hs1 := hs.step g sb cu
  split at q1
  · cases r with
    | cons r1 r =>
      cases r with
      | cons r2 r =>
        cases r with
        | cons r3 r =>
          cases r
          exact ⟨_, _, _, rfl, q1 _ _ _ (((hs1.putZ r1).putZ r2).putZ r3)⟩
  · exact q1.elim
end
section
variable {X : Cx} {E : XK} {a b c : Expr} {mas : M (List D)} {px py pz pt pos : Pos} {x y z : Str}
theorem st_parE {k k2 : Nat} {p2 : Pos} (i j : Nat) (hc : X.calm = true) (hN : X.N.Nodup) (hij : i ≠ j) (ha : PAD X E [a, b] mas) (hi : X.N[i]? = some x := by rfl) (hj : X.N[j]? = some y := by rfl)
    (hx : X.env.scope.names.lookup x = some .local := by rfl) (hy : X.env.scope.names.lookup y = some .local := by rfl)
    (hw : swappedStores [.Tuple [.Name x px, .Name y py] k pt] (.Tuple [a, b] k2 p2) X.env = pure (some [x, y]) := by rfl)
    (hs : swapsWithSole [.Tuple [.Name x px, .Name y py] k pt] (.Tuple [a, b] k2 p2) pos.line X.env = pure false := by rfl) :
    PSD X E (.Assign [.Tuple [.Name x px, .Name y py] k pt] (.Tuple [a, b] k2 p2) pos) (mParE i j mas) :=
  PS.imp (ps_par hc hN hi hj hij hx hy ha hw hs) fun _ _ _ => rd_parE
theorem st_parE3 {k k2 : Nat} {p2 : Pos} (i j l : Nat) (hc : X.calm = true) (hN : X.N.Nodup) (hij : i ≠ j) (hil : i ≠ l) (hjl : j ≠ l) (ha : PAD X E [a, b, c] mas) (hi : X.N[i]? = some x := by rfl) (hj : X.N[j]? = some y := by rfl) (hl : X.N[l]? = some z := by rfl)
    (hx : X.env.scope.names.lookup x = some .local := by rfl) (hy : X.env.scope.names.lookup y = some .local := by rfl) (hz : X.env.scope.names.lookup z = some .local := by rfl)
    (hw : swappedStores [.Tuple [.Name x px, .Name y py, .Name z pz] k pt] (.Tuple [a, b, c] k2 p2) X.env = pure (some [x, y, z]) := by rfl)
    (hs : swapsWithSole [.Tuple [.Name x px, .Name y py, .Name z pz] k pt] (.Tuple [a, b, c] k2 p2) pos.line X.env = pure false := by rfl) :
    PSD X E (.Assign [.Tuple [.Name x px, .Name y py, .Name z pz] k pt] (.Tuple [a, b, c] k2 p2) pos) (mParE3 i j l mas) :=
  PS.imp (ps_par3 hc hN hi hj hl hij hil hjl hx hy hz ha hw hs) fun _ _ _ => rd_parE3
end
section
variable (s : S)
@[simp] theorem mParE_ap (i j : Nat) (m : M (List D)) : mParE i j m s = mErr (m s) (fun ds c => match ds with
  | [d, e] => .next (((s.wc c).up i (.fz d)).up j (.fz e))
  | _ => .no) := (rfl)
@[simp] theorem mParE3_ap (i j l : Nat) (m : M (List D)) : mParE3 i j l m s = mErr (m s) (fun ds c => match ds with
  | [d, e, f] => .next ((((s.wc c).up i (.fz d)).up j (.fz e)).up l (.fz f))
  | _ => .no) := (rfl)
end
/-! ### in -/
def flatD : D → Bool
  | .none | .bool _ | .int _ | .str _ => true
  | _ => false
def sgOf : Str → Option Nat := fun a => match a.cps.toList with
  | [c] => some c
  | _ => none
theorem sgOf_ok {a : Str} {c : Nat} (h : sgOf a = some c) : a = ⟨#[c]⟩ := by
  unfold sgOf at h
  split at h
  · rename_i c' e
    cases h
    cases a with
    | mk cs =>
      have : cs = #[c] := by
        have e : cs.toList = [c] := e
        rw [← Array.toArray_toList (xs := cs), e]
      rw [this]
  · cases h
def inDb : D → D → Option Bool
  | .str a, .str z => (sgOf a).map fun c => decide (c ∈ cps z)
  | d, .list ds => if (SeqAt.shaped d && SeqAt.shaped (.list ds)) = true then some (ds.any fun z => PyData.eqv z d) else none
  | d, .tuple ds => if (flatD d && ds.all flatD) = true then some (ds.any fun z => PyData.eqv z d) else none
  | _, _ => none
def inD (d e : D) : Option D := (inDb d e).map .bool
def ninD (d e : D) : Option D := (inDb d e).map fun b => .bool (!b)
section
variable {K : PySem.W.Frag} {F H : Hp}
theorem flat_rp {v : V} {d : D} (h : flatD d = true) (r : Rp K F v d) : flatV v = true := by
  cases r <;> first | rfl | cases h
theorem flat_eq {v w : V} {d e : D} (h1 : flatD d = true) (h2 : flatD e = true) (r1 : Rp K F v d) (r2 : Rp K F w e) : eqV v w = PyData.eqv d e := by
  cases r1 <;> cases r2 <;> first | (simp [eqV, PyData.eqv]; done) | cases h1 | cases h2
theorem flat_any {w : V} {e : D} (he : flatD e = true) (r2 : Rp K F w e) : ∀ {vs : List V} {ds : List D}, RpL K F vs ds → ds.all flatD = true → vs.all flatV = true ∧ inV w vs = ds.any fun z => PyData.eqv z e
  | _, _, .nil, _ => ⟨rfl, rfl⟩
  | _, _, .cons r rs, h => by
    obtain ⟨h1, h2⟩ := Bool.and_eq_true_iff.mp (by simpa using h : (flatD _ && List.all _ flatD) = true)
    obtain ⟨k1, k2⟩ := flat_any he r2 rs h2
    refine ⟨by simp [flat_rp h1 r, k1], ?_⟩
    have e1 : ∀ (v : V) (vs : List V), inV w (v :: vs) = (eqV v w || inV w vs) := fun _ _ => rfl
    rw [e1, flat_eq h1 he r r2, k2]
    rfl
end
section
variable {X : Cx}
theorem RpB.flat {K : PySem.W.Frag} {pc : Option Addr} {F H : Hp} {v : V} {d : D} (h : RpB K pc F H v d) (hf : flatD d = true) : Rp K F v d := by
  rcases h with h | ⟨_, _, _, _, z, _⟩ | ⟨_, _, _, _, z, _⟩
  · exact h
  · rw [z] at hf; cases hf
  · rw [z] at hf; cases hf
theorem inDb_cases {d e : D} {b : Bool} (h : inDb d e = some b) : (∃ c z, d = .str ⟨#[c]⟩ ∧ e = .str z ∧ b = decide (c ∈ cps z)) ∨ (∃ ds, e = .list ds ∧ SeqAt.shaped d = true ∧ SeqAt.shaped (.list ds) = true ∧ b = ds.any fun z => PyData.eqv z d) ∨ (∃ ds, e = .tuple ds ∧ flatD d = true ∧ ds.all flatD = true ∧ b = ds.any fun z => PyData.eqv z d) := by
  unfold inDb at h
  split at h
  · rename_i a z
    cases q : sgOf a with
    | none => rw [q] at h; cases h
    | some c =>
      rw [q] at h
      cases h
      exact .inl ⟨c, _, by rw [sgOf_ok q], rfl, rfl⟩
  · split at h
    · rename_i hc
      cases h
      obtain ⟨h1, h2⟩ := Bool.and_eq_true_iff.mp hc
      exact .inr (.inl ⟨_, rfl, h1, h2, rfl⟩)
    · cases h
  · split at h
    · rename_i hc
      cases h
      obtain ⟨h1, h2⟩ := Bool.and_eq_true_iff.mp hc
      exact .inr (.inr ⟨_, rfl, h1, h2, rfl⟩)
    · cases h
  · cases h
theorem u65 {k : Nat} {A : Around} (r : Room k A) : A.units + 65 < cLine := by have := r.un; omega
theorem od_in (hu : X.A.units + 65 < cLine) : OpR X (compareOp .In) (rO2 X.K inD) := by
  refine OpR.imp (op_in_sign.or ((op_inD hu).or op_in_seq)) fun x y H Q ⟨pc, F, d, e, z, r1, r2, sb, h, q⟩ => ?_
  unfold inD at h
  cases hb : inDb d e with
  | none => rw [hb] at h; cases h
  | some b =>
    rw [hb] at h
    cases h
    have q' := q (.bl b) _ _ (Go.refl _ _ _) sb (.bl _)
    rcases inDb_cases hb with ⟨c, z, rfl, rfl, rfl⟩ | ⟨ds, rfl, h1, h2, rfl⟩ | ⟨ds, rfl, h1, h2, rfl⟩
    · exact .inl ⟨c, z, r1.str, r2.str, q'⟩
    · exact .inr (.inl ⟨d, ds, r1.dpH sb (shaped_plain h1), r2.dpH sb (shaped_plain h2), h1, h2, q'⟩)
    · obtain ⟨p, vs, rfl, k1, k2⟩ := r2.tuple
      obtain ⟨k3, k4⟩ := flat_any h1 (r1.flat h1) k2 h2
      exact .inr (.inr ⟨p, vs, rfl, .inr (SqT.of (sb _ _ k1)), flat_rp h1 (r1.flat h1), k3, by rw [k4]; exact q'⟩)
theorem od_nin (hu : X.A.units + 65 < cLine) : OpR X (compareOp .NotIn) (rO2 X.K ninD) := by
  refine OpR.imp (op_notIn_sign.or ((op_notInD hu).or op_notIn_seq)) fun x y H Q ⟨pc, F, d, e, z, r1, r2, sb, h, q⟩ => ?_
  unfold ninD at h
  cases hb : inDb d e with
  | none => rw [hb] at h; cases h
  | some b =>
    rw [hb] at h
    cases h
    have q' := q (.bl (!b)) _ _ (Go.refl _ _ _) sb (.bl _)
    rcases inDb_cases hb with ⟨c, z, rfl, rfl, rfl⟩ | ⟨ds, rfl, h1, h2, rfl⟩ | ⟨ds, rfl, h1, h2, rfl⟩
    · exact .inl ⟨c, z, r1.str, r2.str, q'⟩
    · exact .inr (.inl ⟨d, ds, r1.dpH sb (shaped_plain h1), r2.dpH sb (shaped_plain h2), h1, h2, q'⟩)
    · obtain ⟨p, vs, rfl, k1, k2⟩ := r2.tuple
      obtain ⟨k3, k4⟩ := flat_any h1 (r1.flat h1) k2 h2
      exact .inr (.inr ⟨p, vs, rfl, .inr (SqT.of (sb _ _ k1)), flat_rp h1 (r1.flat h1), k3, by rw [k4]; exact q'⟩)
end
end Pu
end

noncomputable section
set_option Elab.async false
set_option linter.all false
set_option maxRecDepth 100000
set_option maxHeartbeats 4000000
/-! Pu, twelfth part: sorted of any alike data, least and greatest of a list. -/
namespace Pu
open PySem PySem.Spec L2
section
variable {X : Cx} {pins : List (Addr × Obj)} {s : Shared} {σ : L2.St} {H : Hp}
theorem each_rel : ∀ {xs : List V} {us : List Value} {ds : List D}, Vals xs us → DpAll X.K H xs ds → PySem.W.EachIs (fun (v : Value) (b : V × D) => RelV b.1 v) us (xs.zip ds)
  | _, _, _, .nil, .nil => .nil
  | _, _, _, .cons r rs, .cons d ds => .cons r (each_rel rs ds)
theorem each_reads (I : Inv X pins σ H s) : ∀ {xs : List V} {us : List Value} {ds : List D}, Vals xs us → DpAll X.K H xs ds → PySem.W.EachIs (fun (v : Value) (b : V × D) => ∃ as, Reads s.heap v b.2 as) us (xs.zip ds)
  | _, _, _, .nil, .nil => .nil
  | _, _, _, .cons r rs, .cons d ds => .cons (Dp.reads I _ _ _ d r) (each_reads I rs ds)
theorem zip_snd : ∀ {xs : List V} {ds : List D}, DpAll X.K H xs ds → (xs.zip ds).map Prod.snd = ds
  | _, _, .nil => rfl
  | _, _, .cons _ r => by simp [zip_snd r]
theorem each_vals : ∀ {us : List Value} {ps : List (V × D)}, PySem.W.EachIs (fun (v : Value) (b : V × D) => RelV b.1 v) us ps → Vals (ps.map Prod.fst) us
  | _, _, .nil => .nil
  | _, _, .cons r rs => .cons r (each_vals rs)
def rSortDt (K : PySem.W.Frag) : List V → Hp → VK → Prop := fun vs H Q => ∃ (a : Addr) (xs : List V) (ds : List D), vs = [V.ref a] ∧ SqL K H a xs ∧ DpAll K H xs ds ∧ PySem.W.AllAlike ds ∧ PySem.W.Sortable ds ∧ (∀ d ∈ ds, d.depth ≤ 64) ∧
  ∀ (ps : List (V × D)) (p : Addr), ps.map Prod.snd = ds.mergeSort (PySem.W.dataLe false id) → (∀ q ∈ ps, q ∈ xs.zip ds) → H p = none → Q (.ref p) (upd H p (.lst (ps.map Prod.fst)))
theorem cr_sortDt (hu : X.A.units + 130 < cLine) : CallR X (.builtin "sorted") (rSortDt X.K) := by
  intro pins s σ H vs us Q I r h
  obtain ⟨a, xs, ds, rfl, hs, hd, ha, hk, hdep, q⟩ := h
  obtain ⟨its, rv, hl, hz⟩ := I.list hs
  rw [Vals.ref1 r]
  have em := zip_snd hd
  have hL : (xs.zip ds).length = ds.length := by have := congrArg List.length em; simpa using this
  have hxd : xs.length = ds.length := by
    have : ∀ {xs : List V} {ds : List D}, DpAll X.K H xs ds → xs.length = ds.length := fun {xs ds} h => by
      induction ds generalizing xs with
      | nil => cases h; rfl
      | cons d ds ih => cases h with | cons _ r => simp [ih r]
    exact this hd
  refine PySem.W.sorted_data (enc := Prod.snd) (R := fun (v : Value) (b : V × D) => RelV b.1 v) hl.isList (each_rel rv hd) (each_reads I rv hd) (by rw [em]; exact ha) (by rw [em]; exact hk) (by rw [hL, ← hxd]; exact hz) (fun b hb => ?_) fun out h1 h2 => ?_
  · have : b.2 ∈ ds := by rw [← em]; exact List.mem_map.mpr ⟨b, hb, rfl⟩
    have := hdep _ this
    omega
  obtain ⟨ep, he'⟩ := PyProof.Rows.sortedAll_at s.heap its out.toArray
  have k1 := each_vals h2
  have hlen : (((xs.zip ds).mergeSort (PySem.W.dataLe false Prod.snd)).map Prod.fst).length ≤ sizeLine := by
    rw [List.length_map, List.length_mergeSort, hL, ← hxd]
    exact hz
  refine ⟨.ref _, upd H (s.heap.objs.size + 1) (.lst (((xs.zip ds).mergeSort (PySem.W.dataLe false Prod.snd)).map Prod.fst)), I.laid (t' := s.toks) (fun _ _ => PyProof.Rows.sortedAll_old) (Nat.le_succ _) ⟨hlen, out, ep, k1, he'⟩, rfl, q _ _ ?_ ?_ (I.hok.fresh (Nat.le_succ _))⟩
  · rw [List.map_mergeSort (s := PySem.W.dataLe false id), em]
    intro a _ b _
    rfl
  · intro q hq
    exact (List.mergeSort_perm _ _).mem_iff.mp hq
end
def SortOk (ds : List D) : Prop := PySem.W.AllAlike ds ∧ PySem.W.Sortable ds ∧ plain.plainAll ds = true ∧ ∀ d ∈ ds, d.depth ≤ 64
theorem sortOk_ex : ∃ f : List D → Bool, ∀ ds, f ds = true ↔ SortOk ds := ⟨fun ds => @decide (SortOk ds) (Classical.propDecidable _), fun _ => @decide_eq_true_iff _ (Classical.propDecidable _)⟩
def sortOk : List D → Bool := Classical.choose sortOk_ex
theorem sortOk_i {ds : List D} : sortOk ds = true ↔ SortOk ds := Classical.choose_spec sortOk_ex ds
def srt (ds : List D) : List D := ds.mergeSort (PySem.W.dataLe false id)
def sortD : D → Option D
  | .list ds => if sortOk ds = true then some (.list (srt ds)) else none
  | _ => none
section
variable {X : Cx}
theorem u130 {k : Nat} {A : Around} (r : Room k A) : A.units + 130 < cLine := by have := r.un; omega
theorem RpL.zip {K : PySem.W.Frag} {F : Hp} : ∀ {vs : List V} {ds : List D}, RpL K F vs ds → ∀ q ∈ vs.zip ds, Rp K F q.1 q.2
  | _, _, .nil, q, h => by cases h
  | _, _, .cons r rs, q, h => by
    rcases List.mem_cons.mp h with rfl | h
    · exact r
    · exact RpL.zip rs q h
theorem RpL.unzip {K : PySem.W.Frag} {F : Hp} : ∀ {ps : List (V × D)}, (∀ q ∈ ps, Rp K F q.1 q.2) → RpL K F (ps.map Prod.fst) (ps.map Prod.snd)
  | [], _ => .nil
  | p :: ps, h => .cons (h p List.mem_cons_self) (RpL.unzip fun q hq => h q (List.mem_cons_of_mem _ hq))
theorem cd_sorted (hu : X.A.units + 130 < cLine) : CallR X (.builtin "sorted") (rC1 X.K sortD) := by
  refine CallR.imp (cr_sortDt hu) fun xs H Q ⟨x, e, pc, F, d, z, r, sb, h, q⟩ => ?_
  subst e
  unfold sortD at h
  split at h
  · split at h
    · rename_i ds hok
      cases h
      obtain ⟨h1, h2, h3, h4⟩ := sortOk_i.mp hok
      obtain ⟨p, vs, rfl, hq, k1⟩ := r.listF sb
      refine ⟨p, vs, ds, rfl, hq, RpL.dp h3 (k1.mono sb), h1, h2, h4, fun ps t em hm ht => ?_⟩
      have rr : RpL X.K F (ps.map Prod.fst) (srt ds) := by
        have := RpL.unzip (K := X.K) (F := F) (ps := ps) fun q hq => RpL.zip k1 q (hm q hq)
        rw [em] at this
        exact this
      obtain ⟨g, s2, r3⟩ := new_lst (K := X.K) sb ht rr
      exact q _ _ _ g s2 r3
    · cases h
  · cases h
theorem intsD_ok {K : PySem.W.Frag} {F : Hp} : ∀ {vs : List V} {ds : List D} {ns : List Int}, RpL K F vs ds → intsD ds = some ns → vs = ns.map V.int
  | _, _, _, .nil, e => by cases e; rfl
  | _, _, _, .cons (d := d) (ds := ds) h r, e => by
    cases d with
    | int x =>
      have e : (intsD ds).map (x :: ·) = some _ := e
      cases er : intsD ds with
      | none => rw [er] at e; cases e
      | some zs =>
        rw [er] at e
        cases e
        cases h
        rw [intsD_ok r er]
        rfl
    | none => cases e
    | bool _ => cases e
    | str _ => cases e
    | list _ => cases e
    | tuple _ => cases e
    | dict _ => cases e
/-- least and greatest -/
def leastI : List Int → Option Int
  | [] => none
  | x :: xs => some (xs.foldl min x)
def mostI : List Int → Option Int
  | [] => none
  | x :: xs => some (xs.foldl max x)
theorem foldl_min (xs : List Int) : ∀ x : Int, (xs.foldl min x = x ∨ xs.foldl min x ∈ xs) ∧ xs.foldl min x ≤ x ∧ ∀ y ∈ xs, xs.foldl min x ≤ y := by
  induction xs with
  | nil => intro x; exact ⟨.inl rfl, Int.le_refl _, fun _ h => by cases h⟩
  | cons a xs ih =>
    intro x
    obtain ⟨h1, h2, h3⟩ := ih (min x a)
    have hm : min x a ≤ x ∧ min x a ≤ a ∧ (min x a = x ∨ min x a = a) := by omega
    refine ⟨?_, by simp only [List.foldl_cons]; omega, fun y hy => ?_⟩
    · simp only [List.foldl_cons, List.mem_cons]
      rcases h1 with h1 | h1
      · rcases hm.2.2 with e | e
        · exact .inl (h1.trans e)
        · exact .inr (.inl (h1.trans e))
      · exact .inr (.inr h1)
    · simp only [List.foldl_cons]
      rcases List.mem_cons.mp hy with rfl | hy
      · omega
      · exact h3 y hy
theorem foldl_max (xs : List Int) : ∀ x : Int, (xs.foldl max x = x ∨ xs.foldl max x ∈ xs) ∧ x ≤ xs.foldl max x ∧ ∀ y ∈ xs, y ≤ xs.foldl max x := by
  induction xs with
  | nil => intro x; exact ⟨.inl rfl, Int.le_refl _, fun _ h => by cases h⟩
  | cons a xs ih =>
    intro x
    obtain ⟨h1, h2, h3⟩ := ih (max x a)
    have hm : x ≤ max x a ∧ a ≤ max x a ∧ (max x a = x ∨ max x a = a) := by omega
    refine ⟨?_, by simp only [List.foldl_cons]; omega, fun y hy => ?_⟩
    · simp only [List.foldl_cons, List.mem_cons]
      rcases h1 with h1 | h1
      · rcases hm.2.2 with e | e
        · exact .inl (h1.trans e)
        · exact .inr (.inl (h1.trans e))
      · exact .inr (.inr h1)
    · simp only [List.foldl_cons]
      rcases List.mem_cons.mp hy with rfl | hy
      · omega
      · exact h3 y hy
theorem leastI_ok {ns : List Int} {m : Int} (h : leastI ns = some m) : m ∈ ns ∧ ∀ y ∈ ns, m ≤ y := by
  cases ns with
  | nil => cases h
  | cons x xs =>
    cases h
    obtain ⟨h1, h2, h3⟩ := foldl_min xs x
    refine ⟨List.mem_cons.mpr h1, fun y hy => ?_⟩
    rcases List.mem_cons.mp hy with rfl | hy
    · exact h2
    · exact h3 y hy
theorem mostI_ok {ns : List Int} {m : Int} (h : mostI ns = some m) : m ∈ ns ∧ ∀ y ∈ ns, y ≤ m := by
  cases ns with
  | nil => cases h
  | cons x xs =>
    cases h
    obtain ⟨h1, h2, h3⟩ := foldl_max xs x
    refine ⟨List.mem_cons.mpr h1, fun y hy => ?_⟩
    rcases List.mem_cons.mp hy with rfl | hy
    · exact h2
    · exact h3 y hy
def minLD : D → Option D
  | .list ds => ((intsD ds).bind leastI).map .int
  | _ => none
def maxLD : D → Option D
  | .list ds => ((intsD ds).bind mostI).map .int
  | _ => none
theorem cd_minL (hc : X.calm = true) : CallR X (.builtin "min") (rC1 X.K minLD) := by
  refine CallR.imp (cr_min hc) fun xs H Q ⟨x, e, pc, F, d, z, r, sb, h, q⟩ => ?_
  subst e
  unfold minLD at h
  split at h
  · rename_i ds
    cases ei : intsD ds with
    | none => rw [ei] at h; cases h
    | some ns =>
      rw [ei] at h
      cases el : leastI ns with
      | none => rw [show (some ns).bind leastI = leastI ns from rfl, el] at h; cases h
      | some m =>
        rw [show (some ns).bind leastI = leastI ns from rfl, el] at h
        cases h
        obtain ⟨p, vs, rfl, hq, k1⟩ := r.listF sb
        obtain ⟨h1, h2⟩ := leastI_ok el
        refine ⟨p, ns, rfl, by rw [← intsD_ok k1 ei]; exact hq, List.length_pos_of_mem h1, fun m' hm' hall => ?_⟩
        have : m' = m := Int.le_antisymm (hall m h1) (h2 m' hm')
        rw [this]
        exact q _ _ _ (Go.refl _ _ _) sb (.int _)
  · cases h
theorem cd_maxL (hc : X.calm = true) : CallR X (.builtin "max") (rC1 X.K maxLD) := by
  refine CallR.imp (cr_max hc) fun xs H Q ⟨x, e, pc, F, d, z, r, sb, h, q⟩ => ?_
  subst e
  unfold maxLD at h
  split at h
  · rename_i ds
    cases ei : intsD ds with
    | none => rw [ei] at h; cases h
    | some ns =>
      rw [ei] at h
      cases el : mostI ns with
      | none => rw [show (some ns).bind mostI = mostI ns from rfl, el] at h; cases h
      | some m =>
        rw [show (some ns).bind mostI = mostI ns from rfl, el] at h
        cases h
        obtain ⟨p, vs, rfl, hq, k1⟩ := r.listF sb
        obtain ⟨h1, h2⟩ := mostI_ok el
        refine ⟨p, ns, rfl, by rw [← intsD_ok k1 ei]; exact hq, List.length_pos_of_mem h1, fun m' hm' hall => ?_⟩
        have : m' = m := Int.le_antisymm (h2 m' hm') (hall m h1)
        rw [this]
        exact q _ _ _ (Go.refl _ _ _) sb (.int _)
  · cases h
end
section
variable {X : Cx} {E : XK} {a b : Expr} {ma mb : M D} {pos : Pos} {g : D → D → Option D}
theorem pf_cmpN {op : CmpOp} (hm : behindInMarks op b = false) (ho : OpR X (compareOp op) (rO2 X.K g)) (ha : PB X E a ma) (hb : PB X E b mb) : PF X E (.Compare a [op] [b] pos) (m2 g ma mb) := pf_cmp ho ha hb hm
end
section
@[simp] theorem sortD_l {ds : List D} (h : sortOk ds = true) : sortD (.list ds) = some (.list (srt ds)) := if_pos h
@[simp] theorem minLD_l (ds : List D) : minLD (.list ds) = ((intsD ds).bind leastI).map .int := (rfl)
@[simp] theorem maxLD_l (ds : List D) : maxLD (.list ds) = ((intsD ds).bind mostI).map .int := (rfl)
@[simp] theorem inD_ap (d e : D) : inD d e = (inDb d e).map .bool := (rfl)
@[simp] theorem ninD_ap (d e : D) : ninD d e = (inDb d e).map (fun b => .bool (!b)) := (rfl)
end
end Pu
end

noncomputable section
set_option Elab.async false
set_option linter.all false
set_option maxRecDepth 100000
set_option maxHeartbeats 8000000
/-! PuC0: meanings of the defs that two laws or more share (printed by gencom.py). -/
namespace Pu
open PySem PySem.Spec L2
abbrev fuel : Nat := 200000
def b_wall : MS := (mWhile fuel (mB (rt (.bool true))) mNext)
def phi_wall (ds : List D) : O := fin (b_wall ⟨(0, 0), st0 1 ds⟩)
def b_is_whole : MS := (mRet (mAndV (m1 isIntD (slB 0)) (mNotV (m1 isBoolD (slB 0)))))
def phi_is_whole (ds : List D) : O := fin (b_is_whole ⟨(0, 0), st0 1 ds⟩)
def b_fits_whole : MS := (mRet (mAndV (mCall phi_is_whole (aCons (slE 0) aNil)) (mChain leD leD (slB 1) (slB 0) (slB 2))))
def phi_fits_whole (ds : List D) : O := fin (b_fits_whole ⟨(0, 0), st0 3 ds⟩)
def b_is_tuple_of : MS := (mRet (mAndV (m1 isTupD (slB 0)) (mChain leD leD (slB 1) (m1 lenD (slB 0)) (slB 2))))
def phi_is_tuple_of (ds : List D) : O := fin (b_is_tuple_of ⟨(0, 0), st0 3 ds⟩)
abbrev L_SIZES : List (Str × Int) := [("s", 4), ("h", 2), ("t", 3), ("q", 1)]
def b_fits_sign : MS := (mRet (mAndV (m1 isStrD (slB 0)) (m1 (wInD L_SIZES) (slB 0))))
def phi_fits_sign (ds : List D) : O := fin (b_fits_sign ⟨(0, 0), st0 1 ds⟩)
def b_fits_course : MS := (mSeq (mIfS (mOr (mNot (mB (m1 isStrD (slB 0)))) (mOr (mNot (mB (mChain leD leD (rt (.int 1)) (m1 lenD (slB 0)) (rt (.int 24))))) (mNot (mB (m1 allD (mLc [1] (mI iterD (slE 0)) (bName 1) mYes (m1 (wInD L_SIZES) (slB 1)))))))) (mRet (rt (.bool false))) mNext) (mRet (m2 leD (m1 sumD (mLc [1] (mI iterD (slE 0)) (bName 1) mYes (m1 (wgD L_SIZES) (slB 1)))) (rt (.int 60)))))
def phi_fits_course (ds : List D) : O := fin (b_fits_course ⟨(0, 0), st0 2 ds⟩)
def b_length_in : MS := (mRet (m1 sumD (mLc [1] (mI iterD (slE 0)) (bName 1) mYes (m1 (wgD L_SIZES) (slB 1)))))
def phi_length_in (ds : List D) : O := fin (b_length_in ⟨(0, 0), st0 2 ds⟩)
def b_fits_front : MS := (mSeq (mIfS (mOr (mNot (mB (mCall phi_is_tuple_of (aCons (slE 0) (aCons (rt (.int 1)) (aCons (rt (.int 24)) aNil)))))) (mNot (mB (m1 allD (mLc [1] (mI iterD (slE 0)) (bName 1) mYes (mCall phi_fits_course (aCons (slE 1) aNil))))))) (mRet (rt (.bool false))) mNext) (mRet (m1 allD (mLc [1] (mI iterD (slE 0)) (bName 1) mYes (m2 eqD (mCall phi_length_in (aCons (slE 1) aNil)) (mCall phi_length_in (aCons (m2 ixD (slB 0) (rt (.int 0))) aNil)))))))
def phi_fits_front (ds : List D) : O := fin (b_fits_front ⟨(0, 0), st0 2 ds⟩)
def b_need_course : MS := (mIfS (mNot (mB (mCall phi_fits_course (aCons (slE 0) aNil)))) mNo mNext)
def phi_need_course (ds : List D) : O := fin (b_need_course ⟨(0, 0), st0 1 ds⟩)
def b_need_front : MS := (mIfS (mNot (mB (mCall phi_fits_front (aCons (slE 0) aNil)))) mNo mNext)
def phi_need_front (ds : List D) : O := fin (b_need_front ⟨(0, 0), st0 1 ds⟩)
def b_need_lap : MS := (mIfS (mNot (mB (mCall phi_fits_whole (aCons (slE 0) (aCons (rt (.int 1)) (aCons (rt (.int 4)) aNil)))))) mNo mNext)
def phi_need_lap (ds : List D) : O := fin (b_need_lap ⟨(0, 0), st0 1 ds⟩)
def b_joints_in : MS := (mSeq (mPar 1 2 (mLst aNil) (rt (.int 0))) (mSeq (mFor (bName 3) (mI iterD (mSl (slB 0) pNo (pAt (m1 negD (rt (.int 1)))))) (mSeq (mSetF 2 (m2 addD (slB 2) (m1 (wgD L_SIZES) (slB 3)))) (mApp 1 (slE 2)))) (mFrz 1 (mRet (slE 1)))))
def phi_joints_in (ds : List D) : O := fin (b_joints_in ⟨(0, 0), st0 4 ds⟩)
def b_lap_in : MS := (mSeq (mSetF 2 (mLc2 [3, 4] (mI iterD (mCall phi_joints_in (aCons (slE 0) aNil))) (bName 3) mYes [4] (mI iterD (mCall phi_joints_in (aCons (slE 1) aNil))) (bName 4) mYes (m1 absD (m2 subD (slB 3) (slB 4))))) (mRet (mIf (mB (m2 neD (slB 2) (mLst aNil))) (m1 minLD (slB 2)) (rt .none))))
def phi_lap_in (ds : List D) : O := fin (b_lap_in ⟨(0, 0), st0 5 ds⟩)
def b_bonds_in : MS := (mSeq (mSetE 3 (mCall phi_lap_in (aCons (slE 0) (aCons (slE 1) aNil)))) (mRet (mOrV (m2 isD (slB 3) (rt .none)) (m2 geD (slB 3) (slB 2)))))
def phi_bonds_in (ds : List D) : O := fin (b_bonds_in ⟨(0, 0), st0 4 ds⟩)
def b_length_of : MS := (mSeq (mDrop (mCall phi_need_course (aCons (slE 0) aNil))) (mRet (mCall phi_length_in (aCons (slE 0) aNil))))
def phi_length_of (ds : List D) : O := fin (b_length_of ⟨(0, 0), st0 1 ds⟩)
def b_is_bonded : MS := (mSeq (mDrop (mCall phi_need_front (aCons (slE 0) aNil))) (mSeq (mDrop (mCall phi_need_lap (aCons (slE 1) aNil))) (mRet (m1 allD (mLc [2, 3] (mZip (aCons (slE 0) (aCons (mSl (slB 0) (pAt (rt (.int 1))) pNo) aNil))) (bTup [(bName 2), (bName 3)]) mYes (mCall phi_bonds_in (aCons (slE 2) (aCons (slE 3) (aCons (slE 1) aNil)))))))))
def phi_is_bonded (ds : List D) : O := fin (b_is_bonded ⟨(0, 0), st0 4 ds⟩)
def b_upper_in : MS := (mRet (mIf (mB (m2 neD (m2 ixD (slB 0) (rt (.int 2))) (mTup aNil))) (m2 ixD (m2 ixD (slB 0) (rt (.int 2))) (m1 negD (rt (.int 1)))) (rt (.str ""))))
def phi_upper_in (ds : List D) : O := fin (b_upper_in ⟨(0, 0), st0 1 ds⟩)
def b_near_in : MS := (mSeq (mBind (bTup [(bName 2), (bName 3), (bName 4), (bName 5)]) (slE 0)) (mSeq (mSetF 6 (m2 addD (mCall phi_length_in (aCons (slE 5) aNil)) (m1 (wgD L_SIZES) (slB 1)))) (mSeq (mIfS (mOr (mB (m2 eqD (slB 6) (slB 2))) (mB (m2 eqD (slB 4) (mTup aNil)))) (mRet (rt (.bool false))) mNext) (mRet (m1 anyD (mLc [7] (mI iterD (mCall phi_joints_in (aCons (mCall phi_upper_in (aCons (slE 0) aNil)) aNil))) (bName 7) mYes (m2 ltD (m1 absD (m2 subD (slB 6) (slB 7))) (slB 3))))))))
def phi_near_in (ds : List D) : O := fin (b_near_in ⟨(0, 0), st0 8 ds⟩)
def b_told_behind : MS := (mRet (mIf (mB (m2 inD (m2 ixD (slB 1) (rt (.int 0))) (mTup (aCons (rt (.str "lay")) (aCons (rt (.str "lift")) (aCons (rt (.str "clear")) aNil)))))) (mCall phi_length_in (aCons (m2 ixD (slB 0) (rt (.int 3))) aNil)) (m1 lenD (m2 ixD (slB 0) (rt (.int 2))))))
def phi_told_behind (ds : List D) : O := fin (b_told_behind ⟨(0, 0), st0 2 ds⟩)
def b_law_some (phi_law_roll : Int × Int → List D → R D) : MS := (mRet (m2 ixD (slB 1) (mCallC 0 phi_law_roll (aCons (m1 lenD (slB 1)) aNil))))
def phi_law_some (phi_law_roll : Int × Int → List D → R D) (c : Int × Int) (ds : List D) : R D := finC (b_law_some phi_law_roll ⟨c, .cup :: st0 1 ds⟩)
def b_law_same (rec : List D → O) : MS := (mSeq (mIfS (mB (m1 isTupD (slB 1))) (mSeq (mIfS (mOr (mNot (mB (m1 isTupD (slB 0)))) (mB (m2 neD (m1 lenD (slB 0)) (m1 lenD (slB 1))))) (mRet (rt (.bool false))) mNext) (mRet (m1 allD (mLc [2] (mI rng1D (m1 lenD (slB 1))) (bName 2) mYes (mCall rec (aCons (m2 ixD (slB 0) (slB 2)) (aCons (m2 ixD (slB 1) (slB 2)) aNil))))))) mNext) (mSeq (mIfS (mB (m2 isD (slB 1) (rt .none))) (mRet (m2 isD (slB 0) (rt .none))) mNext) (mSeq (mIfS (mB (m1 isBoolD (slB 1))) (mRet (mIf (mB (slB 1)) (m2 isD (slB 0) (rt (.bool true))) (m2 isD (slB 0) (rt (.bool false))))) mNext) (mSeq (mIfS (mB (m1 isIntD (slB 1))) (mRet (mAndV (m1 isIntD (slB 0)) (mAndV (mNotV (m1 isBoolD (slB 0))) (m2 eqD (m1 intD (slB 0)) (slB 1))))) mNext) (mRet (mAndV (m1 isStrD (slB 0)) (m2 eqD (m1 strD (slB 0)) (slB 1))))))))
def phi_law_same_ : Nat → List D → O
  | 0 => fun _ => .no
  | k + 1 => fun ds => fin (b_law_same (phi_law_same_ k) ⟨(0, 0), st0 3 ds⟩)
abbrev phi_law_same : List D → O := phi_law_same_ 8
def b_law_size : MS := (mRet (m1 sumD (mLc [1] (mI iterD (slE 0)) (bName 1) mYes (m2 dgD (rt (litD [("s", 4), ("t", 3), ("h", 2), ("q", 1)])) (slB 1)))))
def phi_law_size (ds : List D) : O := fin (b_law_size ⟨(0, 0), st0 2 ds⟩)
def b_law_joints : MS := (mRet (mLc [1] (mR2 (rt (.int 1)) (m1 lenD (slB 0))) (bName 1) mYes (mCall phi_law_size (aCons (mSl (slB 0) pNo (pAt (slB 1))) aNil))))
def phi_law_joints (ds : List D) : O := fin (b_law_joints ⟨(0, 0), st0 2 ds⟩)
def b_fits_lot : MS := (mSeq (mIfS (mOr (mNot (mB (mCall phi_is_tuple_of (aCons (slE 0) (aCons (rt (.int 4)) (aCons (rt (.int 4)) aNil)))))) (mNot (mB (m1 allD (mLc [1] (mI iterD (slE 0)) (bName 1) mYes (mCall phi_fits_whole (aCons (slE 1) (aCons (rt (.int 0)) (aCons (rt (.int 60)) aNil))))))))) (mRet (rt (.bool false))) mNext) (mRet (m2 gtD (m1 sumD (slB 0)) (rt (.int 0)))))
def phi_fits_lot (ds : List D) : O := fin (b_fits_lot ⟨(0, 0), st0 2 ds⟩)
def b_need_lot : MS := (mIfS (mNot (mB (mCall phi_fits_lot (aCons (slE 0) aNil)))) mNo mNext)
def phi_need_lot (ds : List D) : O := fin (b_need_lot ⟨(0, 0), st0 1 ds⟩)
def b_need_length : MS := (mIfS (mNot (mB (mCall phi_fits_whole (aCons (slE 0) (aCons (rt (.int 1)) (aCons (rt (.int 24)) aNil)))))) mNo mNext)
def phi_need_length (ds : List D) : O := fin (b_need_length ⟨(0, 0), st0 1 ds⟩)
def b_less : MS := (mSeq (mSetF 2 (m1 tupD (mLc [3, 4] (mZip (aCons (slE 0) (aCons (slE 1) aNil))) (bTup [(bName 3), (bName 4)]) mYes (m2 subD (slB 3) (slB 4))))) (mRet (mIf (mB (m2 geD (m1 minLD (slB 2)) (rt (.int 0)))) (slE 2) (rt .none))))
def phi_less (ds : List D) : O := fin (b_less ⟨(0, 0), st0 5 ds⟩)
def b_law_row (phi_law_roll : Int × Int → List D → R D) : MS := (mSeq (mBind (bTup [(bName 2), (bName 3)]) (mTup (aCons (rt (.str "")) (aCons (slE 1) aNil)))) (mSeq (mWhile fuel (mB (m2 gtD (slB 3) (rt (.int 0)))) (mSeq (mSetE 4 (mCallC 0 (phi_law_some phi_law_roll) (aCons (mLc [5] (mI iterD (rt (.str "shtq"))) (bName 5) (mB (m2 leD (mCall phi_law_size (aCons (slE 5) aNil)) (slB 3))) (slE 5)) aNil))) (mFrz 4 (mBind (bTup [(bName 2), (bName 3)]) (mTup (aCons (m2 addD (slB 2) (slB 4)) (aCons (m2 subD (slB 3) (mCall phi_law_size (aCons (slE 4) aNil))) aNil))))))) (mRet (slE 2))))
def phi_law_row (phi_law_roll : Int × Int → List D → R D) (c : Int × Int) (ds : List D) : R D := finC (b_law_row phi_law_roll ⟨c, .cup :: st0 5 ds⟩)
def b_law_front (phi_law_roll : Int × Int → List D → R D) : MS := (mSeq (mSetF 3 (m2 addD (rt (.int 1)) (mCallC 0 phi_law_roll (aCons (slE 2) aNil)))) (mRet (m1 tupD (mLc [4] (mI rng1D (m2 addD (rt (.int 1)) (mCallC 0 phi_law_roll (aCons (slE 1) aNil)))) (bName 4) mYes (mCallC 0 (phi_law_row phi_law_roll) (aCons (slE 3) aNil))))))
def phi_law_front (phi_law_roll : Int × Int → List D → R D) (c : Int × Int) (ds : List D) : R D := finC (b_law_front phi_law_roll ⟨c, .cup :: st0 4 ds⟩)
def b_law_bond : MS := (mSeq (mSetE 3 (mCall phi_law_joints (aCons (slE 1) aNil))) (mSeq (mFor (bName 4) (mI iterD (mCall phi_law_joints (aCons (slE 0) aNil))) (mFrz 3 (mIfS (mB (m2 neD (mLc [5] (mI iterD (slE 3)) (bName 5) (mB (m2 ltD (m2 max2D (m2 subD (slB 4) (slB 5)) (m2 subD (slB 5) (slB 4))) (slB 2))) (slE 5)) (mLst aNil))) (mRet (rt (.bool false))) mNext))) (mRet (rt (.bool true)))))
def phi_law_bond (ds : List D) : O := fin (b_law_bond ⟨(0, 0), st0 6 ds⟩)
def b_need_few : MS := (mIfS (mB (m2 gtD (m1 sumD (slB 0)) (rt (.int 10)))) mNo mNext)
def phi_need_few (ds : List D) : O := fin (b_need_few ⟨(0, 0), st0 1 ds⟩)
def b_fits_brick : MS := (mSeq (mIfS (mOr (mNot (mB (mCall phi_is_tuple_of (aCons (slE 1) (aCons (rt (.int 2)) (aCons (rt (.int 2)) aNil)))))) (mNot (mB (mCall phi_fits_whole (aCons (m2 ixD (slB 1) (rt (.int 0))) (aCons (rt (.int 0)) (aCons (m2 subD (m1 lenD (slB 0)) (rt (.int 1))) aNil))))))) (mRet (rt (.bool false))) mNext) (mRet (mCall phi_fits_whole (aCons (m2 ixD (slB 1) (rt (.int 1))) (aCons (rt (.int 0)) (aCons (m2 subD (m1 lenD (m2 ixD (slB 0) (m2 ixD (slB 1) (rt (.int 0))))) (rt (.int 1))) aNil))))))
def phi_fits_brick (ds : List D) : O := fin (b_fits_brick ⟨(0, 0), st0 2 ds⟩)
def b_need_brick : MS := (mSeq (mDrop (mCall phi_need_front (aCons (slE 0) aNil))) (mIfS (mNot (mB (mCall phi_fits_brick (aCons (slE 0) (aCons (slE 1) aNil))))) mNo mNext))
def phi_need_brick (ds : List D) : O := fin (b_need_brick ⟨(0, 0), st0 2 ds⟩)
def b_bricks_in : MS := (mRet (mLc2 [1, 2, 3] (mEnum (aCons (slE 0) aNil)) (bTup [(bName 1), (bName 2)]) mYes [3] (mI rng1D (m1 lenD (slB 2))) (bName 3) mYes (mTup (aCons (slE 1) (aCons (slE 3) aNil)))))
def phi_bricks_in (ds : List D) : O := fin (b_bricks_in ⟨(0, 0), st0 4 ds⟩)
def b_is_brick : MS := (mSeq (mDrop (mCall phi_need_front (aCons (slE 0) aNil))) (mRet (mCall phi_fits_brick (aCons (slE 0) (aCons (slE 1) aNil)))))
def phi_is_brick (ds : List D) : O := fin (b_is_brick ⟨(0, 0), st0 2 ds⟩)
def b_law_bricks : MS := (mSeq (mSetF 1 (mLst aNil)) (mSeq (mFor (bName 2) (mI rng1D (m1 lenD (slB 0))) (mSeq (mSetE 3 (m2 ixD (slB 0) (slB 2))) (mFor (bName 4) (mI rng1D (m1 lenD (slB 3))) (mApp 1 (mTup (aCons (slE 2) (aCons (slE 4) (aCons (mCall phi_law_size (aCons (mSl (slB 3) pNo (pAt (slB 4))) aNil)) (aCons (mCall phi_law_size (aCons (mSl (slB 3) pNo (pAt (m2 addD (slB 4) (rt (.int 1))))) aNil)) aNil))))))))) (mFrz 1 (mRet (slE 1)))))
def phi_law_bricks (ds : List D) : O := fin (b_law_bricks ⟨(0, 0), st0 5 ds⟩)
def b_divisor : MS := (mSeq (mWhile fuel (mB (m2 neD (slB 1) (rt (.int 0)))) (mParE 0 1 (aCons (slE 1) (aCons (m2 modD (slB 0) (slB 1)) aNil)))) (mRet (slE 0)))
def phi_divisor (ds : List D) : O := fin (b_divisor ⟨(0, 0), st0 2 ds⟩)
def b_least_in : MS := (mSeq (mSetF 1 (m1 lenD (slB 0))) (mSeq (mSetF 2 (mLc [3] (mR2 (rt (.int 1)) (m2 addD (slB 1) (rt (.int 1)))) (bName 3) (mAnd (mB (m2 eqD (m2 modD (slB 1) (slB 3)) (rt (.int 0)))) (mB (m2 eqD (m2 mulD (mSl (slB 0) pNo (pAt (slB 3))) (m2 fdivD (slB 1) (slB 3))) (slB 0)))) (slE 3))) (mRet (mSl (slB 0) pNo (pAt (m2 ixD (slB 2) (rt (.int 0))))))))
def phi_least_in (ds : List D) : O := fin (b_least_in ⟨(0, 0), st0 4 ds⟩)
def b_sum_in : MS := (mRet (mCall phi_least_in (aCons (m2 addD (m2 mulD (m2 ixD (slB 0) (rt (.int 0))) (m2 ixD (slB 1) (rt (.int 1)))) (m2 mulD (m2 ixD (slB 1) (rt (.int 0))) (m2 ixD (slB 0) (rt (.int 1))))) (aCons (m2 mulD (m2 ixD (slB 0) (rt (.int 1))) (m2 ixD (slB 1) (rt (.int 1)))) aNil))))
def phi_sum_in (ds : List D) : O := fin (b_sum_in ⟨(0, 0), st0 2 ds⟩)
def b_is_rising : MS := (mRet (m1 allD (mLc [1, 2] (mZip (aCons (slE 0) (aCons (mSl (slB 0) (pAt (rt (.int 1))) pNo) aNil))) (bTup [(bName 1), (bName 2)]) mYes (m2 ltD (slB 1) (slB 2)))))
def phi_is_rising (ds : List D) : O := fin (b_is_rising ⟨(0, 0), st0 3 ds⟩)
def b_fits_bricks : MS := (mRet (mAndV (m1 isTupD (slB 1)) (mAndV (m1 allD (mLc [2] (mI iterD (slE 1)) (bName 2) mYes (mCall phi_fits_brick (aCons (slE 0) (aCons (slE 2) aNil))))) (mBd (mCall phi_is_rising (aCons (slE 1) aNil))))))
def phi_fits_bricks (ds : List D) : O := fin (b_fits_bricks ⟨(0, 0), st0 3 ds⟩)
def b_need_bricks : MS := (mSeq (mDrop (mCall phi_need_front (aCons (slE 0) aNil))) (mIfS (mNot (mB (mCall phi_fits_bricks (aCons (slE 0) (aCons (slE 1) aNil))))) mNo mNext))
def phi_need_bricks (ds : List D) : O := fin (b_need_bricks ⟨(0, 0), st0 2 ds⟩)
def b_need_share : MS := (mIfS (mNot (mB (mCall phi_fits_whole (aCons (slE 0) (aCons (rt (.int 1)) (aCons (rt (.int 4)) aNil)))))) mNo mNext)
def phi_need_share (ds : List D) : O := fin (b_need_share ⟨(0, 0), st0 1 ds⟩)
def b_need_gauge : MS := (mSeq (mIfS (mNot (mB (mCall phi_fits_whole (aCons (slE 0) (aCons (rt (.int 1)) (aCons (rt (.int 200)) aNil)))))) mNo mNext) (mIfS (mNot (mB (mCall phi_fits_whole (aCons (slE 1) (aCons (rt (.int 0)) (aCons (m2 min2D (rt (.int 50)) (m2 subD (slB 0) (rt (.int 1)))) aNil)))))) mNo mNext))
def phi_need_gauge (ds : List D) : O := fin (b_need_gauge ⟨(0, 0), st0 2 ds⟩)
def b_brick_in : MS := (mRet (m2 subD (m2 mulD (m1 (wgD L_SIZES) (slB 0)) (slB 1)) (slB 2)))
def phi_brick_in (ds : List D) : O := fin (b_brick_in ⟨(0, 0), st0 3 ds⟩)
def b_real_in : MS := (mRet (m2 subD (m2 mulD (mCall phi_length_in (aCons (slE 0) aNil)) (slB 1)) (slB 2)))
def phi_real_in (ds : List D) : O := fin (b_real_in ⟨(0, 0), st0 3 ds⟩)
def b_brick_length : MS := (mSeq (mIfS (mNot (mB (mCall phi_fits_sign (aCons (slE 0) aNil)))) mNo mNext) (mSeq (mDrop (mCall phi_need_gauge (aCons (slE 1) (aCons (slE 2) aNil)))) (mRet (mCall phi_brick_in (aCons (slE 0) (aCons (slE 1) (aCons (slE 2) aNil)))))))
def phi_brick_length (ds : List D) : O := fin (b_brick_length ⟨(0, 0), st0 3 ds⟩)
def b_course_length : MS := (mSeq (mDrop (mCall phi_need_course (aCons (slE 0) aNil))) (mSeq (mDrop (mCall phi_need_gauge (aCons (slE 1) (aCons (slE 2) aNil)))) (mRet (mCall phi_real_in (aCons (slE 0) (aCons (slE 1) (aCons (slE 2) aNil)))))))
def phi_course_length (ds : List D) : O := fin (b_course_length ⟨(0, 0), st0 3 ds⟩)
def b_joint_spans : MS := (mSeq (mDrop (mCall phi_need_course (aCons (slE 0) aNil))) (mSeq (mDrop (mCall phi_need_gauge (aCons (slE 1) (aCons (slE 2) aNil)))) (mSeq (mPar 3 4 (mLst aNil) (rt (.int 0))) (mSeq (mFor (bName 5) (mI iterD (mSl (slB 0) pNo (pAt (m1 negD (rt (.int 1)))))) (mSeq (mSetF 4 (m2 addD (slB 4) (m2 mulD (m1 (wgD L_SIZES) (slB 5)) (slB 1)))) (mApp 3 (mTup (aCons (m2 subD (slB 4) (slB 2)) (aCons (slE 4) aNil)))))) (mRet (m1 tupD (slB 3)))))))
def phi_joint_spans (ds : List D) : O := fin (b_joint_spans ⟨(0, 0), st0 6 ds⟩)
def b_mortar_share : MS := (mSeq (mDrop (mCall phi_need_course (aCons (slE 0) aNil))) (mSeq (mDrop (mCall phi_need_gauge (aCons (slE 1) (aCons (slE 2) aNil)))) (mRet (mTup (aCons (m2 mulD (m2 subD (m1 lenD (slB 0)) (rt (.int 1))) (slB 2)) (aCons (mCall phi_real_in (aCons (slE 0) (aCons (slE 1) (aCons (slE 2) aNil)))) aNil))))))
def phi_mortar_share (ds : List D) : O := fin (b_mortar_share ⟨(0, 0), st0 3 ds⟩)
def b_heights_of : MS := (mSeq (mIfS (mNot (mB (mCall phi_fits_whole (aCons (slE 0) (aCons (rt (.int 1)) (aCons (rt (.int 24)) aNil)))))) mNo mNext) (mSeq (mDrop (mCall phi_need_gauge (aCons (slE 1) (aCons (slE 2) aNil)))) (mRet (m1 tupD (mLc [3] (mR2 (rt (.int 1)) (m2 addD (slB 0) (rt (.int 1)))) (bName 3) mYes (m2 mulD (m2 addD (slB 1) (slB 2)) (slB 3)))))))
def phi_heights_of (ds : List D) : O := fin (b_heights_of ⟨(0, 0), st0 4 ds⟩)
def b_front_size : MS := (mSeq (mDrop (mCall phi_need_front (aCons (slE 0) aNil))) (mSeq (mDrop (mCall phi_need_gauge (aCons (slE 1) (aCons (slE 3) aNil)))) (mSeq (mDrop (mCall phi_need_gauge (aCons (slE 2) (aCons (slE 3) aNil)))) (mRet (mTup (aCons (mCall phi_real_in (aCons (m2 ixD (slB 0) (rt (.int 0))) (aCons (slE 1) (aCons (slE 3) aNil)))) (aCons (m2 mulD (m1 lenD (slB 0)) (m2 addD (slB 2) (slB 3))) aNil)))))))
def phi_front_size (ds : List D) : O := fin (b_front_size ⟨(0, 0), st0 4 ds⟩)
def b_law_course (phi_law_roll : Int × Int → List D → R D) : MS := (mSeq (mSetF 2 (rt (.str ""))) (mSeq (mFor (bName 3) (mI rng1D (m2 addD (rt (.int 1)) (mCallC 0 phi_law_roll (aCons (slE 1) aNil)))) (mSeq (mSetE 4 (mCallC 0 (phi_law_some phi_law_roll) (aCons (rt (.str "ssshhtq")) aNil))) (mSetE 2 (mIf (mB (m2 ltD (mCall phi_law_size (aCons (m2 addD (slB 2) (slB 4)) aNil)) (rt (.int 61)))) (m2 addD (slB 2) (slB 4)) (slE 2))))) (mRet (slE 2))))
def phi_law_course (phi_law_roll : Int × Int → List D → R D) (c : Int × Int) (ds : List D) : R D := finC (b_law_course phi_law_roll ⟨c, .cup :: st0 4 ds⟩)
def b_law_gauge (phi_law_roll : Int × Int → List D → R D) : MS := (mSeq (mSetF 1 (m2 addD (rt (.int 1)) (mCallC 0 phi_law_roll (aCons (mCallC 0 (phi_law_some phi_law_roll) (aCons (mLst (aCons (rt (.int 3)) (aCons (rt (.int 70)) (aCons (rt (.int 200)) aNil)))) aNil)) aNil)))) (mRet (mTup (aCons (slE 1) (aCons (mCallC 0 phi_law_roll (aCons (m2 min2D (rt (.int 51)) (slB 1)) aNil)) aNil)))))
def phi_law_gauge (phi_law_roll : Int × Int → List D → R D) (c : Int × Int) (ds : List D) : R D := finC (b_law_gauge phi_law_roll ⟨c, .cup :: st0 1 ds⟩)
def b_need_wide : MS := (mIfS (mNot (mB (mCall phi_fits_whole (aCons (slE 0) (aCons (rt (.int 1)) (aCons (rt (.int 100000)) aNil)))))) mNo mNext)
def phi_need_wide (ds : List D) : O := fin (b_need_wide ⟨(0, 0), st0 1 ds⟩)
def b_need_units : MS := (mIfS (mNot (mB (mCall phi_fits_whole (aCons (slE 0) (aCons (rt (.int 1)) (aCons (rt (.int 40)) aNil)))))) mNo mNext)
def phi_need_units (ds : List D) : O := fin (b_need_units ⟨(0, 0), st0 1 ds⟩)
def b_quarters_for : MS := (mSeq (mDrop (mCall phi_need_wide (aCons (slE 0) aNil))) (mSeq (mDrop (mCall phi_need_gauge (aCons (slE 1) (aCons (slE 2) aNil)))) (mRet (m2 fdivD (m2 addD (slB 0) (slB 2)) (slB 1)))))
def phi_quarters_for (ds : List D) : O := fin (b_quarters_for ⟨(0, 0), st0 3 ds⟩)
def b_left_over : MS := (mSeq (mDrop (mCall phi_need_wide (aCons (slE 0) aNil))) (mSeq (mDrop (mCall phi_need_gauge (aCons (slE 1) (aCons (slE 2) aNil)))) (mSeq (mSetF 3 (m2 fdivD (m2 addD (slB 0) (slB 2)) (slB 1))) (mRet (mIf (mB (m2 eqD (slB 3) (rt (.int 0)))) (slE 0) (m2 subD (slB 0) (m2 subD (m2 mulD (slB 3) (slB 1)) (slB 2))))))))
def phi_left_over (ds : List D) : O := fin (b_left_over ⟨(0, 0), st0 4 ds⟩)
def b_mortar_for : MS := (mSeq (mDrop (mCall phi_need_wide (aCons (slE 0) aNil))) (mSeq (mDrop (mCall phi_need_units (aCons (slE 1) aNil))) (mSeq (mIfS (mNot (mB (mCall phi_fits_whole (aCons (slE 2) (aCons (rt (.int 1)) (aCons (rt (.int 200)) aNil)))))) mNo mNext) (mSeq (mSetF 3 (m2 subD (m2 mulD (slB 1) (slB 2)) (slB 0))) (mFrz 3 (mRet (mIf (mB (mChain leD leD (rt (.int 0)) (slB 3) (m2 min2D (rt (.int 50)) (m2 subD (slB 2) (rt (.int 1)))))) (slE 3) (rt .none))))))))
def phi_mortar_for (ds : List D) : O := fin (b_mortar_for ⟨(0, 0), st0 4 ds⟩)
def b_mixes_in : MS := (mSeq (mSetF 1 (mLst aNil)) (mSeq (mFor (bName 2) (mI rng1D (m2 addD (m2 fdivD (slB 0) (rt (.int 4))) (rt (.int 1)))) (mFor (bName 3) (mI rng1D (m2 addD (m2 fdivD (m2 subD (slB 0) (m2 mulD (rt (.int 4)) (slB 2))) (rt (.int 3))) (rt (.int 1)))) (mSeq (mSetF 4 (m2 subD (m2 subD (slB 0) (m2 mulD (rt (.int 4)) (slB 2))) (m2 mulD (rt (.int 3)) (slB 3)))) (mExt 1 (mLc [5] (mI rng1D (m2 addD (m2 fdivD (slB 4) (rt (.int 2))) (rt (.int 1)))) (bName 5) mYes (mTup (aCons (m2 subD (slB 4) (m2 mulD (rt (.int 2)) (slB 5))) (aCons (slE 5) (aCons (slE 3) (aCons (slE 2) aNil)))))))))) (mFrz 1 (mRet (m1 sortD (mLc [6] (mI iterD (slE 1)) (bName 6) (mB (m2 leD (m1 sumD (slB 6)) (rt (.int 24)))) (slE 6)))))))
def phi_mixes_in (ds : List D) : O := fin (b_mixes_in ⟨(0, 0), st0 7 ds⟩)
def b_mixes_of : MS := (mSeq (mDrop (mCall phi_need_units (aCons (slE 0) aNil))) (mSeq (mSetE 1 (mCall phi_mixes_in (aCons (slE 0) aNil))) (mSeq (mIfS (mB (m2 gtD (m1 lenD (slB 1)) (rt (.int 60)))) mNo mNext) (mRet (m1 tupD (slB 1))))))
def phi_mixes_of (ds : List D) : O := fin (b_mixes_of ⟨(0, 0), st0 2 ds⟩)
def b_mixes_many : MS := (mSeq (mDrop (mCall phi_need_units (aCons (slE 0) aNil))) (mRet (m1 lenD (mCall phi_mixes_in (aCons (slE 0) aNil)))))
def phi_mixes_many (ds : List D) : O := fin (b_mixes_many ⟨(0, 0), st0 1 ds⟩)
def b_closing_bricks : MS := (mSeq (mFor (bName 3) (mI iterD (mTup (aCons (slE 0) (aCons (slE 1) aNil)))) (mIfS (mAnd (mB (m2 neD (slB 3) (rt (.str "")))) (mNot (mB (mCall phi_fits_course (aCons (slE 3) aNil))))) mNo mNext)) (mSeq (mDrop (mCall phi_need_units (aCons (slE 2) aNil))) (mSeq (mSetF 4 (m2 subD (m2 subD (slB 2) (mCall phi_length_in (aCons (slE 0) aNil))) (mCall phi_length_in (aCons (slE 1) aNil)))) (mSeq (mSetF 5 (m2 addD (m1 lenD (slB 0)) (m1 lenD (slB 1)))) (mSeq (mSetF 6 (mIf (mAnd (mB (m2 eqD (slB 4) (rt (.int 0)))) (mB (mChain leD leD (rt (.int 1)) (slB 5) (rt (.int 24))))) (mLst (aCons (rt (.str "")) aNil)) (mLst aNil))) (mRet (m1 tupD (m2 addD (slB 6) (mLc [7] (mI iterD (rt (.str "hqst"))) (bName 7) (mAnd (mB (m2 eqD (m1 (wgD L_SIZES) (slB 7)) (slB 4))) (mB (m2 ltD (slB 5) (rt (.int 24))))) (slE 7))))))))))
def phi_closing_bricks (ds : List D) : O := fin (b_closing_bricks ⟨(0, 0), st0 8 ds⟩)
def b_reaches : MS := (mRet (mChain leD leD (slB 2) (m2 subD (slB 1) (slB 0)) (m2 mulD (rt (.int 4)) (slB 2))))
def phi_reaches (ds : List D) : O := fin (b_reaches ⟨(0, 0), st0 3 ds⟩)
def b_fewest_closing : MS := (mSeq (mFor (bName 3) (mI iterD (mTup (aCons (slE 0) (aCons (slE 1) aNil)))) (mIfS (mAnd (mB (m2 neD (slB 3) (rt (.str "")))) (mNot (mB (mCall phi_fits_course (aCons (slE 3) aNil))))) mNo mNext)) (mSeq (mDrop (mCall phi_need_units (aCons (slE 2) aNil))) (mSeq (mBind (bTup [(bName 4), (bName 5)]) (mTup (aCons (m2 subD (m2 subD (slB 2) (mCall phi_length_in (aCons (slE 0) aNil))) (mCall phi_length_in (aCons (slE 1) aNil))) (aCons (m2 addD (m1 lenD (slB 0)) (m1 lenD (slB 1))) aNil)))) (mSeq (mIfS (mB (m2 ltD (slB 4) (rt (.int 0)))) (mRet (rt .none)) mNext) (mSeq (mSetF 6 (m2 fdivD (m2 addD (slB 4) (rt (.int 3))) (rt (.int 4)))) (mSeq (mIfS (mOr (mB (m2 gtD (m2 addD (slB 5) (slB 6)) (rt (.int 24)))) (mB (m2 eqD (m2 addD (slB 5) (slB 6)) (rt (.int 0))))) (mRet (rt .none)) mNext) (mSeq (mSetF 7 (mLst (aCons (rt (.str "")) aNil))) (mSeq (mFor (bName 8) (mI rng1D (slB 6)) (mSeq (mFrz 7 (mSetF 7 (mLc2 [9, 10] (mI iterD (slE 7)) (bName 9) mYes [10] (mI iterD (rt (.str "hqst"))) (bName 10) (mB (mCall phi_reaches (aCons (mCall phi_length_in (aCons (m2 addD (slB 9) (slB 10)) aNil)) (aCons (slE 4) (aCons (m2 subD (m2 subD (slB 6) (slB 8)) (rt (.int 1))) aNil))))) (m2 addD (slB 9) (slB 10))))) (mFrz 7 (mSetE 7 (mIf (mB (m2 neD (slB 7) (mLst aNil))) (mSl (slB 7) pNo (pAt (rt (.int 1)))) (slE 7)))))) (mRet (m2 ixD (slB 7) (rt (.int 0))))))))))))
def phi_fewest_closing (ds : List D) : O := fin (b_fewest_closing ⟨(0, 0), st0 11 ds⟩)
def b_fits_pattern : MS := (mRet (mAndV (mCall phi_fits_front (aCons (slE 0) aNil)) (m2 leD (m1 lenD (slB 0)) (rt (.int 6)))))
def phi_fits_pattern (ds : List D) : O := fin (b_fits_pattern ⟨(0, 0), st0 1 ds⟩)
def b_need_pattern : MS := (mIfS (mNot (mB (mCall phi_fits_pattern (aCons (slE 0) aNil)))) mNo mNext)
def phi_need_pattern (ds : List D) : O := fin (b_need_pattern ⟨(0, 0), st0 1 ds⟩)
def b_need_high : MS := (mIfS (mNot (mB (mCall phi_fits_whole (aCons (slE 0) (aCons (rt (.int 1)) (aCons (rt (.int 24)) aNil)))))) mNo mNext)
def phi_need_high (ds : List D) : O := fin (b_need_high ⟨(0, 0), st0 1 ds⟩)
def b_begun_in : MS := (mRet (m2 addD (mSl (slB 0) (pAt (slB 1)) pNo) (mSl (slB 0) pNo (pAt (slB 1)))))
def phi_begun_in (ds : List D) : O := fin (b_begun_in ⟨(0, 0), st0 2 ds⟩)
def b_laid : MS := (mSeq (mDrop (mCall phi_need_pattern (aCons (slE 0) aNil))) (mSeq (mDrop (mCall phi_need_high (aCons (slE 1) aNil))) (mRet (m1 tupD (mLc [2] (mI rng1D (slB 1)) (bName 2) mYes (m2 ixD (slB 0) (m2 modD (slB 2) (m1 lenD (slB 0)))))))))
def phi_laid (ds : List D) : O := fin (b_laid ⟨(0, 0), st0 3 ds⟩)
def b_pattern_lap : MS := (mSeq (mDrop (mCall phi_need_pattern (aCons (slE 0) aNil))) (mSeq (mSetF 1 (mLc [2] (mI rng1D (m1 lenD (slB 0))) (bName 2) mYes (mCall phi_lap_in (aCons (m2 ixD (slB 0) (m2 subD (slB 2) (rt (.int 1)))) (aCons (m2 ixD (slB 0) (slB 2)) aNil))))) (mSeq (mFrz 1 (mSetF 1 (mLc [3] (mI iterD (slE 1)) (bName 3) (mB (m2 isnD (slB 3) (rt .none))) (slE 3)))) (mRet (mIf (mB (m2 neD (slB 1) (mLst aNil))) (m1 minLD (slB 1)) (rt .none))))))
def phi_pattern_lap (ds : List D) : O := fin (b_pattern_lap ⟨(0, 0), st0 4 ds⟩)
def b_does_hold : MS := (mSeq (mDrop (mCall phi_need_pattern (aCons (slE 0) aNil))) (mSeq (mDrop (mCall phi_need_lap (aCons (slE 1) aNil))) (mRet (m1 allD (mLc [2] (mI rng1D (m1 lenD (slB 0))) (bName 2) mYes (mCall phi_bonds_in (aCons (m2 ixD (slB 0) (m2 subD (slB 2) (rt (.int 1)))) (aCons (m2 ixD (slB 0) (slB 2)) (aCons (slE 1) aNil)))))))))
def phi_does_hold (ds : List D) : O := fin (b_does_hold ⟨(0, 0), st0 3 ds⟩)
def b_pattern_begun : MS := (mSeq (mDrop (mCall phi_need_pattern (aCons (slE 0) aNil))) (mSeq (mIfS (mNot (mB (mCall phi_fits_whole (aCons (slE 1) (aCons (rt (.int 0)) (aCons (m2 subD (m1 lenD (slB 0)) (rt (.int 1))) aNil)))))) mNo mNext) (mRet (mCall phi_begun_in (aCons (slE 0) (aCons (slE 1) aNil))))))
def phi_pattern_begun (ds : List D) : O := fin (b_pattern_begun ⟨(0, 0), st0 2 ds⟩)
def b_plain_pattern : MS := (mSeq (mDrop (mCall phi_need_pattern (aCons (slE 0) aNil))) (mRet (mCall phi_least_in (aCons (slE 0) aNil))))
def phi_plain_pattern (ds : List D) : O := fin (b_plain_pattern ⟨(0, 0), st0 1 ds⟩)
def b_law_pattern (phi_law_roll : Int × Int → List D → R D) : MS := (mSeq (mSetF 2 (m1 tupD (mLc [3] (mI rng1D (m2 addD (rt (.int 1)) (mCallC 0 phi_law_roll (aCons (rt (.int 3)) aNil)))) (bName 3) mYes (mCallC 0 (phi_law_row phi_law_roll) (aCons (slE 1) aNil))))) (mRet (m2 mulD (slB 2) (mCallC 0 (phi_law_some phi_law_roll) (aCons (mLst (aCons (rt (.int 1)) (aCons (rt (.int 1)) (aCons (rt (.int 2)) aNil)))) aNil)))))
def phi_law_pattern (phi_law_roll : Int × Int → List D → R D) (c : Int × Int) (ds : List D) : R D := finC (b_law_pattern phi_law_roll ⟨c, .cup :: st0 3 ds⟩)
def b_law_plain : MS := (mSeq (mFor (bName 1) (mR2 (rt (.int 1)) (m2 addD (m1 lenD (slB 0)) (rt (.int 1)))) (mIfS (mAnd (mB (m2 eqD (m2 modD (m1 lenD (slB 0)) (slB 1)) (rt (.int 0)))) (mB (m2 eqD (mLc [2] (mI rng1D (m1 lenD (slB 0))) (bName 2) (mB (m2 neD (m2 ixD (slB 0) (slB 2)) (m2 ixD (slB 0) (m2 modD (slB 2) (slB 1))))) (slE 2)) (mLst aNil)))) (mRet (mSl (slB 0) pNo (pAt (slB 1)))) mNext)) (mRet (slE 0)))
def phi_law_plain (ds : List D) : O := fin (b_law_plain ⟨(0, 0), st0 3 ds⟩)
def b_law_begun : MS := (mRet (mLc [1] (mI rng1D (m1 lenD (slB 0))) (bName 1) mYes (m2 addD (mSl (slB 0) (pAt (slB 1)) pNo) (mSl (slB 0) pNo (pAt (slB 1))))))
def phi_law_begun (ds : List D) : O := fin (b_law_begun ⟨(0, 0), st0 2 ds⟩)
def b_need_both : MS := (mSeq (mDrop (mCall phi_need_pattern (aCons (slE 0) aNil))) (mSeq (mDrop (mCall phi_need_pattern (aCons (slE 1) aNil))) (mIfS (mB (m2 neD (mCall phi_length_in (aCons (m2 ixD (slB 0) (rt (.int 0))) aNil)) (mCall phi_length_in (aCons (m2 ixD (slB 1) (rt (.int 0))) aNil)))) mNo mNext)))
def phi_need_both (ds : List D) : O := fin (b_need_both ⟨(0, 0), st0 2 ds⟩)
def b_turns_in : MS := (mRet (mLc [1] (mI rng1D (m1 lenD (slB 0))) (bName 1) mYes (mCall phi_begun_in (aCons (slE 0) (aCons (slE 1) aNil)))))
def phi_turns_in (ds : List D) : O := fin (b_turns_in ⟨(0, 0), st0 2 ds⟩)
def b_same_patterns : MS := (mSeq (mDrop (mCall phi_need_both (aCons (slE 0) (aCons (slE 1) aNil)))) (mSeq (mBind (bTup [(bName 2), (bName 3)]) (mTup (aCons (mCall phi_least_in (aCons (slE 0) aNil)) (aCons (mCall phi_least_in (aCons (slE 1) aNil)) aNil)))) (mRet (m1 tupD (mLc [4] (mI rng1D (m1 lenD (slB 2))) (bName 4) (mB (m2 eqD (mCall phi_begun_in (aCons (slE 2) (aCons (slE 4) aNil))) (slB 3))) (slE 4))))))
def phi_same_patterns (ds : List D) : O := fin (b_same_patterns ⟨(0, 0), st0 5 ds⟩)
def b_need_patterns : MS := (mSeq (mIfS (mOr (mNot (mB (m1 isTupD (slB 0)))) (mOr (mNot (mB (mChain leD leD (rt (.int 1)) (m1 lenD (slB 0)) (rt (.int 6))))) (mNot (mB (m1 allD (mLc [1] (mI iterD (slE 0)) (bName 1) mYes (mCall phi_fits_pattern (aCons (slE 1) aNil)))))))) mNo mNext) (mIfS (mNot (mB (m1 allD (mLc [1] (mI iterD (slE 0)) (bName 1) mYes (m2 eqD (mCall phi_length_in (aCons (m2 ixD (slB 1) (rt (.int 0))) aNil)) (mCall phi_length_in (aCons (m2 ixD (m2 ixD (slB 0) (rt (.int 0))) (rt (.int 0))) aNil))))))) mNo mNext))
def phi_need_patterns (ds : List D) : O := fin (b_need_patterns ⟨(0, 0), st0 2 ds⟩)
def b_need_two : MS := (mSeq (mDrop (mCall phi_need_course (aCons (slE 0) aNil))) (mSeq (mDrop (mCall phi_need_course (aCons (slE 1) aNil))) (mIfS (mB (m2 neD (mCall phi_length_in (aCons (slE 0) aNil)) (mCall phi_length_in (aCons (slE 1) aNil)))) mNo mNext)))
def phi_need_two (ds : List D) : O := fin (b_need_two ⟨(0, 0), st0 2 ds⟩)
def b_barred_in : MS := (mSeq (mSetF 2 (mLc2 [3, 4] (mI iterD (slE 0)) (bName 3) mYes [4] (mI iterD (mCall phi_joints_in (aCons (slE 3) aNil))) (bName 4) mYes (slE 4))) (mFrz 2 (mRet (mLc [5] (mR2 (rt (.int 1)) (mCall phi_length_in (aCons (m2 ixD (slB 0) (rt (.int 0))) aNil))) (bName 5) (mB (m1 anyD (mLc [4] (mI iterD (slE 2)) (bName 4) mYes (m2 ltD (m1 absD (m2 subD (slB 5) (slB 4))) (slB 1))))) (slE 5)))))
def phi_barred_in (ds : List D) : O := fin (b_barred_in ⟨(0, 0), st0 6 ds⟩)
def b_every_in : MS := (mSeq (mIfS (mB (m2 gtD (slB 0) (rt (.int 7)))) mNo mNext) (mSeq (mPar 1 2 (mLst (aCons (rt (.str "")) aNil)) (mLst aNil)) (mSeq (mWhile fuel (mB (m2 neD (slB 1) (mLst aNil))) (mSeq (mFrz 1 (mSetF 3 (mLc2 [4, 5] (mI iterD (slE 1)) (bName 4) mYes [5] (mI iterD (rt (.str "hqst"))) (bName 5) mYes (m2 addD (slB 4) (slB 5))))) (mSeq (mFrz 3 (mExt 2 (mLc [4] (mI iterD (slE 3)) (bName 4) (mB (m2 eqD (mCall phi_length_in (aCons (slE 4) aNil)) (slB 0))) (slE 4)))) (mFrz 3 (mSetF 1 (mLc [4] (mI iterD (slE 3)) (bName 4) (mB (m2 ltD (mCall phi_length_in (aCons (slE 4) aNil)) (slB 0))) (slE 4))))))) (mRet (m1 sortD (slB 2))))))
def phi_every_in (ds : List D) : O := fin (b_every_in ⟨(0, 0), st0 6 ds⟩)
def b_changes_of : MS := (mSeq (mDrop (mCall phi_need_both (aCons (slE 0) (aCons (slE 1) aNil)))) (mSeq (mDrop (mCall phi_need_lap (aCons (slE 2) aNil))) (mSeq (mSetF 3 (mLc2 [4, 5] (mI rng1D (m1 lenD (slB 0))) (bName 4) mYes [5] (mI rng1D (m1 lenD (slB 1))) (bName 5) mYes (mTup (aCons (slE 4) (aCons (slE 5) aNil))))) (mFrz 3 (mRet (m1 tupD (mLc [4, 5] (mI iterD (slE 3)) (bTup [(bName 4), (bName 5)]) (mB (mCall phi_bonds_in (aCons (m2 ixD (slB 0) (slB 4)) (aCons (m2 ixD (slB 1) (slB 5)) (aCons (slE 2) aNil))))) (mTup (aCons (slE 4) (aCons (slE 5) aNil))))))))))
def phi_changes_of (ds : List D) : O := fin (b_changes_of ⟨(0, 0), st0 6 ds⟩)
def b_changed_front : MS := (mSeq (mDrop (mCall phi_need_pattern (aCons (slE 0) aNil))) (mSeq (mDrop (mCall phi_need_high (aCons (slE 1) aNil))) (mSeq (mDrop (mCall phi_need_both (aCons (slE 0) (aCons (slE 2) aNil)))) (mSeq (mDrop (mCall phi_need_high (aCons (slE 3) aNil))) (mSeq (mDrop (mCall phi_need_lap (aCons (slE 4) aNil))) (mSeq (mIfS (mB (m2 gtD (m2 addD (slB 1) (slB 3)) (rt (.int 24)))) mNo mNext) (mSeq (mSetF 5 (m1 tupD (mLc [7] (mI rng1D (slB 1)) (bName 7) mYes (m2 ixD (slB 0) (m2 modD (slB 7) (m1 lenD (slB 0))))))) (mSeq (mSetF 6 (mLc [7] (mI rng1D (m1 lenD (slB 2))) (bName 7) (mB (mCall phi_bonds_in (aCons (m2 ixD (slB 5) (m1 negD (rt (.int 1)))) (aCons (m2 ixD (slB 2) (slB 7)) (aCons (slE 4) aNil))))) (slE 7))) (mSeq (mIfS (mB (m2 eqD (slB 6) (mLst aNil))) (mRet (rt .none)) mNext) (mRet (m2 addD (slB 5) (m1 tupD (mLc [7] (mI rng1D (slB 3)) (bName 7) mYes (m2 ixD (slB 2) (m2 modD (m2 addD (m2 ixD (slB 6) (rt (.int 0))) (slB 7)) (m1 lenD (slB 2)))))))))))))))))
def phi_changed_front (ds : List D) : O := fin (b_changed_front ⟨(0, 0), st0 8 ds⟩)
def b_patterns_many : MS := (mSeq (mIfS (mNot (mB (mCall phi_fits_whole (aCons (slE 0) (aCons (rt (.int 1)) (aCons (rt (.int 60)) aNil)))))) mNo mNext) (mSeq (mIfS (mNot (mB (mCall phi_fits_whole (aCons (slE 1) (aCons (rt (.int 1)) (aCons (rt (.int 6)) aNil)))))) mNo mNext) (mSeq (mDrop (mCall phi_need_lap (aCons (slE 2) aNil))) (mSeq (mBind (bTup [(bName 3), (bName 4)]) (mTup (aCons (mCall phi_every_in (aCons (slE 0) aNil)) (aCons (rt (.int 0)) aNil)))) (mSeq (mSetF 5 (mLc [9] (mI iterD (slE 3)) (bName 9) mYes (mLc [10, 11] (mEnum (aCons (slE 3) aNil)) (bTup [(bName 10), (bName 11)]) (mB (mCall phi_bonds_in (aCons (slE 9) (aCons (slE 11) (aCons (slE 2) aNil))))) (slE 10)))) (mSeq (mFor (bName 6) (mI rng1D (m1 lenD (slB 3))) (mSeq (mSetF 7 (mLc [10] (mI rng1D (m1 lenD (slB 3))) (bName 10) mYes (mIf (mB (m2 eqD (slB 10) (slB 6))) (rt (.int 1)) (rt (.int 0))))) (mSeq (mFor (bName 8) (mI rng1D (slB 1)) (mFrz 5 (mSetF 7 (mLc [12] (mI iterD (slE 5)) (bName 12) mYes (m1 sumD (mLc [10] (mI iterD (slE 12)) (bName 10) mYes (m2 ixD (slB 7) (slB 10)))))))) (mAug 4 addI (m2 ixD (slB 7) (slB 6)))))) (mRet (slE 4))))))))
def phi_patterns_many (ds : List D) : O := fin (b_patterns_many ⟨(0, 0), st0 13 ds⟩)
def b_fronts_joined : MS := (mSeq (mDrop (mCall phi_need_front (aCons (slE 0) aNil))) (mSeq (mDrop (mCall phi_need_front (aCons (slE 1) aNil))) (mSeq (mIfS (mB (m2 neD (mCall phi_length_in (aCons (m2 ixD (slB 0) (rt (.int 0))) aNil)) (mCall phi_length_in (aCons (m2 ixD (slB 1) (rt (.int 0))) aNil)))) mNo mNext) (mSeq (mIfS (mB (m2 gtD (m2 addD (m1 lenD (slB 0)) (m1 lenD (slB 1))) (rt (.int 24)))) mNo mNext) (mRet (m2 addD (slB 0) (slB 1)))))))
def phi_fronts_joined (ds : List D) : O := fin (b_fronts_joined ⟨(0, 0), st0 2 ds⟩)
def b_fronts_beside : MS := (mSeq (mDrop (mCall phi_need_front (aCons (slE 0) aNil))) (mSeq (mDrop (mCall phi_need_front (aCons (slE 1) aNil))) (mSeq (mIfS (mB (m2 neD (m1 lenD (slB 0)) (m1 lenD (slB 1)))) mNo mNext) (mSeq (mIfS (mB (m2 gtD (m2 addD (mCall phi_length_in (aCons (m2 ixD (slB 0) (rt (.int 0))) aNil)) (mCall phi_length_in (aCons (m2 ixD (slB 1) (rt (.int 0))) aNil))) (rt (.int 60)))) mNo mNext) (mSeq (mSetF 2 (m1 tupD (mLc [3, 4] (mZip (aCons (slE 0) (aCons (slE 1) aNil))) (bTup [(bName 3), (bName 4)]) mYes (m2 addD (slB 3) (slB 4))))) (mSeq (mIfS (mB (m2 gtD (m1 maxLD (mLc [5] (mI iterD (slE 2)) (bName 5) mYes (m1 lenD (slB 5)))) (rt (.int 24)))) mNo mNext) (mRet (slE 2))))))))
def phi_fronts_beside (ds : List D) : O := fin (b_fronts_beside ⟨(0, 0), st0 6 ds⟩)
def b_repeat_of : MS := (mSeq (mDrop (mCall phi_need_front (aCons (slE 0) aNil))) (mSeq (mSetF 1 (m1 lenD (slB 0))) (mRet (m2 ixD (mLc [2] (mR2 (rt (.int 1)) (m2 addD (slB 1) (rt (.int 1)))) (bName 2) (mAnd (mB (m2 eqD (m2 modD (slB 1) (slB 2)) (rt (.int 0)))) (mB (m2 eqD (m2 mulD (mSl (slB 0) pNo (pAt (slB 2))) (m2 fdivD (slB 1) (slB 2))) (slB 0)))) (slE 2)) (rt (.int 0))))))
def phi_repeat_of (ds : List D) : O := fin (b_repeat_of ⟨(0, 0), st0 3 ds⟩)
def b_gap_in : MS := (mSeq (mBind (bTup [(bName 2), (bName 3)]) (mTup (aCons (mCall phi_joints_in (aCons (slE 0) aNil)) (aCons (mCall phi_joints_in (aCons (slE 1) aNil)) aNil)))) (mRet (m2 addD (m1 lenD (mLc [4] (mI iterD (slE 2)) (bName 4) (mB (m2 ninD (slB 4) (slB 3))) (rt (.int 1)))) (m1 lenD (mLc [4] (mI iterD (slE 3)) (bName 4) (mB (m2 ninD (slB 4) (slB 2))) (rt (.int 1)))))))
def phi_gap_in (ds : List D) : O := fin (b_gap_in ⟨(0, 0), st0 5 ds⟩)
def b_counts_in : MS := (mSeq (mSetF 1 (mLc [2] (mI iterD (slE 0)) (bName 2) mYes (mCall phi_joints_in (aCons (slE 2) aNil)))) (mFrz 1 (mRet (mLc [3] (mR2 (rt (.int 1)) (mCall phi_length_in (aCons (m2 ixD (slB 0) (rt (.int 0))) aNil))) (bName 3) mYes (m1 lenD (mLc [4] (mI iterD (slE 1)) (bName 4) (mB (m2 inD (slB 3) (slB 4))) (rt (.int 1))))))))
def phi_counts_in (ds : List D) : O := fin (b_counts_in ⟨(0, 0), st0 5 ds⟩)
def b_whole_joints : MS := (mSeq (mDrop (mCall phi_need_front (aCons (slE 0) aNil))) (mRet (m1 tupD (mLc [1, 2] (mEnum (aCons (mCall phi_counts_in (aCons (slE 0) aNil)) aNil)) (bTup [(bName 1), (bName 2)]) (mB (m2 eqD (slB 2) (m1 lenD (slB 0)))) (m2 addD (slB 1) (rt (.int 1)))))))
def phi_whole_joints (ds : List D) : O := fin (b_whole_joints ⟨(0, 0), st0 3 ds⟩)
def b_all_joints : MS := (mSeq (mDrop (mCall phi_need_front (aCons (slE 0) aNil))) (mRet (m1 tupD (mLc [1, 2] (mEnum (aCons (mCall phi_counts_in (aCons (slE 0) aNil)) aNil)) (bTup [(bName 1), (bName 2)]) (mB (m2 gtD (slB 2) (rt (.int 0)))) (m2 addD (slB 1) (rt (.int 1)))))))
def phi_all_joints (ds : List D) : O := fin (b_all_joints ⟨(0, 0), st0 3 ds⟩)
def b_joint_counts : MS := (mSeq (mDrop (mCall phi_need_front (aCons (slE 0) aNil))) (mRet (m1 tupD (mCall phi_counts_in (aCons (slE 0) aNil)))))
def phi_joint_counts (ds : List D) : O := fin (b_joint_counts ⟨(0, 0), st0 1 ds⟩)
def b_weakest : MS := (mSeq (mDrop (mCall phi_need_front (aCons (slE 0) aNil))) (mSeq (mSetE 1 (mCall phi_counts_in (aCons (slE 0) aNil))) (mSeq (mSetF 2 (mIf (mB (m2 neD (slB 1) (mLst aNil))) (m1 maxLD (slB 1)) (rt (.int 0)))) (mFrz 1 (mRet (m1 tupD (mLc [3, 4] (mEnum (aCons (slE 1) aNil)) (bTup [(bName 3), (bName 4)]) (mAnd (mB (m2 eqD (slB 4) (slB 2))) (mB (m2 gtD (slB 2) (rt (.int 0))))) (m2 addD (slB 3) (rt (.int 1))))))))))
def phi_weakest (ds : List D) : O := fin (b_weakest ⟨(0, 0), st0 5 ds⟩)
def b_best_lap : MS := (mSeq (mDrop (mCall phi_need_front (aCons (slE 0) aNil))) (mSeq (mSetF 1 (mLc [2, 3] (mZip (aCons (slE 0) (aCons (mSl (slB 0) (pAt (rt (.int 1))) pNo) aNil))) (bTup [(bName 2), (bName 3)]) mYes (mCall phi_lap_in (aCons (slE 2) (aCons (slE 3) aNil))))) (mFrz 1 (mRet (m1 minLD (m2 addD (mLst (aCons (rt (.int 4)) aNil)) (mLc [4] (mI iterD (slE 1)) (bName 4) (mB (m2 isnD (slB 4) (rt .none))) (slE 4))))))))
def phi_best_lap (ds : List D) : O := fin (b_best_lap ⟨(0, 0), st0 5 ds⟩)
def b_joint_gap : MS := (mSeq (mDrop (mCall phi_need_two (aCons (slE 0) (aCons (slE 1) aNil)))) (mRet (mCall phi_gap_in (aCons (slE 0) (aCons (slE 1) aNil)))))
def phi_joint_gap (ds : List D) : O := fin (b_joint_gap ⟨(0, 0), st0 2 ds⟩)
def b_nearest_courses : MS := (mSeq (mDrop (mCall phi_need_course (aCons (slE 0) aNil))) (mSeq (mIfS (mOr (mNot (mB (mCall phi_is_tuple_of (aCons (slE 1) (aCons (rt (.int 1)) (aCons (rt (.int 20)) aNil)))))) (mNot (mB (m1 allD (mLc [3] (mI iterD (slE 1)) (bName 3) mYes (mCall phi_fits_course (aCons (slE 3) aNil))))))) mNo mNext) (mSeq (mSetF 2 (mLc [4, 3] (mEnum (aCons (slE 1) aNil)) (bTup [(bName 4), (bName 3)]) (mB (m2 eqD (mCall phi_length_in (aCons (slE 3) aNil)) (mCall phi_length_in (aCons (slE 0) aNil)))) (mTup (aCons (mCall phi_gap_in (aCons (slE 0) (aCons (slE 3) aNil))) (aCons (slE 4) aNil))))) (mFrz 2 (mRet (m1 tupD (mLc [5, 4] (mI iterD (slE 2)) (bTup [(bName 5), (bName 4)]) (mB (m2 eqD (slB 5) (m2 ixD (m1 minLD (slB 2)) (rt (.int 0))))) (slE 4))))))))
def phi_nearest_courses (ds : List D) : O := fin (b_nearest_courses ⟨(0, 0), st0 6 ds⟩)
def b_in_turn : MS := (mSeq (mDrop (mCall phi_need_two (aCons (slE 0) (aCons (slE 1) aNil)))) (mSeq (mDrop (mCall phi_need_high (aCons (slE 2) aNil))) (mRet (m1 tupD (mLc [3] (mI rng1D (slB 2)) (bName 3) mYes (mIf (mB (m2 eqD (m2 modD (slB 3) (rt (.int 2))) (rt (.int 0)))) (slE 0) (slE 1)))))))
def phi_in_turn (ds : List D) : O := fin (b_in_turn ⟨(0, 0), st0 4 ds⟩)
def b_front_log : MS := (mSeq (mDrop (mCall phi_need_front (aCons (slE 0) aNil))) (mSeq (mDrop (mCall phi_need_lap (aCons (slE 1) aNil))) (mSeq (mIfS (mNot (mB (m1 allD (mLc [4, 5] (mZip (aCons (slE 0) (aCons (mSl (slB 0) (pAt (rt (.int 1))) pNo) aNil))) (bTup [(bName 4), (bName 5)]) mYes (mCall phi_bonds_in (aCons (slE 4) (aCons (slE 5) (aCons (slE 1) aNil)))))))) mNo mNext) (mSeq (mSetE 2 (mCall phi_length_in (aCons (m2 ixD (slB 0) (rt (.int 0))) aNil))) (mSeq (mFrz 2 (mSetF 3 (mIf (mB (m2 neD (slB 2) (rt (.int 24)))) (mLst (aCons (mTup (aCons (rt (.str "line")) (aCons (slE 2) aNil))) aNil)) (mLst aNil)))) (mSeq (mExt 3 (mIf (mB (m2 neD (slB 1) (rt (.int 1)))) (mLst (aCons (mTup (aCons (rt (.str "lap")) (aCons (slE 1) aNil))) aNil)) (mLst aNil))) (mRet (m1 tupD (m2 addD (slB 3) (mLc2 [4, 6] (mI iterD (slE 0)) (bName 4) mYes [6] (mI iterD (slE 4)) (bName 6) mYes (mTup (aCons (rt (.str "lay")) (aCons (slE 6) aNil)))))))))))))
def phi_front_log (ds : List D) : O := fin (b_front_log ⟨(0, 0), st0 7 ds⟩)
end Pu
end

noncomputable section
set_option Elab.async false
set_option linter.all false
set_option maxRecDepth 100000
set_option maxHeartbeats 2000000
/-! PuC: what the shared defs come to: courses, fronts, random ones. -/
namespace Pu
open PySem PySem.Spec L2
/-! ### loops and comprehensions -/
theorem lcL_overF {α : Type} {b : Bd} {t : M Bool} {e : M D} {s : S} (g h : α → D) (p : α → Bool) : ∀ (xs : List α) (c : Int × Int), (∀ x ∈ xs, ∃ s1, b (g x) (s.wc c) = some s1 ∧ t s1 = .ok (p x) c ∧ (p x = true → e (s1.wc c) = .ok (h x) c)) →
    lcL b t e s (xs.map g) c = .ok ((xs.filter p).map h) c
  | [], c, _ => rfl
  | x :: xs, c, H => by
    obtain ⟨s1, h1, h2, h3⟩ := H x List.mem_cons_self
    have ih := lcL_overF g h p xs c fun y hy => H y (List.mem_cons_of_mem _ hy)
    rw [List.map_cons]
    unfold lcL
    simp only [h1, h2]
    cases hp : p x with
    | true => simp only [h3 hp, ih, List.filter_cons, hp, if_true, List.map_cons]
    | false => simp [ih, List.filter_cons, hp]
theorem lcL_over {α : Type} {b : Bd} {t : M Bool} {e : M D} {s : S} (g h : α → D) (xs : List α) (c : Int × Int) (H : ∀ x ∈ xs, ∃ s1, b (g x) (s.wc c) = some s1 ∧ t s1 = .ok true c ∧ e (s1.wc c) = .ok (h x) c) : lcL b t e s (xs.map g) c = .ok (xs.map h) c := by
  have := lcL_overF (b := b) (t := t) (e := e) (s := s) g h (fun _ => true) xs c fun x hx => (H x hx).imp fun s1 k => ⟨k.1, k.2.1, fun _ => k.2.2⟩
  rw [this, List.filter_eq_self.mpr fun _ _ => rfl]
/-- a loop with what holds after so many turns -/
theorem loop_idx {b : Bd} {body : MS} (Pv : Nat → S → Prop) : ∀ (xs : List D) (k : Nat) (s : S), Pv k s → (∀ i x s, xs[i]? = some x → Pv (k + i) s → ∃ s1 s2, b x s = some s1 ∧ (body s1 = .next s2 ∨ body s1 = .cnt s2) ∧ Pv (k + i + 1) s2) → ∃ s', loopL b body xs s = .next s' ∧ Pv (k + xs.length) s'
  | [], k, s, h, _ => ⟨s, rfl, h⟩
  | x :: xs, k, s, h, hb => by
    obtain ⟨s1, s2, e1, e2, h2⟩ := hb 0 x s rfl h
    obtain ⟨s', e3, h3⟩ := loop_idx Pv xs (k + 1) s2 h2 fun i y s hy hp => by
      have := hb (i + 1) y s (by simpa using hy) (by rw [show k + (i + 1) = k + 1 + i by omega]; exact hp)
      rw [show k + (i + 1) + 1 = k + 1 + i + 1 by omega] at this
      exact this
    refine ⟨s', ?_, by rw [List.length_cons, show k + (xs.length + 1) = k + 1 + xs.length by omega]; exact h3⟩
    unfold loopL
    rw [e1]
    rcases e2 with e2 | e2 <;> simp only [e2] <;> exact e3
/-- a while by an invariant and a measure -/
theorem while_inv {t : M Bool} {body : MS} (Pv : S → Prop) (μ : S → Nat) (h : ∀ s, Pv s → t s = .ok false s.c ∨ (t s = .ok true s.c ∧ ∃ s2, (body s = .next s2 ∨ body s = .cnt s2) ∧ Pv s2 ∧ μ s2 < μ s)) : ∀ (n : Nat) (s : S), Pv s → μ s < n → ∃ s', mWhile n t body s = .next s' ∧ Pv s' ∧ t s' = .ok false s'.c
  | 0, s, _, hn => absurd hn (Nat.not_lt_zero _)
  | n + 1, s, hp, hn => by
    rw [mWhile_succ]
    rcases h s hp with e | ⟨e, s2, e2, hp2, hm⟩
    · exact ⟨s, by simp only [e, mErr], hp, e⟩
    · obtain ⟨s', e3, h3⟩ := while_inv Pv μ h n s2 hp2 (by omega)
      refine ⟨s', ?_, h3⟩
      have es : s.wc s.c = s := rfl
      simp only [e, mErr, es]
      rcases e2 with e2 | e2 <;> simp only [e2] <;> exact e3
theorem same_eq : ∀ k, phi_law_same_ k = gSameN k
  | 0 => rfl
  | k + 1 => by funext ds; show fin (b_law_same (phi_law_same_ k) _) = fin (gSame (gSameN k) _); rw [same_eq k]; rfl
theorem same_ok {d : D} (h : smp 8 d = true) : phi_law_same [d, d] = .ok (.bool true) := by rw [phi_law_same, same_eq 8]; exact gSame_ok 8 d h
/-! ### courses as lists of signs -/
def sg (c : Nat) : Str := ⟨#[c]⟩
def tx (l : List Nat) : Str := ⟨l.toArray⟩
def siz (c : Nat) : Int := if c = 115 then 4 else if c = 104 then 2 else if c = 116 then 3 else 1
def isSg (c : Nat) : Prop := c = 115 ∨ c = 104 ∨ c = 116 ∨ c = 113
instance (c : Nat) : Decidable (isSg c) := inferInstanceAs (Decidable (_ ∨ _ ∨ _ ∨ _))
def len (l : List Nat) : Int := (l.map siz).sum
def dS (l : List Nat) : D := .str (tx l)
@[simp] theorem cps_tx (l : List Nat) : cps (tx l) = l := by simp [cps, tx]
@[simp] theorem tx_length (l : List Nat) : (tx l).length = l.length := by show l.toArray.size = _; simp
@[simp] theorem tx_app (l m : List Nat) : tx l ++ tx m = tx (l ++ m) := by
  show (⟨l.toArray ++ m.toArray⟩ : Str) = _
  simp [tx]
theorem tx_inj {l m : List Nat} : tx l = tx m ↔ l = m := ⟨fun h => by have := congrArg cps h; simpa using this, fun h => by rw [h]⟩
theorem tx_nil : ("" : Str) = tx [] := rfl
theorem sg_tx (c : Nat) : sg c = tx [c] := rfl
theorem siz_pos (c : Nat) : 1 ≤ siz c := by unfold siz; split <;> try split <;> try split
                                            all_goals omega
theorem siz_le (c : Nat) : siz c ≤ 4 := by unfold siz; split <;> try split <;> try split
                                           all_goals omega
@[simp] theorem len_nil : len [] = 0 := rfl
@[simp] theorem len_cons (c : Nat) (l : List Nat) : len (c :: l) = siz c + len l := rfl
@[simp] theorem len_app (l m : List Nat) : len (l ++ m) = len l + len m := by simp [len]
theorem len_ge (l : List Nat) : (l.length : Int) ≤ len l := by
  induction l with
  | nil => simp
  | cons c l ih => have := siz_pos c; simp only [len_cons, List.length_cons]; omega
theorem len_le (l : List Nat) : len l ≤ 4 * (l.length : Int) := by
  induction l with
  | nil => simp
  | cons c l ih => have := siz_le c; simp only [len_cons, List.length_cons]; omega
theorem look_siz {c : Nat} (h : isSg c) : L_SIZES.lookup (sg c) = some (siz c) := by rcases h with rfl | rfl | rfl | rfl <;> decide
theorem look_siz' {c : Nat} (h : isSg c) : ([("s", 4), ("t", 3), ("h", 2), ("q", 1)] : List (Str × Int)).lookup (sg c) = some (siz c) := by rcases h with rfl | rfl | rfl | rfl <;> decide
theorem iter_tx (l : List Nat) : iterD (dS l) = some (l.map fun c => .str (sg c)) := by
  have : iterD (dS l) = some ((cps (tx l)).map fun c => PyData.str ⟨#[c]⟩) := rfl
  rw [this, cps_tx]; rfl
theorem size_ok {l : List Nat} (h : ∀ c ∈ l, isSg c) (hl : l.length ≤ 16777216) : phi_law_size [dS l] = .ok (.int (len l)) := by
  have key : ∀ s : S, s.r = [.fz (dS l), .no] → lcL (bName 1) mYes (m2 dgD (rt (litD [("s", 4), ("t", 3), ("h", 2), ("q", 1)])) (slB 1)) s (l.map fun c => .str (sg c)) (0, 0) = .ok (l.map fun c => .int (siz c)) (0, 0) := fun s hs => by
    refine lcL_over _ _ _ _ fun x hx => ⟨_, rfl, rfl, ?_⟩
    simp [hs, look_siz' (h x hx)]
  have lo : lenOk (l.map fun c => PyData.int (siz c)) = true := lenOk_tt (by simpa using hl)
  simp [phi_law_size, b_law_size, iter_tx, key, lo, intsD_map, len, st0]
theorem lenin_ok {l : List Nat} (h : ∀ c ∈ l, isSg c) (hl : l.length ≤ 16777216) : phi_length_in [dS l] = .ok (.int (len l)) := by
  have key : ∀ s : S, s.r = [.fz (dS l), .no] → lcL (bName 1) mYes (m1 (wgD L_SIZES) (slB 1)) s (l.map fun c => .str (sg c)) (0, 0) = .ok (l.map fun c => .int (siz c)) (0, 0) := fun s hs => by
    refine lcL_over _ _ _ _ fun x hx => ⟨_, rfl, rfl, ?_⟩
    simp [hs, look_siz (h x hx)]
  have lo : lenOk (l.map fun c => PyData.int (siz c)) = true := lenOk_tt (by simpa using hl)
  simp [phi_length_in, b_length_in, iter_tx, key, lo, intsD_map, len, st0]
theorem whole_ok (v : Int) : phi_is_whole [.int v] = .ok (.bool true) := by simp [phi_is_whole, b_is_whole]
theorem fits_ok (v lo hi : Int) : phi_fits_whole [.int v, .int lo, .int hi] = .ok (.bool (decide (lo ≤ v) && decide (v ≤ hi))) := by
  by_cases h : lo ≤ v <;> simp [phi_fits_whole, b_fits_whole, whole_ok, h]
/-- a course -/
structure Crs (l : List Nat) : Prop where
  s : ∀ c ∈ l, isSg c
  n0 : 1 ≤ l.length
  n1 : l.length ≤ 24
  z : len l ≤ 60
theorem isStrD_dS (l : List Nat) : isStrD (dS l) = some (.bool true) := rfl
theorem lenD_dS {l : List Nat} (h : l.length ≤ 16777216) : lenD (dS l) = some (.int l.length) := by
  have := lenD_s (tx l) (leN_tt (by simpa using h))
  simpa [dS] using this
theorem fcourse_ok {l : List Nat} (h : Crs l) : phi_fits_course [dS l] = .ok (.bool true) := by
  have n0 := h.n0
  have n1 := h.n1
  have key : ∀ s : S, s.r = [.fz (dS l), .no] → lcL (bName 1) mYes (m1 (wgD L_SIZES) (slB 1)) s (l.map fun c => .str (sg c)) (0, 0) = .ok (l.map fun c => .int (siz c)) (0, 0) := fun s hs => by
    refine lcL_over _ _ _ _ fun x hx => ⟨_, rfl, rfl, ?_⟩
    simp [hs, look_siz (h.s x hx)]
  have key2 : ∀ s : S, s.r = [.fz (dS l), .no] → lcL (bName 1) mYes (m1 (wInD L_SIZES) (slB 1)) s (l.map fun c => .str (sg c)) (0, 0) = .ok (l.map fun c => .bool true) (0, 0) := fun s hs => by
    refine lcL_over _ _ _ _ fun x hx => ⟨_, rfl, rfl, ?_⟩
    have := wInD_s (L := L_SIZES) (z := sg x) (by rw [look_siz (h.s x hx)]; rfl)
    simp [hs, this]
  have lo : lenOk (l.map fun c => PyData.int (siz c)) = true := lenOk_tt (by simp; omega)
  have lo2 : lenOk (l.map fun c => PyData.bool true) = true := lenOk_tt (by simp; omega)
  have z := h.z
  have i0 : (1 : Int) ≤ l.length := by omega
  have i1 : (l.length : Int) ≤ 24 := by omega
  have e1 : boolsD (l.map fun c => PyData.bool true) = some (l.map fun _ => true) := boolsD_map (fun _ => true) l
  have e2 : (l.map fun _ => true).all id = true := by simp
  have z' : (l.map siz).sum ≤ 60 := z
  simp only [phi_fits_course, b_fits_course, st0]
  simp [isStrD_dS, lenD_dS (show l.length ≤ 16777216 by omega), iter_tx, i0, i1, key, key2, lo, lo2, e1, e2, intsD_map, z']
theorem ncourse_ok {l : List Nat} (h : Crs l) : phi_need_course [dS l] = .ok .none := by
  simp [phi_need_course, b_need_course, fcourse_ok h]
theorem tupof_ok (xs : List D) (lo hi : Int) : phi_is_tuple_of [.tuple xs, .int lo, .int hi] = .ok (.bool (decide (lo ≤ xs.length) && decide ((xs.length : Int) ≤ hi))) := by
  by_cases h : lo ≤ xs.length <;> simp [phi_is_tuple_of, b_is_tuple_of, h]
theorem strOk_tx {l : List Nat} (h : ∀ c ∈ l, isSg c) : PyData.strOk (tx l) = true := by
  simp [PyData.strOk, tx]
  intro x hx
  rcases h x hx with rfl | rfl | rfl | rfl <;> decide
theorem lay_dS : ∀ (L : List (List Nat)), (∀ l ∈ L, ∀ c ∈ l, isSg c) → PyData.canLayAll0 (L.map dS) = true ∧ PyData.depthAll (L.map dS) = 0
  | [], _ => by simp [PyData.canLayAll0, PyData.depthAll]
  | l :: L, h => by
    obtain ⟨h1, h2⟩ := lay_dS L fun x hx => h x (List.mem_cons_of_mem _ hx)
    have := strOk_tx (h l List.mem_cons_self)
    simp [PyData.canLayAll0, PyData.depthAll, PyData.canLay0, PyData.depth, dS, this, h1, h2] at h1 h2 ⊢
theorem shaped_list {L : List (List Nat)} (h : ∀ l ∈ L, ∀ c ∈ l, isSg c) : SeqAt.shaped (.list (L.map dS)) = true := by
  obtain ⟨h1, h2⟩ := lay_dS L h
  simp [SeqAt.shaped, PyData.canLay0, PyData.depth, h1, h2]
theorem shaped_tuple {L : List (List Nat)} (h : ∀ l ∈ L, ∀ c ∈ l, isSg c) : SeqAt.shaped (.tuple (L.map dS)) = true := by
  obtain ⟨h1, h2⟩ := lay_dS L h
  simp [SeqAt.shaped, PyData.canLay0, PyData.depth, h1, h2]
/-- a list of texts, not empty -/
theorem neD_nilL {L : List (List Nat)} (h : ∀ l ∈ L, ∀ c ∈ l, isSg c) : neD (.list (L.map dS)) (.list []) = some (.bool (decide (L ≠ []))) := by
  rw [neD_of _ _ (shaped_list h) rfl]
  cases L <;> simp
theorem lcL2_fm {α : Type} {b : Bd} {t : M Bool} {vs1 : List Nat} {it1 : M (List D)} {b1 : Bd} {t1 : M Bool} {e : M D} {s : S} (g : α → D) (h : α → List D) : ∀ (xs : List α) (c : Int × Int), (∀ x ∈ xs, ∃ s1 ds1, b (g x) (s.wc c) = some s1 ∧ t s1 = .ok true c ∧ it1 (s1.wc c) = .ok ds1 c ∧ lcL b1 t1 e (wipeS (s1.wc c) vs1) ds1 c = .ok (h x) c) → lcL2 b t vs1 it1 b1 t1 e s (xs.map g) c = .ok (xs.flatMap h) c
  | [], c, _ => rfl
  | x :: xs, c, H => by
    obtain ⟨s1, ds1, h1, h2, h3, h4⟩ := H x List.mem_cons_self
    have ih := lcL2_fm (b := b) (t := t) (vs1 := vs1) (it1 := it1) (b1 := b1) (t1 := t1) (e := e) (s := s) g h xs c fun y hy => H y (List.mem_cons_of_mem _ hy)
    rw [List.map_cons]
    unfold lcL2
    simp only [h1, h2, h3, h4, ih]
    rfl
/-- a front -/
def dF (f : List (List Nat)) : D := .tuple (f.map dS)
structure Frt (f : List (List Nat)) : Prop where
  c : ∀ l ∈ f, Crs l
  n0 : 1 ≤ f.length
  n1 : f.length ≤ 24
  z : ∀ l ∈ f, ∀ m ∈ f, len l = len m
theorem ffront_ok {f : List (List Nat)} (h : Frt f) : phi_fits_front [dF f] = .ok (.bool true) := by
  have n0 := h.n0
  have n1 := h.n1
  obtain ⟨l0, hl0⟩ : ∃ l0, f[0]? = some l0 := ⟨_, List.getElem?_eq_getElem (by omega)⟩
  have ha : atI (f.map dS) 0 = some (dS l0) := by
    have := atI_nat (xs := f.map dS) (j := 0) (by rw [List.getElem?_map, hl0]; rfl)
    simpa using this
  have hm0 : l0 ∈ f := List.mem_of_getElem? hl0
  have key : ∀ s : S, s.r = [.fz (.tuple (f.map dS)), .no] → lcL (bName 1) mYes (mCall phi_fits_course (aCons (slE 1) aNil)) s (f.map dS) (0, 0) = .ok (f.map fun c => .bool true) (0, 0) := fun s hs => by
    refine lcL_over _ _ _ _ fun x hx => ⟨_, rfl, rfl, ?_⟩
    simp [hs, fcourse_ok (h.c x hx)]
  have key2 : ∀ s : S, s.r = [.fz (.tuple (f.map dS)), .no] → lcL (bName 1) mYes (m2 eqD (mCall phi_length_in (aCons (slE 1) aNil)) (mCall phi_length_in (aCons (m2 ixD (slB 0) (rt (.int 0))) aNil))) s (f.map dS) (0, 0) = .ok (f.map fun c => .bool true) (0, 0) := fun s hs => by
    refine lcL_over _ _ _ _ fun x hx => ⟨_, rfl, rfl, ?_⟩
    have c0 := h.c x hx
    have c1 := h.c l0 hm0
    have a0 := c0.n1
    have a1 := c1.n1
    simp [hs, lenin_ok c0.s (by omega), lenin_ok c1.s (by omega), ha, h.z x hx l0 hm0]
  have lo : lenOk (f.map fun c => PyData.bool true) = true := lenOk_tt (by simp; omega)
  have i0 : (1 : Int) ≤ f.length := by omega
  have i1 : (f.length : Int) ≤ 24 := by omega
  have e1 : boolsD (f.map fun c => PyData.bool true) = some (f.map fun _ => true) := boolsD_map (fun _ => true) f
  have e2 : (f.map fun _ => true).all id = true := by simp
  simp only [phi_fits_front, b_fits_front, st0, dF]
  simp [tupof_ok, i0, i1, key, key2, lo, e1, e2]
theorem nfront_ok {f : List (List Nat)} (h : Frt f) : phi_need_front [dF f] = .ok .none := by
  simp [phi_need_front, b_need_front, ffront_ok h]
structure Ga (q m : Int) : Prop where
  q1 : 1 ≤ q
  q2 : q ≤ 200
  m0 : 0 ≤ m
  m1 : m ≤ 50
  mq : m < q
theorem need_gauge_ok {q m : Int} (g : Ga q m) : phi_need_gauge [.int q, .int m] = .ok .none := by
  obtain ⟨a, b, c, d, e⟩ := g
  have : m ≤ (if q - 1 < 50 then q - 1 else 50) := by split <;> omega
  simp [phi_need_gauge, b_need_gauge, fits_ok, a, b, c, this]
theorem mulS {l : List Nat} {k : Int} (h : l.length ≤ 1000) (h0 : 0 < k) (h1 : k ≤ 1000) : mulD (dS l) (.int k) = some (dS (List.replicate k.toNat l).flatten) := by
  have e : mulD (dS l) (.int k) = some (.str (repS (tx l) k)) := if_pos (repOk_i.mpr ⟨by omega, h1, by simpa using h⟩)
  rw [e, repS_cps _ (by omega)]
  rfl
/-- a loop over a list, with what holds of the part that is done -/
theorem loop_list {α : Type} {b : Bd} {body : MS} (g : α → D) (Pv : List α → S → Prop) : ∀ (xs pre : List α) (s : S), Pv pre s → (∀ p x r s, pre ++ xs = p ++ x :: r → Pv p s → ∃ s1 s2, b (g x) s = some s1 ∧ (body s1 = .next s2 ∨ body s1 = .cnt s2) ∧ Pv (p ++ [x]) s2) → ∃ s', loopL b body (xs.map g) s = .next s' ∧ Pv (pre ++ xs) s'
  | [], pre, s, h, _ => ⟨s, rfl, by simpa using h⟩
  | x :: xs, pre, s, h, hb => by
    obtain ⟨s1, s2, e1, e2, h2⟩ := hb pre x xs s rfl h
    obtain ⟨s', e3, h3⟩ := loop_list g Pv xs (pre ++ [x]) s2 h2 fun p y r s e hp => hb p y r s (by rw [← e]; simp) hp
    refine ⟨s', ?_, by simpa using h3⟩
    rw [List.map_cons]
    unfold loopL
    rw [e1]
    rcases e2 with e2 | e2 <;> simp only [e2] <;> exact e3
/-! ### random courses -/
section
variable {roll : Int × Int → List D → R D} (hr : RollOk roll)
include hr
theorem rsome_ok {c : Int × Int} (hc : CupOk c) {xs : List D} (h0 : xs ≠ []) (h1 : xs.length < 10000000) : ∃ d c', phi_law_some roll c [.list xs] = .ok d c' ∧ CupOk c' ∧ d ∈ xs := gSome_ok hr hc h0 h1
theorem rsome_okT {c : Int × Int} (hc : CupOk c) {xs : List D} (h0 : xs ≠ []) (h1 : xs.length < 10000000) : ∃ d c', phi_law_some roll c [.tuple xs] = .ok d c' ∧ CupOk c' ∧ d ∈ xs := gSome_okT hr hc h0 h1
theorem rsome_okS {c : Int × Int} (hc : CupOk c) {l : List Nat} (h0 : l ≠ []) (h1 : l.length < 10000000) : ∃ d c', phi_law_some roll c [dS l] = .ok (.str (sg d)) c' ∧ CupOk c' ∧ d ∈ l := by
  have hp : 0 < l.length := List.length_pos_iff.mpr h0
  obtain ⟨r, c', e, hc', r0, r1⟩ := hr c hc l.length (by omega) (by omega)
  have ix : ixD (dS l) (.int r) = some (.str (sg l[r.toNat])) := by
    have := ixD_s r (tx l) (leN_tt (by simp; omega))
    rw [show dS l = .str (tx l) from rfl, this, cps_tx, atI_get r0 r1]
    rfl
  refine ⟨l[r.toNat], c', ?_, hc', List.getElem_mem _⟩
  simp only [phi_law_some, b_law_some, st0]
  simp [lenD_dS (show l.length ≤ 16777216 by omega), e, ix]
omit hr in
theorem addS {l m : List Nat} (h : l.length + m.length ≤ 16777216) : addD (dS l) (dS m) = some (dS (l ++ m)) := by
  have := addD_s (tx l) (tx m) (leN_tt (by simpa using h))
  rw [tx_app] at this
  exact this
/-- the whole number in a slot -/
def slI (s : S) (i : Nat) : Nat := match s.r[i]? with
  | some (.fz (.int j)) => j.toNat
  | _ => 0
/-- a random course of a length -/
structure Row (n : Int) (l : List Nat) : Prop where
  s : ∀ c ∈ l, isSg c
  z : len l = n
omit hr in
theorem Row.len {n : Int} {l : List Nat} (h : Row n l) : (l.length : Int) ≤ n := by rw [← h.z]; exact len_ge l
theorem rrow_ok {c : Int × Int} (hc : CupOk c) {n : Int} (h0 : 0 ≤ n) (h1 : n ≤ 100000) : ∃ l c', phi_law_row roll c [.int n] = .ok (dS l) c' ∧ CupOk c' ∧ Row n l := by
  obtain ⟨L, hL⟩ : ∃ L : List Nat, L = [115, 104, 116, 113] := ⟨_, rfl⟩
  have hit : iterD (.str "shtq") = some (L.map fun c => .str (sg c)) := by rw [hL]; exact iter_tx [115, 104, 116, 113]
  have Lsg : ∀ x ∈ L, isSg x := by subst hL; decide
  have step := while_inv (t := mB (m2 gtD (slB 3) (rt (.int 0)))) (body := (mSeq (mSetE 4 (mCallC 0 (phi_law_some roll) (aCons (mLc [5] (mI iterD (rt (.str "shtq"))) (bName 5) (mB (m2 leD (mCall phi_law_size (aCons (slE 5) aNil)) (slB 3))) (slE 5)) aNil))) (mFrz 4 (mBind (bTup [(bName 2), (bName 3)]) (mTup (aCons (m2 addD (slB 2) (slB 4)) (aCons (m2 subD (slB 3) (mCall phi_law_size (aCons (slE 4) aNil))) aNil)))))))
    (fun s => CupOk s.c ∧ ∃ (l : List Nat) (left : Int) (x4 : Sl), s.r = [.cup, .fz (.int n), .fz (dS l), .fz (.int left), x4, .no] ∧ (∀ c ∈ l, isSg c) ∧ len l + left = n ∧ 0 ≤ left)
    (fun s => slI s 3) (fun s ⟨hc, l, left, x4, hs, hl, hz, h0⟩ => by
      obtain ⟨c, r⟩ := s
      simp only at hs hc
      subst hs
      by_cases hp : 0 < left
      · refine .inr ⟨by simp [hp], ?_⟩
        have key : ∀ s : S, s.r = [.cup, .fz (.int n), .fz (dS l), .fz (.int left), x4, .no] → lcL (bName 5) (mB (m2 leD (mCall phi_law_size (aCons (slE 5) aNil)) (slB 3))) (slE 5) s (L.map fun c => .str (sg c)) c = .ok ((L.filter fun c => decide (siz c ≤ left)).map fun c => .str (sg c)) c := fun s hs => by
          refine lcL_overF _ _ _ _ _ fun x hx => ⟨_, rfl, ?_, fun _ => ?_⟩
          · have hx : isSg x := Lsg x hx
            have e := size_ok (l := [x]) (by simpa using hx) (by simp)
            rw [show dS [x] = .str (sg x) from rfl] at e
            simp [hs, e]
          · simp [hs]
        have ne : ((L.filter fun c => decide (siz c ≤ left)).map fun c => PyData.str (sg c)) ≠ [] := by
          intro e
          have e := List.map_eq_nil_iff.mp e
          have := List.filter_eq_nil_iff.mp e 113 (by rw [hL]; simp)
          simp [siz] at this
          omega
        have le : ((L.filter fun c => decide (siz c ≤ left)).map fun c => PyData.str (sg c)).length ≤ 4 := by
          rw [List.length_map]; have := List.length_filter_le (fun c => decide (siz c ≤ left)) L; rw [hL] at this ⊢; exact this
        obtain ⟨d, c', e1, hc', hd⟩ := rsome_ok hr hc ne (by omega)
        obtain ⟨x, hx, rfl⟩ := List.mem_map.mp hd
        obtain ⟨hx1, hx2⟩ := List.mem_filter.mp hx
        have hx2 : siz x ≤ left := by simpa using hx2
        have hx : isSg x := Lsg x hx1
        have e := size_ok (l := [x]) (by simpa using hx) (by simp)
        rw [show dS [x] = .str (sg x) from rfl] at e
        have ll := len_ge l
        have ea : addD (dS l) (.str (sg x)) = some (dS (l ++ [x])) := addS (l := l) (m := [x]) (by rw [List.length_singleton]; omega)
        have sp := siz_pos x
        have lo := lenOk_tt (show _ ≤ 16777216 from Nat.le_trans le (by decide))
        refine ⟨⟨c', [.cup, .fz (.int n), .fz (dS (l ++ [x])), .fz (.int (left - siz x)), .fz (.str (sg x)), .no]⟩, .inl ?_, ⟨hc', l ++ [x], left - siz x, _, rfl, ?_, by simp; omega, by omega⟩, ?_⟩
        · have e3 : slF (dS (l ++ [x])) = .fz (dS (l ++ [x])) := rfl
          simp [-iterD_s, hit, key, lo, e1, e, ea]
        · intro y hy
          rcases List.mem_append.mp hy with hy | hy
          · exact hl y hy
          · have : y = x := by simpa using hy
            subst this; exact hx
        · simp [slI]; omega
      · exact .inl (by simp [hp]))
  obtain ⟨s', e1, ⟨hc', l, left, x4, hs, hl, hz, hl0⟩, e2⟩ := step fuel ⟨c, [.cup, .fz (.int n), .fz (dS []), .fz (.int n), .no, .no]⟩ ⟨hc, [], n, .no, rfl, by simp, by simp, h0⟩ (by show n.toNat < 200000; omega)
  obtain ⟨c', r⟩ := s'
  simp only at hs hc'
  subst hs
  have left0 : left = 0 := by
    by_cases hp : 0 < left
    · simp [hp] at e2
    · omega
  refine ⟨l, c', ?_, hc', hl, by omega⟩
  have e1 : mWhile fuel (mB (m2 gtD (slB 3) (rt (.int 0)))) _ ⟨c, [.cup, .fz (.int n), .fz (.str ""), .fz (.int n), .no, .no]⟩ = _ := e1
  simp only [phi_law_row, b_law_row, st0]
  simp [e1]
omit hr in
theorem fs_of {P : List Nat → Prop} : ∀ (ds : List D), (∀ d ∈ ds, ∃ l, d = dS l ∧ P l) → ∃ f : List (List Nat), ds = f.map dS ∧ ∀ l ∈ f, P l
  | [], _ => ⟨[], rfl, by simp⟩
  | d :: ds, h => by
    obtain ⟨l, rfl, hl⟩ := h d List.mem_cons_self
    obtain ⟨f, rfl, hf⟩ := fs_of ds fun x hx => h x (List.mem_cons_of_mem _ hx)
    refine ⟨l :: f, rfl, fun x hx => ?_⟩
    rcases List.mem_cons.mp hx with rfl | hx
    · exact hl
    · exact hf x hx
theorem rfront_ok {c : Int × Int} (hc : CupOk c) {high most : Int} (h0 : 0 < high) (h1 : high ≤ 10000) (m0 : 0 < most) (m1 : most ≤ 10000) :
    ∃ f c', phi_law_front roll c [.int high, .int most] = .ok (dF f) c' ∧ CupOk c' ∧ 1 ≤ f.length ∧ (f.length : Int) ≤ high ∧ ∃ n, 1 ≤ n ∧ n ≤ most ∧ ∀ l ∈ f, Row n l := by
  obtain ⟨n, c1, e1, hc1, n0, n1⟩ := hr c hc most m0 (by omega)
  obtain ⟨k, c2, e2, hc2, k0, k1⟩ := hr c1 hc1 high h0 (by omega)
  obtain ⟨ds, c3, e3, hc3, hl, hd⟩ := lcL_draw (b := bName 4) (e := mCallC 0 (phi_law_row roll) (aCons (slE 3) aNil)) (s := ⟨c2, [.cup, .fz (.int high), .fz (.int most), .fz (.int (1 + n)), .no]⟩) CupOk (fun d => ∃ l, d = dS l ∧ Row (1 + n) l) (ints2 0 (1 + k).toNat) c2 hc2 (fun x _ c hc => by
    obtain ⟨l, c', e, hc', hl⟩ := rrow_ok hr hc (n := 1 + n) (by omega) (by omega)
    exact ⟨_, dS l, c', rfl, by simp [e], hc', l, rfl, hl⟩)
  obtain ⟨f, rfl, hf⟩ := fs_of ds hd
  have hl : f.length = (1 + k).toNat := by simpa using hl
  have er : rng1D (.int (1 + k)) = some (ints2 0 (1 + k).toNat) := rng1_ok (by omega) (by omega)
  have lo : lenOk (f.map dS) = true := lenOk_tt (by simp; omega)
  refine ⟨f, c3, ?_, hc3, by omega, by omega, 1 + n, by omega, by omega, hf⟩
  simp only [phi_law_front, b_law_front, st0]
  simp [e1, e2, er, e3, lo, dF]
theorem rcourse_ok {c : Int × Int} (hc : CupOk c) {most : Int} (m0 : 0 < most) (m1 : most ≤ 24) : ∃ l c', phi_law_course roll c [.int most] = .ok (dS l) c' ∧ CupOk c' ∧ Crs l ∧ (l.length : Int) ≤ most := by
  obtain ⟨k, c1, e1, hc1, k0, k1⟩ := hr c hc most m0 (by omega)
  have er : rng1D (.int (1 + k)) = some (ints2 0 (1 + k).toNat) := rng1_ok (by omega) (by omega)
  have loop := loop_idx (b := bName 3) (body := (mSeq (mSetE 4 (mCallC 0 (phi_law_some roll) (aCons (rt (.str "ssshhtq")) aNil))) (mSetE 2 (mIf (mB (m2 ltD (mCall phi_law_size (aCons (m2 addD (slB 2) (slB 4)) aNil)) (rt (.int 61)))) (m2 addD (slB 2) (slB 4)) (slE 2)))))
    (fun i s => CupOk s.c ∧ ∃ (l : List Nat) (x3 x4 : Sl), s.r = [.cup, .fz (.int most), .fz (dS l), x3, x4] ∧ (∀ c ∈ l, isSg c) ∧ len l ≤ 60 ∧ l.length ≤ i ∧ (0 < i → 1 ≤ l.length)) (ints2 0 (1 + k).toNat) 0 ⟨c1, [.cup, .fz (.int most), .fz (dS []), .no, .no]⟩ ⟨hc1, [], .no, .no, rfl, by simp, by simp, by simp, by simp⟩
    (fun i x s _ ⟨hc, l, x3, x4, hs, hl, hz, hn, h1⟩ => by
      obtain ⟨c, r⟩ := s
      simp only at hs hc
      subst hs
      have e0 : (PyData.str "ssshhtq") = dS [115, 115, 115, 104, 104, 116, 113] := rfl
      obtain ⟨d, c', e, hc', hd⟩ := rsome_okS hr hc (l := [115, 115, 115, 104, 104, 116, 113]) (by simp) (by simp)
      rw [← e0] at e
      have hd : isSg d := by revert hd; simp [isSg]
      have ll := len_ge l
      have ea : addD (dS l) (.str (sg d)) = some (dS (l ++ [d])) := addS (l := l) (m := [d]) (by rw [List.length_singleton]; omega)
      have hall : ∀ y ∈ l ++ [d], isSg y := fun y hy => by
        rcases List.mem_append.mp hy with hy | hy
        · exact hl y hy
        · have : y = d := by simpa using hy
          subst this; exact hd
      have es := size_ok hall (by simp; omega)
      have e3 : ∀ l, slF (dS l) = .fz (dS l) := fun _ => rfl
      have sl := siz_le d
      by_cases hq : len l + siz d < 61
      · refine ⟨_, ⟨c', [.cup, .fz (.int most), .fz (dS (l ++ [d])), .fz x, .fz (.str (sg d))]⟩, rfl, .inl ?_, hc', l ++ [d], _, _, rfl, hall, by simp; omega, by simp; omega, by simp⟩
        have hq' : len (l ++ [d]) < 61 := by simp; omega
        simp only [len_app, len_cons, len_nil, Int.add_zero] at es
        simp [e, ea, es, hq]
      · refine ⟨_, ⟨c', [.cup, .fz (.int most), .fz (dS l), .fz x, .fz (.str (sg d))]⟩, rfl, .inl ?_, hc', l, _, _, rfl, hl, hz, by omega, fun _ => ?_⟩
        · simp only [len_app, len_cons, len_nil, Int.add_zero] at es
          simp [e, ea, es, hq]
        · cases l with
          | nil => simp at hq; omega
          | cons _ _ => simp)
  obtain ⟨s', e2, hc', l, x3, x4, hs, hl, hz, hn, hn1⟩ := loop
  obtain ⟨c', r⟩ := s'
  simp only at hs hc'
  subst hs
  simp only [ints2_len, Nat.zero_add] at hn hn1
  refine ⟨l, c', ?_, hc', ⟨hl, hn1 (by omega), by omega, hz⟩, by omega⟩
  have e2 : loopL _ _ _ ⟨c1, [.cup, .fz (.int most), .fz (.str ""), .no, .no]⟩ = _ := e2
  simp only [phi_law_course, b_law_course, st0]
  simp [e1, er, e2]
theorem gauge_ok {c : Int × Int} (hc : CupOk c) : ∃ q m c', phi_law_gauge roll c [] = .ok (.tuple [.int q, .int m]) c' ∧ CupOk c' ∧ Ga q m := by
  obtain ⟨d, c1, e1, hc1, hd⟩ := rsome_ok hr hc (xs := [.int 3, .int 70, .int 200]) (by simp) (by simp)
  obtain ⟨n, rfl, hn⟩ : ∃ n, d = .int n ∧ (3 ≤ n ∧ n ≤ 200) := by
    simp at hd; rcases hd with rfl | rfl | rfl <;> exact ⟨_, rfl, by decide⟩
  obtain ⟨r, c2, e2, hc2, r0, r1⟩ := hr c1 hc1 n (by omega) (by omega)
  obtain ⟨m, c3, e3, hc3, m0, m1⟩ := hr c2 hc2 (if 1 + r < 51 then 1 + r else 51) (by split <;> omega) (by split <;> omega)
  refine ⟨1 + r, m, c3, ?_, hc3, by omega, by omega, m0, by split at m1 <;> omega, by split at m1 <;> omega⟩
  simp [phi_law_gauge, b_law_gauge, e1, e2, e3]
end
end Pu
end

noncomputable section
set_option Elab.async false
set_option linter.all false
set_option maxRecDepth 100000
set_option maxHeartbeats 8000000
namespace Pu
open PySem PySem.Spec L2
def topS (i : Nat) : Stmt := PySem.Challenge.pw_brickbonds_k90_whole_ends_that_meet.main.body.getD i (.Pass ⟨0, 0, 0, 0⟩)
abbrev s_is_whole : Stmt := topS 9
theorem sc_is_whole : FnScope ["value"] ["value"] (defScope s_is_whole) := ⟨rfl, rfl, rfl, by decide +kernel, rfl, by decide +kernel, by decide +kernel⟩
abbrev s_fits_whole : Stmt := topS 10
theorem sc_fits_whole : FnScope ["value", "low", "high"] ["value", "low", "high"] (defScope s_fits_whole) := ⟨rfl, rfl, rfl, by decide +kernel, rfl, by decide +kernel, by decide +kernel⟩
abbrev s_fits_course : Stmt := topS 11
theorem sc_fits_course : FnScope ["value", "sign"] ["value"] (defScope s_fits_course) := ⟨rfl, rfl, rfl, by decide +kernel, rfl, by decide +kernel, by decide +kernel⟩
abbrev s_need_course : Stmt := topS 12
theorem sc_need_course : FnScope ["value"] ["value"] (defScope s_need_course) := ⟨rfl, rfl, rfl, by decide +kernel, rfl, by decide +kernel, by decide +kernel⟩
abbrev s_length_in : Stmt := topS 13
theorem sc_length_in : FnScope ["course", "sign"] ["course"] (defScope s_length_in) := ⟨rfl, rfl, rfl, by decide +kernel, rfl, by decide +kernel, by decide +kernel⟩
abbrev s_is_course : Stmt := topS 14
theorem sc_is_course : FnScope ["value"] ["value"] (defScope s_is_course) := ⟨rfl, rfl, rfl, by decide +kernel, rfl, by decide +kernel, by decide +kernel⟩
def b_is_course : MS := (mRet (mCall phi_fits_course (aCons (slE 0) aNil)))
def phi_is_course (ds : List D) : O := fin (b_is_course ⟨(0, 0), st0 1 ds⟩)
abbrev s_length_of : Stmt := topS 15
theorem sc_length_of : FnScope ["course"] ["course"] (defScope s_length_of) := ⟨rfl, rfl, rfl, by decide +kernel, rfl, by decide +kernel, by decide +kernel⟩
abbrev s_need_units : Stmt := topS 18
theorem sc_need_units : FnScope ["value"] ["value"] (defScope s_need_units) := ⟨rfl, rfl, rfl, by decide +kernel, rfl, by decide +kernel, by decide +kernel⟩
abbrev s_closing_bricks : Stmt := topS 19
theorem sc_closing_bricks : FnScope ["left", "right", "length", "one", "gap", "many", "found", "sign"] ["left", "right", "length"] (defScope s_closing_bricks) := ⟨rfl, rfl, rfl, by decide +kernel, rfl, by decide +kernel, by decide +kernel⟩
abbrev s_reaches : Stmt := topS 21
theorem sc_reaches : FnScope ["at", "end", "many"] ["at", "end", "many"] (defScope s_reaches) := ⟨rfl, rfl, rfl, by decide +kernel, rfl, by decide +kernel, by decide +kernel⟩
abbrev s_fewest_closing : Stmt := topS 20
theorem sc_fewest_closing : FnScope ["left", "right", "length", "one", "gap", "many", "size", "rows", "turn", "row", "sign"] ["left", "right", "length"] (defScope s_fewest_closing) := ⟨rfl, rfl, rfl, by decide +kernel, rfl, by decide +kernel, by decide +kernel⟩
abbrev s_law_cup : Stmt := topS 23
theorem sc_law_cup : FnScope ["script", "cell"] ["script"] (defScope s_law_cup) := ⟨rfl, rfl, rfl, by decide +kernel, rfl, by decide +kernel, by decide +kernel⟩
def b_law_cup : MS := (mSeq (mSetF 1 (m1 absD (m2 ixD (m2 addD (sqL 0) (mLst (aCons (rt (.int 0)) aNil))) (rt (.int 0))))) (mRet (mLst (aCons (mIf (mB (m2 geD (slB 1) (m2 powD (rt (.int 10)) (rt (.int 18))))) (m2 fdivD (slB 1) (rt (.int 347))) (rt (.int 0))) (aCons (m2 addD (m2 modD (m1 intD (m2 addD (m2 mulD (slB 1) (rt (.int 587))) (rt (.int 4363)))) (rt (.int 2077503001))) (rt (.int 457))) aNil)))))
def phi_law_cup (ns : List Int) : O := fin (b_law_cup ⟨(0, 0), .sq (ns.map .int) :: List.replicate 1 .no⟩)
abbrev s_law_roll : Stmt := topS 24
theorem sc_law_roll : FnScope ["cup", "many", "found", "deep"] ["cup", "many"] (defScope s_law_roll) := ⟨rfl, rfl, rfl, by decide +kernel, rfl, by decide +kernel, by decide +kernel⟩
def b_law_roll : MS := (mSeq (mIfS (mB (m2 gtD (cupGet 0 0) (rt (.int 0)))) (mSeq (mSetF 2 (m2 modD (m1 intD (cupGet 0 0)) (slB 1))) (mSeq (mCupSet 0 0 (m2 fdivD (cupGet 0 0) (slB 1))) (mRet (slE 2)))) mNext) (mSeq (mCupSet 0 1 (m2 modD (m1 intD (m2 addD (m2 mulD (cupGet 0 1) (rt (.int 31391))) (rt (.int 8369)))) (rt (.int 2147482801)))) (mSeq (mSetF 3 (m2 modD (m1 intD (m2 mulD (cupGet 0 1) (m2 addD (cupGet 0 1) (rt (.int 557))))) (rt (.int 2147483059)))) (mRet (m2 modD (m1 intD (m2 fdivD (slB 3) (rt (.int 1091)))) (slB 1))))))
def phi_law_roll (c : Int × Int) (ds : List D) : R D := finC (b_law_roll ⟨c, .cup :: st0 3 ds⟩)
abbrev s_law_some : Stmt := topS 25
theorem sc_law_some : FnScope ["cup", "things"] ["cup", "things"] (defScope s_law_some) := ⟨rfl, rfl, rfl, by decide +kernel, rfl, by decide +kernel, by decide +kernel⟩
abbrev s_law_same : Stmt := topS 26
theorem sc_law_same : FnScope ["told", "due", "at"] ["told", "due"] (defScope s_law_same) := ⟨rfl, rfl, rfl, by decide +kernel, rfl, by decide +kernel, by decide +kernel⟩
abbrev s_law_size : Stmt := topS 27
theorem sc_law_size : FnScope ["course", "sign"] ["course"] (defScope s_law_size) := ⟨rfl, rfl, rfl, by decide +kernel, rfl, by decide +kernel, by decide +kernel⟩
abbrev s_law_end : Stmt := topS 28
theorem sc_law_end : FnScope ["cup", "most", "brick"] ["cup", "most"] (defScope s_law_end) := ⟨rfl, rfl, rfl, by decide +kernel, rfl, by decide +kernel, by decide +kernel⟩
def b_law_end (phi_law_roll : Int × Int → List D → R D) : MS := (mRet (mJoin "" (mLc [2] (mI rng1D (mCallC 0 phi_law_roll (aCons (m2 addD (slB 1) (rt (.int 1))) aNil))) (bName 2) mYes (mCallC 0 (phi_law_some phi_law_roll) (aCons (rt (.str "hqst")) aNil)))))
def phi_law_end (phi_law_roll : Int × Int → List D → R D) (c : Int × Int) (ds : List D) : R D := finC (b_law_end phi_law_roll ⟨c, .cup :: st0 2 ds⟩)
abbrev s_law_rows : Stmt := topS 29
theorem sc_law_rows : FnScope ["many", "found", "brick", "row"] ["many"] (defScope s_law_rows) := ⟨rfl, rfl, rfl, by decide +kernel, rfl, by decide +kernel, by decide +kernel⟩
def b_law_rows : MS := (mSeq (mSetF 1 (mLst (aCons (rt (.str "")) aNil))) (mSeq (mFor (bName 2) (mI rng1D (slB 0)) (mFrz 1 (mSetF 1 (m1 sortD (m2 addD (m2 addD (m2 addD (mLc [3] (mI iterD (slE 1)) (bName 3) mYes (m2 addD (slB 3) (rt (.str "h")))) (mLc [3] (mI iterD (slE 1)) (bName 3) mYes (m2 addD (slB 3) (rt (.str "q"))))) (mLc [3] (mI iterD (slE 1)) (bName 3) mYes (m2 addD (slB 3) (rt (.str "s"))))) (mLc [3] (mI iterD (slE 1)) (bName 3) mYes (m2 addD (slB 3) (rt (.str "t"))))))))) (mFrz 1 (mRet (slE 1)))))
def phi_law_rows (ds : List D) : O := fin (b_law_rows ⟨(0, 0), st0 4 ds⟩)
abbrev s_law : Stmt := topS 30
theorem sc_law : FnScope ["script", "cup", "turn", "left", "right", "ends", "length", "due", "sign", "row", "best", "many", "good", "told"] ["script"] (defScope s_law) := ⟨rfl, rfl, rfl, by decide +kernel, rfl, by decide +kernel, by decide +kernel⟩
def b_law : MS := (mSeq (mFor (bName 2) (mI rng1D (rt (.int 8))) (mSeq (mBind (bTup [(bName 3), (bName 4)]) (mTup (aCons (mCallC 1 (phi_law_end phi_law_roll) (aCons (rt (.int 4)) aNil)) (aCons (mCallC 1 (phi_law_end phi_law_roll) (aCons (rt (.int 4)) aNil)) aNil)))) (mSeq (mSetE 5 (mCall phi_law_size (aCons (m2 addD (slB 3) (slB 4)) aNil))) (mSeq (mSetF 6 (m2 max2D (rt (.int 1)) (m2 min2D (rt (.int 40)) (m2 subD (m2 addD (slB 5) (mCallC 1 phi_law_roll (aCons (rt (.int 16)) aNil))) (rt (.int 2)))))) (mSeq (mSetF 7 (mLst aNil)) (mSeq (mFor (bName 8) (mI iterD (mTup (aCons (rt (.str "")) (aCons (rt (.str "h")) (aCons (rt (.str "q")) (aCons (rt (.str "s")) (aCons (rt (.str "t")) aNil))))))) (mSeq (mSetF 9 (m2 addD (m2 addD (slB 3) (slB 8)) (slB 4))) (mFrz 9 (mSetF 7 (m2 addD (slB 7) (mIf (mAnd (mB (m2 neD (slB 9) (rt (.str "")))) (mB (m2 eqD (mCall phi_law_size (aCons (slE 9) aNil)) (slB 6)))) (mLst (aCons (slE 8) aNil)) (mLst aNil))))))) (mSeq (mIfS (mNot (mB (mCall phi_law_same (aCons (mCall phi_closing_bricks (aCons (slE 3) (aCons (slE 4) (aCons (slE 6) aNil)))) (aCons (m1 tupD (slB 7)) aNil))))) (mRet (rt (.bool false))) mNext) (mSeq (mSetF 10 (rt .none)) (mSeq (mFor (bName 11) (mI rng1D (rt (.int 5))) (mSeq (mFrz 9 (mSetF 12 (mLc [9] (mI iterD (mCall phi_law_rows (aCons (slE 11) aNil))) (bName 9) (mAnd (mB (m2 neD (m2 addD (m2 addD (slB 3) (slB 9)) (slB 4)) (rt (.str "")))) (mB (m2 eqD (mCall phi_law_size (aCons (m2 addD (m2 addD (slB 3) (slB 9)) (slB 4)) aNil)) (slB 6)))) (slE 9)))) (mIfS (mAnd (mB (m2 isD (slB 10) (rt .none))) (mB (m2 neD (slB 12) (mLst aNil)))) (mSetE 10 (m2 ixD (slB 12) (rt (.int 0)))) mNext))) (mSeq (mSetE 13 (mCall phi_fewest_closing (aCons (slE 3) (aCons (slE 4) (aCons (slE 6) aNil))))) (mSeq (mFrz 13 (mFrz 10 (mIfS (mNot (mB (mCall phi_law_same (aCons (slE 13) (aCons (slE 10) aNil))))) (mRet (rt (.bool false))) mNext))) (mIfS (mAnd (mB (m2 isnD (slB 13) (rt .none))) (mOr (mNot (mB (mCall phi_is_course (aCons (m2 addD (m2 addD (slB 3) (slB 13)) (slB 4)) aNil)))) (mB (m2 neD (mCall phi_length_of (aCons (m2 addD (m2 addD (slB 3) (slB 13)) (slB 4)) aNil)) (slB 6))))) (mRet (rt (.bool false))) mNext)))))))))))) (mSeq (mSetF 11 (m2 addD (rt (.int 20)) (mCallC 1 phi_law_roll (aCons (rt (.int 5)) aNil)))) (mSeq (mSetF 13 (mTup (aCons (mCall phi_fewest_closing (aCons (m2 mulD (rt (.str "q")) (slB 11)) (aCons (rt (.str "")) (aCons (rt (.int 40)) aNil)))) (aCons (mCall phi_closing_bricks (aCons (m2 mulD (rt (.str "q")) (slB 11)) (aCons (rt (.str "")) (aCons (m2 addD (slB 11) (rt (.int 1))) aNil)))) (aCons (mCall phi_closing_bricks (aCons (m2 mulD (rt (.str "q")) (rt (.int 12))) (aCons (m2 mulD (rt (.str "q")) (rt (.int 12))) (aCons (rt (.int 24)) aNil)))) (aCons (mCall phi_closing_bricks (aCons (m2 mulD (rt (.str "q")) (rt (.int 13))) (aCons (m2 mulD (rt (.str "q")) (rt (.int 12))) (aCons (rt (.int 25)) aNil)))) aNil)))))) (mFrz 13 (mRet (mAndV (mCall phi_law_same (aCons (slE 13) (aCons (mTup (aCons (rt .none) (aCons (mIf (mB (m2 ltD (slB 11) (rt (.int 24)))) (mTup (aCons (rt (.str "q")) aNil)) (mTup aNil)) (aCons (mTup (aCons (rt (.str "")) aNil)) (aCons (mTup aNil) aNil))))) aNil))) (m2 eqD (mCall phi_fewest_closing (aCons (m2 mulD (rt (.str "q")) (rt (.int 19))) (aCons (rt (.str "")) (aCons (rt (.int 39)) aNil)))) (rt (.str "sssss")))))))))
theorem cup_ok (ns : List Int) (h : ns.length ≤ 63) : ∃ a b : Int, phi_law_cup ns = .ok (.list [.int a, .int b]) ∧ CupOk (a, b) := gCup_ok 347 587 4363 2077503001 457 (by decide) (by decide) (by decide) (by decide) ns h
theorem roll_ok : RollOk phi_law_roll := fun c hc m h0 h1 => gRoll_ok 31391 8369 2147482801 557 2147483059 1091 (by decide) (by decide) (by decide) (by decide) hc h0 h1
/-- what the top leaves -/
structure Tx (K : PySem.W.Frag) (w : World) (mg : Str → Option Value) : Prop where
  a_is_whole : At K mg "is_whole" s_is_whole
  a_fits_whole : At K mg "fits_whole" s_fits_whole
  a_fits_course : At K mg "fits_course" s_fits_course
  a_need_course : At K mg "need_course" s_need_course
  a_length_in : At K mg "length_in" s_length_in
  a_is_course : At K mg "is_course" s_is_course
  a_length_of : At K mg "length_of" s_length_of
  a_need_units : At K mg "need_units" s_need_units
  a_closing_bricks : At K mg "closing_bricks" s_closing_bricks
  a_reaches : At K mg "reaches" s_reaches
  a_fewest_closing : At K mg "fewest_closing" s_fewest_closing
  a_law_cup : At K mg "_law_cup" s_law_cup
  a_law_roll : At K mg "_law_roll" s_law_roll
  a_law_some : At K mg "_law_some" s_law_some
  a_law_same : At K mg "_law_same" s_law_same
  a_law_size : At K mg "_law_size" s_law_size
  a_law_end : At K mg "_law_end" s_law_end
  a_law_rows : At K mg "_law_rows" s_law_rows
  z_abs : mg "abs" = none
  z_all : mg "all" = none
  z_bool : mg "bool" = none
  z_int : mg "int" = none
  z_isinstance : mg "isinstance" = none
  z_len : mg "len" = none
  z_list : mg "list" = none
  z_max : mg "max" = none
  z_min : mg "min" = none
  z_range : mg "range" = none
  z_sorted : mg "sorted" = none
  z_str : mg "str" = none
  z_sum : mg "sum" = none
  z_tuple : mg "tuple" = none
  g_LONG : ∃ t, mg "LONG" = some (.int 60 t)
  g_MANY : ∃ t, mg "MANY" = some (.int 24 t)
  g_SIGNS : ∃ t, mg "SIGNS" = some (.str "hqst" t)
  g_UNITS : ∃ t, mg "UNITS" = some (.int 40 t)
  w_SIZES : WD K w mg "SIZES" L_SIZES
section
variable {P : Program} {w : World} {K : PySem.W.Frag} {mg : Str → Option Value} {base : Heap}
theorem cal_is_whole (T : Tx K w mg) : Cal P w K mg base 1 "is_whole" 1 phi_is_whole := cal_of T.a_is_whole sc_is_whole b_is_whole (by decide) (fun _ _ _ _ _ _ us hl => match us, hl with | [_], _ => rfl) (fun _ _ => .inr rfl) (fun f cdv A outer s H E hr => (st_one (st_ret (fd (pf_and (fb (pe_isi (cd_isi isi_int) (by rfl) T.z_isinstance bt_isinstance (pb_v 0) (by rfl) T.z_int bt_int)) (pe_one (pf_not (fb (pe_isi (cd_isi isi_bool) (by rfl) T.z_isinstance bt_isinstance (pb_v 0) (by rfl) T.z_bool bt_bool)))))))))
theorem cal_fits_whole (T : Tx K w mg) : Cal P w K mg base 2 "fits_whole" 3 phi_fits_whole := cal_of T.a_fits_whole sc_fits_whole b_fits_whole (by decide) (fun _ _ _ _ _ _ us hl => match us, hl with | [_, _, _], _ => rfl) (fun _ _ => .inr rfl) (fun f cdv A outer s H E hr => (st_one (st_ret (fd (pf_and (db (pd_cal (cal_is_whole T) hr (by decide) pass_def (an_cons (pd_v 0) an_nil))) (pe_one (pf_chain od_le od_le leD_b (pb_v 1) (pb_v 0) (pb_v 2))))))))
theorem cal_fits_course (T : Tx K w mg) : Cal P w K mg base 1 "fits_course" 1 phi_fits_course := cal_of T.a_fits_course sc_fits_course b_fits_course (by decide) (fun _ _ _ _ _ _ us hl => match us, hl with | [_], _ => rfl) (fun _ _ => .inr rfl) (fun f cdv A outer s H E hr => (st_cons (st_if (PW.pt (pw_or (pt_not (pt_e (fb (pe_isi (cd_isi isi_str) (by rfl) T.z_isinstance bt_isinstance (pb_v 0) (by rfl) T.z_str bt_str)))) (pw_or (pt_not (pt_chain od_le od_le leD_b (fb pf_int) (fb (pf_b1 cd_len (by rfl) T.z_len bt_len (pb_v 0))) (fb (pf_gi (by rfl) T.g_MANY)))) (L2.pw_or1 (pt_not (pt_e (fb (pf_b1 (cd_all rfl) (by rfl) T.z_all bt_all (fb (pf_lc (own := [("sign", 1)]) rfl sc_fits_course.nd (i_d (pd_v 0)) (blkOk_by (N := ["value", "sign"]) (sc := (defScope s_fits_course)) (by decide +kernel)) (fun _ _ _ _ _ => (g_name 1 sc_fits_course.nd)) (fun _ _ _ _ _ => ts_nil) (fun _ _ _ _ _ => (fd (pf_wIn T.w_SIZES (pb_v 1)))))))))))))) (st_one (st_ret (fd pf_bl))) st_nil) (st_one (st_ret (fd (pf_cmp od_le (fb (pf_b1 (cd_sum rfl) (by rfl) T.z_sum bt_sum (fb (pf_lc (own := [("sign", 1)]) rfl sc_fits_course.nd (i_d (pd_v 0)) (blkOk_by (N := ["value", "sign"]) (sc := (defScope s_fits_course)) (by decide +kernel)) (fun _ _ _ _ _ => (g_name 1 sc_fits_course.nd)) (fun _ _ _ _ _ => ts_nil) (fun _ _ _ _ _ => (fd (pf_wd T.w_SIZES (pb_v 1)))))))) (fb (pf_gi (by rfl) T.g_LONG))))))))
theorem cal_need_course (T : Tx K w mg) : Cal P w K mg base 2 "need_course" 1 phi_need_course := cal_of T.a_need_course sc_need_course b_need_course (by decide) (fun _ _ _ _ _ _ us hl => match us, hl with | [_], _ => rfl) (fun _ _ => .inr rfl) (fun f cdv A outer s H E hr => (st_one (st_if (pt_not (pt_e (db (pd_cal (cal_fits_course T) hr (by decide) pass_def (an_cons (pd_v 0) an_nil))))) (st_one st_never) st_nil)))
theorem cal_length_in (T : Tx K w mg) : Cal P w K mg base 1 "length_in" 1 phi_length_in := cal_of T.a_length_in sc_length_in b_length_in (by decide) (fun _ _ _ _ _ _ us hl => match us, hl with | [_], _ => rfl) (fun _ _ => .inr rfl) (fun f cdv A outer s H E hr => (st_one (st_ret (fd (pf_b1 (cd_sum rfl) (by rfl) T.z_sum bt_sum (fb (pf_lc (own := [("sign", 1)]) rfl sc_length_in.nd (i_d (pd_v 0)) (blkOk_by (N := ["course", "sign"]) (sc := (defScope s_length_in)) (by decide +kernel)) (fun _ _ _ _ _ => (g_name 1 sc_length_in.nd)) (fun _ _ _ _ _ => ts_nil) (fun _ _ _ _ _ => (fd (pf_wd T.w_SIZES (pb_v 1)))))))))))
theorem cal_is_course (T : Tx K w mg) : Cal P w K mg base 2 "is_course" 1 phi_is_course := cal_of T.a_is_course sc_is_course b_is_course (by decide) (fun _ _ _ _ _ _ us hl => match us, hl with | [_], _ => rfl) (fun _ _ => .inr rfl) (fun f cdv A outer s H E hr => (st_one (st_ret (pd_cal (cal_fits_course T) hr (by decide) pass_def (an_cons (pd_v 0) an_nil)))))
theorem cal_length_of (T : Tx K w mg) : Cal P w K mg base 3 "length_of" 1 phi_length_of := cal_of T.a_length_of sc_length_of b_length_of (by decide) (fun _ _ _ _ _ _ us hl => match us, hl with | [_], _ => rfl) (fun _ _ => .inr rfl) (fun f cdv A outer s H E hr => (st_cons (st_expr (db (pd_cal (cal_need_course T) hr (by decide) pass_def (an_cons (pd_v 0) an_nil)))) (st_one (st_ret (pd_cal (cal_length_in T) hr (by decide) pass_def (an_cons (pd_v 0) an_nil))))))
theorem cal_need_units (T : Tx K w mg) : Cal P w K mg base 3 "need_units" 1 phi_need_units := cal_of T.a_need_units sc_need_units b_need_units (by decide) (fun _ _ _ _ _ _ us hl => match us, hl with | [_], _ => rfl) (fun _ _ => .inr rfl) (fun f cdv A outer s H E hr => (st_one (st_if (pt_not (pt_e (db (pd_cal (cal_fits_whole T) hr (by decide) pass_def (an_cons (pd_v 0) (an_cons (fd pf_int) (an_cons (fd (pf_gi (by rfl) T.g_UNITS)) an_nil))))))) (st_one st_never) st_nil)))
theorem cal_closing_bricks (T : Tx K w mg) : Cal P w K mg base 4 "closing_bricks" 3 phi_closing_bricks := cal_of T.a_closing_bricks sc_closing_bricks b_closing_bricks (by decide) (fun _ _ _ _ _ _ us hl => match us, hl with | [_, _, _], _ => rfl) (fun _ _ => .inr rfl) (fun f cdv A outer s H E hr => (st_cons (st_for own_def rfl (i_d (fd (pf_tup (pa_cons (pd_v 0) (pa_cons (pd_v 1) pa_nil))))) (g_name 3 sc_closing_bricks.nd) (st_one (st_if (PW.pt (pw_and (pt_cmp (od_ne hr.units) (pb_v 3) (fb pf_str)) (L2.pw_and1 (pt_not (pt_e (db (pd_cal (cal_fits_course T) hr (by decide) pass_def (an_cons (pd_v 3) an_nil)))))))) (st_one st_never) st_nil))) (st_cons (st_expr (db (pd_cal (cal_need_units T) hr (by decide) pass_def (an_cons (pd_v 2) an_nil)))) (st_cons (st_setF 4 sc_closing_bricks.nd (pf_op od_sub (fb (pf_op od_sub (pb_v 2) (db (pd_cal (cal_length_in T) hr (by decide) pass_def (an_cons (pd_v 0) an_nil))))) (db (pd_cal (cal_length_in T) hr (by decide) pass_def (an_cons (pd_v 1) an_nil))))) (st_cons (st_setF 5 sc_closing_bricks.nd (pf_op od_add (fb (pf_b1 cd_len (by rfl) T.z_len bt_len (pb_v 0))) (fb (pf_b1 cd_len (by rfl) T.z_len bt_len (pb_v 1))))) (st_cons (st_setF 6 sc_closing_bricks.nd (pf_if (PW.pt (pw_and (pt_cmp (od_eq hr.units) (pb_v 4) (fb pf_int)) (L2.pw_and1 (pt_chain od_le od_le leD_b (fb pf_int) (pb_v 5) (fb (pf_gi (by rfl) T.g_MANY)))))) (pf_lst (pa_cons (fd pf_str) pa_nil)) (pf_lst pa_nil))) (st_one (st_ret (fd (pf_t1 cd_tuple (by rfl) T.z_tuple bt_tuple (fb (pf_op od_add (pb_v 6) (fb (pf_lc (own := [("sign", 7)]) rfl sc_closing_bricks.nd (i_d (fd (pf_gs (by rfl) T.g_SIGNS))) (blkOk_by (N := ["left", "right", "length", "one", "gap", "many", "found", "sign"]) (sc := (defScope s_closing_bricks)) (by decide +kernel)) (fun _ _ _ _ _ => (g_name 7 sc_closing_bricks.nd)) (fun _ _ _ _ _ => (ts_one (PW.pt (pw_and (pt_cmp (od_eq hr.units) (fb (pf_wd T.w_SIZES (pb_v 7))) (pb_v 4)) (L2.pw_and1 (pt_cmp od_lt (pb_v 5) (fb (pf_gi (by rfl) T.g_MANY)))))))) (fun _ _ _ _ _ => (pd_v 7))))))))))))))))
theorem cal_reaches (T : Tx K w mg) : Cal P w K mg base 1 "reaches" 3 phi_reaches := cal_of T.a_reaches sc_reaches b_reaches (by decide) (fun _ _ _ _ _ _ us hl => match us, hl with | [_, _, _], _ => rfl) (fun _ _ => .inr rfl) (fun f cdv A outer s H E hr => (st_one (st_ret (fd (pf_chain od_le od_le leD_b (pb_v 2) (fb (pf_op od_sub (pb_v 1) (pb_v 0))) (fb (pf_op od_mul (fb pf_int) (pb_v 2))))))))
theorem cal_fewest_closing (T : Tx K w mg) : Cal P w K mg base 4 "fewest_closing" 3 phi_fewest_closing := cal_of T.a_fewest_closing sc_fewest_closing b_fewest_closing (by decide) (fun _ _ _ _ _ _ us hl => match us, hl with | [_, _, _], _ => rfl) (fun _ _ => .inr rfl) (fun f cdv A outer s H E hr => (st_cons (st_for own_def rfl (i_d (fd (pf_tup (pa_cons (pd_v 0) (pa_cons (pd_v 1) pa_nil))))) (g_name 3 sc_fewest_closing.nd) (st_one (st_if (PW.pt (pw_and (pt_cmp (od_ne hr.units) (pb_v 3) (fb pf_str)) (L2.pw_and1 (pt_not (pt_e (db (pd_cal (cal_fits_course T) hr (by decide) pass_def (an_cons (pd_v 3) an_nil)))))))) (st_one st_never) st_nil))) (st_cons (st_expr (db (pd_cal (cal_need_units T) hr (by decide) pass_def (an_cons (pd_v 2) an_nil)))) (st_cons (st_bind (fd (pf_tup (pa_cons (fd (pf_op od_sub (fb (pf_op od_sub (pb_v 2) (db (pd_cal (cal_length_in T) hr (by decide) pass_def (an_cons (pd_v 0) an_nil))))) (db (pd_cal (cal_length_in T) hr (by decide) pass_def (an_cons (pd_v 1) an_nil))))) (pa_cons (fd (pf_op od_add (fb (pf_b1 cd_len (by rfl) T.z_len bt_len (pb_v 0))) (fb (pf_b1 cd_len (by rfl) T.z_len bt_len (pb_v 1))))) pa_nil)))) (g_tup rfl (gs_cons (g_name 4 sc_fewest_closing.nd) (gs_cons (g_name 5 sc_fewest_closing.nd) gs_nil)))) (st_cons (st_if (pt_cmp od_lt (pb_v 4) (fb pf_int)) (st_one (st_ret (fd pf_non))) st_nil) (st_cons (st_setF 6 sc_fewest_closing.nd (pf_op od_fdiv (fb (pf_op od_add (pb_v 4) (fb pf_int))) (fb pf_int))) (st_cons (st_if (PW.pt (pw_or (pt_cmp od_gt (fb (pf_op od_add (pb_v 5) (pb_v 6))) (fb (pf_gi (by rfl) T.g_MANY))) (L2.pw_or1 (pt_cmp (od_eq hr.units) (fb (pf_op od_add (pb_v 5) (pb_v 6))) (fb pf_int))))) (st_one (st_ret (fd pf_non))) st_nil) (st_cons (st_setF 7 sc_fewest_closing.nd (pf_lst (pa_cons (fd pf_str) pa_nil))) (st_cons (st_for own_def rfl (i_rng1 T.z_range (pb_v 6)) (g_name 8 sc_fewest_closing.nd) (st_cons (st_frz 7 (st_setLc2 7 [("row", 9), ("sign", 10)] [10] rfl sc_fewest_closing.nd (sw_true rfl rfl rfl (by decide +kernel)) (i_d (pd_v 7)) (blkOk_by (N := ["left", "right", "length", "one", "gap", "many", "size", "rows", "turn", "row", "sign"]) (sc := (defScope s_fewest_closing)) (by decide +kernel)) (fun _ _ _ _ _ => (g_name 9 sc_fewest_closing.nd)) (fun _ _ _ _ _ => ts_nil) (fun _ _ _ _ _ => (i_d (fd (pf_gs (by rfl) T.g_SIGNS)))) (fun _ _ _ _ _ => (g_name 10 sc_fewest_closing.nd)) (fun _ _ _ _ _ => (ts_one (pt_e (db (pd_cal (cal_reaches T) hr (by decide) L2.passL (an_cons (pd_cal (cal_length_in T) hr (by decide) L2.passL (an_cons (fd (pf_op od_add (pb_v 9) (pb_v 10))) an_nil)) (an_cons (pd_v 4) (an_cons (fd (pf_op od_sub (fb (pf_op od_sub (pb_v 6) (pb_v 8))) (fb pf_int))) an_nil)))))))) (fun _ _ _ _ _ => (fd (pf_op od_add (pb_v 9) (pb_v 10)))))) (st_one (st_frz 7 (st_setE 7 sc_fewest_closing.nd (pd_if (pt_cmp (od_ne hr.units) (pb_v 7) (fb (pf_lst pa_nil))) (fd (pf_sl (pb_v 7) po_no (po_at (fb pf_int)))) (pd_v 7))))))) (st_one (st_ret (pd_ix (pb_v 7) (fb pf_int)))))))))))))
theorem cal_law_cup (T : Tx K w mg) : CalS P w K mg base 1 "_law_cup" phi_law_cup := calS_of T.a_law_cup sc_law_cup b_law_cup (fun _ _ _ _ _ _ us hl => match us, hl with | [_], _ => rfl) (fun _ _ => .inr rfl) (fun f cdv A outer s H E hr => (st_cons (st_setF 1 sc_law_cup.nd (pf_b1 cd_abs (by rfl) T.z_abs bt_abs (db (pd_ix (fb (pf_op od_add (fb (pf_listS 0 T.z_list bt_list)) (fb (pf_lst (pa_cons (fd pf_int) pa_nil))))) (fb pf_int))))) (st_one (st_ret (fd (pf_lst (pa_cons (fd (pf_if (pt_cmp od_ge (pb_v 1) (fb (pf_op od_pow (fb pf_int) (fb pf_int)))) (pf_op od_fdiv (pb_v 1) (fb pf_int)) pf_int)) (pa_cons (fd (pf_op od_add (fb (pf_op od_mod (fb (pf_t1 cd_int (by rfl) T.z_int bt_int (fb (pf_op od_add (fb (pf_op od_mul (pb_v 1) (fb pf_int))) (fb pf_int))))) (fb pf_int))) (fb pf_int))) pa_nil))))))))
theorem cal_law_roll (T : Tx K w mg) : CalC P w K mg base 1 "_law_roll" 1 phi_law_roll := calC_of T.a_law_roll sc_law_roll (b_law_roll) rfl (by decide) (fun _ _ _ _ _ _ us hl => match us, hl with | [_, _], _ => rfl) (fun _ _ _ => .inr rfl) (fun f cdv A outer s H E hr => (st_cons (st_if (pt_cmp od_gt (fb (pf_cup 0)) (fb pf_int)) (st_cons (st_setF 2 sc_law_roll.nd (pf_op od_mod (fb (pf_t1 cd_int (by rfl) T.z_int bt_int (fb (pf_cup 0)))) (pb_v 1))) (st_cons (st_cup 0 (fb (pf_op od_fdiv (fb (pf_cup 0)) (pb_v 1)))) (st_one (st_ret (pd_v 2))))) st_nil) (st_cons (st_cup 0 (fb (pf_op od_mod (fb (pf_t1 cd_int (by rfl) T.z_int bt_int (fb (pf_op od_add (fb (pf_op od_mul (fb (pf_cup 0)) (fb pf_int))) (fb pf_int))))) (fb pf_int)))) (st_cons (st_setF 3 sc_law_roll.nd (pf_op od_mod (fb (pf_t1 cd_int (by rfl) T.z_int bt_int (fb (pf_op od_mul (fb (pf_cup 0)) (fb (pf_op od_add (fb (pf_cup 0)) (fb pf_int))))))) (fb pf_int))) (st_one (st_ret (fd (pf_op od_mod (fb (pf_t1 cd_int (by rfl) T.z_int bt_int (fb (pf_op od_fdiv (pb_v 3) (fb pf_int))))) (pb_v 1)))))))))
theorem cal_law_some (T : Tx K w mg) : CalC P w K mg base 2 "_law_some" 1 (phi_law_some phi_law_roll) := calC_of T.a_law_some sc_law_some (b_law_some phi_law_roll) rfl (by decide) (fun _ _ _ _ _ _ us hl => match us, hl with | [_, _], _ => rfl) (fun _ _ _ => .inr rfl) (fun f cdv A outer s H E hr => (st_one (st_ret (pd_ix (pb_v 1) (db (pd_calC 0 (cal_law_roll T) hr (by decide) pass_def (an_cons (fd (pf_b1 cd_len (by rfl) T.z_len bt_len (pb_v 1))) an_nil)))))))
theorem cal_law_same_ (T : Tx K w mg) : ∀ k, Cal P w K mg base (1 + k) "_law_same" 2 (phi_law_same_ k)
  | 0 => cal_none T.a_law_same sc_law_same (fun _ _ _ _ _ _ us hl => match us, hl with | [_, _], _ => rfl)
  | k + 1 => by
    have C := cal_law_same_ T k
    exact cal_of T.a_law_same sc_law_same (b_law_same (phi_law_same_ k)) (by decide) (fun _ _ _ _ _ _ us hl => match us, hl with | [_, _], _ => rfl) (fun _ _ => .inr rfl) (fun f cdv A outer s H E hr => (st_cons (st_if (pt_e (fb (pe_isi (cd_isi isi_tup) (by rfl) T.z_isinstance bt_isinstance (pb_v 1) (by rfl) T.z_tuple bt_tuple))) (st_cons (st_if (PW.pt (pw_or (pt_not (pt_e (fb (pe_isi (cd_isi isi_tup) (by rfl) T.z_isinstance bt_isinstance (pb_v 0) (by rfl) T.z_tuple bt_tuple)))) (L2.pw_or1 (pt_cmp (od_ne hr.units) (fb (pf_b1 cd_len (by rfl) T.z_len bt_len (pb_v 0))) (fb (pf_b1 cd_len (by rfl) T.z_len bt_len (pb_v 1))))))) (st_one (st_ret (fd pf_bl))) st_nil) (st_one (st_ret (fd (pf_b1 (cd_all rfl) (by rfl) T.z_all bt_all (fb (pf_lc (own := [("at", 2)]) rfl sc_law_same.nd (i_rng1 T.z_range (fb (pf_b1 cd_len (by rfl) T.z_len bt_len (pb_v 1)))) (blkOk_by (N := ["told", "due", "at"]) (sc := (defScope s_law_same)) (by decide +kernel)) (fun _ _ _ _ _ => (g_name 2 sc_law_same.nd)) (fun _ _ _ _ _ => ts_nil) (fun _ _ _ _ _ => (pd_cal C hr (Nat.le_refl _) L2.passL (an_cons (pd_ix (pb_v 0) (pb_v 2)) (an_cons (pd_ix (pb_v 1) (pb_v 2)) an_nil))))))))))) st_nil) (st_cons (st_if (pt_cmp od_is (pb_v 1) (fb pf_non)) (st_one (st_ret (fd (pf_cmp od_is (pb_v 0) (fb pf_non))))) st_nil) (st_cons (st_if (pt_e (fb (pe_isi (cd_isi isi_bool) (by rfl) T.z_isinstance bt_isinstance (pb_v 1) (by rfl) T.z_bool bt_bool))) (st_one (st_ret (fd (pf_if (pt_e (pb_v 1)) (pf_cmp od_is (pb_v 0) (fb pf_bl)) (pf_cmp od_is (pb_v 0) (fb pf_bl)))))) st_nil) (st_cons (st_if (pt_e (fb (pe_isi (cd_isi isi_int) (by rfl) T.z_isinstance bt_isinstance (pb_v 1) (by rfl) T.z_int bt_int))) (st_one (st_ret (fd (pf_and (fb (pe_isi (cd_isi isi_int) (by rfl) T.z_isinstance bt_isinstance (pb_v 0) (by rfl) T.z_int bt_int)) (pf_and (fb (pf_not (fb (pe_isi (cd_isi isi_bool) (by rfl) T.z_isinstance bt_isinstance (pb_v 0) (by rfl) T.z_bool bt_bool)))) (pe_one (pf_cmp (od_eq hr.units) (fb (pf_t1 cd_int (by rfl) T.z_int bt_int (pb_v 0))) (pb_v 1)))))))) st_nil) (st_one (st_ret (fd (pf_and (fb (pe_isi (cd_isi isi_str) (by rfl) T.z_isinstance bt_isinstance (pb_v 0) (by rfl) T.z_str bt_str)) (pe_one (pf_cmp (od_eq hr.units) (fb (pf_t1 cd_str (by rfl) T.z_str bt_str (pb_v 0))) (pb_v 1))))))))))))
theorem cal_law_same (T : Tx K w mg) : Cal P w K mg base 9 "_law_same" 2 phi_law_same := cal_law_same_ T 8
theorem cal_law_size (T : Tx K w mg) : Cal P w K mg base 1 "_law_size" 1 phi_law_size := cal_of T.a_law_size sc_law_size b_law_size (by decide) (fun _ _ _ _ _ _ us hl => match us, hl with | [_], _ => rfl) (fun _ _ => .inr rfl) (fun f cdv A outer s H E hr => (st_one (st_ret (fd (pf_b1 (cd_sum rfl) (by rfl) T.z_sum bt_sum (fb (pf_lc (own := [("sign", 1)]) rfl sc_law_size.nd (i_d (pd_v 0)) (blkOk_by (N := ["course", "sign"]) (sc := (defScope s_law_size)) (by decide +kernel)) (fun _ _ _ _ _ => (g_name 1 sc_law_size.nd)) (fun _ _ _ _ _ => ts_nil) (fun _ _ _ _ _ => (pd_dget (hu_of hr) (fb (pf_lit [("s", 4), ("t", 3), ("h", 2), ("q", 1)] (pps_cons pe_str pe_int (pps_cons pe_str pe_int (pps_cons pe_str pe_int (pps_cons pe_str pe_int pps_nil)))) rfl (by decide))) (pb_v 1))))))))))
theorem cal_law_end (T : Tx K w mg) : CalC P w K mg base 3 "_law_end" 1 (phi_law_end phi_law_roll) := calC_of T.a_law_end sc_law_end (b_law_end phi_law_roll) rfl (by decide) (fun _ _ _ _ _ _ us hl => match us, hl with | [_, _], _ => rfl) (fun _ _ _ => .inr rfl) (fun f cdv A outer s H E hr => (st_one (st_ret (fd (pf_join (fb (pf_lc (own := [("brick", 2)]) rfl sc_law_end.nd (i_rng1 T.z_range (db (pd_calC 0 (cal_law_roll T) hr (by decide) pass_def (an_cons (fd (pf_op od_add (pb_v 1) (fb pf_int))) an_nil)))) (blkOk_by (N := ["cup", "most", "brick"]) (sc := (defScope s_law_end)) (by decide +kernel)) (fun _ _ _ _ _ => (g_name 2 sc_law_end.nd)) (fun _ _ _ _ _ => ts_nil) (fun _ _ _ _ _ => (pd_calC 0 (cal_law_some T) hr (by decide) L2.passL (an_cons (fd pf_str) an_nil))))))))))
theorem cal_law_rows (T : Tx K w mg) : Cal P w K mg base 1 "_law_rows" 1 phi_law_rows := cal_of T.a_law_rows sc_law_rows b_law_rows (by decide) (fun _ _ _ _ _ _ us hl => match us, hl with | [_], _ => rfl) (fun _ _ => .inr rfl) (fun f cdv A outer s H E hr => (st_cons (st_setF 1 sc_law_rows.nd (pf_lst (pa_cons (fd pf_str) pa_nil))) (st_cons (st_for own_def rfl (i_rng1 T.z_range (pb_v 0)) (g_name 2 sc_law_rows.nd) (st_one (st_frz 1 (st_setF 1 sc_law_rows.nd (pf_b1 (cd_sorted (u130 hr)) (by rfl) T.z_sorted bt_sorted (fb (pf_op od_add (fb (pf_op od_add (fb (pf_op od_add (fb (pf_lc (own := [("row", 3)]) rfl sc_law_rows.nd (i_d (pd_v 1)) (blkOk_by (N := ["many", "found", "brick", "row"]) (sc := (defScope s_law_rows)) (by decide +kernel)) (fun _ _ _ _ _ => (g_name 3 sc_law_rows.nd)) (fun _ _ _ _ _ => ts_nil) (fun _ _ _ _ _ => (fd (pf_op od_add (pb_v 3) (fb pf_str)))))) (fb (pf_lc (own := [("row", 3)]) rfl sc_law_rows.nd (i_d (pd_v 1)) (blkOk_by (N := ["many", "found", "brick", "row"]) (sc := (defScope s_law_rows)) (by decide +kernel)) (fun _ _ _ _ _ => (g_name 3 sc_law_rows.nd)) (fun _ _ _ _ _ => ts_nil) (fun _ _ _ _ _ => (fd (pf_op od_add (pb_v 3) (fb pf_str)))))))) (fb (pf_lc (own := [("row", 3)]) rfl sc_law_rows.nd (i_d (pd_v 1)) (blkOk_by (N := ["many", "found", "brick", "row"]) (sc := (defScope s_law_rows)) (by decide +kernel)) (fun _ _ _ _ _ => (g_name 3 sc_law_rows.nd)) (fun _ _ _ _ _ => ts_nil) (fun _ _ _ _ _ => (fd (pf_op od_add (pb_v 3) (fb pf_str)))))))) (fb (pf_lc (own := [("row", 3)]) rfl sc_law_rows.nd (i_d (pd_v 1)) (blkOk_by (N := ["many", "found", "brick", "row"]) (sc := (defScope s_law_rows)) (by decide +kernel)) (fun _ _ _ _ _ => (g_name 3 sc_law_rows.nd)) (fun _ _ _ _ _ => ts_nil) (fun _ _ _ _ _ => (fd (pf_op od_add (pb_v 3) (fb pf_str))))))))))))) (st_one (st_frz 1 (st_ret (pd_v 1)))))))
theorem ok_law {ff : Addr} {ffd : FuncData} (F : Fun K "law" "law" s_law ff ffd) (T : Tx K w mg) (hlaw : ∀ ns : List Int, ns.length ≤ 63 → ∃ a b c, phi_law_cup ns = .ok (.list [.int a, .int b]) ∧ b_law ⟨(a, b), .no :: .cup :: List.replicate 12 .no⟩ = .ret (.bool true) c) : FnOk P w K mg base (L2.CX P w) 10 ff ffd ["script"] (spLaw K) :=
  law_of F rfl sc_law b_law rfl (cal_law_cup T) (by decide) rfl (.inl rfl) rfl (by decide) rfl (fun env he => by rfl) hlaw (fun cdv A outer s H E hr => (st_cons (st_for own_def rfl (i_rng1 T.z_range (fb pf_int)) (g_name 2 sc_law.nd) (st_cons (st_bind (fd (pf_tup (pa_cons (pd_calC 1 (cal_law_end T) hr (by decide) pass_def (an_cons (fd pf_int) an_nil)) (pa_cons (pd_calC 1 (cal_law_end T) hr (by decide) pass_def (an_cons (fd pf_int) an_nil)) pa_nil)))) (g_tup rfl (gs_cons (g_name 3 sc_law.nd) (gs_cons (g_name 4 sc_law.nd) gs_nil)))) (st_cons (st_setE 5 sc_law.nd (pd_cal (cal_law_size T) hr (by decide) pass_def (an_cons (fd (pf_op od_add (pb_v 3) (pb_v 4))) an_nil))) (st_cons (st_setF 6 sc_law.nd (pf_b2 (cd_max2 rfl) (by rfl) T.z_max bt_max (fb pf_int) (fb (pf_b2 (cd_min2 rfl) (by rfl) T.z_min bt_min (fb pf_int) (fb (pf_op od_sub (fb (pf_op od_add (pb_v 5) (db (pd_calC 1 (cal_law_roll T) hr (by decide) pass_def (an_cons (fd pf_int) an_nil))))) (fb pf_int))))))) (st_cons (st_setF 7 sc_law.nd (pf_lst pa_nil)) (st_cons (st_for own_def rfl (i_d (fd (pf_tup (pa_cons (fd pf_str) (pa_cons (fd pf_str) (pa_cons (fd pf_str) (pa_cons (fd pf_str) (pa_cons (fd pf_str) pa_nil)))))))) (g_name 8 sc_law.nd) (st_cons (st_setF 9 sc_law.nd (pf_op od_add (fb (pf_op od_add (pb_v 3) (pb_v 8))) (pb_v 4))) (st_one (st_frz 9 (st_setF 7 sc_law.nd (pf_op od_add (pb_v 7) (fb (pf_if (PW.pt (pw_and (pt_cmp (od_ne hr.units) (pb_v 9) (fb pf_str)) (L2.pw_and1 (pt_cmp (od_eq hr.units) (db (pd_cal (cal_law_size T) hr (by decide) pass_def (an_cons (pd_v 9) an_nil))) (pb_v 6))))) (pf_lst (pa_cons (pd_v 8) pa_nil)) (pf_lst pa_nil))))))))) (st_cons (st_if (pt_not (pt_e (db (pd_cal (cal_law_same T) hr (by decide) pass_def (an_cons (pd_cal (cal_closing_bricks T) hr (by decide) pass_def (an_cons (pd_v 3) (an_cons (pd_v 4) (an_cons (pd_v 6) an_nil)))) (an_cons (fd (pf_t1 cd_tuple (by rfl) T.z_tuple bt_tuple (pb_v 7))) an_nil)))))) (st_one (st_ret (fd pf_bl))) st_nil) (st_cons (st_setF 10 sc_law.nd pf_non) (st_cons (st_for own_def rfl (i_rng1 T.z_range (fb pf_int)) (g_name 11 sc_law.nd) (st_cons (st_frz 9 (st_setLc 12 [("row", 9)] rfl sc_law.nd (sw_true rfl rfl rfl (by decide +kernel)) (i_d (pd_cal (cal_law_rows T) hr (by decide) pass_def (an_cons (pd_v 11) an_nil))) (blkOk_by (N := ["script", "cup", "turn", "left", "right", "ends", "length", "due", "sign", "row", "best", "many", "good", "told"]) (sc := (defScope s_law)) (by decide +kernel)) (fun _ _ _ _ _ => (g_name 9 sc_law.nd)) (fun _ _ _ _ _ => (ts_one (PW.pt (pw_and (pt_cmp (od_ne hr.units) (fb (pf_op od_add (fb (pf_op od_add (pb_v 3) (pb_v 9))) (pb_v 4))) (fb pf_str)) (L2.pw_and1 (pt_cmp (od_eq hr.units) (db (pd_cal (cal_law_size T) hr (by decide) L2.passL (an_cons (fd (pf_op od_add (fb (pf_op od_add (pb_v 3) (pb_v 9))) (pb_v 4))) an_nil))) (pb_v 6))))))) (fun _ _ _ _ _ => (pd_v 9)))) (st_one (st_if (PW.pt (pw_and (pt_cmp od_is (pb_v 10) (fb pf_non)) (L2.pw_and1 (pt_cmp (od_ne hr.units) (pb_v 12) (fb (pf_lst pa_nil)))))) (st_one (st_setE 10 sc_law.nd (pd_ix (pb_v 12) (fb pf_int)))) st_nil)))) (st_cons (st_setE 13 sc_law.nd (pd_cal (cal_fewest_closing T) hr (by decide) pass_def (an_cons (pd_v 3) (an_cons (pd_v 4) (an_cons (pd_v 6) an_nil))))) (st_cons (st_frz 13 (st_frz 10 (st_if (pt_not (pt_e (db (pd_cal (cal_law_same T) hr (by decide) pass_def (an_cons (pd_v 13) (an_cons (pd_v 10) an_nil)))))) (st_one (st_ret (fd pf_bl))) st_nil))) (st_one (st_if (PW.pt (pw_and (pt_cmp od_isn (pb_v 13) (fb pf_non)) (L2.pw_and1 (PW.pt (pw_or (pt_not (pt_e (db (pd_cal (cal_is_course T) hr (by decide) pass_def (an_cons (fd (pf_op od_add (fb (pf_op od_add (pb_v 3) (pb_v 13))) (pb_v 4))) an_nil))))) (L2.pw_or1 (pt_cmp (od_ne hr.units) (db (pd_cal (cal_length_of T) hr (by decide) pass_def (an_cons (fd (pf_op od_add (fb (pf_op od_add (pb_v 3) (pb_v 13))) (pb_v 4))) an_nil))) (pb_v 6)))))))) (st_one (st_ret (fd pf_bl))) st_nil))))))))))))) (st_cons (st_setF 11 sc_law.nd (pf_op od_add (fb pf_int) (db (pd_calC 1 (cal_law_roll T) hr (by decide) pass_def (an_cons (fd pf_int) an_nil))))) (st_cons (st_setF 13 sc_law.nd (pf_tup (pa_cons (pd_cal (cal_fewest_closing T) hr (by decide) pass_def (an_cons (fd (pf_op od_mul (fb pf_str) (pb_v 11))) (an_cons (fd pf_str) (an_cons (fd pf_int) an_nil)))) (pa_cons (pd_cal (cal_closing_bricks T) hr (by decide) pass_def (an_cons (fd (pf_op od_mul (fb pf_str) (pb_v 11))) (an_cons (fd pf_str) (an_cons (fd (pf_op od_add (pb_v 11) (fb pf_int))) an_nil)))) (pa_cons (pd_cal (cal_closing_bricks T) hr (by decide) pass_def (an_cons (fd (pf_op od_mul (fb pf_str) (fb pf_int))) (an_cons (fd (pf_op od_mul (fb pf_str) (fb pf_int))) (an_cons (fd pf_int) an_nil)))) (pa_cons (pd_cal (cal_closing_bricks T) hr (by decide) pass_def (an_cons (fd (pf_op od_mul (fb pf_str) (fb pf_int))) (an_cons (fd (pf_op od_mul (fb pf_str) (fb pf_int))) (an_cons (fd pf_int) an_nil)))) pa_nil)))))) (st_one (st_frz 13 (st_ret (fd (pf_and (db (pd_cal (cal_law_same T) hr (by decide) pass_def (an_cons (pd_v 13) (an_cons (fd (pf_tup (pa_cons (fd pf_non) (pa_cons (fd (pf_if (pt_cmp od_lt (pb_v 11) (fb pf_int)) (pf_tup (pa_cons (fd pf_str) pa_nil)) (pf_tup pa_nil))) (pa_cons (fd (pf_tup (pa_cons (fd pf_str) pa_nil))) (pa_cons (fd (pf_tup pa_nil)) pa_nil)))))) an_nil)))) (pe_one (pf_cmp (od_eq hr.units) (db (pd_cal (cal_fewest_closing T) hr (by decide) pass_def (an_cons (fd (pf_op od_mul (fb pf_str) (fb pf_int))) (an_cons (fd pf_str) (an_cons (fd pf_int) an_nil))))) (fb pf_str))))))))))))
end
end Pu
end

noncomputable section
set_option Elab.async false
set_option linter.all false
set_option maxRecDepth 100000
set_option maxHeartbeats 2000000
namespace Pu
open PySem PySem.Spec L2
/-! ### the plain part -/
def sgs : List Nat := [104, 113, 115, 116]
def rowsN : Nat → List (List Nat)
  | 0 => [[]]
  | n + 1 => (rowsN n).flatMap fun r => sgs.map fun c => r ++ [c]
/-- the rows under way: one at most -/
def rws (gap size : Int) : Nat → List (List Nat)
  | 0 => [[]]
  | t + 1 => ((rws gap size t).flatMap fun r => (sgs.filter fun c => decide (size - t - 1 ≤ gap - len (r ++ [c]) ∧ gap - len (r ++ [c]) ≤ 4 * (size - t - 1))).map fun c => r ++ [c]).take 1
def goodN (gap : Int) (n : Nat) : List (List Nat) := (rowsN n).filter fun r => decide (len r = gap)
def bestN (gap : Int) : Nat → Option (List Nat)
  | 0 => none
  | n + 1 => match bestN gap n with
    | some r => some r
    | none => (goodN gap n).head?
theorem finite_part : ∀ g ∈ List.range 14, rws g ((g + 3) / 4) (((g : Int) + 3) / 4).toNat = (bestN g 5).toList ∧ (bestN g 5).isSome = true := by decide +kernel
theorem finite_20 : rws 20 5 5 = [[115, 115, 115, 115, 115]] := by decide +kernel
theorem none_neg {g : Int} (h : g < 0) (n : Nat) : bestN g n = none := by
  induction n with
  | zero => rfl
  | succ n ih =>
    have : goodN g n = [] := List.filter_eq_nil_iff.mpr fun r _ => by
      have := len_ge r
      simp; omega
    simp [bestN, ih, this]
theorem rows_perm : ∀ L : List (List Nat), (L.map (· ++ [104]) ++ L.map (· ++ [113]) ++ L.map (· ++ [115]) ++ L.map (· ++ [116])).Perm (L.flatMap fun r => sgs.map fun c => r ++ [c])
  | [] => .nil
  | r :: L => by
    have ih := rows_perm L
    have e : (r :: L).flatMap (fun r => sgs.map fun c => r ++ [c]) = [r ++ [104], r ++ [113], r ++ [115], r ++ [116]] ++ L.flatMap (fun r => sgs.map fun c => r ++ [c]) := rfl
    rw [e]
    simp only [List.map_cons]
    refine List.Perm.trans ?_ (ih.append_left _)
    have go : ∀ (a b c d : List Nat) (A B C D : List (List Nat)), ((a :: A) ++ (b :: B) ++ (c :: C) ++ (d :: D)).Perm ([a, b, c, d] ++ (A ++ B ++ C ++ D)) := fun a b c d A B C D => by
      have h1 : ((a :: A) ++ (b :: B) ++ (c :: C) ++ (d :: D)).Perm (d :: ((a :: A) ++ (b :: B) ++ (c :: C) ++ D)) := List.perm_middle
      have h2 : ((a :: A) ++ (b :: B) ++ (c :: C) ++ D).Perm (c :: ((a :: A) ++ (b :: B) ++ C ++ D)) := by
        have : ((a :: A) ++ (b :: B) ++ (c :: C)).Perm (c :: ((a :: A) ++ (b :: B) ++ C)) := List.perm_middle
        exact this.append_right D
      have h3 : ((a :: A) ++ (b :: B) ++ C ++ D).Perm (b :: ((a :: A) ++ B ++ C ++ D)) := by
        have : ((a :: A) ++ (b :: B)).Perm (b :: ((a :: A) ++ B)) := List.perm_middle
        exact (this.append_right C).append_right D
      refine h1.trans ((h2.cons d).trans ((h3.cons c |>.cons d).trans ?_))
      show (d :: c :: b :: a :: (A ++ B ++ C ++ D)).Perm (a :: b :: c :: d :: (A ++ B ++ C ++ D))
      have : ([d, c, b, a] : List (List Nat)).Perm [a, b, c, d] := List.reverse_perm [a, b, c, d]
      exact this.append_right (A ++ B ++ C ++ D)
    exact go _ _ _ _ _ _ _ _
theorem le_antisymmL {a b : List Nat} (h1 : a ≤ b) (h2 : b ≤ a) : a = b := List.le_antisymm h1 h2
theorem srt_of {L M : List (List Nat)} (hp : M.Perm L) (hs : M.Pairwise (· ≤ ·)) : srt (L.map dS) = M.map dS := by
  have e0 : ∀ a b : List Nat, decide (a ≤ b) = PySem.W.dataLe false id (dS a) (dS b) := fun a b => by
    have := congrFun (congrFun (PySem.W.dataLe_str tx) a) b
    have e : PySem.W.dataLe false id (dS a) (dS b) = PySem.W.dataLe false (fun b => PyData.str (tx b)) a b := rfl
    rw [e, this]
    exact decide_eq_decide.mpr Iff.rfl
  have e1 : (L.mergeSort fun a b => decide (a ≤ b)).map dS = srt (L.map dS) := List.map_mergeSort fun a _ b _ => e0 a b
  rw [← e1]
  congr 1
  refine List.Perm.eq_of_pairwise (le := (· ≤ ·)) (fun a b _ _ h1 h2 => le_antisymmL h1 h2) ?_ hs ((List.mergeSort_perm _ _).trans hp.symm)
  have := List.pairwise_mergeSort (le := fun a b : List Nat => decide (a ≤ b)) (fun a b c h1 h2 => by simp at h1 h2 ⊢; exact List.le_trans h1 h2) (fun a b => by simp; exact List.le_total a b) L
  exact this.imp fun h => by simpa using h
theorem sortOk_dS (L : List (List Nat)) : sortOk (L.map dS) = true := by
  refine sortOk_i.mpr ⟨?_, ?_, ?_, ?_⟩
  · exact PySem.W.AllAlike.of fun _ _ => rfl
  · exact PySem.W.Sortable.others fun _ => ⟨(fun z => by cases z), (fun _ z => by cases z)⟩
  · induction L with
    | nil => rfl
    | cons l L ih => simp [plain.plainAll, plain, dS] at ih ⊢; exact ih
  · intro d hd
    obtain ⟨l, _, rfl⟩ := List.mem_map.mp hd
    show PyData.depth (.str _) ≤ 64
    simp [PyData.depth]
theorem rows_sorted : ∀ n ∈ List.range 5, (rowsN n).Pairwise (· ≤ ·) := by decide +kernel
theorem rows_len : ∀ n ∈ List.range 5, (rowsN n).length ≤ 256 ∧ (∀ r ∈ rowsN n, r.length ≤ 4) := by decide +kernel
theorem lrows_ok {n : Nat} (hn : n ≤ 4) : phi_law_rows [.int n] = .ok (.list ((rowsN n).map dS)) := by
  obtain ⟨s', e, ⟨x2, rfl⟩⟩ := loop_idx (b := bName 2) (body := (mFrz 1 (mSetF 1 (m1 sortD (m2 addD (m2 addD (m2 addD (mLc [3] (mI iterD (slE 1)) (bName 3) mYes (m2 addD (slB 3) (rt (.str "h")))) (mLc [3] (mI iterD (slE 1)) (bName 3) mYes (m2 addD (slB 3) (rt (.str "q"))))) (mLc [3] (mI iterD (slE 1)) (bName 3) mYes (m2 addD (slB 3) (rt (.str "s"))))) (mLc [3] (mI iterD (slE 1)) (bName 3) mYes (m2 addD (slB 3) (rt (.str "t")))))))))
    (fun i s => ∃ x2, s = ⟨(0, 0), [.fz (.int n), .ow ((rowsN i).map dS), x2, .no]⟩) (ints2 0 n) 0 ⟨(0, 0), [.fz (.int n), .ow ((rowsN 0).map dS), .no, .no]⟩ ⟨_, rfl⟩ (fun i x s hx ⟨x2, hs⟩ => by
      rw [Nat.zero_add] at hs
      subst hs
      have hi := (List.getElem?_eq_some_iff.mp hx).1
      rw [ints2_len] at hi
      obtain ⟨hl, hr⟩ := rows_len i (by simp; omega)
      obtain ⟨R, hR⟩ : ∃ R, rowsN i = R := ⟨_, rfl⟩
      have hsort := rows_sorted (i + 1) (by simp; omega)
      have hS : srt ((R.map (· ++ [104]) ++ R.map (· ++ [113]) ++ R.map (· ++ [115]) ++ R.map (· ++ [116])).map dS) = (rowsN (i + 1)).map dS := srt_of (by rw [rowsN, hR]; exact (rows_perm R).symm) hsort
      rw [hR] at hl hr
      have key (k : Nat) (z : Str) (hz : PyData.str z = dS [k]) : ∀ s : S, s.r = [.fz (.int n), .fz (.list (R.map dS)), .fz x, .no] → lcL (bName 3) mYes (m2 addD (slB 3) (rt (.str z))) s (R.map dS) (0, 0) = .ok (R.map fun r => dS (r ++ [k])) (0, 0) := fun s hs => by
        refine lcL_over _ _ _ _ fun r hr' => ⟨_, rfl, rfl, ?_⟩
        have := addS (l := r) (m := [k]) (by have := hr r hr'; simp; omega)
        rw [← hz] at this
        simp [hs, this]
      have lo (k : Nat) : lenOk (R.map fun r => dS (r ++ [k])) = true := lenOk_tt (by simp; omega)
      have a1 := addD_l (R.map fun r => dS (r ++ [104])) (R.map fun r => dS (r ++ [113])) (leN_tt (by simp; omega))
      have a2 := addD_l (R.map (fun r => dS (r ++ [104])) ++ R.map fun r => dS (r ++ [113])) (R.map fun r => dS (r ++ [115])) (leN_tt (by simp; omega))
      have a3 := addD_l (R.map (fun r => dS (r ++ [104])) ++ R.map (fun r => dS (r ++ [113])) ++ R.map fun r => dS (r ++ [115])) (R.map fun r => dS (r ++ [116])) (leN_tt (by simp; omega))
      have em : R.map (fun r => dS (r ++ [104])) ++ R.map (fun r => dS (r ++ [113])) ++ R.map (fun r => dS (r ++ [115])) ++ R.map (fun r => dS (r ++ [116])) = (R.map (· ++ [104]) ++ R.map (· ++ [113]) ++ R.map (· ++ [115]) ++ R.map (· ++ [116])).map dS := by simp only [List.map_append, List.map_map]; rfl
      have so := sortD_l (sortOk_dS (R.map (· ++ [104]) ++ R.map (· ++ [113]) ++ R.map (· ++ [115]) ++ R.map (· ++ [116])))
      rw [hS, ← em] at so
      refine ⟨_, ⟨(0, 0), [.fz (.int n), .ow ((rowsN (i + 1)).map dS), .fz x, .no]⟩, rfl, .inl ?_, _, by rw [Nat.zero_add]⟩
      rw [hR]
      simp [-List.append_assoc, key 104 "h" rfl, key 113 "q" rfl, key 115 "s" rfl, key 116 "t" rfl, lo, a1, a2, a3, so])
  rw [Nat.zero_add, ints2_len] at e
  have er := rng1_ok (i := (n : Int)) (by omega) (by omega)
  rw [Int.toNat_natCast] at er
  have e : loopL _ _ _ ⟨(0, 0), [.fz (.int n), .ow [.str ""], .no, .no]⟩ = _ := e
  simp [phi_law_rows, b_law_rows, er, e]
end Pu
end

noncomputable section
set_option Elab.async false
set_option linter.all false
set_option maxRecDepth 100000
set_option maxHeartbeats 2000000
namespace Pu
open PySem PySem.Spec L2
/-! ### courses from both ends -/
structure Crs0 (l : List Nat) : Prop where
  s : ∀ c ∈ l, isSg c
  n1 : l.length ≤ 24
  z : len l ≤ 60
theorem Crs0.crs {l : List Nat} (h : Crs0 l) (h0 : l ≠ []) : Crs l := ⟨h.s, List.length_pos_iff.mpr h0, h.n1, h.z⟩
theorem neD_nil (l : List Nat) : neD (dS l) (.str "") = some (.bool (decide (l ≠ []))) := by
  have := neD_s (tx l) ""
  rw [show neD (dS l) (.str "") = neD (.str (tx l)) (.str "") from rfl, this]
  congr 2
  exact decide_eq_decide.mpr (by rw [show ("" : Str) = tx [] from rfl, ne_eq, ne_eq, tx_inj])
def chk : MS := (mIfS (mAnd (mB (m2 neD (slB 3) (rt (.str "")))) (mNot (mB (mCall phi_fits_course (aCons (slE 3) aNil))))) mNo mNext)
theorem chk_ok {l : List Nat} (h : Crs0 l) {c : Int × Int} {a0 a1 a2 : Sl} {rest : List Sl} : chk ⟨c, a0 :: a1 :: a2 :: .fz (dS l) :: rest⟩ = .next ⟨c, a0 :: a1 :: a2 :: .fz (dS l) :: rest⟩ := by
  by_cases h0 : l = []
  · subst h0
    have := neD_nil []
    simp [chk, this]
  · have := neD_nil l
    simp [chk, this, h0, fcourse_ok (h.crs h0)]
theorem chks_ok {l r : List Nat} (hl : Crs0 l) (hr : Crs0 r) {c : Int × Int} {a0 a1 a2 a3 : Sl} {rest : List Sl} : loopL (bName 3) chk [dS l, dS r] ⟨c, a0 :: a1 :: a2 :: a3 :: rest⟩ = .next ⟨c, a0 :: a1 :: a2 :: .fz (dS r) :: rest⟩ := by
  have e1 : bName 3 (dS l) ⟨c, a0 :: a1 :: a2 :: a3 :: rest⟩ = some ⟨c, a0 :: a1 :: a2 :: .fz (dS l) :: rest⟩ := rfl
  have e2 : bName 3 (dS r) ⟨c, a0 :: a1 :: a2 :: .fz (dS l) :: rest⟩ = some ⟨c, a0 :: a1 :: a2 :: .fz (dS r) :: rest⟩ := rfl
  unfold loopL
  rw [e1]
  simp only [chk_ok hl]
  unfold loopL
  rw [e2]
  simp only [chk_ok hr]
  rfl
theorem units_ok {v : Int} (h1 : 1 ≤ v) (h2 : v ≤ 40) : phi_need_units [.int v] = .ok .none := by simp [phi_need_units, b_need_units, fits_ok, h1, h2]
/-- signs that close a gap -/
def clo (g : Int) (k : Nat) : List D := (sgs.filter fun c => decide (siz c = g ∧ k < 24)).map fun c => dS [c]
theorem clo_len (g : Int) (k : Nat) : (clo g k).length ≤ 4 := by
  unfold clo
  rw [List.length_map]
  exact List.length_filter_le _ _
def emp (g : Int) (k : Nat) : List D := if g = 0 ∧ 1 ≤ k ∧ k ≤ 24 then [dS []] else []
theorem closing_ok {l r : List Nat} (hl : Crs0 l) (hr : Crs0 r) {L : Int} (h1 : 1 ≤ L) (h2 : L ≤ 40) : phi_closing_bricks [dS l, dS r, .int L] = .ok (.tuple (emp (L - len l - len r) (l.length + r.length) ++ clo (L - len l - len r) (l.length + r.length))) := by
  have nl := hl.n1
  have nr := hr.n1
  have hch := chks_ok hl hr (c := (0, 0)) (a0 := .fz (dS l)) (a1 := .fz (dS r)) (a2 := .fz (.int L)) (a3 := .no) (rest := [.no, .no, .no, .no])
  obtain ⟨g, hg⟩ : ∃ g, L - len l - len r = g := ⟨_, rfl⟩
  rw [hg]
  obtain ⟨k, hk⟩ : ∃ k : Nat, l.length + r.length = k := ⟨_, rfl⟩
  rw [hk]
  have hkI : (l.length : Int) + (r.length : Int) = k := by omega
  obtain ⟨G, hG⟩ : ∃ G : List Nat, G = sgs := ⟨_, rfl⟩
  have hit : iterD (.str "hqst") = some (G.map fun c => .str (sg c)) := by rw [hG]; exact iter_tx sgs
  have hGs : ∀ x ∈ G, isSg x := by rw [hG]; decide
  have key (w : Sl) (x3 : Sl) : ∀ s : S, s.r = [.fz (dS l), .fz (dS r), .fz (.int L), x3, .fz (.int g), .fz (.int k), w, .no] → lcL (bName 7) (mAnd (mB (m2 eqD (m1 (wgD L_SIZES) (slB 7)) (slB 4))) (mB (m2 ltD (slB 5) (rt (.int 24))))) (slE 7) s (G.map fun c => .str (sg c)) (0, 0) = .ok (clo g k) (0, 0) := fun s hs => by
    unfold clo
    rw [← hG]
    refine lcL_overF _ _ _ _ _ fun x hx => ⟨_, rfl, ?_, fun _ => by simp [hs]; rfl⟩
    by_cases h1 : siz x = g
    · by_cases h2 : k < 24
      · have : (k : Int) < 24 := by omega
        simp [hs, look_siz (hGs x hx), h1, h2, this]
      · have : ¬ (k : Int) < 24 := by omega
        simp [hs, look_siz (hGs x hx), h1, h2, this]
    · simp [hs, look_siz (hGs x hx), h1]
  have cl := clo_len g k
  have lo : lenOk (clo g k) = true := lenOk_tt (by omega)
  have la (xs : List D) (h : xs.length ≤ 1) := addD_l xs (clo g k) (leN_tt (by omega))
  have l1 := la [dS []] (by simp)
  have l0 := la [] (by simp)
  have e0 : PyData.str "" = dS [] := rfl
  have hb : b_closing_bricks = mSeq (mFor (bName 3) (mI iterD (mTup (aCons (slE 0) (aCons (slE 1) aNil)))) chk) (mSeq (mDrop (mCall phi_need_units (aCons (slE 2) aNil))) (mSeq (mSetF 4 (m2 subD (m2 subD (slB 2) (mCall phi_length_in (aCons (slE 0) aNil))) (mCall phi_length_in (aCons (slE 1) aNil)))) (mSeq (mSetF 5 (m2 addD (m1 lenD (slB 0)) (m1 lenD (slB 1)))) (mSeq (mSetF 6 (mIf (mAnd (mB (m2 eqD (slB 4) (rt (.int 0)))) (mB (mChain leD leD (rt (.int 1)) (slB 5) (rt (.int 24))))) (mLst (aCons (rt (.str "")) aNil)) (mLst aNil))) (mRet (m1 tupD (m2 addD (slB 6) (mLc [7] (mI iterD (rt (.str "hqst"))) (bName 7) (mAnd (mB (m2 eqD (m1 (wgD L_SIZES) (slB 7)) (slB 4))) (mB (m2 ltD (slB 5) (rt (.int 24))))) (slE 7))))))))) := rfl
  simp only [phi_closing_bricks, hb, st0]
  have ld1 := lenD_dS (show l.length ≤ 16777216 by omega)
  have ld2 := lenD_dS (show r.length ≤ 16777216 by omega)
  have ll1 := lenin_ok hl.s (by omega)
  have ll2 := lenin_ok hr.s (by omega)
  have hu := units_ok h1 h2
  by_cases c1 : g = 0
  · subst c1
    by_cases c2 : 1 ≤ k
    · have c2' : (1 : Int) ≤ k := by omega
      by_cases c3 : k ≤ 24
      · have c3' : (k : Int) ≤ 24 := by omega
        have ee : emp 0 k = [dS []] := if_pos ⟨rfl, c2, c3⟩
        simp [-iterD_s, hch, hu, ll1, ll2, hg, ld1, ld2, hkI, c2, c2', c3, c3', hit, e0, key (.ow [dS []]) (.fz (dS r)), key (.ow []) (.fz (dS r)), lo, l1, ee]
      · have c3' : ¬ (k : Int) ≤ 24 := by omega
        have ee : emp 0 k = [] := if_neg (by omega)
        simp [-iterD_s, hch, hu, ll1, ll2, hg, ld1, ld2, hkI, c2, c2', c3, c3', hit, e0, key (.ow [dS []]) (.fz (dS r)), key (.ow []) (.fz (dS r)), lo, l0, ee]
    · have c2' : ¬ (1 : Int) ≤ k := by omega
      have ee : emp 0 k = [] := if_neg (by omega)
      simp [-iterD_s, hch, hu, ll1, ll2, hg, ld1, ld2, hkI, c2, c2', hit, e0, key (.ow [dS []]) (.fz (dS r)), key (.ow []) (.fz (dS r)), lo, l0, ee]
  · have ee : emp g k = [] := if_neg (by omega)
    simp [-iterD_s, hch, hu, ll1, ll2, hg, ld1, ld2, hkI, c1, hit, e0, key (.ow [dS []]) (.fz (dS r)), key (.ow []) (.fz (dS r)), lo, l0, ee]
theorem reaches_ok (a e n : Int) : phi_reaches [.int a, .int e, .int n] = .ok (.bool (decide (n ≤ e - a ∧ e - a ≤ 4 * n))) := by
  have h4 := mul_ok' (i := 4) (j := n) (by decide) (by decide)
  obtain ⟨d, hd⟩ : ∃ d, e - a = d := ⟨_, rfl⟩
  rw [hd]
  by_cases h1 : n ≤ d
  · simp [phi_reaches, b_reaches, hd, h1, h4]
  · simp [phi_reaches, b_reaches, hd, h1]
theorem rws_ok (gap size : Int) : ∀ t : Nat, (rws gap size t).length ≤ 1 ∧ ∀ r ∈ rws gap size t, (∀ c ∈ r, isSg c) ∧ r.length ≤ t
  | 0 => ⟨by simp [rws], fun r h => by have : r = [] := by simpa [rws] using h
                                       subst this; simp⟩
  | t + 1 => by
    obtain ⟨_, ih⟩ := rws_ok gap size t
    refine ⟨by rw [rws, List.length_take]; omega, fun r h => ?_⟩
    have h := List.mem_of_mem_take h
    obtain ⟨r0, h0, h⟩ := List.mem_flatMap.mp h
    obtain ⟨c, hc, rfl⟩ := List.mem_map.mp h
    obtain ⟨i1, i2⟩ := ih r0 h0
    have hc : isSg c := (by decide : ∀ x ∈ sgs, isSg x) c (List.mem_filter.mp hc).1
    refine ⟨fun x hx => ?_, by simp; omega⟩
    rcases List.mem_append.mp hx with hx | hx
    · exact i1 x hx
    · have : x = c := by simpa using hx
      subst this; exact hc
theorem cutD_1 (xs : List D) : cutD xs none (some 1) = xs.take 1 := by
  have e : HT.sIx xs.length xs.length (some 1) = min 1 xs.length := HT.sIx_nat xs.length xs.length 1
  unfold cutD
  rw [e]
  simp [HT.sIx]
/-- one row made longer -/
def longer (gap size : Int) (t : Nat) (r : List Nat) : List (List Nat) := (sgs.filter fun c => decide (size - t - 1 ≤ gap - len (r ++ [c]) ∧ gap - len (r ++ [c]) ≤ 4 * (size - t - 1))).map fun c => r ++ [c]
theorem rws_succ (gap size : Int) (t : Nat) : rws gap size (t + 1) = ((rws gap size t).flatMap (longer gap size t)).take 1 := rfl
theorem longer_len (gap size : Int) (t : Nat) (r : List Nat) : (longer gap size t r).length ≤ 4 := by
  unfold longer
  rw [List.length_map]
  exact List.length_filter_le _ _
theorem fm_len (gap size : Int) (t : Nat) : ((rws gap size t).flatMap (longer gap size t)).length ≤ 4 := by
  have h := (rws_ok gap size t).1
  cases e : rws gap size t with
  | nil => simp
  | cons r rest =>
    rw [e] at h
    have : rest = [] := by cases rest with | nil => rfl | cons _ _ => simp at h
    subst this
    simpa using longer_len gap size t r
def fbody : MS := (mSeq (mFrz 7 (mSetF 7 (mLc2 [9, 10] (mI iterD (slE 7)) (bName 9) mYes [10] (mI iterD (rt (.str "hqst"))) (bName 10) (mB (mCall phi_reaches (aCons (mCall phi_length_in (aCons (m2 addD (slB 9) (slB 10)) aNil)) (aCons (slE 4) (aCons (m2 subD (m2 subD (slB 6) (slB 8)) (rt (.int 1))) aNil))))) (m2 addD (slB 9) (slB 10))))) (mFrz 7 (mSetE 7 (mIf (mB (m2 neD (slB 7) (mLst aNil))) (mSl (slB 7) pNo (pAt (rt (.int 1)))) (slE 7)))))
theorem fturn_ok {gap size : Int} {t : Nat} (ht : t ≤ 100) {a0 a1 a2 a3 a5 x7 : Sl} (h7 : x7 = .ow ((rws gap size t).map dS) ∨ x7 = .fz (.list ((rws gap size t).map dS))) :
    fbody ⟨(0, 0), [a0, a1, a2, a3, .fz (.int gap), a5, .fz (.int size), x7, .fz (.int t), .no, .no]⟩ = .next ⟨(0, 0), [a0, a1, a2, a3, .fz (.int gap), a5, .fz (.int size), .fz (.list ((rws gap size (t + 1)).map dS)), .fz (.int t), .no, .no]⟩ := by
  obtain ⟨G, hG⟩ : ∃ G : List Nat, G = sgs := ⟨_, rfl⟩
  have hit : iterD (.str "hqst") = some (G.map fun c => .str (sg c)) := by rw [hG]; exact iter_tx sgs
  have hGs : ∀ x ∈ G, isSg x := by rw [hG]; decide
  obtain ⟨rl, rs⟩ := rws_ok gap size t
  have fl := fm_len gap size t
  have nsg := (rws_ok gap size (t + 1)).2
  have key : ∀ s : S, s.r = [a0, a1, a2, a3, .fz (.int gap), a5, .fz (.int size), .fz (.list ((rws gap size t).map dS)), .fz (.int t), .no, .no] → lcL2 (bName 9) mYes [10] (mI iterD (rt (.str "hqst"))) (bName 10) (mB (mCall phi_reaches (aCons (mCall phi_length_in (aCons (m2 addD (slB 9) (slB 10)) aNil)) (aCons (slE 4) (aCons (m2 subD (m2 subD (slB 6) (slB 8)) (rt (.int 1))) aNil))))) (m2 addD (slB 9) (slB 10)) s ((rws gap size t).map dS) (0, 0) = .ok (((rws gap size t).flatMap (longer gap size t)).map dS) (0, 0) := fun s hs => by
    rw [List.map_flatMap]
    refine lcL2_fm dS (fun r => (longer gap size t r).map dS) _ _ fun r hr => ⟨_, _, rfl, rfl, by simp [-iterD_s, hit]; rfl, ?_⟩
    obtain ⟨r1, r2⟩ := rs r hr
    unfold longer
    rw [List.map_map, ← hG]
    refine lcL_overF _ _ _ _ _ fun x hx => ⟨_, rfl, ?_, fun _ => ?_⟩
    · have ea : addD (dS r) (.str (sg x)) = some (dS (r ++ [x])) := addS (l := r) (m := [x]) (by rw [List.length_singleton]; omega)
      have el := lenin_ok (l := r ++ [x]) (fun y hy => by
        rcases List.mem_append.mp hy with hy | hy
        · exact r1 y hy
        · have : y = x := by simpa using hy
          subst this; exact hGs _ hx) (by simp; omega)
      obtain ⟨z, hz⟩ : ∃ z, len (r ++ [x]) = z := ⟨_, rfl⟩
      rw [hz] at el
      simp [hs, ea, el, reaches_ok, hz]
    · have ea : addD (dS r) (.str (sg x)) = some (dS (r ++ [x])) := addS (l := r) (m := [x]) (by rw [List.length_singleton]; omega)
      simp [hs, ea]
  obtain ⟨N, hN⟩ : ∃ N, (rws gap size t).flatMap (longer gap size t) = N := ⟨_, rfl⟩
  rw [rws_succ, hN]
  rw [hN] at key fl
  have hNs : ∀ l ∈ N, ∀ c ∈ l, isSg c := fun l hl => by
    rw [← hN] at hl
    obtain ⟨r0, h0, h⟩ := List.mem_flatMap.mp hl
    obtain ⟨c, hc, rfl⟩ := List.mem_map.mp h
    have hc : isSg c := (by decide : ∀ x ∈ sgs, isSg x) c (List.mem_filter.mp hc).1
    intro x hx
    rcases List.mem_append.mp hx with hx | hx
    · exact (rs r0 h0).1 x hx
    · have : x = c := by simpa using hx
      subst this; exact hc
  have hne := neD_nilL hNs
  have lo : lenOk (N.map dS) = true := lenOk_tt (by simp; omega)
  have hcut := cutD_1 (N.map dS)
  have htk : (N.map dS).take 1 = (N.take 1).map dS := by rw [List.map_take]
  rw [htk] at hcut
  unfold fbody
  by_cases hN0 : N = []
  · subst hN0
    have hne : neD (.list []) (.list []) = some (.bool false) := by simpa using hne
    rcases h7 with rfl | rfl <;> simp [-iterD_s, key, hne]
  · rcases h7 with rfl | rfl <;> simp [-iterD_s, -List.map_take, key, lo, hne, hN0, hcut]
theorem fewest_none {l r : List Nat} (hl : Crs0 l) (hr : Crs0 r) {L : Int} (h1 : 1 ≤ L) (h2 : L ≤ 40) {g : Int} (hg : L - len l - len r = g) (hn : g < 0 ∨ 24 < (l.length : Int) + r.length + (g + 3) / 4) : phi_fewest_closing [dS l, dS r, .int L] = .ok .none := by
  have nl := hl.n1
  have nr := hr.n1
  have hch := chks_ok hl hr (c := (0, 0)) (a0 := .fz (dS l)) (a1 := .fz (dS r)) (a2 := .fz (.int L)) (a3 := .no) (rest := [.no, .no, .no, .no, .no, .no, .no])
  have ld1 := lenD_dS (show l.length ≤ 16777216 by omega)
  have ld2 := lenD_dS (show r.length ≤ 16777216 by omega)
  have ll1 := lenin_ok hl.s (by omega)
  have ll2 := lenin_ok hr.s (by omega)
  have hu := units_ok h1 h2
  have hf := fdivD_i (g + 3) 4 (by decide) (by decide)
  obtain ⟨z, hz⟩ : ∃ z, (g + 3) / 4 = z := ⟨_, rfl⟩
  rw [hz] at hf hn
  have hb : ∃ R, b_fewest_closing = mSeq (mFor (bName 3) (mI iterD (mTup (aCons (slE 0) (aCons (slE 1) aNil)))) chk) (mSeq (mDrop (mCall phi_need_units (aCons (slE 2) aNil))) (mSeq (mBind (bTup [(bName 4), (bName 5)]) (mTup (aCons (m2 subD (m2 subD (slB 2) (mCall phi_length_in (aCons (slE 0) aNil))) (mCall phi_length_in (aCons (slE 1) aNil))) (aCons (m2 addD (m1 lenD (slB 0)) (m1 lenD (slB 1))) aNil)))) (mSeq (mIfS (mB (m2 ltD (slB 4) (rt (.int 0)))) (mRet (rt .none)) mNext) (mSeq (mSetF 6 (m2 fdivD (m2 addD (slB 4) (rt (.int 3))) (rt (.int 4)))) (mSeq (mIfS (mOr (mB (m2 gtD (m2 addD (slB 5) (slB 6)) (rt (.int 24)))) (mB (m2 eqD (m2 addD (slB 5) (slB 6)) (rt (.int 0))))) (mRet (rt .none)) mNext) R))))) := ⟨_, rfl⟩
  obtain ⟨R, hb⟩ := hb
  simp only [phi_fewest_closing, hb, st0]
  by_cases c1 : g < 0
  · simp [hch, hu, ll1, ll2, hg, ld1, ld2, c1]
  · have c2 : 24 < (l.length : Int) + r.length + z := by omega
    simp [hch, hu, ll1, ll2, hg, ld1, ld2, c1, hf, c2]
theorem fewest_ok {l r : List Nat} (hl : Crs0 l) (hr : Crs0 r) {L : Int} (h1 : 1 ≤ L) (h2 : L ≤ 40) {g : Int} (hg : L - len l - len r = g) (hg0 : 0 ≤ g) (hn : (l.length : Int) + r.length + (g + 3) / 4 ≤ 24) (hz0 : (l.length : Int) + r.length + (g + 3) / 4 ≠ 0) {x : List Nat} (hx : rws g ((g + 3) / 4) ((g + 3) / 4).toNat = [x]) : phi_fewest_closing [dS l, dS r, .int L] = .ok (dS x) := by
  have nl := hl.n1
  have nr := hr.n1
  have hch := chks_ok hl hr (c := (0, 0)) (a0 := .fz (dS l)) (a1 := .fz (dS r)) (a2 := .fz (.int L)) (a3 := .no) (rest := [.no, .no, .no, .no, .no, .no, .no])
  have ld1 := lenD_dS (show l.length ≤ 16777216 by omega)
  have ld2 := lenD_dS (show r.length ≤ 16777216 by omega)
  have ll1 := lenin_ok hl.s (by omega)
  have ll2 := lenin_ok hr.s (by omega)
  have hu := units_ok h1 h2
  have hf := fdivD_i (g + 3) 4 (by decide) (by decide)
  have hz1 : 0 ≤ (g + 3) / 4 := Int.ediv_nonneg (by omega) (by decide)
  obtain ⟨z, hz⟩ : ∃ z, (g + 3) / 4 = z := ⟨_, rfl⟩
  rw [hz] at hf hn hz0 hx hz1
  obtain ⟨k, hk⟩ : ∃ k, (l.length : Int) + r.length = k := ⟨_, rfl⟩
  rw [hk] at hn hz0
  have er := rng1_ok (i := z) hz1 (by omega)
  have hb : b_fewest_closing = mSeq (mFor (bName 3) (mI iterD (mTup (aCons (slE 0) (aCons (slE 1) aNil)))) chk) (mSeq (mDrop (mCall phi_need_units (aCons (slE 2) aNil))) (mSeq (mBind (bTup [(bName 4), (bName 5)]) (mTup (aCons (m2 subD (m2 subD (slB 2) (mCall phi_length_in (aCons (slE 0) aNil))) (mCall phi_length_in (aCons (slE 1) aNil))) (aCons (m2 addD (m1 lenD (slB 0)) (m1 lenD (slB 1))) aNil)))) (mSeq (mIfS (mB (m2 ltD (slB 4) (rt (.int 0)))) (mRet (rt .none)) mNext) (mSeq (mSetF 6 (m2 fdivD (m2 addD (slB 4) (rt (.int 3))) (rt (.int 4)))) (mSeq (mIfS (mOr (mB (m2 gtD (m2 addD (slB 5) (slB 6)) (rt (.int 24)))) (mB (m2 eqD (m2 addD (slB 5) (slB 6)) (rt (.int 0))))) (mRet (rt .none)) mNext) (mSeq (mSetF 7 (mLst (aCons (rt (.str "")) aNil))) (mSeq (mFor (bName 8) (mI rng1D (slB 6)) fbody) (mRet (m2 ixD (slB 7) (rt (.int 0))))))))))) := rfl
  obtain ⟨s', e, x7, x8, hs, h7⟩ := loop_idx (b := bName 8) (body := fbody) (fun i s => ∃ x7 x8, s = ⟨(0, 0), [.fz (dS l), .fz (dS r), .fz (.int L), .fz (dS r), .fz (.int g), .fz (.int k), .fz (.int z), x7, x8, .no, .no]⟩ ∧ (x7 = .ow ((rws g z i).map dS) ∨ x7 = .fz (.list ((rws g z i).map dS)))) (ints2 0 z.toNat) 0 ⟨(0, 0), [.fz (dS l), .fz (dS r), .fz (.int L), .fz (dS r), .fz (.int g), .fz (.int k), .fz (.int z), .ow [dS []], .no, .no, .no]⟩ ⟨_, _, rfl, .inl rfl⟩ (fun i x s hx ⟨x7, x8, hs, h7⟩ => by
    rw [Nat.zero_add] at h7
    subst hs
    have hi := (List.getElem?_eq_some_iff.mp hx).1
    have hx' : x = .int (i : Int) := by
      rw [List.getElem?_eq_getElem hi] at hx
      have := Option.some.inj hx
      rw [← this]
      simp [ints2]
    subst hx'
    rw [ints2_len] at hi
    exact ⟨_, _, rfl, .inl (fturn_ok (by omega) h7), _, _, rfl, .inr (by rw [Nat.zero_add])⟩)
  rw [Nat.zero_add, ints2_len, hx] at h7
  subst hs
  have n1 : ¬ g < 0 := by omega
  have n2 : ¬ 24 < k + z := by omega
  have e0 : PyData.str "" = dS [] := rfl
  have ha : atI [dS x] 0 = some (dS x) := rfl
  simp only [phi_fewest_closing, hb, st0]
  rcases h7 with rfl | rfl
  · simp [hch, hu, ll1, ll2, hg, ld1, ld2, hk, n1, hf, n2, hz0, e0, er, e, ha]
  · simp [hch, hu, ll1, ll2, hg, ld1, ld2, hk, n1, hf, n2, hz0, e0, er, e, ha]
theorem joinL_nil : ∀ ys : List (List Nat), TL.joinL [] ys = ys.flatten
  | [] => rfl
  | [p] => by simp [TL.joinL]
  | p :: q :: r => by
    have := joinL_nil (q :: r)
    simp [TL.joinL, this]
theorem join_tx (ys : List (List Nat)) : Txt.join (tx []) (ys.map tx) = tx ys.flatten := by
  have := SX.join_S [] ys
  rw [joinL_nil] at this
  exact this
theorem strsD_tx : ∀ ys : List (List Nat), strsD (ys.map dS) = some (ys.map tx)
  | [] => rfl
  | y :: ys => by
    have := strsD_tx ys
    show (strsD (ys.map dS)).map (tx y :: ·) = _
    rw [this]; rfl
theorem rend_ok {c : Int × Int} (hc : CupOk c) : ∃ l c', phi_law_end phi_law_roll c [.int 4] = .ok (dS l) c' ∧ CupOk c' ∧ (∀ x ∈ l, isSg x) ∧ l.length ≤ 4 := by
  obtain ⟨k, c1, e1, hc1, k0, k1⟩ := roll_ok c hc 5 (by decide) (by decide)
  obtain ⟨ds, c2, e2, hc2, hl, hd⟩ := lcL_draw (b := bName 2) (e := mCallC 0 (phi_law_some phi_law_roll) (aCons (rt (.str "hqst")) aNil)) (s := ⟨c1, [.cup, .fz (.int 4), .no]⟩) CupOk (fun d => ∃ l, d = dS l ∧ (l.length = 1 ∧ ∀ x ∈ l, isSg x)) (ints2 0 k.toNat) c1 hc1 (fun x _ c hc => by
    obtain ⟨d, c', e, hc', hd⟩ := rsome_okS roll_ok hc (l := [104, 113, 115, 116]) (by simp) (by simp)
    have e : phi_law_some phi_law_roll c [.str "hqst"] = _ := e
    refine ⟨_, dS [d], c', rfl, by simp [e]; rfl, hc', [d], rfl, rfl, fun x hx => ?_⟩
    have : x = d := by simpa using hx
    subst this
    exact (by decide : ∀ x ∈ [104, 113, 115, 116], isSg x) x hd)
  obtain ⟨f, rfl, hf⟩ := fs_of ds hd
  have hl : f.length = k.toNat := by simpa using hl
  have er := rng1_ok (i := k) k0 (by omega)
  have hsum : ∀ f : List (List Nat), (∀ l ∈ f, l.length = 1) → f.flatten.length = f.length ∧ ((f.map tx).map (·.length)).sum = f.length := fun f hf => by
    induction f with
    | nil => simp
    | cons a f ih =>
      obtain ⟨i1, i2⟩ := ih fun l hl => hf l (List.mem_cons_of_mem _ hl)
      have ha := hf a List.mem_cons_self
      simp at i1 i2 ⊢
      omega
  obtain ⟨s1, s2⟩ := hsum f fun l hl => (hf l hl).1
  have lo : lenOk (f.map dS) = true := lenOk_tt (by simp; omega)
  have jn : joinN (tx []) (f.map tx) = true := leN_tt (by rw [s2]; simp; omega)
  have ej : joinD (.str "") (.list (f.map dS)) = some (dS f.flatten) := by
    show (match strsD (f.map dS) with
      | some ys => if joinN (tx []) ys = true then some (PyData.str (Txt.join (tx []) ys)) else none
      | none => none) = _
    rw [strsD_tx]
    simp only [jn, if_true, join_tx]
    rfl
  refine ⟨f.flatten, c2, ?_, hc2, fun x hx => ?_, by omega⟩
  · simp only [phi_law_end, b_law_end, st0]
    simp [e1, er, e2, lo, ej]
  · obtain ⟨l, hl, hx⟩ := List.mem_flatten.mp hx
    exact (hf l hl).2 x hx
end Pu
end

noncomputable section
set_option Elab.async false
set_option linter.all false
set_option maxRecDepth 100000
set_option maxHeartbeats 2000000
namespace Pu
open PySem PySem.Spec L2
def zs : List (List Nat) := [[], [104], [113], [115], [116]]
def dueF (l r : List Nat) (L : Int) (z : List Nat) : List D := if l ++ z ++ r ≠ [] ∧ len (l ++ z ++ r) = L then [dS z] else []
theorem due_eq {l r : List Nat} {L g : Int} (hg : L - len l - len r = g) (hk : l.length + r.length < 24) : zs.flatMap (dueF l r L) = emp g (l.length + r.length) ++ clo g (l.length + r.length) := by
  have e0 : dueF l r L [] = emp g (l.length + r.length) := by
    unfold dueF emp
    by_cases h : l.length + r.length = 0
    · have hl : l = [] := List.length_eq_zero_iff.mp (by omega)
      have hr : r = [] := List.length_eq_zero_iff.mp (by omega)
      subst hl hr
      simp
    · have hne : l ++ [] ++ r ≠ [] := fun z => h (by have := congrArg List.length z; simpa using this)
      by_cases hz : g = 0
      · rw [if_pos ⟨hne, by simp; omega⟩, if_pos ⟨hz, by omega, by omega⟩]
      · rw [if_neg (fun z => hz (by have := z.2; simp at this; omega)), if_neg (fun z => hz z.1)]
  have e1 (c : Nat) : dueF l r L [c] = if siz c = g then [dS [c]] else [] := by
    unfold dueF
    have hne : l ++ [c] ++ r ≠ [] := by simp
    by_cases hz : siz c = g
    · rw [if_pos ⟨hne, by simp; omega⟩, if_pos hz]
    · rw [if_neg (fun z => hz (by have := z.2; simp at this; omega)), if_neg hz]
  have e2 : clo g (l.length + r.length) = sgs.flatMap fun c => if siz c = g then [dS [c]] else [] := by
    unfold clo sgs
    simp only [List.filter_cons, List.flatMap_cons, hk, and_true]
    by_cases a1 : siz 104 = g <;> by_cases a2 : siz 113 = g <;> by_cases a3 : siz 115 = g <;> by_cases a4 : siz 116 = g <;> simp [a1, a2, a3, a4]
  rw [e2, ← e0]
  simp only [zs, sgs, List.flatMap_cons, List.flatMap_nil, e1]
def bst : Option (List Nat) → D
  | none => .none
  | some x => dS x
/-- the filter of the law is the gap's -/
theorem good_eq {l r : List Nat} {L g : Int} (hg : L - len l - len r = g) (hL : 1 ≤ L) (n : Nat) : ((rowsN n).filter fun x => decide (l ++ x ++ r ≠ [] ∧ len (l ++ x ++ r) = L)) = goodN g n := by
  unfold goodN
  apply List.filter_congr
  intro x _
  apply decide_eq_decide.mpr
  constructor
  · intro ⟨_, h⟩
    simp at h; omega
  · intro h
    refine ⟨fun z => ?_, by simp; omega⟩
    have : len (l ++ x ++ r) = 0 := by rw [z]; rfl
    simp at this; omega
theorem lsize_ok {l r x : List Nat} (hl : ∀ c ∈ l, isSg c) (hr : ∀ c ∈ r, isSg c) (hx : ∀ c ∈ x, isSg c) (hn : l.length + x.length + r.length ≤ 1000) : phi_law_size [dS (l ++ x ++ r)] = .ok (.int (len (l ++ x ++ r))) := size_ok (fun c hc => by
  rcases List.mem_append.mp hc with hc | hc
  · rcases List.mem_append.mp hc with hc | hc
    · exact hl c hc
    · exact hx c hc
  · exact hr c hc) (by simp; omega)
theorem row3 {l r x : List Nat} (hn : l.length + x.length + r.length ≤ 1000) : addD (dS l) (dS x) = some (dS (l ++ x)) ∧ addD (dS (l ++ x)) (dS r) = some (dS (l ++ x ++ r)) := ⟨addS (by omega), addS (by simp; omega)⟩
theorem rows_sg : ∀ n ∈ List.range 5, ∀ x ∈ rowsN n, (∀ c ∈ x, isSg c) ∧ x.length = n := by decide +kernel
def dbody : MS := (mSeq (mSetF 9 (m2 addD (m2 addD (slB 3) (slB 8)) (slB 4))) (mFrz 9 (mSetF 7 (m2 addD (slB 7) (mIf (mAnd (mB (m2 neD (slB 9) (rt (.str "")))) (mB (m2 eqD (mCall phi_law_size (aCons (slE 9) aNil)) (slB 6)))) (mLst (aCons (slE 8) aNil)) (mLst aNil))))))
theorem dloop_ok {l r : List Nat} {L : Int} (hl : ∀ c ∈ l, isSg c) (hr : ∀ c ∈ r, isSg c) (nl : l.length ≤ 4) (nr : r.length ≤ 4) {c : Int × Int} {x2 x5 x8 x9 x10 x11 x12 x13 : Sl} :
    ∃ y8 d9, loopL (bName 8) dbody (zs.map dS) ⟨c, [.no, .cup, x2, .fz (dS l), .fz (dS r), x5, .fz (.int L), .ow [], x8, x9, x10, x11, x12, x13]⟩ = .next ⟨c, [.no, .cup, x2, .fz (dS l), .fz (dS r), x5, .fz (.int L), .ow (zs.flatMap (dueF l r L)), y8, .fz d9, x10, x11, x12, x13]⟩ := by
  obtain ⟨s', e, y8, y9, rfl, h9⟩ := loop_list (b := bName 8) (body := dbody) dS (fun p s => ∃ y8 y9, s = ⟨c, [.no, .cup, x2, .fz (dS l), .fz (dS r), x5, .fz (.int L), .ow (p.flatMap (dueF l r L)), y8, y9, x10, x11, x12, x13]⟩ ∧ (p ≠ [] → ∃ d, y9 = .fz d)) zs [] ⟨c, [.no, .cup, x2, .fz (dS l), .fz (dS r), x5, .fz (.int L), .ow [], x8, x9, x10, x11, x12, x13]⟩ ⟨_, _, rfl, fun h => absurd rfl h⟩ (fun p z q s e ⟨y8, y9, hs, _⟩ => by
    subst hs
    have e : zs = p ++ z :: q := by simpa using e
    have hz : z ∈ zs := by rw [e]; simp
    have hzs : (∀ c ∈ z, isSg c) ∧ z.length ≤ 1 := (by decide : ∀ z ∈ zs, (∀ c ∈ z, isSg c) ∧ z.length ≤ 1) z hz
    have hp : p.length ≤ 5 := by have := congrArg List.length e; simp [zs] at this; omega
    have hpl : (p.flatMap (dueF l r L)).length ≤ 5 := by
      have : ∀ p : List (List Nat), (p.flatMap (dueF l r L)).length ≤ p.length := fun p => by
        induction p with
        | nil => simp
        | cons a p ih =>
          have : (dueF l r L a).length ≤ 1 := by unfold dueF; split <;> simp
          rw [List.flatMap_cons, List.length_append, List.length_cons]; omega
      have := this p; omega
    obtain ⟨a1, a2⟩ := row3 (l := l) (r := r) (x := z) (by omega)
    have hs := lsize_ok hl hr hzs.1 (by omega)
    have hne := neD_nil (l ++ z ++ r)
    obtain ⟨W, hW⟩ : ∃ W, l ++ z ++ r = W := ⟨_, rfl⟩
    have hd : dueF l r L z = if W ≠ [] ∧ len W = L then [dS z] else [] := by unfold dueF; rw [hW]
    rw [hW] at a2 hs hne
    have ad (xs : List D) (h : xs.length ≤ 1) := addD_l (p.flatMap (dueF l r L)) xs (leN_tt (by omega))
    have ad1 := ad [dS z] (by simp)
    have ad0 := ad [] (by simp)
    refine ⟨_, ⟨c, [.no, .cup, x2, .fz (dS l), .fz (dS r), x5, .fz (.int L), .ow ((p ++ [z]).flatMap (dueF l r L)), .fz (dS z), .fz (dS W), x10, x11, x12, x13]⟩, rfl, .inl ?_, _, _, rfl, fun _ => ⟨_, rfl⟩⟩
    have ef : (p ++ [z]).flatMap (dueF l r L) = p.flatMap (dueF l r L) ++ dueF l r L z := by simp
    rw [ef, hd]
    obtain ⟨A, hA⟩ : ∃ A, p.flatMap (dueF l r L) = A := ⟨_, rfl⟩
    rw [hA] at ad1 ad0 ⊢
    have sf : slF (dS W) = .fz (dS W) := rfl
    unfold dbody
    by_cases c1 : W = []
    · subst c1
      simp [a1, a2, sf, hne, ad0]
    · by_cases c2 : len W = L
      · simp [a1, a2, sf, hne, c1, hs, c2, ad1]
      · simp [a1, a2, sf, hne, c1, hs, c2, ad0])
  obtain ⟨d, rfl⟩ := h9 (by simp [zs])
  exact ⟨y8, d, e⟩
def bbody : MS := (mSeq (mFrz 9 (mSetF 12 (mLc [9] (mI iterD (mCall phi_law_rows (aCons (slE 11) aNil))) (bName 9) (mAnd (mB (m2 neD (m2 addD (m2 addD (slB 3) (slB 9)) (slB 4)) (rt (.str "")))) (mB (m2 eqD (mCall phi_law_size (aCons (m2 addD (m2 addD (slB 3) (slB 9)) (slB 4)) aNil)) (slB 6)))) (slE 9)))) (mIfS (mAnd (mB (m2 isD (slB 10) (rt .none))) (mB (m2 neD (slB 12) (mLst aNil)))) (mSetE 10 (m2 ixD (slB 12) (rt (.int 0)))) mNext))
theorem bturn_ok {l r : List Nat} {L g : Int} (hg : L - len l - len r = g) (hL : 1 ≤ L) (hl : ∀ c ∈ l, isSg c) (hr : ∀ c ∈ r, isSg c) (nl : l.length ≤ 4) (nr : r.length ≤ 4) {n : Nat} (hn : n ≤ 4) {c : Int × Int} {x2 x5 x7 x8 x12 x13 : Sl} {d9 : D} :
    bbody ⟨c, [.no, .cup, x2, .fz (dS l), .fz (dS r), x5, .fz (.int L), x7, x8, .fz d9, .fz (bst (bestN g n)), .fz (.int n), x12, x13]⟩ = .next ⟨c, [.no, .cup, x2, .fz (dS l), .fz (dS r), x5, .fz (.int L), x7, x8, .fz d9, .fz (bst (bestN g (n + 1))), .fz (.int n), .ow ((goodN g n).map dS), x13]⟩ := by
  have hR := rows_sg n (by simp; omega)
  obtain ⟨hRl, _⟩ := rows_len n (by simp; omega)
  have er := lrows_ok hn
  have key : ∀ s : S, s.r = [.no, .cup, x2, .fz (dS l), .fz (dS r), x5, .fz (.int L), x7, x8, .no, .fz (bst (bestN g n)), .fz (.int n), x12, x13] → lcL (bName 9) (mAnd (mB (m2 neD (m2 addD (m2 addD (slB 3) (slB 9)) (slB 4)) (rt (.str "")))) (mB (m2 eqD (mCall phi_law_size (aCons (m2 addD (m2 addD (slB 3) (slB 9)) (slB 4)) aNil)) (slB 6)))) (slE 9) s ((rowsN n).map dS) c = .ok ((goodN g n).map dS) c := fun s hs => by
    rw [← good_eq hg hL]
    refine lcL_overF _ _ _ _ _ fun x hx => ⟨_, rfl, ?_, fun _ => by simp [hs]⟩
    obtain ⟨x1, x2⟩ := hR x hx
    obtain ⟨a1, a2⟩ := row3 (l := l) (r := r) (x := x) (by omega)
    have hz := lsize_ok hl hr x1 (by omega)
    have hne := neD_nil (l ++ x ++ r)
    obtain ⟨W, hW⟩ : ∃ W, l ++ x ++ r = W := ⟨_, rfl⟩
    rw [hW] at a2 hz hne ⊢
    by_cases c1 : W = []
    · subst c1
      simp [hs, a1, a2, hne]
    · by_cases c2 : len W = L <;> simp [hs, a1, a2, hne, c1, hz, c2]
  have gs : ∀ l ∈ goodN g n, ∀ c ∈ l, isSg c := fun l hl => (hR l (List.mem_filter.mp hl).1).1
  have gl : (goodN g n).length ≤ 256 := Nat.le_trans (List.length_filter_le _ _) hRl
  have hb : bestN g (n + 1) = match bestN g n with
    | some r => some r
    | none => (goodN g n).head? := rfl
  obtain ⟨N, hN⟩ : ∃ N, goodN g n = N := ⟨_, rfl⟩
  rw [hN] at key gs gl hb ⊢
  have hne := neD_nilL gs
  have lo : lenOk (N.map dS) = true := lenOk_tt (by simp; omega)
  unfold bbody
  cases e : bestN g n with
  | some x =>
    rw [e] at hb key
    rw [hb]
    have i0 : isD (dS x) .none = some (.bool false) := rfl
    rw [show bst (some x) = dS x from rfl] at key
    simp [er, bst, key, lo, i0]
  | none =>
    rw [e] at hb key
    rw [hb]
    rw [show bst none = .none from rfl] at key
    cases N with
    | nil =>
      have hne : neD (.list []) (.list []) = some (.bool false) := by simpa using hne
      simp [er, bst, key, hne]
    | cons y N =>
      have ha : atI (dS y :: N.map dS) 0 = some (dS y) := atI_nat (j := 0) rfl
      have hne : neD (.list (dS y :: N.map dS)) (.list []) = some (.bool true) := by rw [← List.map_cons, hne]; simp
      have lo : lenOk (dS y :: N.map dS) = true := lo
      rw [List.map_cons] at key
      rw [show (y :: N).head? = some y from rfl, show bst (some y) = dS y from rfl, List.map_cons]
      simp [er, bst, key, hne, lo, ha]
theorem bloop_ok {l r : List Nat} {L g : Int} (hg : L - len l - len r = g) (hL : 1 ≤ L) (hl : ∀ c ∈ l, isSg c) (hr : ∀ c ∈ r, isSg c) (nl : l.length ≤ 4) (nr : r.length ≤ 4) {c : Int × Int} {x2 x5 x7 x8 x11 x12 x13 : Sl} {d9 : D} :
    ∃ y11 y12, loopL (bName 11) bbody (ints2 0 5) ⟨c, [.no, .cup, x2, .fz (dS l), .fz (dS r), x5, .fz (.int L), x7, x8, .fz d9, .fz .none, x11, x12, x13]⟩ = .next ⟨c, [.no, .cup, x2, .fz (dS l), .fz (dS r), x5, .fz (.int L), x7, x8, .fz d9, .fz (bst (bestN g 5)), y11, y12, x13]⟩ := by
  obtain ⟨s', e, y11, y12, hs⟩ := loop_idx (b := bName 11) (body := bbody) (fun i s => ∃ y11 y12, s = ⟨c, [.no, .cup, x2, .fz (dS l), .fz (dS r), x5, .fz (.int L), x7, x8, .fz d9, .fz (bst (bestN g i)), y11, y12, x13]⟩) (ints2 0 5) 0 ⟨c, [.no, .cup, x2, .fz (dS l), .fz (dS r), x5, .fz (.int L), x7, x8, .fz d9, .fz .none, x11, x12, x13]⟩ ⟨_, _, rfl⟩ (fun i x s hx ⟨y11, y12, hs⟩ => by
    rw [Nat.zero_add] at hs
    subst hs
    have hi := (List.getElem?_eq_some_iff.mp hx).1
    have hx' : x = .int (i : Int) := by
      rw [List.getElem?_eq_getElem hi] at hx
      rw [← Option.some.inj hx]
      simp [ints2]
    subst hx'
    rw [ints2_len] at hi
    exact ⟨_, _, rfl, .inl (bturn_ok hg hL hl hr nl nr (by omega)), _, _, by rw [Nat.zero_add]⟩)
  rw [Nat.zero_add, ints2_len] at hs
  subst hs
  exact ⟨_, _, e⟩
end Pu
end

noncomputable section
set_option Elab.async false
set_option linter.all false
set_option maxRecDepth 100000
set_option maxHeartbeats 2000000
namespace Pu
open PySem PySem.Spec L2
def b_turn : MS := (mSeq (mBind (bTup [(bName 3), (bName 4)]) (mTup (aCons (mCallC 1 (phi_law_end phi_law_roll) (aCons (rt (.int 4)) aNil)) (aCons (mCallC 1 (phi_law_end phi_law_roll) (aCons (rt (.int 4)) aNil)) aNil)))) (mSeq (mSetE 5 (mCall phi_law_size (aCons (m2 addD (slB 3) (slB 4)) aNil))) (mSeq (mSetF 6 (m2 max2D (rt (.int 1)) (m2 min2D (rt (.int 40)) (m2 subD (m2 addD (slB 5) (mCallC 1 phi_law_roll (aCons (rt (.int 16)) aNil))) (rt (.int 2)))))) (mSeq (mSetF 7 (mLst aNil)) (mSeq (mFor (bName 8) (mI iterD (mTup (aCons (rt (.str "")) (aCons (rt (.str "h")) (aCons (rt (.str "q")) (aCons (rt (.str "s")) (aCons (rt (.str "t")) aNil))))))) dbody) (mSeq (mIfS (mNot (mB (mCall phi_law_same (aCons (mCall phi_closing_bricks (aCons (slE 3) (aCons (slE 4) (aCons (slE 6) aNil)))) (aCons (m1 tupD (slB 7)) aNil))))) (mRet (rt (.bool false))) mNext) (mSeq (mSetF 10 (rt .none)) (mSeq (mFor (bName 11) (mI rng1D (rt (.int 5))) bbody) (mSeq (mSetE 13 (mCall phi_fewest_closing (aCons (slE 3) (aCons (slE 4) (aCons (slE 6) aNil))))) (mSeq (mFrz 13 (mFrz 10 (mIfS (mNot (mB (mCall phi_law_same (aCons (slE 13) (aCons (slE 10) aNil))))) (mRet (rt (.bool false))) mNext))) (mIfS (mAnd (mB (m2 isnD (slB 13) (rt .none))) (mOr (mNot (mB (mCall phi_is_course (aCons (m2 addD (m2 addD (slB 3) (slB 13)) (slB 4)) aNil)))) (mB (m2 neD (mCall phi_length_of (aCons (m2 addD (m2 addD (slB 3) (slB 13)) (slB 4)) aNil)) (slB 6))))) (mRet (rt (.bool false))) mNext)))))))))))
theorem bestN_mem {g : Int} {x : List Nat} : ∀ {n : Nat}, bestN g n = some x → ∃ k, k < n ∧ x ∈ goodN g k
  | 0, h => by cases h
  | n + 1, h => by
    cases e : bestN g n with
    | some y =>
      have : bestN g (n + 1) = some y := by show (match bestN g n with | some r => some r | none => _) = _; rw [e]
      rw [this] at h
      cases h
      obtain ⟨k, h1, h2⟩ := bestN_mem e
      exact ⟨k, by omega, h2⟩
    | none =>
      have : bestN g (n + 1) = (goodN g n).head? := by show (match bestN g n with | some r => some r | none => _) = _; rw [e]
      rw [this] at h
      exact ⟨n, by omega, List.mem_of_head? h⟩
theorem smp_due (l r : List Nat) (L : Int) : smp 8 (.tuple (zs.flatMap (dueF l r L))) = true := by
  have h1 : ∀ d ∈ zs.flatMap (dueF l r L), ∃ z, d = dS z := fun d hd => by
    obtain ⟨z, _, hz⟩ := List.mem_flatMap.mp hd
    unfold dueF at hz
    split at hz
    · exact ⟨z, by simpa using hz⟩
    · cases hz
  have h2 : (zs.flatMap (dueF l r L)).length ≤ 5 := by
    have : ∀ z, (dueF l r L z).length ≤ 1 := fun z => by unfold dueF; split <;> simp
    have a0 := this []
    have a1 := this [104]
    have a2 := this [113]
    have a3 := this [115]
    have a4 := this [116]
    simp only [zs, List.flatMap_cons, List.flatMap_nil, List.length_append, List.length_nil]
    omega
  generalize zs.flatMap (dueF l r L) = X at h1 h2
  have : (∀ d ∈ X, smp 7 d = true) := fun d hd => by obtain ⟨z, rfl⟩ := h1 d hd; rfl
  simp [smp] at this ⊢
  exact ⟨by omega, this⟩
theorem smp_bst (o : Option (List Nat)) : smp 8 (bst o) = true := by cases o <;> rfl
theorem few_best {l r : List Nat} (hls : ∀ c ∈ l, isSg c) (hrs : ∀ c ∈ r, isSg c) (nl : l.length ≤ 4) (nr : r.length ≤ 4) {L g : Int} (h1 : 1 ≤ L) (h2 : L ≤ 40) (hg : L - len l - len r = g) (g13 : g ≤ 13) : phi_fewest_closing [dS l, dS r, .int L] = .ok (bst (bestN g 5)) := by
  have lz := len_le l
  have rz := len_le r
  have lg := len_ge l
  have rg := len_ge r
  have cl : Crs0 l := ⟨hls, by omega, by omega⟩
  have cr : Crs0 r := ⟨hrs, by omega, by omega⟩
  by_cases hn : g < 0
  · rw [none_neg hn]
    exact fewest_none cl cr h1 h2 hg (.inl hn)
  · obtain ⟨m, rfl⟩ : ∃ m : Nat, g = m := ⟨g.toNat, by omega⟩
    obtain ⟨f1, f2⟩ := finite_part m (by simp; omega)
    obtain ⟨x, hx⟩ := Option.isSome_iff_exists.mp f2
    rw [hx] at f1 ⊢
    refine fewest_ok cl cr h1 h2 hg (by omega) (by omega) (fun z => ?_) f1
    have a1 : l.length = 0 := by omega
    have a2 : r.length = 0 := by omega
    have hl0 : l = [] := List.length_eq_zero_iff.mp a1
    have hr0 : r = [] := List.length_eq_zero_iff.mp a2
    subst hl0 hr0
    simp at hg z
    omega
theorem body_ok {s : S} (hc : CupOk s.c) {r : List Sl} (hr : s.r = .no :: .cup :: r) (hl : r.length = 12) : ∃ s2, b_turn s = .next s2 ∧ CupOk s2.c ∧ ∃ r2, s2.r = .no :: .cup :: r2 ∧ r2.length = 12 := by
  obtain ⟨c, rr⟩ := s
  simp only at hc hr
  subst hr
  obtain ⟨l, c1, e1, hc1, hls, nl⟩ := rend_ok hc
  obtain ⟨r', c2, e2, hc2, hrs, nr⟩ := rend_ok hc1
  obtain ⟨v, c3, e3, hc3, v0, v1⟩ := roll_ok c2 hc2 16 (by decide) (by decide)
  match r, hl with
  | [x2, x3, x4, x5, x6, x7, x8, x9, x10, x11, x12, x13], _ =>
    have lz := len_le l
    have rz := len_le r'
    have lg := len_ge l
    have rg := len_ge r'
    have hlr := addS (l := l) (m := r') (by omega)
    have hsz := size_ok (l := l ++ r') (fun c hc => by
      rcases List.mem_append.mp hc with hc | hc
      · exact hls c hc
      · exact hrs c hc) (by simp; omega)
    rw [len_app] at hsz
    obtain ⟨m1, hm1⟩ : ∃ m, (if len l + len r' + v - 2 < 40 then len l + len r' + v - 2 else 40) = m := ⟨_, rfl⟩
    obtain ⟨L, hL⟩ : ∃ L, (if 1 < m1 then m1 else 1) = L := ⟨_, rfl⟩
    have L1 : 1 ≤ L ∧ L ≤ 40 := by rw [← hL, ← hm1]; split <;> split <;> omega
    obtain ⟨g, hg⟩ : ∃ g, L - len l - len r' = g := ⟨_, rfl⟩
    have g13 : g ≤ 13 := by rw [← hg, ← hL, ← hm1]; split <;> split <;> omega
    have cl : Crs0 l := ⟨hls, by omega, by omega⟩
    have cr : Crs0 r' := ⟨hrs, by omega, by omega⟩
    obtain ⟨y8, d9, ed⟩ := dloop_ok (L := L) hls hrs nl nr (c := c3) (x2 := x2) (x5 := .fz (.int (len l + len r'))) (x8 := x8) (x9 := x9) (x10 := x10) (x11 := x11) (x12 := x12) (x13 := x13)
    have ed : loopL (bName 8) dbody [.str "", .str "h", .str "q", .str "s", .str "t"] _ = _ := ed
    have ec := closing_ok cl cr L1.1 L1.2
    rw [hg, ← due_eq hg (by omega)] at ec
    have sd := same_ok (smp_due l r' L)
    obtain ⟨X, hX⟩ : ∃ X, zs.flatMap (dueF l r' L) = X := ⟨_, rfl⟩
    rw [hX] at ed ec sd
    have er : rng1D (.int 5) = some (ints2 0 5) := rng1_ok (by decide) (by decide)
    obtain ⟨y11, y12, eb⟩ := bloop_ok hg L1.1 hls hrs nl nr (c := c3) (x2 := x2) (x5 := .fz (.int (len l + len r'))) (x7 := .ow X) (x8 := y8) (x11 := x11) (x12 := x12) (x13 := x13) (d9 := d9)
    have ef := few_best hls hrs nl nr L1.1 L1.2 hg g13
    have sb := same_ok (smp_bst (bestN g 5))
    unfold b_turn
    cases hb : bestN g 5 with
    | none =>
      rw [hb] at eb ef sb
      rw [show bst none = .none from rfl] at eb ef sb
      simp [e1, e2, hlr, hsz, e3, hm1, hL, ed, ec, sd, er, eb, ef, sb]
      exact hc3
    | some x =>
      obtain ⟨k, hk, hx⟩ := bestN_mem hb
      obtain ⟨hx1, hx2⟩ := List.mem_filter.mp hx
      have hxg : len x = g := by simpa using hx2
      obtain ⟨xs, xn⟩ := rows_sg k (by simpa using hk) x hx1
      obtain ⟨a1, a2⟩ := row3 (l := l) (r := r') (x := x) (by omega)
      have hW : len (l ++ x ++ r') = L := by simp; omega
      have cW : Crs (l ++ x ++ r') := ⟨fun c hc => by
        rcases List.mem_append.mp hc with hc | hc
        · rcases List.mem_append.mp hc with hc | hc
          · exact hls c hc
          · exact xs c hc
        · exact hrs c hc, by
          have := len_le (l ++ x ++ r')
          omega, by simp; omega, by omega⟩
      have f1 := fcourse_ok cW
      have f2 := ncourse_ok cW
      have f3 := lenin_ok cW.s (by have := cW.n1; omega)
      rw [hW] at f3
      obtain ⟨W, hWW⟩ : ∃ W, l ++ x ++ r' = W := ⟨_, rfl⟩
      rw [hWW] at a2 f1 f2 f3
      have g1 : phi_is_course [dS W] = .ok (.bool true) := by simp [phi_is_course, b_is_course, f1]
      have g2 : phi_length_of [dS W] = .ok (.int L) := by simp [phi_length_of, b_length_of, f2, f3]
      rw [hb] at eb ef sb
      rw [show bst (some x) = dS x from rfl] at eb ef sb
      have i0 : isnD (dS x) .none = some (.bool true) := rfl
      simp [e1, e2, hlr, hsz, e3, hm1, hL, ed, ec, sd, er, eb, ef, sb, i0, a1, a2, g1, g2]
      exact hc3
end Pu
end

noncomputable section
set_option Elab.async false
set_option linter.all false
set_option maxRecDepth 100000
set_option maxHeartbeats 2000000
namespace Pu
open PySem PySem.Spec L2
def qs (n : Nat) : List Nat := List.replicate n 113
theorem qs_sg (n : Nat) : ∀ c ∈ qs n, isSg c := fun c hc => by rw [(List.mem_replicate.mp hc).2]; decide
theorem qs_n (n : Nat) : (qs n).length = n := List.length_replicate
theorem qs_len (n : Nat) : len (qs n) = n := by
  induction n with
  | zero => rfl
  | succ n ih =>
    have e : qs (n + 1) = 113 :: qs n := rfl
    rw [e, len_cons, ih]
    have : siz 113 = 1 := rfl
    omega
theorem qs_crs {n : Nat} (h : n ≤ 24) : Crs0 (qs n) := ⟨qs_sg n, by rw [qs_n]; exact h, by rw [qs_len]; omega⟩
theorem mul_q {n : Nat} (h0 : 0 < n) (h : n ≤ 24) : mulD (.str "q") (.int n) = some (dS (qs n)) := by
  have := mulS (l := [113]) (k := (n : Int)) (by simp) (by omega) (by omega)
  rw [show PyData.str "q" = dS [113] from rfl, this]
  simp [qs]
theorem last_ok {v : Int} (v0 : 0 ≤ v) (v1 : v < 5) {c : Int × Int} {x0 x1 x2 x3 x4 x5 x6 x7 x8 x9 x10 x12 x13 : Sl} :
  (mSeq (mSetF 13 (mTup (aCons (mCall phi_fewest_closing (aCons (m2 mulD (rt (.str "q")) (slB 11)) (aCons (rt (.str "")) (aCons (rt (.int 40)) aNil)))) (aCons (mCall phi_closing_bricks (aCons (m2 mulD (rt (.str "q")) (slB 11)) (aCons (rt (.str "")) (aCons (m2 addD (slB 11) (rt (.int 1))) aNil)))) (aCons (mCall phi_closing_bricks (aCons (m2 mulD (rt (.str "q")) (rt (.int 12))) (aCons (m2 mulD (rt (.str "q")) (rt (.int 12))) (aCons (rt (.int 24)) aNil)))) (aCons (mCall phi_closing_bricks (aCons (m2 mulD (rt (.str "q")) (rt (.int 13))) (aCons (m2 mulD (rt (.str "q")) (rt (.int 12))) (aCons (rt (.int 25)) aNil)))) aNil)))))) (mFrz 13 (mRet (mAndV (mCall phi_law_same (aCons (slE 13) (aCons (mTup (aCons (rt .none) (aCons (mIf (mB (m2 ltD (slB 11) (rt (.int 24)))) (mTup (aCons (rt (.str "q")) aNil)) (mTup aNil)) (aCons (mTup (aCons (rt (.str "")) aNil)) (aCons (mTup aNil) aNil))))) aNil))) (m2 eqD (mCall phi_fewest_closing (aCons (m2 mulD (rt (.str "q")) (rt (.int 19))) (aCons (rt (.str "")) (aCons (rt (.int 39)) aNil)))) (rt (.str "sssss"))))))) ⟨c, [x0, x1, x2, x3, x4, x5, x6, x7, x8, x9, x10, .fz (.int (20 + v)), x12, x13]⟩ = .ret (.bool true) c := by
  obtain ⟨n, hn⟩ : ∃ n : Nat, 20 + v = n := ⟨(20 + v).toNat, by omega⟩
  rw [hn]
  have n0 : 20 ≤ n := by omega
  have n1 : n ≤ 24 := by omega
  have m0 := mul_q (n := n) (by omega) n1
  have m1 : mulD (.str "q") (.int 12) = some (dS (qs 12)) := mul_q (n := 12) (by decide) (by decide)
  have m2' : mulD (.str "q") (.int 13) = some (dS (qs 13)) := mul_q (n := 13) (by decide) (by decide)
  have m3 : mulD (.str "q") (.int 19) = some (dS (qs 19)) := mul_q (n := 19) (by decide) (by decide)
  have nil : Crs0 [] := ⟨by simp, by simp, by simp⟩
  have f1 := fewest_none (qs_crs n1) nil (L := 40) (g := 40 - n) (by decide) (by decide) (by rw [qs_len]; simp) (.inr (by rw [qs_n]; simp; omega))
  have f2 := closing_ok (qs_crs n1) nil (L := n + 1) (by omega) (by omega)
  have f3 := closing_ok (qs_crs (n := 12) (by decide)) (qs_crs (n := 12) (by decide)) (L := 24) (by omega) (by omega)
  have f4 := closing_ok (qs_crs (n := 13) (by decide)) (qs_crs (n := 12) (by decide)) (L := 25) (by omega) (by omega)
  have f5 := fewest_ok (qs_crs (n := 19) (by decide)) nil (L := 39) (g := 20) (x := [115, 115, 115, 115, 115]) (by decide) (by decide) (by rw [qs_len]; rfl) (by decide) (by rw [qs_n]; decide) (by rw [qs_n]; decide) finite_20
  have e3 : emp (24 - len (qs 12) - len (qs 12)) ((qs 12).length + (qs 12).length) ++ clo (24 - len (qs 12) - len (qs 12)) ((qs 12).length + (qs 12).length) = [dS []] := by rfl
  have e4 : emp (25 - len (qs 13) - len (qs 12)) ((qs 13).length + (qs 12).length) ++ clo (25 - len (qs 13) - len (qs 12)) ((qs 13).length + (qs 12).length) = [] := by rfl
  have e2 : emp ((n : Int) + 1 - len (qs n) - len []) ((qs n).length + ([] : List Nat).length) ++ clo ((n : Int) + 1 - len (qs n) - len []) ((qs n).length + ([] : List Nat).length) = if n < 24 then [dS [113]] else [] := by
    rw [qs_len, qs_n, len_nil, show (n : Int) + 1 - n - 0 = 1 by omega, show ([] : List Nat).length = 0 from rfl]
    by_cases h : n < 24
    · rw [if_pos h]
      have : clo 1 n = [dS [113]] := by
        unfold clo sgs
        simp [h, siz]
      rw [emp, if_neg (by omega)]
      simpa using this
    · rw [if_neg h]
      have : clo 1 n = [] := by
        unfold clo sgs
        simp [h]
      rw [emp, if_neg (by omega)]
      simpa using this
  rw [e3] at f3
  rw [e4] at f4
  rw [e2] at f2
  have z0 : PyData.str "" = dS [] := rfl
  have z1 : PyData.str "q" = dS [113] := rfl
  have z2 : PyData.str "sssss" = dS [115, 115, 115, 115, 115] := rfl
  have q5 : eqD (dS [115, 115, 115, 115, 115]) (dS [115, 115, 115, 115, 115]) = some (.bool true) := by rw [show dS [115, 115, 115, 115, 115] = .str "sssss" from rfl, eqD_s]; rfl
  rw [z1] at m0 m1 m2' m3
  by_cases h : n < 24
  · have hi : (n : Int) < 24 := by omega
    have sm := same_ok (d := .tuple [.none, .tuple [dS [113]], .tuple [dS []], .tuple []]) (by rfl)
    rw [if_pos h] at f2
    simp [z0, z1, z2, m0, m1, m2', m3, f1, f2, f3, f4, f5, hi, sm, q5]
  · have hi : ¬ (n : Int) < 24 := by omega
    have sm := same_ok (d := .tuple [.none, .tuple [], .tuple [dS []], .tuple []]) (by rfl)
    rw [if_neg h] at f2
    simp [z0, z1, z2, m0, m1, m2', m3, f1, f2, f3, f4, f5, hi, sm, q5]
theorem the_law (ns : List Int) (h : ns.length ≤ 63) : ∃ a b c, phi_law_cup ns = .ok (.list [.int a, .int b]) ∧ b_law ⟨(a, b), .no :: .cup :: List.replicate 12 .no⟩ = .ret (.bool true) c := by
  obtain ⟨a, b, e, hc⟩ := cup_ok ns h
  obtain ⟨s1, h1, hc1, r1, hr1, hl1⟩ := loop_inv (b := bName 2) (body := b_turn) (fun s => CupOk s.c ∧ ∃ r, s.r = .no :: .cup :: r ∧ r.length = 12) (ints2 0 8) ⟨(a, b), .no :: .cup :: List.replicate 12 .no⟩ ⟨hc, _, rfl, rfl⟩ (fun x _ s ⟨hc, r, hr, hl⟩ => by
    match r, hl with
    | x2 :: r, hl =>
      obtain ⟨s2, e2, hc2, r2, hr2, hl2⟩ := body_ok (s := s.up 2 (.fz x)) hc (r := .fz x :: r) (by simp [S.up, hr]) hl
      exact ⟨_, s2, rfl, .inl e2, hc2, r2, hr2, hl2⟩)
  obtain ⟨c1, rr⟩ := s1
  simp only at hr1
  subst hr1
  obtain ⟨v, c2, e2, hc2, v0, v1⟩ := roll_ok c1 hc1 5 (by decide) (by decide)
  refine ⟨a, b, c2, e, ?_⟩
  match r1, hl1 with
  | [x2, x3, x4, x5, x6, x7, x8, x9, x10, x11, x12, x13], _ =>
    have f : mFor (bName 2) (mI rng1D (rt (.int 8))) b_turn ⟨(a, b), .no :: .cup :: List.replicate 12 .no⟩ = .next ⟨c1, [.no, .cup, x2, x3, x4, x5, x6, x7, x8, x9, x10, x11, x12, x13]⟩ := by
      simp [rng1_ok]; exact h1
    have g : mSetF 11 (m2 addD (rt (.int 20)) (mCallC 1 phi_law_roll (aCons (rt (.int 5)) aNil))) ⟨c1, [.no, .cup, x2, x3, x4, x5, x6, x7, x8, x9, x10, x11, x12, x13]⟩ = .next ⟨c2, [.no, .cup, x2, x3, x4, x5, x6, x7, x8, x9, x10, .fz (.int (20 + v)), x12, x13]⟩ := by
      simp [e2]
    have e : b_law = mSeq (mFor (bName 2) (mI rng1D (rt (.int 8))) b_turn) (mSeq (mSetF 11 (m2 addD (rt (.int 20)) (mCallC 1 phi_law_roll (aCons (rt (.int 5)) aNil)))) _) := rfl
    rw [e, mSeq_of f, mSeq_of g]
    exact last_ok v0 v1
end Pu
end

section
open PySem PySem.Spec L2
namespace Pu
theorem at_mk {K : PySem.W.Frag} {h : Heap} {mg : Str → Option Value} (X : K.In h) (G : h.Ns mainGlobals mg) {x : Str} {st : Stmt} {f : Addr} {oc kV dc pm cd ct : Value} {od an : Option Addr} {sl : Array (Option Value)}
    (a : PySem.W.nsIn K mainGlobals x = some (some (.ref f))) (l : K.lookup f = some ⟨oc, od, .func (PySem.W.fnOf x x (defArgs st) (defBody st) (defScope st) .none kV dc pm an cd ct), sl⟩) (c : PySem.W.codeIn K cd x = true) (k : PySem.W.keepIn K (.ref f) = true) : At K mg x st :=
  ⟨f, _, fun_mk (st := st) l c k, PySem.W.mg_of X G a⟩
theorem g_mk {K : PySem.W.Frag} {h : Heap} {mg : Str → Option Value} (X : K.In h) (G : h.Ns mainGlobals mg) {x : Str} {v : Value} {i : Int} (a : PySem.W.nsIn K mainGlobals x = some (some v)) (e : ∃ t, v = .int i t) : ∃ t, mg x = some (.int i t) := by
  obtain ⟨t, rfl⟩ := e
  exact ⟨t, PySem.W.mg_of X G a⟩
theorem w_mk4 {K : PySem.W.Frag} {w : World} {h : Heap} {mg : Str → Option Value} (X : K.In h) (G : h.Ns mainGlobals mg) {x : Str} {p : Addr} {es : Array DictEntry} {n : Nat} {y1 y2 y3 y4 : Str} {i1 i2 i3 i4 : Int} {v1 v2 v3 v4 : Value}
    (a : PySem.W.nsIn K mainGlobals x = some (some (.ref p))) (l : K.lookup p = some ⟨.type "dict", none, .dict es n, #[]⟩) (k : PySem.W.KeysLit w.params es.toList) (lo : (p == sysModules) = false)
    (a1 : PySem.W.nsIn K p y1 = some (some v1)) (a2 : PySem.W.nsIn K p y2 = some (some v2)) (a3 : PySem.W.nsIn K p y3 = some (some v3)) (a4 : PySem.W.nsIn K p y4 = some (some v4))
    (e1 : ∃ t, v1 = .int i1 t) (e2 : ∃ t, v2 = .int i2 t) (e3 : ∃ t, v3 = .int i3 t) (e4 : ∃ t, v4 = .int i4 t) : WD K w mg x [(y1, i1), (y2, i2), (y3, i3), (y4, i4)] := by
  refine ⟨p, es, n, PySem.W.mg_of X G a, ⟨l, k, lo⟩, fun z i e => ?_⟩
  obtain ⟨t1, rfl⟩ := e1
  obtain ⟨t2, rfl⟩ := e2
  obtain ⟨t3, rfl⟩ := e3
  obtain ⟨t4, rfl⟩ := e4
  have go : ∀ {y : Str} {j : Int} {t : Tok} {L : List (Str × Int)}, PySem.W.nsIn K p y = some (some (.int j t)) → (L.lookup z = some i → ∃ t, PySem.W.nsIn K p z = some (some (.int i t))) → ((y, j) :: L).lookup z = some i → ∃ t, PySem.W.nsIn K p z = some (some (.int i t)) := fun {y j t L} hy hr e => by
    rw [List.lookup_cons] at e
    cases q : z == y with
    | true =>
      have q : z = y := by simpa using q
      subst q
      simp at e
      subst e
      exact ⟨t, hy⟩
    | false =>
      rw [q] at e
      exact hr e
  exact go a1 (go a2 (go a3 (go a4 (fun e => by cases e)))) e
theorem gs_mk {K : PySem.W.Frag} {h : Heap} {mg : Str → Option Value} (X : K.In h) (G : h.Ns mainGlobals mg) {x : Str} {v : Value} {i : Str} (a : PySem.W.nsIn K mainGlobals x = some (some v)) (e : ∃ t, v = .str i t) : ∃ t, mg x = some (.str i t) := by
  obtain ⟨t, rfl⟩ := e
  exact ⟨t, PySem.W.mg_of X G a⟩
theorem end_mk {P : Program} {w : World} {K : PySem.W.Frag} {h : Heap} {mg : Str → Option Value} {fa f2 : Addr} (X : K.In h) (G : h.Ns mainGlobals mg) (hfa : mg "law" = some (.ref fa)) (T : Tx K w mg)
    {od2 an2 : Option Addr} {sl2 : Array (Option Value)} {oc2 kV2 dc2 pm2 cd2 ct2 : Value}
    (a2 : PySem.W.nsIn K mainGlobals "law" = some (some (.ref f2))) (l2 : K.lookup f2 = some ⟨oc2, od2, .func (PySem.W.fnOf "law" "law" (defArgs s_law) (defBody s_law) (defScope s_law) .none kV2 dc2 pm2 an2 cd2 ct2), sl2⟩) (c2 : PySem.W.codeIn K cd2 "law" = true) (k2 : PySem.W.keepIn K (.ref f2) = true) :
    ∃ fd : FuncData, (∀ (s : Shared) (v : Value), BindsTo s fd ⟨[v], []⟩ [("script", v)]) ∧ ∀ base : Heap, K.In base → base.Ns mainGlobals mg → FnOk P w K mg base (L2.CX P w) 10 fa fd ["script"] (spLaw K) := by
  have e := hfa.symm.trans (PySem.W.mg_of X G a2)
  cases e
  have F2 := fun_mk (st := s_law) l2 c2 k2
  exact ⟨PySem.W.fnOf "law" "law" (defArgs s_law) (defBody s_law) (defScope s_law) .none kV2 dc2 pm2 an2 cd2 ct2, fun s v => .of_eq rfl, fun base _ _ => ok_law F2 T the_law⟩
end Pu
end
open PySem PySem.W PyProof.Rows
set_option maxHeartbeats 0 in
theorem PySem.Challenge.cw_brickbonds_k90_whole_ends_that_meet_holds : PySem.Challenge.rw_brickbonds_k90_whole_ends_that_meet.Holds := by
  w_on; o_law; k_head; (case hw => w_witness2)
  k_fill
  refine L2.walk_of (l := PySem.Challenge.rw_brickbonds_k90_whole_ends_that_meet) (n := 63) (k := 10) (x := "script") (CX := fun w => L2.CX PySem.Challenge.rw_brickbonds_k90_whole_ends_that_meet.prog w) (sp := fun w => Pu.spLaw _) rfl (by decide) rfl ⟨rfl, by decide, by decide⟩ (fun w h Y => PySem.W.kIn_of Y) ?F (fun _ _ a ns hl _ hS => ⟨a, ns, rfl, hS, hl, fun _ => rfl⟩) (fun _ _ _ _ _ ⟨_, _, _, _, _, _, _, _, _, _, _, _, h⟩ => h)
  case F =>
    intro w mg fa h KX G hmg
    refine' Pu.end_mk KX G hmg ⟨Pu.at_mk KX G ?a1 ?l1 ?c1 ?k1, Pu.at_mk KX G ?a2 ?l2 ?c2 ?k2, Pu.at_mk KX G ?a3 ?l3 ?c3 ?k3, Pu.at_mk KX G ?a4 ?l4 ?c4 ?k4, Pu.at_mk KX G ?a5 ?l5 ?c5 ?k5, Pu.at_mk KX G ?a6 ?l6 ?c6 ?k6, Pu.at_mk KX G ?a7 ?l7 ?c7 ?k7, Pu.at_mk KX G ?a8 ?l8 ?c8 ?k8, Pu.at_mk KX G ?a9 ?l9 ?c9 ?k9, Pu.at_mk KX G ?a10 ?l10 ?c10 ?k10, Pu.at_mk KX G ?a11 ?l11 ?c11 ?k11, Pu.at_mk KX G ?a12 ?l12 ?c12 ?k12, Pu.at_mk KX G ?a13 ?l13 ?c13 ?k13, Pu.at_mk KX G ?a14 ?l14 ?c14 ?k14, Pu.at_mk KX G ?a15 ?l15 ?c15 ?k15, Pu.at_mk KX G ?a16 ?l16 ?c16 ?k16, Pu.at_mk KX G ?a17 ?l17 ?c17 ?k17, Pu.at_mk KX G ?a18 ?l18 ?c18 ?k18, PySem.W.mg_none_of KX G ?z19, PySem.W.mg_none_of KX G ?z20, PySem.W.mg_none_of KX G ?z21, PySem.W.mg_none_of KX G ?z22, PySem.W.mg_none_of KX G ?z23, PySem.W.mg_none_of KX G ?z24, PySem.W.mg_none_of KX G ?z25, PySem.W.mg_none_of KX G ?z26, PySem.W.mg_none_of KX G ?z27, PySem.W.mg_none_of KX G ?z28, PySem.W.mg_none_of KX G ?z29, PySem.W.mg_none_of KX G ?z30, PySem.W.mg_none_of KX G ?z31, PySem.W.mg_none_of KX G ?z32, Pu.g_mk KX G ?z33 ?e33, Pu.g_mk KX G ?z34 ?e34, Pu.gs_mk KX G ?z35 ?e35, Pu.g_mk KX G ?z36 ?e36, Pu.w_mk4 KX G ?z37 ?l37 ?kl37 ?lo37 ?z37_0 ?z37_1 ?z37_2 ?z37_3 ?e37_0 ?e37_1 ?e37_2 ?e37_3⟩ ?a0 ?l0 ?c0 ?k0
    (case a1 => k_is)
    (case l1 => k_is)
    (case c1 => k_is)
    (case k1 => k_is)
    (case a2 => k_is)
    (case l2 => k_is)
    (case c2 => k_is)
    (case k2 => k_is)
    (case a3 => k_is)
    (case l3 => k_is)
    (case c3 => k_is)
    (case k3 => k_is)
    (case a4 => k_is)
    (case l4 => k_is)
    (case c4 => k_is)
    (case k4 => k_is)
    (case a5 => k_is)
    (case l5 => k_is)
    (case c5 => k_is)
    (case k5 => k_is)
    (case a6 => k_is)
    (case l6 => k_is)
    (case c6 => k_is)
    (case k6 => k_is)
    (case a7 => k_is)
    (case l7 => k_is)
    (case c7 => k_is)
    (case k7 => k_is)
    (case a8 => k_is)
    (case l8 => k_is)
    (case c8 => k_is)
    (case k8 => k_is)
    (case a9 => k_is)
    (case l9 => k_is)
    (case c9 => k_is)
    (case k9 => k_is)
    (case a10 => k_is)
    (case l10 => k_is)
    (case c10 => k_is)
    (case k10 => k_is)
    (case a11 => k_is)
    (case l11 => k_is)
    (case c11 => k_is)
    (case k11 => k_is)
    (case a12 => k_is)
    (case l12 => k_is)
    (case c12 => k_is)
    (case k12 => k_is)
    (case a13 => k_is)
    (case l13 => k_is)
    (case c13 => k_is)
    (case k13 => k_is)
    (case a14 => k_is)
    (case l14 => k_is)
    (case c14 => k_is)
    (case k14 => k_is)
    (case a15 => k_is)
    (case l15 => k_is)
    (case c15 => k_is)
    (case k15 => k_is)
    (case a16 => k_is)
    (case l16 => k_is)
    (case c16 => k_is)
    (case k16 => k_is)
    (case a17 => k_is)
    (case l17 => k_is)
    (case c17 => k_is)
    (case k17 => k_is)
    (case a18 => k_is)
    (case l18 => k_is)
    (case c18 => k_is)
    (case k18 => k_is)
    (case z19 => k_is)
    (case z20 => k_is)
    (case z21 => k_is)
    (case z22 => k_is)
    (case z23 => k_is)
    (case z24 => k_is)
    (case z25 => k_is)
    (case z26 => k_is)
    (case z27 => k_is)
    (case z28 => k_is)
    (case z29 => k_is)
    (case z30 => k_is)
    (case z31 => k_is)
    (case z32 => k_is)
    (case z33 => k_is)
    (case e33 => exact ⟨_, rfl⟩)
    (case z34 => k_is)
    (case e34 => exact ⟨_, rfl⟩)
    (case z35 => k_is)
    (case e35 => exact ⟨_, rfl⟩)
    (case z36 => k_is)
    (case e36 => exact ⟨_, rfl⟩)
    (case z37 => k_is)
    (case l37 => k_is)
    (case z37_0 => k_is)
    (case z37_1 => k_is)
    (case z37_2 => k_is)
    (case z37_3 => k_is)
    (case e37_0 => exact ⟨_, rfl⟩)
    (case e37_1 => exact ⟨_, rfl⟩)
    (case e37_2 => exact ⟨_, rfl⟩)
    (case e37_3 => exact ⟨_, rfl⟩)
    (case kl37 => exact ⟨⟨_, _, rfl, rfl⟩, ⟨_, _, rfl, rfl⟩, ⟨_, _, rfl, rfl⟩, ⟨_, _, rfl, rfl⟩, trivial⟩)
    (case lo37 => rfl)
    (case a0 => k_is)
    (case l0 => k_is)
    (case c0 => k_is)
    (case k0 => k_is)
