import PyProof.Rows.All
import Wide.All
import OpenK.AllK
import Wide.FinOn
import HandS.ForMost
import HandS.ForExc
import HandS.Walk
import HandS.Wide
import HandS.IsInst
import HandS.CallSlots
import HandS.TupLe
import HandS.Style
import HandS.Deep
import HandS.NoneIn
import HandS.ExcValue
import HandS.ExcIs
import HandS.Conv
import KE.DataFind
import HandS.SortInts
import HandS.SetFor
import HandS.Strs
import HandS.ExcOwn
import KE.SortData
import KE.DataCmp
import PySem.Challenge.RW_ratelaws_k12_more_errors
set_option Elab.async false
set_option linter.all false
set_option maxRecDepth 100000
set_option autoImplicit false
set_option maxHeartbeats 4000000
namespace RL
open PySem L2

/-! ### data -/
inductive D where
  | non | bl (b : Bool) | int (i : Int) | str (z : Str) | lst (xs : List D) | tup (xs : List D)
  | drw | tab (k : Nat) | exc (k : Nat)

/-- a slot of a frame: empty, a datum that nobody changes, a list that this frame alone may change -/
inductive Sl where
  | emp | dat (d : D) | own (xs : List D)
abbrev Rho := List Sl
/-- the world: the drawing object's numbers and count; the tables' sizes and trials -/
structure Wd where
  dr : Option (List Int × Int)
  tb : List (Int × List D)
inductive Res (α : Type) where
  | ok (a : α) (w : Wd) | exc (k : Nat) (w : Wd) | bad
def Res.bind {α β : Type} : Res α → (α → Wd → Res β) → Res β
  | .ok a w, f => f a w
  | .exc k w, _ => .exc k w
  | .bad, _ => .bad
inductive RS where
  | next (r : Rho) (w : Wd) | ret (d : D) (w : Wd) | exc (k : Nat) (r : Rho) (w : Wd) | bad

/-- addresses of the program: the exceptions' classes, the tables' class -/
structure Cn where
  ec : Nat → Addr
  tC : Addr
/-- the frozen part of the heap, the drawing object's two lists, the tables (instance, dict, list) -/
structure Gs where
  F : Hp
  dr : Option (Addr × Addr)
  tb : List (Addr × Addr × Addr)
def wdr : Option (Addr × Addr) → List Addr
  | none => []
  | some (a, b) => [a, b]
def wtb : List (Addr × Addr × Addr) → List Addr
  | [] => []
  | (t, _, l) :: r => t :: l :: wtb r
def Gs.wadr (g : Gs) : List Addr := wdr g.dr ++ wtb g.tb

def excP (a C : Addr) : Heap → Prop := fun h => ∃ oe vs, h.get? a = some oe ∧ Zc (.ref C) none oe ∧ oe.data = .fields vs

mutual
inductive Rep (c : Cn) (g : Gs) : V → D → Prop
  | non : Rep c g .non .non
  | bl (b : Bool) : Rep c g (.bl b) (.bl b)
  | int (i : Int) : Rep c g (.int i) (.int i)
  | str (z : Str) : Rep c g (.str z) (.str z)
  | lst {a : Addr} {vs : List V} {ds : List D} : g.F a = some (.lst vs) → RepL c g vs ds → Rep c g (.ref a) (.lst ds)
  | tup {a : Addr} {vs : List V} {ds : List D} : g.F a = some (.tup vs) → RepL c g vs ds → Rep c g (.ref a) (.tup ds)
  | drw {a b : Addr} : g.dr = some (a, b) → Rep c g (.ref a) .drw
  | tab {k : Nat} {t dx l : Addr} : g.tb[k]? = some (t, dx, l) → Rep c g (.ref t) (.tab k)
  | exc {k : Nat} {a : Addr} : g.F a = some (.ext (excP a (c.ec k))) → Rep c g (.ref a) (.exc k)
inductive RepL (c : Cn) (g : Gs) : List V → List D → Prop
  | nil : RepL c g [] []
  | cons {v : V} {d : D} {vs : List V} {ds : List D} : Rep c g v d → RepL c g vs ds → RepL c g (v :: vs) (d :: ds)
end

/-- g' knows all that g knows -/
structure Gle (g g' : Gs) : Prop where
  sF : Same g.F g'.F
  dr : ∀ p, g.dr = some p → g'.dr = some p
  tb : ∀ (k : Nat) p, g.tb[k]? = some p → g'.tb[k]? = some p
theorem Gle.refl (g : Gs) : Gle g g := ⟨Same.refl _, fun _ h => h, fun _ _ h => h⟩
theorem Gle.trans {a b c : Gs} (h : Gle a b) (k : Gle b c) : Gle a c := ⟨h.sF.trans k.sF, fun p q => k.dr p (h.dr p q), fun i p q => k.tb i p (h.tb i p q)⟩

mutual
theorem Rep.mono {c : Cn} {g g' : Gs} (h : Gle g g') : ∀ {d : D} {v : V}, Rep c g v d → Rep c g' v d
  | .non, _, r => by cases r; exact .non
  | .bl _, _, r => by cases r; exact .bl _
  | .int _, _, r => by cases r; exact .int _
  | .str _, _, r => by cases r; exact .str _
  | .lst ds, _, r => by
    cases r with
    | lst e l => exact .lst (h.sF _ _ e) (RepL.mono h l)
  | .tup ds, _, r => by
    cases r with
    | tup e l => exact .tup (h.sF _ _ e) (RepL.mono h l)
  | .drw, _, r => by
    cases r with
    | drw e => exact .drw (h.dr _ e)
  | .tab k, _, r => by
    cases r with
    | tab e => exact .tab (h.tb _ _ e)
  | .exc k, _, r => by
    cases r with
    | exc e => exact .exc (h.sF _ _ e)
theorem RepL.mono {c : Cn} {g g' : Gs} (h : Gle g g') : ∀ {ds : List D} {vs : List V}, RepL c g vs ds → RepL c g' vs ds
  | [], _, r => by cases r; exact .nil
  | d :: ds, _, r => by
    cases r with
    | cons a b => exact .cons (Rep.mono h a) (RepL.mono h b)
end
section
variable {c : Cn} {g : Gs}
theorem RepL.length : ∀ {vs : List V} {ds : List D}, RepL c g vs ds → vs.length = ds.length
  | _, _, .nil => rfl
  | _, _, .cons _ r => by simp [RepL.length r]
theorem RepL.get : ∀ {vs : List V} {ds : List D} {i : Nat} {v : V}, RepL c g vs ds → vs[i]? = some v → ∃ d, ds[i]? = some d ∧ Rep c g v d
  | _, _, _, _, .nil, e => by simp at e
  | _, _, 0, _, .cons a _, e => by simp at e; subst e; exact ⟨_, rfl, a⟩
  | _, _, i + 1, v, .cons _ r, e => by
    obtain ⟨d, h1, h2⟩ := RepL.get (i := i) (v := v) r (by simpa using e)
    exact ⟨d, by simpa using h1, h2⟩
theorem RepL.getD : ∀ {vs : List V} {ds : List D} {i : Nat} {d : D}, RepL c g vs ds → ds[i]? = some d → ∃ v, vs[i]? = some v ∧ Rep c g v d
  | _, _, _, _, .nil, e => by simp at e
  | _, _, 0, _, .cons a _, e => by simp at e; subst e; exact ⟨_, rfl, a⟩
  | _, _, i + 1, v, .cons _ r, e => by
    obtain ⟨d, h1, h2⟩ := RepL.getD (i := i) (d := v) r (by simpa using e)
    exact ⟨d, by simpa using h1, h2⟩
theorem RepL.append : ∀ {vs ws : List V} {ds es : List D}, RepL c g vs ds → RepL c g ws es → RepL c g (vs ++ ws) (ds ++ es)
  | _, _, _, _, .nil, s => s
  | _, _, _, _, .cons a r, s => .cons a (RepL.append r s)
theorem RepL.take : ∀ {vs : List V} {ds : List D} (n : Nat), RepL c g vs ds → RepL c g (vs.take n) (ds.take n)
  | _, _, 0, _ => by simpa using RepL.nil
  | _, _, _ + 1, .nil => by simpa using RepL.nil
  | _, _, n + 1, .cons a r => .cons a (RepL.take n r)
theorem RepL.drop : ∀ {vs : List V} {ds : List D} (n : Nat), RepL c g vs ds → RepL c g (vs.drop n) (ds.drop n)
  | _, _, 0, r => r
  | _, _, _ + 1, .nil => by simpa using RepL.nil
  | _, _, n + 1, .cons _ r => RepL.drop n r
theorem RepL.set {v : V} {d : D} (h : Rep c g v d) : ∀ {vs : List V} {ds : List D} (i : Nat), RepL c g vs ds → RepL c g (vs.set i v) (ds.set i d)
  | _, _, _, .nil => .nil
  | _, _, 0, .cons _ r => .cons h r
  | _, _, i + 1, .cons a r => .cons a (RepL.set h i r)
theorem RepL.reverse : ∀ {vs : List V} {ds : List D}, RepL c g vs ds → RepL c g vs.reverse ds.reverse
  | _, _, .nil => .nil
  | _, _, .cons a r => by
    rw [List.reverse_cons, List.reverse_cons]
    exact (RepL.reverse r).append (.cons a .nil)
theorem RepL.rep : ∀ {vs : List V} {ds : List D} (n : Nat), RepL c g vs ds → RepL c g (List.replicate n vs).flatten (List.replicate n ds).flatten
  | _, _, 0, _ => .nil
  | _, _, n + 1, r => by
    rw [List.replicate_succ, List.replicate_succ, List.flatten_cons, List.flatten_cons]
    exact r.append (RepL.rep n r)
end

/-! ### the world in the heap -/
structure WOk (c : Cn) (g : Gs) (H : Hp) (w : Wd) : Prop where
  sub : Same g.F H
  dr : ∀ ns n, w.dr = some (ns, n) → ∃ a b, g.dr = some (a, b) ∧ H a = some (.lst [.ref b, .int n]) ∧ H b = some (.lst (ns.map V.int))
  dr0 : w.dr = none → g.dr = none
  tb : ∀ (k : Nat) sz ln, w.tb[k]? = some (sz, ln) → ∃ t dx l vs, g.tb[k]? = some (t, dx, l) ∧ H t = some (.ins c.tC dx [("size", .int sz), ("line", .ref l)]) ∧ H l = some (.lst vs) ∧ RepL c g vs ln
  tbl : g.tb.length = w.tb.length
  nd : g.wadr.Nodup
  out : ∀ a ∈ g.wadr, g.F a = none

/-- from (g, H) to (g', H'): what is known stays known; all but the world's own objects is kept; new things are new -/
structure Ext (g : Gs) (H : Hp) (g' : Gs) (H' : Hp) : Prop extends Gle g g' where
  keep : ∀ a o, H a = some o → a ∉ g.wadr → H' a = some o
  dom : ∀ a, H' a = none → H a = none
  frF : ∀ a, g.F a = none → H a ≠ none → g'.F a = none
  frW : ∀ a, a ∈ g'.wadr → a ∈ g.wadr ∨ H a = none
theorem Ext.refl (g : Gs) (H : Hp) : Ext g H g H := ⟨Gle.refl g, fun _ _ h _ => h, fun _ h => h, fun _ h _ => h, fun _ h => .inl h⟩
theorem Ext.trans {g g1 g2 : Gs} {H H1 H2 : Hp} (a : Ext g H g1 H1) (b : Ext g1 H1 g2 H2) : Ext g H g2 H2 := by
  refine ⟨a.toGle.trans b.toGle, fun x o e n => ?_, fun x e => a.dom x (b.dom x e), fun x e n => ?_, fun x e => ?_⟩
  · refine b.keep x o (a.keep x o e n) fun z => ?_
    rcases a.frW x z with q | q
    · exact n q
    · rw [q] at e; cases e
  · exact b.frF x (a.frF x e n) fun z => n (a.dom x z)
  · rcases b.frW x e with q | q
    · exact a.frW x q
    · exact .inr (a.dom x q)
/-- a new object is laid in the frozen part -/
def Gs.lay (g : Gs) (p : Addr) (o : HO) : Gs := { g with F := upd g.F p o }
theorem Gs.lay_wadr (g : Gs) (p : Addr) (o : HO) : (g.lay p o).wadr = g.wadr := rfl
section
variable {c : Cn} {g : Gs} {H : Hp} {w : Wd} {p : Addr} {o : HO}
theorem WOk.fresh (h : WOk c g H w) (hp : H p = none) : g.F p = none := h.sub.free hp
theorem wtb_mem {k : Nat} {t dx l : Addr} : ∀ {tb : List (Addr × Addr × Addr)}, tb[k]? = some (t, dx, l) → t ∈ wtb tb ∧ l ∈ wtb tb := by
  induction k with
  | zero =>
    intro tb e
    cases tb with
    | nil => simp at e
    | cons x r =>
      simp at e; subst e
      simp [wtb]
  | succ k ih =>
    intro tb e
    cases tb with
    | nil => simp at e
    | cons x r =>
      obtain ⟨a, b, d⟩ := x
      obtain ⟨h1, h2⟩ := ih (tb := r) (by simpa using e)
      simp [wtb, h1, h2]
theorem mem_wtb {a : Addr} : ∀ {tb : List (Addr × Addr × Addr)}, a ∈ wtb tb → ∃ (k : Nat) (t dx l : Addr), tb[k]? = some (t, dx, l) ∧ (a = t ∨ a = l)
  | [], h => by simp [wtb] at h
  | (t, dx, l) :: r, h => by
    simp only [wtb, List.mem_cons] at h
    rcases h with h | h | h
    · exact ⟨0, t, dx, l, rfl, .inl h⟩
    · exact ⟨0, t, dx, l, rfl, .inr h⟩
    · obtain ⟨k, t', dx', l', e, q⟩ := mem_wtb h
      exact ⟨k + 1, t', dx', l', by simpa using e, q⟩
/-- the world's own objects stand in the heap -/
theorem WOk.there (h : WOk c g H w) {a : Addr} (ha : a ∈ g.wadr) : H a ≠ none := by
  rcases List.mem_append.mp ha with q | q
  · cases e : w.dr with
    | none => rw [h.dr0 e] at q; simp [wdr] at q
    | some p =>
      obtain ⟨x, y, e1, e2, e3⟩ := h.dr p.1 p.2 e
      rw [e1] at q
      simp only [wdr, List.mem_cons, List.not_mem_nil, or_false] at q
      rcases q with rfl | rfl
      · rw [e2]; simp
      · rw [e3]; simp
  · obtain ⟨k, t, dx, l, e, q⟩ := mem_wtb q
    have hk : k < w.tb.length := by
      rw [← h.tbl]
      exact (List.getElem?_eq_some_iff.mp e).1
    obtain ⟨t', dx', l', vs, e1, e2, e3, _⟩ := h.tb k w.tb[k].1 w.tb[k].2 (by simp [hk])
    rw [e] at e1
    cases e1
    rcases q with rfl | rfl
    · rw [e2]; simp
    · rw [e3]; simp
theorem Ext.laid (h : WOk c g H w) (hp : H p = none) : Ext g H (g.lay p o) (upd H p o) := by
  refine ⟨⟨fun b u e => ?_, fun _ q => q, fun _ _ q => q⟩, fun b u e _ => ?_, fun b e => ?_, fun b e n => ?_, fun b e => .inl e⟩
  · show upd g.F p o b = some u
    rw [upd_ne (ne_of_none e (h.fresh hp))]; exact e
  · rw [upd_ne (ne_of_none e hp)]; exact e
  · by_cases q : b = p
    · rw [q, upd_same] at e; cases e
    · rw [upd_ne q] at e; exact e
  · show upd g.F p o b = none
    rw [upd_ne (fun q => n (by rw [q]; exact hp))]; exact e
/-- an object laid, not frozen -/
theorem Ext.upd (hp : H p = none) : Ext g H g (upd H p o) := by
  refine ⟨Gle.refl g, fun b u e _ => ?_, fun b e => ?_, fun b e _ => e, fun b e => .inl e⟩
  · rw [upd_ne (ne_of_none e hp)]; exact e
  · by_cases q : b = p
    · rw [q, upd_same] at e; cases e
    · rw [upd_ne q] at e; exact e
theorem WOk.laid (h : WOk c g H w) (hp : H p = none) : WOk c (g.lay p o) (L2.upd H p o) w := by
  have ne : ∀ a, a ∈ g.wadr → a ≠ p := fun a ha q => h.there ha (by rw [q]; exact hp)
  have X := Ext.laid (o := o) h hp
  refine ⟨fun b u e => ?_, fun ns n e => ?_, h.dr0, fun k sz ln e => ?_, h.tbl, h.nd, fun a ha => ?_⟩
  · by_cases q : b = p
    · subst q
      have e' : L2.upd g.F b o b = some u := e
      rw [upd_same] at e' ⊢
      exact e'
    · have e' : L2.upd g.F p o b = some u := e
      rw [upd_ne q] at e' ⊢
      exact h.sub _ _ e'
  · obtain ⟨a, b, e1, e2, e3⟩ := h.dr ns n e
    exact ⟨a, b, e1, by rw [upd_ne (ne_of_none e2 hp)]; exact e2, by rw [upd_ne (ne_of_none e3 hp)]; exact e3⟩
  · obtain ⟨t, dx, l, vs, e1, e2, e3, r⟩ := h.tb k sz ln e
    exact ⟨t, dx, l, vs, e1, by rw [upd_ne (ne_of_none e2 hp)]; exact e2, by rw [upd_ne (ne_of_none e3 hp)]; exact e3, r.mono X.toGle⟩
  · show L2.upd g.F p o a = none
    rw [upd_ne (ne a ha)]
    exact h.out a ha
/-- an object outside of the world and the frozen part is written or laid -/
theorem WOk.write (h : WOk c g H w) (hp : p ∉ g.wadr) (hF : g.F p = none) : WOk c g (L2.upd H p o) w := by
  have ne : ∀ a, a ∈ g.wadr → a ≠ p := fun a ha q => hp (q ▸ ha)
  refine ⟨fun b u e => ?_, fun ns n e => ?_, h.dr0, fun k sz ln e => ?_, h.tbl, h.nd, h.out⟩
  · rw [upd_ne (ne_of_none e hF)]
    exact h.sub _ _ e
  · obtain ⟨a, b, e1, e2, e3⟩ := h.dr ns n e
    have m : a ∈ g.wadr ∧ b ∈ g.wadr := by simp [Gs.wadr, e1, wdr]
    exact ⟨a, b, e1, by rw [upd_ne (ne a m.1)]; exact e2, by rw [upd_ne (ne b m.2)]; exact e3⟩
  · obtain ⟨t, dx, l, vs, e1, e2, e3, r⟩ := h.tb k sz ln e
    obtain ⟨m1, m2⟩ := wtb_mem e1
    have m : t ∈ g.wadr ∧ l ∈ g.wadr := ⟨List.mem_append_right _ m1, List.mem_append_right _ m2⟩
    exact ⟨t, dx, l, vs, e1, by rw [upd_ne (ne t m.1)]; exact e2, by rw [upd_ne (ne l m.2)]; exact e3, r⟩
theorem WOk.notW (h : WOk c g H w) (hp : H p = none) : p ∉ g.wadr := fun q => h.there q hp
end

/-! ### a frame's slots -/
/-- B: the heap at the frame's entry -/
structure EOk (c : Cn) (B : Hp) (g : Gs) (H : Hp) (r : Rho) (σ : St) : Prop where
  len : r.length = σ.length
  dat : ∀ (i : Nat) d, r[i]? = some (.dat d) → ∃ v, σ[i]? = some (some v) ∧ Rep c g v d
  own : ∃ ad : Nat → Addr, (∀ (i : Nat) xs, r[i]? = some (.own xs) → σ[i]? = some (some (.ref (ad i))) ∧ g.F (ad i) = none ∧ ad i ∉ g.wadr ∧ B (ad i) = none ∧ ∃ vs, H (ad i) = some (.lst vs) ∧ RepL c g vs xs) ∧
    ∀ (i j : Nat) xs ys, r[i]? = some (.own xs) → r[j]? = some (.own ys) → ad i = ad j → i = j
theorem EOk.ext {c : Cn} {B : Hp} {g g' : Gs} {H H' : Hp} {r : Rho} {σ : St} (h : EOk c B g H r σ) (x : Ext g H g' H') : EOk c B g' H' r σ := by
  refine ⟨h.len, fun i d e => ?_, ?_⟩
  · obtain ⟨v, h1, h2⟩ := h.dat i d e
    exact ⟨v, h1, h2.mono x.toGle⟩
  · obtain ⟨ad, h1, h2⟩ := h.own
    refine ⟨ad, fun i xs e => ?_, h2⟩
    obtain ⟨a1, a2, a3, a0, vs, a4, a5⟩ := h1 i xs e
    have nn : H (ad i) ≠ none := by rw [a4]; simp
    refine ⟨a1, x.frF _ a2 nn, fun z => ?_, a0, vs, x.keep _ _ a4 a3, a5.mono x.toGle⟩
    rcases x.frW _ z with q | q
    · exact a3 q
    · exact nn q

/-! ### what is wanted behind an expression -/
def post {α β : Type} (c : Cn) (R : Gs → β → α → Prop) (g : Gs) (H : Hp) (Q : β → Hp → Prop) (E : XK) : Res α → Prop
  | .ok d w => ∀ g' H' v, Ext g H g' H' → WOk c g' H' w → R g' v d → Q v H'
  | .exc k w => ∀ g' H', Ext g H g' H' → WOk c g' H' w → E (.ref (c.ec k)) none H'
  | .bad => False
theorem post.ext {α β : Type} {c : Cn} {R : Gs → β → α → Prop} {g g' : Gs} {H H' : Hp} {Q : β → Hp → Prop} {E : XK} {x : Res α} (h : post c R g H Q E x) (e : Ext g H g' H') : post c R g' H' Q E x := by
  cases x with
  | ok d w => exact fun g2 H2 v e2 => h g2 H2 v (e.trans e2)
  | exc k w => exact fun g2 H2 e2 => h g2 H2 (e.trans e2)
  | bad => exact h
theorem post.mono {α β : Type} {c : Cn} {R : Gs → β → α → Prop} {g : Gs} {H : Hp} {Q Q' : β → Hp → Prop} {E : XK} {x : Res α} (h : post c R g H Q E x) (f : ∀ v H', Q v H' → Q' v H') : post c R g H Q' E x := by
  cases x with
  | ok d w => exact fun g2 H2 v e2 w2 r => f _ _ (h g2 H2 v e2 w2 r)
  | exc k w => exact h
  | bad => exact h
abbrev ME := Rho → Wd → Res D
abbrev MA := Rho → Wd → Res (List D)
/-- the reading of an expression that means m -/
def rd (c : Cn) (W : WX) (m : ME) : TE := fun σ H Q => ∃ B g r w, EOk c B g H r σ ∧ WOk c g H w ∧ post c (Rep c) g H Q (WE W σ) (m r w)
def rdA (c : Cn) (W : WX) (m : MA) : TA := fun σ H Q => ∃ B g r w, EOk c B g H r σ ∧ WOk c g H w ∧ post c (RepL c) g H Q (WE W σ) (m r w)
/-- a test -/
def ofB : Res D → Res Bool := fun x => x.bind fun d w => match d with | .bl b => .ok b w | _ => .bad
def rdT (c : Cn) (W : WX) (m : ME) : TT := fun σ H Q => ∃ B g r w, EOk c B g H r σ ∧ WOk c g H w ∧ post c (fun _ v d => v = d) g H Q (WE W σ) (ofB (m r w))

/-- one thing after another -/
theorem bnd {α β γ δ : Type} {c : Cn} {R : Gs → β → α → Prop} {R' : Gs → δ → γ → Prop} {g : Gs} {H : Hp} {Q : δ → Hp → Prop} {E : XK} {x : Res α} {f : α → Wd → Res γ} (h : post c R' g H Q E (x.bind f))
    {Q1 : β → Hp → Prop} (k : ∀ g1 H1 v d w1, x = .ok d w1 → Ext g H g1 H1 → WOk c g1 H1 w1 → R g1 v d → post c R' g1 H1 Q E (f d w1) → Q1 v H1) : post c R g H Q1 E x := by
  cases x with
  | ok d w => exact fun g1 H1 v e w1 r => k g1 H1 v d w rfl e w1 r (post.ext (show post c R' g H Q E (f d w) from h) e)
  | exc k w => exact h
  | bad => exact h
end RL

namespace RL
open PySem L2

theorem _root_.L2.PE.mono {X : Cx} {e : Expr} {t t' : TE} (h : PE X e t) (f : ∀ σ H Q, t' σ H Q → t σ H Q) : PE X e t' := ⟨fun pins s σ H Q I q => h.run pins s σ H Q I (f _ _ _ q)⟩
theorem _root_.L2.PT.mono {X : Cx} {e : Expr} {t t' : TT} (h : PT X e t) (f : ∀ σ H Q, t' σ H Q → t σ H Q) : PT X e t' := ⟨fun pins s σ H Q I q => h.run pins s σ H Q I (f _ _ _ q)⟩
theorem _root_.L2.PW.mono {X : Cx} {e : Expr} {t t' : TT} (h : PW X e t) (f : ∀ σ H Q, t' σ H Q → t σ H Q) : PW X e t' := ⟨fun wh pins s σ H Q I q => h.run wh pins s σ H Q I (f _ _ _ q)⟩
theorem _root_.L2.PA.mono {X : Cx} {e : List Expr} {t t' : TA} (h : PA X e t) (f : ∀ σ H Q, t' σ H Q → t σ H Q) : PA X e t' := ⟨fun p pins s σ H Q I q => h.run p pins s σ H Q I (f _ _ _ q)⟩
theorem _root_.L2.PS.mono {X : Cx} {e : Stmt} {t t' : TS} (h : PS X e t) (f : ∀ D σ H, t' D σ H → t D σ H) : PS X e t' := ⟨fun pins s σ H D I q => h.run pins s σ H D I (f _ _ _ q)⟩
theorem _root_.L2.PSs.mono {X : Cx} {e : List Stmt} {t t' : TS} (h : PSs X e t) (f : ∀ D σ H, t' D σ H → t D σ H) : PSs X e t' := ⟨fun pins s σ H D I q => h.run pins s σ H D I (f _ _ _ q)⟩

/-- a pure answer or none -/
def lift {α : Type} : Option α → Wd → Res α
  | some d, w => .ok d w
  | none, _ => .bad
/-- big lists are not looked at -/
def big : Nat := 100000
theorem big_le : big ≤ sizeLine := by decide
/-- an int of fewer than 8000 bits -/
def sm (i : Int) : Bool := decide (i.natAbs.log2 < 8000)
theorem sm_mul {i j : Int} (h : sm i = true) (k : sm j = true) : CMulW i j := by
  have h1 := of_decide_eq_true h
  have h2 := of_decide_eq_true k
  unfold CMulW
  omega
theorem sm_div {i j : Int} (h : 0 < j) (k : sm j = true) : CDivW i j := by
  have h2 := of_decide_eq_true k
  exact ⟨h, by omega⟩

/-! ### comparing data -/
mutual
def toPy : D → PyData
  | .non => .none
  | .bl b => .bool b
  | .int i => .int i
  | .str z => .str z
  | .lst xs => .list (toPyL xs)
  | .tup xs => .tuple (toPyL xs)
  | .drw => .dict []
  | .tab _ => .dict []
  | .exc _ => .dict []
def toPyL : List D → List PyData
  | [] => []
  | x :: xs => toPy x :: toPyL xs
end
/-- no deeper than n, no object in it, its texts fine -/
def okD : Nat → D → Bool
  | _, .non => true
  | _, .bl _ => true
  | _, .int _ => true
  | _, .str z => PyData.strOk z
  | n + 1, .lst xs => xs.all (okD n)
  | n + 1, .tup xs => xs.all (okD n)
  | _, _ => false
def eqL (f : D → D → Bool) : List D → List D → Bool
  | [], [] => true
  | x :: xs, y :: ys => f x y && eqL f xs ys
  | _, _ => false
def eqN : Nat → D → D → Bool
  | _, .non, .non => true
  | _, .bl a, .bl b => a == b
  | _, .bl a, .int j => (if a then 1 else 0) == j
  | _, .int i, .bl b => i == (if b then 1 else 0)
  | _, .int i, .int j => i == j
  | _, .str x, .str y => x == y
  | n + 1, .lst xs, .lst ys => eqL (eqN n) xs ys
  | n + 1, .tup xs, .tup ys => eqL (eqN n) xs ys
  | _, _, _ => false
theorem okL_py (n : Nat) (ih : ∀ d, okD n d = true → (toPy d).canLay0 = true ∧ (toPy d).depth ≤ n) : ∀ xs : List D, xs.all (okD n) = true → PyData.canLayAll0 (toPyL xs) = true ∧ PyData.depthAll (toPyL xs) ≤ n
  | [], _ => by simp [toPyL, PyData.canLayAll0, PyData.depthAll]
  | x :: xs, h => by
    simp only [List.all_cons, Bool.and_eq_true] at h
    obtain ⟨a, b⟩ := ih x h.1
    obtain ⟨a', b'⟩ := okL_py n ih xs h.2
    simp only [toPyL, PyData.canLayAll0, PyData.depthAll, a, a', Bool.and_self, true_and]
    omega
theorem ok_py : ∀ (n : Nat) (d : D), okD n d = true → (toPy d).canLay0 = true ∧ (toPy d).depth ≤ n := by
  intro n
  induction n with
  | zero => intro d h; cases d <;> simp_all [okD, toPy, PyData.canLay0, PyData.depth]
  | succ n ih =>
    intro d h
    cases d with
    | lst xs =>
      obtain ⟨a, b⟩ := okL_py n ih xs (by simpa [okD] using h)
      simp only [toPy, PyData.canLay0, PyData.depth, a, true_and]
      omega
    | tup xs =>
      obtain ⟨a, b⟩ := okL_py n ih xs (by simpa [okD] using h)
      simp only [toPy, PyData.canLay0, PyData.depth, a, true_and]
      omega
    | _ => simp_all [okD, toPy, PyData.canLay0, PyData.depth]
theorem ok_shaped {n : Nat} {d : D} (hn : n ≤ 64) (h : okD n d = true) : SeqAt.shaped (toPy d) = true := by
  obtain ⟨a, b⟩ := ok_py n d h
  unfold SeqAt.shaped
  rw [a]
  simp
  omega
theorem eqL_py (n : Nat) (ih : ∀ d e, okD n d = true → okD n e = true → PyData.eqv (toPy d) (toPy e) = eqN n d e) : ∀ xs ys : List D, xs.all (okD n) = true → ys.all (okD n) = true → PyData.eqvAll (toPyL xs) (toPyL ys) = eqL (eqN n) xs ys
  | [], [], _, _ => by simp [toPyL, PyData.eqvAll, eqL]
  | [], _ :: _, _, _ => by simp [toPyL, PyData.eqvAll, eqL]
  | _ :: _, [], _, _ => by simp [toPyL, PyData.eqvAll, eqL]
  | x :: xs, y :: ys, h, k => by
    simp only [List.all_cons, Bool.and_eq_true] at h k
    simp only [toPyL, PyData.eqvAll, eqL, ih x y h.1 k.1, eqL_py n ih xs ys h.2 k.2]
theorem eq_py : ∀ (n : Nat) (d e : D), okD n d = true → okD n e = true → PyData.eqv (toPy d) (toPy e) = eqN n d e := by
  intro n
  induction n with
  | zero => intro d e h k; cases d <;> cases e <;> simp_all [okD, toPy, PyData.eqv, eqN]
  | succ n ih =>
    intro d e h k
    cases d with
    | lst xs =>
      cases e with
      | lst ys => simpa [toPy, PyData.eqv, eqN] using eqL_py n ih xs ys (by simpa [okD] using h) (by simpa [okD] using k)
      | _ => simp_all [okD, toPy, PyData.eqv, eqN]
    | tup xs =>
      cases e with
      | tup ys => simpa [toPy, PyData.eqv, eqN] using eqL_py n ih xs ys (by simpa [okD] using h) (by simpa [okD] using k)
      | _ => simp_all [okD, toPy, PyData.eqv, eqN]
    | _ => cases e <;> simp_all [okD, toPy, PyData.eqv, eqN]
mutual
theorem Rep.dp {c : Cn} {g : Gs} {H : Hp} {K : PySem.W.Frag} (s : Same g.F H) : ∀ {d : D} {v : V} {n : Nat}, okD n d = true → Rep c g v d → Dp K H v (toPy d)
  | .non, _, _, _, r => by cases r; exact .non
  | .bl _, _, _, _, r => by cases r; exact .bl _
  | .int _, _, _, _, r => by cases r; exact .int _
  | .str _, _, _, _, r => by cases r; exact .str _
  | .lst ds, _, 0, k, r => by simp [okD] at k
  | .lst ds, _, n + 1, k, r => by
    cases r with
    | lst e l => exact .lst (SqL.of (s _ _ e)) (RepL.dp s (by simpa [okD] using k) l)
  | .tup ds, _, 0, k, r => by simp [okD] at k
  | .tup ds, _, n + 1, k, r => by
    cases r with
    | tup e l => exact .tup (SqT.of (s _ _ e)) (RepL.dp s (by simpa [okD] using k) l)
  | .drw, _, n, k, r => by cases n <;> simp [okD] at k
  | .tab _, _, n, k, r => by cases n <;> simp [okD] at k
  | .exc _, _, n, k, r => by cases n <;> simp [okD] at k
theorem RepL.dp {c : Cn} {g : Gs} {H : Hp} {K : PySem.W.Frag} (s : Same g.F H) : ∀ {ds : List D} {vs : List V} {n : Nat}, ds.all (okD n) = true → RepL c g vs ds → DpAll K H vs (toPyL ds)
  | [], _, _, _, r => by cases r; exact .nil
  | d :: ds, _, n, k, r => by
    cases r with
    | cons a b =>
      simp only [List.all_cons, Bool.and_eq_true] at k
      exact .cons (Rep.dp s k.1 a) (RepL.dp s k.2 b)
end
/-- == as Python has it -/
def bEq (d e : D) : Option D := if okD 12 d && okD 12 e then some (.bl (eqN 12 d e)) else none
def bNe (d e : D) : Option D := if okD 12 d && okD 12 e then some (.bl (!eqN 12 d e)) else none
end RL

namespace RL
open PySem L2

inductive Bop where
  | add | sub | mul | fdiv | mod | pow | eq | ne | lt | le | gt | ge | is | isn | mem | nmem
  deriving DecidableEq
def isNon : D → Bool
  | .non => true
  | _ => false
def bAdd : D → D → Option D
  | .int a, .int b => some (.int (a + b))
  | .lst xs, .lst ys => if xs.length + ys.length ≤ big then some (.lst (xs ++ ys)) else none
  | .str a, .str b => if a.length + b.length ≤ big then some (.str (a ++ b)) else none
  | _, _ => none
def bSub : D → D → Option D
  | .int a, .int b => some (.int (a - b))
  | _, _ => none
def bMul : D → D → Option D
  | .int a, .int b => if sm a && sm b then some (.int (a * b)) else none
  | .lst xs, .int k => if decide (0 ≤ k) && decide (k ≤ big) && decide (xs.length * k.toNat ≤ big) then some (.lst (List.replicate k.toNat xs).flatten) else none
  | _, _ => none
def bDiv : D → D → Option D
  | .int a, .int b => if decide (0 < b) && sm b then some (.int (a / b)) else none
  | _, _ => none
def bMod : D → D → Option D
  | .int a, .int b => if 0 < b then some (.int (a % b)) else none
  | _, _ => none
def bPow : D → D → Option D
  | .int a, .int b => if decide (0 ≤ b) && decide (b ≤ 1000) && decide (a.natAbs < 2 ^ 64) then some (.int (a ^ b.toNat)) else none
  | _, _ => none
def bLt : D → D → Option D
  | .int a, .int b => some (.bl (decide (a < b)))
  | _, _ => none
def bLe : D → D → Option D
  | .int a, .int b => some (.bl (decide (a ≤ b)))
  | _, _ => none
def bGt : D → D → Option D
  | .int a, .int b => some (.bl (decide (b < a)))
  | _, _ => none
def bGe : D → D → Option D
  | .int a, .int b => some (.bl (decide (b ≤ a)))
  | _, _ => none
def bIs : D → D → Option D
  | d, .non => some (.bl (isNon d))
  | .bl a, .bl b => some (.bl (decide (a = b)))
  | _, _ => none
def bIsn : D → D → Option D
  | d, .non => some (.bl (!isNon d))
  | .bl a, .bl b => some (.bl (!decide (a = b)))
  | _, _ => none
def bMem : D → D → Option D
  | d, .lst xs => if okD 11 d && xs.all (okD 11) then some (.bl (xs.any fun z => eqN 11 z d)) else none
  | _, _ => none
def bNmem : D → D → Option D
  | d, .lst xs => if okD 11 d && xs.all (okD 11) then some (.bl (!xs.any fun z => eqN 11 z d)) else none
  | _, _ => none
def bop : Bop → D → D → Option D
  | .add => bAdd
  | .sub => bSub
  | .mul => bMul
  | .fdiv => bDiv
  | .mod => bMod
  | .pow => bPow
  | .eq => bEq
  | .ne => bNe
  | .lt => bLt
  | .le => bLe
  | .gt => bGt
  | .ge => bGe
  | .is => bIs
  | .isn => bIsn
  | .mem => bMem
  | .nmem => bNmem
def opOf : Operator → Option Bop
  | .Add => some .add
  | .Sub => some .sub
  | .Mult => some .mul
  | .FloorDiv => some .fdiv
  | .Mod => some .mod
  | .Pow => some .pow
  | _ => none
def cmpOf : CmpOp → Option Bop
  | .Eq => some .eq
  | .NotEq => some .ne
  | .Lt => some .lt
  | .LtE => some .le
  | .Gt => some .gt
  | .GtE => some .ge
  | .Is => some .is
  | .IsNot => some .isn
  | .In => some .mem
  | .NotIn => some .nmem

/-- what is wanted of a pure answer -/
def Wants (c : Cn) (g : Gs) (H : Hp) (w : Wd) (d : D) (Q : VK) : Prop := ∀ g' H' v, Ext g H g' H' → WOk c g' H' w → Rep c g' v d → Q v H'
theorem Wants.at {c : Cn} {g : Gs} {H : Hp} {w : Wd} {d : D} {Q : VK} (h : Wants c g H w d Q) (k : WOk c g H w) {v : V} (r : Rep c g v d) : Q v H := h g H v (Ext.refl _ _) k r
theorem Wants.lst {c : Cn} {g : Gs} {H : Hp} {w : Wd} {ds : List D} {vs : List V} {Q : VK} (h : Wants c g H w (.lst ds) Q) (k : WOk c g H w) (r : RepL c g vs ds) : ∀ p, H p = none → Q (.ref p) (upd H p (.lst vs)) := fun p hp =>
  h _ _ _ (Ext.laid k hp) (k.laid hp) (.lst upd_same (r.mono (Ext.laid (o := .lst vs) k hp).toGle))
theorem Wants.tup {c : Cn} {g : Gs} {H : Hp} {w : Wd} {ds : List D} {vs : List V} {Q : VK} (h : Wants c g H w (.tup ds) Q) (k : WOk c g H w) (r : RepL c g vs ds) : ∀ p, H p = none → Q (.ref p) (upd H p (.tup vs)) := fun p hp =>
  h _ _ _ (Ext.laid k hp) (k.laid hp) (.tup upd_same (r.mono (Ext.laid (o := .tup vs) k hp).toGle))
/-- a rule r answers what b says -/
def OpS (c : Cn) (f : D → D → Option D) (r : R2) : Prop := ∀ g H w x y dx dy d Q, WOk c g H w → Rep c g x dx → Rep c g y dy → f dx dy = some d → Wants c g H w d Q → r x y H Q

theorem Rep.isNon {c : Cn} {g : Gs} {v : V} {d : D} (r : Rep c g v d) : decide (v = V.non) = RL.isNon d := by
  cases r <;> simp [RL.isNon]
section
variable {c : Cn}
theorem opS_add : OpS c bAdd (fun x y H Q => (rI0 fun i j => .int (i + j)) x y H Q ∨ (rCat x y H Q ∨ (∃ i j, x = .str i ∧ y = .str j ∧ i.length + j.length ≤ sizeLine ∧ Q (.str (i ++ j)) H))) := by
  intro g H w x y dx dy d Q k rx ry e q
  unfold bAdd at e
  split at e
  · cases e; cases rx; cases ry
    exact .inl ⟨_, _, rfl, rfl, q.at k (.int _)⟩
  · split at e <;> cases e
    rename_i hl
    cases rx with
    | lst hx lx =>
      cases ry with
      | lst hy ly => exact .inr (.inl ⟨_, _, _, _, rfl, rfl, k.sub _ _ hx, k.sub _ _ hy, by rw [lx.length, ly.length]; exact Nat.le_trans hl big_le, q.lst k (lx.append ly)⟩)
  · split at e <;> cases e
    rename_i hl
    cases rx; cases ry
    exact .inr (.inr ⟨_, _, rfl, rfl, Nat.le_trans hl big_le, q.at k (.str _)⟩)
  all_goals cases e
theorem opS_sub : OpS c bSub (rI0 fun i j => .int (i - j)) := by
  intro g H w x y dx dy d Q k rx ry e q
  unfold bSub at e
  split at e
  · cases e; cases rx; cases ry
    exact ⟨_, _, rfl, rfl, q.at k (.int _)⟩
  all_goals cases e
theorem opS_mul : OpS c bMul (fun x y H Q => (rI CMulW fun i j => .int (i * j)) x y H Q ∨ rRep x y H Q) := by
  intro g H w x y dx dy d Q k rx ry e q
  unfold bMul at e
  split at e
  · split at e <;> cases e
    rename_i hs
    rw [Bool.and_eq_true] at hs
    cases rx; cases ry
    exact .inl ⟨_, _, rfl, rfl, sm_mul hs.1 hs.2, q.at k (.int _)⟩
  · split at e <;> cases e
    rename_i hs
    simp only [Bool.and_eq_true, decide_eq_true_eq] at hs
    obtain ⟨⟨h1, h2⟩, h3⟩ := hs
    have hb : (big : Int) < 2 ^ 63 := by decide
    cases ry
    cases rx with
    | lst hx lx => exact .inr ⟨_, _, _, rfl, rfl, k.sub _ _ hx, by omega, by omega, by rw [lx.length]; exact Nat.le_trans h3 big_le, q.lst k (lx.rep _)⟩
  all_goals cases e
theorem opS_fdiv : OpS c bDiv (rI CDivW fun i j => .int (i / j)) := by
  intro g H w x y dx dy d Q k rx ry e q
  unfold bDiv at e
  split at e
  · split at e <;> cases e
    rename_i hs
    simp only [Bool.and_eq_true, decide_eq_true_eq] at hs
    cases rx; cases ry
    exact ⟨_, _, rfl, rfl, sm_div hs.1 hs.2, q.at k (.int _)⟩
  all_goals cases e
theorem opS_mod : OpS c bMod (rI (fun _ j => 0 < j) fun i j => .int (i % j)) := by
  intro g H w x y dx dy d Q k rx ry e q
  unfold bMod at e
  split at e
  · split at e <;> cases e
    rename_i hs
    cases rx; cases ry
    exact ⟨_, _, rfl, rfl, hs, q.at k (.int _)⟩
  all_goals cases e
theorem opS_pow : OpS c bPow (rI CPow fun i j => .int (i ^ j.toNat)) := by
  intro g H w x y dx dy d Q k rx ry e q
  unfold bPow at e
  split at e
  · split at e <;> cases e
    rename_i hs
    simp only [Bool.and_eq_true, decide_eq_true_eq] at hs
    cases rx; cases ry
    exact ⟨_, _, rfl, rfl, ⟨hs.1.1, by omega, hs.2⟩, q.at k (.int _)⟩
  all_goals cases e
theorem opS_eq {K : PySem.W.Frag} : OpS c bEq (rEqD K) := by
  intro g H w x y dx dy d Q k rx ry e q
  have e : bEq dx dy = some d := e
  unfold bEq at e
  split at e <;> cases e
  rename_i hs
  rw [Bool.and_eq_true] at hs
  exact ⟨_, _, rx.dp k.sub hs.1, ry.dp k.sub hs.2, ok_shaped (by decide) hs.1, ok_shaped (by decide) hs.2, by rw [eq_py 12 dx dy hs.1 hs.2]; exact q.at k (.bl _)⟩
theorem opS_ne {K : PySem.W.Frag} : OpS c bNe (rNeD K) := by
  intro g H w x y dx dy d Q k rx ry e q
  have e : bNe dx dy = some d := e
  unfold bNe at e
  split at e <;> cases e
  rename_i hs
  rw [Bool.and_eq_true] at hs
  exact ⟨_, _, rx.dp k.sub hs.1, ry.dp k.sub hs.2, ok_shaped (by decide) hs.1, ok_shaped (by decide) hs.2, by rw [eq_py 12 dx dy hs.1 hs.2]; exact q.at k (.bl _)⟩
theorem opS_lt : OpS c bLt (rI0 fun i j => .bl (decide (i < j))) := by
  intro g H w x y dx dy d Q k rx ry e q
  unfold bLt at e
  split at e
  · cases e; cases rx; cases ry
    exact ⟨_, _, rfl, rfl, q.at k (.bl _)⟩
  all_goals cases e
theorem opS_le : OpS c bLe (rI0 fun i j => .bl (decide (i ≤ j))) := by
  intro g H w x y dx dy d Q k rx ry e q
  unfold bLe at e
  split at e
  · cases e; cases rx; cases ry
    exact ⟨_, _, rfl, rfl, q.at k (.bl _)⟩
  all_goals cases e
theorem opS_gt : OpS c bGt (rI0 fun i j => .bl (decide (j < i))) := by
  intro g H w x y dx dy d Q k rx ry e q
  unfold bGt at e
  split at e
  · cases e; cases rx; cases ry
    exact ⟨_, _, rfl, rfl, q.at k (.bl _)⟩
  all_goals cases e
theorem opS_ge : OpS c bGe (rI0 fun i j => .bl (decide (j ≤ i))) := by
  intro g H w x y dx dy d Q k rx ry e q
  unfold bGe at e
  split at e
  · cases e; cases rx; cases ry
    exact ⟨_, _, rfl, rfl, q.at k (.bl _)⟩
  all_goals cases e
theorem opS_is : OpS c bIs (fun x y H Q => (y = .non ∧ Q (.bl (decide (x = .non))) H) ∨ rIsB x y H Q) := by
  intro g H w x y dx dy d Q k rx ry e q
  unfold bIs at e
  split at e
  · cases e; cases ry
    exact .inl ⟨rfl, by rw [rx.isNon]; exact q.at k (.bl _)⟩
  · cases e; cases rx; cases ry
    exact .inr ⟨_, _, rfl, rfl, q.at k (.bl _)⟩
  all_goals cases e
theorem opS_isn : OpS c bIsn (fun x y H Q => (y = .non ∧ Q (.bl (!decide (x = .non))) H) ∨ rNotB x y H Q) := by
  intro g H w x y dx dy d Q k rx ry e q
  unfold bIsn at e
  split at e
  · cases e; cases ry
    exact .inl ⟨rfl, by rw [rx.isNon]; exact q.at k (.bl _)⟩
  · cases e; cases rx; cases ry
    exact .inr ⟨_, _, rfl, rfl, q.at k (.bl _)⟩
  all_goals cases e
theorem any_py (d : D) (hd : okD 11 d = true) : ∀ xs : List D, xs.all (okD 11) = true → ((toPyL xs).any fun z => PyData.eqv z (toPy d)) = xs.any fun z => eqN 11 z d
  | [], _ => rfl
  | x :: xs, h => by
    simp only [List.all_cons, Bool.and_eq_true] at h
    simp only [toPyL, List.any_cons, eq_py 11 x d h.1 hd, any_py d hd xs h.2]
theorem opS_mem {K : PySem.W.Frag} : OpS c bMem (rInD K) := by
  intro g H w x y dx dy d Q k rx ry e q
  unfold bMem at e
  split at e
  · split at e <;> cases e
    rename_i hs
    rw [Bool.and_eq_true] at hs
    have hl : okD 12 (.lst _) = true := hs.2
    exact ⟨_, _, rx.dp k.sub hs.1, ry.dp k.sub hl, ok_shaped (by decide) hs.1, ok_shaped (by decide) hl, by rw [any_py _ hs.1 _ hs.2]; exact q.at k (.bl _)⟩
  all_goals cases e
theorem opS_nmem {K : PySem.W.Frag} : OpS c bNmem (rNotInD K) := by
  intro g H w x y dx dy d Q k rx ry e q
  unfold bNmem at e
  split at e
  · split at e <;> cases e
    rename_i hs
    rw [Bool.and_eq_true] at hs
    have hl : okD 12 (.lst _) = true := hs.2
    exact ⟨_, _, rx.dp k.sub hs.1, ry.dp k.sub hl, ok_shaped (by decide) hs.1, ok_shaped (by decide) hl, by rw [any_py _ hs.1 _ hs.2]; exact q.at k (.bl _)⟩
  all_goals cases e
/-- each arithmetic operator has a rule -/
theorem bin_rule {X : Cx} {op : Operator} {b : Bop} (h : opOf op = some b) : ∃ r, OpR X (binaryOp op) r ∧ OpS c (bop b) r := by
  cases op <;> cases h
  · exact ⟨_, op_add.or (op_cat.or op_add_str), opS_add⟩
  · exact ⟨_, op_sub, opS_sub⟩
  · exact ⟨_, op_mulW.or op_rep, opS_mul⟩
  · exact ⟨_, op_mod, opS_mod⟩
  · exact ⟨_, op_pow, opS_pow⟩
  · exact ⟨_, op_fdivW, opS_fdiv⟩
theorem cmp_rule {X : Cx} (hu : X.A.units + 65 < cLine) {op : CmpOp} {b : Bop} (h : cmpOf op = some b) : ∃ r, OpR X (compareOp op) r ∧ OpS c (bop b) r := by
  cases op <;> cases h
  · exact ⟨_, op_eqD (by omega), opS_eq⟩
  · exact ⟨_, op_neD (by omega), opS_ne⟩
  · exact ⟨_, op_lt, opS_lt⟩
  · exact ⟨_, op_le, opS_le⟩
  · exact ⟨_, op_gt, opS_gt⟩
  · exact ⟨_, op_ge, opS_ge⟩
  · exact ⟨_, op_isN.or op_isBl, opS_is⟩
  · exact ⟨_, op_notN.or op_notBl, opS_isn⟩
  · exact ⟨_, op_inD hu, opS_mem⟩
  · exact ⟨_, op_notInD hu, opS_nmem⟩
end
end RL

namespace RL
open PySem L2

/-! ### the meanings of expressions -/
def mVar (i : Nat) : ME := fun r w => match r[i]? with
  | some (.dat d) => .ok d w
  | _ => .bad
def mCst (d : D) : ME := fun _ w => .ok d w
def mBin (f : D → D → Option D) (a b : ME) : ME := fun r w => (a r w).bind fun x w => (b r w).bind fun y w => lift (f x y) w
def mUn (f : D → Option D) (a : ME) : ME := fun r w => (a r w).bind fun x w => lift (f x) w
def dNeg : D → Option D
  | .int i => some (.int (-i))
  | _ => none
def dNot : D → Option D
  | .bl b => some (.bl (!b))
  | _ => none
def mAnd (a b : ME) : ME := fun r w => (a r w).bind fun x w => match x with
  | .bl true => b r w
  | .bl false => .ok (.bl false) w
  | _ => .bad
def mOr (a b : ME) : ME := fun r w => (a r w).bind fun x w => match x with
  | .bl true => .ok (.bl true) w
  | .bl false => b r w
  | _ => .bad
def mIf (t a b : ME) : ME := fun r w => (t r w).bind fun x w => match x with
  | .bl true => a r w
  | .bl false => b r w
  | _ => .bad
def mChn (f f' : D → D → Option D) (a b d : ME) : ME := fun r w => (a r w).bind fun x w => (b r w).bind fun y w => (lift (f x y) w).bind fun z w => match z with
  | .bl true => (d r w).bind fun u w => lift (f' y u) w
  | .bl false => .ok (.bl false) w
  | _ => .bad
def mNil : MA := fun _ w => .ok [] w
def mCons (a : ME) (b : MA) : MA := fun r w => (a r w).bind fun x w => (b r w).bind fun xs w => .ok (x :: xs) w
def mSeq (k : List D → D) (a : MA) : ME := fun r w => (a r w).bind fun xs w => lift (if xs.length ≤ big then some (k xs) else none) w
def dIx : D → D → Option D
  | .lst xs, .int i => atI xs i
  | .tup xs, .int i => atI xs i
  | .str z, .int i => if z.length ≤ big then (atI z.cps.toList i).map fun ch => .str ⟨#[ch]⟩ else none
  | _, _ => none
def cutD (xs : List D) (lo hi : Option Int) : List D := (xs.drop (HT.sIx xs.length 0 lo)).take (HT.sIx xs.length xs.length hi - HT.sIx xs.length 0 lo)
def dSl : D → Option Int → Option Int → Option D
  | .lst xs, lo, hi => some (.lst (cutD xs lo hi))
  | .str z, lo, hi => if z.length ≤ big then some (.str (cutS z lo hi)) else none
  | _, _, _ => none
def mNo : Rho → Wd → Res (Option Int) := fun _ w => .ok none w
def mPt (a : ME) : Rho → Wd → Res (Option Int) := fun r w => (a r w).bind fun x w => match x with
  | .int i => .ok (some i) w
  | _ => .bad
def mSl (a : ME) (lo hi : Rho → Wd → Res (Option Int)) : ME := fun r w => (a r w).bind fun x w => (lo r w).bind fun l w => (hi r w).bind fun h w => lift (dSl x l h) w
def dRev : D → Option D
  | .lst xs => some (.lst xs.reverse)
  | _ => none
/-- a call of a function that means f -/
abbrev MF := List D → Wd → Res D
def mCall (f : MF) (a : MA) : ME := fun r w => (a r w).bind fun xs w => f xs w
def mPri (f : List D → Option D) (a : MA) : ME := fun r w => (a r w).bind fun xs w => lift (f xs) w

section
variable {c : Cn} {X : Cx} {W : WX} {a b e : Expr} {ma mb md : ME} {pos : Pos}
theorem post_lift {g : Gs} {H : Hp} {w : Wd} {Q : VK} {E : XK} {o : Option D} (h : post c (Rep c) g H Q E (lift o w)) : ∃ d, o = some d ∧ Wants c g H w d Q := by
  cases o with
  | none => exact False.elim h
  | some d => exact ⟨d, rfl, h⟩
theorem rd_bin {f : D → D → Option D} {r : R2} (hs : OpS c f r) {σ : St} {H : Hp} {Q : VK} (h : rd c W (mBin f ma mb) σ H Q) : tOp r (rd c W ma) (rd c W mb) σ H Q := by
  obtain ⟨B, g, ρ, w, E, k, p⟩ := h
  refine ⟨B, g, ρ, w, E, k, bnd p fun g1 H1 x dx w1 _ e1 k1 r1 p1 => ⟨B, g1, ρ, w1, E.ext e1, k1, bnd p1 fun g2 H2 y dy w2 _ e2 k2 r2 p2 => ?_⟩⟩
  obtain ⟨d, ed, q⟩ := post_lift p2
  exact hs g2 H2 w2 x y dx dy d Q k2 (r1.mono e2.toGle) r2 ed q
/-- a test's reading, by the value's -/
theorem rd_test {σ : St} {H : Hp} {Q : Bool → Hp → Prop} (h : rdT c W ma σ H Q) : rd c W ma σ H fun x H' => ∃ k, x = .bl k ∧ Q k H' := by
  obtain ⟨B, g, ρ, w, E, k, p⟩ := h
  refine ⟨B, g, ρ, w, E, k, bnd p fun g1 H1 x dx w1 _ e1 k1 r1 p1 => ?_⟩
  cases r1 with
  | bl b => exact ⟨b, rfl, p1 g1 H1 b (Ext.refl _ _) k1 rfl⟩
  | _ => exact False.elim p1
/-- a value that is a bool, as a test -/
theorem s_test (h : PE X e (rd c W ma)) (he : ∀ whole, isTrue e X.env whole = (do let v ← whole; standAt e.pos; holding [v] (truthy v))) : PT X e (rdT c W ma) := (pt_val h he).mono fun _ _ _ q => rd_test q

theorem s_var {i : Nat} {x : Str} (hN : X.N[i]? = some x) (hv : Vis X.env.scope x) (hd : (x == ("__debug__" : Str)) = false) (hcd : (x == ("__classdict__" : Str)) = false) : PE X (.Name x pos) (rd c W (mVar i)) := by
  refine (pe_var hN hv hd hcd).mono fun σ H Q h => ?_
  obtain ⟨B, g, ρ, w, E, k, p⟩ := h
  unfold mVar at p
  split at p
  · rename_i d e
    obtain ⟨v, h1, h2⟩ := E.dat i d e
    exact ⟨v, h1, p g H v (Ext.refl _ _) k h2⟩
  · exact False.elim p
theorem rd_cst {v : V} {d : D} (hr : ∀ g, Rep c g v d) {σ : St} {H : Hp} {Q : VK} (h : rd c W (mCst d) σ H Q) : tC v σ H Q := by
  obtain ⟨B, g, ρ, w, E, k, p⟩ := h
  exact p g H v (Ext.refl _ _) k (hr g)
theorem s_int {i : Int} {j : Nat} : PE X (.Constant (.int i) j pos) (rd c W (mCst (.int i))) := pe_int.mono fun _ _ _ h => rd_cst (fun _ => .int i) h
theorem s_bl {b : Bool} {j : Nat} : PE X (.Constant (.bool b) j pos) (rd c W (mCst (.bl b))) := pe_bl.mono fun _ _ _ h => rd_cst (fun _ => .bl b) h
theorem s_non {j : Nat} : PE X (.Constant .none j pos) (rd c W (mCst .non)) := pe_non.mono fun _ _ _ h => rd_cst (fun _ => .non) h
theorem s_str {z : Str} {j : Nat} : PE X (.Constant (.str z) j pos) (rd c W (mCst (.str z))) := pe_str.mono fun _ _ _ h => rd_cst (fun _ => .str z) h
theorem s_glob {x : Str} {v : V} {u : Value} {d : D} (hg : Gl X x) (hm : X.mg x = some u) (r : RelV v u) (hr : ∀ g, Rep c g v d) (hd : (x == ("__debug__" : Str)) = false) : PE X (.Name x pos) (rd c W (mCst d)) :=
  (pe_glob hg hm r hd).mono fun _ _ _ h => rd_cst hr h
theorem s_bin {op : Operator} {o : Bop} (ho : opOf op = some o) (ha : PE X a (rd c W ma)) (hb : PE X b (rd c W mb)) : PE X (.BinOp a op b pos) (rd c W (mBin (bop o) ma mb)) := by
  obtain ⟨r, h1, h2⟩ := bin_rule (c := c) (X := X) ho
  exact (pe_op h1 ha hb).mono fun _ _ _ h => rd_bin h2 h
theorem s_cmp (hu : X.A.units + 65 < cLine) {op : CmpOp} {o : Bop} (ho : cmpOf op = some o) (ha : PE X a (rd c W ma)) (hb : PE X b (rd c W mb)) (hm : behindInMarks op b = false) : PE X (.Compare a [op] [b] pos) (rd c W (mBin (bop o) ma mb)) := by
  obtain ⟨r, h1, h2⟩ := cmp_rule (c := c) hu ho
  exact (pe_cmpR h1 ha hb hm).mono fun _ _ _ h => rd_bin h2 h
theorem t_cmp (hu : X.A.units + 65 < cLine) {op : CmpOp} {o : Bop} (ho : cmpOf op = some o) (ha : PE X a (rd c W ma)) (hb : PE X b (rd c W mb)) (hm : behindInMarks op b = false) : PT X (.Compare a [op] [b] pos) (rdT c W (mBin (bop o) ma mb)) := by
  obtain ⟨r, h1, h2⟩ := cmp_rule (c := c) hu ho
  exact (pt_cmpR h1 ha hb hm).mono fun _ _ _ h => rd_bin h2 (rd_test h)
theorem rd_chn {f f' : D → D → Option D} {r r' : R2} (hs : OpS c f r) (hs' : OpS c f' r') {σ : St} {H : Hp} {Q : VK} (h : rd c W (mChn f f' ma mb md) σ H Q) : tChain r r' (rd c W ma) (rd c W mb) (rd c W md) σ H Q := by
  obtain ⟨B, g, ρ, w, E, k, p⟩ := h
  refine ⟨B, g, ρ, w, E, k, bnd p fun g1 H1 x dx w1 _ e1 k1 r1 p1 => ⟨B, g1, ρ, w1, E.ext e1, k1, bnd p1 fun g2 H2 y dy w2 _ e2 k2 r2 p2 => ?_⟩⟩
  cases hf : f dx dy with
  | none => rw [hf] at p2; exact False.elim p2
  | some d =>
    rw [hf] at p2
    refine hs g2 H2 w2 x y dx dy d _ k2 (r1.mono e2.toGle) r2 hf fun g3 H3 v e3 k3 r3 => ?_
    have p3 := post.ext (R := Rep c) p2 e3
    cases r3 with
    | bl z =>
      refine ⟨z, rfl, ?_⟩
      cases z with
      | true =>
        refine iteT ⟨B, g3, ρ, w2, (E.ext e1).ext (e2.trans e3), k3, bnd (show post c (Rep c) g3 H3 Q _ ((md ρ w2).bind fun u w => lift (f' dy u) w) from p3) fun g4 H4 u du w4 _ e4 k4 r4 p4 => ?_⟩
        obtain ⟨d, ed, q⟩ := post_lift p4
        exact hs' g4 H4 w4 y u dy du d Q k4 (r2.mono (e3.trans e4).toGle) r4 ed q
      | false => exact iteF (p3 g3 H3 _ (Ext.refl _ _) k3 (.bl false))
    | _ => exact False.elim p3
theorem s_chn (hu : X.A.units + 65 < cLine) {op op' : CmpOp} {o o' : Bop} {d : Expr} (ho : cmpOf op = some o) (ho' : cmpOf op' = some o') (ha : PE X a (rd c W ma)) (hb : PE X b (rd c W mb)) (hd : PE X d (rd c W md)) (hm : lastMarks [op, op'] [b, d] = false) :
    PE X (.Compare a [op, op'] [b, d] pos) (rd c W (mChn (bop o) (bop o') ma mb md)) := by
  obtain ⟨r, h1, h2⟩ := cmp_rule (c := c) hu ho
  obtain ⟨r', h1', h2'⟩ := cmp_rule (c := c) hu ho'
  exact (pe_chain h1 h1' ha hb hd hm).mono fun _ _ _ h => rd_chn h2 h2' h
theorem t_chn (hu : X.A.units + 65 < cLine) {op op' : CmpOp} {o o' : Bop} {d : Expr} (ho : cmpOf op = some o) (ho' : cmpOf op' = some o') (ha : PE X a (rd c W ma)) (hb : PE X b (rd c W mb)) (hd : PE X d (rd c W md)) (hm : lastMarks [op, op'] [b, d] = false) :
    PT X (.Compare a [op, op'] [b, d] pos) (rdT c W (mChn (bop o) (bop o') ma mb md)) := by
  obtain ⟨r, h1, h2⟩ := cmp_rule (c := c) hu ho
  obtain ⟨r', h1', h2'⟩ := cmp_rule (c := c) hu ho'
  exact (pt_chain h1 h1' ha hb hd hm).mono fun _ _ _ h => rd_chn h2 h2' (rd_test h)
theorem s_neg (ha : PE X a (rd c W ma)) : PE X (.UnaryOp .USub a pos) (rd c W (mUn dNeg ma)) := by
  refine (pe_un un_neg ha).mono fun σ H Q h => ?_
  obtain ⟨B, g, ρ, w, E, k, p⟩ := h
  refine ⟨B, g, ρ, w, E, k, bnd p fun g1 H1 x dx w1 _ e1 k1 r1 p1 => ?_⟩
  obtain ⟨d, ed, q⟩ := post_lift p1
  cases r1 with
  | int i => cases ed; exact ⟨i, rfl, q.at k1 (.int _)⟩
  | _ => cases ed
theorem s_not (ha : PE X a (rd c W ma)) : PE X (.UnaryOp .Not a pos) (rd c W (mUn dNot ma)) := by
  refine (pe_not ha).mono fun σ H Q h => ?_
  obtain ⟨B, g, ρ, w, E, k, p⟩ := h
  refine ⟨B, g, ρ, w, E, k, bnd p fun g1 H1 x dx w1 _ e1 k1 r1 p1 => ?_⟩
  obtain ⟨d, ed, q⟩ := post_lift p1
  cases r1 with
  | bl b => cases ed; exact ⟨b, rfl, q.at k1 (.bl _)⟩
  | _ => cases ed
theorem ofB_bind {α : Type} {x : Res α} {f : α → Wd → Res D} : ofB (x.bind f) = x.bind fun a w => ofB (f a w) := by cases x <;> rfl
theorem bind_ofB {x : Res D} {f : Bool → Wd → Res Bool} : (ofB x).bind f = x.bind fun d w => match d with | .bl b => f b w | _ => .bad := by
  cases x with
  | ok d w => cases d <;> rfl
  | exc k w => rfl
  | bad => rfl
theorem t_not (ha : PT X a (rdT c W ma)) : PT X (.UnaryOp .Not a pos) (rdT c W (mUn dNot ma)) := by
  refine (pt_not ha).mono fun σ H Q h => ?_
  obtain ⟨B, g, ρ, w, E, k, p⟩ := h
  have e : ofB (mUn dNot ma ρ w) = (ofB (ma ρ w)).bind fun b w => .ok (!b) w := by
    rw [bind_ofB]
    unfold mUn
    rw [ofB_bind]
    congr 1; funext d w; cases d <;> rfl
  rw [e] at p
  refine ⟨B, g, ρ, w, E, k, bnd p fun g1 H1 b d w1 _ e1 k1 r1 p1 => ?_⟩
  subst r1
  exact p1 g1 H1 _ (Ext.refl _ _) k1 rfl
theorem s_and {rest : List Expr} (ha : PE X a (rd c W ma)) (hb : PE X (.BoolOp .And (b :: rest) pos) (rd c W mb)) : PE X (.BoolOp .And (a :: b :: rest) pos) (rd c W (mAnd ma mb)) := by
  refine (pe_and ha hb).mono fun σ H Q h => ?_
  obtain ⟨B, g, ρ, w, E, k, p⟩ := h
  refine ⟨B, g, ρ, w, E, k, bnd p fun g1 H1 x dx w1 _ e1 k1 r1 p1 => ?_⟩
  cases r1 with
  | bl z =>
    refine ⟨z, rfl, ?_⟩
    cases z with
    | true => exact iteT ⟨B, g1, ρ, w1, E.ext e1, k1, p1⟩
    | false => exact iteF (p1 g1 H1 _ (Ext.refl _ _) k1 (.bl false))
  | _ => exact False.elim p1
theorem s_or {rest : List Expr} (ha : PE X a (rd c W ma)) (hb : PE X (.BoolOp .Or (b :: rest) pos) (rd c W mb)) : PE X (.BoolOp .Or (a :: b :: rest) pos) (rd c W (mOr ma mb)) := by
  refine (pe_or ha hb).mono fun σ H Q h => ?_
  obtain ⟨B, g, ρ, w, E, k, p⟩ := h
  refine ⟨B, g, ρ, w, E, k, bnd p fun g1 H1 x dx w1 _ e1 k1 r1 p1 => ?_⟩
  cases r1 with
  | bl z =>
    refine ⟨z, rfl, ?_⟩
    cases z with
    | true => exact iteT (p1 g1 H1 _ (Ext.refl _ _) k1 (.bl true))
    | false => exact iteF ⟨B, g1, ρ, w1, E.ext e1, k1, p1⟩
  | _ => exact False.elim p1
theorem w_and {rest : List Expr} (ha : PT X a (rdT c W ma)) (hb : PW X (.BoolOp .And (b :: rest) pos) (rdT c W mb)) : PW X (.BoolOp .And (a :: b :: rest) pos) (rdT c W (mAnd ma mb)) := by
  refine (pw_and ha hb).mono fun σ H Q h => ?_
  obtain ⟨B, g, ρ, w, E, k, p⟩ := h
  have e : ofB (mAnd ma mb ρ w) = (ofB (ma ρ w)).bind fun b w => if b = true then ofB (mb ρ w) else .ok false w := by
    rw [bind_ofB]
    unfold mAnd
    rw [ofB_bind]
    congr 1; funext d w; cases d with
    | bl b => cases b <;> rfl
    | _ => rfl
  rw [e] at p
  refine ⟨B, g, ρ, w, E, k, bnd p fun g1 H1 b d w1 _ e1 k1 r1 p1 => ?_⟩
  subst r1
  cases b with
  | true => exact iteT ⟨B, g1, ρ, w1, E.ext e1, k1, p1⟩
  | false => exact iteF (p1 g1 H1 _ (Ext.refl _ _) k1 rfl)
theorem w_or {rest : List Expr} (ha : PT X a (rdT c W ma)) (hb : PW X (.BoolOp .Or (b :: rest) pos) (rdT c W mb)) : PW X (.BoolOp .Or (a :: b :: rest) pos) (rdT c W (mOr ma mb)) := by
  refine (pw_or ha hb).mono fun σ H Q h => ?_
  obtain ⟨B, g, ρ, w, E, k, p⟩ := h
  have e : ofB (mOr ma mb ρ w) = (ofB (ma ρ w)).bind fun b w => if b = true then .ok true w else ofB (mb ρ w) := by
    rw [bind_ofB]
    unfold mOr
    rw [ofB_bind]
    congr 1; funext d w; cases d with
    | bl b => cases b <;> rfl
    | _ => rfl
  rw [e] at p
  refine ⟨B, g, ρ, w, E, k, bnd p fun g1 H1 b d w1 _ e1 k1 r1 p1 => ?_⟩
  subst r1
  cases b with
  | true => exact iteT (p1 g1 H1 _ (Ext.refl _ _) k1 rfl)
  | false => exact iteF ⟨B, g1, ρ, w1, E.ext e1, k1, p1⟩
theorem s_ite {t : Expr} (ht : PT X t (rdT c W md)) (ha : PE X a (rd c W ma)) (hb : PE X b (rd c W mb)) : PE X (.IfExp t a b pos) (rd c W (mIf md ma mb)) := by
  refine (pe_ifExp ht ha hb).mono fun σ H Q h => ?_
  obtain ⟨B, g, ρ, w, E, k, p⟩ := h
  have e : mIf md ma mb ρ w = (ofB (md ρ w)).bind fun b w => if b = true then ma ρ w else mb ρ w := by
    unfold mIf ofB
    cases md ρ w with
    | ok d w =>
      cases d with
      | bl b => cases b <;> rfl
      | _ => rfl
    | exc k w => rfl
    | bad => rfl
  rw [e] at p
  refine ⟨B, g, ρ, w, E, k, bnd p fun g1 H1 b d w1 _ e1 k1 r1 p1 => ?_⟩
  subst r1
  cases b with
  | true => exact iteT ⟨B, g1, ρ, w1, E.ext e1, k1, p1⟩
  | false => exact iteF ⟨B, g1, ρ, w1, E.ext e1, k1, p1⟩
theorem a_nil : PA X [] (rdA c W mNil) := pa_nil.mono fun σ H Q h => by
  obtain ⟨B, g, ρ, w, E, k, p⟩ := h
  exact p g H [] (Ext.refl _ _) k .nil
theorem a_cons {es : List Expr} {ms : MA} (ha : PE X a (rd c W ma)) (hb : PA X es (rdA c W ms)) (hs : starEach (a :: es) X.env = (false, eval a X.env) :: starEach es X.env) : PA X (a :: es) (rdA c W (mCons ma ms)) := by
  refine (pa_cons ha hb hs).mono fun σ H Q h => ?_
  obtain ⟨B, g, ρ, w, E, k, p⟩ := h
  exact ⟨B, g, ρ, w, E, k, bnd p fun g1 H1 x dx w1 _ e1 k1 r1 p1 => ⟨B, g1, ρ, w1, E.ext e1, k1, bnd p1 fun g2 H2 y dy w2 _ e2 k2 r2 p2 => p2 g2 H2 _ (Ext.refl _ _) k2 (.cons (r1.mono e2.toGle) r2)⟩⟩
theorem s_tup {es : List Expr} {ms : MA} {j : Nat} (h : PA X es (rdA c W ms)) : PE X (.Tuple es j pos) (rd c W (mSeq .tup ms)) := by
  refine (pe_tup h).mono fun σ H Q h => ?_
  obtain ⟨B, g, ρ, w, E, k, p⟩ := h
  refine ⟨B, g, ρ, w, E, k, bnd p fun g1 H1 x dx w1 _ e1 k1 r1 p1 => ?_⟩
  obtain ⟨d, ed, q⟩ := post_lift p1
  split at ed
  · rename_i hl
    cases ed
    exact ⟨by rw [r1.length]; exact Nat.le_trans hl big_le, q.tup k1 r1⟩
  · cases ed
theorem s_lst {es : List Expr} {ms : MA} (h : PA X es (rdA c W ms)) : PE X (.List es pos) (rd c W (mSeq .lst ms)) := by
  refine (pe_lst h).mono fun σ H Q h => ?_
  obtain ⟨B, g, ρ, w, E, k, p⟩ := h
  refine ⟨B, g, ρ, w, E, k, bnd p fun g1 H1 x dx w1 _ e1 k1 r1 p1 => ?_⟩
  obtain ⟨d, ed, q⟩ := post_lift p1
  split at ed
  · rename_i hl
    cases ed
    exact ⟨by rw [r1.length]; exact Nat.le_trans hl big_le, q.lst k1 r1⟩
  · cases ed
theorem atI_rep {g : Gs} {vs : List V} {ds : List D} (h : RepL c g vs ds) {i : Int} {d : D} (e : atI ds i = some d) : ∃ v, atI vs i = some v ∧ Rep c g v d := by
  unfold atI at e ⊢
  rw [h.length]
  cases q : ixN ds.length i with
  | none => rw [q] at e; cases e
  | some j =>
    rw [q] at e
    obtain ⟨v, h1, h2⟩ := h.getD (show ds[j]? = some d from e)
    exact ⟨v, h1, h2⟩
theorem opS_ix {K : PySem.W.Frag} : OpS c dIx (rIx K) := by
  intro g H w x y dx dy d Q k rx ry e q
  unfold dIx at e
  split at e
  · cases ry
    cases rx with
    | lst hx lx =>
      obtain ⟨v, h1, h2⟩ := atI_rep lx e
      exact .inl ⟨_, _, _, v, rfl, rfl, SqL.of (k.sub _ _ hx), h1, q.at k h2⟩
  · cases ry
    cases rx with
    | tup hx lx =>
      obtain ⟨v, h1, h2⟩ := atI_rep lx e
      exact .inr (.inl ⟨_, _, _, v, rfl, rfl, SqT.of (k.sub _ _ hx), h1, q.at k h2⟩)
  · split at e
    · rename_i z i hl
      cases rx; cases ry
      cases h1 : atI z.cps.toList i with
      | none => rw [h1] at e; cases e
      | some ch =>
        rw [h1] at e; cases e
        exact .inr (.inr ⟨z, i, ch, rfl, rfl, Nat.le_trans hl big_le, h1, q.at k (.str _)⟩)
    · cases e
  · cases e
theorem s_ix (ha : PE X a (rd c W ma)) (hb : PE X b (rd c W mb)) (hs : PlainIx b) : PE X (.Subscript a b pos) (rd c W (mBin dIx ma mb)) := (pe_ix ix_seq ha hb hs).mono fun _ _ _ h => rd_bin opS_ix h
def rdP (c : Cn) (W : WX) (m : Rho → Wd → Res (Option Int)) : TO := fun σ H Q => ∃ B g r w, EOk c B g H r σ ∧ WOk c g H w ∧ post c (fun _ v d => v = d) g H Q (WE W σ) (m r w)
theorem _root_.L2.PO.mono {X : Cx} {e : Option Expr} {t t' : TO} (h : PO X e t) (f : ∀ σ H Q, t' σ H Q → t σ H Q) : PO X e t' := ⟨fun pins s σ H Q I q => h.run pins s σ H Q I (f _ _ _ q)⟩
theorem o_none : PO X none (rdP c W mNo) := po_none.mono fun σ H Q h => by
  obtain ⟨B, g, ρ, w, E, k, p⟩ := h
  exact p g H none (Ext.refl _ _) k rfl
theorem o_some (ha : PE X a (rd c W ma)) : PO X (some a) (rdP c W (mPt ma)) := (po_some ha).mono fun σ H Q h => by
  obtain ⟨B, g, ρ, w, E, k, p⟩ := h
  refine ⟨B, g, ρ, w, E, k, bnd p fun g1 H1 x dx w1 _ e1 k1 r1 p1 => ?_⟩
  cases r1 with
  | int i => exact ⟨i, rfl, p1 g1 H1 _ (Ext.refl _ _) k1 rfl⟩
  | _ => exact False.elim p1
theorem s_sl {lo hi : Option Expr} {ml mh : Rho → Wd → Res (Option Int)} {p2 : Pos} (ha : PE X a (rd c W ma)) (hl : PO X lo (rdP c W ml)) (hh : PO X hi (rdP c W mh)) : PE X (.Subscript a (.Slice lo hi none p2) pos) (rd c W (mSl ma ml mh)) := by
  refine (pe_slice (sl_list.or sl_str) ha hl hh).mono fun σ H Q h => ?_
  obtain ⟨B, g, ρ, w, E, k, p⟩ := h
  refine ⟨B, g, ρ, w, E, k, bnd p fun g1 H1 x dx w1 _ e1 k1 r1 p1 => ⟨B, g1, ρ, w1, E.ext e1, k1, bnd p1 fun g2 H2 l dl w2 _ e2 k2 r2 p2 => ⟨B, g2, ρ, w2, E.ext (e1.trans e2), k2, bnd p2 fun g3 H3 u du w3 _ e3 k3 r3 p3 => ?_⟩⟩⟩
  subst r2; subst r3
  obtain ⟨d, ed, q⟩ := post_lift p3
  have r := r1.mono (e2.trans e3).toGle
  unfold dSl at ed
  split at ed
  · cases ed
    cases r with
    | lst hx lx =>
      refine .inl ⟨_, _, rfl, SqL.of (k3.sub _ _ hx), ?_⟩
      refine q.lst k3 ?_
      unfold cutV cutD
      rw [lx.length]
      exact (lx.drop _).take _
  · split at ed <;> cases ed
    rename_i hl
    cases r
    exact .inr ⟨_, rfl, Nat.le_trans hl big_le, q.at k3 (.str _)⟩
  · cases ed
theorem s_rev {j : Nat} {p1 p2 p3 : Pos} (ha : PE X a (rd c W ma)) : PE X (.Subscript a (.Slice none none (some (.UnaryOp .USub (.Constant (.int 1) j p1) p2)) p3) pos) (rd c W (mUn dRev ma)) := by
  refine (pe_revL ha).mono fun σ H Q h => ?_
  obtain ⟨B, g, ρ, w, E, k, p⟩ := h
  refine ⟨B, g, ρ, w, E, k, bnd p fun g1 H1 x dx w1 _ e1 k1 r1 p1 => ?_⟩
  obtain ⟨d, ed, q⟩ := post_lift p1
  cases r1 with
  | lst hx lx => cases ed; exact ⟨_, _, rfl, SqL.of (k1.sub _ _ hx), q.lst k1 lx.reverse⟩
  | _ => cases ed

/-! ### calls -/
/-- a def that means f -/
def spOf (c : Cn) (n : Nat) (f : MF) : Sp := fun vs H Q E => vs.length = n ∧ ∃ g ds w, RepL c g vs ds ∧ WOk c g H w ∧ post c (Rep c) g H Q E (f ds w)
/-- the def named x is there and means f -/
structure FOk (c : Cn) (X : Cx) (x : Str) (n : Nat) (f : MF) : Prop where
  ex : ∃ (k : Nat) (fa : Addr) (fd : FuncData) (ps : List Str), FnOk X.prog X.w X.K X.mg X.base (L2.CX X.prog X.w) k fa fd ps (spOf c n f) ∧ Room k X.A ∧ X.mg x = some (.ref fa) ∧ PySem.W.keepIn X.K (.ref fa) = true ∧ Binds X.K fd ps []
theorem s_call {x : Str} {es : List Expr} {ms : MA} {n : Nat} {f : MF} {p : Pos} (tk : Takes X W) (F : FOk c X x n f) (hg : Gl X x) (ha : PA X (e :: es) (rdA c W ms)) (hn : (e :: es).length = n) (hl : ∀ r w ds w', ms r w = .ok ds w' → ds.length = n)
    (hdb : (x == ("__debug__" : Str)) = false) (he : starEach (e :: es) X.env = (false, eval e X.env) :: starEach es X.env) (hpl : (backTo pos (starEach es X.env)).any (·.1) = false) : PE X (.Call (.Name x p) (e :: es) [] pos) (rd c W (mCall f ms)) := by
  obtain ⟨k, fa, fd, ps, F, hr, hm, hk, hb⟩ := F.ex
  refine (pe_callSD (E := fun σ => WE W σ) F hr hg hm hk hb .nil (fun σ => passAt tk σ) ha hdb he hpl).mono fun σ H Q h => ?_
  obtain ⟨B, g, ρ, w, E, k, p⟩ := h
  refine ⟨B, g, ρ, w, E, k, bnd p fun g1 H1 vs ds w1 e0 e1 k1 r1 p1 => ?_⟩
  rw [List.append_nil]
  exact ⟨by rw [r1.length]; exact hl _ _ _ _ e0, g1, ds, w1, r1, k1, p1⟩
/-- a built-in whose answer is pure -/
def PrS (c : Cn) (f : List D → Option D) (r : List V → Hp → VK → Prop) : Prop := ∀ g H w vs ds d Q, WOk c g H w → RepL c g vs ds → f ds = some d → Wants c g H w d Q → r vs H Q
theorem s_bi {x : Str} {id : String} {r : List V → Hp → VK → Prop} {es : List Expr} {ms : MA} {f : List D → Option D} {p : Pos} (hc : CallR X (.builtin id) r) (hs : PrS c f r) (hg : Gl X x) (hm : X.mg x = none) (hv : bootBuiltins x = some (.builtin id)) (ha : PA X (e :: es) (rdA c W ms))
    (hn : x ≠ "__name__") (hdb : (x == ("__debug__" : Str)) = false) (he : starEach (e :: es) X.env = (false, eval e X.env) :: starEach es X.env) (hpl : (backTo pos (starEach es X.env)).any (·.1) = false) : PE X (.Call (.Name x p) (e :: es) [] pos) (rd c W (mPri f ms)) := by
  refine (pe_callB hc hg hm hv ha hn hdb he hpl).mono fun σ H Q h => ?_
  obtain ⟨B, g, ρ, w, E, k, p⟩ := h
  refine ⟨B, g, ρ, w, E, k, bnd p fun g1 H1 vs ds w1 e0 e1 k1 r1 p1 => ?_⟩
  obtain ⟨d, ed, q⟩ := post_lift p1
  exact hs g1 H1 w1 vs ds d Q k1 r1 ed q
theorem s_ty {x : Str} {T : String} {r : List V → Hp → VK → Prop} {es : List Expr} {ms : MA} {f : List D → Option D} {p : Pos} (hc : CallR X (.type T) r) (hs : PrS c f r) (hg : Gl X x) (hm : X.mg x = none) (hv : bootBuiltins x = some (.type T)) (ha : PA X (e :: es) (rdA c W ms))
    (hn : x ≠ "__name__") (hdb : (x == ("__debug__" : Str)) = false) (he : starEach (e :: es) X.env = (false, eval e X.env) :: starEach es X.env) (hpl : (backTo pos (starEach es X.env)).any (·.1) = false) : PE X (.Call (.Name x p) (e :: es) [] pos) (rd c W (mPri f ms)) := by
  refine (pe_callTy hc hg hm hv ha hn hdb he hpl).mono fun σ H Q h => ?_
  obtain ⟨B, g, ρ, w, E, k, p⟩ := h
  refine ⟨B, g, ρ, w, E, k, bnd p fun g1 H1 vs ds w1 e0 e1 k1 r1 p1 => ?_⟩
  obtain ⟨d, ed, q⟩ := post_lift p1
  exact hs g1 H1 w1 vs ds d Q k1 r1 ed q
end
end RL

namespace RL
open PySem L2

/-! ### slots changed -/
section
variable {c : Cn} {B : Hp} {g g' : Gs} {H H' : Hp} {r : Rho} {σ : St}
theorem getElem?_set' {α : Type} {l : List α} {i j : Nat} {a b : α} (h : (l.set i a)[j]? = some b) : (i = j ∧ b = a ∧ j < l.length) ∨ (i ≠ j ∧ l[j]? = some b) := by
  by_cases e : i = j
  · subst e
    by_cases hl : i < l.length
    · rw [List.getElem?_set_self hl] at h
      exact .inl ⟨rfl, (Option.some.inj h).symm, hl⟩
    · rw [List.getElem?_eq_none (by simpa using hl)] at h; cases h
  · rw [List.getElem?_set_ne e] at h
    exact .inr ⟨e, h⟩
theorem EOk.setD (h : EOk c B g H r σ) (i : Nat) {v : V} {d : D} (q : Rep c g v d) : EOk c B g H (r.set i (.dat d)) (σ.set i (some v)) := by
  refine ⟨by simp [h.len], fun j e hj => ?_, ?_⟩
  · rcases getElem?_set' hj with ⟨rfl, e2, hl⟩ | ⟨ne, e2⟩
    · cases e2
      exact ⟨v, by rw [List.getElem?_set_self (by rw [← h.len]; exact hl)], q⟩
    · obtain ⟨u, h1, h2⟩ := h.dat j e e2
      exact ⟨u, by rw [List.getElem?_set_ne ne]; exact h1, h2⟩
  · obtain ⟨ad, h1, h2⟩ := h.own
    refine ⟨ad, fun j xs hj => ?_, fun j k xs ys hj hk => ?_⟩
    · rcases getElem?_set' hj with ⟨rfl, e2, hl⟩ | ⟨ne, e2⟩
      · cases e2
      · obtain ⟨a1, a2⟩ := h1 j xs e2
        exact ⟨by rw [List.getElem?_set_ne ne]; exact a1, a2⟩
    · rcases getElem?_set' hj with ⟨rfl, e2, hl⟩ | ⟨ne, e2⟩
      · cases e2
      · rcases getElem?_set' hk with ⟨rfl, e3, hl⟩ | ⟨ne', e3⟩
        · cases e3
        · exact h2 j k xs ys e2 e3
/-- a slot forgotten -/
theorem EOk.drop (h : EOk c B g H r σ) (i : Nat) (v : Option V) : EOk c B g H (r.set i .emp) (σ.set i v) := by
  refine ⟨by simp [h.len], fun j e hj => ?_, ?_⟩
  · rcases getElem?_set' hj with ⟨rfl, e2, hl⟩ | ⟨ne, e2⟩
    · cases e2
    · obtain ⟨u, h1, h2⟩ := h.dat j e e2
      exact ⟨u, by rw [List.getElem?_set_ne ne]; exact h1, h2⟩
  · obtain ⟨ad, h1, h2⟩ := h.own
    refine ⟨ad, fun j xs hj => ?_, fun j k xs ys hj hk => ?_⟩
    · rcases getElem?_set' hj with ⟨rfl, e2, hl⟩ | ⟨ne, e2⟩
      · cases e2
      · obtain ⟨a1, a2⟩ := h1 j xs e2
        exact ⟨by rw [List.getElem?_set_ne ne]; exact a1, a2⟩
    · rcases getElem?_set' hj with ⟨rfl, e2, hl⟩ | ⟨ne, e2⟩
      · cases e2
      · rcases getElem?_set' hk with ⟨rfl, e3, hl⟩ | ⟨ne', e3⟩
        · cases e3
        · exact h2 j k xs ys e2 e3
/-- a slot that holds a list of one's own, just made -/
theorem EOk.setO (h : EOk c B g H r σ) (x : Ext g H g' H') (i : Nat) {p : Addr} {vs : List V} {ds : List D} (hp : H p = none) (hB : B p = none) (hF : g'.F p = none) (hW : p ∉ g'.wadr) (hv : H' p = some (.lst vs)) (q : RepL c g' vs ds) :
    EOk c B g' H' (r.set i (.own ds)) (σ.set i (some (.ref p))) := by
  have h' := h.ext x
  refine ⟨by simp [h.len], fun j e hj => ?_, ?_⟩
  · rcases getElem?_set' hj with ⟨rfl, e2, hl⟩ | ⟨ne, e2⟩
    · cases e2
    · obtain ⟨u, h1, h2⟩ := h'.dat j e e2
      exact ⟨u, by rw [List.getElem?_set_ne ne]; exact h1, h2⟩
  · obtain ⟨ad, h1, h2⟩ := h.own
    have np : ∀ j xs, r[j]? = some (.own xs) → ad j ≠ p := fun j xs e z => by
      obtain ⟨_, _, _, _, vs, a4, _⟩ := h1 j xs e
      rw [z, hp] at a4; cases a4
    refine ⟨fun j => if j = i then p else ad j, fun j xs hj => ?_, fun j k xs ys hj hk => ?_⟩
    · rcases getElem?_set' hj with ⟨rfl, e2, hl⟩ | ⟨ne, e2⟩
      · cases e2
        simp only [if_true]
        exact ⟨by rw [List.getElem?_set_self (by rw [← h.len]; exact hl)], hF, hW, hB, vs, hv, q⟩
      · obtain ⟨a1, a2, a3, a0, vs', a4, a5⟩ := h1 j xs e2
        have nn : H (ad j) ≠ none := by rw [a4]; simp
        dsimp only
        rw [if_neg (Ne.symm ne)]
        refine ⟨by rw [List.getElem?_set_ne ne]; exact a1, x.frF _ a2 nn, fun z => ?_, a0, vs', x.keep _ _ a4 a3, a5.mono x.toGle⟩
        rcases x.frW _ z with q | q
        · exact a3 q
        · exact nn q
    · rcases getElem?_set' hj with ⟨rfl, e2, hl⟩ | ⟨ne, e2⟩
      · rcases getElem?_set' hk with ⟨rfl, e3, hl⟩ | ⟨ne', e3⟩
        · exact fun _ => rfl
        · dsimp only
          rw [if_pos rfl, if_neg (Ne.symm ne')]
          exact fun z => (np k ys e3 z.symm).elim
      · rcases getElem?_set' hk with ⟨rfl, e3, hl⟩ | ⟨ne', e3⟩
        · dsimp only
          rw [if_neg (Ne.symm ne), if_pos rfl]
          exact fun z => (np j xs e2 z).elim
        · dsimp only
          rw [if_neg (Ne.symm ne), if_neg (Ne.symm ne')]
          exact h2 j k xs ys e2 e3
end

/-! ### targets -/
mutual
inductive Tg where
  | nm (i : Nat) | tp (ts : Tgs)
inductive Tgs where
  | nil | cons (t : Tg) (ts : Tgs)
end
mutual
def bindT : Tg → D → Rho → Option Rho
  | .nm i, d, r => some (r.set i (.dat d))
  | .tp ts, .tup ds, r => bindTs ts ds r
  | .tp ts, .lst ds, r => bindTs ts ds r
  | .tp _, _, _ => none
def bindTs : Tgs → List D → Rho → Option Rho
  | .nil, [], r => some r
  | .cons t ts, d :: ds, r => (bindT t d r).bind fun r1 => bindTs ts ds r1
  | _, _, _ => none
end
mutual
def slotsT : Tg → List Nat
  | .nm i => [i]
  | .tp ts => slotsTs ts
def slotsTs : Tgs → List Nat
  | .nil => []
  | .cons t ts => slotsT t ++ slotsTs ts
end
def lenTs : Tgs → Nat
  | .nil => 0
  | .cons _ ts => lenTs ts + 1
/-- the same slots but for those of vs -/
def SameBut (vs : List Nat) (σ σ' : St) : Prop := σ'.length = σ.length ∧ ∀ i, i ∉ vs → σ'[i]? = σ[i]?
theorem SameBut.set {vs : List Nat} {σ : St} {i : Nat} {v : Option V} (h : i ∈ vs) : SameBut vs σ (σ.set i v) := ⟨by simp, fun j hj => by rw [List.getElem?_set_ne]; rintro rfl; exact hj h⟩
theorem SameBut.trans {vs : List Nat} {a b d : St} (h : SameBut vs a b) (k : SameBut vs b d) : SameBut vs a d := ⟨k.1.trans h.1, fun i hi => (k.2 i hi).trans (h.2 i hi)⟩
theorem SameBut.mono {vs ws : List Nat} {a b : St} (h : SameBut vs a b) (k : ∀ i ∈ vs, i ∈ ws) : SameBut ws a b := ⟨h.1, fun i hi => h.2 i fun z => hi (k i z)⟩
theorem wipe_get {σ : St} {i : Nat} : ∀ {vs : List Nat}, i ∈ vs → i < σ.length → (wipe σ vs)[i]? = some none
  | [], h, _ => by cases h
  | v :: vs, h, hl => by
    unfold wipe
    by_cases e : v = i
    · subst e
      rw [List.getElem?_set_self (by rw [wipe_length]; exact hl)]
    · rw [List.getElem?_set_ne e]
      rcases List.mem_cons.mp h with z | z
      · exact (e z.symm).elim
      · exact wipe_get z hl
theorem SameBut.wipe {vs : List Nat} {a b : St} (h : SameBut vs a b) : L2.wipe b vs = L2.wipe a vs := by
  apply List.ext_getElem?
  intro i
  by_cases hi : i ∈ vs
  · by_cases hl : i < a.length
    · rw [wipe_get hi hl, wipe_get hi (by rw [h.1]; exact hl)]
    · rw [List.getElem?_eq_none (by rw [wipe_length, h.1]; omega), List.getElem?_eq_none (by rw [wipe_length]; omega)]
  · rw [wipe_out hi, wipe_out hi]
    exact h.2 i hi
theorem wipe_wipe {σ : St} {vs : List Nat} : SameBut vs σ (wipe σ vs) := ⟨wipe_length _ _, fun i hi => wipe_out hi⟩
/-- the reading of a target that means t -/
def rdG (c : Cn) (t : Tg) : TG := fun v σ H Q => ∃ B g r d r', EOk c B g H r σ ∧ Same g.F H ∧ Rep c g v d ∧ bindT t d r = some r' ∧ ∀ σ', SameBut (slotsT t) σ σ' → EOk c B g H r' σ' → Q σ' H
def rdGs (c : Cn) (t : Tgs) : TGs := fun vs σ H Q => ∃ B g r ds r', EOk c B g H r σ ∧ Same g.F H ∧ RepL c g vs ds ∧ bindTs t ds r = some r' ∧ ∀ σ', SameBut (slotsTs t) σ σ' → EOk c B g H r' σ' → Q σ' H
theorem _root_.L2.PG.mono {X : Cx} {e : Expr} {t t' : TG} (h : PG X e t) (f : ∀ v σ H Q, t' v σ H Q → t v σ H Q) : PG X e t' := ⟨fun pins s σ H v u Q I r q => h.run pins s σ H v u Q I r (f _ _ _ _ q)⟩
theorem _root_.L2.PGs.mono {X : Cx} {e : List Expr} {t t' : TGs} (h : PGs X e t) (f : ∀ v σ H Q, t' v σ H Q → t v σ H Q) : PGs X e t' := ⟨fun pins s σ H v u Q I r q => h.run pins s σ H v u Q I r (f _ _ _ _ q)⟩
section
variable {c : Cn} {X : Cx} {pos : Pos}
theorem g_name {i : Nat} {x : Str} (hN : X.N.Nodup) (hi : X.N[i]? = some x) (hx : Loc X.env.scope x) (hf : X.fn x = true ∨ X.env.scope.names.lookup x = some .local) : PG X (.Name x pos) (rdG c (.nm i)) := by
  refine (pg_name hN hi hx hf).mono fun v σ H Q h => ?_
  obtain ⟨B, g, r, d, r', E, s, q, e, k⟩ := h
  simp only [bindT] at e
  cases e
  exact k _ (SameBut.set (by simp [slotsT])) (E.setD i q)
theorem gs_nil : PGs X [] (rdGs c .nil) := pgs_nil.mono fun v σ H Q h => by
  obtain ⟨B, g, r, d, r', E, s, q, e, k⟩ := h
  cases q with
  | nil =>
    simp only [bindTs] at e
    cases e
    exact ⟨rfl, k σ ⟨rfl, fun _ _ => rfl⟩ E⟩
  | cons a b => simp only [bindTs] at e; cases e
theorem gs_cons {e : Expr} {es : List Expr} {t : Tg} {ts : Tgs} (h1 : PG X e (rdG c t)) (h2 : PGs X es (rdGs c ts)) (hs : (assignEach (e :: es) X.env).map (·.2) = assign e X.env :: (assignEach es X.env).map (·.2)) : PGs X (e :: es) (rdGs c (.cons t ts)) := by
  refine (pgs_cons h1 h2 hs).mono fun v σ H Q h => ?_
  obtain ⟨B, g, r, d, r', E, s, q, e, k⟩ := h
  cases q with
  | nil => simp only [bindTs] at e; cases e
  | cons a b =>
    rename_i v' d' vs' ds'
    simp only [bindTs] at e
    cases e1 : bindT t d' r with
    | none => rw [e1] at e; cases e
    | some r1 =>
      rw [e1] at e
      refine ⟨_, _, rfl, B, g, r, d', r1, E, s, a, e1, fun σ1 b1 E1 => ⟨B, g, r1, ds', r', E1, s, b, e, fun σ2 b2 E2 => k σ2 ?_ E2⟩⟩
      exact (b1.mono fun i hi => by simp [slotsTs, hi]).trans (b2.mono fun i hi => by simp [slotsTs, hi])
theorem _root_.L2.PG.or {X : Cx} {e : Expr} {t t' : TG} (h : PG X e t) (h' : PG X e t') : PG X e (fun v σ H Q => t v σ H Q ∨ t' v σ H Q) := ⟨fun pins s σ H v u Q I r q => q.elim (fun z => h.run pins s σ H v u Q I r z) fun z => h'.run pins s σ H v u Q I r z⟩
theorem g_tup {es : List Expr} {j n : Nat} {ts : Tgs} (hc : X.calm = true) (h : PGs X es (rdGs c ts)) (hn : (assignEach es X.env).length = n) (hl : lenTs ts = n) (hst : (assignEach es X.env).findIdx? (·.1) = none) (hb : ∀ ds r r', bindTs ts ds r = some r' → ds.length = n) :
    PG X (.Tuple es j pos) (rdG c (.tp ts)) := by
  refine ((pg_tup hc h hn hst).or (pg_unl hc h hn hst)).mono fun v σ H Q h => ?_
  obtain ⟨B, g, r, d, r', E, s, q, e, k⟩ := h
  cases q with
  | tup hx lx =>
    simp only [bindT] at e
    exact .inl ⟨_, _, rfl, SqT.of (s _ _ hx), by rw [lx.length]; exact hb _ _ _ e, B, g, r, _, r', E, s, lx, e, fun σ' b' E' => k σ' (b'.mono fun i hi => by simpa [slotsT] using hi) E'⟩
  | lst hx lx =>
    simp only [bindT] at e
    exact .inr ⟨_, _, rfl, SqL.of (s _ _ hx), by rw [lx.length]; exact hb _ _ _ e, B, g, r, _, r', E, s, lx, e, fun σ' b' E' => k σ' (b'.mono fun i hi => by simpa [slotsT] using hi) E'⟩
  | _ => simp only [bindT] at e; cases e
theorem bindTs_len : ∀ (ts : Tgs) (ds : List D) (r r' : Rho), bindTs ts ds r = some r' → ds.length = lenTs ts
  | .nil, [], _, _, _ => rfl
  | .nil, _ :: _, _, _, e => by simp only [bindTs] at e; cases e
  | .cons _ _, [], _, _, e => by simp only [bindTs] at e; cases e
  | .cons t ts, d :: ds, r, r', e => by
    simp only [bindTs] at e
    cases e1 : bindT t d r with
    | none => rw [e1] at e; cases e
    | some r1 =>
      rw [e1] at e
      simp only [List.length_cons, lenTs, bindTs_len ts ds r1 r' e]
end

/-! ### what is walked -/
/-- while S stands, J gives the data ds one by one -/
structure WD (c : Cn) (S : Gs → Hp → Prop) (J : It) (ds : List D) : Prop where
  ex : ∃ (Gd : Hp → Prop) (Y : Nat → Hp → V → Hp → Prop), Walk J ds.length Gd Y ∧ (∀ g H, S g H → Gd H) ∧
    ∀ (i : Nat) g H w x H', S g H → WOk c g H w → Y i H x H' → i < ds.length → ∃ g2 d, ds[i]? = some d ∧ Ext g H g2 H' ∧ WOk c g2 H' w ∧ Rep c g2 x d
theorem WD.mono {c : Cn} {S S' : Gs → Hp → Prop} {J : It} {ds : List D} (h : WD c S J ds) (k : ∀ g H, S' g H → S g H) : WD c S' J ds := by
  obtain ⟨Gd, Y, h1, h2, h3⟩ := h.ex
  exact ⟨Gd, Y, h1, fun g H s => h2 g H (k g H s), fun i g H w x H' s => h3 i g H w x H' (k g H s)⟩
/-- what is frozen stands -/
def Stand (c : Cn) (g : Gs) : Gs → Hp → Prop := fun g2 H2 => Gle g g2 ∧ Same g2.F H2
abbrev MI := Rho → Wd → Res (List D)
def postI (c : Cn) (g : Gs) (H : Hp) (R : It → Hp → Prop) (E : XK) : Res (List D) → Prop
  | .ok ds w => ∀ g' H' J, Ext g H g' H' → WOk c g' H' w → WD c (Stand c g') J ds → R J H'
  | .exc k w => ∀ g' H', Ext g H g' H' → WOk c g' H' w → E (.ref (c.ec k)) none H'
  | .bad => False
def rdI (c : Cn) (W : WX) (m : MI) : TI := fun σ H R => ∃ B g r w, EOk c B g H r σ ∧ WOk c g H w ∧ postI c g H R (WE W σ) (m r w)
/-- what a walked thing gives -/
def dItems : D → Option (List D)
  | .lst xs => some xs
  | .tup xs => some xs
  | _ => none
def iota (a : Int) : Nat → List D
  | 0 => []
  | n + 1 => .int a :: iota (a + 1) n
theorem iota_length : ∀ (a : Int) (n : Nat), (iota a n).length = n
  | _, 0 => rfl
  | a, n + 1 => by simp [iota, iota_length (a + 1) n]
theorem iota_get : ∀ (n : Nat) (a : Int) (i : Nat), i < n → (iota a n)[i]? = some (.int (a + i))
  | 0, _, _, h => by omega
  | n + 1, a, 0, _ => by simp [iota]
  | n + 1, a, i + 1, h => by
    simp only [iota, List.getElem?_cons_succ]
    rw [iota_get n (a + 1) i (by omega)]
    congr 2
    omega
def enumD (i : Int) : List D → List D
  | [] => []
  | x :: xs => .tup [.int i, x] :: enumD (i + 1) xs
theorem enumD_length : ∀ (a : Int) (xs : List D), (enumD a xs).length = xs.length
  | _, [] => rfl
  | a, x :: xs => by simp [enumD, enumD_length (a + 1) xs]
theorem enumD_get : ∀ (xs : List D) (a : Int) (i : Nat) (x : D), xs[i]? = some x → (enumD a xs)[i]? = some (.tup [.int (a + i), x])
  | [], _, _, _, h => by simp at h
  | y :: ys, a, 0, x, h => by simp at h; subst h; simp [enumD]
  | y :: ys, a, i + 1, x, h => by
    simp only [enumD, List.getElem?_cons_succ]
    rw [enumD_get ys (a + 1) i x (by simpa using h)]
    congr 4
    simp
    omega
def zipD : List D → List D → List D
  | x :: xs, y :: ys => .tup [x, y] :: zipD xs ys
  | _, _ => []
theorem zipD_length : ∀ (xs ys : List D), (zipD xs ys).length = min xs.length ys.length
  | [], _ => by simp [zipD]
  | _ :: _, [] => by simp [zipD]
  | x :: xs, y :: ys => by simp [zipD, zipD_length xs ys]
theorem zipD_get : ∀ (xs ys : List D) (i : Nat) (x y : D), xs[i]? = some x → ys[i]? = some y → (zipD xs ys)[i]? = some (.tup [x, y])
  | [], _, _, _, _, h, _ => by simp at h
  | _ :: _, [], _, _, _, _, h => by simp at h
  | x :: xs, y :: ys, 0, _, _, h, k => by simp at h k; subst h; subst k; simp [zipD]
  | x :: xs, y :: ys, i + 1, _, _, h, k => by
    simp only [zipD, List.getElem?_cons_succ]
    exact zipD_get xs ys i _ _ (by simpa using h) (by simpa using k)
def mISeq (a : ME) : MI := fun r w => (a r w).bind fun x w => lift (dItems x) w
def dRng : List D → Option (List D)
  | [.int n] => if decide (-1000000 ≤ n) && decide (n ≤ 1000000) then some (iota 0 n.toNat) else none
  | [.int a, .int b] => if decide (-1000000 ≤ a) && decide (a ≤ 1000000) && decide (-1000000 ≤ b) && decide (b ≤ 1000000) then some (iota a (b - a).toNat) else none
  | _ => none
def dEnum : List D → Option (List D)
  | [.lst xs] => some (enumD 0 xs)
  | _ => none
def dZip : List D → Option (List D)
  | [.lst xs, .lst ys] => some (zipD xs ys)
  | _ => none
def mIBi (f : List D → Option (List D)) (a : MA) : MI := fun r w => (a r w).bind fun xs w => lift (f xs) w
theorem _root_.L2.PI.mono {X : Cx} {tg e : Expr} {t t' : TI} (h : PI X tg e t) (f : ∀ σ H Q, t' σ H Q → t σ H Q) : PI X tg e t' := ⟨fun pins s σ H Q I q => h.run pins s σ H Q I (f _ _ _ q)⟩
section
variable {c : Cn} {X : Cx} {W : WX} {tg a b e : Expr} {ma mb : ME} {pos : Pos}
theorem bndI {α β : Type} {R : Gs → β → α → Prop} {g : Gs} {H : Hp} {Q : It → Hp → Prop} {E : XK} {x : Res α} {f : α → Wd → Res (List D)} (h : postI c g H Q E (x.bind f))
    {Q1 : β → Hp → Prop} (k : ∀ g1 H1 v d w1, x = .ok d w1 → Ext g H g1 H1 → WOk c g1 H1 w1 → R g1 v d → postI c g1 H1 Q E (f d w1) → Q1 v H1) : post c R g H Q1 E x := by
  cases x with
  | ok d w =>
    refine fun g1 H1 v e w1 r => k g1 H1 v d w rfl e w1 r ?_
    have h : postI c g H Q E (f d w) := h
    revert h
    cases f d w with
    | ok ds w' => exact fun h g2 H2 J e2 => h g2 H2 J (e.trans e2)
    | exc k w' => exact fun h g2 H2 e2 => h g2 H2 (e.trans e2)
    | bad => exact fun h => h
  | exc k w => exact h
  | bad => exact h
theorem WD.list {K : PySem.W.Frag} {g : Gs} {p : Addr} {vs : List V} {ds : List D} (hx : g.F p = some (.lst vs)) (l : RepL c g vs ds) : WD c (Stand c g) (Itl K p) ds := by
  refine ⟨_, _, by rw [← l.length]; exact walk_list (xs := vs), fun g2 H2 s => SqL.of (s.2 _ _ (s.1.sF _ _ hx)), fun i g2 H2 w x H' s k y hi => ?_⟩
  obtain ⟨rfl, y⟩ := y
  obtain ⟨d, h1, h2⟩ := (l.mono s.1).get y
  exact ⟨g2, d, h1, Ext.refl _ _, k, h2⟩
theorem WD.tup {K : PySem.W.Frag} {g : Gs} {p : Addr} {vs : List V} {ds : List D} (hx : g.F p = some (.tup vs)) (l : RepL c g vs ds) : WD c (Stand c g) (Itt K p) ds := by
  refine ⟨_, _, by rw [← l.length]; exact walk_tup (xs := vs), fun g2 H2 s => SqT.of (s.2 _ _ (s.1.sF _ _ hx)), fun i g2 H2 w x H' s k y hi => ?_⟩
  obtain ⟨rfl, y⟩ := y
  obtain ⟨d, h1, h2⟩ := (l.mono s.1).get y
  exact ⟨g2, d, h1, Ext.refl _ _, k, h2⟩
/-- a list or a tuple, by values -/
theorem pi_seq {l : Expr} {tl : TE} (hl : PE X l tl) : PI X tg l (fun σ H R => tl σ H fun x H1 => (∃ a, x = .ref a ∧ (∃ xs, SqL X.K H1 a xs) ∧ R (Itl X.K a) H1) ∨ (∃ a, x = .ref a ∧ (∃ xs, SqT X.K H1 a xs) ∧ R (Itt X.K a) H1)) := by
  refine ⟨fun pins s σ H R I h => ?_⟩
  refine thn (hl.run pins s σ H _ I h) fun v s1 ⟨x, H1, I1, r1, q1⟩ => ?_
  rcases q1 with ⟨p, rfl, ⟨xs, hq⟩, q⟩ | ⟨p, rfl, ⟨xs, hq⟩, q⟩
  · cases r1
    obtain ⟨its, rv, pp, hz⟩ := I1.list hq
    refine wpAny_pyIter_list pp.isList ?_
    refine ⟨s1.heap.objs.size, [s1.heap.objs.size], _, _, H1, rfl, I1.kept (t' := s1.toks) fun b o e => Heap.get?_push_of_some _ e, turn_list p _, ⟨_, Heap.get?_push_size _ rfl, rfl, rfl⟩, fun b hb => ?_, q⟩
    obtain rfl : b = s1.heap.objs.size := by simpa using hb
    exact I1.fpOk (Nat.le_refl _) (I1.hok.fresh (Nat.le_refl _))
  · cases r1
    obtain ⟨its, rv, pp, hz⟩ := I1.tuple hq
    refine wpAny_pyIter_tuple (show s1.heap.IsTuple p its.toArray from pp) ?_
    refine ⟨s1.heap.objs.size, [s1.heap.objs.size], _, _, H1, rfl, I1.kept (t' := s1.toks) fun b o e => Heap.get?_push_of_some _ e, turn_tuple p _, ⟨_, Heap.get?_push_size _ rfl, rfl, rfl⟩, fun b hb => ?_, q⟩
    obtain rfl : b = s1.heap.objs.size := by simpa using hb
    exact I1.fpOk (Nat.le_refl _) (I1.hok.fresh (Nat.le_refl _))
theorem i_seq (ha : PE X a (rd c W ma)) : PI X tg a (rdI c W (mISeq ma)) := by
  refine (pi_seq ha).mono fun σ H Q h => ?_
  obtain ⟨B, g, ρ, w, E, k, p⟩ := h
  refine ⟨B, g, ρ, w, E, k, bndI p fun g1 H1 x dx w1 _ e1 k1 r1 p1 => ?_⟩
  cases r1 with
  | lst hx lx => exact .inl ⟨_, rfl, ⟨_, SqL.of (k1.sub _ _ hx)⟩, p1 g1 H1 _ (Ext.refl _ _) k1 (WD.list hx lx)⟩
  | tup hx lx => exact .inr ⟨_, rfl, ⟨_, SqT.of (k1.sub _ _ hx)⟩, p1 g1 H1 _ (Ext.refl _ _) k1 (WD.tup hx lx)⟩
  | _ => exact False.elim p1
def dChars : D → Option (List D)
  | .str z => some (z.cps.toList.map fun ch => .str ⟨#[ch]⟩)
  | _ => none
def mITxt (a : ME) : MI := fun r w => (a r w).bind fun x w => lift (dChars x) w
theorem WD.str {g : Gs} {z : Str} : WD c (Stand c g) (Its z) (z.cps.toList.map fun ch => .str ⟨#[ch]⟩) := by
  refine ⟨_, _, by rw [List.length_map, Array.length_toList]; exact walk_str, fun _ _ _ => trivial, fun i g2 H2 w x H' s k y hi => ?_⟩
  obtain ⟨rfl, ch, hy, rfl⟩ := y
  exact ⟨g2, .str ⟨#[ch]⟩, by rw [List.getElem?_map, Array.getElem?_toList, hy]; rfl, Ext.refl _ _, k, .str _⟩
theorem i_txt (ha : PE X a (rd c W ma)) : PI X tg a (rdI c W (mITxt ma)) := by
  refine (pi_str ha).mono fun σ H Q h => ?_
  obtain ⟨B, g, ρ, w, E, k, p⟩ := h
  refine ⟨B, g, ρ, w, E, k, bndI p fun g1 H1 x dx w1 _ e1 k1 r1 p1 => ?_⟩
  cases r1 with
  | str z => exact ⟨_, rfl, p1 g1 H1 _ (Ext.refl _ _) k1 WD.str⟩
  | _ => exact False.elim p1
theorem WD.rng {g : Gs} {lo : Int} {n : Nat} : WD c (Stand c g) (Itr lo n) (iota lo n) := by
  refine ⟨_, _, by rw [iota_length]; exact walk_range, fun _ _ _ => trivial, fun i g2 H2 w x H' s k y hi => ?_⟩
  obtain ⟨rfl, rfl⟩ := y
  rw [iota_length] at hi
  exact ⟨g2, _, iota_get n lo i hi, Ext.refl _ _, k, .int _⟩
theorem i_rng1 {ms : MA} {p : Pos} (hg : Gl X "range") (hm : X.mg "range" = none) (ha : PA X [a] (rdA c W ms)) (hs : starEach [a] X.env = [(false, eval a X.env)]) (hl : ∀ r w ds w', ms r w = .ok ds w' → ds.length = 1) : PI X tg (.Call (.Name "range" p) [a] [] pos) (rdI c W (mIBi dRng ms)) := by
  refine (pi_range1 hg hm ha hs).mono fun σ H Q h => ?_
  obtain ⟨B, g, ρ, w, E, k, p⟩ := h
  refine ⟨B, g, ρ, w, E, k, bndI p fun g1 H1 vs ds w1 e0 e1 k1 r1 p1 => ?_⟩
  have h1 := hl _ _ _ _ e0
  cases r1 with
  | nil => simp at h1
  | cons r2 r3 =>
    cases r3 with
    | cons _ _ => simp at h1
    | nil =>
      cases r2 with
      | int n =>
        simp only [dRng] at p1
        split at p1
        · rename_i hb
          simp only [Bool.and_eq_true, decide_eq_true_eq] at hb
          exact ⟨n, rfl, by omega, by omega, p1 g1 H1 _ (Ext.refl _ _) k1 WD.rng⟩
        · exact False.elim p1
      | _ => exact False.elim p1
theorem i_rng2 {ms : MA} {p : Pos} (hg : Gl X "range") (hm : X.mg "range" = none) (ha : PA X [a, b] (rdA c W ms)) (hs : starEach [a, b] X.env = [(false, eval a X.env), (false, eval b X.env)]) (hs2 : starEach [b] X.env = [(false, eval b X.env)])
    (hl : ∀ r w ds w', ms r w = .ok ds w' → ds.length = 2) : PI X tg (.Call (.Name "range" p) [a, b] [] pos) (rdI c W (mIBi dRng ms)) := by
  refine (pi_range2 hg hm ha hs hs2).mono fun σ H Q h => ?_
  obtain ⟨B, g, ρ, w, E, k, p⟩ := h
  refine ⟨B, g, ρ, w, E, k, bndI p fun g1 H1 vs ds w1 e0 e1 k1 r1 p1 => ?_⟩
  have h1 := hl _ _ _ _ e0
  cases r1 with
  | nil => simp at h1
  | cons r2 r3 =>
    cases r3 with
    | nil => simp at h1
    | cons r4 r5 =>
      cases r5 with
      | cons _ _ => simp at h1
      | nil =>
        cases r2 with
        | int n =>
          cases r4 with
          | int m =>
            simp only [dRng] at p1
            split at p1
            · rename_i hb
              simp only [Bool.and_eq_true, decide_eq_true_eq] at hb
              exact ⟨n, m, rfl, ⟨by omega, by omega, by omega, by omega⟩, p1 g1 H1 _ (Ext.refl _ _) k1 WD.rng⟩
            · exact False.elim p1
          | _ => exact False.elim p1
        | _ => exact False.elim p1
theorem WD.pair {J : It} {g : Gs} {n : Nat} {Gd : Hp → Prop} {xs ys : Nat → Option V} {ds : List D} (hn : ds.length = n) (hw : Walk J n Gd (YPair xs ys)) (hG : ∀ g2 H2, Stand c g g2 H2 → Gd H2)
    (hd : ∀ g2, Gle g g2 → ∀ (i : Nat) x y, xs i = some x → ys i = some y → ∃ dx dy, Rep c g2 x dx ∧ Rep c g2 y dy ∧ ds[i]? = some (.tup [dx, dy])) : WD c (Stand c g) J ds := by
  refine ⟨_, _, by rw [hn]; exact hw, hG, fun i g2 H2 w x H' s k y hi => ?_⟩
  obtain ⟨T, u, v, rfl, hT, rfl, h1, h2⟩ := y
  obtain ⟨dx, dy, r1, r2, h3⟩ := hd g2 s.1 i u v h1 h2
  have l := (Ext.laid (o := .tup [u, v]) k hT).toGle
  exact ⟨_, _, h3, Ext.laid k hT, k.laid hT, .tup upd_same (.cons (r1.mono l) (.cons (r2.mono l) .nil))⟩
theorem i_enum {ms : MA} {p tpos : Pos} {elts : List Expr} {kk : Nat} (hg : Gl X "enumerate") (hm : X.mg "enumerate" = none) (ha : PA X [a] (rdA c W ms)) (hs : starEach [a] X.env = [(false, eval a X.env)]) :
    PI X (.Tuple elts kk tpos) (.Call (.Name "enumerate" p) [a] [] pos) (rdI c W (mIBi dEnum ms)) := by
  refine (pi_enum hg hm ha hs).mono fun σ H Q h => ?_
  obtain ⟨B, g, ρ, w, E, k, p⟩ := h
  refine ⟨B, g, ρ, w, E, k, bndI p fun g1 H1 vs ds w1 e0 e1 k1 r1 p1 => ?_⟩
  unfold dEnum at p1
  split at p1
  · cases r1 with
    | cons r2 r3 =>
      cases r3
      cases r2 with
      | lst hx lx =>
        refine ⟨_, _, rfl, SqL.of (k1.sub _ _ hx), p1 g1 H1 _ (Ext.refl _ _) k1 ?_⟩
        refine WD.pair (n := _) (by rw [enumD_length, ← lx.length]) walk_enum (fun g2 H2 s => SqL.of (s.2 _ _ (s.1.sF _ _ hx))) fun g2 l i x y e1 e2 => ?_
        cases e1
        obtain ⟨d, h1, h2⟩ := (lx.mono l).get e2
        exact ⟨_, d, .int _, h2, by rw [enumD_get _ 0 i d h1]; simp⟩
  · exact False.elim p1
theorem i_zip {ms : MA} {p tpos : Pos} {elts : List Expr} {kk : Nat} (hg : Gl X "zip") (hm : X.mg "zip" = none) (ha : PA X [a, b] (rdA c W ms)) (hs : starEach [a, b] X.env = [(false, eval a X.env), (false, eval b X.env)]) (hs2 : starEach [b] X.env = [(false, eval b X.env)]) :
    PI X (.Tuple elts kk tpos) (.Call (.Name "zip" p) [a, b] [] pos) (rdI c W (mIBi dZip ms)) := by
  refine (pi_zip hg hm ha (by rw [hs, hs2]) (by rw [hs2]; rfl)).mono fun σ H Q h => ?_
  obtain ⟨B, g, ρ, w, E, k, p⟩ := h
  refine ⟨B, g, ρ, w, E, k, bndI p fun g1 H1 vs ds w1 e0 e1 k1 r1 p1 => ?_⟩
  unfold dZip at p1
  split at p1
  · cases r1 with
    | cons r2 r3 =>
      cases r3 with
      | cons r4 r5 =>
        cases r5
        cases r2 with
        | lst hx lx =>
          cases r4 with
          | lst hy ly =>
            refine ⟨_, _, _, _, rfl, SqL.of (k1.sub _ _ hx), SqL.of (k1.sub _ _ hy), p1 g1 H1 _ (Ext.refl _ _) k1 ?_⟩
            refine WD.pair rfl (walk_zip (by rw [zipD_length, lx.length, ly.length])) (fun g2 H2 s => ⟨SqL.of (s.2 _ _ (s.1.sF _ _ hx)), SqL.of (s.2 _ _ (s.1.sF _ _ hy))⟩) fun g2 l i x y e1 e2 => ?_
            obtain ⟨d, h1, h2⟩ := (lx.mono l).get e1
            obtain ⟨d', h1', h2'⟩ := (ly.mono l).get e2
            exact ⟨_, _, h2, h2', zipD_get _ _ i _ _ h1 h1'⟩
  · exact False.elim p1
end
end RL

namespace RL
open PySem L2

/-! ### makers of new lists -/
def postL (c : Cn) (g : Gs) (H : Hp) (Q : VK) (E : XK) : Res (List D) → Prop
  | .ok ds w => ∀ g' H' p vs, Ext g H g' H' → WOk c g' H' w → H p = none → g'.F p = none → p ∉ g'.wadr → H' p = some (.lst vs) → RepL c g' vs ds → Q (.ref p) H'
  | .exc k w => ∀ g' H', Ext g H g' H' → WOk c g' H' w → E (.ref (c.ec k)) none H'
  | .bad => False
def rdL (c : Cn) (W : WX) (m : MA) : TE := fun σ H Q => ∃ B g r w, EOk c B g H r σ ∧ WOk c g H w ∧ postL c g H Q (WE W σ) (m r w)
def mLst (m : MA) : ME := fun r w => (m r w).bind fun ds w => .ok (.lst ds) w
def mLen (m : MA) : MA := fun r w => (m r w).bind fun xs w => lift (if xs.length ≤ big then some xs else none) w
def dOf : List D → Option (List D)
  | [d] => dItems d
  | _ => none
def mOf (m : MA) : MA := fun r w => (m r w).bind fun xs w => lift (dOf xs) w
theorem Res.assoc {α β γ : Type} {x : Res α} {f : α → Wd → Res β} {h : β → Wd → Res γ} : (x.bind f).bind h = x.bind fun a w => (f a w).bind h := by cases x <;> rfl
section
variable {c : Cn} {X : Cx} {W : WX} {a b e : Expr} {ma mb : ME} {pos : Pos}
theorem bndL {α β : Type} {R : Gs → β → α → Prop} {g g0 : Gs} {H H0 : Hp} {Q : VK} {E : XK} {x : Res α} {f : α → Wd → Res (List D)} (h : postL c g0 H0 Q E (x.bind f)) (x0 : Ext g0 H0 g H)
    {Q1 : β → Hp → Prop} (k : ∀ g1 H1 v d w1, x = .ok d w1 → Ext g H g1 H1 → WOk c g1 H1 w1 → R g1 v d → postL c g0 H0 Q E (f d w1) → Q1 v H1) : post c R g H Q1 E x := by
  cases x with
  | ok d w => exact fun g1 H1 v e w1 r => k g1 H1 v d w rfl e w1 r h
  | exc k w => exact fun g1 H1 e => h g1 H1 (x0.trans e)
  | bad => exact h
/-- a list that is made is frozen -/
theorem freeze {g g' : Gs} {H H' : Hp} {w : Wd} {p : Addr} {vs : List V} (x : Ext g H g' H') (k : WOk c g' H' w) (hp : H p = none) (hF : g'.F p = none) (hW : p ∉ g'.wadr) (hv : H' p = some (.lst vs)) : Ext g H (g'.lay p (.lst vs)) H' ∧ WOk c (g'.lay p (.lst vs)) H' w ∧ Gle g' (g'.lay p (.lst vs)) := by
  have L : Gle g' (g'.lay p (.lst vs)) := ⟨fun b u e => by
    show upd g'.F p _ b = some u
    rw [upd_ne (ne_of_none e hF)]; exact e, fun _ q => q, fun _ _ q => q⟩
  refine ⟨⟨x.toGle.trans L, x.keep, x.dom, fun b e n => ?_, x.frW⟩, ⟨fun b u e => ?_, k.dr, k.dr0, fun i sz ln e => ?_, k.tbl, k.nd, fun b hb => ?_⟩, L⟩
  · show upd g'.F p _ b = none
    rw [upd_ne fun q => n (by rw [q]; exact hp)]
    exact x.frF b e n
  · have e : upd g'.F p _ b = some u := e
    by_cases q : b = p
    · subst q
      rw [upd_same] at e
      rw [hv]; exact e
    · rw [upd_ne q] at e
      exact k.sub _ _ e
  · obtain ⟨t, dx, l, vs', e1, e2, e3, r⟩ := k.tb i sz ln e
    exact ⟨t, dx, l, vs', e1, e2, e3, r.mono L⟩
  · show upd g'.F p _ b = none
    rw [upd_ne (fun q : b = p => hW (by rw [← q]; exact hb))]
    exact k.out b hb
theorem rdL_of {m : MA} {σ : St} {H : Hp} {Q : VK} (h : rd c W (mLst m) σ H Q) : rdL c W m σ H Q := by
  obtain ⟨B, g, ρ, w, E, k, p⟩ := h
  refine ⟨B, g, ρ, w, E, k, ?_⟩
  unfold mLst at p
  cases hm : m ρ w with
  | bad => rw [hm] at p; exact p
  | exc j w' => rw [hm] at p; exact p
  | ok ds w' =>
    rw [hm] at p
    intro g' H' q vs x k' hp hF hW hv r
    obtain ⟨x2, k2, L⟩ := freeze x k' hp hF hW hv
    exact p _ _ _ x2 k2 (.lst upd_same (r.mono L))
theorem s_of_l {m : MA} (h : PE X e (rdL c W m)) : PE X e (rd c W (mLst m)) := h.mono fun _ _ _ h => rdL_of h
theorem laidL {g g1 : Gs} {H H1 : Hp} {w : Wd} {Q : VK} {E : XK} {ds : List D} {vs : List V} (h : postL c g H Q E (.ok ds w)) (x : Ext g H g1 H1) (k : WOk c g1 H1 w) (r : RepL c g1 vs ds) : ∀ p, H1 p = none → Q (.ref p) (upd H1 p (.lst vs)) := fun p hp =>
  h g1 _ p vs (x.trans (Ext.upd hp)) (k.write (k.notW hp) (k.fresh hp)) (x.dom p hp) (k.fresh hp) (k.notW hp) upd_same r
theorem post_liftL {α : Type} {g : Gs} {H : Hp} {w : Wd} {Q : VK} {E : XK} {o : Option (List D)} (h : postL c g H Q E (lift o w)) : ∃ d, o = some d ∧ postL c g H Q E (.ok d w) := by
  cases o with
  | none => exact False.elim h
  | some d => exact ⟨d, rfl, h⟩
theorem l_disp {es : List Expr} {ms : MA} (h : PA X es (rdA c W ms)) : PE X (.List es pos) (rdL c W (mLen ms)) := by
  refine (pe_lst h).mono fun σ H Q h => ?_
  obtain ⟨B, g, ρ, w, E, k, p⟩ := h
  refine ⟨B, g, ρ, w, E, k, bndL p (Ext.refl _ _) fun g1 H1 x dx w1 _ e1 k1 r1 p1 => ?_⟩
  obtain ⟨d, ed, q⟩ := post_liftL (α := Unit) p1
  split at ed
  · rename_i hl
    cases ed
    exact ⟨by rw [r1.length]; exact Nat.le_trans hl big_le, laidL q e1 k1 r1⟩
  · cases ed
theorem l_of {es : List Expr} {ms : MA} {p : Pos} (hg : Gl X "list") (hm : X.mg "list" = none) (ha : PA X (e :: es) (rdA c W ms)) (he : starEach (e :: es) X.env = (false, eval e X.env) :: starEach es X.env) (hpl : (backTo pos (starEach es X.env)).any (·.1) = false) :
    PE X (.Call (.Name "list" p) (e :: es) [] pos) (rdL c W (mOf ms)) := by
  refine (pe_callTy call_list_of hg hm (by decide +kernel) ha (by decide) (by decide) he hpl).mono fun σ H Q h => ?_
  obtain ⟨B, g, ρ, w, E, k, p⟩ := h
  refine ⟨B, g, ρ, w, E, k, bndL p (Ext.refl _ _) fun g1 H1 x dx w1 _ e1 k1 r1 p1 => ?_⟩
  obtain ⟨d, ed, q⟩ := post_liftL (α := Unit) p1
  unfold dOf at ed
  split at ed
  · cases r1 with
    | cons r2 r3 =>
      cases r3
      cases r2 with
      | lst hx lx => cases ed; exact ⟨_, _, rfl, .inl (SqL.of (k1.sub _ _ hx)), laidL q e1 k1 lx⟩
      | tup hx lx => cases ed; exact ⟨_, _, rfl, .inr (SqT.of (k1.sub _ _ hx)), laidL q e1 k1 lx⟩
      | _ => cases ed
  · cases ed

/-! ### comprehensions -/
/-- what stands while the world goes on from (g, H) -/
def StandE (g : Gs) (H : Hp) : Gs → Hp → Prop := fun g2 H2 => Ext g H g2 H2 ∧ Same g2.F H2
def postE (c : Cn) (g : Gs) (H : Hp) (R : It → Hp → Prop) (E : XK) : Res (List D) → Prop
  | .ok ds w => ∀ g' H' J, Ext g H g' H' → WOk c g' H' w → WD c (StandE g' H') J ds → R J H'
  | .exc k w => ∀ g' H', Ext g H g' H' → WOk c g' H' w → E (.ref (c.ec k)) none H'
  | .bad => False
def rdIE (c : Cn) (W : WX) (m : MI) : TI := fun σ H R => ∃ B g r w, EOk c B g H r σ ∧ WOk c g H w ∧ postE c g H R (WE W σ) (m r w)
theorem i_weak {tg : Expr} {m : MI} (h : PI X tg e (rdI c W m)) : PI X tg e (rdIE c W m) := by
  refine h.mono fun σ H Q h => ?_
  obtain ⟨B, g, ρ, w, E, k, p⟩ := h
  refine ⟨B, g, ρ, w, E, k, ?_⟩
  revert p
  cases m ρ w with
  | ok ds w' => exact fun p g' H' J x k' wd => p g' H' J x k' (wd.mono fun g2 H2 s => ⟨s.1.toGle, s.2⟩)
  | exc j w' => exact fun p => p
  | bad => exact fun p => p
def mIOwn (i : Nat) : MI := fun r w => match r[i]? with
  | some (.own xs) => .ok xs w
  | _ => .bad
def mIOwnE (i : Nat) : MI := fun r w => match r[i]? with
  | some (.own xs) => .ok (enumD 0 xs) w
  | _ => .bad
theorem i_own {tg : Expr} {i : Nat} {x : Str} (hN : X.N[i]? = some x) (hv : Vis X.env.scope x) (hd : (x == ("__debug__" : Str)) = false) (hcd : (x == ("__classdict__" : Str)) = false) : PI X tg (.Name x pos) (rdIE c W (mIOwn i)) := by
  refine (pi_list (pe_var hN hv hd hcd)).mono fun σ H Q h => ?_
  obtain ⟨B, g, ρ, w, E, k, p⟩ := h
  unfold mIOwn at p
  split at p
  · rename_i xs e
    obtain ⟨ad, h1, h2⟩ := E.own
    obtain ⟨a1, a2, a3, a0, vs, a4, a5⟩ := h1 i xs e
    refine ⟨_, a1, _, rfl, ⟨_, SqL.of a4⟩, p g H _ (Ext.refl _ _) k ⟨_, _, by rw [← a5.length]; exact walk_list (xs := vs), fun g2 H2 s => SqL.of (s.1.keep _ _ a4 a3), fun j g2 H2 w2 x2 H' s k2 y hj => ?_⟩⟩
    obtain ⟨rfl, y⟩ := y
    obtain ⟨d, q1, q2⟩ := (a5.mono s.1.toGle).get y
    exact ⟨g2, d, q1, Ext.refl _ _, k2, q2⟩
  · exact False.elim p
theorem i_ownE {i : Nat} {x : Str} {p tpos : Pos} {elts : List Expr} {kk : Nat} (hg : Gl X "enumerate") (hm : X.mg "enumerate" = none) (hN : X.N[i]? = some x) (hv : Vis X.env.scope x) (hd : (x == ("__debug__" : Str)) = false) (hcd : (x == ("__classdict__" : Str)) = false) {pos' : Pos} :
    PI X (.Tuple elts kk tpos) (.Call (.Name "enumerate" p) [.Name x pos'] [] pos) (rdIE c W (mIOwnE i)) := by
  refine (pi_enum hg hm (pa_cons (pe_var hN hv hd hcd) pa_nil)).mono fun σ H Q h => ?_
  obtain ⟨B, g, ρ, w, E, k, p⟩ := h
  unfold mIOwnE at p
  split at p
  · rename_i xs e
    obtain ⟨ad, h1, h2⟩ := E.own
    obtain ⟨a1, a2, a3, a0, vs, a4, a5⟩ := h1 i xs e
    refine ⟨_, a1, _, _, rfl, SqL.of a4, p g H _ (Ext.refl _ _) k ⟨_, _, by rw [enumD_length, ← a5.length]; exact walk_enum (xs := vs), fun g2 H2 s => SqL.of (s.1.keep _ _ a4 a3), fun j g2 H2 w2 x2 H' s k2 y hj => ?_⟩⟩
    obtain ⟨T, u, v, rfl, hT, rfl, q1, q2⟩ := y
    cases q1
    obtain ⟨d, q3, q4⟩ := (a5.mono s.1.toGle).get q2
    have l := (Ext.laid (o := .tup [.int (j : Nat), v]) k2 hT).toGle
    exact ⟨_, _, by rw [enumD_get _ 0 j d q3]; simp, Ext.laid k2 hT, k2.laid hT, .tup upd_same (.cons (.int _) (.cons (q4.mono l) .nil))⟩
  · exact False.elim p
def wipeR (r : Rho) : List Nat → Rho
  | [] => r
  | v :: vs => (wipeR r vs).set v .emp
theorem EOk.wipe {B : Hp} {g : Gs} {H : Hp} {r : Rho} {σ : St} (h : EOk c B g H r σ) : ∀ vs : List Nat, EOk c B g H (wipeR r vs) (L2.wipe σ vs)
  | [] => h
  | v :: vs => (EOk.wipe h vs).drop v none
def Res.nx {α : Type} : Res α → Res α
  | .exc _ _ => .bad
  | x => x
/-- no exception leaves -/
abbrev WF : WX := fun _ _ _ _ => False
def compGo (f : D → Wd → Res (Option D)) : List D → Wd → Res (List D)
  | [], w => .ok [] w
  | x :: xs, w => (f x w).bind fun o w => (compGo f xs w).bind fun ys w => .ok (match o with | some y => y :: ys | none => ys) w
def compF (t : Tg) (r0 : Rho) (mc me : ME) : D → Wd → Res (Option D) := fun x w => match bindT t x r0 with
  | none => .bad
  | some r1 => (ofB (mc r1 w)).nx.bind fun b w => if b = true then (me r1 w).nx.bind fun y w => .ok (some y) w else .ok none w
def mComp (it : MI) (t : Tg) (vs : List Nat) (mc me : ME) : MA := fun r w => (it r w).bind fun ds w => if ds.length ≤ big then compGo (compF t (wipeR r vs) mc me) ds w else .bad
theorem bndN {α β : Type} {R : Gs → β → α → Prop} {g g0 : Gs} {H H0 : Hp} {Q : VK} {E E' : XK} {x : Res α} {f : α → Wd → Res (List D)} (h : postL c g0 H0 Q E (x.nx.bind f))
    {Q1 : β → Hp → Prop} (k : ∀ g1 H1 v d w1, x = .ok d w1 → Ext g H g1 H1 → WOk c g1 H1 w1 → R g1 v d → postL c g0 H0 Q E (f d w1) → Q1 v H1) : post c R g H Q1 E' x := by
  cases x with
  | ok d w => exact fun g1 H1 v e w1 r => k g1 H1 v d w rfl e w1 r h
  | exc k w => exact False.elim h
  | bad => exact h
theorem postL.ext {g g1 : Gs} {H H1 : Hp} {Q : VK} {E : XK} {x : Res (List D)} (h : postL c g H Q E x) (e : Ext g H g1 H1) : postL c g1 H1 Q E x := by
  cases x with
  | ok ds w => exact fun g2 H2 p vs x2 k2 hp => h g2 H2 p vs (e.trans x2) k2 (e.dom p hp)
  | exc k w => exact fun g2 H2 x2 => h g2 H2 (e.trans x2)
  | bad => exact h
/-- a comprehension over what is walked from (g1, H1) on -/
theorem comp_go {B : Hp} {g1 : Gs} {H1 : Hp} {σ : St} {ρ : Rho} {w1 : Wd} {J : It} {ds : List D} {Q : VK} {E0 : XK} {t : Tg} {vs0 : List Nat} {mc me : ME} (E : EOk c B g1 H1 ρ σ) (k1 : WOk c g1 H1 w1) (wd : WD c (StandE g1 H1) J ds) (hlen : ds.length ≤ big) (hsl : ∀ i ∈ slotsT t, i ∈ vs0)
    (p : postL c g1 H1 Q E0 (compGo (compF t (wipeR ρ vs0) mc me) ds w1)) : ∀ D, H1 D = none → ∃ W : Nat → Nat → Hp → Prop, (∃ m, W 0 m (upd H1 D (.lst []))) ∧ ∀ i m H, W i m H →
  (J.stop i H ∧ Q (.ref D) H) ∨ (J.go i H ∧ ∃ Nx : Hp → Prop, (∀ H', Nx H' → ∃ m', m' < m ∧ W (i + 1) m' H') ∧ ∀ x H', J.yld i H x H' → rdG c t x (L2.wipe σ vs0) H' fun σ2 H2 => L2.wipe σ2 vs0 = L2.wipe σ vs0 ∧ rdT c WF mc σ2 H2 fun b H3 =>
    if b = true then rd c WF me σ2 H3 fun y H4 => ∃ acc, H4 D = some (.lst acc) ∧ acc.length < sizeLine ∧ Nx (upd H4 D (.lst (acc ++ [y]))) else Nx H3) := by
  intro D hD
  obtain ⟨Gd, Y, hw, hG, hY⟩ := wd.ex
  refine lc_it hw (fun i H2 => i ≤ ds.length ∧ ∃ g2 w2 vs ys, Ext g1 H1 g2 H2 ∧ WOk c g2 H2 w2 ∧ g2.F D = none ∧ D ∉ g2.wadr ∧ H2 D = some (.lst vs) ∧ RepL c g2 vs ys ∧ ys.length ≤ i ∧
    postL c g1 H1 Q E0 ((compGo (compF t (wipeR ρ vs0) mc me) (ds.drop i) w2).bind fun zs w => .ok (ys ++ zs) w)) ?_ ?_ ?_ ?_
  · refine ⟨Nat.zero_le _, g1, w1, [], [], Ext.upd hD, k1.write (k1.notW hD) (k1.fresh hD), k1.fresh hD, k1.notW hD, upd_same, .nil, Nat.le_refl _, ?_⟩
    rw [List.drop_zero]
    have e : ((compGo (compF t (wipeR ρ vs0) mc me) ds w1).bind fun zs w => Res.ok ([] ++ zs) w) = compGo (compF t (wipeR ρ vs0) mc me) ds w1 := by
      cases compGo (compF t (wipeR ρ vs0) mc me) ds w1 <;> rfl
    rw [e]
    exact p
  · rintro i H2 _ ⟨_, g2, w2, vs, ys, x2, k2, _⟩
    exact hG g2 H2 ⟨x2, k2.sub⟩
  · rintro i x H2 H3 hi ⟨_, g2, w2, vs, ys, x2, k2, f2, n2, v2, r2, l2, p2⟩ hy
    obtain ⟨g3, d, hd, x3, k3, r3⟩ := hY i g2 H2 w2 x H3 ⟨x2, k2.sub⟩ k2 hy hi
    have e4 : ds.drop i = d :: ds.drop (i + 1) := by
      rw [List.drop_eq_getElem_cons hi]
      congr 1
      rw [List.getElem?_eq_getElem hi] at hd
      exact Option.some.inj hd
    rw [e4] at p2
    have nD : H2 D ≠ none := by rw [v2]; simp
    cases hb : bindT t d (wipeR ρ vs0) with
    | none => simp only [compGo, compF, hb] at p2; exact False.elim p2
    | some r1 =>
      have hf : compF t (wipeR ρ vs0) mc me d w2 = (ofB (mc r1 w2)).nx.bind fun b w => if b = true then (me r1 w).nx.bind fun y w => .ok (some y) w else .ok none w := by simp only [compF, hb]
      simp only [compGo] at p2
      rw [hf, Res.assoc, Res.assoc] at p2
      have E3 := ((E.ext (x2.trans x3)).wipe vs0)
      refine ⟨B, g3, _, d, r1, E3, k3.sub, r3, hb, fun σ2 sb E4 => ⟨?_, B, g3, r1, w2, E4, k3, bndN p2 fun g4 H4 b b' w4 _ x4 k4 rb p4 => ?_⟩⟩
      · exact ((wipe_wipe.trans (sb.mono hsl)).wipe)
      · subst rb
        have x14 := (x2.trans x3).trans x4
        have f4 : g4.F D = none := (x3.trans x4).frF D f2 nD
        have n4 : D ∉ g4.wadr := fun z => by
          rcases (x3.trans x4).frW D z with q | q
          · exact n2 q
          · exact nD q
        have v4 : H4 D = some (.lst vs) := (x3.trans x4).keep D _ v2 n2
        cases b with
        | false =>
          refine iteF ⟨hi, g4, w4, vs, ys, x14, k4, f4, n4, v4, r2.mono (x3.trans x4).toGle, by omega, ?_⟩
          have e5 : ∀ z : Res (List RL.D), ((z.bind fun ys w => Res.ok ys w).bind fun zs w => Res.ok (ys ++ zs) w) = z.bind fun zs w => .ok (ys ++ zs) w := fun z => by cases z <;> rfl
          rw [← e5]
          exact p4
        | true =>
          refine iteT ⟨B, g4, r1, w4, E4.ext x4, k4, ?_⟩
          simp only [if_true, Res.assoc] at p4
          refine bndN p4 fun g5 H5 y dy w5 _ x5 k5 r5 p5 => ?_
          have nD4 : H4 D ≠ none := by rw [v4]; simp
          have f5 : g5.F D = none := x5.frF D f4 nD4
          have n5 : D ∉ g5.wadr := fun z => by
            rcases x5.frW D z with q | q
            · exact n4 q
            · exact nD4 q
          have v5 : H5 D = some (.lst vs) := x5.keep D _ v4 n4
          have hl2 : vs.length = ys.length := r2.length
          have hb : big < sizeLine := by decide
          refine ⟨vs, v5, by omega, hi, g5, w5, vs ++ [y], ys ++ [dy], ?_, k5.write n5 f5, f5, n5, upd_same, (r2.mono ((x3.trans x4).trans x5).toGle).append (.cons r5 .nil), by simp; omega, ?_⟩
          · have x15 := x14.trans x5
            refine ⟨x15.toGle, fun q u e n => ?_, fun q e => ?_, x15.frF, x15.frW⟩
            · have nq : q ≠ D := ne_of_none e hD
              rw [upd_ne nq]
              exact x15.keep q u e n
            · by_cases nq : q = D
              · rw [nq, upd_same] at e; cases e
              · rw [upd_ne nq] at e
                exact x15.dom q e
          · simpa [Res.bind, Res.assoc] using p5
  · rintro H2 ⟨_, g2, w2, vs, ys, x2, k2, f2, n2, v2, r2, l2, p2⟩
    rw [List.drop_length] at p2
    simp only [compGo, Res.bind, List.append_nil] at p2
    exact p2 g2 H2 D vs x2 k2 hD f2 n2 v2 r2
theorem l_comp {elt tg iter : Expr} {ifs : List Expr} {scope : Scope} {own : List (Str × Nat)} {it : MI} {t : Tg} {mc me : ME} (hc : X.calm = true) (hN : X.N.Nodup) (hi : PI X tg iter (rdIE c W it)) (ok : BlkOk X.N X.env.scope scope own)
    (hg : ∀ (s : Shared) (H : Hp) (C : Addr) (cl : List (Str × Addr)) (fp : List Addr), PG (X.blk s H scope (compEnvC scope cl C X.env) fp) tg (rdG c t))
    (ht : ∀ (s : Shared) (H : Hp) (C : Addr) (cl : List (Str × Addr)) (fp : List Addr), PTs (X.blk s H scope (compEnvC scope cl C X.env) fp) ifs (rdT c WF mc))
    (he : ∀ (s : Shared) (H : Hp) (C : Addr) (cl : List (Str × Addr)) (fp : List Addr), PE (X.blk s H scope (compEnvC scope cl C X.env) fp) elt (rd c WF me))
    (hsl : ∀ i ∈ slotsT t, i ∈ own.map (·.2)) (hs : ∀ x, foldedSetIterable iter X.env x = pure x) :
    ∀ (σ : St) (H : Hp) (Q : VK), rdL c W (mComp it t (own.map (·.2)) mc me) σ H Q → tLc (rdIE c W it) (rdG c t) (rdT c WF mc) (rd c WF me) (own.map (·.2)) σ H Q := by
  intro σ H Q h
  obtain ⟨B, g, ρ, w, E, k, p⟩ := h
  refine ⟨B, g, ρ, w, E, k, ?_⟩
  unfold mComp at p
  cases hm : it ρ w with
  | bad => rw [hm] at p; exact p
  | exc j w' => rw [hm] at p; exact p
  | ok ds w1 =>
    rw [hm] at p
    have p : postL c g H Q (WE W σ) (if ds.length ≤ big then compGo (compF t (wipeR ρ (own.map (·.2))) mc me) ds w1 else .bad) := p
    split at p
    · rename_i hlen
      intro g1 H1 J e1 k1 wd
      exact comp_go (E.ext e1) k1 wd hlen hsl (p.ext e1)
    · exact False.elim p
end
end RL

namespace RL
open PySem L2

abbrev MS := Rho → Wd → RS
def Res.toS {α : Type} (x : Res α) (r : Rho) (f : α → Wd → RS) : RS := match x with
  | .ok a w => f a w
  | .exc k w => .exc k r w
  | .bad => .bad
def postS (c : Cn) (W : WX) (g0 : Gs) (B : Hp) (g : Gs) (Dn : Ends) : RS → Prop
  | .next r w => ∀ g' H' σ', Gle g g' → Ext g0 B g' H' → EOk c B g' H' r σ' → WOk c g' H' w → Dn.nx σ' H'
  | .ret d w => ∀ g' H' v, Gle g g' → Ext g0 B g' H' → WOk c g' H' w → Rep c g' v d → Dn.rt v H'
  | .exc k r w => ∀ g' H' σ', Gle g g' → Ext g0 B g' H' → EOk c B g' H' r σ' → WOk c g' H' w → W (.ref (c.ec k)) none σ' H'
  | .bad => False
def rs (c : Cn) (W : WX) (m : MS) : TS := fun Dn σ H => ∃ g0 B g r w, EOk c B g H r σ ∧ WOk c g H w ∧ Ext g0 B g H ∧ postS c W g0 B g Dn (m r w)

def sRet (m : ME) : MS := fun r w => (m r w).toS r fun d w => .ret d w
def sExp (m : ME) : MS := fun r w => (m r w).toS r fun _ w => .next r w
def sAsg (t : Tg) (m : ME) : MS := fun r w => (m r w).toS r fun d w => match bindT t d r with
  | some r' => .next r' w
  | none => .bad
def sOwn (i : Nat) (m : MA) : MS := fun r w => (m r w).toS r fun ds w => .next (r.set i (.own ds)) w
def sSeq (a b : MS) : MS := fun r w => match a r w with
  | .next r w => b r w
  | x => x
def sNil : MS := fun r w => .next r w
def sIf (t : ME) (a b : MS) : MS := fun r w => (ofB (t r w)).toS r fun k w => if k = true then a r w else b r w
def forGo (t : Tg) (b : MS) : List D → MS
  | [], r, w => .next r w
  | x :: xs, r, w => match bindT t x r with
    | none => .bad
    | some r1 => match b r1 w with
      | .next r2 w2 => forGo t b xs r2 w2
      | y => y
def sFor (it : MI) (t : Tg) (b : MS) : MS := fun r w => (it r w).toS r fun ds w => forGo t b ds r w
def whGo (t : ME) (b : MS) : Nat → MS
  | 0, _, _ => .bad
  | n + 1, r, w => (ofB (t r w)).toS r fun k w => if k = true then (match b r w with
      | .next r2 w2 => whGo t b n r2 w2
      | y => y) else .next r w
def sWh (μ : Rho → Nat) (t : ME) (b : MS) : MS := fun r w => whGo t b (μ r) r w
def sRaise (k : Nat) : MS := fun r w => .exc k r w
/-- x op= e of data -/
def sAug (f : D → D → Option D) (i : Nat) (m : ME) : MS := fun r w => match r[i]? with
  | some (.dat x) => (m r w).toS r fun y w => match f x y with
    | some z => .next (r.set i (.dat z)) w
    | none => .bad
  | _ => .bad
/-- the list of one's own in slot i is changed by f -/
def sMut (i : Nat) (f : List D → D → Option (List D)) (m : ME) : MS := fun r w => match r[i]? with
  | some (.own xs) => (m r w).toS r fun y w => (match f xs y with
    | some zs => .next (r.set i (.own zs)) w
    | none => .bad)
  | _ => .bad
def fApp (xs : List D) (y : D) : Option (List D) := if xs.length ≤ big then some (xs ++ [y]) else none
def fExt (xs : List D) : D → Option (List D)
  | .lst ys => if xs.length + ys.length ≤ big then some (xs ++ ys) else none
  | _ => none
/-- xs[e] = v of one's own: v first -/
def sSet (i : Nat) (mi m : ME) : MS := fun r w => match r[i]? with
  | some (.own xs) => (m r w).toS r fun y w => (mi r w).toS r fun j w => (match j with
    | .int k => (match ixN xs.length k with
      | some j => .next (r.set i (.own (xs.set j y))) w
      | none => .bad)
    | _ => .bad)
  | _ => .bad
/-- from here on nobody changes the list in slot i -/
def frzR (r : Rho) (i : Nat) : Rho := match r[i]? with
  | some (.own xs) => r.set i (.dat (.lst xs))
  | _ => r
def sFrz (i : Nat) (m : MS) : MS := fun r w => m (frzR r i) w

section
variable {c : Cn} {X : Cx} {W : WX} {e : Expr} {st : Stmt} {sts : List Stmt} {me mt : ME} {ma : MA} {pos : Pos}
theorem postS.up {g0 g g' : Gs} {B : Hp} {Dn : Ends} {x : RS} (h : postS c W g0 B g Dn x) (l : Gle g g') : postS c W g0 B g' Dn x := by
  cases x with
  | next r w => exact fun g2 H2 σ2 l2 => h g2 H2 σ2 (l.trans l2)
  | ret d w => exact fun g2 H2 v l2 => h g2 H2 v (l.trans l2)
  | exc k r w => exact fun g2 H2 σ2 l2 => h g2 H2 σ2 (l.trans l2)
  | bad => exact h
theorem bndS {α β : Type} {R : Gs → β → α → Prop} {g0 g : Gs} {B H : Hp} {Dn : Ends} {x : Res α} {r : Rho} {σ : St} {f : α → Wd → RS} (h : postS c W g0 B g Dn (x.toS r f)) (E : EOk c B g H r σ) (x0 : Ext g0 B g H)
    {Q1 : β → Hp → Prop} (k : ∀ g1 H1 v d w1, x = .ok d w1 → Ext g H g1 H1 → WOk c g1 H1 w1 → R g1 v d → EOk c B g1 H1 r σ → Ext g0 B g1 H1 → postS c W g0 B g1 Dn (f d w1) → Q1 v H1) : post c R g H Q1 (WE W σ) x := by
  cases x with
  | ok d w => exact fun g1 H1 v e w1 q => k g1 H1 v d w rfl e w1 q (E.ext e) (x0.trans e) ((show postS c W g0 B g Dn (f d w) from h).up e.toGle)
  | exc j w => exact fun g1 H1 e w1 => h g1 H1 σ e.toGle (x0.trans e) (E.ext e) w1
  | bad => exact h
theorem st_ret (he : PE X e (rd c W me)) : PS X (.Return (some e) pos) (rs c W (sRet me)) := by
  refine (ps_ret he).mono fun Dn σ H h => ?_
  obtain ⟨g0, B, g, r, w, E, k, x0, p⟩ := h
  exact ⟨B, g, r, w, E, k, bndS p E x0 fun g1 H1 v d w1 _ x1 k1 r1 E1 y1 p1 => p1 g1 H1 v (Gle.refl _) y1 k1 r1⟩
theorem st_exp (he : PE X e (rd c W me)) (hs : swapsWith e none pos.line X.env = pure false) : PS X (.Expr e pos) (rs c W (sExp me)) := by
  refine (ps_expr he hs).mono fun Dn σ H h => ?_
  obtain ⟨g0, B, g, r, w, E, k, x0, p⟩ := h
  exact ⟨B, g, r, w, E, k, bndS p E x0 fun g1 H1 v d w1 _ x1 k1 r1 E1 y1 p1 => p1 g1 H1 σ (Gle.refl _) y1 E1 k1⟩
theorem st_asgN {i : Nat} (h : PS X st (tAsg (rd c W me) (gName i))) : PS X st (rs c W (sAsg (.nm i) me)) := by
  refine h.mono fun Dn σ H h => ?_
  obtain ⟨g0, B, g, r, w, E, k, x0, p⟩ := h
  exact ⟨B, g, r, w, E, k, bndS p E x0 fun g1 H1 v d w1 _ x1 k1 r1 E1 y1 p1 => by
    simp only [bindT] at p1
    exact p1 g1 H1 _ (Gle.refl _) y1 (E1.setD i r1) k1⟩
theorem st_asg {t : Tg} (h : PS X st (tAsg (rd c W me) (rdG c t))) : PS X st (rs c W (sAsg t me)) := by
  refine h.mono fun Dn σ H h => ?_
  obtain ⟨g0, B, g, r, w, E, k, x0, p⟩ := h
  refine ⟨B, g, r, w, E, k, bndS p E x0 fun g1 H1 v d w1 _ x1 k1 r1 E1 y1 p1 => ?_⟩
  cases hb : bindT t d r with
  | none => rw [hb] at p1; exact False.elim p1
  | some r' =>
    rw [hb] at p1
    exact ⟨B, g1, r, d, r', E1, k1.sub, r1, hb, fun σ' _ E' => p1 g1 H1 σ' (Gle.refl _) y1 E' k1⟩
theorem st_own {i : Nat} (h : PS X st (tAsg (rdL c W ma) (gName i))) : PS X st (rs c W (sOwn i ma)) := by
  refine h.mono fun Dn σ H h => ?_
  obtain ⟨g0, B, g, r, w, E, k, x0, p⟩ := h
  refine ⟨B, g, r, w, E, k, ?_⟩
  unfold sOwn at p
  cases hm : ma r w with
  | bad => rw [hm] at p; exact p
  | exc j w' => rw [hm] at p; exact fun g1 H1 x1 k1 => p g1 H1 σ x1.toGle (x0.trans x1) (E.ext x1) k1
  | ok ds w' =>
    rw [hm] at p
    intro g1 H1 q vs x1 k1 hp hF hW hv rl
    exact p g1 H1 _ x1.toGle (x0.trans x1) (E.setO x1 i hp (x0.dom _ hp) hF hW hv rl) k1
theorem ss_nil : PSs X [] (rs c W sNil) := pss_nil.mono fun Dn σ H h => by
  obtain ⟨g0, B, g, r, w, E, k, x0, p⟩ := h
  exact p g H σ (Gle.refl _) x0 E k
theorem ss_cons {m1 m2 : MS} (h1 : PS X st (rs c W m1)) (h2 : PSs X sts (rs c W m2)) : PSs X (st :: sts) (rs c W (sSeq m1 m2)) := by
  refine (pss_cons h1 h2).mono fun Dn σ H h => ?_
  obtain ⟨g0, B, g, r, w, E, k, x0, p⟩ := h
  refine ⟨g0, B, g, r, w, E, k, x0, ?_⟩
  unfold sSeq at p
  revert p
  cases m1 r w with
  | next r1 w1 => exact fun p g1 H1 σ1 l1 x1 E1 k1 => ⟨g0, B, g1, r1, w1, E1, k1, x1, p.up l1⟩
  | ret d w1 => exact fun p => p
  | exc j r1 w1 => exact fun p => p
  | bad => exact fun p => p
/-- one statement alone -/
theorem ss_one {m : MS} (h : PS X st (rs c W m)) : PSs X [st] (rs c W m) := (pss_one h)
theorem st_if {a b : List Stmt} {m1 m2 : MS} (ht : PT X e (rdT c W mt)) (ha : PSs X a (rs c W m1)) (hb : PSs X b (rs c W m2)) : PS X (.If e a b pos) (rs c W (sIf mt m1 m2)) := by
  refine (ps_if ht ha hb).mono fun Dn σ H h => ?_
  obtain ⟨g0, B, g, r, w, E, k, x0, p⟩ := h
  refine ⟨B, g, r, w, E, k, bndS p E x0 fun g1 H1 v d w1 _ x1 k1 r1 E1 y1 p1 => ?_⟩
  subst r1
  cases v with
  | true => exact iteT ⟨g0, B, g1, r, w1, E1, k1, y1, p1⟩
  | false => exact iteF ⟨g0, B, g1, r, w1, E1, k1, y1, p1⟩
theorem st_for {tg iter : Expr} {body : List Stmt} {it : MI} {t : Tg} {mb : MS} (hp : PassesOwn (model X.prog X.w) X.A X.env X.xe) (hc : X.calm = true) (hi : PI X tg iter (rdI c W it)) (hg : PG X tg (rdG c t)) (hb : PSs X body (rs c W mb))
    (hs : ∀ x, foldedSetIterable iter X.env x = pure x) : PS X (.For tg iter body [] pos) (rs c W (sFor it t mb)) := by
  refine (ps_for hp hc hi hg hb hs).mono fun Dn σ H h => ?_
  obtain ⟨g0, B, g, r, w, E, k, x0, p⟩ := h
  refine ⟨B, g, r, w, E, k, ?_⟩
  unfold sFor at p
  cases hm : it r w with
  | bad => rw [hm] at p; exact p
  | exc j w' => rw [hm] at p; exact fun g1 H1 x1 k1 => p g1 H1 σ x1.toGle (x0.trans x1) (E.ext x1) k1
  | ok ds w1 =>
    rw [hm] at p
    have p : postS c W g0 B g Dn (forGo t mb ds r w1) := p
    intro g1 H1 J x1 k1 wd
    obtain ⟨Gd, Y, hw, hG, hY⟩ := wd.ex
    refine for_it hw (fun i σ2 H2 => i ≤ ds.length ∧ ∃ g2 r2 w2, Gle g1 g2 ∧ Ext g0 B g2 H2 ∧ EOk c B g2 H2 r2 σ2 ∧ WOk c g2 H2 w2 ∧ postS c W g0 B g2 Dn (forGo t mb (ds.drop i) r2 w2)) ?_ ?_ ?_ ?_
    · exact ⟨Nat.zero_le _, g1, r, w1, Gle.refl _, x0.trans x1, E.ext x1, k1, by rw [List.drop_zero]; exact p.up x1.toGle⟩
    · rintro i σ2 H2 _ ⟨_, g2, r2, w2, l2, x2, E2, k2, _⟩
      exact hG g2 H2 ⟨l2, k2.sub⟩
    · rintro i x σ2 H2 H3 hi ⟨_, g2, r2, w2, l2, x2, E2, k2, p2⟩ hy
      obtain ⟨g3, d, hd, x3, k3, r3⟩ := hY i g2 H2 w2 x H3 ⟨l2, k2.sub⟩ k2 hy hi
      have e4 : ds.drop i = d :: ds.drop (i + 1) := by
        rw [List.drop_eq_getElem_cons hi]
        congr 1
        rw [List.getElem?_eq_getElem hi] at hd
        exact Option.some.inj hd
      rw [e4] at p2
      have p3 := p2.up x3.toGle
      cases hbi : bindT t d r2 with
      | none => simp only [forGo, hbi] at p3; exact False.elim p3
      | some r3' =>
        simp only [forGo, hbi] at p3
        refine ⟨B, g3, r2, d, r3', E2.ext x3, k3.sub, r3, hbi, fun σ4 _ E4 => ⟨g0, B, g3, r3', w2, E4, k3, x2.trans x3, ?_⟩⟩
        revert p3
        cases mb r3' w2 with
        | next r5 w5 => exact fun p3 g5 H5 σ5 l5 x5 E5 k5 => ⟨hi, g5, r5, w5, (l2.trans x3.toGle).trans l5, x5, E5, k5, (show postS c W g0 B g3 Dn (forGo t mb (ds.drop (i + 1)) r5 w5) from p3).up l5⟩
        | ret d w5 => exact fun p3 => p3
        | exc j r5 w5 => exact fun p3 => p3
        | bad => exact fun p3 => p3
    · rintro σ2 H2 ⟨_, g2, r2, w2, l2, x2, E2, k2, p2⟩
      rw [List.drop_length] at p2
      exact p2 g2 H2 σ2 (Gle.refl _) x2 E2 k2
theorem st_wh {body : List Stmt} {μ : Rho → Nat} {mb : MS} (hp : PassesOwn (model X.prog X.w) X.A X.env X.xe) (ht : PT X e (rdT c W mt)) (hb : PSs X body (rs c W mb)) : PS X (.While e body [] pos) (rs c W (sWh μ mt mb)) := by
  refine (ps_while hp ht hb).mono fun Dn σ H h => ?_
  obtain ⟨g0, B, g, r, w, E, k, x0, p⟩ := h
  refine ⟨fun n σ2 H2 => ∃ g2 r2 w2, Ext g0 B g2 H2 ∧ EOk c B g2 H2 r2 σ2 ∧ WOk c g2 H2 w2 ∧ postS c W g0 B g2 Dn (whGo mt mb n r2 w2), ⟨μ r, g, r, w, x0, E, k, p⟩, ?_⟩
  rintro n σ2 H2 ⟨g2, r2, w2, x2, E2, k2, p2⟩
  cases n with
  | zero => exact False.elim p2
  | succ n =>
    refine ⟨B, g2, r2, w2, E2, k2, bndS p2 E2 x2 fun g3 H3 v d w3 _ x3 k3 r3 E3 y3 p3 => ?_⟩
    subst r3
    cases v with
    | false => exact iteF (p3 g3 H3 σ2 (Gle.refl _) y3 E3 k3)
    | true =>
      refine iteT ⟨fun σ4 H4 => ∃ g4 r4 w4, Ext g0 B g4 H4 ∧ EOk c B g4 H4 r4 σ4 ∧ WOk c g4 H4 w4 ∧ postS c W g0 B g4 Dn (whGo mt mb n r4 w4), fun σ4 H4 q => ⟨n, Nat.lt_succ_self n, q⟩, g0, B, g3, r2, w3, E3, k3, y3, ?_⟩
      simp only [if_true] at p3
      revert p3
      cases mb r2 w3 with
      | next r5 w5 => exact fun p3 g5 H5 σ5 l5 x5 E5 k5 => ⟨g5, r5, w5, x5, E5, k5, (show postS c W g0 B g3 Dn (whGo mt mb n r5 w5) from p3).up l5⟩
      | ret d w5 => exact fun p3 => p3
      | exc j r5 w5 => exact fun p3 => p3
      | bad => exact fun p3 => p3
theorem st_raise {k : Nat} (tk : Takes X W) (hc : X.calm = true) (he : PMk X e (fun _ H Q => Q (.ref (c.ec k)) none H)) : PS X (.Raise (some e) none pos) (rs c W (sRaise k)) := by
  refine (ps_raise hc tk he).mono fun Dn σ H h => ?_
  obtain ⟨g0, B, g, r, w, E, k, x0, p⟩ := h
  exact p g H σ (Gle.refl _) x0 E k
theorem st_aug {i : Nat} {x : Str} {op : Operator} {f : D → D → Option D} {rr : R2} {pos' : Pos} (hN : X.N.Nodup) (hi : X.N[i]? = some x) (hx : Loc X.env.scope x) (he : PE X e (rd c W me)) (ho : OpR X (inplaceOp op) rr) (hs : OpS c f rr)
    (hf : X.fn x = true ∨ X.env.scope.names.lookup x = some .local) : PS X (.AugAssign (.Name x pos') op e pos) (rs c W (sAug f i me)) := by
  refine (ps_aug hN hi hx he (ti := rr) (fun pins s σ H x y v u Q I r1 r2 h => ho pins s σ H x y v u Q I r1 r2 h) hf).mono fun Dn σ H h => ?_
  obtain ⟨g0, B, g, r, w, E, k, x0, p⟩ := h
  unfold sAug at p
  split at p
  · rename_i d ed
    obtain ⟨v, h1, h2⟩ := E.dat i d ed
    refine ⟨v, h1, B, g, r, w, E, k, bndS p E x0 fun g1 H1 y dy w1 _ x1 k1 r1 E1 y1 p1 => ?_⟩
    cases hz : f d dy with
    | none => rw [hz] at p1; exact False.elim p1
    | some z =>
      rw [hz] at p1
      exact hs g1 H1 w1 v y d dy z _ k1 (h2.mono x1.toGle) r1 hz fun g2 H2 u x2 k2 r2 => p1 g2 H2 _ x2.toGle (y1.trans x2) ((E1.ext x2).setD i r2) k2
  · exact False.elim p
/-- the list of one's own in slot i is written -/
theorem EOk.mut {B : Hp} {g : Gs} {H : Hp} {r : Rho} {σ : St} {ad : Nat → Addr} {i : Nat} {xs zs : List D} {ws : List V}
    (len : r.length = σ.length) (dat : ∀ (i : Nat) d, r[i]? = some (.dat d) → ∃ v, σ[i]? = some (some v) ∧ Rep c g v d)
    (h1 : ∀ (i : Nat) xs, r[i]? = some (.own xs) → σ[i]? = some (some (.ref (ad i))) ∧ g.F (ad i) = none ∧ ad i ∉ g.wadr ∧ B (ad i) = none ∧ ∃ vs, H (ad i) = some (.lst vs) ∧ RepL c g vs xs)
    (h2 : ∀ (i j : Nat) xs ys, r[i]? = some (.own xs) → r[j]? = some (.own ys) → ad i = ad j → i = j) (e : r[i]? = some (.own xs)) (q : RepL c g ws zs) :
    EOk c B g (upd H (ad i) (.lst ws)) (r.set i (.own zs)) σ := by
  have hi : i < r.length := (List.getElem?_eq_some_iff.mp e).1
  refine ⟨by simp [len], fun j d hj => ?_, ad, fun j ys hj => ?_, fun j k ys us hj hk => ?_⟩
  · rcases getElem?_set' hj with ⟨rfl, e2, hl⟩ | ⟨ne, e2⟩
    · cases e2
    · exact dat j d e2
  · rcases getElem?_set' hj with ⟨rfl, e2, hl⟩ | ⟨ne, e2⟩
    · cases e2
      obtain ⟨a1, a2, a3, a0, _⟩ := h1 i xs e
      exact ⟨a1, a2, a3, a0, ws, upd_same, q⟩
    · obtain ⟨a1, a2, a3, a0, vs, a4, a5⟩ := h1 j ys e2
      exact ⟨a1, a2, a3, a0, vs, by rw [upd_ne fun z => ne (h2 j i ys xs e2 e z).symm]; exact a4, a5⟩
  · have own' : ∀ (l : Nat) (vs : List D), (r.set i (.own zs))[l]? = some (Sl.own vs) → ∃ vs' : List D, r[l]? = some (Sl.own vs') := fun l vs hl => by
      rcases getElem?_set' hl with ⟨rfl, _, _⟩ | ⟨_, e2⟩
      · exact ⟨xs, e⟩
      · exact ⟨vs, e2⟩
    obtain ⟨_, q1⟩ := own' j ys hj
    obtain ⟨_, q2⟩ := own' k us hk
    exact h2 j k _ _ q1 q2
theorem Ext.mut {g0 g : Gs} {B H : Hp} {a : Addr} {o : HO} (x : Ext g0 B g H) (hB : B a = none) : Ext g0 B g (L2.upd H a o) := by
  refine ⟨x.toGle, fun b u e n => ?_, fun b e => ?_, x.frF, x.frW⟩
  · rw [upd_ne (ne_of_none e hB)]
    exact x.keep b u e n
  · by_cases q : b = a
    · rw [q]; exact hB
    · rw [upd_ne q] at e
      exact x.dom b e
theorem own_at {B : Hp} {g : Gs} {H : Hp} {r : Rho} {σ : St} {i : Nat} {xs : List D} (E : EOk c B g H r σ) (e : r[i]? = some (.own xs)) : ∃ a vs, σ[i]? = some (some (.ref a)) ∧ H a = some (.lst vs) ∧ RepL c g vs xs ∧ g.F a = none ∧ a ∉ g.wadr ∧ B a = none ∧
    ∀ zs ws, RepL c g ws zs → EOk c B g (upd H a (.lst ws)) (r.set i (.own zs)) σ := by
  obtain ⟨ad, h1, h2⟩ := E.own
  obtain ⟨a1, a2, a3, a0, vs, a4, a5⟩ := h1 i xs e
  exact ⟨ad i, vs, a1, a4, a5, a2, a3, a0, fun zs ws q => EOk.mut E.len E.dat h1 h2 e q⟩
theorem st_app {i : Nat} {x : Str} {apos cpos pos' : Pos} (hN : X.N[i]? = some x) (hv : Vis X.env.scope x) (hd : (x == ("__debug__" : Str)) = false) (hcd : (x == ("__classdict__" : Str)) = false) (he : PE X e (rd c W me)) (hl : (apos.endLine == cpos.line) = true) (hs : starEach [e] X.env = [(false, eval e X.env)]) :
    PS X (.Expr (.Call (.Attribute (.Name x pos') "append" apos) [e] [] cpos) pos) (rs c W (sMut i fApp me)) := by
  refine (ps_expr (pe_bm PySem.F.plainAttrs_list PySem.F.slot_list_append PySem.F.type_list_append mt_append (pe_var hN hv hd hcd) (pa_cons he pa_nil hs) rfl (by rw [hs]; rfl) hl hs rfl)).mono fun Dn σ H h => ?_
  obtain ⟨g0, B, g, r, w, E, k, x0, p⟩ := h
  unfold sMut at p
  split at p
  · rename_i xs ex
    obtain ⟨a, vs, b1, b2, b3, _⟩ := own_at E ex
    refine ⟨_, b1, .inl ⟨rfl, vs, SqL.of b2⟩, B, g, r, w, E, k, bndS p E x0 fun g1 H1 y dy w1 _ x1 k1 r1 E1 y1 p1 => ?_⟩
    obtain ⟨a', vs', c1, c2, c3, c4, c5, c6, c7⟩ := own_at E1 ex
    obtain rfl : a = a' := by
      rw [b1] at c1
      cases c1; rfl
    cases hz : fApp xs dy with
    | none => rw [hz] at p1; exact False.elim p1
    | some zs =>
      rw [hz] at p1
      unfold fApp at hz
      split at hz <;> cases hz
      rename_i hlen
      have hb : big < sizeLine := by decide
      exact ⟨a, vs', y, rfl, rfl, c2, by rw [c3.length]; omega, p1 g1 _ σ (Gle.refl _) (y1.mut c6) (c7 _ _ (c3.append (.cons r1 .nil))) (k1.write c5 c4)⟩
  · exact False.elim p
theorem set_self {σ : St} {i : Nat} {v : Option V} (h : σ[i]? = some v) : σ.set i v = σ := by
  apply List.ext_getElem?
  intro j
  by_cases e : i = j
  · subst e
    rw [List.getElem?_set_self (List.getElem?_eq_some_iff.mp h).1, h]
  · rw [List.getElem?_set_ne e]
theorem st_ext {i : Nat} {x : Str} {pos' : Pos} (hN : X.N.Nodup) (hi : X.N[i]? = some x) (hx : Loc X.env.scope x) (he : PE X e (rd c W me)) (hf : X.fn x = true ∨ X.env.scope.names.lookup x = some .local) :
    PS X (.AugAssign (.Name x pos') .Add e pos) (rs c W (sMut i fExt me)) := by
  refine (ps_aug hN hi hx he (ti := rExt2) (fun pins s σ H x y v u Q I r1 r2 h => iop_ext pins s σ H x y v u Q I r1 r2 h) hf).mono fun Dn σ H h => ?_
  obtain ⟨g0, B, g, r, w, E, k, x0, p⟩ := h
  unfold sMut at p
  split at p
  · rename_i xs ex
    obtain ⟨a, vs, b1, b2, b3, _⟩ := own_at E ex
    refine ⟨_, b1, B, g, r, w, E, k, bndS p E x0 fun g1 H1 y dy w1 _ x1 k1 r1 E1 y1 p1 => ?_⟩
    obtain ⟨a', vs', c1, c2, c3, c4, c5, c6, c7⟩ := own_at E1 ex
    obtain rfl : a = a' := by
      rw [b1] at c1
      cases c1; rfl
    cases hz : fExt xs dy with
    | none => rw [hz] at p1; exact False.elim p1
    | some zs =>
      rw [hz] at p1
      unfold fExt at hz
      split at hz
      · split at hz <;> cases hz
        rename_i hlen
        cases r1 with
        | lst hy ly =>
          refine ⟨a, _, vs', _, rfl, rfl, c2, k1.sub _ _ hy, by rw [c3.length, ly.length]; exact Nat.le_trans hlen big_le, ?_⟩
          dsimp only
          rw [set_self c1]
          exact p1 g1 _ σ (Gle.refl _) (y1.mut c6) (c7 _ _ (c3.append ly)) (k1.write c5 c4)
      · cases hz
  · exact False.elim p
theorem st_set {i : Nat} {x : Str} {ei : Expr} {mi : ME} {pos' spos : Pos} (hN : X.N[i]? = some x) (hv : Vis X.env.scope x) (hd : (x == ("__debug__" : Str)) = false) (hcd : (x == ("__classdict__" : Str)) = false) (hi : PE X ei (rd c W mi)) (he : PE X e (rd c W me))
    (ha : ∀ v, assign (.Subscript (.Name x pos') ei spos) X.env v = (do
      let ov ← holding [v] (eval (.Name x pos') X.env)
      let iv ← holding [v, ov] (eval ei X.env)
      standAt spos
      holding [v, ov, iv] (setItem ov iv v)
      release [v, ov, iv] [])) (hs : swapsWithSole [.Subscript (.Name x pos') ei spos] e pos.line X.env = pure false) (hw : swappedStores [.Subscript (.Name x pos') ei spos] e X.env = pure none) :
    PS X (.Assign [.Subscript (.Name x pos') ei spos] e pos) (rs c W (sSet i mi me)) := by
  refine (ps_asg he (pg_sub (pe_var hN hv hd hcd) hi set_list ha) hs hw rfl).mono fun Dn σ H h => ?_
  obtain ⟨g0, B, g, r, w, E, k, x0, p⟩ := h
  unfold sSet at p
  split at p
  · rename_i xs ex
    obtain ⟨a, vs, b1, b2, b3, _⟩ := own_at E ex
    refine ⟨B, g, r, w, E, k, bndS p E x0 fun g1 H1 y dy w1 _ x1 k1 r1 E1 y1 p1 => ⟨_, b1, B, g1, r, w1, E1, k1, bndS p1 E1 y1 fun g2 H2 j dj w2 _ x2 k2 r2 E2 y2 p2 => ?_⟩⟩
    obtain ⟨a', vs', c1, c2, c3, c4, c5, c6, c7⟩ := own_at E2 ex
    obtain rfl : a = a' := by
      rw [b1] at c1
      cases c1; rfl
    cases r2 with
    | int n =>
      cases hz : ixN xs.length n with
      | none => simp only [hz] at p2; exact False.elim p2
      | some l =>
        simp only [hz] at p2
        exact ⟨a, vs', n, l, rfl, rfl, c2, by rw [c3.length]; exact hz, p2 g2 _ σ (Gle.refl _) (y2.mut c6) (c7 _ _ (c3.set (r1.mono x2.toGle) l)) (k2.write c5 c4)⟩
    | _ => exact False.elim p2
  · exact False.elim p
/-- freezing is no step of the program's -/
theorem frz_rs {i : Nat} {m : MS} {Dn : Ends} {σ : St} {H : Hp} (h : rs c W (sFrz i m) Dn σ H) : rs c W m Dn σ H := by
  obtain ⟨g0, B, g, r, w, E, k, x0, p⟩ := h
  unfold sFrz frzR at p
  split at p
  · rename_i xs ex
    obtain ⟨a, vs, b1, b2, b3, b4, b5, b6, _⟩ := own_at E ex
    obtain ⟨x2, k2, L⟩ := freeze x0 k b6 b4 b5 b2
    refine ⟨g0, B, _, _, w, ?_, k2, x2, p.up L⟩
    have E2 : EOk c B (g.lay a (.lst vs)) H (r.set i .emp) (σ.set i none) := by
      have E' := E.drop i none
      refine ⟨E'.len, fun j d hj => ?_, ?_⟩
      · obtain ⟨v, q1, q2⟩ := E'.dat j d hj
        exact ⟨v, q1, q2.mono L⟩
      · obtain ⟨ad, h1, h2⟩ := E.own
        have ha : ad i = a := by
          have := (h1 i xs ex).1
          rw [b1] at this
          cases this; rfl
        refine ⟨ad, fun j ys hj => ?_, fun j l ys us hj hl => ?_⟩
        · rcases getElem?_set' hj with ⟨rfl, e2, _⟩ | ⟨ne, e2⟩
          · cases e2
          · obtain ⟨a1, a2, a3, a0, vs', a4, a5⟩ := h1 j ys e2
            refine ⟨by rw [List.getElem?_set_ne ne]; exact a1, ?_, a3, a0, vs', a4, a5.mono L⟩
            show upd g.F a _ (ad j) = none
            rw [upd_ne fun z => ne (h2 j i ys xs e2 ex (z.trans ha.symm)).symm]
            exact a2
        · rcases getElem?_set' hj with ⟨rfl, e2, _⟩ | ⟨ne, e2⟩
          · cases e2
          · rcases getElem?_set' hl with ⟨rfl, e3, _⟩ | ⟨ne', e3⟩
            · cases e3
            · exact h2 j l ys us e2 e3
    have E3 := E2.setD i (v := .ref a) (d := .lst xs) (.lst upd_same (b3.mono L))
    rw [List.set_set, List.set_set, set_self b1] at E3
    exact E3
  · exact ⟨g0, B, g, r, w, E, k, x0, p⟩
theorem st_frz {i : Nat} {m : MS} (h : PS X st (rs c W m)) : PS X st (rs c W (sFrz i m)) := h.mono fun _ _ _ q => frz_rs q
end

/-! ### a def -/
def startR (n : Nat) (ds : List D) : Rho := ds.map Sl.dat ++ List.replicate (n - ds.length) Sl.emp
def mFun (n : Nat) (m : MS) : MF := fun ds w => match m (startR n ds) w with
  | .next _ w => .ok .non w
  | .ret d w => .ok d w
  | .exc k _ w => .exc k w
  | .bad => .bad
theorem start_ok {c : Cn} {g : Gs} {H : Hp} {vs : List V} {ds : List D} (N : List Str) (h : RepL c g vs ds) : EOk c H g H (startR N.length ds) (L2.start N vs) := by
  have hl := h.length
  refine ⟨by simp [startR, L2.start, hl], fun i d e => ?_, fun _ => 0, fun i xs e => ?_, fun i j xs ys e => ?_⟩
  · unfold startR at e
    by_cases hi : i < ds.length
    · rw [List.getElem?_append_left (by simpa using hi), List.getElem?_map] at e
      cases q : ds[i]? with
      | none => rw [q] at e; cases e
      | some d' =>
        rw [q] at e
        cases e
        obtain ⟨v, h1, h2⟩ := h.getD q
        exact ⟨v, by unfold L2.start; rw [List.getElem?_append_left (by simpa [hl] using hi), List.getElem?_map, h1]; rfl, h2⟩
    · rw [List.getElem?_append_right (by simpa using hi), List.getElem?_replicate] at e
      split at e <;> cases e
  · unfold startR at e
    by_cases hi : i < ds.length
    · rw [List.getElem?_append_left (by simpa using hi), List.getElem?_map] at e
      cases q : ds[i]? with
      | none => rw [q] at e; cases e
      | some d' => rw [q] at e; cases e
    · rw [List.getElem?_append_right (by simpa using hi), List.getElem?_replicate] at e
      split at e <;> cases e
  · exfalso
    unfold startR at e
    by_cases hi : i < ds.length
    · rw [List.getElem?_append_left (by simpa using hi), List.getElem?_map] at e
      cases q : ds[i]? with
      | none => rw [q] at e; cases e
      | some d' => rw [q] at e; cases e
    · rw [List.getElem?_append_right (by simpa using hi), List.getElem?_replicate] at e
      split at e <;> cases e
/-- f' promises no more than f -/
def Ref (f f' : MF) : Prop := ∀ ds w, f' ds w = .bad ∨ f ds w = f' ds w
theorem spOf_ref {c : Cn} {n : Nat} {f f' : MF} (h : Ref f f') : ∀ vs H Q E, spOf c n f' vs H Q E → spOf c n f vs H Q E := by
  intro vs H Q E q
  obtain ⟨q1, g, ds, w, q2, q3, q4⟩ := q
  refine ⟨q1, g, ds, w, q2, q3, ?_⟩
  rcases h ds w with e | e
  · rw [e] at q4; exact False.elim q4
  · rw [e]; exact q4
section
variable {P : Program} {w : World} {K : PySem.W.Frag} {mg : Str → Option Value} {base : Heap}
/-- a def of the text, by the meaning of its body -/
theorem fun_ok {c : Cn} {x qual : Str} {st : Stmt} {f : Addr} {fd : FuncData} {N ps : List Str} {k : Nat} {m : MS} (F : Fun K x qual st f fd) (S : FnScope N ps (defScope st))
    (hb : ∀ (X : Cx) (W : WX), X.prog = P → X.w = w → X.K = K → X.mg = mg → X.base = base → X.N = N → X.env.scope = defScope st → X.calm = true → (∀ x, X.fn x = true) → Takes X W → PassesOwn (model X.prog X.w) X.A X.env X.xe → Room k X.A → X.stack = X.env :: X.outer → X.env.frame = some X.env.locals → PSs X (defBody st) (rs c W m)) :
    FnOk P w K mg base (L2.CX P w) (k + 1) f fd ps (spOf c ps.length (mFun N.length m)) := by
  refine F.okX S (fun vs H Q E h => h.1) fun cdv A outer s H vs Q E hr h => ?_
  obtain ⟨q1, g, ds, w', q2, q3, q4⟩ := h
  refine ⟨_, hb _ (fun cls d _ H => E cls d H) rfl rfl rfl rfl rfl rfl rfl rfl (fun _ => rfl) (takes_of rfl rfl rfl rfl) (passes_of rfl) hr rfl rfl, ?_⟩
  refine ⟨g, H, g, startR N.length ds, w', start_ok N q2, q3, Ext.refl _ _, ?_⟩
  unfold mFun at q4
  revert q4
  cases m (startR N.length ds) w' with
  | next r w2 => exact fun q4 g' H' σ' _ x _ k' => q4 g' H' .non x k' .non
  | ret d w2 => exact fun q4 g' H' v _ x k' r => q4 g' H' v x k' r
  | exc j r w2 => exact fun q4 g' H' σ' _ x _ k' => q4 g' H' x k'
  | bad => exact fun q4 => q4
end
end RL

/-! except X as e: the exception is kept as a value behind the clause -/
namespace RL
open PySem PySem.Spec PyProof.Rows L2
def exT (cls : Value) (d : Option Addr) (a : Addr) : HO := .ext fun h => ∃ oe vs, h.get? a = some oe ∧ Zc cls d oe ∧ oe.data = .fields vs
theorem inv_track {X : Cx} {pins : List (Addr × Obj)} {σ : L2.St} {H : Hp} {s : Shared} (I : Inv X pins σ H s) {a : Addr} {oe : Obj} {vs : Array Value} {cls : Value} {d : Option Addr} (h0 : ∀ b o, X.s_0.heap.get? b = some o → b ∉ X.ex → b ≠ a) (hn : H a = none)
    (np : ∀ p ∈ X.pn ++ pins, p.1 ≠ a) (nL : a ≠ X.env.locals) (ho : s.heap.get? a = some oe) (hz : Zc cls d oe) (hd : oe.data = .fields vs) : Inv X pins σ (upd H a (exT cls d a)) s := by
  have old : ∀ b u, H b = some u → b ≠ a := fun b u e z => by
    rw [z, hn] at e
    cases e
  have new : ObjOk X.prog X.w (upd H a (exT cls d a)) s.heap a (exT cls d a) := ⟨⟨oe, vs, ho, hz, hd⟩, ⟨oe, ho⟩, fun _ _ ⟨o, v, q, r⟩ k => ⟨o, v, k o q, r⟩⟩
  refine ⟨I.ok, I.os, I.bare, ⟨I.base.keep, I.base.slot, fun b o e n x => ?_, I.base.there, fun b xs e => ?_, fun b o u e => ?_, fun b ps e => ?_⟩, I.loc, I.cell, ?_, fun x c e => ?_, fun p hp => ?_, I.hok.laidN (fun _ _ q => q) hn new, I.len⟩
  · rw [upd_ne (h0 b o e x)]
    exact I.base.free b o e n x
  · have q := I.base.tups b xs e
    rw [upd_ne (old _ _ q)]
    exact q
  · have q := I.base.frzs b o u e
    rw [upd_ne (old _ _ q)]
    exact q
  · obtain ⟨more, q⟩ := I.base.tbls b ps e
    exact ⟨more, by rw [upd_ne (old _ _ q)]; exact q⟩
  · rw [upd_ne (Ne.symm nL)]
    exact I.free
  · rw [upd_ne fun z => ?_]
    · exact I.freeC x c e
    · obtain ⟨v, o, k1, k2⟩ := I.cell x c e
      rw [z, ho] at k1
      cases k1
      rw [hd] at k2
      cases k2
  · obtain ⟨q1, q2, q3⟩ := I.pin p hp
    exact ⟨q1, by rw [upd_ne (np p hp)]; exact q2, q3⟩
/-- the wish: the class is caught, the suite runs, the exception is there from then on -/
def wKeep (K : PySem.W.Frag) (n : Nat) (cv : Value) (i : Nat) (ts : Addr → TS) (Dn : Ends) : WX := fun cls d σ H =>
  PySem.W.exmOne K cls cv = some true ∧ ∀ a, σ.length = n → H a = none → ts a { nx := fun σ' H' => Dn.nx (σ'.set i none) (upd H' a (exT cls d a)), rt := fun _ _ => False } (σ.set i (some (.ref a))) H
theorem ps_try_keep {X : Cx} {x n : Str} {cv : Value} {i : Nat} {body suite : List Stmt} {b₀ : Stmt} {np pos pos' : Pos} {tb : WX → TS} {ts : Addr → TS} (hs : X.stack = X.env :: X.outer) (hf : X.env.frame = some X.env.locals) (hN : X.N.Nodup) (hi : X.N[i]? = some n) (hln : X.env.kindOf n = some .local) (hc : Names X x cv)
    (hb : ∀ (W : WX) (pn : List (Addr × Obj)) (xe : Value → Shared → Prop), Takes (X.tr pn xe) W → PassesOwn (model X.prog X.w) X.A X.env xe → PSs (X.tr pn xe) body (tb W))
    (hsu : ∀ (a : Addr) (pn : List (Addr × Obj)), PSs (X.suite a pn) (b₀ :: suite) (ts a)) :
    PS X (.Try body [.ExceptHandler (some (.Name x np)) (some n) (b₀ :: suite) pos'] [] [] pos) (fun Dn σ H => tb (wKeep X.K X.N.length cv i ts Dn) Dn σ H) := by
  refine ⟨fun pins s σ H Dn I h => wpAny_Try_except ?_⟩
  have ok := I.ok
  have framed : X.A.frames = some (X.env :: X.outer) := by rw [ok.frames, hs]
  let hand : Value → Sem Flow := fun e => handleBy e X.env [.ExceptHandler (some (.Name x np)) (some n) (b₀ :: suite) pos']
  let wish : Value → Shared → Prop := fun e s₁ => wpAny (model X.prog X.w) X.A (noteFrame e X.env) (fun _ s₂ => wpAny (model X.prog X.w) X.A (setFlight e none) (fun _ s₃ => wpAny (model X.prog X.w) X.A (hand e) (SP X pins Dn) X.xe s₃) X.xe s₂) X.xe s₁
  refine wpAny_mono ((hb (wKeep X.K X.N.length cv i ts Dn) (X.pn ++ pins) wish (fun u s' z => ?_) PassesOwn.looking).run [] s σ H Dn (I.toTry _) h) (fun f s1 e1 => ?_) (fun e s1 he => he)
  · obtain ⟨a, B, sI, pins', σ', H', cls, d, rfl, JT, nb, up, sky, na, os, ag, hyes, hgo⟩ := z
    have J : Inv X pins σ' H' sI := JT.ofTry ok
    have sky2 : Sky B (X.env :: X.outer) a (Zc cls d) X.env.locals s'.heap := hs ▸ sky
    show wpAny (model X.prog X.w) X.A (noteFrame (.ref a) X.env) _ _ _
    refine Sky.land Zc.steady framed hf sky2 fun hA fA upA => ?_
    have JA : Inv X pins σ' H' { s' with heap := hA } := J.landed nb fA.1 (up.trans upA) os ag
    obtain ⟨oA, vA, gA, zA, dA⟩ := fA.there
    have notIn : a ∉ frs (X.env :: X.outer) := fun hm => by
      obtain ⟨_, o', e', hnf⟩ := fA.2.2.1.mem hm
      rw [gA] at e'
      cases e'
      exact hnf _ dA
    have nL : a ≠ X.env.locals := fun z => notIn (List.mem_filterMap.mpr ⟨X.env, List.mem_cons_self, by rw [hf, z]⟩)
    have nF : a ∉ X.fs := fun hm => by
      obtain ⟨e, he, q⟩ := List.mem_filterMap.mp hm
      exact notIn (List.mem_filterMap.mpr ⟨e, List.mem_cons_of_mem _ he, q⟩)
    have fresh : sI.heap.get? a = none := by
      cases q : sI.heap.get? a with
      | none => rfl
      | some o =>
        have z := nb a o q (by rw [hs]; exact notIn)
        rw [fA.2.1] at z
        cases z
    have SA := JA.suite gA dA na nL nF
    refine wpAny_handleBy_cons (codeAny_handlers_test ?_) (by intro q; cases q)
    have LT : PySem.W.Looks (model X.prog X.w) hA (typeOf (.ref a)) cls := fun A Q E s k q => wpAny_typeOf_ref (k _ _ gA) (by rw [zA.1]; exact q)
    have LM := PySem.W.exm_one (M := model X.prog X.w) (JA.kIn) LT hyes
    have asks : ∀ {Q : Value → Shared → Prop} {E : Value → Shared → Prop}, Q cv { s' with heap := hA } → wpAny (model X.prog X.w) (X.A.mark (some (.ref a))) (eval (.Name x np) X.env) Q E { s' with heap := hA } := fun {Q E} q => by
      obtain ⟨hg, hdbg, hm | ⟨hm, hv, hnn⟩⟩ := hc
      · exact ld_glob (X := X.suite a ((a, oA) :: (X.pn ++ pins))) SA hg hm q hdbg
      · exact ld_blt (X := X.suite a ((a, oA) :: (X.pn ++ pins))) SA hg hm hv q hnn hdbg
    refine asks (LM.here (codeAny_handlers_suite_as ?_))
    refine HandSPX.lands_againZ fA fun hC fC upC => ?_
    have JC : Inv X pins σ' H' { s' with heap := hC } := J.landed nb fC.1 ((up.trans upA).trans upC) os ag
    obtain ⟨oC, vC, gC, zC, dC⟩ := fC.there
    have SC := JC.suite gC dC na nL nF
    refine store_ok (X := X.suite a ((a, oC) :: (X.pn ++ pins))) (v := .ref a) SC hN hi (.inl hln) rfl (fun s5 S5 => ?_) (.inr hln)
    refine wpAny_mono ((hsu a ((a, oC) :: (X.pn ++ pins))).run [] s5 _ H' _ S5 (hgo a J.len na)) (fun f s6 e6 => ?_) (fun _ _ z => False.elim z)
    cases f with
    | next =>
      obtain ⟨σ6, H6, S6, q6⟩ := e6
      obtain ⟨p1, p2, p3, p4, p5⟩ := S6.pin (a, oC) (List.mem_append_left _ List.mem_cons_self)
      have J6 : Inv X pins σ6 H6 s6 := S6.unsuite ok
      have T6 := inv_track (cls := cls) (d := d) J6 (a := a) (fun b o e x z => by
        obtain ⟨o', e'⟩ := J.base.there b o e x
        rw [z, fresh] at e'
        cases e') p2 (fun p hp z => by
        have e' := (J.pin p hp).1
        rw [z, fresh] at e'
        cases e') p3 p1 zC dC
      exact gone_ok T6 hN hi hln fun s7 J7 => ⟨_, _, J7, q6⟩
    | brk =>
      obtain ⟨_, _, _, q6⟩ := e6
      exact False.elim q6
    | cont =>
      obtain ⟨_, _, _, q6⟩ := e6
      exact False.elim q6
    | ret u =>
      obtain ⟨_, _, _, _, _, q6⟩ := e6
      exact False.elim q6
  · cases f with
    | next =>
      obtain ⟨σ', H', J', q⟩ := e1
      exact wpAny_execs_nil ⟨σ', H', J'.ofTry ok, q⟩
    | brk =>
      obtain ⟨σ', H', J', q⟩ := e1
      exact ⟨σ', H', J'.ofTry ok, q⟩
    | cont =>
      obtain ⟨σ', H', J', q⟩ := e1
      exact ⟨σ', H', J'.ofTry ok, q⟩
    | ret u =>
      obtain ⟨v, σ', H', J', r, q⟩ := e1
      exact ⟨v, σ', H', J'.ofTry ok, r, q⟩
end RL

namespace RL
open PySem L2
/-- xs[a], xs[b] = e of one's own -/
def sSet2 (i : Nat) (ma mb me : ME) : MS := fun r w => match r[i]? with
  | some (.own xs) => (me r w).toS r fun y w => (match y with
    | .tup [u, v] => (ma r w).toS r fun j w => (match j with
      | .int n => (match ixN xs.length n with
        | some l => (mb (r.set i (.own (xs.set l u))) w).toS (r.set i (.own (xs.set l u))) fun j w => (match j with
          | .int n => (match ixN xs.length n with
            | some m => .next ((r.set i (.own (xs.set l u))).set i (.own ((xs.set l u).set m v))) w
            | none => .bad)
          | _ => .bad)
        | none => .bad)
      | _ => .bad)
    | _ => .bad)
  | _ => .bad
section
variable {c : Cn} {X : Cx} {W : WX} {e : Expr} {me : ME} {pos : Pos}
theorem st_set2 {i : Nat} {x : Str} {ea eb : Expr} {ma mb : ME} {p1 p2 s1 s2 tp : Pos} {kt : Nat} (hc : X.calm = true) (hN : X.N[i]? = some x) (hv : Vis X.env.scope x) (hd : (x == ("__debug__" : Str)) = false) (hcd : (x == ("__classdict__" : Str)) = false) (h1 : PE X ea (rd c W ma)) (h2 : PE X eb (rd c W mb)) (he : PE X e (rd c W me))
    (ha : ∀ v, assign (.Subscript (.Name x p1) ea s1) X.env v = (do
      let ov ← holding [v] (eval (.Name x p1) X.env)
      let iv ← holding [v, ov] (eval ea X.env)
      standAt s1
      holding [v, ov, iv] (setItem ov iv v)
      release [v, ov, iv] []))
    (hb : ∀ v, assign (.Subscript (.Name x p2) eb s2) X.env v = (do
      let ov ← holding [v] (eval (.Name x p2) X.env)
      let iv ← holding [v, ov] (eval eb X.env)
      standAt s2
      holding [v, ov, iv] (setItem ov iv v)
      release [v, ov, iv] []))
    (hs : swapsWithSole [.Tuple [.Subscript (.Name x p1) ea s1, .Subscript (.Name x p2) eb s2] kt tp] e pos.line X.env = pure false) (hw : swappedStores [.Tuple [.Subscript (.Name x p1) ea s1, .Subscript (.Name x p2) eb s2] kt tp] e X.env = pure none) :
    PS X (.Assign [.Tuple [.Subscript (.Name x p1) ea s1, .Subscript (.Name x p2) eb s2] kt tp] e pos) (rs c W (sSet2 i ma mb me)) := by
  refine (ps_asg he (pg_tup hc (pgs_cons (pg_sub (pe_var hN hv hd hcd) h1 set_list ha) (pgs_cons (pg_sub (pe_var hN hv hd hcd) h2 set_list hb) pgs_nil))) hs hw rfl).mono fun Dn σ H h => ?_
  obtain ⟨g0, B, g, r, w, E, k, x0, p⟩ := h
  unfold sSet2 at p
  split at p
  · rename_i xs ex
    refine ⟨B, g, r, w, E, k, bndS p E x0 fun g1 H1 y dy w1 _ x1 k1 r1 E1 y1 p1 => ?_⟩
    split at p1
    · rename_i u v
      cases r1 with
      | tup ht lt =>
        cases lt with
        | cons ru lt =>
          cases lt with
          | cons rv lt =>
            cases lt
            refine ⟨_, _, rfl, SqT.of (k1.sub _ _ ht), rfl, _, _, rfl, ?_⟩
            obtain ⟨a, vs, b1, b2, b3, _⟩ := own_at E1 ex
            refine ⟨_, b1, B, g1, r, w1, E1, k1, bndS p1 E1 y1 fun g2 H2 j dj w2 _ x2 k2 r2 E2 y2 p2 => ?_⟩
            obtain ⟨a', vs', c1, c2, c3, c4, c5, c6, c7⟩ := own_at E2 ex
            obtain rfl : a = a' := by
              rw [b1] at c1
              cases c1; rfl
            cases r2 with
            | int n =>
              cases hz : ixN xs.length n with
              | none => simp only [hz] at p2; exact False.elim p2
              | some l =>
                simp only [hz] at p2
                refine ⟨a, vs', n, l, rfl, rfl, c2, by rw [c3.length]; exact hz, ?_⟩
                have E3 := c7 _ _ (c3.set (ru.mono x2.toGle) l)
                have y3 : ∀ ws, Ext g0 B g2 (upd H2 a (.lst ws)) := fun ws => y2.mut c6
                have k3 : ∀ ws, WOk c g2 (upd H2 a (.lst ws)) w2 := fun ws => k2.write c5 c4
                have hi : i < r.length := (List.getElem?_eq_some_iff.1 ex).1
                have ex3 : ∀ z, (List.set r i (Sl.own z))[i]? = some (Sl.own z) := fun z => by rw [List.getElem?_set_self hi]
                refine ⟨_, _, rfl, ?_⟩
                obtain ⟨a3, vs3, d1, d2, d3, _⟩ := own_at E3 (ex3 _)
                refine ⟨_, d1, B, g2, _, w2, E3, k3 _, bndS p2 E3 (y3 _) fun g4 H4 j4 dj4 w4 _ x4 k4 r4 E4 y4 p4 => ?_⟩
                obtain ⟨a4, vs4, f1, f2, f3, f4, f5, f6, f7⟩ := own_at E4 (ex3 _)
                obtain rfl : a3 = a4 := by
                  rw [d1] at f1
                  cases f1; rfl
                cases r4 with
                | int n4 =>
                  cases hz4 : ixN xs.length n4 with
                  | none => simp only [hz4] at p4; exact False.elim p4
                  | some m =>
                    simp only [hz4] at p4
                    exact ⟨a3, vs4, n4, m, rfl, rfl, f2, by rw [f3.length, List.length_set]; exact hz4, rfl, p4 g4 _ σ (Gle.refl _) (y4.mut f6) (f7 _ _ (f3.set ((rv.mono x2.toGle).mono x4.toGle) m)) (k4.write f5 f4)⟩
                | _ => exact False.elim p4
            | _ => exact False.elim p2
    · exact False.elim p1
  · exact False.elim p
end
end RL

namespace RL
open PySem L2

/-! ### expressions as data -/
mutual
inductive E where
  | var (i : Nat) | cst (d : D) | gl (j : Nat) | bin (o : Bop) (a b : E) | chn (o o' : Bop) (a b d : E) | neg (a : E) | not (a : E) | and (a b : E) | or (a b : E) | ite (t a b : E)
  | tup (es : Es) | lm (l : L) | ix (a b : E) | oix (i : Nat) (b : E) | sl (a : E) (lo hi : Oe) | rev (a : E) | call (f : Nat) (es : Es) | pri (p : Nat) (es : Es) | bmt (p : Nat) (o : E) (es : Es) | isi (a : E) (t : String)
  | ocmp (o : Bop) (i : Nat) (b : E) | isx (a : E) (j : Nat) | callO (f : Nat) (fst : Bool) (i : Nat) (b : E) | pr2 (k : Nat) (a : E) | hk (k : Nat) (es : Es)
inductive Es where
  | nil | cons (e : E) (es : Es)
inductive Oe where
  | no | so (e : E)
inductive L where
  | disp (es : Es) | of (es : Es) | lrg (a : E) | comp (elt : E) (t : Tg) (vs : List Nat) (it : I) (cond : Oe)
inductive I where
  | seq (e : E) | rng (es : Es) | enm (es : Es) | zip (es : Es) | own (i : Nat) | ownE (i : Nat) | txt (e : E)
end
/-- where a name is looked up: the slots, the scope, which cells were made here -/
structure Ck where
  N : List Str
  sc : Scope
  fn : Str → Bool
/-- a further form of expression: its parts, its meaning by the parts' values -/
structure Hk where
  pat : Ck → Expr → Option (List Expr)
  sem : List ME → ME
/-- the defs, built-ins, methods, constants and errors that a text names -/
structure Tab where
  fns : List (Str × Nat × MF)
  pri : List (Str × (List D → Option D))
  bmt : List (Str × (D → List D → Option D))
  cs : List (Str × D)
  exs : List Str
  trs : List (Str × List Nat)
  cls : List (Str × (Nat → Option Bool))
  pr2 : List (Str × Str × (D → Option D))
  hks : List Hk
/-- isinstance of an exception that is held -/
def dIsx (f : Nat → Option Bool) : D → Option D
  | .exc k => (f k).map .bl
  | _ => none
def noP2 : Str × Str × (D → Option D) := (Str.empty, Str.empty, fun _ => none)
def noH : Hk := ⟨fun _ _ => none, fun _ _ _ => .bad⟩
def noC : Str × (Nat → Option Bool) := (Str.empty, fun _ => none)
/-- list(range(n)) -/
def dLrg : D → Option (List D)
  | .int n => if decide (0 ≤ n) && decide (n ≤ big) then some (iota 0 n.toNat) else none
  | _ => none
def mLrg (m : ME) : MA := fun r w => (m r w).bind fun x w => lift (dLrg x) w
def noF : Str × Nat × MF := (Str.empty, 0, fun _ _ => .bad)
def tyName : D → Option String
  | .non => some "NoneType"
  | .bl _ => some "bool"
  | .int _ => some "int"
  | .str _ => some "str"
  | .lst _ => some "list"
  | .tup _ => some "tuple"
  | _ => none
def dIsi (t : String) (d : D) : Option D := (tyName d).map fun s => .bl (s == t || (s == "bool" && t == "int"))
def tyOk : String → Bool
  | "int" => true
  | "bool" => true
  | "str" => true
  | "list" => true
  | "tuple" => true
  | _ => false
def mOix (i : Nat) (m : ME) : ME := fun r w => match r[i]? with
  | some (.own xs) => (m r w).bind fun y w => lift (dIx (.lst xs) y) w
  | _ => .bad
def mOcmp (f : D → D → Option D) (i : Nat) (m : ME) : ME := fun r w => match r[i]? with
  | some (.own xs) => (m r w).bind fun y w => lift (f (.lst xs) y) w
  | _ => .bad
mutual
def sizeD : D → Nat
  | .lst xs => sizeL xs + 1
  | .tup xs => sizeL xs + 1
  | _ => 1
def sizeL : List D → Nat
  | [] => 0
  | x :: xs => sizeD x + sizeL xs
end
/-- a call with the list of one's own as an argument: it is lent, the answer is too small to hold it -/
def mCallO (f : MF) (fst : Bool) (i : Nat) (m : ME) : ME := fun r w => match r[i]? with
  | some (.own xs) => (m r w).bind fun d w => (f (if fst then [.lst xs, d] else [d, .lst xs]) w).nx.bind fun y w => if decide (sizeD y < sizeD (.lst xs)) && w.tb.isEmpty then .ok y w else .bad
  | _ => .bad
def mBmt (f : D → List D → Option D) (a : ME) (b : MA) : ME := fun r w => (a r w).bind fun x w => (b r w).nx.bind fun xs w => lift (f x xs) w
mutual
def ev (T : Tab) : E → ME
  | .var i => mVar i
  | .cst d => mCst d
  | .gl j => mCst (T.cs.getD j (Str.empty, .non)).2
  | .bin o a b => mBin (bop o) (ev T a) (ev T b)
  | .chn o o' a b d => mChn (bop o) (bop o') (ev T a) (ev T b) (ev T d)
  | .neg a => mUn dNeg (ev T a)
  | .not a => mUn dNot (ev T a)
  | .and a b => mAnd (ev T a) (ev T b)
  | .or a b => mOr (ev T a) (ev T b)
  | .ite t a b => mIf (ev T t) (ev T a) (ev T b)
  | .tup es => mSeq .tup (evs T es)
  | .lm l => mLst (evl T l)
  | .ix a b => mBin dIx (ev T a) (ev T b)
  | .oix i b => mOix i (ev T b)
  | .sl a lo hi => mSl (ev T a) (evo T lo) (evo T hi)
  | .rev a => mUn dRev (ev T a)
  | .call f es => mCall (T.fns.getD f noF).2.2 (evs T es)
  | .pri p es => mPri (T.pri.getD p (Str.empty, fun _ => none)).2 (evs T es)
  | .bmt p o es => mBmt (T.bmt.getD p (Str.empty, fun _ _ => none)).2 (ev T o) (evs T es)
  | .isi a t => mUn (dIsi t) (ev T a)
  | .ocmp o i b => mOcmp (bop o) i (ev T b)
  | .isx a j => mUn (dIsx (T.cls.getD j noC).2) (ev T a)
  | .callO f fst i b => mCallO (T.fns.getD f noF).2.2 fst i (ev T b)
  | .pr2 k a => mUn (T.pr2.getD k noP2).2.2 (ev T a)
  | .hk k es => (T.hks.getD k noH).sem (evm T es)
def evs (T : Tab) : Es → MA
  | .nil => mNil
  | .cons e es => mCons (ev T e) (evs T es)
def evm (T : Tab) : Es → List ME
  | .nil => []
  | .cons e es => ev T e :: evm T es
def evo (T : Tab) : Oe → Rho → Wd → Res (Option Int)
  | .no => mNo
  | .so e => mPt (ev T e)
def evc (T : Tab) : Oe → ME
  | .no => mCst (.bl true)
  | .so e => ev T e
def evl (T : Tab) : L → MA
  | .disp es => mLen (evs T es)
  | .of es => mOf (evs T es)
  | .lrg a => mLrg (ev T a)
  | .comp elt t vs it cond => mComp (evi T it) t vs (evc T cond) (ev T elt)
def evi (T : Tab) : I → MI
  | .seq e => mISeq (ev T e)
  | .rng es => mIBi dRng (evs T es)
  | .enm es => mIBi dEnum (evs T es)
  | .zip es => mIBi dZip (evs T es)
  | .own i => mIOwn i
  | .ownE i => mIOwnE i
  | .txt e => mITxt (ev T e)
end
def lenEs : Es → Nat
  | .nil => 0
  | .cons _ es => lenEs es + 1
theorem evs_len (T : Tab) : ∀ (es : Es) (r : Rho) (w w' : Wd) (ds : List D), evs T es r w = .ok ds w' → ds.length = lenEs es
  | .nil, r, w, w', ds, h => by
    simp only [evs, mNil] at h
    cases h; rfl
  | .cons e es, r, w, w', ds, h => by
    simp only [evs, mCons] at h
    cases h1 : ev T e r w with
    | bad => rw [h1] at h; cases h
    | exc k w1 => rw [h1] at h; cases h
    | ok d w1 =>
      rw [h1] at h
      simp only [Res.bind] at h
      cases h2 : evs T es r w1 with
      | bad => rw [h2] at h; cases h
      | exc k w2 => rw [h2] at h; cases h
      | ok ds' w2 =>
        rw [h2] at h
        cases h
        have q := evs_len T es r w1 _ ds' h2
        simp only [List.length_cons, lenEs, q]

/-! ### the text and the data -/
def visB (sc : Scope) (x : Str) : Bool := match sc.names.lookup x with
  | some .local => true
  | some .cell => true
  | some .free => true
  | _ => false
def glB (sc : Scope) (x : Str) : Bool := match sc.names.lookup x with
  | some .globalImplicit => true
  | _ => false
def plainN (x : Str) : Bool := !(x == ("__debug__" : Str)) && !(x == ("__classdict__" : Str)) && !(x == ("__name__" : Str))
def slotB (κ : Ck) (i : Nat) (x : Str) : Bool := decide (κ.N[i]? = some x) && visB κ.sc x && plainN x
def storB (κ : Ck) (i : Nat) (x : Str) : Bool := decide (κ.N[i]? = some x) && plainN x && (match κ.sc.names.lookup x with
  | some .local => true
  | some .cell => κ.fn x
  | _ => false)
def isSlice : Expr → Bool
  | .Slice .. => true
  | _ => false
def isSet : Expr → Bool
  | .Set .. => true
  | _ => false
def isStar : Expr → Bool
  | .Starred .. => true
  | _ => false
def isIfE : Expr → Bool
  | .IfExp .. => true
  | _ => false
/-- f() -/
def isC0 : Expr → Bool
  | .Call (.Name _ _) [] [] _ => true
  | _ => false
def ownOf (N : List Str) (vs : List Nat) : List (Str × Nat) := vs.filterMap fun i => (N[i]?).map fun x => (x, i)
mutual
def chkT (κ : Ck) : Tg → Expr → Bool
  | .nm i, .Name x _ => storB κ i x
  | .tp ts, .Tuple xs _ _ => chkTs κ ts xs
  | _, _ => false
def chkTs (κ : Ck) : Tgs → List Expr → Bool
  | .nil, [] => true
  | .cons t ts, x :: xs => !isStar x && chkT κ t x && chkTs κ ts xs
  | _, _ => false
end
mutual
def chkE (T : Tab) (κ : Ck) : E → Expr → Bool
  | .var i, .Name x _ => slotB κ i x
  | .cst (.int i), .Constant (.int j) _ _ => decide (i = j)
  | .cst (.bl b), .Constant (.bool b') _ _ => decide (b = b')
  | .cst .non, .Constant .none _ _ => true
  | .cst (.str z), .Constant (.str z') _ _ => decide (z = z')
  | .gl j, .Name x _ => (match T.cs[j]? with | some p => decide (p.1 = x) | none => false) && glB κ.sc x && plainN x
  | .bin o a b, .BinOp x op y _ => decide (opOf op = some o) && chkE T κ a x && chkE T κ b y
  | .bin o a b, .Compare x [op] [y] _ => decide (cmpOf op = some o) && chkE T κ a x && chkE T κ b y && !isSet y
  | .chn o o' a b d, .Compare x [op, op'] [y, z] _ => decide (cmpOf op = some o) && decide (cmpOf op' = some o') && chkE T κ a x && chkE T κ b y && chkE T κ d z && !isSet z
  | .neg a, .UnaryOp .USub x _ => chkE T κ a x
  | .not a, .UnaryOp .Not x _ => chkE T κ a x && !isIfE x
  | .and a b, .BoolOp .And [x, y] _ => chkE T κ a x && chkE T κ b y && !isIfE x && !isIfE y
  | .and a b, .BoolOp .And (x :: y :: z :: r) pos => chkE T κ a x && chkE T κ b (.BoolOp .And (y :: z :: r) pos) && !isIfE x
  | .or a b, .BoolOp .Or [x, y] _ => chkE T κ a x && chkE T κ b y && !isIfE x && !isIfE y
  | .or a b, .BoolOp .Or (x :: y :: z :: r) pos => chkE T κ a x && chkE T κ b (.BoolOp .Or (y :: z :: r) pos) && !isIfE x
  | .ite t a b, .IfExp x y z _ => chkE T κ t x && chkE T κ a y && chkE T κ b z && !isIfE x
  | .tup es, .Tuple xs _ _ => chkEs T κ es xs
  | .lm l, x => chkL T κ l x
  | .ix a b, .Subscript x y _ => chkE T κ a x && chkE T κ b y && !isSlice y
  | .oix i b, .Subscript (.Name x _) y _ => slotB κ i x && chkE T κ b y && !isSlice y
  | .sl a lo hi, .Subscript x (.Slice l h none _) _ => chkE T κ a x && chkO T κ lo l && chkO T κ hi h
  | .rev a, .Subscript x (.Slice none none (some (.UnaryOp .USub (.Constant (.int 1) _ _) _)) _) _ => chkE T κ a x
  | .call f es, .Call (.Name x _) (y :: ys) [] _ => (match T.fns[f]? with | some p => decide (p.1 = x) && decide (p.2.1 = lenEs es) | none => false) && glB κ.sc x && plainN x && chkEs T κ es (y :: ys)
  | .pri p es, .Call (.Name x _) (y :: ys) [] _ => (match T.pri[p]? with | some q => decide (q.1 = x) | none => false) && glB κ.sc x && plainN x && chkEs T κ es (y :: ys)
  | .bmt p o es, .Call (.Attribute z x apos) (y :: ys) [] cpos => (match T.bmt[p]? with | some q => decide (q.1 = x) | none => false) && chkE T κ o z && chkEs T κ es (y :: ys) && (apos.endLine == cpos.line) && decide (lenEs es < 30) && !isC0 z
  | .isi a t, .Call (.Name x _) [y, .Name z _] [] _ => decide (x = "isinstance") && decide (z = Str.ofString t) && tyOk t && glB κ.sc x && glB κ.sc z && chkE T κ a y
  | .isx a j, .Call (.Name x _) [y, .Name z _] [] _ => decide (x = "isinstance") && (match T.cls[j]? with | some p => decide (p.1 = z) | none => false) && glB κ.sc x && glB κ.sc z && plainN z && chkE T κ a y
  | .pr2 k a, .Call (.Name x _) [.Call (.Name y _) [z] [] _] [] _ => (match T.pr2[k]? with | some p => decide (p.1 = x) && decide (p.2.1 = y) | none => false) && glB κ.sc x && glB κ.sc y && plainN x && plainN y && chkE T κ a z
  | .ocmp o i b, .Compare (.Name x _) [op] [y] _ => decide (cmpOf op = some o) && (decide (o = .eq) || decide (o = .ne)) && slotB κ i x && chkE T κ b y && !isSet y
  | .callO f fst i b, .Call (.Name x _) [y, z] [] _ => (match T.fns[f]? with | some p => decide (p.1 = x) && decide (p.2.1 = 2) | none => false) && glB κ.sc x && plainN x && !isStar y && !isStar z && (match fst, y, z with
    | true, .Name n _, z => slotB κ i n && chkE T κ b z
    | false, y, .Name n _ => slotB κ i n && chkE T κ b y
    | _, _, _ => false)
  | .hk k es, x => !isStar x && (match T.hks[k]? with
    | some p => (match p.pat κ x with
      | some xs => chkEs T κ es xs
      | none => false)
    | none => false)
  | _, _ => false
def chkEs (T : Tab) (κ : Ck) : Es → List Expr → Bool
  | .nil, [] => true
  | .cons e es, x :: xs => !isStar x && chkE T κ e x && chkEs T κ es xs
  | _, _ => false
def chkO (T : Tab) (κ : Ck) : Oe → Option Expr → Bool
  | .no, none => true
  | .so e, some x => chkE T κ e x
  | _, _ => false
def chkC (T : Tab) (κ : Ck) : Oe → List Expr → Bool
  | .no, [] => true
  | .so e, [x] => chkE T κ e x && !isIfE x
  | _, _ => false
def chkL (T : Tab) (κ : Ck) : L → Expr → Bool
  | .disp es, .List xs _ => chkEs T κ es xs
  | .of es, .Call (.Name x _) (y :: ys) [] _ => decide (x = "list") && glB κ.sc x && chkEs T κ es (y :: ys)
  | .lrg a, .Call (.Name x _) [.Call (.Name y _) [z] [] _] [] _ => decide (x = "list") && decide (y = "range") && glB κ.sc x && glB κ.sc y && chkE T κ a z
  | .comp elt t vs it cond, .ListComp y [⟨tg, iter, ifs, 0⟩] scope _ =>
    blkC κ.N κ.sc scope (ownOf κ.N vs) && decide ((ownOf κ.N vs).map (·.2) = vs) && (slotsT t).all (fun i => vs.contains i) && chkI T κ it iter tg && !isSet iter &&
      chkT ⟨κ.N, relS scope κ.sc, fun x => scope.names.lookup x == some .cell⟩ t tg && chkC T ⟨κ.N, relS scope κ.sc, fun x => scope.names.lookup x == some .cell⟩ cond ifs && chkE T ⟨κ.N, relS scope κ.sc, fun x => scope.names.lookup x == some .cell⟩ elt y
  | _, _ => false
def chkI (T : Tab) (κ : Ck) : I → Expr → Expr → Bool
  | .seq e, x, _ => chkE T κ e x
  | .txt e, x, _ => chkE T κ e x
  | .rng es, .Call (.Name x _) [y] [] _, _ => decide (x = "range") && glB κ.sc x && chkEs T κ es [y]
  | .rng es, .Call (.Name x _) [y, z] [] _, _ => decide (x = "range") && glB κ.sc x && chkEs T κ es [y, z]
  | .enm es, .Call (.Name x _) [y] [] _, .Tuple _ _ _ => decide (x = "enumerate") && glB κ.sc x && chkEs T κ es [y]
  | .zip es, .Call (.Name x _) [y, z] [] _, .Tuple _ _ _ => decide (x = "zip") && glB κ.sc x && chkEs T κ es [y, z]
  | .own i, .Name x _, _ => slotB κ i x
  | .ownE i, .Call (.Name x _) [.Name y _] [] _, .Tuple _ _ _ => decide (x = "enumerate") && glB κ.sc x && slotB κ i y
  | _, _, _ => false
end
end RL

namespace RL
open PySem L2
/-! isinstance of an exception that is held -/
def rIsX (K : PySem.W.Frag) : List V → Hp → VK → Prop := fun xs H Q => ∃ (a C : Addr) (v : V) (cv : Value) (b : Bool), xs = [.ref a, v] ∧ H a = some (.ext (excP a C)) ∧ ExcC K C ∧ (∀ u, RelV v u → u = cv) ∧ PySem.W.kitOne K (.ref C) cv = some b ∧ Q (.bl b) H
theorem call_isX {X : Cx} : CallR X (.builtin "isinstance") (rIsX X.K) := by
  intro pins s σ H xs us Q I r h
  obtain ⟨a, C, v, cv, b, rfl, ha, E, hv, e, q⟩ := h
  cases r with
  | cons r1 r2 =>
    cases r2 with
    | cons r3 r4 =>
      cases r4
      cases r1
      have hc := hv _ r3
      subst hc
      obtain ⟨⟨oe, vs, hget, hz, hd⟩, _⟩ := I.hok a _ ha
      have J : PySem.W.InstAt s.heap a oe C none := by
        obtain ⟨o1, o2, o3, o4⟩ := oe
        obtain ⟨z1, z2⟩ := hz
        dsimp only at z1 z2 hd
        subst z1 z2 hd
        exact ⟨hget, rfl, rfl, trivial⟩
      exact PySem.W.kia_one (PySem.W.handS_kitx_exc E.hg E.hk E.hs E.hd E.ha E.hn E.ht E.hm) I.kIn J e (fun z => nomatch z) fun tk => ⟨.bl b, H, I.kept (t' := tk) fun _ _ z => z, rfl, q⟩
/-- the name of a class and its value -/
def ClsAt (mg : Str → Option Value) (x : Str) (v : V) (cv : Value) : Prop := RelV v cv ∧ (∀ u, RelV v u → u = cv) ∧ (mg x = some cv ∨ (mg x = none ∧ bootBuiltins x = some cv ∧ x ≠ "__name__"))
end RL

namespace RL
open PySem L2

/-! ### what the booleans say -/
theorem visB_ok {sc : Scope} {x : Str} (h : visB sc x = true) : Vis sc x := by
  unfold visB at h
  split at h
  · exact .inl (by assumption)
  · exact .inr (.inl (by assumption))
  · exact .inr (.inr (by assumption))
  · cases h
theorem glB_ok {sc : Scope} {x : Str} (h : glB sc x = true) : sc.names.lookup x = some .globalImplicit := by
  unfold glB at h
  split at h
  · assumption
  · cases h
theorem plainN_ok {x : Str} (h : plainN x = true) : (x == ("__debug__" : Str)) = false ∧ (x == ("__classdict__" : Str)) = false ∧ x ≠ "__name__" := by
  unfold plainN at h
  simp only [Bool.and_eq_true, Bool.not_eq_true'] at h
  exact ⟨h.1.1, h.1.2, fun q => by rw [q] at h; simp at h⟩
theorem star_cons {x : Expr} {xs : List Expr} {env : PySem.Env} (h : isStar x = false) : starEach (x :: xs) env = (false, eval x env) :: starEach xs env := by
  cases x <;> first | rfl | cases h
theorem asg_cons {x : Expr} {xs : List Expr} {env : PySem.Env} (h : isStar x = false) : assignEach (x :: xs) env = (false, assign x env) :: assignEach xs env := by
  cases x <;> first | rfl | cases h
theorem plain_ix {x : Expr} (h : isSlice x = false) : PlainIx x := by
  intro o i
  cases x <;> first | rfl | cases h
theorem set_marks {x : Expr} {op : CmpOp} (h : isSet x = false) : behindInMarks op x = false := by
  cases x <;> first | rfl | cases h
theorem set_fold {x : Expr} {env : PySem.Env} (h : isSet x = false) : ∀ v, foldedSetIterable x env v = pure v := by
  intro v
  cases x <;> first | rfl | cases h

/-- all contexts of one run: the program, what it has left, room for k calls -/
structure BOk (P : Program) (w : World) (K : PySem.W.Frag) (mg : Str → Option Value) (base : Heap) (k : Nat) (X : Cx) : Prop where
  prog : X.prog = P
  w : X.w = w
  K : X.K = K
  mg : X.mg = mg
  base : X.base = base
  calm : X.calm = true
  room : Room k X.A
/-- a built-in by its name that means f -/
def PriOk (c : Cn) (X : Cx) (W : WX) (x : Str) (f : List D → Option D) : Prop := ∀ (e : Expr) (es : List Expr) (ms : MA) (p pos : Pos), Gl X x → PA X (e :: es) (rdA c W ms) → starEach (e :: es) X.env = (false, eval e X.env) :: starEach es X.env → (backTo pos (starEach es X.env)).any (·.1) = false →
  PE X (.Call (.Name x p) (e :: es) [] pos) (rd c W (mPri f ms))
/-- one built-in of another that means f -/
def Pr2Ok (c : Cn) (X : Cx) (W : WX) (x y : Str) (f : D → Option D) : Prop := ∀ (a : Expr) (ma : ME) (p p2 q pos : Pos), Gl X x → Gl X y → PE X a (rd c W ma) → starEach [a] X.env = (false, eval a X.env) :: starEach [] X.env → PE X (.Call (.Name x p) [.Call (.Name y p2) [a] [] q] [] pos) (rd c W (mUn f ma))
/-- a method of built-in things that means f -/
def BmtOk (c : Cn) (X : Cx) (W : WX) (x : Str) (f : D → List D → Option D) : Prop := ∀ (o e : Expr) (es : List Expr) (mo : ME) (ms : MA) (apos cpos : Pos), PE X o (rd c W mo) → PA X (e :: es) (rdA c W ms) → starEach (e :: es) X.env = (false, eval e X.env) :: starEach es X.env → (backTo cpos (starEach es X.env)).any (·.1) = false →
  (backTo cpos (starEach (e :: es) X.env)).all (fun x => !x.1) = true → (e :: es).length < 30 → (apos.endLine == cpos.line) = true → attributeBase o x X.env (eval o X.env) = eval o X.env → PE X (.Call (.Attribute o x apos) (e :: es) [] cpos) (rd c W (mBmt f mo ms))
section
variable {c : Cn}
/-- what is shown of an expression: its value, its truth -/
structure EOkP (c : Cn) (X : Cx) (W : WX) (x : Expr) (m : ME) : Prop where
  pe : PE X x (rd c W m)
  pt : isIfE x = false → PT X x (rdT c W m)
  pw : ∀ op xs pos, x = .BoolOp op xs pos → PW X x (rdT c W m)
theorem EOkP.plain {X : Cx} {W : WX} {x : Expr} {m : ME} (h : PE X x (rd c W m)) (he : ∀ whole, isTrue x X.env whole = (do let v ← whole; standAt x.pos; holding [v] (truthy v))) (hb : ∀ op xs pos, x ≠ .BoolOp op xs pos) : EOkP c X W x m :=
  ⟨h, fun _ => s_test h he, fun op xs pos e => (hb op xs pos e).elim⟩
/-- a context that is looked at with κ -/
structure XOk (κ : Ck) (X : Cx) (W : WX) : Prop where
  N : X.N = κ.N
  nd : κ.N.Nodup
  sc : X.env.scope = κ.sc
  fn : X.fn = κ.fn
  tk : Takes X W
/-- parts from the left, each with its value -/
inductive AEs (c : Cn) (X : Cx) (W : WX) : List Expr → List ME → Prop
  | nil : AEs c X W [] []
  | cons {x : Expr} {xs : List Expr} {m : ME} {ms : List ME} : PE X x (rd c W m) → isStar x = false → AEs c X W xs ms → AEs c X W (x :: xs) (m :: ms)
/-- a further form is read as its meaning -/
def HkOk (c : Cn) (X : Cx) (W : WX) (p : Hk) : Prop := ∀ (κ : Ck) (x : Expr) (xs : List Expr) (ms : List ME), XOk κ X W → p.pat κ x = some xs → AEs c X W xs ms → EOkP c X W x (p.sem ms)
end
/-- all that a text names is there and means what the table says -/
structure TOk (c : Cn) (P : Program) (w : World) (K : PySem.W.Frag) (mg : Str → Option Value) (base : Heap) (k : Nat) (T : Tab) : Prop where
  fns : ∀ X, BOk P w K mg base k X → ∀ (i : Nat) p, T.fns[i]? = some p → FOk c X p.1 p.2.1 p.2.2
  pri : ∀ X W, BOk P w K mg base k X → Takes X W → ∀ (i : Nat) p, T.pri[i]? = some p → PriOk c X W p.1 p.2
  bmt : ∀ X W, BOk P w K mg base k X → Takes X W → ∀ (i : Nat) p, T.bmt[i]? = some p → BmtOk c X W p.1 p.2
  cs : ∀ (i : Nat) p, T.cs[i]? = some p → ∃ v u, mg p.1 = some u ∧ RelV v u ∧ ∀ g, Rep c g v p.2
  exs : ∀ X, BOk P w K mg base k X → ∀ (i : Nat) x, T.exs[i]? = some x → ∀ (m : Str) (j : Nat) (p p2 pos : Pos), Gl X x → (x == ("__debug__" : Str)) = false → PMk X (.Call (.Name x p) [.Constant (.str m) j p2] [] pos) (fun _ H Q => Q (.ref (c.ec i)) none H)
  range : mg "range" = none
  list : mg "list" = none
  enumerate : mg "enumerate" = none
  zip : mg "zip" = none
  isinstance : mg "isinstance" = none
  int : mg "int" = none
  bool : mg "bool" = none
  str : mg "str" = none
  tuple : mg "tuple" = none
  trs : ∀ (i : Nat) p, T.trs[i]? = some p → ∃ cv, mg p.1 = some cv ∧ ∀ j ∈ p.2, PySem.W.exmOne K (.ref (c.ec j)) cv = some true
  cls : ∀ (i : Nat) p, T.cls[i]? = some p → ∃ v cv, ClsAt mg p.1 v cv ∧ ∀ j b, p.2 j = some b → ExcC K (c.ec j) ∧ PySem.W.kitOne K (.ref (c.ec j)) cv = some b
  pr2 : ∀ X W, BOk P w K mg base k X → Takes X W → ∀ (i : Nat) p, T.pr2[i]? = some p → Pr2Ok c X W p.1 p.2.1 p.2.2
  hks : ∀ X W, BOk P w K mg base k X → Takes X W → ∀ (i : Nat) p, T.hks[i]? = some p → HkOk c X W p
section
variable {c : Cn} {P : Program} {w : World} {K : PySem.W.Frag} {mg : Str → Option Value} {base : Heap} {k : Nat} {T : Tab}
theorem XOk.gl {κ : Ck} {X : Cx} {W : WX} (h : XOk κ X W) {x : Str} (q : glB κ.sc x = true) : Gl X x := by
  show X.env.scope.names.lookup x = _
  rw [h.sc]; exact glB_ok q
theorem XOk.slot {κ : Ck} {X : Cx} {W : WX} (h : XOk κ X W) {i : Nat} {x : Str} (q : slotB κ i x = true) : X.N[i]? = some x ∧ Vis X.env.scope x ∧ (x == ("__debug__" : Str)) = false ∧ (x == ("__classdict__" : Str)) = false := by
  unfold slotB at q
  simp only [Bool.and_eq_true, decide_eq_true_eq] at q
  obtain ⟨⟨q1, q2⟩, q3⟩ := q
  rw [h.N, h.sc]
  exact ⟨q1, visB_ok q2, (plainN_ok q3).1, (plainN_ok q3).2.1⟩
theorem XOk.stor {κ : Ck} {X : Cx} {W : WX} (h : XOk κ X W) {i : Nat} {x : Str} (q : storB κ i x = true) : X.N[i]? = some x ∧ Loc X.env.scope x ∧ (X.fn x = true ∨ X.env.scope.names.lookup x = some .local) := by
  unfold storB at q
  simp only [Bool.and_eq_true, decide_eq_true_eq] at q
  obtain ⟨⟨q1, q2⟩, q3⟩ := q
  rw [h.N, h.sc, h.fn]
  refine ⟨q1, ?_⟩
  split at q3
  · rename_i e
    exact ⟨.inl e, .inr e⟩
  · rename_i e
    exact ⟨.inr e, .inl q3⟩
  · cases q3
theorem XOk.nodup {κ : Ck} {X : Cx} {W : WX} (h : XOk κ X W) : X.N.Nodup := by rw [h.N]; exact h.nd
mutual
theorem sndT {κ : Ck} {X : Cx} {W : WX} (h : XOk κ X W) (hc : X.calm = true) : ∀ (t : Tg) (x : Expr), chkT κ t x = true → PG X x (rdG c t)
  | .nm i, x, q => by
    cases x with
    | Name x pos =>
      simp only [chkT] at q
      obtain ⟨q1, q2, q3⟩ := h.stor q
      exact g_name h.nodup q1 q2 q3
    | _ => simp [chkT] at q
  | .tp ts, x, q => by
    cases x with
    | Tuple xs j pos =>
      simp only [chkT] at q
      obtain ⟨q1, q2, q3⟩ := sndTs h hc ts xs q
      exact g_tup hc q1 (n := lenTs ts) q2 rfl q3 fun ds r r' e => bindTs_len ts ds r r' e
    | _ => simp [chkT] at q
theorem sndTs {κ : Ck} {X : Cx} {W : WX} (h : XOk κ X W) (hc : X.calm = true) : ∀ (ts : Tgs) (xs : List Expr), chkTs κ ts xs = true → PGs X xs (rdGs c ts) ∧ (assignEach xs X.env).length = lenTs ts ∧ (assignEach xs X.env).findIdx? (·.1) = none
  | .nil, xs, q => by
    cases xs with
    | nil => exact ⟨gs_nil, rfl, rfl⟩
    | cons x xs => simp [chkTs] at q
  | .cons t ts, xs, q => by
    cases xs with
    | nil => simp [chkTs] at q
    | cons x xs =>
      simp only [chkTs, Bool.and_eq_true, Bool.not_eq_true'] at q
      obtain ⟨⟨q1, q2⟩, q3⟩ := q
      obtain ⟨r1, r2, r3⟩ := sndTs h hc ts xs q3
      refine ⟨gs_cons (sndT h hc t x q2) r1 (by rw [asg_cons q1]; rfl), ?_, ?_⟩
      · rw [asg_cons q1]
        simp [r2, lenTs]
      · rw [asg_cons q1]
        simp [List.findIdx?_cons, r3]
end
theorem rg_rep {g : Gs} : ∀ (n : Nat) (a : Int), RepL c g ((List.range n).map fun i => V.int (a + (i : Nat))) (iota a n)
  | 0, a => .nil
  | n + 1, a => by
    rw [iota, List.range_succ_eq_map, List.map_cons, List.map_map]
    refine .cons (by simpa using Rep.int a) ?_
    have e : (fun i : Nat => V.int (a + (i : Nat))) ∘ Nat.succ = fun i : Nat => V.int (a + 1 + (i : Nat)) := by
      funext i
      simp only [Function.comp_def]
      congr 1
      omega
    rw [e]
    exact rg_rep n (a + 1)
theorem l_lrg {X : Cx} {W : WX} {a : Expr} {ma : ME} {p p2 pos pos2 : Pos} (hc : X.calm = true) (hg : Gl X "list") (hm : X.mg "list" = none) (hg2 : Gl X "range") (hm2 : X.mg "range" = none) (ha : PE X a (rd c W ma)) (hs : isStar a = false) :
    PE X (.Call (.Name "list" p) [.Call (.Name "range" p2) [a] [] pos2] [] pos) (rdL c W (mLrg ma)) := by
  refine (pe_listRg hc hg hm (prg_1 hg2 hm2 ha (star_cons hs))).mono fun σ H Q h => ?_
  obtain ⟨B, g, ρ, w, E, k, p⟩ := h
  refine ⟨B, g, ρ, w, E, k, bndL p (Ext.refl _ _) fun g1 H1 x dx w1 _ e1 k1 r1 p1 => ?_⟩
  obtain ⟨d, ed, q⟩ := post_liftL (α := Unit) p1
  unfold dLrg at ed
  split at ed
  · rename_i n _
    split at ed
    · rename_i hb
      cases ed
      rw [Bool.and_eq_true] at hb
      have h1 := of_decide_eq_true hb.1
      have h2 := of_decide_eq_true hb.2
      have hbig : big = 100000 := rfl
      cases r1
      refine ⟨n, rfl, RgOk.of_le (by omega) (by omega) (by omega) (by omega), laidL q e1 k1 ?_⟩
      have := rg_rep (c := c) (g := g1) n.toNat 0
      unfold rgV
      simpa using this
    · cases ed
  · cases ed
theorem isx_ok {X : Cx} {W : WX} {a : Expr} {ma : ME} {f : Nat → Option Bool} {z : Str} {v : V} {cv : Value} {p p' pos : Pos} (hg : Gl X "isinstance") (hm : X.mg "isinstance" = none) (hgz : Gl X z) (hz : ClsAt X.mg z v cv) (hdb : (z == ("__debug__" : Str)) = false)
    (hf : ∀ j b, f j = some b → ExcC X.K (c.ec j) ∧ PySem.W.kitOne X.K (.ref (c.ec j)) cv = some b) (ha : PE X a (rd c W ma)) (hs : isStar a = false) : PE X (.Call (.Name "isinstance" p) [a, .Name z p'] [] pos) (rd c W (mUn (dIsx f) ma)) := by
  obtain ⟨z1, z2, z3⟩ := hz
  have hn : PE X (.Name z p') (tC v) := by
    rcases z3 with z3 | ⟨z3, z4, z5⟩
    · exact pe_glob hgz z3 z1 hdb
    · exact pe_bltn hgz z3 z4 z1 z5 hdb
  refine (pe_callB (hg := hg) (hm := hm) (call_isX (X := X)) (hv := PyProof.Rows.boot_isinstance) (ha := pa_cons ha (pa_cons hn pa_nil rfl) (by rw [star_cons hs])) (he := by rw [star_cons hs]) (hpl := rfl)).mono fun σ H Q h => ?_
  obtain ⟨B, g, ρ, w, E, kk, p⟩ := h
  refine ⟨B, g, ρ, w, E, kk, bnd p fun g1 H1 x dx w1 _ e1 k1 r1 p1 => ?_⟩
  obtain ⟨d, ed, q⟩ := post_lift p1
  show rIsX X.K [x, v] H1 Q
  cases r1 with
  | exc hF =>
    rename_i j a' _
    cases hj : f j with
    | none => simp [dIsx, hj] at ed
    | some b =>
      simp [dIsx, hj] at ed
      subst ed
      obtain ⟨k1', k2⟩ := hf j b hj
      exact ⟨_, _, v, cv, b, rfl, k1.sub _ _ hF, k1', z2, k2, q.at k1 (.bl _)⟩
  | _ => simp [dIsx] at ed
theorem isi_ok {X : Cx} {W : WX} {a : Expr} {ma : ME} {t : String} {p p' pos : Pos} (ht : tyOk t = true) (hg : Gl X "isinstance") (hm : X.mg "isinstance" = none) (hgt : Gl X (Str.ofString t)) (hmt : X.mg (Str.ofString t) = none) (ha : PE X a (rd c W ma)) (hs : isStar a = false) :
    PE X (.Call (.Name "isinstance" p) [a, .Name (Str.ofString t) p'] [] pos) (rd c W (mUn (dIsi t) ma)) := by
  have hb : bootBuiltins (Str.ofString t) = some (.type t) ∧ (Str.ofString t) ≠ "__name__" ∧ (Str.ofString t == ("__debug__" : Str)) = false := by
    unfold tyOk at ht
    split at ht <;> first | exact ⟨by decide +kernel, by decide +kernel, by decide +kernel⟩ | cases ht
  refine (pe_callB (hg := hg) (hm := hm) (call_isi (X := X)) (hv := PyProof.Rows.boot_isinstance) (ha := pa_cons ha (pa_cons (pe_bltn (v := .ty t) hgt hmt hb.1 rfl hb.2.1 hb.2.2) pa_nil rfl) (by rw [star_cons hs])) (he := by rw [star_cons hs]) (hpl := rfl)).mono fun σ H Q h => ?_
  obtain ⟨B, g, ρ, w, E, kk, p⟩ := h
  refine ⟨B, g, ρ, w, E, kk, bnd p fun g1 H1 x dx w1 _ e1 k1 r1 p1 => ?_⟩
  obtain ⟨d, ed, q⟩ := post_lift p1
  show rIsi X.K [x, .ty t] H1 Q
  have fin : ∀ s : String, tyName dx = some s → TyX X.K H1 x (.type s) → rIsi X.K [x, .ty t] H1 Q := fun s hs2 ty => by
    unfold dIsi at ed
    rw [hs2] at ed
    cases ed
    refine ⟨x, .ty t, _, .type t, _, rfl, .ty t, ty, kit_ty ?_, q.at k1 (.bl _)⟩
    have hcs : s = "NoneType" ∨ s = "bool" ∨ s = "int" ∨ s = "str" ∨ s = "list" ∨ s = "tuple" := by
      cases dx <;> simp only [tyName, Option.some.injEq, reduceCtorEq] at hs2 <;> subst hs2 <;> simp
    unfold tyOk at ht
    rcases hcs with rfl | rfl | rfl | rfl | rfl | rfl <;> (split at ht <;> first | decide +kernel | cases ht)
  cases r1 with
  | non => exact fin _ rfl (.base .non)
  | bl b => exact fin _ rfl (.base (.bl b))
  | int i => exact fin _ rfl (.base (.int i))
  | str z => exact fin _ rfl (.base (.str z))
  | lst hx lx => exact fin _ rfl (.base (.lst (k1.sub _ _ hx)))
  | tup hx lx => exact fin _ rfl (.base (.tup (k1.sub _ _ hx)))
  | _ => cases ed
theorem oix_ok {X : Cx} {W : WX} {i : Nat} {x : Str} {b : Expr} {mb : ME} {p pos : Pos} (hN : X.N[i]? = some x) (hv : Vis X.env.scope x) (hd : (x == ("__debug__" : Str)) = false) (hcd : (x == ("__classdict__" : Str)) = false) (hb : PE X b (rd c W mb)) (hs : PlainIx b) :
    PE X (.Subscript (.Name x p) b pos) (rd c W (mOix i mb)) := by
  refine (pe_ix ix_seq (pe_var hN hv hd hcd) hb hs).mono fun σ H Q h => ?_
  obtain ⟨B, g, ρ, w, E, kk, p⟩ := h
  unfold mOix at p
  split at p
  · rename_i xs ex
    obtain ⟨a, vs, b1, b2, b3, _⟩ := own_at E ex
    refine ⟨_, b1, B, g, ρ, w, E, kk, bnd p fun g1 H1 y dy w1 _ e1 k1 r1 p1 => ?_⟩
    obtain ⟨a', vs', c1, c2, c3, _⟩ := own_at (E.ext e1) ex
    obtain rfl : a = a' := by
      rw [b1] at c1
      cases c1; rfl
    obtain ⟨d, ed, q⟩ := post_lift p1
    cases r1 with
    | int n =>
      obtain ⟨v, h1, h2⟩ := atI_rep c3 (show atI xs n = some d from ed)
      exact .inl ⟨_, _, _, v, rfl, rfl, SqL.of c2, h1, q.at k1 h2⟩
    | _ => cases ed
  · exact False.elim p
theorem ocmp_core {X : Cx} {W : WX} {i : Nat} {o : Bop} {mb : ME} {r : R2} (ho : o = .eq ∧ r = rEqD X.K ∨ o = .ne ∧ r = rNeD X.K) {σ : St} {H : Hp} {Q : VK} (h : rd c W (mOcmp (bop o) i mb) σ H Q) : tOp r (tVar i) (rd c W mb) σ H Q := by
  obtain ⟨B, g, ρ, w, E, kk, p⟩ := h
  unfold mOcmp at p
  split at p
  · rename_i xs ex
    obtain ⟨a, vs, b1, b2, b3, _⟩ := own_at E ex
    refine ⟨_, b1, B, g, ρ, w, E, kk, bnd p fun g1 H1 y dy w1 _ e1 k1 r1 p1 => ?_⟩
    obtain ⟨a', vs', c1, c2, c3, _⟩ := own_at (E.ext e1) ex
    obtain rfl : a = a' := by
      rw [b1] at c1
      cases c1; rfl
    obtain ⟨d, ed, q⟩ := post_lift p1
    rcases ho with ⟨rfl, rfl⟩ | ⟨rfl, rfl⟩
    · have ed : bEq (.lst xs) dy = some d := ed
      unfold bEq at ed
      split at ed <;> cases ed
      rename_i hs
      rw [Bool.and_eq_true] at hs
      exact ⟨_, _, .lst (SqL.of c2) (c3.dp k1.sub (by simpa [okD] using hs.1)), r1.dp k1.sub hs.2, ok_shaped (by decide) hs.1, ok_shaped (by decide) hs.2, by
        have e := eq_py 12 (.lst xs) dy hs.1 hs.2
        simp only [toPy] at e
        rw [e]; exact q.at k1 (.bl _)⟩
    · have ed : bNe (.lst xs) dy = some d := ed
      unfold bNe at ed
      split at ed <;> cases ed
      rename_i hs
      rw [Bool.and_eq_true] at hs
      exact ⟨_, _, .lst (SqL.of c2) (c3.dp k1.sub (by simpa [okD] using hs.1)), r1.dp k1.sub hs.2, ok_shaped (by decide) hs.1, ok_shaped (by decide) hs.2, by
        have e := eq_py 12 (.lst xs) dy hs.1 hs.2
        simp only [toPy] at e
        rw [e]; exact q.at k1 (.bl _)⟩
  · exact False.elim p
/-! ### a list that is lent -/
theorem wdr_mem {g : Gs} {a b : Addr} (h : g.dr = some (a, b)) : a ∈ g.wadr := by simp [Gs.wadr, h, wdr]
theorem wtb_mem' {g : Gs} {k : Nat} {t dx l : Addr} (h : g.tb[k]? = some (t, dx, l)) : t ∈ g.wadr := List.mem_append_right _ (wtb_mem h).1
mutual
theorem Rep.size {g : Gs} (out : ∀ a ∈ g.wadr, g.F a = none) : ∀ {d d' : D} {v : V}, Rep c g v d → Rep c g v d' → sizeD d = sizeD d'
  | .non, d', v, h, h' => by cases h; cases h'; rfl
  | .bl _, d', v, h, h' => by cases h; cases h'; rfl
  | .int _, d', v, h, h' => by cases h; cases h'; rfl
  | .str _, d', v, h, h' => by cases h; cases h'; rfl
  | .lst ds, d', v, h, h' => by
    cases h with
    | lst e l =>
      cases h' with
      | lst e' l' =>
        rw [e] at e'
        cases e'
        simp only [sizeD, RepL.size out l l']
      | tup e' l' => rw [e] at e'; cases e'
      | drw e' => rw [out _ (wdr_mem e')] at e; cases e
      | tab e' => rw [out _ (wtb_mem' e')] at e; cases e
      | exc e' => rw [e] at e'; cases e'
  | .tup ds, d', v, h, h' => by
    cases h with
    | tup e l =>
      cases h' with
      | tup e' l' =>
        rw [e] at e'
        cases e'
        simp only [sizeD, RepL.size out l l']
      | lst e' l' => rw [e] at e'; cases e'
      | drw e' => rw [out _ (wdr_mem e')] at e; cases e
      | tab e' => rw [out _ (wtb_mem' e')] at e; cases e
      | exc e' => rw [e] at e'; cases e'
  | .drw, d', v, h, h' => by
    cases h with
    | drw e =>
      cases h' with
      | lst e' l' => rw [out _ (wdr_mem e)] at e'; cases e'
      | tup e' l' => rw [out _ (wdr_mem e)] at e'; cases e'
      | _ => rfl
  | .tab _, d', v, h, h' => by
    cases h with
    | tab e =>
      cases h' with
      | lst e' l' => rw [out _ (wtb_mem' e)] at e'; cases e'
      | tup e' l' => rw [out _ (wtb_mem' e)] at e'; cases e'
      | _ => rfl
  | .exc _, d', v, h, h' => by
    cases h with
    | exc e =>
      cases h' with
      | lst e' l' => rw [e] at e'; cases e'
      | tup e' l' => rw [e] at e'; cases e'
      | _ => rfl
theorem RepL.size {g : Gs} (out : ∀ a ∈ g.wadr, g.F a = none) : ∀ {ds ds' : List D} {vs : List V}, RepL c g vs ds → RepL c g vs ds' → sizeL ds = sizeL ds'
  | [], ds', vs, h, h' => by cases h; cases h'; rfl
  | d :: ds, ds', vs, h, h' => by
    cases h with
    | cons a l =>
      cases h' with
      | cons a' l' => simp only [sizeL, Rep.size out a a', RepL.size out l l']
end
/-- the address p is taken out of the frozen part -/
def Gs.del (g : Gs) (p : Addr) : Gs := { g with F := fun b => if b = p then none else g.F b }
theorem Gs.del_ne {g : Gs} {p b : Addr} (h : b ≠ p) : (g.del p).F b = g.F b := if_neg h
theorem Gs.del_at {g : Gs} {p : Addr} : (g.del p).F p = none := if_pos rfl
mutual
theorem Rep.unlend {g : Gs} (out : ∀ a ∈ g.wadr, g.F a = none) {p : Addr} {vs : List V} {xs : List D} (hp : g.F p = some (.lst vs)) (hx : RepL c g vs xs) : ∀ {d : D} {v : V}, Rep c g v d → sizeD d ≤ sizeL xs → Rep c (g.del p) v d
  | .non, v, h, _ => by cases h; exact .non
  | .bl _, v, h, _ => by cases h; exact .bl _
  | .int _, v, h, _ => by cases h; exact .int _
  | .str _, v, h, _ => by cases h; exact .str _
  | .lst ds, v, h, s => by
    simp only [sizeD] at s
    cases h with
    | @lst a _ _ e l =>
      have na : a ≠ p := fun z => by
        rw [z, hp] at e
        cases e
        have := RepL.size out l hx
        omega
      exact .lst (by rw [Gs.del_ne na]; exact e) (RepL.unlend out hp hx l (by omega))
  | .tup ds, v, h, s => by
    simp only [sizeD] at s
    cases h with
    | @tup a _ _ e l =>
      have na : a ≠ p := fun z => by
        rw [z, hp] at e
        cases e
      exact .tup (by rw [Gs.del_ne na]; exact e) (RepL.unlend out hp hx l (by omega))
  | .drw, v, h, _ => by
    cases h with
    | drw e => exact .drw e
  | .tab _, v, h, _ => by
    cases h with
    | tab e => exact .tab e
  | .exc _, v, h, _ => by
    cases h with
    | @exc _ a e =>
      have na : a ≠ p := fun z => by
        rw [z, hp] at e
        cases e
      exact .exc (by rw [Gs.del_ne na]; exact e)
theorem RepL.unlend {g : Gs} (out : ∀ a ∈ g.wadr, g.F a = none) {p : Addr} {vs : List V} {xs : List D} (hp : g.F p = some (.lst vs)) (hx : RepL c g vs xs) : ∀ {ds : List D} {us : List V}, RepL c g us ds → sizeL ds ≤ sizeL xs → RepL c (g.del p) us ds
  | [], us, h, _ => by cases h; exact .nil
  | d :: ds, us, h, s => by
    simp only [sizeL] at s
    cases h with
    | cons a l => exact .cons (Rep.unlend out hp hx a (by omega)) (RepL.unlend out hp hx l (by omega))
end
theorem WOk.lend {g : Gs} {H : Hp} {w : Wd} {p : Addr} {vs : List V} (k : WOk c g H w) (hF : g.F p = none) (hW : p ∉ g.wadr) (hv : H p = some (.lst vs)) : WOk c (g.lay p (.lst vs)) H w ∧ Gle g (g.lay p (.lst vs)) := by
  have L : Gle g (g.lay p (.lst vs)) := ⟨fun b u e => by
    show upd g.F p _ b = some u
    rw [upd_ne (ne_of_none e hF)]; exact e, fun _ q => q, fun _ _ q => q⟩
  refine ⟨⟨fun b u e => ?_, k.dr, k.dr0, fun i sz ln e => ?_, k.tbl, k.nd, fun b hb => ?_⟩, L⟩
  · have e : upd g.F p _ b = some u := e
    by_cases q : b = p
    · subst q
      rw [upd_same] at e
      rw [hv]; exact e
    · rw [upd_ne q] at e
      exact k.sub _ _ e
  · obtain ⟨t, dx, l, vs', e1, e2, e3, r⟩ := k.tb i sz ln e
    exact ⟨t, dx, l, vs', e1, e2, e3, r.mono L⟩
  · show upd g.F p _ b = none
    rw [upd_ne (fun q : b = p => hW (by rw [← q]; exact hb))]
    exact k.out b hb
/-- the lent list comes back -/
theorem unlend {g g2 : Gs} {H H2 : Hp} {w : Wd} {p : Addr} {vs : List V} (x : Ext (g.lay p (.lst vs)) H g2 H2) (hF : g.F p = none) (k : WOk c g2 H2 w) (ht : w.tb = []) : Ext g H (g2.del p) H2 ∧ WOk c (g2.del p) H2 w := by
  refine ⟨⟨⟨fun b u e => ?_, x.dr, x.tb⟩, x.keep, x.dom, fun b e n => ?_, x.frW⟩, ⟨fun b u e => ?_, k.dr, k.dr0, fun i sz ln e => ?_, k.tbl, k.nd, fun b hb => ?_⟩⟩
  · have nb : b ≠ p := ne_of_none e hF
    rw [Gs.del_ne nb]
    exact x.sF b u (by show upd g.F p _ b = some u; rw [upd_ne nb]; exact e)
  · by_cases q : b = p
    · rw [q]; exact Gs.del_at
    · rw [Gs.del_ne q]
      exact x.frF b (by show upd g.F p _ b = none; rw [upd_ne q]; exact e) n
  · by_cases q : b = p
    · rw [q, Gs.del_at] at e; cases e
    · rw [Gs.del_ne q] at e
      exact k.sub b u e
  · rw [ht] at e
    simp at e
  · by_cases q : b = p
    · rw [q]; exact Gs.del_at
    · rw [Gs.del_ne q]
      exact k.out b hb
theorem callO_core {X : Cx} {W : WX} {i : Nat} {f : MF} {fst : Bool} {m : ME} {σ : St} {H : Hp} {Q : VK} {E' : XK} (h : rd c W (mCallO f fst i m) σ H Q) :
    ∃ a, σ[i]? = some (some (.ref a)) ∧ rd c W m σ H fun v H1 => spOf c 2 f (if fst then [.ref a, v] else [v, .ref a]) H1 Q E' := by
  obtain ⟨B, g, ρ, w, E, kk, p⟩ := h
  unfold mCallO at p
  split at p
  · rename_i xs ex
    obtain ⟨a, vs, b1, b2, b3, _⟩ := own_at E ex
    refine ⟨a, b1, B, g, ρ, w, E, kk, bnd p fun g1 H1 v d w1 _ e1 k1 r1 p1 => ⟨by cases fst <;> rfl, ?_⟩⟩
    obtain ⟨a', vs', c1, c2, c3, c4, c5, _⟩ := own_at (E.ext e1) ex
    obtain rfl : a = a' := by
      rw [b1] at c1
      cases c1; rfl
    obtain ⟨k2, L⟩ := k1.lend c4 c5 c2
    have ra : Rep c (g1.lay a (.lst vs')) (.ref a) (.lst xs) := .lst upd_same (c3.mono L)
    have rv := r1.mono L
    refine ⟨g1.lay a (.lst vs'), if fst then [.lst xs, d] else [d, .lst xs], w1, ?_, k2, ?_⟩
    · cases fst
      · exact .cons rv (.cons ra .nil)
      · exact .cons ra (.cons rv .nil)
    · revert p1
      cases f (if fst then [.lst xs, d] else [d, .lst xs]) w1 with
      | bad => exact fun p1 => p1
      | exc j w2 => exact fun p1 => False.elim p1
      | ok y w2 =>
        intro p1 g2 H2 u x2 k3 r2
        have p1 : post c (Rep c) g1 H1 Q (WE W σ) (if decide (sizeD y < sizeD (.lst xs)) && w2.tb.isEmpty then .ok y w2 else .bad) := p1
        split at p1
        · rename_i hs
          simp only [Bool.and_eq_true, decide_eq_true_eq, List.isEmpty_iff] at hs
          obtain ⟨x4, k4⟩ := unlend x2 c4 k3 hs.2
          refine p1 _ _ _ x4 k4 (Rep.unlend k3.out (x2.sF a _ upd_same) ((c3.mono L).mono x2.toGle) r2 ?_)
          have := hs.1
          simp only [sizeD] at this
          omega
        · exact False.elim p1
  · exact False.elim p
theorem callO_ok {X : Cx} {W : WX} {i : Nat} {f : MF} {fst : Bool} {m : ME} {x n : Str} {b : Expr} {p p' pos : Pos} (tk : Takes X W) (F : FOk c X x 2 f) (hg : Gl X x) (hN : X.N[i]? = some n) (hv : Vis X.env.scope n) (hd : (n == ("__debug__" : Str)) = false) (hcd : (n == ("__classdict__" : Str)) = false)
    (hb : PE X b (rd c W m)) (hs : isStar b = false) (hdb : (x == ("__debug__" : Str)) = false) :
    PE X (.Call (.Name x p) (if fst then [.Name n p', b] else [b, .Name n p']) [] pos) (rd c W (mCallO f fst i m)) := by
  obtain ⟨k, fa, fd, ps, F, hr, hm, hk, hbd⟩ := F.ex
  cases fst with
  | true =>
    refine (pe_callSD (E := fun σ => WE W σ) F hr hg hm hk hbd .nil (fun σ => passAt tk σ) (pa_cons (pe_var hN hv hd hcd) (pa_cons hb pa_nil (star_cons hs)) rfl) hdb rfl (by rw [star_cons hs]; rfl)).mono fun σ H Q h => ?_
    obtain ⟨a, h1, h2⟩ := callO_core (X := X) (E' := WE W σ) h
    exact ⟨_, h1, h2⟩
  | false =>
    refine (pe_callSD (E := fun σ => WE W σ) F hr hg hm hk hbd .nil (fun σ => passAt tk σ) (pa_cons hb (pa_cons (pe_var hN hv hd hcd) pa_nil rfl) (star_cons hs)) hdb (star_cons hs) rfl).mono fun σ H Q h => ?_
    obtain ⟨a, h1, B, g, ρ, w, E, kk, h2⟩ := callO_core (X := X) (E' := WE W σ) h
    exact ⟨B, g, ρ, w, E, kk, h2.mono fun v H1 z => ⟨_, h1, z⟩⟩
end
end RL

namespace RL
open PySem L2
section
variable {c : Cn} {P : Program} {w : World} {K : PySem.W.Frag} {mg : Str → Option Value} {base : Heap} {k : Nat} {T : Tab}
theorem BOk.hu {X : Cx} (b : BOk P w K mg base k X) : X.A.units + 65 < cLine := by have := b.room.un; omega
/-- within a comprehension -/
theorem BOk.blk {X : Cx} (b : BOk P w K mg base k X) {s : Shared} {H : Hp} {scope : Scope} {cenv : PySem.Env} {fp : List Addr} : BOk P w K mg base k (X.blk s H scope cenv fp) := ⟨b.prog, b.w, b.K, b.mg, b.base, b.calm, b.room⟩
theorem XOk.blk {κ : Ck} {X : Cx} {W : WX} (h : XOk κ X W) {s : Shared} {H : Hp} {scope : Scope} {cl : List (Str × Addr)} {C : Addr} {fp : List Addr} : XOk ⟨κ.N, relS scope κ.sc, fun x => scope.names.lookup x == some .cell⟩ (X.blk s H scope (compEnvC scope cl C X.env) fp) WF :=
  ⟨h.N, h.nd, by rw [← h.sc]; rfl, rfl, takes0⟩
theorem star_any {env : PySem.Env} {pos : Pos} : ∀ {xs : List Expr}, (∀ x ∈ xs, isStar x = false) → (backTo pos (starEach xs env)).any (·.1) = false
  | [], _ => rfl
  | x :: xs, h => by
    rw [star_cons (h x List.mem_cons_self)]
    show (false || (backTo pos (starEach xs env)).any (·.1)) = false
    rw [star_any fun y hy => h y (List.mem_cons_of_mem _ hy)]
    rfl
theorem star_all {env : PySem.Env} {pos : Pos} : ∀ {xs : List Expr}, (∀ x ∈ xs, isStar x = false) → (backTo pos (starEach xs env)).all (fun x => !x.1) = true
  | [], _ => rfl
  | x :: xs, h => by
    rw [star_cons (h x List.mem_cons_self)]
    show (!false && (backTo pos (starEach xs env)).all (fun x => !x.1)) = true
    rw [star_all fun y hy => h y (List.mem_cons_of_mem _ hy)]
    rfl
/-- an argument list -/
structure AOkP (c : Cn) (X : Cx) (W : WX) (xs : List Expr) (m : MA) (ms : List ME) : Prop where
  pa : PA X xs (rdA c W m)
  st : ∀ x ∈ xs, isStar x = false
  all : AEs c X W xs ms
theorem chk_not_star {κ : Ck} {e : E} {x : Expr} (q : chkE T κ e x = true) : isStar x = false := by
  cases x with
  | Starred y p =>
    exfalso
    cases e <;> first | (simp [chkE] at q; done) | (simp [chkE, isStar] at q; done) | skip
    · rename_i l
      cases l <;> simp [chkE, chkL] at q
  | _ => rfl
theorem attr_base {x : Expr} (q : isC0 x = false) {nm : Str} {env : PySem.Env} : attributeBase x nm env (eval x env) = eval x env := by
  cases x with
  | Call f args kws pos =>
    cases f with
    | Name id p =>
      cases args with
      | nil =>
        cases kws with
        | nil => simp [isC0] at q
        | cons a as => rfl
      | cons a as => rfl
    | _ => rfl
  | _ => rfl
theorem chk_rev {κ : Ck} {a : E} {x : Expr} (q : chkE T κ (.rev a) x = true) : ∃ y j p1 p2 p3 pos, x = .Subscript y (.Slice none none (some (.UnaryOp .USub (.Constant (.int 1) j p1) p2)) p3) pos ∧ chkE T κ a y = true := by
  unfold chkE at q
  split at q <;> first | contradiction | skip
  all_goals first
    | (have e := ‹E.rev a = E.rev _›
       cases e
       exact ⟨_, _, _, _, _, _, rfl, q⟩)
    | cases q
theorem chk_isi {κ : Ck} {a : E} {t : String} {x : Expr} (q : chkE T κ (.isi a t) x = true) : ∃ y p p' pos, x = .Call (.Name "isinstance" p) [y, .Name (Str.ofString t) p'] [] pos ∧ tyOk t = true ∧ glB κ.sc "isinstance" = true ∧ glB κ.sc (Str.ofString t) = true ∧ chkE T κ a y = true := by
  unfold chkE at q
  split at q <;> first | contradiction | skip
  all_goals first
    | (have e := ‹E.isi a t = E.isi _ _›
       cases e
       simp only [Bool.and_eq_true, decide_eq_true_eq] at q
       obtain ⟨⟨⟨⟨⟨q1, q2⟩, q3⟩, q4⟩, q5⟩, q6⟩ := q
       subst q1; subst q2
       exact ⟨_, _, _, _, rfl, q3, q4, q5, q6⟩)
    | cases q
theorem chk_isx {κ : Ck} {a : E} {j : Nat} {x : Expr} (q : chkE T κ (.isx a j) x = true) : ∃ y z p p' pos pp, x = .Call (.Name "isinstance" p) [y, .Name z p'] [] pos ∧ T.cls[j]? = some pp ∧ pp.1 = z ∧ glB κ.sc "isinstance" = true ∧ glB κ.sc z = true ∧ plainN z = true ∧ chkE T κ a y = true := by
  unfold chkE at q
  split at q <;> first | contradiction | skip
  all_goals first
    | (have e := ‹E.isx a j = E.isx _ _›
       cases e
       simp only [Bool.and_eq_true, decide_eq_true_eq] at q
       obtain ⟨⟨⟨⟨⟨q1, q2⟩, q3⟩, q4⟩, q5⟩, q6⟩ := q
       subst q1
       split at q2
       · rename_i pp hp
         exact ⟨_, _, _, _, _, pp, rfl, hp, of_decide_eq_true q2, q3, q4, q5, q6⟩
       · cases q2)
    | cases q
theorem chk_pr2 {κ : Ck} {a : E} {j : Nat} {x : Expr} (q : chkE T κ (.pr2 j a) x = true) : ∃ f g z p p2 pos pos2 pp, x = .Call (.Name f p) [.Call (.Name g p2) [z] [] pos2] [] pos ∧ T.pr2[j]? = some pp ∧ pp.1 = f ∧ pp.2.1 = g ∧ glB κ.sc f = true ∧ glB κ.sc g = true ∧ chkE T κ a z = true := by
  unfold chkE at q
  split at q <;> first | contradiction | skip
  all_goals first
    | (have e := ‹E.pr2 j a = E.pr2 _ _›
       cases e
       simp only [Bool.and_eq_true] at q
       obtain ⟨⟨⟨⟨⟨q1, q2⟩, q3⟩, q4⟩, q5⟩, q6⟩ := q
       split at q1
       · rename_i pp hp
         simp only [Bool.and_eq_true, decide_eq_true_eq] at q1
         exact ⟨_, _, _, _, _, _, _, pp, rfl, hp, q1.1, q1.2, q2, q3, q6⟩
       · cases q1)
    | cases q
theorem chk_lrg {κ : Ck} {a : E} {x : Expr} (q : chkL T κ (.lrg a) x = true) : ∃ z p p2 pos pos2, x = .Call (.Name "list" p) [.Call (.Name "range" p2) [z] [] pos2] [] pos ∧ glB κ.sc "list" = true ∧ glB κ.sc "range" = true ∧ chkE T κ a z = true := by
  unfold chkL at q
  split at q <;> first | contradiction | skip
  all_goals first
    | (have e := ‹L.lrg a = L.lrg _›
       cases e
       simp only [Bool.and_eq_true, decide_eq_true_eq] at q
       obtain ⟨⟨⟨⟨q1, q2⟩, q3⟩, q4⟩, q5⟩ := q
       subst q1; subst q2
       exact ⟨_, _, _, _, _, rfl, q3, q4, q5⟩)
    | cases q
theorem chk_callO {κ : Ck} {f i : Nat} {fst : Bool} {a : E} {x : Expr} (q : chkE T κ (.callO f fst i a) x = true) : ∃ nm p n p' y pos pp, x = .Call (.Name nm p) (if fst then [.Name n p', y] else [y, .Name n p']) [] pos ∧ T.fns[f]? = some pp ∧ pp.1 = nm ∧ pp.2.1 = 2 ∧ glB κ.sc nm = true ∧ plainN nm = true ∧
    isStar y = false ∧ slotB κ i n = true ∧ chkE T κ a y = true := by
  unfold chkE at q
  split at q <;> first | contradiction | skip
  all_goals first
    | (have e := ‹E.callO f fst i a = E.callO _ _ _ _›
       cases e
       simp only [Bool.and_eq_true, Bool.not_eq_true'] at q
       obtain ⟨⟨⟨⟨⟨q1, q2⟩, q3⟩, q4⟩, q5⟩, q6⟩ := q
       split at q1
       · rename_i pp hp
         simp only [Bool.and_eq_true, decide_eq_true_eq] at q1
         split at q6
         · simp only [Bool.and_eq_true] at q6
           exact ⟨_, _, _, _, _, _, pp, rfl, hp, q1.1, q1.2, q2, q3, q5, q6.1, q6.2⟩
         · simp only [Bool.and_eq_true] at q6
           exact ⟨_, _, _, _, _, _, pp, rfl, hp, q1.1, q1.2, q2, q3, q4, q6.1, q6.2⟩
         · cases q6
       · cases q1)
    | cases q
theorem chk_hk {κ : Ck} {j : Nat} {es : Es} {x : Expr} (q : chkE T κ (.hk j es) x = true) : ∃ pp xs, T.hks[j]? = some pp ∧ pp.pat κ x = some xs ∧ chkEs T κ es xs = true := by
  simp only [chkE, Bool.and_eq_true] at q
  obtain ⟨_, q⟩ := q
  split at q
  · rename_i pp hp
    split at q
    · rename_i xs hx
      exact ⟨pp, xs, hp, hx, q⟩
    · cases q
  · cases q
theorem chk_of {κ : Ck} {es : Es} {x : Expr} (q : chkL T κ (.of es) x = true) : ∃ y ys p pos, x = .Call (.Name "list" p) (y :: ys) [] pos ∧ glB κ.sc "list" = true ∧ chkEs T κ es (y :: ys) = true := by
  unfold chkL at q
  split at q <;> first | contradiction | skip
  all_goals first
    | (have e := ‹L.of es = L.of _›
       cases e
       simp only [Bool.and_eq_true, decide_eq_true_eq] at q
       obtain ⟨⟨q1, q2⟩, q3⟩ := q
       subst q1
       exact ⟨_, _, _, _, rfl, q2, q3⟩)
    | cases q
theorem chk_rng {κ : Ck} {es : Es} {x tg : Expr} (q : chkI T κ (.rng es) x tg = true) : (∃ y p pos, x = .Call (.Name "range" p) [y] [] pos ∧ glB κ.sc "range" = true ∧ chkEs T κ es [y] = true) ∨ ∃ y z p pos, x = .Call (.Name "range" p) [y, z] [] pos ∧ glB κ.sc "range" = true ∧ chkEs T κ es [y, z] = true := by
  unfold chkI at q
  split at q <;> first | contradiction | skip
  all_goals first
    | (have e := ‹I.rng es = I.rng _›
       cases e
       simp only [Bool.and_eq_true, decide_eq_true_eq] at q
       obtain ⟨⟨q1, q2⟩, q3⟩ := q
       subst q1
       first
         | exact .inl ⟨_, _, _, rfl, q2, q3⟩
         | exact .inr ⟨_, _, _, _, rfl, q2, q3⟩)
    | cases q
theorem chk_enm {κ : Ck} {es : Es} {x tg : Expr} (q : chkI T κ (.enm es) x tg = true) : ∃ y p pos ts j tp, x = .Call (.Name "enumerate" p) [y] [] pos ∧ tg = .Tuple ts j tp ∧ glB κ.sc "enumerate" = true ∧ chkEs T κ es [y] = true := by
  unfold chkI at q
  split at q <;> first | contradiction | skip
  all_goals first
    | (have e := ‹I.enm es = I.enm _›
       cases e
       simp only [Bool.and_eq_true, decide_eq_true_eq] at q
       obtain ⟨⟨q1, q2⟩, q3⟩ := q
       subst q1
       exact ⟨_, _, _, _, _, _, rfl, rfl, q2, q3⟩)
    | cases q
theorem chk_zip {κ : Ck} {es : Es} {x tg : Expr} (q : chkI T κ (.zip es) x tg = true) : ∃ y z p pos ts j tp, x = .Call (.Name "zip" p) [y, z] [] pos ∧ tg = .Tuple ts j tp ∧ glB κ.sc "zip" = true ∧ chkEs T κ es [y, z] = true := by
  unfold chkI at q
  split at q <;> first | contradiction | skip
  all_goals first
    | (have e := ‹I.zip es = I.zip _›
       cases e
       simp only [Bool.and_eq_true, decide_eq_true_eq] at q
       obtain ⟨⟨q1, q2⟩, q3⟩ := q
       subst q1
       exact ⟨_, _, _, _, _, _, _, rfl, rfl, q2, q3⟩)
    | cases q
theorem chk_ownE {κ : Ck} {i : Nat} {x tg : Expr} (q : chkI T κ (.ownE i) x tg = true) : ∃ y p' p pos ts j tp, x = .Call (.Name "enumerate" p) [.Name y p'] [] pos ∧ tg = .Tuple ts j tp ∧ glB κ.sc "enumerate" = true ∧ slotB κ i y = true := by
  unfold chkI at q
  split at q <;> first | contradiction | skip
  all_goals first
    | (have e := ‹I.ownE i = I.ownE _›
       cases e
       simp only [Bool.and_eq_true, decide_eq_true_eq] at q
       obtain ⟨⟨q1, q2⟩, q3⟩ := q
       subst q1
       exact ⟨_, _, _, _, _, _, _, rfl, rfl, q2, q3⟩)
    | cases q
theorem chk_comp {κ : Ck} {elt : E} {t : Tg} {vs : List Nat} {it : I} {cond : Oe} {x : Expr} (q : chkL T κ (.comp elt t vs it cond) x = true) : ∃ y tg iter ifs scope pos, x = .ListComp y [⟨tg, iter, ifs, 0⟩] scope pos ∧ ∃ own : List (Str × Nat), BlkOk κ.N κ.sc scope own ∧ own.map (·.2) = vs ∧ (∀ i ∈ slotsT t, i ∈ vs) ∧
    chkI T κ it iter tg = true ∧ isSet iter = false ∧ chkT ⟨κ.N, relS scope κ.sc, fun x => scope.names.lookup x == some .cell⟩ t tg = true ∧ chkC T ⟨κ.N, relS scope κ.sc, fun x => scope.names.lookup x == some .cell⟩ cond ifs = true ∧ chkE T ⟨κ.N, relS scope κ.sc, fun x => scope.names.lookup x == some .cell⟩ elt y = true := by
  unfold chkL at q
  split at q <;> first | contradiction | skip
  all_goals first
    | (have e := ‹L.comp elt t vs it cond = L.comp _ _ _ _ _›
       cases e
       simp only [Bool.and_eq_true, decide_eq_true_eq, Bool.not_eq_true', List.all_eq_true] at q
       obtain ⟨⟨⟨⟨⟨⟨⟨q1, q2⟩, q3⟩, q4⟩, q5⟩, q6⟩, q7⟩, q8⟩ := q
       exact ⟨_, _, _, _, _, _, rfl, _, blkOk_by q1, q2, fun i hi => by simpa using q3 i hi, q4, q5, q6, q7, q8⟩)
    | cases q
/-- the parts of a comprehension -/
structure LcOk (c : Cn) (X : Cx) (W : WX) (y tg iter : Expr) (ifs : List Expr) (scope : Scope) (m : MA) : Prop where
  ex : ∃ (own : List (Str × Nat)) (wi : TI) (g : TG) (tt : TT) (te : TE), PI X tg iter wi ∧ BlkOk X.N X.env.scope scope own ∧ (∀ (s : Shared) (H : Hp) (C : Addr) (cl : List (Str × Addr)) (fp : List Addr), PG (X.blk s H scope (compEnvC scope cl C X.env) fp) tg g) ∧
    (∀ (s : Shared) (H : Hp) (C : Addr) (cl : List (Str × Addr)) (fp : List Addr), PTs (X.blk s H scope (compEnvC scope cl C X.env) fp) ifs tt) ∧ (∀ (s : Shared) (H : Hp) (C : Addr) (cl : List (Str × Addr)) (fp : List Addr), PE (X.blk s H scope (compEnvC scope cl C X.env) fp) y te) ∧
    (∀ v, foldedSetIterable iter X.env v = pure v) ∧ ∀ (σ : St) (H : Hp) (Q : VK), rdL c W m σ H Q → tLc wi g tt te (own.map (·.2)) σ H Q
structure LOkP (c : Cn) (X : Cx) (W : WX) (x : Expr) (m : MA) : Prop where
  pe : PE X x (rdL c W m)
  lc : ∀ y tg iter ifs scope pos, x = .ListComp y [⟨tg, iter, ifs, 0⟩] scope pos → LcOk c X W y tg iter ifs scope m
def isOwnI : I → Bool
  | .own _ => true
  | .ownE _ => true
  | _ => false
structure IOkP (c : Cn) (X : Cx) (W : WX) (tg x : Expr) (it : I) (m : MI) : Prop where
  pe : PI X tg x (rdIE c W m)
  pf : isOwnI it = false → PI X tg x (rdI c W m)
theorem chkEs_len {κ : Ck} : ∀ (es : Es) (xs : List Expr), chkEs T κ es xs = true → xs.length = lenEs es
  | .nil, [], _ => rfl
  | .nil, _ :: _, q => by simp [chkEs] at q
  | .cons _ _, [], q => by simp [chkEs] at q
  | .cons e es, x :: xs, q => by
    simp only [chkEs, Bool.and_eq_true] at q
    simp only [List.length_cons, lenEs, chkEs_len es xs q.2]
mutual
theorem sndE (HT : TOk c P w K mg base k T) : ∀ (e : E) (κ : Ck) (X : Cx) (W : WX) (x : Expr), BOk P w K mg base k X → XOk κ X W → chkE T κ e x = true → EOkP c X W x (ev T e)
  | .var i, κ, X, W, x, b, h, q => by
    cases x with
    | Name x pos =>
      simp only [chkE] at q
      obtain ⟨q1, q2, q3, q4⟩ := h.slot q
      exact .plain (by simp only [ev]; exact s_var q1 q2 q3 q4) (fun _ => rfl) (fun _ _ _ e => nomatch e)
    | _ => simp [chkE] at q
  | .cst d, κ, X, W, x, b, h, q => by
    cases x with
    | Constant v j pos =>
      cases d with
      | int i =>
        cases v with
        | int i' =>
          simp only [chkE, decide_eq_true_eq] at q
          subst q
          exact .plain (by simp only [ev]; exact s_int) (fun _ => rfl) (fun _ _ _ e => nomatch e)
        | _ => simp [chkE] at q
      | bl i =>
        cases v with
        | bool i' =>
          simp only [chkE, decide_eq_true_eq] at q
          subst q
          exact .plain (by simp only [ev]; exact s_bl) (fun _ => rfl) (fun _ _ _ e => nomatch e)
        | _ => simp [chkE] at q
      | non =>
        cases v with
        | none => exact .plain (by simp only [ev]; exact s_non) (fun _ => rfl) (fun _ _ _ e => nomatch e)
        | _ => simp [chkE] at q
      | str i =>
        cases v with
        | str i' =>
          simp only [chkE, decide_eq_true_eq] at q
          subst q
          exact .plain (by simp only [ev]; exact s_str) (fun _ => rfl) (fun _ _ _ e => nomatch e)
        | _ => simp [chkE] at q
      | _ => simp [chkE] at q
    | _ => cases d <;> simp [chkE] at q
  | .gl j, κ, X, W, x, b, h, q => by
    cases x with
    | Name x pos =>
      simp only [chkE, Bool.and_eq_true] at q
      obtain ⟨⟨q1, q2⟩, q3⟩ := q
      split at q1
      · rename_i p hp
        have q1 := of_decide_eq_true q1
        subst q1
        obtain ⟨v, u, h1, h2, h3⟩ := HT.cs j p hp
        have e : T.cs.getD j (Str.empty, .non) = p := by simp [hp]
        refine .plain ?_ (fun _ => rfl) (fun _ _ _ e => nomatch e)
        simp only [ev]
        rw [e]
        exact s_glob (h.gl q2) (by rw [b.mg]; exact h1) h2 h3 (plainN_ok q3).1
      · cases q1
    | _ => simp [chkE] at q
  | .bin o a d, κ, X, W, x, b, h, q => by
    cases x with
    | BinOp l op r pos =>
      simp only [chkE, Bool.and_eq_true, decide_eq_true_eq] at q
      obtain ⟨⟨q1, q2⟩, q3⟩ := q
      exact .plain (by simp only [ev]; exact s_bin q1 (sndE HT a κ X W l b h q2).pe (sndE HT d κ X W r b h q3).pe) (fun _ => rfl) (fun _ _ _ e => nomatch e)
    | Compare l ops rs pos =>
      match ops, rs, q with
      | [op], [r], q =>
        simp only [chkE, Bool.and_eq_true, decide_eq_true_eq, Bool.not_eq_true'] at q
        obtain ⟨⟨⟨q1, q2⟩, q3⟩, q4⟩ := q
        refine ⟨?_, fun _ => ?_, fun _ _ _ e => nomatch e⟩
        · simp only [ev]; exact s_cmp b.hu q1 (sndE HT a κ X W l b h q2).pe (sndE HT d κ X W r b h q3).pe (set_marks q4)
        · simp only [ev]; exact t_cmp b.hu q1 (sndE HT a κ X W l b h q2).pe (sndE HT d κ X W r b h q3).pe (set_marks q4)
      | [], _, q => simp [chkE] at q
      | [_], [], q => simp [chkE] at q
      | [_], _ :: _ :: _, q => simp [chkE] at q
      | _ :: _ :: _, _, q => simp [chkE] at q
    | _ => simp [chkE] at q
  | .chn o o' a d f, κ, X, W, x, b, h, q => by
    cases x with
    | Compare l ops rs pos =>
      match ops, rs, q with
      | [op, op'], [r, r'], q =>
        simp only [chkE, Bool.and_eq_true, decide_eq_true_eq, Bool.not_eq_true'] at q
        obtain ⟨⟨⟨⟨⟨q1, q2⟩, q3⟩, q4⟩, q5⟩, q6⟩ := q
        have hm : lastMarks [op, op'] [r, r'] = false := set_marks q6
        refine ⟨?_, fun _ => ?_, fun _ _ _ e => nomatch e⟩
        · simp only [ev]; exact s_chn b.hu q1 q2 (sndE HT a κ X W l b h q3).pe (sndE HT d κ X W r b h q4).pe (sndE HT f κ X W r' b h q5).pe hm
        · simp only [ev]; exact t_chn b.hu q1 q2 (sndE HT a κ X W l b h q3).pe (sndE HT d κ X W r b h q4).pe (sndE HT f κ X W r' b h q5).pe hm
      | [], _, q => simp [chkE] at q
      | [_], _, q => simp [chkE] at q
      | [_, _], [], q => simp [chkE] at q
      | [_, _], [_], q => simp [chkE] at q
      | [_, _], _ :: _ :: _ :: _, q => simp [chkE] at q
      | _ :: _ :: _ :: _, _, q => simp [chkE] at q
    | _ => simp [chkE] at q
  | .neg a, κ, X, W, x, b, h, q => by
    cases x with
    | UnaryOp op y pos =>
      cases op with
      | USub =>
        simp only [chkE] at q
        exact .plain (by simp only [ev]; exact s_neg (sndE HT a κ X W y b h q).pe) (fun _ => rfl) (fun _ _ _ e => nomatch e)
      | _ => simp [chkE] at q
    | _ => simp [chkE] at q
  | .not a, κ, X, W, x, b, h, q => by
    cases x with
    | UnaryOp op y pos =>
      cases op with
      | Not =>
        simp only [chkE, Bool.and_eq_true, Bool.not_eq_true'] at q
        have r := sndE HT a κ X W y b h q.1
        exact ⟨by simp only [ev]; exact s_not r.pe, fun _ => by simp only [ev]; exact t_not (r.pt q.2), fun _ _ _ e => nomatch e⟩
      | _ => simp [chkE] at q
    | _ => simp [chkE] at q
  | .and a d, κ, X, W, x, b, h, q => by
    cases x with
    | BoolOp op xs pos =>
      cases op with
      | And =>
        match xs, q with
        | [y, z], q =>
          simp only [chkE, Bool.and_eq_true, Bool.not_eq_true'] at q
          obtain ⟨⟨⟨q1, q2⟩, q3⟩, q4⟩ := q
          have r1 := sndE HT a κ X W y b h q1
          have r2 := sndE HT d κ X W z b h q2
          have hw : PW X (.BoolOp .And [y, z] pos) (rdT c W (ev T (.and a d))) := by simp only [ev]; exact w_and (r1.pt q3) (pw_and1 (r2.pt q4))
          exact ⟨by simp only [ev]; exact s_and r1.pe (pe_one r2.pe), fun _ => hw.pt, fun _ _ _ _ => hw⟩
        | y :: z :: u :: xs, q =>
          simp only [chkE, Bool.and_eq_true, Bool.not_eq_true'] at q
          obtain ⟨⟨q1, q2⟩, q3⟩ := q
          have r1 := sndE HT a κ X W y b h q1
          have r2 := sndE HT d κ X W _ b h q2
          have hw : PW X (.BoolOp .And (y :: z :: u :: xs) pos) (rdT c W (ev T (.and a d))) := by simp only [ev]; exact w_and (r1.pt q3) (r2.pw _ _ _ rfl)
          exact ⟨by simp only [ev]; exact s_and r1.pe r2.pe, fun _ => hw.pt, fun _ _ _ _ => hw⟩
        | [], q => simp [chkE] at q
        | [_], q => simp [chkE] at q
      | Or => simp [chkE] at q
    | _ => simp [chkE] at q
  | .or a d, κ, X, W, x, b, h, q => by
    cases x with
    | BoolOp op xs pos =>
      cases op with
      | Or =>
        match xs, q with
        | [y, z], q =>
          simp only [chkE, Bool.and_eq_true, Bool.not_eq_true'] at q
          obtain ⟨⟨⟨q1, q2⟩, q3⟩, q4⟩ := q
          have r1 := sndE HT a κ X W y b h q1
          have r2 := sndE HT d κ X W z b h q2
          have hw : PW X (.BoolOp .Or [y, z] pos) (rdT c W (ev T (.or a d))) := by simp only [ev]; exact w_or (r1.pt q3) (pw_or1 (r2.pt q4))
          exact ⟨by simp only [ev]; exact s_or r1.pe (pe_one r2.pe), fun _ => hw.pt, fun _ _ _ _ => hw⟩
        | y :: z :: u :: xs, q =>
          simp only [chkE, Bool.and_eq_true, Bool.not_eq_true'] at q
          obtain ⟨⟨q1, q2⟩, q3⟩ := q
          have r1 := sndE HT a κ X W y b h q1
          have r2 := sndE HT d κ X W _ b h q2
          have hw : PW X (.BoolOp .Or (y :: z :: u :: xs) pos) (rdT c W (ev T (.or a d))) := by simp only [ev]; exact w_or (r1.pt q3) (r2.pw _ _ _ rfl)
          exact ⟨by simp only [ev]; exact s_or r1.pe r2.pe, fun _ => hw.pt, fun _ _ _ _ => hw⟩
        | [], q => simp [chkE] at q
        | [_], q => simp [chkE] at q
      | And => simp [chkE] at q
    | _ => simp [chkE] at q
  | .ite t a d, κ, X, W, x, b, h, q => by
    cases x with
    | IfExp y z u pos =>
      simp only [chkE, Bool.and_eq_true, Bool.not_eq_true'] at q
      obtain ⟨⟨⟨q1, q2⟩, q3⟩, q4⟩ := q
      exact ⟨by simp only [ev]; exact s_ite ((sndE HT t κ X W y b h q1).pt q4) (sndE HT a κ X W z b h q2).pe (sndE HT d κ X W u b h q3).pe, fun e => by simp [isIfE] at e, fun _ _ _ e => nomatch e⟩
    | _ => simp [chkE] at q
  | .tup es, κ, X, W, x, b, h, q => by
    cases x with
    | Tuple xs j pos =>
      simp only [chkE] at q
      exact .plain (by simp only [ev]; exact s_tup (sndEs HT es κ X W xs b h q).pa) (fun _ => rfl) (fun _ _ _ e => nomatch e)
    | _ => simp [chkE] at q
  | .lm l, κ, X, W, x, b, h, q => by
    have q : chkL T κ l x = true := by simpa [chkE] using q
    have hp := (sndL HT l κ X W x b h q).pe
    have hs : PE X x (rd c W (ev T (.lm l))) := by simp only [ev]; exact s_of_l hp
    have hk : (∃ xs pos, x = .List xs pos) ∨ (∃ f as ks pos, x = .Call f as ks pos) ∨ ∃ y gs s pos, x = .ListComp y gs s pos := by
      cases l with
      | disp es => cases x <;> first | exact .inl ⟨_, _, rfl⟩ | simp [chkL] at q
      | of es => cases x <;> first | exact .inr (.inl ⟨_, _, _, _, rfl⟩) | simp [chkL] at q
      | lrg a => cases x <;> first | exact .inr (.inl ⟨_, _, _, _, rfl⟩) | simp [chkL] at q
      | comp a t v i d => cases x <;> first | exact .inr (.inr ⟨_, _, _, _, rfl⟩) | simp [chkL] at q
    rcases hk with ⟨_, _, rfl⟩ | ⟨_, _, _, _, rfl⟩ | ⟨_, _, _, _, rfl⟩ <;> exact .plain hs (fun _ => rfl) (fun _ _ _ e => nomatch e)
  | .ix a d, κ, X, W, x, b, h, q => by
    cases x with
    | Subscript y z pos =>
      simp only [chkE, Bool.and_eq_true, Bool.not_eq_true'] at q
      obtain ⟨⟨q1, q2⟩, q3⟩ := q
      exact .plain (by simp only [ev]; exact s_ix (sndE HT a κ X W y b h q1).pe (sndE HT d κ X W z b h q2).pe (plain_ix q3)) (fun _ => rfl) (fun _ _ _ e => nomatch e)
    | _ => simp [chkE] at q
  | .oix i d, κ, X, W, x, b, h, q => by
    cases x with
    | Subscript y z pos =>
      cases y with
      | Name y p =>
        simp only [chkE, Bool.and_eq_true, Bool.not_eq_true'] at q
        obtain ⟨⟨q1, q2⟩, q3⟩ := q
        obtain ⟨r1, r2, r3, r4⟩ := h.slot q1
        exact .plain (by simp only [ev]; exact oix_ok r1 r2 r3 r4 (sndE HT d κ X W z b h q2).pe (plain_ix q3)) (fun _ => rfl) (fun _ _ _ e => nomatch e)
      | _ => simp [chkE] at q
    | _ => simp [chkE] at q
  | .sl a lo hi, κ, X, W, x, b, h, q => by
    cases x with
    | Subscript y z pos =>
      cases z with
      | Slice l u st p =>
        cases st with
        | none =>
          simp only [chkE, Bool.and_eq_true] at q
          obtain ⟨⟨q1, q2⟩, q3⟩ := q
          exact .plain (by simp only [ev]; exact s_sl (sndE HT a κ X W y b h q1).pe (sndO HT lo κ X W l b h q2) (sndO HT hi κ X W u b h q3)) (fun _ => rfl) (fun _ _ _ e => nomatch e)
        | some _ => simp [chkE] at q
      | _ => simp [chkE] at q
    | _ => simp [chkE] at q
  | .rev a, κ, X, W, x, b, h, q => by
    obtain ⟨y, j, p1, p2, p3, pos, rfl, q⟩ := chk_rev q
    exact .plain (by simp only [ev]; exact s_rev (sndE HT a κ X W y b h q).pe) (fun _ => rfl) (fun _ _ _ e => nomatch e)
  | .call f es, κ, X, W, x, b, h, q => by
    cases x with
    | Call g as ks pos =>
      cases g with
      | Name y p =>
        cases as with
        | nil => cases ks <;> simp [chkE] at q
        | cons z zs =>
          cases ks with
          | cons _ _ => simp [chkE] at q
          | nil =>
            simp only [chkE, Bool.and_eq_true] at q
            obtain ⟨⟨⟨q1, q2⟩, q3⟩, q4⟩ := q
            have ra := sndEs HT es κ X W (z :: zs) b h q4
            split at q1
            · rename_i pp hp
              simp only [Bool.and_eq_true, decide_eq_true_eq] at q1
              obtain ⟨rfl, e2⟩ := q1
              have F := HT.fns X b f pp hp
              have e : T.fns.getD f noF = pp := by simp [hp]
              refine .plain ?_ (fun _ => rfl) (fun _ _ _ e => nomatch e)
              simp only [ev]
              rw [e]
              refine s_call h.tk F (h.gl q2) ra.pa ?_ (fun r w ds w' e => by rw [e2]; exact evs_len T es r w w' ds e) (plainN_ok q3).1 (star_cons (ra.st z List.mem_cons_self)) (star_any fun x hx => ra.st x (List.mem_cons_of_mem _ hx))
              rw [e2]
              exact chkEs_len es (z :: zs) q4
            · cases q1
      | _ => simp [chkE] at q
    | _ => simp [chkE] at q
  | .pri f es, κ, X, W, x, b, h, q => by
    cases x with
    | Call g as ks pos =>
      cases g with
      | Name y p =>
        cases as with
        | nil => cases ks <;> simp [chkE] at q
        | cons z zs =>
          cases ks with
          | cons _ _ => simp [chkE] at q
          | nil =>
            simp only [chkE, Bool.and_eq_true] at q
            obtain ⟨⟨⟨q1, q2⟩, q3⟩, q4⟩ := q
            have ra := sndEs HT es κ X W (z :: zs) b h q4
            split at q1
            · rename_i pp hp
              have q1 := of_decide_eq_true q1
              subst q1
              have F := HT.pri X W b h.tk f pp hp
              have e : T.pri.getD f (Str.empty, fun _ => none) = pp := by simp [hp]
              refine .plain ?_ (fun _ => rfl) (fun _ _ _ e => nomatch e)
              simp only [ev]
              rw [e]
              exact F z zs _ p pos (h.gl q2) ra.pa (star_cons (ra.st z List.mem_cons_self)) (star_any fun x hx => ra.st x (List.mem_cons_of_mem _ hx))
            · cases q1
      | _ => simp [chkE] at q
    | _ => simp [chkE] at q
  | .bmt f o es, κ, X, W, x, b, h, q => by
    cases x with
    | Call g as ks pos =>
      cases g with
      | Attribute y nm p =>
        cases as with
        | nil => cases ks <;> simp [chkE] at q
        | cons z zs =>
          cases ks with
          | cons _ _ => simp [chkE] at q
          | nil =>
            simp only [chkE, Bool.and_eq_true, decide_eq_true_eq] at q
            obtain ⟨⟨⟨⟨⟨q1, q2⟩, q3⟩, q4⟩, q5⟩, q6⟩ := q
            have ra := sndEs HT es κ X W (z :: zs) b h q3
            split at q1
            · rename_i pp hp
              have q1 := of_decide_eq_true q1
              subst q1
              have F := HT.bmt X W b h.tk f pp hp
              have e : T.bmt.getD f (Str.empty, fun _ _ => none) = pp := by simp [hp]
              refine .plain ?_ (fun _ => rfl) (fun _ _ _ e => nomatch e)
              simp only [ev]
              rw [e]
              exact F y z zs _ _ p pos (sndE HT o κ X W y b h q2).pe ra.pa (star_cons (ra.st z List.mem_cons_self)) (star_any fun x hx => ra.st x (List.mem_cons_of_mem _ hx)) (star_all ra.st) (by rw [chkEs_len es (z :: zs) q3]; exact q5) q4 (attr_base (by simpa using q6))
            · cases q1
      | _ => simp [chkE] at q
    | _ => simp [chkE] at q
  | .isi a t, κ, X, W, x, b, h, q => by
    obtain ⟨y, p, p', pos, rfl, q3, q4, q5, q6⟩ := chk_isi q
    have hmt : X.mg (Str.ofString t) = none := by
      rw [b.mg]
      unfold tyOk at q3
      split at q3 <;> first | exact HT.int | exact HT.bool | exact HT.str | exact HT.list | exact HT.tuple | cases q3
    exact .plain (by simp only [ev]; exact isi_ok q3 (h.gl q4) (by rw [b.mg]; exact HT.isinstance) (h.gl q5) hmt (sndE HT a κ X W y b h q6).pe (chk_not_star q6)) (fun _ => rfl) (fun _ _ _ e => nomatch e)
  | .isx a j, κ, X, W, x, b, h, q => by
    obtain ⟨y, z, p, p', pos, pp, rfl, q1, q2, q3, q4, q5, q6⟩ := chk_isx q
    obtain ⟨v, cv, c1, c2⟩ := HT.cls j pp q1
    have e : T.cls.getD j noC = pp := by simp [q1]
    refine .plain ?_ (fun _ => rfl) (fun _ _ _ e => nomatch e)
    simp only [ev]
    rw [e]
    exact isx_ok (h.gl q3) (by rw [b.mg]; exact HT.isinstance) (h.gl q4) (by rw [b.mg, ← q2]; exact c1) (plainN_ok q5).1 (by rw [b.K]; exact c2) (sndE HT a κ X W y b h q6).pe (chk_not_star q6)
  | .pr2 j a, κ, X, W, x, b, h, q => by
    obtain ⟨f, g, z, p, p2, pos, pos2, pp, rfl, q1, q2, q3, q4, q5, q6⟩ := chk_pr2 q
    have e : T.pr2.getD j noP2 = pp := by simp [q1]
    refine .plain ?_ (fun _ => rfl) (fun _ _ _ e => nomatch e)
    simp only [ev]
    rw [e, ← q2, ← q3]
    exact HT.pr2 X W b h.tk j pp q1 z _ p p2 pos2 pos (by rw [q2]; exact h.gl q4) (by rw [q3]; exact h.gl q5) (sndE HT a κ X W z b h q6).pe (star_cons (chk_not_star q6))
  | .ocmp o i d, κ, X, W, x, b, h, q => by
    cases x with
    | Compare l ops rs pos =>
      cases l with
      | Name y p =>
        match ops, rs, q with
        | [op], [r], q =>
          simp only [chkE, Bool.and_eq_true, decide_eq_true_eq, Bool.not_eq_true', Bool.or_eq_true] at q
          obtain ⟨⟨⟨⟨q1, q2⟩, q3⟩, q4⟩, q5⟩ := q
          obtain ⟨r1, r2, r3, r4⟩ := h.slot q3
          have rd' := (sndE HT d κ X W r b h q4).pe
          have hu := b.hu
          rcases q2 with rfl | rfl
          · cases op <;> simp [cmpOf] at q1
            refine ⟨?_, fun _ => ?_, fun _ _ _ e => nomatch e⟩
            · simp only [ev]; exact (pe_cmpR (op_eqD (by omega)) (pe_var r1 r2 r3 r4) rd' (set_marks q5)).mono fun _ _ _ z => ocmp_core (.inl ⟨rfl, rfl⟩) z
            · simp only [ev]; exact (pt_cmpR (op_eqD (by omega)) (pe_var r1 r2 r3 r4) rd' (set_marks q5)).mono fun _ _ _ z => ocmp_core (.inl ⟨rfl, rfl⟩) (rd_test z)
          · cases op <;> simp [cmpOf] at q1
            refine ⟨?_, fun _ => ?_, fun _ _ _ e => nomatch e⟩
            · simp only [ev]; exact (pe_cmpR (op_neD (by omega)) (pe_var r1 r2 r3 r4) rd' (set_marks q5)).mono fun _ _ _ z => ocmp_core (.inr ⟨rfl, rfl⟩) z
            · simp only [ev]; exact (pt_cmpR (op_neD (by omega)) (pe_var r1 r2 r3 r4) rd' (set_marks q5)).mono fun _ _ _ z => ocmp_core (.inr ⟨rfl, rfl⟩) (rd_test z)
        | [], _, q => simp [chkE] at q
        | [_], [], q => simp [chkE] at q
        | [_], _ :: _ :: _, q => simp [chkE] at q
        | _ :: _ :: _, _, q => simp [chkE] at q
      | _ => simp [chkE] at q
    | _ => simp [chkE] at q
  | .callO f fst i d, κ, X, W, x, b, h, q => by
    obtain ⟨nm, p, n, p', y, pos, pp, rfl, q1, q2, q3, q4, q5, q6, q7, q8⟩ := chk_callO q
    obtain ⟨r1, r2, r3, r4⟩ := h.slot q7
    have F := HT.fns X b f pp q1
    rw [q2, q3] at F
    have e : T.fns.getD f noF = pp := by simp [q1]
    refine .plain ?_ (fun _ => rfl) (fun _ _ _ e => nomatch e)
    simp only [ev]
    rw [e]
    exact callO_ok h.tk F (h.gl q4) r1 r2 r3 r4 (sndE HT d κ X W y b h q8).pe q6 (plainN_ok q5).1
  | .hk j es, κ, X, W, x, b, h, q => by
    obtain ⟨pp, xs, q1, q2, q3⟩ := chk_hk q
    have e : T.hks.getD j noH = pp := by simp [q1]
    have ra := sndEs HT es κ X W xs b h q3
    simp only [ev]
    rw [e]
    exact HT.hks X W b h.tk j pp q1 κ x xs _ h q2 ra.all
theorem sndEs (HT : TOk c P w K mg base k T) : ∀ (es : Es) (κ : Ck) (X : Cx) (W : WX) (xs : List Expr), BOk P w K mg base k X → XOk κ X W → chkEs T κ es xs = true → AOkP c X W xs (evs T es) (evm T es)
  | .nil, κ, X, W, xs, b, h, q => by
    cases xs with
    | nil => exact ⟨by simp only [evs]; exact a_nil, (fun x hx => by cases hx), by simp only [evm]; exact .nil⟩
    | cons x xs => simp [chkEs] at q
  | .cons e es, κ, X, W, xs, b, h, q => by
    cases xs with
    | nil => simp [chkEs] at q
    | cons x xs =>
      simp only [chkEs, Bool.and_eq_true, Bool.not_eq_true'] at q
      obtain ⟨⟨q1, q2⟩, q3⟩ := q
      have r := sndEs HT es κ X W xs b h q3
      refine ⟨by simp only [evs]; exact a_cons (sndE HT e κ X W x b h q2).pe r.pa (star_cons q1), fun y hy => ?_, by simp only [evm]; exact .cons (sndE HT e κ X W x b h q2).pe q1 r.all⟩
      rcases List.mem_cons.mp hy with rfl | hy
      · exact q1
      · exact r.st y hy
theorem sndO (HT : TOk c P w K mg base k T) : ∀ (o : Oe) (κ : Ck) (X : Cx) (W : WX) (x : Option Expr), BOk P w K mg base k X → XOk κ X W → chkO T κ o x = true → PO X x (rdP c W (evo T o))
  | .no, κ, X, W, x, b, h, q => by
    cases x with
    | none => simp only [evo]; exact o_none
    | some x => simp [chkO] at q
  | .so e, κ, X, W, x, b, h, q => by
    cases x with
    | none => simp [chkO] at q
    | some x =>
      simp only [chkO] at q
      simp only [evo]
      exact o_some (sndE HT e κ X W x b h q).pe
theorem sndC (HT : TOk c P w K mg base k T) : ∀ (o : Oe) (κ : Ck) (X : Cx) (W : WX) (xs : List Expr), BOk P w K mg base k X → XOk κ X W → chkC T κ o xs = true → PTs X xs (rdT c W (evc T o))
  | .no, κ, X, W, xs, b, h, q => by
    cases xs with
    | nil =>
      simp only [evc]
      refine ⟨fun pins s σ H Q I hw => pts_nil.run pins s σ H Q I ?_⟩
      obtain ⟨B, g, r, w, E, kk, p⟩ := hw
      exact p g H true (Ext.refl _ _) kk rfl
    | cons x xs => simp [chkC] at q
  | .so e, κ, X, W, xs, b, h, q => by
    match xs, q with
    | [x], q =>
      simp only [chkC, Bool.and_eq_true, Bool.not_eq_true'] at q
      simp only [evc]
      exact pts_one ((sndE HT e κ X W x b h q.1).pt q.2)
    | [], q => simp [chkC] at q
    | _ :: _ :: _, q => simp [chkC] at q
theorem sndL (HT : TOk c P w K mg base k T) : ∀ (l : L) (κ : Ck) (X : Cx) (W : WX) (x : Expr), BOk P w K mg base k X → XOk κ X W → chkL T κ l x = true → LOkP c X W x (evl T l)
  | .disp es, κ, X, W, x, b, h, q => by
    cases x with
    | List xs pos =>
      simp only [chkL] at q
      simp only [evl]
      exact ⟨l_disp (sndEs HT es κ X W xs b h q).pa, fun _ _ _ _ _ _ e => nomatch e⟩
    | _ => simp [chkL] at q
  | .of es, κ, X, W, x, b, h, q => by
    obtain ⟨y, ys, p, pos, rfl, q2, q3⟩ := chk_of q
    have ra := sndEs HT es κ X W _ b h q3
    simp only [evl]
    exact ⟨l_of (h.gl q2) (by rw [b.mg]; exact HT.list) ra.pa (star_cons (ra.st _ List.mem_cons_self)) (star_any fun x hx => ra.st x (List.mem_cons_of_mem _ hx)), fun _ _ _ _ _ _ e => nomatch e⟩
  | .lrg a, κ, X, W, x, b, h, q => by
    obtain ⟨z, p, p2, pos, pos2, rfl, q2, q3, q4⟩ := chk_lrg q
    simp only [evl]
    exact ⟨l_lrg b.calm (h.gl q2) (by rw [b.mg]; exact HT.list) (h.gl q3) (by rw [b.mg]; exact HT.range) (sndE HT a κ X W z b h q4).pe (chk_not_star q4), fun _ _ _ _ _ _ e => nomatch e⟩
  | .comp elt t vs it cond, κ, X, W, x, b, h, q => by
    obtain ⟨y, tg, iter, ifs, scope, pos, rfl, own, h1, h2, h3, h4, h5, h6, h7, h8⟩ := chk_comp q
    have pi := (sndI HT it κ X W iter tg b h h4).pe
    have hl : LcOk c X W y tg iter ifs scope (evl T (.comp elt t vs it cond)) := by
      refine ⟨own, _, rdG c t, _, _, pi, by rw [h.N, h.sc]; exact h1, fun s H C cl fp => sndT (κ := ⟨κ.N, relS scope κ.sc, fun x => scope.names.lookup x == some .cell⟩) h.blk b.blk.calm t tg h6,
        fun s H C cl fp => sndC HT cond _ _ WF ifs b.blk h.blk h7, fun s H C cl fp => (sndE HT elt _ _ WF y b.blk h.blk h8).pe, set_fold h5, ?_⟩
      simp only [evl]
      rw [← h2]
      exact l_comp b.calm h.nodup pi (by rw [h.N, h.sc]; exact h1) (fun s H C cl fp => sndT (κ := ⟨κ.N, relS scope κ.sc, fun x => scope.names.lookup x == some .cell⟩) h.blk b.blk.calm t tg h6)
        (fun s H C cl fp => sndC HT cond _ _ WF ifs b.blk h.blk h7) (fun s H C cl fp => (sndE HT elt _ _ WF y b.blk h.blk h8).pe) (fun i hi => by rw [h2]; exact h3 i hi) (set_fold h5)
    refine ⟨?_, fun y' tg' iter' ifs' scope' pos' e => by cases e; exact hl⟩
    obtain ⟨own, wi, g, tt, te, r1, r2, r3, r4, r5, r6, r7⟩ := hl.ex
    exact (pe_lc b.calm h.nodup r1 r2 r3 r4 r5 r6).mono r7
theorem sndI (HT : TOk c P w K mg base k T) : ∀ (it : I) (κ : Ck) (X : Cx) (W : WX) (x tg : Expr), BOk P w K mg base k X → XOk κ X W → chkI T κ it x tg = true → IOkP c X W tg x it (evi T it)
  | .seq e, κ, X, W, x, tg, b, h, q => by
    simp only [chkI] at q
    have r : PI X tg x (rdI c W (evi T (.seq e))) := by simp only [evi]; exact i_seq (sndE HT e κ X W x b h q).pe
    exact ⟨i_weak r, fun _ => r⟩
  | .txt e, κ, X, W, x, tg, b, h, q => by
    simp only [chkI] at q
    have r : PI X tg x (rdI c W (evi T (.txt e))) := by simp only [evi]; exact i_txt (sndE HT e κ X W x b h q).pe
    exact ⟨i_weak r, fun _ => r⟩
  | .rng es, κ, X, W, x, tg, b, h, q => by
    have r : PI X tg x (rdI c W (evi T (.rng es))) := by
      simp only [evi]
      rcases chk_rng q with ⟨y, p, pos, rfl, q1, q2⟩ | ⟨y, z, p, pos, rfl, q1, q2⟩
      · have ra := sndEs HT es κ X W _ b h q2
        exact i_rng1 (h.gl q1) (by rw [b.mg]; exact HT.range) ra.pa (star_cons (ra.st _ List.mem_cons_self)) fun r w ds w' e => by rw [evs_len T es r w w' ds e, ← chkEs_len es _ q2]; rfl
      · have ra := sndEs HT es κ X W _ b h q2
        have s2 : isStar z = false := ra.st z (by simp)
        exact i_rng2 (h.gl q1) (by rw [b.mg]; exact HT.range) ra.pa (by rw [star_cons (ra.st _ List.mem_cons_self), star_cons s2]; rfl) (star_cons s2) fun r w ds w' e => by rw [evs_len T es r w w' ds e, ← chkEs_len es _ q2]; rfl
    exact ⟨i_weak r, fun _ => r⟩
  | .enm es, κ, X, W, x, tg, b, h, q => by
    have r : PI X tg x (rdI c W (evi T (.enm es))) := by
      simp only [evi]
      obtain ⟨y, p, pos, ts, j, tp, rfl, rfl, q1, q2⟩ := chk_enm q
      have ra := sndEs HT es κ X W _ b h q2
      exact i_enum (h.gl q1) (by rw [b.mg]; exact HT.enumerate) ra.pa (star_cons (ra.st _ List.mem_cons_self))
    exact ⟨i_weak r, fun _ => r⟩
  | .zip es, κ, X, W, x, tg, b, h, q => by
    have r : PI X tg x (rdI c W (evi T (.zip es))) := by
      simp only [evi]
      obtain ⟨y, z, p, pos, ts, j, tp, rfl, rfl, q1, q2⟩ := chk_zip q
      have ra := sndEs HT es κ X W _ b h q2
      have s2 : isStar z = false := ra.st z (by simp)
      exact i_zip (h.gl q1) (by rw [b.mg]; exact HT.zip) ra.pa (by rw [star_cons (ra.st _ List.mem_cons_self), star_cons s2]; rfl) (star_cons s2)
    exact ⟨i_weak r, fun _ => r⟩
  | .own i, κ, X, W, x, tg, b, h, q => by
    refine ⟨?_, fun e => by cases e⟩
    cases x with
    | Name x p =>
      simp only [chkI] at q
      simp only [evi]
      obtain ⟨r1, r2, r3, r4⟩ := h.slot q
      exact i_own r1 r2 r3 r4
    | _ => simp [chkI] at q
  | .ownE i, κ, X, W, x, tg, b, h, q => by
    refine ⟨?_, fun e => by cases e⟩
    obtain ⟨y, p', p, pos, ts, j, tp, rfl, rfl, q1, q2⟩ := chk_ownE q
    simp only [evi]
    obtain ⟨r1, r2, r3, r4⟩ := h.slot q2
    exact i_ownE (h.gl q1) (by rw [b.mg]; exact HT.enumerate) r1 r2 r3 r4
end
end
end RL

namespace RL
open PySem L2

/-- *= of ints -/
def bIMul : D → D → Option D
  | .int a, .int b => if sm a && sm b then some (.int (a * b)) else none
  | _, _ => none
mutual
inductive S where
  | ret (e : E) | exp (e : E) | asg (t : Tg) (e : E) | own (i : Nat) (l : L) | iff (t : E) (a b : Ss) | for' (t : Tg) (it : I) (b : Ss) | whl (μ : Rho → Nat) (t : E) (b : Ss) | rais (k : Nat)
  | imul (i : Nat) (e : E) | app (i : Nat) (e : E) | ext (i : Nat) (e : E) | set (i : Nat) (j e : E) | set2 (i : Nat) (a b e : E) | frz (i : Nat) (s : S) | tryK (b : Ss) (i j t : Nat) | pass | nev | own2 (i j : Nat)
inductive Ss where
  | nil | cons (s : S) (ss : Ss)
end
/-- try, except .. as e: caught = e -/
def sTry (ks : List Nat) (i j : Nat) (m : MS) : MS := fun r w => match m r w with
  | .exc k r' w' => if ks.contains k then .next (((r'.set i .emp).set j (.dat (.exc k))).set i .emp) w' else .bad
  | x => x
mutual
def es (T : Tab) : S → MS
  | .ret e => sRet (ev T e)
  | .exp e => sExp (ev T e)
  | .asg t e => sAsg t (ev T e)
  | .own i l => sOwn i (evl T l)
  | .iff t a b => sIf (ev T t) (ess T a) (ess T b)
  | .for' t it b => sFor (evi T it) t (ess T b)
  | .whl μ t b => sWh μ (ev T t) (ess T b)
  | .rais k => sRaise k
  | .imul i e => sAug bIMul i (ev T e)
  | .app i e => sMut i fApp (ev T e)
  | .ext i e => sMut i fExt (ev T e)
  | .set i j e => sSet i (ev T j) (ev T e)
  | .set2 i a b e => sSet2 i (ev T a) (ev T b) (ev T e)
  | .frz i s => sFrz i (es T s)
  | .tryK b i j t => sTry (T.trs.getD t (Str.empty, [])).2 i j (ess T b)
  | .pass => sNil
  | .nev => fun _ _ => .bad
  | .own2 i j => fun r w => .next ((r.set i (.own [])).set j (.own [])) w
def ess (T : Tab) : Ss → MS
  | .nil => sNil
  | .cons s ss => sSeq (es T s) (ess T ss)
end
def isLC : Expr → Bool
  | .ListComp .. => true
  | .SetComp .. => true
  | .DictComp .. => true
  | _ => false
def isLm : E → Bool
  | .lm _ => true
  | _ => false
def isTupE : Expr → Bool
  | .Tuple .. => true
  | _ => false
def isLocal (sc : Scope) (x : Str) : Bool := match sc.names.lookup x with
  | some .local => true
  | _ => false
/-- name = [..] on one line: the name is stored within the comprehension's frame -/
def lcSw (sc : Scope) (y : Str) (py : Pos) : Expr → Bool
  | .ListComp _ _ scope pos => isLocal sc y && (py.line == pos.line) && !(scope.names.any fun (n, k) => n == y && (k == .local || k == .cell))
  | _ => false
def lcNo (sc : Scope) (y : Str) (py : Pos) : Expr → Bool
  | .ListComp _ _ scope pos => !isLocal sc y
  | x => !isLC x
/-- a, b = x, y: stored from the right -/
def sw2 (sc : Scope) : List Expr → List Expr → Bool
  | [.Name a pa, .Name b pb], [x, y] => isLocal sc a && isLocal sc b && (pb.line == pa.line) && !(a == b) && !(foldedForSure 8 x && foldedForSure 8 y) && !(constantsAlone 8 x && constantsAlone 8 y)
  | _, _ => false
def no2 (sc : Scope) : List Expr → List Expr → Bool
  | [.Name a pa, .Name b pb], [x, y] => !isLocal sc a || !isLocal sc b
  | _, _ => false
def twoT : Tg → E → Option (Nat × Nat × E × E)
  | .tp (.cons (.nm i) (.cons (.nm j) .nil)), .tup (.cons a (.cons b .nil)) => some (i, j, a, b)
  | _, _ => none
mutual
def chkS (T : Tab) (κ : Ck) : S → Stmt → Bool
  | .ret e, .Return (some x) _ => chkE T κ e x
  | .exp e, .Expr x _ => chkE T κ e x && !isLC x
  | .asg (.nm i) e, .Assign [.Name y py] x _ => storB κ i y && chkE T κ e x && (lcSw κ.sc y py x || lcNo κ.sc y py x) && (!isLC x || isLm e)
  | .asg (.tp ts) e, .Assign [.Tuple ys j p] x _ => chkT κ (.tp ts) (.Tuple ys j p) && chkE T κ e x && (match x with
    | .Tuple xs _ _ => no2 κ.sc ys xs || (sw2 κ.sc ys xs && (twoT (.tp ts) e).isSome)
    | _ => true)
  | .own i l, .Assign [.Name y py] x _ => storB κ i y && chkL T κ l x && (lcSw κ.sc y py x || lcNo κ.sc y py x)
  | .iff t a b, .If x xs ys _ => chkE T κ t x && !isIfE x && chkSs T κ a xs && chkSs T κ b ys
  | .for' t it b, .For tg x xs [] _ => chkT κ t tg && chkI T κ it x tg && !isSet x && !isOwnI it && chkSs T κ b xs
  | .whl _ t b, .While x xs [] _ => chkE T κ t x && !isIfE x && chkSs T κ b xs
  | .rais k, .Raise (some (.Call (.Name x _) [.Constant (.str _) _ _] [] _)) none _ => decide (T.exs[k]? = some x) && glB κ.sc x && plainN x
  | .imul i e, .AugAssign (.Name y _) .Mult x _ => storB κ i y && chkE T κ e x
  | .ext i e, .AugAssign (.Name y _) .Add x _ => storB κ i y && chkE T κ e x
  | .app i e, .Expr (.Call (.Attribute (.Name y _) nm apos) [x] [] cpos) _ => decide (nm = "append") && slotB κ i y && chkE T κ e x && (apos.endLine == cpos.line)
  | .set i j e, .Assign [.Subscript (.Name y _) z _] x _ => slotB κ i y && chkE T κ j z && chkE T κ e x && !isSlice z && !isLC x
  | .set2 i a b e, .Assign [.Tuple [.Subscript (.Name y _) z _, .Subscript (.Name y' _) z' _] _ _] x _ => slotB κ i y && decide (y' = y) && chkE T κ a z && chkE T κ b z' && chkE T κ e x && !isSlice z && !isSlice z' && !isLC x
  | .frz _ s, st => chkS T κ s st
  | .tryK b i j t, .Try xs [.ExceptHandler (some (.Name x _)) (some n) [.Assign [.Name y py] (.Name z _) _] _] [] [] _ => (match T.trs[t]? with | some p => decide (p.1 = x) | none => false) && glB κ.sc x && plainN x && storB κ i n && isLocal κ.sc n && slotB κ i z && storB κ j y && isLocal κ.sc y && chkSs T κ b xs
  | .pass, .Pass _ => true
  | .nev, _ => true
  | .own2 i j, .Assign [.Tuple [.Name a pa, .Name b pb] _ _] (.Tuple [.List [] p1, .List [] p2] _ _) _ => storB κ i a && storB κ j b && sw2 κ.sc [.Name a pa, .Name b pb] [.List [] p1, .List [] p2]
  | _, _ => false
def chkSs (T : Tab) (κ : Ck) : Ss → List Stmt → Bool
  | .nil, [] => true
  | .cons s ss, st :: sts => chkS T κ s st && chkSs T κ ss sts
  | _, _ => false
end
theorem isLocal_ok {sc : Scope} {x : Str} (h : isLocal sc x = true) : sc.names.lookup x = some .local := by
  unfold isLocal at h
  split at h
  · assumption
  · cases h
theorem isLocal_no {sc : Scope} {x : Str} (h : isLocal sc x = false) : sc.names.lookup x ≠ some .local := by
  intro e
  unfold isLocal at h
  rw [e] at h
  cases h
theorem lc_false {x : Expr} {tg : Option Expr} {l : Nat} {env : PySem.Env} (h : isLC x = false) : swapsWith x tg l env = pure false := by
  cases x <;> first | rfl | cases h
theorem lcNo_ok {x : Expr} {y : Str} {py : Pos} {l : Nat} {env : PySem.Env} (h : lcNo env.scope y py x = true) : swapsWith x (some (.Name y py)) l env = pure false := by
  cases x with
  | ListComp a b scope pos =>
    simp only [lcNo, Bool.not_eq_true'] at h
    have e : (env.kindOf y == some NameKind.local) = false := by
      have := isLocal_no h
      exact beq_eq_false_iff_ne.mpr this
    unfold swapsWith
    simp only [e, Bool.and_false, Bool.false_and]
  | _ => first | rfl | (simp [lcNo, isLC] at h)
theorem stores_none {x tg : Expr} {env : PySem.Env} (h : isTupE x = false) : swappedStores [tg] x env = pure none := by
  cases x <;> first | (cases tg <;> rfl) | cases h
theorem stores_sub {x o i : Expr} {p : Pos} {env : PySem.Env} : swappedStores [.Subscript o i p] x env = pure none := by cases x <;> rfl
theorem sw2_none {a b : Str} {pa pb p p' : Pos} {j j' : Nat} {x y : Expr} {env : PySem.Env} (h : no2 env.scope [.Name a pa, .Name b pb] [x, y] = true) :
    swappedStores [.Tuple [.Name a pa, .Name b pb] j p] (.Tuple [x, y] j' p') env = pure none := by
  have h : (env.kindOf a == some NameKind.local) = false ∨ (env.kindOf b == some NameKind.local) = false := by
    simp only [no2, Bool.or_eq_true, Bool.not_eq_true'] at h
    rcases h with h | h
    · exact .inl (beq_eq_false_iff_ne.mpr (isLocal_no h))
    · exact .inr (beq_eq_false_iff_ne.mpr (isLocal_no h))
  unfold swappedStores
  simp only [List.length_cons, List.length_nil, List.any_cons, List.any_nil, List.filterMap_cons, List.filterMap_nil]
  rcases h with h | h
  · simp only [h]
    simp only [Bool.false_and, Bool.false_eq_true, if_false]
    cases hb : (env.kindOf b == some NameKind.local) <;> cases hl : (pb.line == (Option.map (fun x => x.pos.line) [Expr.Name a pa, Expr.Name b pb].head?).getD 0) <;> simp
  · simp only [h]
    simp only [Bool.false_and, Bool.false_eq_true, if_false]
    cases hb : (env.kindOf a == some NameKind.local) <;> cases hl : (pa.line == (Option.map (fun x => x.pos.line) [Expr.Name a pa, Expr.Name b pb].head?).getD 0) <;> simp
theorem stores_sub2 {x o i o' i' : Expr} {p p' tp : Pos} {kt : Nat} {env : PySem.Env} : swappedStores [.Tuple [.Subscript o i p, .Subscript o' i' p'] kt tp] x env = pure none := by
  cases x with
  | Tuple vs j q =>
    unfold swappedStores
    simp only [List.length_cons, List.length_nil, List.filterMap_cons, List.filterMap_nil]
    split
    · rfl
    · split
      · rfl
      · rfl
  | _ => rfl
theorem sw2_some {a b : Str} {pa pb p p' : Pos} {j j' : Nat} {x y : Expr} {env : PySem.Env} (hk : env.scope.kind = .function) (sx : isStar x = false) (sy : isStar y = false) (h : sw2 env.scope [.Name a pa, .Name b pb] [x, y] = true) :
    swappedStores [.Tuple [.Name a pa, .Name b pb] j p] (.Tuple [x, y] j' p') env = pure (some [a, b]) := by
  simp only [sw2, Bool.and_eq_true, Bool.not_eq_true'] at h
  obtain ⟨⟨⟨⟨⟨g1, g2⟩, hl⟩, hab⟩, hf⟩, hc⟩ := h
  have h1 : (env.kindOf a == some NameKind.local) = true := beq_iff_eq.mpr (isLocal_ok g1)
  have h2 : (env.kindOf b == some NameKind.local) = true := beq_iff_eq.mpr (isLocal_ok g2)
  have hb : env.blockKind = .function := by unfold Env.blockKind; rw [hk]; rfl
  unfold swappedStores
  have hab' : (b == a) = false := by rw [BEq.comm]; exact hab
  simp only [List.length_cons, List.length_nil, List.any_cons, List.any_nil, List.filterMap_cons, List.filterMap_nil, hb, h1, h2, List.head?_cons, Option.map_some, Option.getD_some, Expr.pos, hl, beq_self_eq_true, Bool.and_self, Bool.and_true, if_true, List.all_cons, List.all_nil]
  rw [if_neg (by decide)]
  refine (if_neg (fun q => ?_)).trans ?_
  · have q : (isStar x || (isStar y || false)) = true := q
    rw [sx, sy] at q
    cases q
  simp only [List.length_cons, List.length_nil, List.eraseDups_cons, List.filter_cons, hab', hab, Bool.not_false, if_true, List.filter_nil, List.eraseDups_nil, hf, hc, Bool.and_true, Bool.false_eq_true, if_false]
  rw [if_neg (by decide)]
section
variable {c : Cn} {P : Program} {w : World} {K : PySem.W.Frag} {mg : Str → Option Value} {base : Heap} {k : Nat} {T : Tab}
theorem iop_mulW {X : Cx} : OpR X (inplaceOp .Mult) (rI CMulW fun i j => .int (i * j)) := opI fun _ _ _ _ _ _ _ hc q => PyProof.Rows.imul_int q hc.ok
theorem opS_imul : OpS c bIMul (rI CMulW fun i j => .int (i * j)) := by
  intro g H w x y dx dy d Q k rx ry e q
  unfold bIMul at e
  split at e
  · split at e <;> cases e
    rename_i hs
    rw [Bool.and_eq_true] at hs
    cases rx; cases ry
    exact ⟨_, _, rfl, rfl, sm_mul hs.1 hs.2, q.at k (.int _)⟩
  · cases e
theorem ps_name {X : Cx} {i : Nat} {y : Str} {py : Pos} {x : Expr} {t : TE} {pos : Pos} (hN : X.N.Nodup) (hi : X.N[i]? = some y) (hx : Loc X.env.scope y) (hf : X.fn y = true ∨ X.env.scope.names.lookup y = some .local) (he : PE X x t) (h : lcNo X.env.scope y py x = true) :
    PS X (.Assign [.Name y py] x pos) (tAsg t (gName i)) := ps_set hN hi hx he (lcNo_ok h) hf
/-- name = [..] either way -/
theorem ps_lc {X : Cx} {W : WX} {i : Nat} {y : Str} {py : Pos} {x : Expr} {m : MA} {pos : Pos} (hc : X.calm = true) (hN : X.N.Nodup) (hi : X.N[i]? = some y) (hx : Loc X.env.scope y) (hf : X.fn y = true ∨ X.env.scope.names.lookup y = some .local) (hk : X.env.scope.kind = .function)
    (he : LOkP c X W x m) (hg : ∀ a gs s p, x = .ListComp a gs s p → ∃ tg iter ifs, gs = [⟨tg, iter, ifs, 0⟩]) (h : (lcSw X.env.scope y py x || lcNo X.env.scope y py x) = true) : PS X (.Assign [.Name y py] x pos) (tAsg (rdL c W m) (gName i)) := by
  rw [Bool.or_eq_true] at h
  rcases h with h | h
  · cases x with
    | ListComp a gs s p =>
      obtain ⟨tg, iter, ifs, rfl⟩ := hg a gs s p rfl
      simp only [lcSw, Bool.and_eq_true, Bool.not_eq_true'] at h
      obtain ⟨⟨h1, h2⟩, h3⟩ := h
      obtain ⟨own, wi, g, tt, te, r1, r2, r3, r4, r5, r6, r7⟩ := (he.lc a tg iter ifs s p rfl).ex
      exact (ps_setLc hc hN hi (isLocal_ok h1) (sw_true hk (isLocal_ok h1) h2 h3) r1 r2 r3 r4 r5 r6).mono fun Dn σ H z => r7 σ H _ z
    | _ => simp [lcSw] at h
  · exact ps_name hN hi hx hf he.pe h
theorem chkL_gens {κ : Ck} {l : L} {x : Expr} (q : chkL T κ l x = true) : ∀ a gs s p, x = .ListComp a gs s p → ∃ tg iter ifs, gs = [⟨tg, iter, ifs, 0⟩] := by
  rintro a gs s p rfl
  cases l with
  | disp es => simp [chkL] at q
  | of es => simp [chkL] at q
  | lrg a => simp [chkL] at q
  | comp elt t vs it cond =>
    obtain ⟨y, tg, iter, ifs, scope, pos, e, _⟩ := chk_comp q
    cases e
    exact ⟨_, _, _, rfl⟩
theorem chkE_lc {κ : Ck} {e : E} {x : Expr} (q : chkE T κ e x = true) (h : isLm e = true) : ∃ l, e = .lm l ∧ chkL T κ l x = true := by
  cases e <;> first | (simp [isLm] at h; done) | exact ⟨_, rfl, by simpa [chkE] using q⟩
/-- a value of any kind is stored at a name -/
theorem ps_any (HT : TOk c P w K mg base k T) {κ : Ck} {X : Cx} {W : WX} {i : Nat} {y : Str} {py : Pos} {x : Expr} {e : E} {pos : Pos} (b : BOk P w K mg base k X) (h : XOk κ X W) (hk : X.env.scope.kind = .function) (hs : storB κ i y = true) (q : chkE T κ e x = true)
    (hl : (lcSw κ.sc y py x || lcNo κ.sc y py x) = true) (hm : isLC x = true → isLm e = true) : PS X (.Assign [.Name y py] x pos) (tAsg (rd c W (ev T e)) (gName i)) := by
  obtain ⟨s1, s2, s3⟩ := h.stor hs
  rw [← h.sc] at hl
  cases hx : isLC x with
  | true =>
    obtain ⟨l, rfl, ql⟩ := chkE_lc q (hm hx)
    have r := sndL HT l κ X W x b h ql
    refine (ps_lc (pos := pos) b.calm h.nodup s1 s2 s3 hk r (chkL_gens ql) hl).mono fun Dn σ H z => ?_
    simp only [ev] at z
    exact rdL_of z
  | false =>
    have h2 : lcNo X.env.scope y py x = true := by
      rw [Bool.or_eq_true] at hl
      rcases hl with z | z
      · cases x <;> first | (simp [lcSw] at z; done) | (simp [isLC] at hx)
      · exact z
    exact ps_name h.nodup s1 s2 s3 (sndE HT e κ X W x b h q).pe h2
theorem own2_rs {W : WX} {i j : Nat} {Dn : Ends} {σ : St} {H : Hp} (h : rs c W (es T (.own2 i j)) Dn σ H) : tPar i j (tCons (tLst tNil) (tCons (tLst tNil) tNil)) Dn σ H := by
  obtain ⟨g0, B, g, r, w, E, kk, x0, p⟩ := h
  simp only [es] at p
  refine ⟨Nat.zero_le _, fun a ha => ⟨Nat.zero_le _, fun b hb => ⟨_, _, rfl, ?_⟩⟩⟩
  have wa := kk.notW ha
  have fa := kk.fresh ha
  have k1 := kk.write (o := .lst []) wa fa
  have E1 := E.setO (Ext.upd (o := .lst []) ha) i ha (x0.dom _ ha) fa wa upd_same .nil
  have x1 := x0.trans (Ext.upd (g := g) (o := .lst []) ha)
  have wb := k1.notW hb
  have fb := k1.fresh hb
  have E2 := E1.setO (Ext.upd (o := .lst []) hb) j hb (x1.dom _ hb) fb wb upd_same .nil
  exact p g _ _ (Gle.refl _) (x1.trans (Ext.upd hb)) E2 (k1.write wb fb)
theorem par_rs {W : WX} {i j : Nat} {a b : E} {Dn : Ends} {σ : St} {H : Hp} (hij : i ≠ j) (h : rs c W (es T (.asg (.tp (.cons (.nm i) (.cons (.nm j) .nil))) (.tup (.cons a (.cons b .nil))))) Dn σ H) : tPar i j (rdA c W (evs T (.cons a (.cons b .nil)))) Dn σ H := by
  obtain ⟨g0, B, g, r, w, E, kk, x0, p⟩ := h
  have e : es T (.asg (.tp (.cons (.nm i) (.cons (.nm j) .nil))) (.tup (.cons a (.cons b .nil)))) r w = (evs T (.cons a (.cons b .nil)) r w).toS r fun ds w => match ds with
      | [x, y] => .next ((r.set i (.dat x)).set j (.dat y)) w
      | _ => .bad := by
    simp only [es, sAsg, ev, mSeq]
    cases hm : evs T (.cons a (.cons b .nil)) r w with
    | bad => rfl
    | exc l w' => rfl
    | ok ds w' =>
      have hl := evs_len T _ r w w' ds hm
      match ds, hl with
      | [x, y], _ => rfl
  rw [e] at p
  refine ⟨B, g, r, w, E, kk, bndS p E x0 fun g1 H1 vs ds w1 e1 x1 k1 r1 E1 y1 p1 => ?_⟩
  have hl := evs_len T _ r w w1 ds e1
  match ds, hl, r1, p1 with
  | [x, y], _, .cons q1 (.cons q2 .nil), p1 => exact ⟨_, _, rfl, p1 g1 H1 _ (Gle.refl _) y1 ((E1.setD i q1).setD j q2) k1⟩
end
end RL

namespace RL
open PySem L2
section
variable {c : Cn} {P : Program} {w : World} {K : PySem.W.Frag} {mg : Str → Option Value} {base : Heap} {k : Nat} {T : Tab}
theorem chk_asgN {κ : Ck} {i : Nat} {e : E} {st : Stmt} (q : chkS T κ (.asg (.nm i) e) st = true) : ∃ y py x pos, st = .Assign [.Name y py] x pos ∧ storB κ i y = true ∧ chkE T κ e x = true ∧ (lcSw κ.sc y py x || lcNo κ.sc y py x) = true ∧ (isLC x = true → isLm e = true) := by
  unfold chkS at q
  split at q <;> first | contradiction | skip
  all_goals first
    | (have e := ‹S.asg (.nm i) e = S.asg (.nm _) _›
       cases e
       simp only [Bool.and_eq_true] at q
       refine ⟨_, _, _, _, rfl, q.1.1.1, q.1.1.2, q.1.2, fun z => ?_⟩
       have q2 := q.2
       rw [z] at q2
       simpa using q2)
    | (have e := ‹S.asg (.nm i) e = S.asg (.tp _) _›
       cases e)
    | cases q
theorem chk_own {κ : Ck} {i : Nat} {l : L} {st : Stmt} (q : chkS T κ (.own i l) st = true) : ∃ y py x pos, st = .Assign [.Name y py] x pos ∧ storB κ i y = true ∧ chkL T κ l x = true ∧ (lcSw κ.sc y py x || lcNo κ.sc y py x) = true := by
  unfold chkS at q
  split at q <;> first | contradiction | skip
  all_goals first
    | (have e := ‹S.own i l = S.own _ _›
       cases e
       simp only [Bool.and_eq_true] at q
       exact ⟨_, _, _, _, rfl, q.1.1, q.1.2, q.2⟩)
    | cases q
theorem chk_asgT {κ : Ck} {ts : Tgs} {e : E} {st : Stmt} (q : chkS T κ (.asg (.tp ts) e) st = true) : ∃ ys j p x pos, st = .Assign [.Tuple ys j p] x pos ∧ chkT κ (.tp ts) (.Tuple ys j p) = true ∧ chkE T κ e x = true ∧ (match x with
    | .Tuple xs _ _ => no2 κ.sc ys xs || (sw2 κ.sc ys xs && (twoT (.tp ts) e).isSome)
    | _ => true) = true := by
  unfold chkS at q
  split at q <;> first | contradiction | skip
  all_goals first
    | (have e := ‹S.asg (.tp ts) e = S.asg (.tp _) _›
       cases e
       rw [Bool.and_eq_true, Bool.and_eq_true] at q
       exact ⟨_, _, _, _, _, rfl, q.1.1, q.1.2, q.2⟩)
    | (have e := ‹S.asg (.tp ts) e = S.asg (.nm _) _›
       cases e)
    | cases q
theorem chk_rais {κ : Ck} {j : Nat} {st : Stmt} (q : chkS T κ (.rais j) st = true) : ∃ x p m l p2 pos pos', st = .Raise (some (.Call (.Name x p) [.Constant (.str m) l p2] [] pos)) none pos' ∧ T.exs[j]? = some x ∧ glB κ.sc x = true ∧ plainN x = true := by
  unfold chkS at q
  split at q <;> first | contradiction | skip
  all_goals first
    | (have e := ‹S.rais j = S.rais _›
       cases e
       simp only [Bool.and_eq_true, decide_eq_true_eq] at q
       exact ⟨_, _, _, _, _, _, _, rfl, q.1.1, q.1.2, q.2⟩)
    | cases q
theorem chk_app {κ : Ck} {i : Nat} {e : E} {st : Stmt} (q : chkS T κ (.app i e) st = true) : ∃ y p apos x cpos pos, st = .Expr (.Call (.Attribute (.Name y p) "append" apos) [x] [] cpos) pos ∧ slotB κ i y = true ∧ chkE T κ e x = true ∧ (apos.endLine == cpos.line) = true := by
  unfold chkS at q
  split at q <;> first | contradiction | skip
  all_goals first
    | (have e := ‹S.app i e = S.app _ _›
       cases e
       simp only [Bool.and_eq_true, decide_eq_true_eq] at q
       obtain ⟨⟨⟨rfl, q2⟩, q3⟩, q4⟩ := q
       exact ⟨_, _, _, _, _, _, rfl, q2, q3, q4⟩)
    | cases q
theorem chk_set {κ : Ck} {i : Nat} {j e : E} {st : Stmt} (q : chkS T κ (.set i j e) st = true) : ∃ y p z sp x pos, st = .Assign [.Subscript (.Name y p) z sp] x pos ∧ slotB κ i y = true ∧ chkE T κ j z = true ∧ chkE T κ e x = true ∧ isSlice z = false ∧ isLC x = false := by
  unfold chkS at q
  split at q <;> first | contradiction | skip
  all_goals first
    | (have e := ‹S.set i j e = S.set _ _ _›
       cases e
       simp only [Bool.and_eq_true, Bool.not_eq_true'] at q
       obtain ⟨⟨⟨⟨q1, q2⟩, q3⟩, q4⟩, q5⟩ := q
       exact ⟨_, _, _, _, _, _, rfl, q1, q2, q3, q4, q5⟩)
    | cases q
theorem chk_two {t : Tg} {e : E} {z : Nat × Nat × E × E} (h : twoT t e = some z) : t = .tp (.cons (.nm z.1) (.cons (.nm z.2.1) .nil)) ∧ e = .tup (.cons z.2.2.1 (.cons z.2.2.2 .nil)) := by
  unfold twoT at h
  split at h
  · cases h; exact ⟨rfl, rfl⟩
  · cases h
theorem sole_tup {x : Expr} {ys : List Expr} {j : Nat} {p : Pos} {l : Nat} {env : PySem.Env} : swapsWithSole [.Tuple ys j p] x l env = pure false := by
  cases x <;> rfl
theorem sole_false {x tg : Expr} {l : Nat} {env : PySem.Env} (h : isLC x = false) : swapsWithSole [tg] x l env = pure false := by
  rw [swapsWithSole]
  exact lc_false h
/-- what a body is run in -/
theorem chk_set2 {κ : Ck} {i : Nat} {a b e : E} {st : Stmt} (q : chkS T κ (.set2 i a b e) st = true) : ∃ y p z sp p' z' sp' kt tp x pos, st = .Assign [.Tuple [.Subscript (.Name y p) z sp, .Subscript (.Name y p') z' sp'] kt tp] x pos ∧ slotB κ i y = true ∧ chkE T κ a z = true ∧ chkE T κ b z' = true ∧ chkE T κ e x = true ∧ isSlice z = false ∧ isSlice z' = false ∧ isLC x = false := by
  unfold chkS at q
  split at q <;> first | contradiction | skip
  all_goals first
    | (have e := ‹S.set2 i a b e = S.set2 _ _ _ _›
       cases e
       simp only [Bool.and_eq_true, decide_eq_true_eq, Bool.not_eq_true'] at q
       obtain ⟨⟨⟨⟨⟨⟨⟨q1, q2⟩, q3⟩, q4⟩, q5⟩, q6⟩, q7⟩, q8⟩ := q
       subst q2
       exact ⟨_, _, _, _, _, _, _, _, _, _, _, rfl, q1, q3, q4, q5, q6, q7, q8⟩)
    | cases q
structure RunOk (X : Cx) : Prop where
  kind : X.env.scope.kind = .function
  pass : PassesOwn (model X.prog X.w) X.A X.env X.xe
  stk : X.stack = X.env :: X.outer
  frm : X.env.frame = some X.env.locals
theorem chk_try {κ : Ck} {bb : Ss} {i j l : Nat} {st : Stmt} (q : chkS T κ (.tryK bb i j l) st = true) : ∃ xs x p n y py z p2 p3 p4 pos pp, st = .Try xs [.ExceptHandler (some (.Name x p)) (some n) [.Assign [.Name y py] (.Name z p2) p3] p4] [] [] pos ∧ T.trs[l]? = some pp ∧ pp.1 = x ∧ glB κ.sc x = true ∧ plainN x = true ∧ storB κ i n = true ∧ isLocal κ.sc n = true ∧ slotB κ i z = true ∧ storB κ j y = true ∧ isLocal κ.sc y = true ∧ chkSs T κ bb xs = true := by
  unfold chkS at q
  split at q <;> first | contradiction | skip
  all_goals first
    | (have e := ‹S.tryK bb i j l = S.tryK _ _ _ _›
       cases e
       simp only [Bool.and_eq_true] at q
       obtain ⟨⟨⟨⟨⟨⟨⟨⟨q1, q2⟩, q3⟩, q4⟩, q5⟩, q6⟩, q7⟩, q8⟩, q9⟩ := q
       split at q1
       · rename_i pp hp
         exact ⟨_, _, _, _, _, _, _, _, _, _, _, pp, rfl, hp, of_decide_eq_true q1, q2, q3, q4, q5, q6, q7, q8, q9⟩
       · cases q1)
    | cases q
theorem chk_own2 {κ : Ck} {i j : Nat} {st : Stmt} (q : chkS T κ (.own2 i j) st = true) : ∃ a pa b pb kt tp p1 p2 k2 tp2 pos, st = .Assign [.Tuple [.Name a pa, .Name b pb] kt tp] (.Tuple [.List [] p1, .List [] p2] k2 tp2) pos ∧ storB κ i a = true ∧ storB κ j b = true ∧ sw2 κ.sc [.Name a pa, .Name b pb] [.List [] p1, .List [] p2] = true := by
  unfold chkS at q
  split at q <;> first | contradiction | skip
  all_goals first
    | (have e := ‹S.own2 i j = S.own2 _ _›
       cases e
       simp only [Bool.and_eq_true] at q
       exact ⟨_, _, _, _, _, _, _, _, _, _, _, rfl, q.1.1, q.1.2, q.2⟩)
    | cases q
theorem try_rs {X : Cx} {W : WX} {Dn : Ends} {σ : St} {H : Hp} {ks : List Nat} {i j : Nat} {m : MS} {cv : Value} {ts : Addr → TS} (hk : ∀ e ∈ ks, PySem.W.exmOne X.K (.ref (c.ec e)) cv = some true)
    (hts : ∀ (a : Addr) (D1 : Ends) (σ1 : St) (H1 : Hp), i < σ1.length → D1.nx ((σ1.set i (some (.ref a))).set j (some (.ref a))) H1 → ts a D1 (σ1.set i (some (.ref a))) H1) {n : Nat} (hi : i < n) (h : rs c W (sTry ks i j m) Dn σ H) : rs c (wKeep X.K n cv i ts Dn) m Dn σ H := by
  obtain ⟨g0, B, g, r, w, E, k, x0, p⟩ := h
  refine ⟨g0, B, g, r, w, E, k, x0, ?_⟩
  unfold sTry at p
  revert p
  cases m r w with
  | next r' w' => exact fun p => p
  | ret d w' => exact fun p => p
  | bad => exact fun p => p
  | exc e r' w' =>
    intro p g' H' σ' l x1 E1 k1
    simp only at p
    split at p
    · rename_i he
      refine ⟨hk e (by simpa using he), fun a hl ha => hts a _ σ' H' ?_ ?_⟩
      · omega
      · have xl := Ext.laid (o := exT (.ref (c.ec e)) none a) k1 ha
        have rp : Rep c (g'.lay a (exT (.ref (c.ec e)) none a)) (.ref a) (.exc e) := .exc upd_same
        exact p _ _ _ (l.trans xl.toGle) (x1.trans xl) ((((E1.ext xl).drop i (some (.ref a))).setD j rp).drop i none) (k1.laid ha)
    · exact False.elim p
mutual
theorem sndS (HT : TOk c P w K mg base k T) {X : Cx} (b : BOk P w K mg base k X) (R : RunOk X) {κ : Ck} {W : WX} (h : XOk κ X W) : ∀ (s : S) (st : Stmt), chkS T κ s st = true → PS X st (rs c W (es T s))
  | .ret e, st, q => by
    cases st with
    | Return x pos =>
      cases x with
      | none => simp [chkS] at q
      | some x =>
        simp only [chkS] at q
        simp only [es]
        exact st_ret (sndE HT e κ X W x b h q).pe
    | _ => simp [chkS] at q
  | .exp e, st, q => by
    cases st with
    | Expr x pos =>
      simp only [chkS, Bool.and_eq_true, Bool.not_eq_true'] at q
      simp only [es]
      exact st_exp (sndE HT e κ X W x b h q.1).pe (lc_false q.2)
    | _ => simp [chkS] at q
  | .asg (.nm i) e, st, q => by
    obtain ⟨y, py, x, pos, rfl, q1, q2, q3, q4⟩ := chk_asgN q
    simp only [es]
    exact st_asgN (ps_any HT b h R.kind q1 q2 q3 q4)
  | .asg (.tp ts) e, st, q => by
    obtain ⟨ys, j, p, x, pos, rfl, q1, q2, q4⟩ := chk_asgT q
    have gen : swappedStores [.Tuple ys j p] x X.env = pure none → PS X (.Assign [.Tuple ys j p] x pos) (rs c W (es T (.asg (.tp ts) e))) := fun hw => by
      simp only [es]
      exact st_asg (ps_asg (sndE HT e κ X W x b h q2).pe (sndT h b.calm (.tp ts) _ q1) sole_tup hw rfl)
    cases hx : isTupE x with
    | false => exact gen (stores_none hx)
    | true =>
      cases x with
      | Tuple xs j' p' =>
        simp only [Bool.or_eq_true, Bool.and_eq_true] at q4
        rw [← h.sc] at q4
        rcases q4 with q4 | ⟨q4, q5⟩
        · have hp : ∃ a pa b' pb u v, ys = [.Name a pa, .Name b' pb] ∧ xs = [u, v] := by
            unfold no2 at q4
            split at q4
            · exact ⟨_, _, _, _, _, _, rfl, rfl⟩
            · cases q4
          obtain ⟨a, pa, b', pb, u, v, rfl, rfl⟩ := hp
          exact gen (sw2_none q4)
        · have hp : ∃ a pa b' pb u v, ys = [.Name a pa, .Name b' pb] ∧ xs = [u, v] := by
            unfold sw2 at q4
            split at q4
            · exact ⟨_, _, _, _, _, _, rfl, rfl⟩
            · cases q4
          obtain ⟨a, pa, b', pb, u, v, rfl, rfl⟩ := hp
          obtain ⟨z, hz⟩ := Option.isSome_iff_exists.mp q5
          obtain ⟨e1, e2⟩ := chk_two hz
          obtain ⟨i, l, ea, eb⟩ := z
          cases e1
          subst e2
          simp only [chkT, chkTs, Bool.and_eq_true] at q1
          obtain ⟨⟨_, q6⟩, ⟨_, q7⟩, _⟩ := q1
          have q2' : chkEs T κ (.cons ea (.cons eb .nil)) [u, v] = true := by simpa [chkE] using q2
          have ra := sndEs HT (.cons ea (.cons eb .nil)) κ X W [u, v] b h q2'
          have su : isStar u = false := ra.st u (by simp)
          have sv : isStar v = false := ra.st v (by simp)
          obtain ⟨s1, s2, s3⟩ := h.stor q6
          obtain ⟨s1', s2', s3'⟩ := h.stor q7
          have q8 := q4
          simp only [sw2, Bool.and_eq_true, Bool.not_eq_true'] at q8
          obtain ⟨⟨⟨⟨⟨g1, g2⟩, _⟩, hab⟩, _⟩, _⟩ := q8
          have hil : i ≠ l := fun z => by
            subst z
            rw [s1] at s1'
            cases s1'
            simp at hab
          exact (ps_par b.calm h.nodup s1 s1' hil (isLocal_ok g1) (isLocal_ok g2) ra.pa (sw2_some R.kind su sv q4) rfl).mono fun Dn σ H z => par_rs hil z
      | _ => simp [isTupE] at hx
  | .own i l, st, q => by
    obtain ⟨y, py, x, pos, rfl, q1, q2, q3⟩ := chk_own q
    obtain ⟨s1, s2, s3⟩ := h.stor q1
    simp only [es]
    exact st_own (ps_lc b.calm h.nodup s1 s2 s3 R.kind (sndL HT l κ X W x b h q2) (chkL_gens q2) (by rw [h.sc]; exact q3))
  | .iff t a d, st, q => by
    cases st with
    | If x xs ys pos =>
      simp only [chkS, Bool.and_eq_true, Bool.not_eq_true'] at q
      obtain ⟨⟨⟨q1, q2⟩, q3⟩, q4⟩ := q
      simp only [es]
      exact st_if ((sndE HT t κ X W x b h q1).pt q2) (sndSs HT b R h a xs q3) (sndSs HT b R h d ys q4)
    | _ => simp [chkS] at q
  | .for' t it d, st, q => by
    cases st with
    | For tg x xs ys pos =>
      cases ys with
      | cons _ _ => simp [chkS] at q
      | nil =>
        simp only [chkS, Bool.and_eq_true, Bool.not_eq_true'] at q
        obtain ⟨⟨⟨⟨q1, q2⟩, q3⟩, q4⟩, q5⟩ := q
        simp only [es]
        exact st_for R.pass b.calm ((sndI HT it κ X W x tg b h q2).pf q4) (sndT h b.calm t tg q1) (sndSs HT b R h d xs q5) (set_fold q3)
    | _ => simp [chkS] at q
  | .whl μ t d, st, q => by
    cases st with
    | While x xs ys pos =>
      cases ys with
      | cons _ _ => simp [chkS] at q
      | nil =>
        simp only [chkS, Bool.and_eq_true, Bool.not_eq_true'] at q
        obtain ⟨⟨q1, q2⟩, q3⟩ := q
        simp only [es]
        exact st_wh R.pass ((sndE HT t κ X W x b h q1).pt q2) (sndSs HT b R h d xs q3)
    | _ => simp [chkS] at q
  | .rais j, st, q => by
    obtain ⟨x, p, m, l, p2, pos, pos', rfl, q1, q2, q3⟩ := chk_rais q
    simp only [es]
    exact st_raise h.tk b.calm (HT.exs X b j x q1 m l p p2 pos (h.gl q2) (plainN_ok q3).1)
  | .imul i e, st, q => by
    cases st with
    | AugAssign tg op x pos =>
      cases tg with
      | Name y p =>
        cases op with
        | Mult =>
          simp only [chkS, Bool.and_eq_true] at q
          obtain ⟨s1, s2, s3⟩ := h.stor q.1
          simp only [es]
          exact st_aug h.nodup s1 s2 (sndE HT e κ X W x b h q.2).pe iop_mulW opS_imul s3
        | _ => simp [chkS] at q
      | _ => simp [chkS] at q
    | _ => simp [chkS] at q
  | .ext i e, st, q => by
    cases st with
    | AugAssign tg op x pos =>
      cases tg with
      | Name y p =>
        cases op with
        | Add =>
          simp only [chkS, Bool.and_eq_true] at q
          obtain ⟨s1, s2, s3⟩ := h.stor q.1
          simp only [es]
          exact st_ext h.nodup s1 s2 (sndE HT e κ X W x b h q.2).pe s3
        | _ => simp [chkS] at q
      | _ => simp [chkS] at q
    | _ => simp [chkS] at q
  | .app i e, st, q => by
    obtain ⟨y, p, apos, x, cpos, pos, rfl, q1, q2, q3⟩ := chk_app q
    obtain ⟨s1, s2, s3, s4⟩ := h.slot q1
    simp only [es]
    exact st_app s1 s2 s3 s4 (sndE HT e κ X W x b h q2).pe q3 (star_cons (chk_not_star q2))
  | .set i j e, st, q => by
    obtain ⟨y, p, z, sp, x, pos, rfl, q1, q2, q3, q4, q5⟩ := chk_set q
    obtain ⟨s1, s2, s3, s4⟩ := h.slot q1
    simp only [es]
    refine st_set s1 s2 s3 s4 (sndE HT j κ X W z b h q2).pe (sndE HT e κ X W x b h q3).pe (fun v => ?_) (sole_false q5) stores_sub
    cases z <;> first | rfl | cases q4
  | .set2 i a d e, st, q => by
    obtain ⟨y, p, z, sp, p', z', sp', kt, tp, x, pos, rfl, q1, q2, q3, q4, q5, q6, q7⟩ := chk_set2 q
    obtain ⟨s1, s2, s3, s4⟩ := h.slot q1
    simp only [es]
    refine st_set2 b.calm s1 s2 s3 s4 (sndE HT a κ X W z b h q2).pe (sndE HT d κ X W z' b h q3).pe (sndE HT e κ X W x b h q4).pe (fun v => ?_) (fun v => ?_) (sole_false q7) stores_sub2
    · cases z <;> first | rfl | cases q5
    · cases z' <;> first | rfl | cases q6
  | .frz i s, st, q => by
    have q : chkS T κ s st = true := by simpa [chkS] using q
    simp only [es]
    exact st_frz (sndS HT b R h s st q)
  | .tryK bb i j l, st, q => by
    obtain ⟨xs, x, p, n, y, py, z, p2, p3, p4, pos, pp, rfl, q1, q2, q3, q4, q5, q6, q7, q8, q9, q10⟩ := chk_try q
    obtain ⟨cv, h1, h2⟩ := HT.trs l pp q1
    obtain ⟨s1, s2, s3⟩ := h.stor q5
    obtain ⟨u1, u2, u3⟩ := h.stor q8
    obtain ⟨v1, v2, v3, v4⟩ := h.slot q7
    have e : T.trs.getD l (Str.empty, []) = pp := by simp [q1]
    simp only [es]
    rw [e]
    have nl : X.env.kindOf n = some .local := by
      have := isLocal_ok q6
      rw [← h.sc] at this
      exact this
    refine (ps_try_keep (cv := cv) (i := i) (tb := fun W' => rs c W' (ess T bb)) R.stk R.frm h.nodup s1 nl ⟨h.gl q3, (plainN_ok q4).1, .inl (by rw [b.mg, ← q2]; exact h1)⟩ (fun W' pn xe tk ps => ?_) (fun a pn => pss_one (ps_set (X := X.suite a pn) (i := j) h.nodup u1 u2 (pe_var (X := X.suite a pn) v1 v2 v3 v4) rfl u3))).mono fun Dn σ H z => ?_
    · exact sndSs HT (X := X.tr pn xe) ⟨b.prog, b.w, b.K, b.mg, b.base, b.calm, b.room⟩ ⟨R.kind, ps, R.stk, R.frm⟩ (κ := κ) ⟨h.N, h.nd, h.sc, h.fn, tk⟩ bb xs q10
    · refine try_rs (X := X) (by rw [b.K]; exact h2) (fun a D1 σ1 H1 hl z => ?_) ?_ z
      · exact ⟨.ref a, by rw [List.getElem?_set_self hl], z⟩
      · exact (List.getElem?_eq_some_iff.1 s1).1
  | .pass, st, q => by
    cases st with
    | Pass pos =>
      simp only [es]
      exact ps_pass.mono fun Dn σ H z => by
        obtain ⟨g0, B, g, r, w, E, kk, x0, p⟩ := z
        exact p g H σ (Gle.refl _) x0 E kk
    | _ => simp [chkS] at q
  | .nev, st, q => by
    simp only [es]
    exact ps_never.mono fun Dn σ H z => by
      obtain ⟨g0, B, g, r, w, E, kk, x0, p⟩ := z
      exact p
  | .own2 i j, st, q => by
    obtain ⟨a, pa, b', pb, kt, tp, p1, p2, k2, tp2, pos, rfl, q1, q2, q3⟩ := chk_own2 q
    obtain ⟨s1, s2, s3⟩ := h.stor q1
    obtain ⟨u1, u2, u3⟩ := h.stor q2
    rw [← h.sc] at q3
    have q8 := q3
    simp only [sw2, Bool.and_eq_true, Bool.not_eq_true'] at q8
    obtain ⟨⟨⟨⟨⟨g1, g2⟩, _⟩, hab⟩, _⟩, _⟩ := q8
    have hil : i ≠ j := fun z => by
      subst z
      rw [s1] at u1
      cases u1
      simp at hab
    exact (ps_par b.calm h.nodup s1 u1 hil (isLocal_ok g1) (isLocal_ok g2) (pa_cons (pe_lst pa_nil) (pa_cons (pe_lst pa_nil) pa_nil rfl) rfl) (sw2_some R.kind rfl rfl q3) rfl).mono fun Dn σ H z => own2_rs z
theorem sndSs (HT : TOk c P w K mg base k T) {X : Cx} (b : BOk P w K mg base k X) (R : RunOk X) {κ : Ck} {W : WX} (h : XOk κ X W) : ∀ (ss : Ss) (sts : List Stmt), chkSs T κ ss sts = true → PSs X sts (rs c W (ess T ss))
  | .nil, sts, q => by
    cases sts with
    | nil => simp only [ess]; exact ss_nil
    | cons x xs => simp [chkSs] at q
  | .cons s ss, sts, q => by
    cases sts with
    | nil => simp [chkSs] at q
    | cons x xs =>
      simp only [chkSs, Bool.and_eq_true] at q
      simp only [ess]
      exact ss_cons (sndS HT b R h s x q.1) (sndSs HT b R h ss xs q.2)
end
/-- a def of the text means its data -/
theorem def_ok (HT : TOk c P w K mg base k T) {x qual : Str} {st : Stmt} {f : Addr} {fd : FuncData} {N ps : List Str} {ss : Ss} (F : Fun K x qual st f fd) (SC : FnScope N ps (defScope st)) (q : chkSs T ⟨N, defScope st, fun _ => true⟩ ss (defBody st) = true) :
    FnOk P w K mg base (L2.CX P w) (k + 1) f fd ps (spOf c ps.length (mFun N.length (ess T ss))) :=
  fun_ok F SC fun X W e1 e2 e3 e4 e5 e6 e7 e8 e9 tk pass room e10 e11 =>
    sndSs HT (X := X) ⟨e1, e2, e3, e4, e5, e8, room⟩ ⟨by rw [e7]; exact SC.kind, pass, e10, e11⟩ (κ := ⟨N, defScope st, fun _ => true⟩) ⟨e6, SC.nd, e7, funext e9, tk⟩ ss (defBody st) q
end
end RL

namespace RL
open PySem L2
/-! ### built-ins -/
def asInts : List D → Option (List Int)
  | [] => some []
  | .int i :: xs => (asInts xs).map (i :: ·)
  | _ => none
def asBls : List D → Option (List Bool)
  | [] => some []
  | .bl i :: xs => (asBls xs).map (i :: ·)
  | _ => none
theorem asInts_rep {c : Cn} {g : Gs} : ∀ {ds : List D} {vs : List V} {ns : List Int}, RepL c g vs ds → asInts ds = some ns → vs = ns.map V.int
  | [], vs, ns, h, e => by
    cases h
    simp only [asInts] at e
    cases e; rfl
  | d :: ds, vs, ns, h, e => by
    cases h with
    | cons a l =>
      cases a with
      | int i =>
        simp only [asInts] at e
        cases q : asInts ds with
        | none => rw [q] at e; cases e
        | some ms =>
          rw [q] at e
          cases e
          simp [asInts_rep l q]
      | _ => simp [asInts] at e
theorem asBls_rep {c : Cn} {g : Gs} : ∀ {ds : List D} {vs : List V} {ns : List Bool}, RepL c g vs ds → asBls ds = some ns → vs = ns.map V.bl
  | [], vs, ns, h, e => by
    cases h
    simp only [asBls] at e
    cases e; rfl
  | d :: ds, vs, ns, h, e => by
    cases h with
    | cons a l =>
      cases a with
      | bl i =>
        simp only [asBls] at e
        cases q : asBls ds with
        | none => rw [q] at e; cases e
        | some ms =>
          rw [q] at e
          cases e
          simp [asBls_rep l q]
      | _ => simp [asBls] at e
def dLen : List D → Option D
  | [.lst xs] => some (.int xs.length)
  | [.tup xs] => some (.int xs.length)
  | [.str z] => if z.length ≤ big then some (.int z.length) else none
  | _ => none
def dAbs : List D → Option D
  | [.int i] => some (.int (if i < 0 then -i else i))
  | _ => none
def dAll : List D → Option D
  | [.lst xs] => (asBls xs).map fun bs => .bl (bs.all id)
  | _ => none
def dSum : List D → Option D
  | [.lst xs] => (asInts xs).map fun ns => .int ns.sum
  | _ => none
def maxI : List Int → Int
  | [] => 0
  | [x] => x
  | x :: xs => if x ≤ maxI xs then maxI xs else x
def minI : List Int → Int
  | [] => 0
  | [x] => x
  | x :: xs => if minI xs ≤ x then minI xs else x
theorem maxI_mem : ∀ {xs : List Int}, xs ≠ [] → maxI xs ∈ xs ∧ ∀ y ∈ xs, y ≤ maxI xs
  | [], h => (h rfl).elim
  | [x], _ => by simp [maxI]
  | x :: y :: xs, _ => by
    obtain ⟨h1, h2⟩ := maxI_mem (xs := y :: xs) (by simp)
    simp only [maxI]
    split
    · rename_i q
      refine ⟨List.mem_cons_of_mem _ h1, fun z hz => ?_⟩
      rcases List.mem_cons.mp hz with rfl | hz
      · exact q
      · exact h2 z hz
    · rename_i q
      refine ⟨List.mem_cons_self, fun z hz => ?_⟩
      rcases List.mem_cons.mp hz with rfl | hz
      · exact Int.le_refl _
      · have := h2 z hz
        omega
theorem minI_mem : ∀ {xs : List Int}, xs ≠ [] → minI xs ∈ xs ∧ ∀ y ∈ xs, minI xs ≤ y
  | [], h => (h rfl).elim
  | [x], _ => by simp [minI]
  | x :: y :: xs, _ => by
    obtain ⟨h1, h2⟩ := minI_mem (xs := y :: xs) (by simp)
    simp only [minI]
    split
    · rename_i q
      refine ⟨List.mem_cons_of_mem _ h1, fun z hz => ?_⟩
      rcases List.mem_cons.mp hz with rfl | hz
      · exact q
      · exact h2 z hz
    · rename_i q
      refine ⟨List.mem_cons_self, fun z hz => ?_⟩
      rcases List.mem_cons.mp hz with rfl | hz
      · exact Int.le_refl _
      · have := h2 z hz
        omega
def dMax : List D → Option D
  | [.lst xs] => (asInts xs).bind fun ns => if ns.isEmpty then none else some (.int (maxI ns))
  | _ => none
def dMin : List D → Option D
  | [.lst xs] => (asInts xs).bind fun ns => if ns.isEmpty then none else some (.int (minI ns))
  | _ => none
def dTup : List D → Option D
  | [.lst xs] => some (.tup xs)
  | [.tup xs] => some (.tup xs)
  | _ => none
section
variable {c : Cn} {X : Cx} {W : WX}
theorem prS_len {K : PySem.W.Frag} : PrS c dLen (fun xs H Q => ∃ x n, xs = [x] ∧ LenV K x H n ∧ Q (.int n) H) := by
  intro g H w vs ds d Q k r e q
  unfold dLen at e
  split at e
  · cases e
    cases r with
    | cons a l =>
      cases l
      cases a with
      | lst hx lx => exact ⟨_, _, rfl, .inl ⟨_, SqL.of (k.sub _ _ hx), rfl⟩, by rw [lx.length]; exact q.at k (.int _)⟩
  · cases e
    cases r with
    | cons a l =>
      cases l
      cases a with
      | tup hx lx => exact ⟨_, _, rfl, .inr ⟨_, SqT.of (k.sub _ _ hx), rfl⟩, by rw [lx.length]; exact q.at k (.int _)⟩
  · split at e <;> cases e
    rename_i hl
    cases r with
    | cons a l =>
      cases l
      cases a
      exact ⟨_, _, rfl, ⟨Nat.le_trans hl big_le, rfl⟩, q.at k (.int _)⟩
  · cases e
theorem prS_abs : PrS c dAbs (fun xs H Q => ∃ i, xs = [.int i] ∧ Q (.int (if i < 0 then -i else i)) H) := by
  intro g H w vs ds d Q k r e q
  unfold dAbs at e
  split at e
  · cases e
    cases r with
    | cons a l =>
      cases l
      cases a
      exact ⟨_, rfl, q.at k (.int _)⟩
  · cases e
theorem prS_all {K : PySem.W.Frag} : PrS c dAll (rAll K) := by
  intro g H w vs ds d Q k r e q
  unfold dAll at e
  split at e
  · rename_i xs
    cases r with
    | cons a l =>
      cases l
      cases a with
      | lst hx lx =>
        cases hb : asBls xs with
        | none => rw [hb] at e; cases e
        | some bs =>
          rw [hb] at e
          cases e
          have := asBls_rep lx hb
          subst this
          exact ⟨_, bs, rfl, SqL.of (k.sub _ _ hx), q.at k (.bl _)⟩
  · cases e
theorem prS_sum {K : PySem.W.Frag} : PrS c dSum (rSum K) := by
  intro g H w vs ds d Q k r e q
  unfold dSum at e
  split at e
  · rename_i xs
    cases r with
    | cons a l =>
      cases l
      cases a with
      | lst hx lx =>
        cases hb : asInts xs with
        | none => rw [hb] at e; cases e
        | some bs =>
          rw [hb] at e
          cases e
          have := asInts_rep lx hb
          subst this
          exact ⟨_, bs, rfl, SqL.of (k.sub _ _ hx), q.at k (.int _)⟩
  · cases e
theorem prS_max {K : PySem.W.Frag} : PrS c dMax (rMax K) := by
  intro g H w vs ds d Q k r e q
  unfold dMax at e
  split at e
  · rename_i xs
    cases r with
    | cons a l =>
      cases l
      cases a with
      | lst hx lx =>
        cases hb : asInts xs with
        | none => rw [hb] at e; cases e
        | some bs =>
          rw [hb] at e
          simp only [Option.bind_some] at e
          split at e <;> cases e
          rename_i hne
          have := asInts_rep lx hb
          subst this
          have hne : bs ≠ [] := by simpa using hne
          refine ⟨_, bs, rfl, SqL.of (k.sub _ _ hx), List.length_pos_iff.mpr hne, fun m hm hy => ?_⟩
          have e : m = maxI bs := by
            obtain ⟨h1, h2⟩ := maxI_mem hne
            have := h2 m hm
            have := hy _ h1
            omega
          rw [e]
          exact q.at k (.int _)
  · cases e
theorem prS_min {K : PySem.W.Frag} : PrS c dMin (rMin K) := by
  intro g H w vs ds d Q k r e q
  unfold dMin at e
  split at e
  · rename_i xs
    cases r with
    | cons a l =>
      cases l
      cases a with
      | lst hx lx =>
        cases hb : asInts xs with
        | none => rw [hb] at e; cases e
        | some bs =>
          rw [hb] at e
          simp only [Option.bind_some] at e
          split at e <;> cases e
          rename_i hne
          have := asInts_rep lx hb
          subst this
          have hne : bs ≠ [] := by simpa using hne
          refine ⟨_, bs, rfl, SqL.of (k.sub _ _ hx), List.length_pos_iff.mpr hne, fun m hm hy => ?_⟩
          have e : m = minI bs := by
            obtain ⟨h1, h2⟩ := minI_mem hne
            have := h2 m hm
            have := hy _ h1
            omega
          rw [e]
          exact q.at k (.int _)
  · cases e
theorem prS_tup {K : PySem.W.Frag} : PrS c dTup (fun xs H Q => ∃ p ys, xs = [.ref p] ∧ ((SqL K H p ys ∧ ∀ l, H l = none → Q (.ref l) (upd H l (.tup ys))) ∨ (SqT K H p ys ∧ Q (.ref p) H))) := by
  intro g H w vs ds d Q k r e q
  unfold dTup at e
  split at e
  · cases e
    cases r with
    | cons a l =>
      cases l
      cases a with
      | lst hx lx => exact ⟨_, _, rfl, .inl ⟨SqL.of (k.sub _ _ hx), q.tup k lx⟩⟩
  · cases e
    cases r with
    | cons a l =>
      cases l
      cases a with
      | tup hx lx => exact ⟨_, _, rfl, .inr ⟨SqT.of (k.sub _ _ hx), q.at k (.tup hx lx)⟩⟩
  · cases e
theorem pri_len (hm : X.mg "len" = none) : PriOk c X W "len" dLen := fun e es ms p pos hg ha he hpl => s_bi call_len prS_len hg hm PySem.boot_len ha (by decide) (by decide) he hpl
theorem pri_abs (hm : X.mg "abs" = none) : PriOk c X W "abs" dAbs := fun e es ms p pos hg ha he hpl => s_bi call_abs prS_abs hg hm (by decide +kernel) ha (by decide) (by decide) he hpl
theorem pri_all (hc : X.calm = true) (hm : X.mg "all" = none) : PriOk c X W "all" dAll := fun e es ms p pos hg ha he hpl => s_bi (cr_all hc) prS_all hg hm (by decide +kernel) ha (by decide) (by decide) he hpl
theorem pri_sum (hc : X.calm = true) (hm : X.mg "sum" = none) : PriOk c X W "sum" dSum := fun e es ms p pos hg ha he hpl => s_bi (cr_sum hc) prS_sum hg hm (by decide +kernel) ha (by decide) (by decide) he hpl
theorem pri_max (hc : X.calm = true) (hm : X.mg "max" = none) : PriOk c X W "max" dMax := fun e es ms p pos hg ha he hpl => s_bi (cr_max hc) prS_max hg hm (by decide +kernel) ha (by decide) (by decide) he hpl
theorem pri_min (hc : X.calm = true) (hm : X.mg "min" = none) : PriOk c X W "min" dMin := fun e es ms p pos hg ha he hpl => s_bi (cr_min hc) prS_min hg hm (by decide +kernel) ha (by decide) (by decide) he hpl
theorem pri_tup (hm : X.mg "tuple" = none) : PriOk c X W "tuple" dTup := fun e es ms p pos hg ha he hpl => s_ty call_tuple_of prS_tup hg hm (by decide +kernel) ha (by decide) (by decide) he hpl
end
end RL

namespace RL
open PySem PySem.Spec L2
/-! list.count, list.index of data -/
def rCountD (K : PySem.W.Frag) : V → List V → Hp → VK → Prop := fun x xs H Q => ∃ (a : Addr) (y : V) (d : PyData) (ds : List PyData), x = V.ref a ∧ xs = [y] ∧ Dp K H (V.ref a) (.list ds) ∧ Dp K H y d ∧ SeqAt.shaped (.list ds) = true ∧ SeqAt.shaped d = true ∧ Q (.int (ds.countP fun z => PyData.eqv z d : Nat)) H
theorem mt_countD {X : Cx} (hu : X.A.units + 65 < cLine) : MtR X "list.count" (rCountD X.K) := by
  intro pins s σ H x xs v us Q I rx rxs h
  obtain ⟨a, y, d, ds, rfl, rfl, hl, hy, sl, sd, q⟩ := h
  cases rx
  cases rxs with
  | cons ry rt =>
    rename_i uy ut
    cases rt
    obtain ⟨bs, r1⟩ := Dp.reads I d y uy hy ry
    have lay : PyData.canLayAll0 ds = true := SeqAt.canLay_of_shaped sl
    have room : X.A.units + 1 + min (PyData.depthAll ds) d.depth < cLine := PyProof.Rows.room_in_shaped sd hu
    cases hl with
    | lst hs ha =>
      obtain ⟨its, rv, ⟨⟨o1, o2, o3, o4⟩, n, ho, hc, hdn, hdt⟩, hlen⟩ := I.list hs
      simp only at hc hdt
      subst hc hdt
      obtain ⟨as, h4⟩ := Dp.readsAll I ds _ its ha rv
      have hmap : its.map (SeqAt.readOf s.heap) = ds := SeqAt.readsAll_map ds its as lay h4
      refine call_meets PySem.F.slot_list_count ⟨_, ho, rfl⟩ PySem.F.entry_list_count (PySem.F.args_list_count_2 _ _) (SeqAt.list_countAt a its.toArray n o2 o4 uy (fun u => PyData.eqv (SeqAt.readOf s.heap u) d))
        ⟨ho, SeqAt.items_eqAt (vs := its.toArray) (by simpa using h4) r1 lay (SeqAt.canLay_of_shaped sd) room, ?_⟩
      have e : its.toArray.toList.countP (fun u => PyData.eqv (SeqAt.readOf s.heap u) d) = ds.countP fun z => PyData.eqv z d := by
        rw [← hmap, List.countP_map]
        rfl
      refine ⟨.int (ds.countP fun z => PyData.eqv z d : Nat), H, I.tok _, ⟨s.toks, ?_⟩, q⟩
      show Value.int ((its.toArray.toList.countP (fun u => PyData.eqv (SeqAt.readOf s.heap u) d) : Nat) : Int) s.toks = _
      rw [e]
def dCount : D → List D → Option D
  | .lst xs, [y] => if okD 11 y && xs.all (okD 11) then some (.int (xs.countP fun z => eqN 11 z y : Nat)) else none
  | _, _ => none
def dIndex : D → List D → Option D
  | .lst xs, [y] => if okD 11 y && xs.all (okD 11) then (xs.findIdx? fun z => eqN 11 z y).map fun j => .int (j : Nat) else none
  | _, _ => none
theorem count_py (d : D) (hd : okD 11 d = true) : ∀ xs : List D, xs.all (okD 11) = true → ((toPyL xs).countP fun z => PyData.eqv z (toPy d)) = xs.countP fun z => eqN 11 z d
  | [], _ => rfl
  | x :: xs, h => by
    simp only [List.all_cons, Bool.and_eq_true] at h
    simp only [toPyL, List.countP_cons, eq_py 11 x d h.1 hd, count_py d hd xs h.2]
theorem toPyL_get : ∀ (xs : List D) (j : Nat), (toPyL xs)[j]? = xs[j]?.map toPy
  | [], j => by simp [toPyL]
  | x :: xs, 0 => by simp [toPyL]
  | x :: xs, j + 1 => by simp [toPyL, toPyL_get xs j]
section
variable {c : Cn} {X : Cx} {W : WX}
theorem bmt_of {x : Str} {id : String} {r : V → List V → Hp → VK → Prop} {f : D → List D → Option D} (slot : Slot "list" x id) (hty : typeOf (.builtin id) = pure (.type "method_descriptor")) (hm : MtR X id r) (hl : ∀ d ds e, f d ds = some e → ∃ xs, d = .lst xs)
    (hs : ∀ g H w vs ds v xs d Q, WOk c g H w → Rep c g v (.lst xs) → RepL c g vs ds → f (.lst xs) ds = some d → Wants c g H w d Q → r v vs H Q) : BmtOk c X W x f := by
  intro o e es mo ms apos cpos ho ha h1 h2 h3 h4 h5 h6
  refine (pe_bm PySem.F.plainAttrs_list slot hty hm ho ha h6 ?_ h5 h1 h2).mono fun σ H Q h => ?_
  · rw [h3]
    have e : (backToKw cpos (keywordEach [] X.env)).all (fun x => x.1.isSome) = true := rfl
    rw [e]
    simpa using h4
  · obtain ⟨B, g, ρ, w, E, k, p⟩ := h
    unfold mBmt at p
    refine ⟨B, g, ρ, w, E, k, bnd p fun g1 H1 x dx w1 _ e1 k1 r1 p1 => ?_⟩
    cases hb : ms ρ w1 with
    | bad => rw [hb] at p1; exact False.elim p1
    | exc j w2 => rw [hb] at p1; exact False.elim p1
    | ok ds w2 =>
      have p1' := p1
      rw [hb] at p1'
      obtain ⟨d, ed, _⟩ := post_lift p1'
      obtain ⟨xs, rfl⟩ := hl _ _ _ ed
      refine ⟨?_, B, g1, ρ, w1, E.ext e1, k1, ?_⟩
      · cases r1 with
        | lst hx lx => exact .inl ⟨rfl, _, SqL.of (k1.sub _ _ hx)⟩
      · have p2 : post c (Rep c) g1 H1 Q (WE W σ) ((ms ρ w1).bind fun xs' w' => lift (f (.lst xs) xs') w') := by
          rw [hb]
          exact p1'
        refine bnd p2 fun g2 H2 vs ds' w3 _ e2 k2 r2 p3 => ?_
        obtain ⟨d', ed', q⟩ := post_lift p3
        exact hs g2 H2 w3 vs ds' _ xs d' Q k2 (r1.mono e2.toGle) r2 ed' q
theorem bmt_count (hu : X.A.units + 65 < cLine) : BmtOk c X W "count" dCount := bmt_of PySem.F.slot_list_count PySem.F.type_list_count (mt_countD hu) (fun d ds e h => by
  unfold dCount at h
  split at h
  · exact ⟨_, rfl⟩
  · cases h) fun g H w vs ds v xs d Q k rv rs e q => by
  cases ds with
  | nil => cases e
  | cons y ys =>
    cases ys with
    | cons _ _ => cases e
    | nil =>
      simp only [dCount] at e
      split at e
      · rename_i hok
        cases e
        rw [Bool.and_eq_true] at hok
        cases rs with
        | cons ry rr =>
          cases rr
          have hl : okD 12 (.lst xs) = true := hok.2
          have dv := rv.dp (K := X.K) k.sub hl
          cases rv with
          | lst ha la => exact ⟨_, _, _, _, rfl, rfl, dv, ry.dp k.sub hok.1, ok_shaped (by decide) hl, ok_shaped (by decide) hok.1, by rw [count_py _ hok.1 _ hok.2]; exact q.at k (.int _)⟩
      · cases e
theorem bmt_index (hu : X.A.units + 65 < cLine) : BmtOk c X W "index" dIndex := bmt_of PySem.F.slot_list_index PySem.F.type_list_index (mt_indexD hu) (fun d ds e h => by
  unfold dIndex at h
  split at h
  · exact ⟨_, rfl⟩
  · cases h) fun g H w vs ds v xs d Q k rv rs e q => by
  cases ds with
  | nil => cases e
  | cons y ys =>
    cases ys with
    | cons _ _ => cases e
    | nil =>
      simp only [dIndex] at e
      split at e
      · rename_i hok
        rw [Bool.and_eq_true] at hok
        cases hf : xs.findIdx? (fun z => eqN 11 z y) with
        | none => rw [hf] at e; cases e
        | some j =>
          rw [hf] at e
          cases e
          obtain ⟨hj, hj1, hj2⟩ := List.findIdx?_eq_some_iff_getElem.1 hf
          cases rs with
          | cons ry rr =>
            cases rr
            have hl : okD 12 (.lst xs) = true := hok.2
            have okx : ∀ (m : Nat) (hm : m < xs.length), okD 11 (xs[m]) = true := fun m hm => List.all_eq_true.1 hok.2 _ (List.getElem_mem hm)
            have dv := rv.dp (K := X.K) k.sub hl
            cases rv with
            | lst ha la => exact ⟨_, _, _, _, j, _, rfl, rfl, dv, ry.dp k.sub hok.1, ok_shaped (by decide) hl, ok_shaped (by decide) hok.1, by rw [toPyL_get, List.getElem?_eq_getElem hj]; rfl, by rw [eq_py 11 _ _ (okx j hj) hok.1]; exact hj1, fun m z' hm hz' => by
                rw [toPyL_get, List.getElem?_eq_getElem (show m < xs.length by omega)] at hz'
                cases hz'
                rw [eq_py 11 _ _ (okx m (by omega)) hok.1]
                simpa using hj2 m hm, q.at k (.int _)⟩
      · cases e
end
end RL

namespace RL
open PySem L2
/-! sorted of ints -/
def insI (x : Int) : List Int → List Int
  | [] => [x]
  | y :: ys => if x ≤ y then x :: y :: ys else y :: insI x ys
def sortI : List Int → List Int
  | [] => []
  | x :: xs => insI x (sortI xs)
theorem insI_perm (x : Int) : ∀ ys : List Int, (insI x ys).Perm (x :: ys)
  | [] => .refl _
  | y :: ys => by
    unfold insI
    split
    · exact .refl _
    · exact ((insI_perm x ys).cons y).trans (.swap x y ys)
theorem sortI_perm : ∀ xs : List Int, (sortI xs).Perm xs
  | [] => .refl _
  | x :: xs => (insI_perm x (sortI xs)).trans ((sortI_perm xs).cons x)
theorem insI_sorted (x : Int) : ∀ {ys : List Int}, ys.Pairwise (· ≤ ·) → (insI x ys).Pairwise (· ≤ ·)
  | [], _ => by simp [insI]
  | y :: ys, h => by
    unfold insI
    rw [List.pairwise_cons] at h
    split
    · rename_i hxy
      rw [List.pairwise_cons, List.pairwise_cons]
      exact ⟨fun z hz => by
        rcases List.mem_cons.1 hz with rfl | hz
        · exact hxy
        · have := h.1 z hz
          omega, h⟩
    · rename_i hxy
      rw [List.pairwise_cons]
      refine ⟨fun z hz => ?_, insI_sorted x h.2⟩
      rcases List.mem_cons.1 ((insI_perm x ys).mem_iff.1 hz) with rfl | hz
      · omega
      · exact h.1 z hz
theorem sortI_sorted : ∀ xs : List Int, (sortI xs).Pairwise (· ≤ ·)
  | [] => .nil
  | x :: xs => insI_sorted x (sortI_sorted xs)
theorem sorted_unique : ∀ {xs ys : List Int}, xs.Perm ys → xs.Pairwise (· ≤ ·) → ys.Pairwise (· ≤ ·) → xs = ys
  | [], ys, p, _, _ => by simp [p.symm.eq_nil]
  | x :: xs, [], p, _, _ => by simp at p
  | x :: xs, y :: ys, p, h1, h2 => by
    rw [List.pairwise_cons] at h1 h2
    have e : x = y := by
      have a1 : x ∈ y :: ys := p.mem_iff.1 List.mem_cons_self
      have a2 : y ∈ x :: xs := p.mem_iff.2 List.mem_cons_self
      rcases List.mem_cons.1 a1 with e | a1
      · exact e
      · rcases List.mem_cons.1 a2 with e | a2
        · exact e.symm
        · have := h1.1 y a2
          have := h2.1 x a1
          omega
    subst e
    rw [sorted_unique (List.perm_cons x |>.1 p) h1.2 h2.2]
def dSort : List D → Option D
  | [.lst xs] => (asInts xs).map fun ns => .lst ((sortI ns).map .int)
  | _ => none
section
variable {c : Cn} {X : Cx} {W : WX}
theorem repL_ints {g : Gs} : ∀ ns : List Int, RepL c g (ns.map V.int) (ns.map D.int)
  | [] => .nil
  | n :: ns => .cons (.int n) (repL_ints ns)
theorem prS_sort {K : PySem.W.Frag} : PrS c dSort (rSortedI K) := by
  intro g H w vs ds d Q k r e q
  unfold dSort at e
  split at e
  · cases r with
    | cons a l =>
      cases l
      cases a with
      | lst hx lx =>
        rename_i xs _ _
        cases hi : asInts xs with
        | none => rw [hi] at e; cases e
        | some ns =>
          rw [hi] at e
          cases e
          have hv := asInts_rep lx hi
          subst hv
          refine ⟨_, ns, rfl, SqL.of (k.sub _ _ hx), fun ns' p hp hs hn => ?_⟩
          rw [sorted_unique (hp.trans (sortI_perm ns).symm) hs (sortI_sorted ns)]
          exact q.lst k (repL_ints _) p hn
  · cases e
theorem pri_sort (hm : X.mg "sorted" = none) : PriOk c X W "sorted" dSort := fun e es ms p pos hg ha he hpl => s_bi cr_sortedI prS_sort hg hm (by decide +kernel) ha (by decide) (by decide) he hpl
end
end RL

/-! sorted(set(list of ints)), len(set(list of ints)) -/
namespace RL
open PySem PySem.Spec PyProof.Rows L2
abbrev nSet (w : World) : Obj := { cls := .type "set", dict := none, data := .set #[] 0 (.fresh 0 0 (!w.params.followText "set-order")) }
section
variable {P : Program} {w : World} {A : Around} {E : Value → Shared → Prop} {s : Shared}
theorem set_of_list {ax : Addr} {its : Array Value} (zs : List Int) {Q : Value → Shared → Prop} (hdl : A.handled = none) (hL : s.heap.IsList ax its) (hI : IntsAre its.toList zs) (hB : zs.length + 1 < scanBound)
    (kk : ∀ (h' : Heap) (tk c : Nat), SetR w h' s.heap.objs.size (fun j => decide (j ∈ zs)) c → c ≤ zs.length → (∀ b o, s.heap.get? b = some o → h'.get? b = some o) → Q (.ref s.heap.objs.size) { s with heap := h', toks := tk }) :
    wpAny (model P w) A (call (.type "set") [.ref ax]) Q E s := by
  have hz : its.size = zs.length := by
    have q := IntsAre.length hI
    rwa [Array.length_toList] at q
  obtain ⟨c0, tl0, hmr⟩ := F.called_set.mro
  have hmd := F.called_set.made; have hsb := F.called_set.sub
  refine wpAny_call (codeAny_of_tree ?_); show wpAny _ _ (callAny (.type "set") _) _ _ _
  refine wpAny_pure ⟨Code.quiet_builtin _ (by decide +kernel), codeAny_builtin F.entry_type_call ?_⟩; rw [Around.under_plain (weight_type_call_type "set" [.ref ax] []) rfl]
  have q1 := F.called_set.notType; have q2 := F.called_set.canCreate; have q3 := F.typeCall_set_1 (.ref ax)
  repeat (any_goals (first | assumption | wp_step))
  refine codeAny_mono (code_set_led1 (.ref ax) (E := E) (Q₁ := fun ob s1 => ob = .ref s.heap.objs.size ∧ s1 = { s with heap := s.heap.push (nSet w) }) ⟨rfl, rfl⟩) fun rr s1 hr => ?_
  cases rr with
  | error e => exact hr
  | ok fl =>
    cases fl with
    | ret ob =>
      obtain ⟨rfl, rfl⟩ := hr
      have gS : (s.heap.push (nSet w)).get? s.heap.objs.size = some (nSet w) := Heap.get?_push_size _ rfl
      have gT : Shared.TypeIs { s with heap := s.heap.push (nSet w) } (.ref s.heap.objs.size) "set" := ⟨_, gS, rfl⟩
      have gi := F.called_set.init.lookup; have gb := F.called_set.init.bind (.ref s.heap.objs.size)
      repeat (any_goals (first | assumption | wp_step))
      refine codeAny_mono (codeAny_call_builtin (R := wants (fun r s2 => r = .none ∧ ∃ h' tk c, s2 = { s with heap := h', toks := tk } ∧ SetR w h' s.heap.objs.size (fun j => decide (j ∈ zs)) c ∧ c ≤ zs.length ∧ ∀ b o, s.heap.get? b = some o → h'.get? b = some o) E) F.called_set.init.plain F.entry_set_init (check_set_init_1 gT ?_)) fun r2 s2 hr2 => ?_
      · obtain ⟨ob, hob, hcb, nb, hdb⟩ := hL
        obtain ⟨ocl, odc, oda, osl⟩ := ob
        simp only at hcb hdb
        subst hcb; subst hdb
        have hob' : (s.heap.push (nSet w)).get? ax = some { cls := .type "list", dict := odc, data := .seq its nb, slots := osl } := Heap.get?_push_of_some _ hob
        have t1 := F.sub_list_set; have t2 := F.sub_list_frozenset
        have t3 : (Value.type "list" == Value.type "dict") = false := by decide
        have hL1 : (s.heap.push (nSet w)).IsList ax its := ⟨_, hob', rfl, nb, rfl⟩
        unfold Builtin.«set.__init__» noKeywords Builtin.Frozenset.updateFrom; generalize hpi : pyIter = PI
        wp_walk
        subst hpi
        refine wpAny_pyIter_list hL1 ?_
        refine wpAny_bind (wpAny_runValue ?_)
        have lt0 : ax < s.heap.objs.size := Heap.lt_size hob
        have hd3 : A.in1.in1.in1.handled = none := by simp [hdl]
        have sz1 : (s.heap.push (nSet w)).objs.size = s.heap.objs.size + 1 := Heap.size_push ..
        have ne1 : ax ≠ (s.heap.push (nSet w)).objs.size := by rw [sz1]; exact Nat.ne_of_lt (Nat.lt_succ_of_lt lt0)
        have out1 : s.heap.objs.size ∉ [(s.heap.push (nSet w)).objs.size, ax] := by
          rw [sz1]
          simp only [List.mem_cons, List.not_mem_nil, or_false, not_or]
          exact ⟨Nat.ne_of_lt (Nat.lt_succ_self _), Nat.ne_of_gt lt0⟩
        have val : ∀ (i : Nat) (v : Value), its[i]? = some v → ∃ k t, zs[i]? = some k ∧ v = .int k t := fun i v hv => by
          have hi : i < zs.length := by rw [← hz]; exact (Array.getElem?_eq_some_iff.mp hv).1
          obtain ⟨t, e⟩ := PyProof.Rows.IntsAre.int_at hI i v (by rw [Array.getElem?_toList]; exact hv)
          exact ⟨zs[i], t, List.getElem?_eq_getElem hi, by rw [e, List.getD_eq_getElem?_getD, List.getElem?_eq_getElem hi]; rfl⟩
        refine set_update_ints ((Walks.list hd3 _ ax ne1 its).toS) s.heap.objs.size out1 zs hz hB val (its.size - 0) 0 _ (by omega) (Nat.zero_le _) ⟨⟨_, Heap.get?_push_size _ rfl, rfl, rfl⟩, (hL1.push _)⟩ ?start ?stop
        case start =>
          have g0 : ((s.heap.push (nSet w)).push { cls := .type "list_iterator", data := .fields #[.ref ax, .int 0 0] }).get? s.heap.objs.size = some (nSet w) := Heap.get?_push_of_some _ gS
          exact ⟨0, Nat.le_refl 0, setR_new_at g0⟩
        case stop =>
          intro s3 c3 hm hc3 hS3
          obtain ⟨hp3, g3, d3, tk3, os3⟩ := s3
          have eg : g3 = s.gens := hm.gens; have ed : d3 = s.drawn := hm.drawn; have eo : os3 = s.os := hm.os
          subst eg; subst ed; subst eo
          show wpAny _ _ _ _ _ _
          refine wpAny_pure ?_; show wpAny _ _ (ret Value.none) _ _ _
          rw [hz] at hc3
          refine wpAny_pure ⟨rfl, hp3, tk3, c3, rfl, hS3, hc3, fun b o e => ?_⟩
          have lb : b < s.heap.objs.size := Heap.lt_size e
          refine hm.heap b o ?_ (Heap.get?_push_of_some _ (Heap.get?_push_of_some _ e))
          rw [sz1]
          simp only [List.mem_cons, List.not_mem_nil, or_false, not_or]
          exact ⟨Nat.ne_of_lt lb, Nat.ne_of_lt (Nat.lt_succ_of_lt lb)⟩
      · cases r2 with
        | error e => exact hr2
        | ok f2 =>
          cases f2 with
          | ret rv =>
            obtain ⟨rfl, h', tk, c', rfl, hS', hc', hk'⟩ := hr2
            repeat (any_goals (first | assumption | wp_step))
            exact kk _ _ _ hS' hc' hk'
          | _ => exact hr2.elim
    | _ => exact hr.elim
end
/-! ### the members, ascending -/
def dd : List Int → List Int
  | [] => []
  | x :: xs => if x ∈ dd xs then dd xs else x :: dd xs
theorem mem_dd : ∀ {xs : List Int} {k : Int}, k ∈ dd xs ↔ k ∈ xs
  | [], k => by simp [dd]
  | x :: xs, k => by
    have ih := mem_dd (xs := xs) (k := k)
    have ix := mem_dd (xs := xs) (k := x)
    unfold dd
    split
    · rename_i h
      rw [List.mem_cons, ih]
      constructor
      · exact .inr
      · rintro (rfl | h2)
        · exact ix.1 h
        · exact h2
    · rw [List.mem_cons, List.mem_cons, ih]
theorem dd_nodup : ∀ xs : List Int, (dd xs).Nodup
  | [] => .nil
  | x :: xs => by
    unfold dd
    split
    · exact dd_nodup xs
    · rename_i h
      exact List.nodup_cons.2 ⟨h, dd_nodup xs⟩
theorem dd_le : ∀ xs : List Int, (dd xs).length ≤ xs.length
  | [] => Nat.le_refl _
  | x :: xs => by
    have := dd_le xs
    unfold dd
    split
    · rw [List.length_cons]; omega
    · rw [List.length_cons, List.length_cons]; omega
def sortU (xs : List Int) : List Int := sortI (dd xs)
theorem mem_sortU {xs : List Int} {k : Int} : k ∈ sortU xs ↔ k ∈ xs := (sortI_perm _).mem_iff.trans mem_dd
theorem sortU_lt (xs : List Int) : (sortU xs).Pairwise (· < ·) := L2.lt_of_le_nodup _ (sortI_sorted _) ((sortI_perm _).nodup_iff.2 (dd_nodup xs))
theorem lt_unique : ∀ {xs ys : List Int}, xs.Pairwise (· < ·) → ys.Pairwise (· < ·) → (∀ k, k ∈ xs ↔ k ∈ ys) → xs = ys
  | [], [], _, _, _ => rfl
  | [], y :: ys, _, _, h => by have := (h y).2 List.mem_cons_self; simp at this
  | x :: xs, [], _, _, h => by have := (h x).1 List.mem_cons_self; simp at this
  | x :: xs, y :: ys, h1, h2, h => by
    rw [List.pairwise_cons] at h1 h2
    have e : x = y := by
      rcases List.mem_cons.1 ((h x).1 List.mem_cons_self) with e | a
      · exact e
      · rcases List.mem_cons.1 ((h y).2 List.mem_cons_self) with e | b
        · exact e.symm
        · have := h1.1 y b
          have := h2.1 x a
          omega
    subst e
    rw [lt_unique h1.2 h2.2 fun k => ?_]
    constructor
    · intro hk
      rcases List.mem_cons.1 ((h k).1 (List.mem_cons_of_mem _ hk)) with e | b
      · have := h1.1 k hk
        omega
      · exact b
    · intro hk
      rcases List.mem_cons.1 ((h k).2 (List.mem_cons_of_mem _ hk)) with e | b
      · have := h2.1 k hk
        omega
      · exact b
theorem sortU_len {xs ys : List Int} (nd : ys.Nodup) (h : ∀ k, k ∈ ys ↔ k ∈ xs) : ys.length = (sortU xs).length := by
  rw [← (sortI_perm ys).length_eq]
  congr 1
  refine lt_unique (L2.lt_of_le_nodup _ (sortI_sorted _) ((sortI_perm _).nodup_iff.2 nd)) (sortU_lt xs) fun k => ?_
  rw [(sortI_perm ys).mem_iff, h, mem_sortU]
section
variable {X : Cx}
def tSrs (K : PySem.W.Frag) (ta : TE) : TE := fun σ H Q => ta σ H fun x H1 => ∃ (l : Addr) (zs : List Int), x = V.ref l ∧ SqL K H1 l (zs.map V.int) ∧ zs.length ≤ 1000 ∧ (sortU zs).length < 64 ∧ ∀ p, H1 p = none → Q (.ref p) (upd H1 p (.lst ((sortU zs).map V.int)))
theorem pe_srs {a : Expr} {ta : TE} {p p2 q pos : Pos} (hc : X.calm = true) (hg : Gl X "sorted") (hm : X.mg "sorted" = none) (hg2 : Gl X "set") (hm2 : X.mg "set" = none) (ha : PE X a ta) (na : starEach [a] X.env = (false, eval a X.env) :: starEach [] X.env) :
    PE X (.Call (.Name "sorted" p) [.Call (.Name "set" p2) [a] [] q] [] pos) (tSrs X.K ta) := by
  refine ⟨fun pins s σ H Q I h => ?_⟩
  refine Call_ (ld_blt I hg hm (by decide +kernel : bootBuiltins "sorted" = some (.builtin "sorted")) ?_)
  refine PyProof.Rows.callWith_builtin1 (PyProof.Rows.args_cons ?_ rfl) rfl rfl
  refine Call_ (ld_blt I hg2 hm2 PyProof.Rows.boot_set ?_); refine PyProof.Rows.callWith_type1 (PyProof.Rows.args_cons (thn (ha.run pins s σ H _ I h) fun v s1 ⟨x, H1, I1, r1, z⟩ => PyProof.Rows.args_nil ?_) na) na rfl
  obtain ⟨l, zs, rfl, hq, h1, h64, z⟩ := z
  cases r1
  obtain ⟨its, r, pl, hz⟩ := I1.list hq
  have hI : IntsAre its zs := by simpa using r.ints
  refine set_of_list (its := its.toArray) zs (I1.ok.hd hc) pl.isList (by simpa using hI) (by unfold scanBound; omega) fun h' tk c hS hcl hk => ?_
  refine PyProof.Rows.args_nil ?_
  have I2 : Inv X pins σ H1 { s1 with heap := h', toks := tk } := I1.kept fun b o e => hk b o e
  have hS' := hS
  obtain ⟨o, es, ep, t, ho, hex, hd, g, nd, hmm, hb, hf, hn, hr, hl⟩ := hS'
  have hcn : c = (sortU zs).length := by
    have e := sortU_len (xs := zs) nd fun k => by rw [← hmm k]; simp
    rw [List.length_map, Array.length_toList] at e
    rw [← e, hn]
  refine sorted_set (s := { s1 with heap := h', toks := tk }) hS (I2.ok.hd hc) (by rw [hcn]; exact h64) fun s' pp out cc ns k gg oo hp hgg hi hs hm' hl' => ?_
  have hns : ns = sortU zs := lt_unique hs (sortU_lt zs) fun k => by rw [hm' k, mem_sortU]; simp
  subst hns
  have hlen : ((sortU zs).map V.int).length ≤ sizeLine := by
    rw [List.length_map, sizeLine_eq]
    omega
  have hno : H1 pp = none := I2.hok.fresh hp
  have J : Inv X pins σ (upd H1 pp (.lst ((sortU zs).map V.int))) { ({ s1 with heap := h', toks := tk } : Shared) with heap := s'.heap, gens := s'.gens, drawn := s'.drawn, toks := s'.toks } :=
    I2.call (ch := []) (Un.laid k hp hno) (I2.hok.laid k hp ⟨hlen, out.toList, cc, vals_of_ints hi, hgg⟩) (by rw [gg]; exact I2.bare) (fun _ y => nomatch y)
  have e : s' = { s1 with heap := s'.heap, gens := s'.gens, drawn := s'.drawn, toks := s'.toks } := by
    cases s'
    cases s1
    cases oo
    rfl
  rw [e]
  exact ⟨.ref pp, _, J, rfl, z pp hno⟩
def tLns (K : PySem.W.Frag) (ta : TE) : TE := fun σ H Q => ta σ H fun x H1 => ∃ (l : Addr) (zs : List Int), x = V.ref l ∧ SqL K H1 l (zs.map V.int) ∧ zs.length ≤ 1000 ∧ Q (.int (sortU zs).length) H1
theorem pe_lns {a : Expr} {ta : TE} {p p2 q pos : Pos} (hc : X.calm = true) (hg : Gl X "len") (hm : X.mg "len" = none) (hg2 : Gl X "set") (hm2 : X.mg "set" = none) (ha : PE X a ta) (na : starEach [a] X.env = (false, eval a X.env) :: starEach [] X.env) :
    PE X (.Call (.Name "len" p) [.Call (.Name "set" p2) [a] [] q] [] pos) (tLns X.K ta) := by
  refine ⟨fun pins s σ H Q I h => ?_⟩
  refine Call_ (ld_blt I hg hm PySem.boot_len ?_); refine PyProof.Rows.callWith_builtin1 (PyProof.Rows.args_cons ?_ rfl) rfl rfl
  refine Call_ (ld_blt I hg2 hm2 PyProof.Rows.boot_set ?_); refine PyProof.Rows.callWith_type1 (PyProof.Rows.args_cons (thn (ha.run pins s σ H _ I h) fun v s1 ⟨x, H1, I1, r1, z⟩ => PyProof.Rows.args_nil ?_) na) na rfl
  obtain ⟨l, zs, rfl, hq, h1, z⟩ := z
  cases r1
  obtain ⟨its, r, pl, hz⟩ := I1.list hq
  have hI : IntsAre its zs := by simpa using r.ints
  refine set_of_list (its := its.toArray) zs (I1.ok.hd hc) pl.isList (by simpa using hI) (by unfold scanBound; omega) fun h' tk c hS hcl hk => ?_
  refine PyProof.Rows.args_nil ?_
  have I2 : Inv X pins σ H1 { s1 with heap := h', toks := tk } := I1.kept fun b o e => hk b o e
  obtain ⟨o, es, ep, t, ho, hex, hd, g, nd, hmm, hb, hf, hn, hr, hl⟩ := hS
  have hcn : es.size = (sortU zs).length := by
    have e := sortU_len (xs := zs) nd fun k => by rw [← hmm k]; simp
    rwa [List.length_map, Array.length_toList] at e
  exact call_len_set ho hex hd hf (by omega) ⟨.int (sortU zs).length, H1, I2.tok _, ⟨_, by rw [hcn]⟩, z⟩
end
end RL

namespace RL
open PySem L2
/-- measures of the loops -/
def muI (i : Nat) (r : Rho) : Nat := match r[i]? with
  | some (.dat (.int o)) => o.toNat + 1
  | _ => 0
def muD (i j : Nat) (r : Rho) : Nat := match r[i]?, r[j]? with
  | some (.dat (.int l)), some (.dat (.int h)) => (h - l).toNat + 1
  | _, _ => 0
def Tab.add (T : Tab) (x : Str) (n : Nat) (f : MF) : Tab := { T with fns := T.fns ++ [(x, n, f)] }
section
variable {c : Cn} {P : Program} {w : World} {K : PySem.W.Frag} {mg : Str → Option Value} {base : Heap} {k : Nat} {T : Tab}
theorem BOk.down {X : Cx} (b : BOk P w K mg base (k + 1) X) : BOk P w K mg base k X := ⟨b.prog, b.w, b.K, b.mg, b.base, b.calm, b.room.mono (Nat.le_succ k)⟩
/-- one more def, by its promise -/
theorem tok_hand (HT : TOk c P w K mg base k T) {x : Str} {f : Addr} {fd : FuncData} {ps : List Str} {n : Nat} {φ : MF} (F : FnOk P w K mg base (L2.CX P w) (k + 1) f fd ps (spOf c n φ)) (hm : mg x = some (.ref f)) (hk : PySem.W.keepIn K (.ref f) = true) (hb : Binds K fd ps []) : TOk c P w K mg base (k + 1) (T.add x n φ) := by
  refine ⟨fun X b i p e => ?_, fun X W b => HT.pri X W b.down, fun X W b => HT.bmt X W b.down, HT.cs, fun X b => HT.exs X b.down, HT.range, HT.list, HT.enumerate, HT.zip, HT.isinstance, HT.int, HT.bool, HT.str, HT.tuple, HT.trs, HT.cls, fun X W b => HT.pr2 X W b.down, fun X W b => HT.hks X W b.down⟩
  have e : (T.fns ++ [(x, n, φ)])[i]? = some p := e
  by_cases hi : i < T.fns.length
  · rw [List.getElem?_append_left hi] at e
    exact HT.fns X b.down i p e
  · rw [List.getElem?_append_right (by omega)] at e
    cases q : i - T.fns.length with
    | succ j => rw [q] at e; simp at e
    | zero =>
      rw [q] at e
      simp at e
      subst e
      obtain ⟨b1, b2, b3, b4, b5, b6, b7⟩ := b
      exact ⟨k + 1, f, fd, ps, by rw [b1, b2, b3, b4, b5]; exact F, b7, by rw [b4]; exact hm, by rw [b3]; exact hk, by rw [b3]; exact hb⟩
/-- one more def, by its data -/
theorem tok_step (HT : TOk c P w K mg base k T) {x qual : Str} {st : Stmt} {f : Addr} {fd : FuncData} {N ps : List Str} {ss : Ss} {φ : MF} (F : Fun K x qual st f fd) (SC : FnScope N ps (defScope st)) (q : chkSs T ⟨N, defScope st, fun _ => true⟩ ss (defBody st) = true) (hr : Ref (mFun N.length (ess T ss)) φ)
    (hm : mg x = some (.ref f)) (hb : Binds K fd ps []) : TOk c P w K mg base (k + 1) (T.add x ps.length φ) :=
  tok_hand HT ((def_ok HT F SC q).imp (spOf_ref hr)) hm F.kp hb
end

/-! ### the draws -/
def drawAt (ns : List Int) (n : Int) : Nat := ((n + 1) % (ns.length : Int)).toNat
def drawV (ns : List Int) (n l : Int) : Int := match ns[drawAt ns n]? with
  | none => 0
  | some cell => if 1000000000000000000 ≤ cell then cell % l else
    let m := (cell + 104729 * (n + 1)) % 4294967291
    let m := m ^ 5 % 4294967279
    (m / 64 * 69621 + m) % 4294967231 / 8 % l
def drawN (ns : List Int) (n l : Int) : List Int := match ns[drawAt ns n]? with
  | none => ns
  | some cell => if 1000000000000000000 ≤ cell then ns.set (drawAt ns n) (cell / l) else ns
def mDraw : MF := fun ds w => match ds, w.dr with
  | [.drw, .int l], some (ns, n) => if decide (0 < l) && decide (l ≤ 1000000) && !ns.isEmpty then .ok (.int (drawV ns n l)) { w with dr := some (drawN ns n l, n + 1) } else .bad
  | _, _ => .bad
/-- the world behind a draw -/
theorem WOk.drawn {c : Cn} {g : Gs} {H : Hp} {w : Wd} {a b : Addr} {ns ns' : List Int} {n n' : Int} (k : WOk c g H w) (hd : g.dr = some (a, b)) (hw : w.dr = some (ns, n)) :
    WOk c g (upd (upd H a (.lst [.ref b, .int n'])) b (.lst (ns'.map V.int))) { w with dr := some (ns', n') } ∧ Ext g H g (upd (upd H a (.lst [.ref b, .int n'])) b (.lst (ns'.map V.int))) := by
  have ma : a ∈ g.wadr := by simp [Gs.wadr, hd, wdr]
  have mb : b ∈ g.wadr := by simp [Gs.wadr, hd, wdr]
  have nab : a ≠ b := by
    have := k.nd
    unfold Gs.wadr at this
    rw [hd] at this
    simp only [wdr, List.cons_append, List.nil_append, List.nodup_cons, List.mem_cons, not_or] at this
    exact this.1.1
  have other : ∀ q, q ≠ a → q ≠ b → upd (upd H a (.lst [.ref b, .int n'])) b (.lst (ns'.map V.int)) q = H q := fun q h1 h2 => by rw [upd_ne h2, upd_ne h1]
  refine ⟨⟨fun q o e => ?_, fun ms m e => ?_, (fun e => by cases e), fun i sz ln e => ?_, k.tbl, k.nd, k.out⟩, ⟨Gle.refl g, fun q o e nq => ?_, fun q e => ?_, fun q e _ => e, fun q e => .inl e⟩⟩
  · have n1 : q ≠ a := fun z => by rw [z, k.out a ma] at e; cases e
    have n2 : q ≠ b := fun z => by rw [z, k.out b mb] at e; cases e
    rw [other q n1 n2]
    exact k.sub q o e
  · cases e
    exact ⟨a, b, hd, by rw [upd_ne nab, upd_same], upd_same⟩
  · obtain ⟨t, dx, l, vs, e1, e2, e3, r⟩ := k.tb i sz ln e
    obtain ⟨m1, m2⟩ := wtb_mem e1
    have nd := k.nd
    unfold Gs.wadr at nd
    rw [hd] at nd
    simp only [wdr, List.cons_append, List.nil_append, List.nodup_cons, List.mem_cons, not_or] at nd
    have ne : ∀ q, q ∈ wtb g.tb → q ≠ a ∧ q ≠ b := fun q hq => ⟨fun z => nd.1.2 (z ▸ hq), fun z => nd.2.1 (z ▸ hq)⟩
    refine ⟨t, dx, l, vs, e1, ?_, ?_, r⟩
    · rw [other t (ne t m1).1 (ne t m1).2]; exact e2
    · rw [other l (ne l m2).1 (ne l m2).2]; exact e3
  · rw [other q (fun z => nq (z ▸ ma)) (fun z => nq (z ▸ mb))]
    exact e
  · by_cases n2 : q = b
    · rw [n2, upd_same] at e; cases e
    · rw [upd_ne n2] at e
      by_cases n1 : q = a
      · rw [n1, upd_same] at e; cases e
      · rw [upd_ne n1] at e; exact e
theorem drawAt_lt {ns : List Int} {n : Int} (h : ns ≠ []) : drawAt ns n < ns.length := by
  unfold drawAt
  have h1 : 0 < ns.length := List.length_pos_iff.mpr h
  have h2 := Int.emod_lt_of_pos (n + 1) (show (0 : Int) < ns.length by omega)
  have h3 := Int.emod_nonneg (n + 1) (show (ns.length : Int) ≠ 0 by omega)
  omega
theorem drawV_range {ns : List Int} {n l : Int} (h : 0 < l) : 0 ≤ drawV ns n l ∧ drawV ns n l < l := by
  unfold drawV
  split
  · exact ⟨Int.le_refl _, h⟩
  · split
    · exact ⟨Int.emod_nonneg _ (by omega), Int.emod_lt_of_pos _ h⟩
    · exact ⟨Int.emod_nonneg _ (by omega), Int.emod_lt_of_pos _ h⟩
theorem drawN_length {ns : List Int} {n l : Int} : (drawN ns n l).length = ns.length := by
  unfold drawN
  split
  · rfl
  · split <;> simp
end RL

namespace RL
open PySem L2
section
variable {c : Cn} {P : Program} {w : World} {K : PySem.W.Frag} {mg : Str → Option Value} {base : Heap} {k : Nat} {T : Tab}
/-- names of built-ins that no def of the text hides -/
structure Free (mg : Str → Option Value) : Prop where
  range : mg "range" = none
  list : mg "list" = none
  enumerate : mg "enumerate" = none
  zip : mg "zip" = none
  isinstance : mg "isinstance" = none
  int : mg "int" = none
  bool : mg "bool" = none
  str : mg "str" = none
  tuple : mg "tuple" = none
  len : mg "len" = none
  abs : mg "abs" = none
  all : mg "all" = none
  sum : mg "sum" = none
  max : mg "max" = none
  min : mg "min" = none
  sorted : mg "sorted" = none
  set : mg "set" = none
def priTab : List (Str × (List D → Option D)) := [("len", dLen), ("abs", dAbs), ("all", dAll), ("sum", dSum), ("max", dMax), ("min", dMin), ("tuple", dTup), ("sorted", dSort)]
def bmtTab : List (Str × (D → List D → Option D)) := [("count", dCount), ("index", dIndex)]
theorem priTab_ok (fr : Free mg) : ∀ X W, BOk P w K mg base 0 X → Takes X W → ∀ (i : Nat) p, priTab[i]? = some p → PriOk c X W p.1 p.2 := by
  intro X W b tk i p e
  have m := List.mem_of_getElem? e
  simp only [priTab, List.mem_cons, List.not_mem_nil, or_false] at m
  rcases m with rfl | rfl | rfl | rfl | rfl | rfl | rfl | rfl
  · exact pri_len (by rw [b.mg]; exact fr.len)
  · exact pri_abs (by rw [b.mg]; exact fr.abs)
  · exact pri_all b.calm (by rw [b.mg]; exact fr.all)
  · exact pri_sum b.calm (by rw [b.mg]; exact fr.sum)
  · exact pri_max b.calm (by rw [b.mg]; exact fr.max)
  · exact pri_min b.calm (by rw [b.mg]; exact fr.min)
  · exact pri_tup (by rw [b.mg]; exact fr.tuple)
  · exact pri_sort (by rw [b.mg]; exact fr.sorted)
theorem bmtTab_ok : ∀ X W, BOk P w K mg base 0 X → Takes X W → ∀ (i : Nat) p, bmtTab[i]? = some p → BmtOk c X W p.1 p.2 := by
  intro X W b tk i p e
  have m := List.mem_of_getElem? e
  simp only [bmtTab, List.mem_cons, List.not_mem_nil, or_false] at m
  rcases m with rfl | rfl
  · exact bmt_count b.hu
  · exact bmt_index b.hu
def dSrs : D → Option D
  | .lst xs => (asInts xs).bind fun ns => if decide (ns.length ≤ 1000) && decide ((sortU ns).length < 64) then some (.lst ((sortU ns).map .int)) else none
  | _ => none
def dLns : D → Option D
  | .lst xs => (asInts xs).bind fun ns => if decide (ns.length ≤ 1000) then some (.int (sortU ns).length) else none
  | _ => none
def pr2Tab : List (Str × Str × (D → Option D)) := [("sorted", "set", dSrs), ("len", "set", dLns)]
theorem pr2Tab_ok (fr : Free mg) : ∀ X W, BOk P w K mg base 0 X → Takes X W → ∀ (i : Nat) p, pr2Tab[i]? = some p → Pr2Ok c X W p.1 p.2.1 p.2.2 := by
  intro X W b tk i p e
  have m := List.mem_of_getElem? e
  simp only [pr2Tab, List.mem_cons, List.not_mem_nil, or_false] at m
  rcases m with rfl | rfl
  · intro a ma p p2 q pos hg hg2 ha na
    refine (pe_srs b.calm hg (by rw [b.mg]; exact fr.sorted) hg2 (by rw [b.mg]; exact fr.set) ha na).mono fun σ H Q h => ?_
    obtain ⟨B, g, ρ, w, E, k, p⟩ := h
    refine ⟨B, g, ρ, w, E, k, bnd p fun g1 H1 x dx w1 _ e1 k1 r1 p1 => ?_⟩
    obtain ⟨d, ed, q⟩ := post_lift p1
    cases r1 with
    | lst hx lx =>
      simp only [dSrs] at ed
      rename_i xs _
      cases hi : asInts xs with
      | none => rw [hi] at ed; cases ed
      | some ns =>
        rw [hi] at ed
        simp only [Option.bind_some] at ed
        split at ed
        · rename_i hc
          cases ed
          rw [Bool.and_eq_true] at hc
          have hv := asInts_rep lx hi
          subst hv
          exact ⟨_, ns, rfl, SqL.of (k1.sub _ _ hx), of_decide_eq_true hc.1, of_decide_eq_true hc.2, fun p hp => q.lst k1 (repL_ints _) p hp⟩
        · cases ed
    | _ => cases ed
  · intro a ma p p2 q pos hg hg2 ha na
    refine (pe_lns b.calm hg (by rw [b.mg]; exact fr.len) hg2 (by rw [b.mg]; exact fr.set) ha na).mono fun σ H Q h => ?_
    obtain ⟨B, g, ρ, w, E, k, p⟩ := h
    refine ⟨B, g, ρ, w, E, k, bnd p fun g1 H1 x dx w1 _ e1 k1 r1 p1 => ?_⟩
    obtain ⟨d, ed, q⟩ := post_lift p1
    cases r1 with
    | lst hx lx =>
      simp only [dLns] at ed
      rename_i xs _
      cases hi : asInts xs with
      | none => rw [hi] at ed; cases ed
      | some ns =>
        rw [hi] at ed
        simp only [Option.bind_some] at ed
        split at ed
        · rename_i hc
          cases ed
          have hv := asInts_rep lx hi
          subst hv
          exact ⟨_, ns, rfl, SqL.of (k1.sub _ _ hx), of_decide_eq_true hc, q.at k1 (.int _)⟩
        · cases ed
    | _ => cases ed

/-! ### the law -/
def scriptOf (ns : List Int) : List Int := if ns.isEmpty then [0] else ns
theorem scriptOf_ne (ns : List Int) : scriptOf ns ≠ [] := by
  unfold scriptOf
  split
  · simp
  · rename_i h
    intro e
    rw [e] at h
    simp at h
def spStart (K : PySem.W.Frag) : Sp := fun vs H Q _ => ∃ (a : Addr) (ns : List Int), vs = [.ref a] ∧ SqL K H a (ns.map V.int) ∧ ∀ H' p q, Same H H' → H p = none → H q = none → p ≠ q → H' p = some (.lst [.ref q, .int 0]) → H' q = some (.lst ((scriptOf ns).map V.int)) → Q (.ref p) H'
def spLaw (K : PySem.W.Frag) : Sp := fun vs H Q _ => ∃ (a : Addr) (ns : List Int), vs = [.ref a] ∧ SqL K H a (ns.map V.int) ∧ ns.length ≤ 63 ∧ ∀ H', Q (.bl true) H'
def lawR (n : Nat) : Rho := .emp :: .dat .drw :: List.replicate (n - 2) .emp
theorem law_entry (HT : TOk c P w K mg base k T) {qual : Str} {st : Stmt} {f fs : Addr} {fd fds : FuncData} {N : List Str} {ss : Ss} (F : Fun K "law" qual st f fd) (SC : FnScope ("script" :: "draws" :: N) ["script"] (defScope st))
    (hd : ∃ p1 p2 p3 p4 p5, defBody st = .Assign [.Name "draws" p1] (.Call (.Name "_law_start" p2) [.Name "script" p3] [] p4) p5 :: (defBody st).tail)
    (hg : glB (defScope st) "_law_start" = true) (hs : storB ⟨"script" :: "draws" :: N, defScope st, fun _ => true⟩ 1 "draws" = true) (hv : slotB ⟨"script" :: "draws" :: N, defScope st, fun _ => true⟩ 0 "script" = true)
    (q : chkSs T ⟨"script" :: "draws" :: N, defScope st, fun _ => true⟩ ss (defBody st).tail = true) (S : FnOk P w K mg base (L2.CX P w) 1 fs fds ["script"] (spStart K)) (hm : mg "_law_start" = some (.ref fs)) (hk : PySem.W.keepIn K (.ref fs) = true) (hb : Binds K fds ["script"] [])
    (law : ∀ ns : List Int, ns.length ≤ 63 → ∃ w, ess T ss (lawR (N.length + 2)) ⟨some (scriptOf ns, 0), []⟩ = .ret (.bl true) w) : FnOk P w K mg base (L2.CX P w) (k + 2) f fd ["script"] (spLaw K) := by
  refine F.okX SC (fun vs H Q E h => by obtain ⟨a, ns, rfl, _⟩ := h; rfl) fun cdv A outer s H vs Q E hr h => ?_
  obtain ⟨a, ns, rfl, hS, hlen, kq⟩ := h
  obtain ⟨w', hl⟩ := law ns hlen
  obtain ⟨p1, p2, p3, p4, p5, e⟩ := hd
  have xo : XOk ⟨"script" :: "draws" :: N, defScope st, fun _ => true⟩ (cxOf (L2.CX P w) P w K mg base ("script" :: "draws" :: N) qual (defScope st) f cdv A outer s H E) (fun cls d _ H => E cls d H) := ⟨rfl, SC.nd, rfl, rfl, takes_of rfl rfl rfl rfl⟩
  have bo : BOk P w K mg base k (cxOf (L2.CX P w) P w K mg base ("script" :: "draws" :: N) qual (defScope st) f cdv A outer s H E) := ⟨rfl, rfl, rfl, rfl, rfl, rfl, hr.mono (Nat.le_succ k)⟩
  obtain ⟨s1, s2, s3⟩ := xo.stor hs
  obtain ⟨v1, v2, v3, v4⟩ := xo.slot hv
  have rest := sndSs HT bo ⟨SC.kind, passes_of rfl, rfl, rfl⟩ xo ss (defBody st).tail q
  rw [e]
  refine ⟨_, pss_cons (ps_set (i := 1) SC.nd s1 s2 (pe_call (E := fun cls d H => E cls d H) S (hr.mono (by omega)) (xo.gl hg) hm hk hb .nil (passes_call xo.tk fun cls d σ H z => z) (pa_cons (pe_var v1 v2 v3 v4) pa_nil rfl) (by decide) rfl rfl) rfl s3) rest, ?_⟩
  refine ⟨_, rfl, a, ns, rfl, hS, fun H' p r sm hp hq npq h1 h2 => ?_⟩
  have g : Gs := ⟨fun _ => none, some (p, r), []⟩
  refine ⟨⟨fun _ => none, some (p, r), []⟩, H', ⟨fun _ => none, some (p, r), []⟩, lawR (N.length + 2), ⟨some (scriptOf ns, 0), []⟩, ?_, ?_, Ext.refl _ _, ?_⟩
  · refine ⟨by simp [lawR, L2.start], fun i d ei => ?_, fun _ => 0, fun i xs ei => ?_, fun i j xs ys ei => ?_⟩
    · match i, ei with
      | 0, ei => simp [lawR] at ei
      | 1, ei =>
        simp [lawR] at ei
        subst ei
        exact ⟨.ref p, rfl, .drw rfl⟩
      | i + 2, ei =>
        simp [lawR, List.getElem?_replicate] at ei
    · match i, ei with
      | 0, ei => simp [lawR] at ei
      | 1, ei => simp [lawR] at ei
      | i + 2, ei => simp [lawR, List.getElem?_replicate] at ei
    · match i, ei with
      | 0, ei => simp [lawR] at ei
      | 1, ei => simp [lawR] at ei
      | i + 2, ei => simp [lawR, List.getElem?_replicate] at ei
  · refine ⟨(fun b o e => by cases e), (fun ms m e => ?_), (fun e => by cases e), (fun i sz ln e => by simp at e), rfl, ?_, fun _ _ => rfl⟩
    · cases e
      exact ⟨p, r, rfl, h1, h2⟩
    · simp [Gs.wadr, wdr, wtb, npq]
  · rw [hl]
    intro g' H2 v _ _ _ rv
    cases rv
    exact kq H2
/-- the end of a law -/
theorem walk {l : PySem.W.OpenLaw} {q : Program} {loose : List Str} {XP : (Str → Option Value) → Heap → Prop} {YP : World → Heap → Prop} {d : DefRec} {K : Params → PySem.W.Frag} {k : Nat} (hk : k ≤ 200) (hn : l.most = some 63) (hdf : d.params.defaults = [])
    (hY : ∀ (w : World) (h : Heap), YP w h → (K w.params).In h)
    (F : ∀ (w : World) (mg : Str → Option Value) (fa : Addr) (h : Heap), (K w.params).In h → h.Ns mainGlobals mg → mg d.name = some (.ref fa) →
      ∃ fd : FuncData, (∀ (s : Shared) (u : Value), BindsTo s fd ⟨[u], []⟩ [("script", u)]) ∧ ∀ base : Heap, (K w.params).In base → base.Ns mainGlobals mg → FnOk l.prog w (K w.params) mg base (L2.CX l.prog w) k fa fd ["script"] (spLaw (K w.params))) :
    PySem.W.WalkO q loose XP YP l.row.toRowW d [] (fun f vs => PySem.call f vs) :=
  L2.walk_of (n := 63) (k := k) (x := "script") (CX := fun w => L2.CX l.prog w) (sp := fun w => spLaw (K w.params)) hn (by decide) hdf (Room.mono (k := 200) ⟨rfl, by decide, by decide⟩ hk) hY F (fun _ _ a ns hl _ hS => ⟨a, ns, rfl, hS, hl, fun _ => rfl⟩) fun w H s e s' z => by
    obtain ⟨_, _, _, _, _, _, _, _, _, _, _, _, z⟩ := z
    exact z
end
end RL

namespace RL
open PySem L2
/-- the def named x stands behind the top -/
structure DefIn (K : PySem.W.Frag) (x : Str) (st : Stmt) (f : Addr) : Prop where
  a : PySem.W.nsIn K mainGlobals x = some (some (.ref f))
  ex : ∃ (oc : Value) (od : Option Addr) (kV doc pm : Value) (an : Option Addr) (cdv ct : Value) (osl : Array (Option Value)), K.lookup f = some ⟨oc, od, .func (PySem.W.fnOf x x (defArgs st) (defBody st) (defScope st) .none kV doc pm an cdv ct), osl⟩ ∧ PySem.W.codeIn K cdv x = true
  k : PySem.W.keepIn K (.ref f) = true
theorem DefIn.of {K : PySem.W.Frag} {x : Str} {st : Stmt} {f : Addr} {oc : Value} {od : Option Addr} {kV doc pm : Value} {an : Option Addr} {cdv ct : Value} {osl : Array (Option Value)} (a : PySem.W.nsIn K mainGlobals x = some (some (.ref f)))
    (l : K.lookup f = some ⟨oc, od, .func (PySem.W.fnOf x x (defArgs st) (defBody st) (defScope st) .none kV doc pm an cdv ct), osl⟩) (c : PySem.W.codeIn K cdv x = true) (k : PySem.W.keepIn K (.ref f) = true) : DefIn K x st f := ⟨a, ⟨oc, od, kV, doc, pm, an, cdv, ct, osl, l, c⟩, k⟩
/-- a class of exceptions over ValueError -/
structure ExIn (K : PySem.W.Frag) (x : Str) (C : Addr) : Prop where
  a : PySem.W.nsIn K mainGlobals x = some (some (.ref C))
  e : PySem.W.excIn K C [.type "ValueError", .type "Exception", .type "BaseException", .type "object"] "ValueError.__new__" = true
  k : PySem.W.keepIn K (.ref C) = true
  b : PySem.W.subIn K (.ref C) (.type "BaseException") = some true
  t : PySem.W.typeIn K (.ref C) = some (.type "type")
section
variable {c : Cn} {P : Program} {w : World} {K : PySem.W.Frag} {mg : Str → Option Value} {base h : Heap}
/-- a def, its facts for tok_step -/
theorem DefIn.get {x : Str} {st : Stmt} {f : Addr} (d : DefIn K x st f) (X : K.In h) (G : h.Ns mainGlobals mg) {ps : List Str} (hb : ∀ (kV doc pm : Value) (an : Option Addr) (cdv ct : Value) (us : List Value), us.length = ps.length → bindArgs (PySem.W.fnOf x x (defArgs st) (defBody st) (defScope st) .none kV doc pm an cdv ct) ⟨us, []⟩ = pure (ps.zip us)) :
    mg x = some (.ref f) ∧ ∃ fd, Fun K x x st f fd ∧ ∀ us : List Value, us.length = ps.length → bindArgs fd ⟨us, []⟩ = pure (ps.zip us) := by
  obtain ⟨oc, od, kV, doc, pm, an, cdv, ct, osl, l, e⟩ := d.ex
  exact ⟨PySem.W.mg_of X G d.a, _, ⟨⟨oc, od, kV, doc, pm, an, cdv, ct, osl, rfl, l, e⟩, d.k⟩, hb kV doc pm an cdv ct⟩
/-- one def more -/
theorem tok_def {k : Nat} {T : Tab} (HT : TOk c P w K mg base k T) {x : Str} {st : Stmt} {f : Addr} (d : DefIn K x st f) (X : K.In h) (G : h.Ns mainGlobals mg) {N ps : List Str} {ss : Ss} (hb : ∀ (kV doc pm : Value) (an : Option Addr) (cdv ct : Value) (us : List Value), us.length = ps.length → bindArgs (PySem.W.fnOf x x (defArgs st) (defBody st) (defScope st) .none kV doc pm an cdv ct) ⟨us, []⟩ = pure (ps.zip us))
    (SC : FnScope N ps (defScope st)) (q : chkSs T ⟨N, defScope st, fun _ => true⟩ ss (defBody st) = true) : TOk c P w K mg base (k + 1) (T.add x ps.length (mFun N.length (ess T ss))) := by
  obtain ⟨hm, fd, F, hB⟩ := d.get X G hb
  exact tok_step HT F SC q (fun ds w => .inr rfl) hm (.all hB)
theorem tok_exs {cs : List (Str × D)} {exs : List Str} (fr : Free mg) (X : K.In h) (G : h.Ns mainGlobals mg) (hcs : ∀ (i : Nat) p, cs[i]? = some p → ∃ v u, mg p.1 = some u ∧ RelV v u ∧ ∀ g, Rep c g v p.2)
    (hx : ∀ (i : Nat) x, exs[i]? = some x → x = ("__debug__" : Str) ∨ ExIn K x (c.ec i)) {trs : List (Str × List Nat)} (ht : ∀ (i : Nat) p, trs[i]? = some p → ∃ cv, mg p.1 = some cv ∧ ∀ j ∈ p.2, PySem.W.exmOne K (.ref (c.ec j)) cv = some true)
    {cls : List (Str × (Nat → Option Bool))} (hc : ∀ (i : Nat) p, cls[i]? = some p → ∃ v cv, ClsAt mg p.1 v cv ∧ ∀ j b, p.2 j = some b → ExcC K (c.ec j) ∧ PySem.W.kitOne K (.ref (c.ec j)) cv = some b) {hks : List Hk} (hh : ∀ X W, BOk P w K mg base 0 X → Takes X W → ∀ (i : Nat) p, hks[i]? = some p → HkOk c X W p) : TOk c P w K mg base 0 ⟨[], priTab, bmtTab, cs, exs, trs, cls, pr2Tab, hks⟩ :=
  ⟨fun X b i p e => by simp at e, priTab_ok fr, bmtTab_ok, hcs, fun Y b i x e m j p p2 pos hg hdb => by
    rcases hx i x e with rfl | z
    · exact absurd hdb (by decide)
    · exact pmk_own PySem.F.excBase_ValueError (by rw [b.K]; exact z.e) (by rw [b.mg]; exact PySem.W.mg_of X G z.a) (by rw [b.K]; exact z.k) (raises_own (by rw [b.K]; exact z.b) (by rw [b.K]; exact z.t)) hg hdb, fr.range, fr.list, fr.enumerate, fr.zip, fr.isinstance, fr.int, fr.bool, fr.str, fr.tuple, ht, hc, pr2Tab_ok fr, hh⟩
theorem cs_one (X : K.In h) (G : h.Ns mainGlobals mg) {t : Tok} (mp : PySem.W.nsIn K mainGlobals "MOST_POWER" = some (some (.int 3 t))) : ∀ (i : Nat) p, [(("MOST_POWER" : Str), D.int 3)][i]? = some p → ∃ v u, mg p.1 = some u ∧ RelV v u ∧ ∀ g, Rep c g v p.2 := by
  intro i p e
  match i, e with
  | 0, e =>
    simp at e
    subst e
    exact ⟨.int 3, .int 3 t, PySem.W.mg_of X G mp, ⟨t, rfl⟩, fun g => .int _⟩
end
/-! exceptions: the classes of the package, in the order of EXS -/
def clsF (i j : Nat) : Option Bool := if j < 6 then some (j == i) else none
def clsT (j : Nat) : Option Bool := if j < 6 then some true else none
def clsTab : List (Str × (Nat → Option Bool)) := [("BadRule", clsF 0), ("BadTrials", clsF 1), ("BadAmounts", clsF 2), ("BadNumber", clsF 3), ("BadText", clsF 4), ("NotFound", clsF 5), ("RateError", clsT), ("ValueError", clsT)]
def trsTab : List (Str × List Nat) := [("RateError", [0, 1, 2, 3, 4, 5])]
/-- what all tables have, where exceptions are caught -/
structure TX (T : Tab) : Prop where
  t : T.trs = trsTab
  c : T.cls = clsTab
theorem clsF_ge {i n : Nat} {b : Bool} (h : clsF i (n + 6) = some b) : False := by
  unfold clsF at h
  rw [if_neg (by omega)] at h
  cases h
theorem clsT_ge {n : Nat} {b : Bool} (h : clsT (n + 6) = some b) : False := by
  unfold clsT at h
  rw [if_neg (by omega)] at h
  cases h
section
variable {K : PySem.W.Frag} {a b : Addr} {v : Bool}
theorem kit_ref (hc : (PySem.W.clsIn K b).isSome = true) (ht : PySem.W.typeIn K (.ref b) = some (.type "type")) (ss : PySem.W.subIn K (.ref a) (.ref a) = some true) (hs : PySem.W.subIn K (.ref a) (.ref b) = some v) : PySem.W.kitOne K (.ref a) (.ref b) = some v := by
  unfold PySem.W.kitOne
  by_cases h : a = b
  · subst h
    rw [ss] at hs
    cases hs
    simp
  · have h' : (Value.ref a == Value.ref b) = false := by simp [h]
    rw [h']
    simp only [PySem.W.kitCls, hc, ht, Bool.true_and, beq_self_eq_true, if_true, Bool.false_eq_true, if_false]
    exact hs
theorem kit_val (hs : PySem.W.subIn K (.ref a) (.type "ValueError") = some true) : PySem.W.kitOne K (.ref a) (.type "ValueError") = some true := by
  have hm : PySem.W.kitMeta "ValueError" = true := by decide +kernel
  have h' : (Value.ref a == Value.type "ValueError") = false := rfl
  unfold PySem.W.kitOne
  rw [h']
  simp only [PySem.W.kitCls, hm, if_true, Bool.false_eq_true, if_false]
  exact hs
theorem exm_ref (hb : PySem.W.subIn K (.ref b) (.type "BaseException") = some true) (hc : (PySem.W.clsIn K b).isSome = true) (ht : PySem.W.typeIn K (.ref b) = some (.type "type")) (hs : PySem.W.subIn K (.ref a) (.ref b) = some true) : PySem.W.exmOne K (.ref a) (.ref b) = some true := by
  unfold PySem.W.exmOne
  rw [hb]
  simp only [PySem.W.kitCls, hc, ht, Bool.true_and, beq_self_eq_true, if_true]
  exact hs
theorem cls_some {α : Type} {o : Option α} {x : α} (h : o = some x) : o.isSome = true := by rw [h]; rfl
end
end RL

namespace RL
open PySem L2 PySem.W
/-! sorted of rows of ints and of (int, row); rows compared -/
section
variable {X : Cx} {β : Type}
def rSortD (K : PySem.W.Frag) (A : Around) (enc : β → PyData) (xs0 : List V → List β → Prop) : List V → Hp → VK → Prop := fun vs H Q => ∃ (a : Addr) (xs : List V) (bs : List β), vs = [.ref a] ∧ SqL K H a xs ∧ xs0 xs bs ∧ DpAll K H xs (bs.map enc) ∧ AllAlike (bs.map enc) ∧ Sortable (bs.map enc) ∧
  (∀ b, b ∈ bs → (enc b).depth ≤ 60) ∧ ∀ p, H p = none → Q (.ref p) (upd H p (.lst (((xs.zip bs).mergeSort (dataLe false fun q => enc q.2)).map Prod.fst)))
theorem dpAll_len {K : PySem.W.Frag} {H : Hp} : ∀ {xs : List V} {ds : List PyData}, DpAll K H xs ds → xs.length = ds.length
  | _, _, .nil => rfl
  | _, _, .cons _ t => by simp [dpAll_len t]
theorem each_zip {xs : List V} {us : List Value} {bs : List β} (r : Vals xs us) (hl : xs.length = bs.length) : EachIs (fun (v : Value) (q : V × β) => RelV q.1 v) us (xs.zip bs) := by
  induction r generalizing bs with
  | nil => exact .nil
  | cons h t ih =>
    cases bs with
    | nil => simp at hl
    | cons b bs => exact .cons h (ih (by simpa using hl))
theorem each_reads {enc : β → PyData} {h : Heap} : ∀ {us : List Value} {bs : List β} {xs : List V} {as : List Addr}, ReadsAll h us (bs.map enc) as → xs.length = bs.length → EachIs (fun (v : Value) (q : V × β) => ∃ as, Reads h v (enc q.2) as) us (xs.zip bs)
  | _, [], xs, _, r, hl => by
    have r' : ReadsAll h _ [] _ := r
    cases r'
    cases xs with
    | nil => exact .nil
    | cons _ _ => simp at hl
  | _, b :: bs, xs, _, r, hl => by
    have r' : ReadsAll h _ (enc b :: bs.map enc) _ := r
    cases r' with
    | cons h1 h2 =>
      cases xs with
      | nil => simp at hl
      | cons x xs => exact .cons ⟨_, h1⟩ (each_reads h2 (by simpa using hl))
theorem each_vals {us : List Value} {L : List (V × β)} (h : EachIs (fun (v : Value) (q : V × β) => RelV q.1 v) us L) : Vals (L.map Prod.fst) us := by
  induction h with
  | nil => exact .nil
  | cons h _ ih => exact .cons h ih
theorem cr_sortedD {enc : β → PyData} {xs0 : List V → List β → Prop} (hu : X.A.units + 65 < cLine) : CallR X (.builtin "sorted") (rSortD X.K X.A enc xs0) := by
  intro pins s σ H vs us Q I r h
  obtain ⟨a, xs, bs, rfl, hs, _, hd, hal, hk, hdp, q⟩ := h
  obtain ⟨its, rv, hl, hz⟩ := I.list hs
  rw [Vals.ref1 r]
  have e1 : xs.length = bs.length := by simpa using dpAll_len hd
  obtain ⟨as, rd⟩ := Dp.readsAll I _ xs its hd rv
  have e2 : (xs.zip bs).map (fun q => enc q.2) = bs.map enc := by
    have : (fun q : V × β => enc q.2) = enc ∘ Prod.snd := rfl
    rw [this, ← List.map_map, List.map_snd_zip (by omega)]
  refine sorted_data (enc := fun q : V × β => enc q.2) (bs := xs.zip bs) hl.isList (each_zip rv e1) (each_reads rd e1) (by rw [e2]; exact hal) (by rw [e2]; exact hk) ?_ (fun b hb => ?_) fun out ho he => ?_
  · rw [List.length_zip, ← e1, Nat.min_self]
    exact hz
  · have := hdp b.2 (List.of_mem_zip hb).2
    omega
  · obtain ⟨ep, he'⟩ := PyProof.Rows.sortedAll_at s.heap its out.toArray
    have hlen : (((xs.zip bs).mergeSort (dataLe false fun q => enc q.2)).map Prod.fst).length ≤ sizeLine := by
      rw [List.length_map, List.length_mergeSort, List.length_zip, ← e1, Nat.min_self]
      exact hz
    exact ⟨.ref _, upd H (s.heap.objs.size + 1) (.lst _), I.laid (t' := s.toks) (fun _ _ => PyProof.Rows.sortedAll_old) (Nat.le_succ _) ⟨hlen, out, ep, each_vals he, he'⟩, rfl, q _ (I.hok.fresh (Nat.le_succ _))⟩
end
/-! ### the one sorted list -/
section
variable {α : Type} (le : α → α → Bool)
def insB (x : α) : List α → List α
  | [] => [x]
  | y :: ys => if le x y then x :: y :: ys else y :: insB x ys
def sortB : List α → List α
  | [] => []
  | x :: xs => insB le x (sortB xs)
variable {le}
theorem insB_perm (x : α) : ∀ ys : List α, (insB le x ys).Perm (x :: ys)
  | [] => .refl _
  | y :: ys => by
    unfold insB
    split
    · exact .refl _
    · exact ((insB_perm x ys).cons y).trans (.swap x y ys)
theorem sortB_perm : ∀ xs : List α, (sortB le xs).Perm xs
  | [] => .refl _
  | x :: xs => (insB_perm x (sortB le xs)).trans ((sortB_perm xs).cons x)
theorem insB_pair (tr : ∀ a b c, le a b → le b c → le a c) (tt : ∀ a b, le a b || le b a) (x : α) : ∀ {ys : List α}, ys.Pairwise (fun a b => le a b) → (insB le x ys).Pairwise (fun a b => le a b)
  | [], _ => by simp [insB]
  | y :: ys, h => by
    unfold insB
    rw [List.pairwise_cons] at h
    split
    · rename_i hxy
      rw [List.pairwise_cons, List.pairwise_cons]
      exact ⟨fun z hz => by
        rcases List.mem_cons.1 hz with rfl | hz
        · exact hxy
        · exact tr _ _ _ hxy (h.1 z hz), h⟩
    · rename_i hxy
      rw [List.pairwise_cons]
      refine ⟨fun z hz => ?_, insB_pair tr tt x h.2⟩
      rcases List.mem_cons.1 ((insB_perm x ys).mem_iff.1 hz) with rfl | hz
      · have := tt z y
        rw [Bool.or_eq_true] at this
        exact this.resolve_left hxy
      · exact h.1 z hz
theorem sortB_pair (tr : ∀ a b c, le a b → le b c → le a c) (tt : ∀ a b, le a b || le b a) : ∀ xs : List α, (sortB le xs).Pairwise (fun a b => le a b)
  | [] => .nil
  | x :: xs => insB_pair tr tt x (sortB_pair tr tt xs)
theorem pair_unique (an : ∀ a b, le a b → le b a → a = b) (rf : ∀ a, le a a) : ∀ {xs ys : List α}, xs.Perm ys → xs.Pairwise (fun a b => le a b) → ys.Pairwise (fun a b => le a b) → xs = ys
  | [], ys, p, _, _ => by simp [p.symm.eq_nil]
  | x :: xs, [], p, _, _ => by simp at p
  | x :: xs, y :: ys, p, h1, h2 => by
    rw [List.pairwise_cons] at h1 h2
    have a1 : le x y := by
      rcases List.mem_cons.1 (p.mem_iff.2 (List.mem_cons_self (a := y))) with e | a
      · rw [e]; exact rf _
      · exact h1.1 y a
    have a2 : le y x := by
      rcases List.mem_cons.1 (p.mem_iff.1 (List.mem_cons_self (a := x))) with e | a
      · rw [e]; exact rf _
      · exact h2.1 x a
    have e := an x y a1 a2
    subst e
    rw [pair_unique an rf p.cons_inv h1.2 h2.2]
theorem merge_sortB (tr : ∀ a b c, le a b → le b c → le a c) (tt : ∀ a b, le a b || le b a) (an : ∀ a b, le a b → le b a → a = b) (xs : List α) : xs.mergeSort le = sortB le xs :=
  pair_unique an (fun a => by have := tt a a; simpa using this) ((List.mergeSort_perm xs le).trans (sortB_perm xs).symm) (List.pairwise_mergeSort tr tt xs) (sortB_pair tr tt xs)
end
/-- rows in order -/
def leR : List Int → List Int → Bool
  | [], _ => true
  | _ :: _, [] => false
  | x :: xs, y :: ys => if x = y then leR xs ys else decide (x < y)
theorem leR_eq : ∀ xs ys : List Int, decide (xs ≤ ys) = leR xs ys
  | [], ys => by simp [leR]
  | x :: xs, [] => by simp [leR]
  | x :: xs, y :: ys => by
    unfold leR
    by_cases h : x = y
    · subst h
      rw [if_pos rfl, ← leR_eq xs ys]
      simp [List.cons_le_cons_iff]
    · rw [if_neg h]
      simp [List.cons_le_cons_iff, h]
theorem leR_refl : ∀ xs : List Int, leR xs xs = true
  | [] => rfl
  | x :: xs => by simp [leR, leR_refl xs]
theorem leR_anti : ∀ xs ys : List Int, leR xs ys = true → leR ys xs = true → xs = ys
  | [], [], _, _ => rfl
  | [], y :: ys, _, h => by simp [leR] at h
  | x :: xs, [], h, _ => by simp [leR] at h
  | x :: xs, y :: ys, h1, h2 => by
    unfold leR at h1 h2
    by_cases h : x = y
    · subst h
      simp only [if_true] at h1 h2
      rw [leR_anti xs ys h1 h2]
    · rw [if_neg h] at h1
      rw [if_neg (Ne.symm h)] at h2
      have := of_decide_eq_true h1
      have := of_decide_eq_true h2
      omega
theorem leR_total : ∀ xs ys : List Int, (leR xs ys || leR ys xs) = true
  | [], _ => by simp [leR]
  | x :: xs, [] => by simp [leR]
  | x :: xs, y :: ys => by
    unfold leR
    by_cases h : x = y
    · subst h
      simp only [if_true]
      exact leR_total xs ys
    · rw [if_neg h, if_neg (Ne.symm h)]
      simp only [Bool.or_eq_true, decide_eq_true_eq]
      omega
theorem leR_trans : ∀ xs ys zs : List Int, leR xs ys = true → leR ys zs = true → leR xs zs = true
  | [], _, _, _, _ => by simp [leR]
  | x :: xs, [], _, h, _ => by simp [leR] at h
  | x :: xs, y :: ys, [], _, h => by simp [leR] at h
  | x :: xs, y :: ys, z :: zs, h1, h2 => by
    unfold leR at h1 h2 ⊢
    by_cases e1 : x = y
    · subst e1
      rw [if_pos rfl] at h1
      by_cases e2 : x = z
      · subst e2
        rw [if_pos rfl] at h2 ⊢
        exact leR_trans xs ys zs h1 h2
      · rw [if_neg e2] at h2 ⊢
        exact h2
    · rw [if_neg e1] at h1
      have h1 := of_decide_eq_true h1
      by_cases e2 : y = z
      · subst e2
        rw [if_neg e1]
        exact decide_eq_true h1
      · rw [if_neg e2] at h2
        have h2 := of_decide_eq_true h2
        rw [if_neg (by omega)]
        exact decide_eq_true (by omega)
abbrev sortR : List (List Int) → List (List Int) := sortB leR
/-- (int, row) in order -/
def leP (p q : Int × List Int) : Bool := if p.1 = q.1 then leR p.2 q.2 else decide (p.1 < q.1)
theorem leP_trans (a b c : Int × List Int) (h1 : leP a b = true) (h2 : leP b c = true) : leP a c = true := by
  unfold leP at *
  by_cases e1 : a.1 = b.1
  · rw [if_pos e1] at h1
    by_cases e2 : b.1 = c.1
    · rw [if_pos e2] at h2
      rw [if_pos (e1.trans e2)]
      exact leR_trans _ _ _ h1 h2
    · rw [if_neg e2] at h2
      rw [if_neg (by omega)]
      have := of_decide_eq_true h2
      exact decide_eq_true (by omega)
  · rw [if_neg e1] at h1
    have := of_decide_eq_true h1
    by_cases e2 : b.1 = c.1
    · rw [if_neg (by omega)]
      exact decide_eq_true (by omega)
    · rw [if_neg e2] at h2
      have := of_decide_eq_true h2
      rw [if_neg (by omega)]
      exact decide_eq_true (by omega)
theorem leP_total (a b : Int × List Int) : (leP a b || leP b a) = true := by
  unfold leP
  by_cases e : a.1 = b.1
  · rw [if_pos e, if_pos e.symm]
    exact leR_total _ _
  · rw [if_neg e, if_neg (Ne.symm e)]
    simp only [Bool.or_eq_true, decide_eq_true_eq]
    omega
theorem leP_anti (a b : Int × List Int) (h1 : leP a b = true) (h2 : leP b a = true) : a = b := by
  unfold leP at *
  by_cases e : a.1 = b.1
  · rw [if_pos e] at h1
    rw [if_pos e.symm] at h2
    exact Prod.ext e (leR_anti _ _ h1 h2)
  · rw [if_neg e] at h1
    rw [if_neg (Ne.symm e)] at h2
    have := of_decide_eq_true h1
    have := of_decide_eq_true h2
    omega
abbrev sortP : List (Int × List Int) → List (Int × List Int) := sortB leP
/-! ### as data -/
abbrev rowD (r : List Int) : D := .lst (r.map .int)
abbrev nrD (p : Int × List Int) : D := .tup [.int p.1, rowD p.2]
def asRow : D → Option (List Int)
  | .lst xs => asInts xs
  | _ => none
def asNr : D → Option (Int × List Int)
  | .tup [.int n, .lst xs] => (asInts xs).map fun r => (n, r)
  | _ => none
def asAll {α : Type} (f : D → Option α) : List D → Option (List α)
  | [] => some []
  | x :: xs => (f x).bind fun a => (asAll f xs).map fun as => a :: as
theorem asAll_some {α : Type} {f : D → Option α} {enc : α → D} (hf : ∀ d a, f d = some a → d = enc a) : ∀ {xs : List D} {as : List α}, asAll f xs = some as → xs = as.map enc
  | [], as, h => by cases h; rfl
  | x :: xs, as, h => by
    simp only [asAll] at h
    cases h1 : f x with
    | none => rw [h1] at h; cases h
    | some a =>
      rw [h1] at h
      simp only [Option.bind_some] at h
      cases h2 : asAll f xs with
      | none => rw [h2] at h; cases h
      | some as' =>
        rw [h2] at h
        cases h
        rw [hf x a h1, asAll_some hf h2]
        rfl
theorem asAll_map {α : Type} {f : D → Option α} {enc : α → D} (hf : ∀ a, f (enc a) = some a) : ∀ as : List α, asAll f (as.map enc) = some as
  | [] => rfl
  | a :: as => by simp only [List.map_cons, asAll, hf, Option.bind_some, asAll_map hf as, Option.map_some]
theorem asInts_some : ∀ {xs : List D} {ns : List Int}, asInts xs = some ns → xs = ns.map .int
  | [], ns, h => by cases h; rfl
  | x :: xs, ns, h => by
    cases x with
    | int i =>
      simp only [asInts] at h
      cases h2 : asInts xs with
      | none => rw [h2] at h; cases h
      | some ms =>
        rw [h2] at h
        cases h
        rw [asInts_some h2]
        rfl
    | _ => simp [asInts] at h
theorem asInts_of : ∀ ns : List Int, asInts (ns.map .int) = some ns
  | [] => rfl
  | n :: ns => by simp [asInts, asInts_of ns]
theorem asRow_some (d : D) (r : List Int) (h : asRow d = some r) : d = rowD r := by
  cases d with
  | lst xs => rw [asInts_some (show asInts xs = some r from h)]
  | _ => simp [asRow] at h
theorem asNr_some (d : D) (p : Int × List Int) (h : asNr d = some p) : d = nrD p := by
  unfold asNr at h
  split at h
  · rename_i n xs
    cases h1 : asInts xs with
    | none => rw [h1] at h; cases h
    | some r =>
      rw [h1] at h
      cases h
      rw [asInts_some h1]
  · cases h
def dSortR : List D → Option D
  | [.lst xs] => (asAll asRow xs).map fun rs => .lst ((sortR rs).map rowD)
  | _ => none
def dSortP : List D → Option D
  | [.lst xs] => (asAll asNr xs).map fun rs => .lst ((sortP rs).map nrD)
  | _ => none
theorem toPyL_map {β : Type} {encD : β → D} : ∀ bs : List β, toPyL (bs.map encD) = bs.map fun b => toPy (encD b)
  | [] => rfl
  | b :: bs => by simp [toPyL, toPyL_map bs]
/-! ### further forms of expression -/
/-- a built-in called by its name as a further form -/
def biPat (nm : Str) (sc : Scope) : Expr → Option (List Expr)
  | .Call (.Name y _) (a :: as) [] _ => if decide (y = nm) && glB sc nm && (a :: as).all (fun z => !isStar z) then some (a :: as) else none
  | _ => none
def seqM : List ME → MA
  | [] => mNil
  | m :: ms => mCons m (seqM ms)
def hkBi (nm : Str) (f : List D → Option D) : Hk := ⟨fun κ => biPat nm κ.sc, fun ms => mPri f (seqM ms)⟩
theorem biPat_ok {nm : Str} {sc : Scope} {x : Expr} {xs : List Expr} (h : biPat nm sc x = some xs) : ∃ p a as pos, x = .Call (.Name nm p) (a :: as) [] pos ∧ xs = a :: as ∧ glB sc nm = true ∧ ∀ z ∈ xs, isStar z = false := by
  unfold biPat at h
  split at h
  · split at h
    · rename_i q
      cases h
      simp only [Bool.and_eq_true, decide_eq_true_eq, List.all_eq_true, Bool.not_eq_true'] at q
      obtain ⟨⟨q1, q2⟩, q3⟩ := q
      subst q1
      exact ⟨_, _, _, _, rfl, rfl, q2, q3⟩
    · cases h
  · cases h
section
variable {c : Cn} {X : Cx} {W : WX}
theorem AEs.pa {xs : List Expr} {ms : List ME} (h : AEs c X W xs ms) : PA X xs (rdA c W (seqM ms)) := by
  induction h with
  | nil => exact a_nil
  | cons h s _ ih => exact a_cons h ih (star_cons s)
theorem AEs.st {xs : List Expr} {ms : List ME} (h : AEs c X W xs ms) : ∀ z ∈ xs, isStar z = false := by
  induction h with
  | nil => intro z hz; cases hz
  | cons h s _ ih =>
    intro z hz
    rcases List.mem_cons.1 hz with rfl | hz
    · exact s
    · exact ih z hz
theorem AEs.len {xs : List Expr} {ms : List ME} (h : AEs c X W xs ms) : ∀ r w ds w', seqM ms r w = .ok ds w' → ds.length = xs.length := by
  induction h with
  | nil => intro r w ds w' e; cases e; rfl
  | @cons x xs m ms h s _ ih =>
    intro r w ds w' e
    simp only [seqM, mCons] at e
    cases h1 : m r w with
    | bad => rw [h1] at e; cases e
    | exc k w1 => rw [h1] at e; cases e
    | ok d w1 =>
      rw [h1] at e
      simp only [Res.bind] at e
      cases h2 : seqM ms r w1 with
      | bad => rw [h2] at e; cases e
      | exc k w2 => rw [h2] at e; cases e
      | ok ds' w2 =>
        rw [h2] at e
        cases e
        simp [ih _ _ _ _ h2]
theorem hkBi_ok {nm : Str} {f : List D → Option D} (h : PriOk c X W nm f) : HkOk c X W (hkBi nm f) := by
  intro κ x xs ms xo hp ha
  obtain ⟨p, a, as, pos, rfl, rfl, hg, hst⟩ := biPat_ok hp
  exact .plain (h a as (seqM ms) p pos (xo.gl hg) ha.pa (star_cons (ha.st a List.mem_cons_self)) (star_any fun z hz => ha.st z (List.mem_cons_of_mem _ hz))) (fun _ => rfl) (fun _ _ _ e => nomatch e)
/-! ### sorted -/
theorem rep_zip {β : Type} {encD : β → D} {g : Gs} : ∀ {xs : List V} {bs : List β}, RepL c g xs (bs.map encD) → ∀ q ∈ xs.zip bs, Rep c g q.1 (encD q.2)
  | [], bs, h, q, hq => by simp at hq
  | x :: xs, [], h, q, hq => by simp at hq
  | x :: xs, b :: bs, h, q, hq => by
    have h : RepL c g (x :: xs) (encD b :: bs.map encD) := h
    cases h with
    | cons a l =>
      rcases List.mem_cons.1 (by simpa using hq : q ∈ (x, b) :: xs.zip bs) with rfl | hq
      · exact a
      · exact rep_zip l q hq
theorem repL_pairs {β : Type} {encD : β → D} {g : Gs} : ∀ {L : List (V × β)}, (∀ q ∈ L, Rep c g q.1 (encD q.2)) → RepL c g (L.map Prod.fst) ((L.map Prod.snd).map encD)
  | [], _ => .nil
  | q :: L, h => .cons (h q List.mem_cons_self) (repL_pairs fun z hz => h z (List.mem_cons_of_mem _ hz))
theorem prS_sortD {β : Type} {encD : β → D} {f : List D → Option D} {le : β → β → Bool} {A : Around} {K : PySem.W.Frag} (hf : ∀ ds d, f ds = some d → ∃ bs : List β, ds = [.lst (bs.map encD)] ∧ d = .lst ((sortB le bs).map encD)) (hok : ∀ b, okD 11 (encD b) = true)
    (hal : ∀ b b', alike (toPy (encD b)) (toPy (encD b')) = true) (hk : (∀ b, ∃ x r, toPy (encD b) = .tuple (x :: r)) ∨ ∀ b, toPy (encD b) ≠ .none ∧ ∀ xs, toPy (encD b) ≠ .tuple xs) (hle : ∀ p q : β, dataLe false (fun b => toPy (encD b)) p q = le p q)
    (tr : ∀ a b c, le a b → le b c → le a c) (tt : ∀ a b, le a b || le b a) (an : ∀ a b, le a b → le b a → a = b) : PrS c f (rSortD K A (fun b => toPy (encD b)) fun _ _ => True) := by
  intro g H w vs ds d Q k r e q
  obtain ⟨bs, rfl, rfl⟩ := hf ds d e
  cases r with
  | cons r l =>
    cases l
    cases r with
    | @lst a xs _ hx lx =>
      have dp : DpAll K H xs (bs.map fun b => toPy (encD b)) := by
        rw [← toPyL_map]
        exact RepL.dp k.sub (n := 11) (by simp only [List.all_map, List.all_eq_true]; exact fun b _ => hok b) lx
      have hl : xs.length = bs.length := by simpa using lx.length
      refine ⟨a, xs, bs, rfl, SqL.of (k.sub _ _ hx), trivial, dp, AllAlike.of hal, ?_, fun b _ => Nat.le_trans (ok_py 11 _ (hok b)).2 (by decide), ?_⟩
      · rcases hk with hk | hk
        · exact Sortable.tuples hk
        · exact Sortable.others hk
      · refine q.lst k ?_
        have e1 : ((xs.zip bs).mergeSort (dataLe false fun q => toPy (encD q.2))).map Prod.snd = sortB le bs := by
          rw [sort_maps (r := dataLe false fun q : V × β => toPy (encD q.2)) (s := le) Prod.snd (fun p _ q _ => hle p.2 q.2), List.map_snd_zip (by omega), merge_sortB tr tt an]
        rw [← e1]
        exact repL_pairs fun z hz => rep_zip lx z ((List.mergeSort_perm _ _).mem_iff.1 hz)
theorem okD_rowS (r : List Int) : okD 11 (.lst (r.map .int)) = true := by
  simp [okD]
theorem toPy_row (r : List Int) : toPy (rowD r) = .list (r.map .int) := by
  simp only [rowD, toPy, toPyL_map]
theorem sort_rows (hc : X.A.units + 65 < cLine) (hm : X.mg "sorted" = none) : PriOk c X W "sorted" dSortR := fun e es ms p pos hg ha h1 h2 =>
  s_bi (cr_sortedD (enc := fun b => toPy (rowD b)) (xs0 := fun _ _ => True) hc) (prS_sortD (le := leR) (fun ds d e => by
    unfold dSortR at e
    split at e
    · rename_i xs
      cases h : asAll asRow xs with
      | none => rw [h] at e; cases e
      | some rs =>
        rw [h] at e
        cases e
        exact ⟨rs, by rw [asAll_some (enc := rowD) asRow_some h], rfl⟩
    · cases e) (fun b => by simp [rowD, okD]) (fun b b' => by rw [toPy_row, toPy_row]; simp only [alike]; exact alike_ints _ _) (.inr fun b => by rw [toPy_row]; exact ⟨fun z => (by cases z), fun xs z => by cases z⟩)
    (fun p q => by
      have : (fun b : List Int => toPy (rowD b)) = fun b => .list (b.map .int) := funext toPy_row
      rw [this, dataLe_rows fun b : List Int => b]
      exact leR_eq p q) leR_trans leR_total leR_anti) hg hm (by decide +kernel) ha (by decide) (by decide) h1 h2
theorem toPy_nr (p : Int × List Int) : toPy (nrD p) = .tuple [.int p.1, .list (p.2.map .int)] := by
  simp only [nrD, toPy, toPyL, toPyL_map]
theorem eqv_rows (a b : List Int) : PyData.eqv (.list (a.map .int)) (.list (b.map .int)) = decide (a = b) := by
  rw [← toPy_row, ← toPy_row, eq_py 12 _ _ (by simp [okD]) (by simp [okD])]
  have : ∀ a b : List Int, eqL (eqN 11) (a.map .int) (b.map .int) = decide (a = b) := by
    intro a
    induction a with
    | nil => intro b; cases b <;> simp [eqL]
    | cons x xs ih =>
      intro b
      cases b with
      | nil => simp [eqL]
      | cons y ys =>
        simp only [List.map_cons, eqL, ih, eqN]
        by_cases h1 : x = y <;> by_cases h2 : xs = ys <;> simp [h1, h2]
  simpa only [rowD, eqN] using this a b
theorem sort_pairs (hc : X.A.units + 65 < cLine) (hm : X.mg "sorted" = none) : PriOk c X W "sorted" dSortP := fun e es ms p pos hg ha h1 h2 =>
  s_bi (cr_sortedD (enc := fun b => toPy (nrD b)) (xs0 := fun _ _ => True) hc) (prS_sortD (le := leP) (fun ds d e => by
    unfold dSortP at e
    split at e
    · rename_i xs
      cases h : asAll asNr xs with
      | none => rw [h] at e; cases e
      | some rs =>
        rw [h] at e
        cases e
        exact ⟨rs, by rw [asAll_some (enc := nrD) asNr_some h], rfl⟩
    · cases e) (fun b => by simp [nrD, okD]) (fun b b' => by rw [toPy_nr, toPy_nr]; simp only [alike, alikeAll, alike_ints, Bool.and_self]) (.inl fun b => by rw [toPy_nr]; exact ⟨_, _, rfl⟩)
    (fun p q => by
      show (!dataLt (toPy (nrD q)) (toPy (nrD p))) = leP p q
      rw [toPy_nr, toPy_nr, dataLt_pair (by simp [alike]) (by simp only [alike]; exact alike_ints _ _), dataLt_int, dataLt_list]
      rw [eqv_rows]
      show (!if _ then (if _ then false else rowLt (q.2.map .int) (p.2.map .int)) else _) = _
      rw [dataLt_ints]
      simp only [PyData.eqv, beq_iff_eq, decide_eq_true_eq]
      unfold leP
      rw [← leR_eq]
      by_cases e1 : q.1 = p.1
      · rw [if_pos e1, if_pos e1.symm]
        by_cases e2 : q.2 = p.2
        · rw [if_pos e2, e2]
          simp
        · rw [if_neg e2]
          by_cases h : q.2 < p.2
          · have h' : ¬ p.2 ≤ q.2 := fun r => List.not_lt.mpr r h
            simp [h, h']
          · have h' : p.2 ≤ q.2 := List.not_lt.mp h
            simp [h, h']
      · rw [if_neg e1, if_neg (Ne.symm e1)]
        by_cases h : q.1 < p.1
        · have : ¬ p.1 < q.1 := by omega
          simp [h, this]
        · have : p.1 < q.1 := by omega
          simp [h, this]) leP_trans leP_total leP_anti) hg hm (by decide +kernel) ha (by decide) (by decide) h1 h2
/-! ### rows compared -/
def dLeR : D → D → Option D
  | .lst xs, .lst ys => (asInts xs).bind fun a => (asInts ys).map fun b => .bl (leR a b)
  | _, _ => none
def lePat (sc : Scope) : Expr → Option (List Expr)
  | .Compare a [.LtE] [b] _ => if isSet b then none else some [a, b]
  | _ => none
def hkLe : Hk := ⟨fun κ => lePat κ.sc, fun ms => match ms with
  | [a, b] => mBin dLeR a b
  | _ => fun _ _ => .bad⟩
def rLeD (K : PySem.W.Frag) : R2 := fun x y H Q => ∃ d e, Dp K H x d ∧ Dp K H y e ∧ alike d e = true ∧ d ≠ .none ∧ d.depth ≤ 60 ∧ Q (.bl (!dataLt e d)) H
theorem op_leD (hu : X.A.units + 65 < cLine) : OpR X (compareOp .LtE) (rLeD X.K) := by
  intro pins s σ H x y v u Q I rx ry h
  obtain ⟨d, e, hd, he, ha, hn, hdp, q⟩ := h
  obtain ⟨as, r1⟩ := Dp.reads I d x v hd rx
  obtain ⟨bs, r2⟩ := Dp.reads I e y u he ry
  exact le_data r1 r2 ha hn (by omega) ⟨.bl _, H, I, rfl, q⟩
theorem opS_leR {K : PySem.W.Frag} : OpS c dLeR (rLeD K) := by
  intro g H w x y dx dy d Q k rx ry e q
  unfold dLeR at e
  split at e
  · rename_i xs ys
    cases h1 : asInts xs with
    | none => rw [h1] at e; cases e
    | some a =>
      cases h2 : asInts ys with
      | none => rw [h1, h2] at e; cases e
      | some b =>
        rw [h1, h2] at e
        cases e
        have e1 := asInts_some h1
        have e2 := asInts_some h2
        subst e1; subst e2
        refine ⟨_, _, rx.dp k.sub (n := 11) (okD_rowS a), ry.dp k.sub (n := 11) (okD_rowS b), ?_, ?_, ?_, ?_⟩
        · rw [show toPy (.lst (a.map .int)) = _ from toPy_row a, show toPy (.lst (b.map .int)) = _ from toPy_row b]
          simp only [alike]
          exact alike_ints _ _
        · rw [show toPy (.lst (a.map .int)) = _ from toPy_row a]
          exact fun z => by cases z
        · exact Nat.le_trans (ok_py 11 _ (okD_rowS a)).2 (by decide)
        · have e3 : (!dataLt (toPy (.lst (b.map .int))) (toPy (.lst (a.map .int)))) = leR a b := by
            rw [show toPy (.lst (a.map .int)) = _ from toPy_row a, show toPy (.lst (b.map .int)) = _ from toPy_row b, ← leR_eq, dataLt_list]
            show (!rowLt (b.map .int) (a.map .int)) = _
            rw [dataLt_ints]
            by_cases h : b < a
            · have h' : ¬ a ≤ b := fun r => List.not_lt.mpr r h
              simp [h, h']
            · have h' : a ≤ b := List.not_lt.mp h
              simp [h, h']
          rw [e3]
          exact q.at k (.bl _)
  · cases e
theorem hkLe_ok (hu : X.A.units + 65 < cLine) : HkOk c X W hkLe := by
  intro κ x xs ms xo hp ha
  have hp : lePat κ.sc x = some xs := hp
  unfold lePat at hp
  split at hp
  · split at hp
    · cases hp
    · rename_i hs
      cases hp
      cases ha with
      | cons h1 s1 ha =>
        cases ha with
        | cons h2 s2 ha =>
          cases ha
          have hs := Bool.eq_false_iff.mpr hs
          refine ⟨?_, fun _ => ?_, fun _ _ _ e => nomatch e⟩
          · exact (pe_cmpR (op_leD hu) h1 h2 (set_marks hs)).mono fun _ _ _ z => rd_bin opS_leR z
          · exact (pt_cmpR (op_leD hu) h1 h2 (set_marks hs)).mono fun _ _ _ z => rd_bin opS_leR (rd_test z)
  · cases hp
end
/-- the forms that hang on no def -/
def hk0 : List Hk := [hkBi "sorted" dSortR, hkBi "sorted" dSortP, hkLe]
theorem hk0_ok {c : Cn} {P : Program} {w : World} {K : PySem.W.Frag} {mg : Str → Option Value} {base : Heap} (fr : Free mg) : ∀ X W, BOk P w K mg base 0 X → Takes X W → ∀ (i : Nat) p, hk0[i]? = some p → HkOk c X W p := by
  intro X W b tk i p e
  have m := List.mem_of_getElem? e
  simp only [hk0, List.mem_cons, List.not_mem_nil, or_false] at m
  rcases m with rfl | rfl | rfl
  · exact hkBi_ok (sort_rows b.hu (by rw [b.mg]; exact fr.sorted))
  · exact hkBi_ok (sort_pairs b.hu (by rw [b.mg]; exact fr.sorted))
  · exact hkLe_ok b.hu
end RL

namespace RL
open PySem L2
/-! the defs as data (printed) -/
def b_is_int : Ss := (.cons (.ret (.and (.isi (.var 0) "int") (.and (.not (.isi (.var 0) "bool")) (.chn .le .le (.var 1) (.var 0) (.var 2))))) .nil)
def b_common : Ss := (.cons (.whl (muI 1) (.bin .ne (.var 1) (.cst (.int 0))) (.cons (.asg (.tp (.cons (.nm 0) (.cons (.nm 1) .nil))) (.tup (.cons (.var 1) (.cons (.bin .mod (.var 0) (.var 1)) .nil)))) .nil)) (.cons (.ret (.var 0)) .nil))
def b_is_amount (i_common : Nat) : Ss := (.cons (.iff (.or (.not (.isi (.var 0) "tuple")) (.bin .ne (.pri 0 (.cons (.var 0) .nil)) (.cst (.int 2)))) (.cons (.ret (.cst (.bl false))) .nil) .nil) (.cons (.iff (.not (.pri 2 (.cons (.lm (.comp (.and (.isi (.var 1) "int") (.and (.not (.isi (.var 1) "bool")) (.bin .gt (.var 1) (.cst (.int 0))))) (.nm 1) [1] (.seq (.var 0)) .no)) .nil))) (.cons (.ret (.cst (.bl false))) .nil) .nil) (.cons (.ret (.bin .eq (.call i_common (.cons (.ix (.var 0) (.cst (.int 0))) (.cons (.ix (.var 0) (.cst (.int 1))) .nil))) (.cst (.int 1)))) .nil)))
def b_is_rule (i_is_int i_is_amount : Nat) : Ss := (.cons (.iff (.or (.not (.isi (.var 0) "tuple")) (.or (.bin .ne (.pri 0 (.cons (.var 0) .nil)) (.cst (.int 2))) (.not (.call i_is_amount (.cons (.ix (.var 0) (.cst (.int 0))) .nil))))) (.cons (.ret (.cst (.bl false))) .nil) .nil) (.cons (.iff (.or (.not (.isi (.ix (.var 0) (.cst (.int 1))) "list")) (.not (.chn .le .le (.cst (.int 1)) (.pri 0 (.cons (.ix (.var 0) (.cst (.int 1))) .nil)) (.cst (.int 3))))) (.cons (.ret (.cst (.bl false))) .nil) .nil) (.cons (.ret (.pri 2 (.cons (.lm (.comp (.call i_is_int (.cons (.var 1) (.cons (.neg (.gl 0)) (.cons (.gl 0) .nil)))) (.nm 1) [1] (.seq (.ix (.var 0) (.cst (.int 1)))) .no)) .nil))) .nil)))
def b_is_amounts (i_is_amount : Nat) : Ss := (.cons (.ret (.and (.isi (.var 0) "list") (.and (.bin .eq (.pri 0 (.cons (.var 0) .nil)) (.var 1)) (.pri 2 (.cons (.lm (.comp (.call i_is_amount (.cons (.var 2) .nil)) (.nm 2) [2] (.seq (.var 0)) .no)) .nil))))) .nil)
def b_is_trials (i_is_amounts i_is_amount : Nat) : Ss := (.cons (.iff (.or (.not (.isi (.var 0) "list")) (.not (.chn .le .le (.cst (.int 1)) (.pri 0 (.cons (.var 0) .nil)) (.cst (.int 8))))) (.cons (.ret (.cst (.bl false))) .nil) .nil) (.cons (.for' (.nm 1) (.seq (.var 0)) (.cons (.iff (.or (.not (.isi (.var 1) "tuple")) (.or (.bin .ne (.pri 0 (.cons (.var 1) .nil)) (.cst (.int 2))) (.or (.not (.isi (.ix (.var 1) (.cst (.int 0))) "list")) (.not (.call i_is_amount (.cons (.ix (.var 1) (.cst (.int 1))) .nil)))))) (.cons (.ret (.cst (.bl false))) .nil) .nil) (.cons (.iff (.or (.not (.chn .le .le (.cst (.int 1)) (.pri 0 (.cons (.ix (.var 1) (.cst (.int 0))) .nil)) (.cst (.int 3)))) (.not (.call i_is_amounts (.cons (.ix (.var 1) (.cst (.int 0))) (.cons (.pri 0 (.cons (.ix (.ix (.var 0) (.cst (.int 0))) (.cst (.int 0))) .nil)) .nil))))) (.cons (.ret (.cst (.bl false))) .nil) .nil) .nil))) (.cons (.ret (.cst (.bl true))) .nil)))
def b_check_rule (i_is_rule : Nat) : Ss := (.cons (.iff (.not (.call i_is_rule (.cons (.var 0) .nil))) (.cons (.rais 0) .nil) .nil) .nil)
def b_check_trials (i_is_trials : Nat) : Ss := (.cons (.iff (.not (.call i_is_trials (.cons (.var 0) .nil))) (.cons (.rais 1) .nil) .nil) .nil)
def b_check_amounts (i_is_amounts : Nat) : Ss := (.cons (.iff (.not (.call i_is_amounts (.cons (.var 0) (.cons (.var 1) .nil)))) (.cons (.rais 2) .nil) .nil) .nil)
def b_check_amount (i_is_amount : Nat) : Ss := (.cons (.iff (.not (.call i_is_amount (.cons (.var 0) .nil))) (.cons (.rais 2) .nil) .nil) .nil)
def b_check_quantity (i_is_int : Nat) : Ss := (.cons (.iff (.not (.call i_is_int (.cons (.var 1) (.cons (.cst (.int 0)) (.cons (.bin .sub (.var 0) (.cst (.int 1))) .nil))))) (.cons (.rais 3) .nil) .nil) .nil)
def b_lowest (i_common : Nat) : Ss := (.cons (.asg (.nm 2) (.call i_common (.cons (.var 0) (.cons (.var 1) .nil)))) (.cons (.ret (.tup (.cons (.bin .fdiv (.var 0) (.var 2)) (.cons (.bin .fdiv (.var 1) (.var 2)) .nil)))) .nil))
def b_product (i_lowest : Nat) : Ss := (.cons (.ret (.call i_lowest (.cons (.bin .mul (.ix (.var 0) (.cst (.int 0))) (.ix (.var 1) (.cst (.int 0)))) (.cons (.bin .mul (.ix (.var 0) (.cst (.int 1))) (.ix (.var 1) (.cst (.int 1)))) .nil)))) .nil)
def b_power (i_product : Nat) : Ss := (.cons (.asg (.nm 2) (.tup (.cons (.cst (.int 1)) (.cons (.cst (.int 1)) .nil)))) (.cons (.for' (.nm 3) (.rng (.cons (.pri 1 (.cons (.var 1) .nil)) .nil)) (.cons (.asg (.nm 2) (.call i_product (.cons (.var 2) (.cons (.var 0) .nil)))) .nil)) (.cons (.ret (.ite (.bin .ge (.var 1) (.cst (.int 0))) (.var 2) (.tup (.cons (.ix (.var 2) (.cst (.int 1))) (.cons (.ix (.var 2) (.cst (.int 0))) .nil))))) .nil)))
def b_products_of (i_product i_power : Nat) : Ss := (.cons (.asg (.nm 2) (.tup (.cons (.cst (.int 1)) (.cons (.cst (.int 1)) .nil)))) (.cons (.for' (.tp (.cons (.nm 3) (.cons (.nm 4) .nil))) (.zip (.cons (.var 0) (.cons (.var 1) .nil))) (.cons (.asg (.nm 2) (.call i_product (.cons (.var 2) (.cons (.call i_power (.cons (.var 4) (.cons (.var 3) .nil))) .nil)))) .nil)) (.cons (.ret (.var 2)) .nil)))
def b_rate_of (i_product i_products_of : Nat) : Ss := (.cons (.ret (.call i_product (.cons (.ix (.var 0) (.cst (.int 0))) (.cons (.call i_products_of (.cons (.ix (.var 0) (.cst (.int 1))) (.cons (.var 1) .nil))) .nil)))) .nil)
def b_rate (i_rate_of i_check_amounts i_check_rule : Nat) : Ss := (.cons (.exp (.call i_check_rule (.cons (.var 0) .nil))) (.cons (.exp (.call i_check_amounts (.cons (.var 1) (.cons (.pri 0 (.cons (.ix (.var 0) (.cst (.int 1))) .nil)) .nil)))) (.cons (.ret (.call i_rate_of (.cons (.var 0) (.cons (.var 1) .nil)))) .nil)))
def b_trial (i_rate_of i_check_amounts i_check_rule : Nat) : Ss := (.cons (.exp (.call i_check_rule (.cons (.var 0) .nil))) (.cons (.exp (.call i_check_amounts (.cons (.var 1) (.cons (.pri 0 (.cons (.ix (.var 0) (.cst (.int 1))) .nil)) .nil)))) (.cons (.ret (.tup (.cons (.lm (.of (.cons (.var 1) .nil))) (.cons (.call i_rate_of (.cons (.var 0) (.cons (.var 1) .nil))) .nil)))) .nil)))
def b_fits_of (i_rate_of : Nat) : Ss := (.cons (.ret (.pri 2 (.cons (.lm (.comp (.bin .eq (.call i_rate_of (.cons (.var 0) (.cons (.var 2) .nil))) (.var 3)) (.tp (.cons (.nm 2) (.cons (.nm 3) .nil))) [2, 3] (.seq (.var 1)) .no)) .nil))) .nil)
def b_fits (i_fits_of i_check_trials i_check_rule : Nat) : Ss := (.cons (.exp (.call i_check_rule (.cons (.var 0) .nil))) (.cons (.exp (.call i_check_trials (.cons (.var 1) .nil))) (.cons (.ret (.and (.bin .eq (.pri 0 (.cons (.ix (.ix (.var 1) (.cst (.int 0))) (.cst (.int 0))) .nil)) (.pri 0 (.cons (.ix (.var 0) (.cst (.int 1))) .nil))) (.call i_fits_of (.cons (.var 0) (.cons (.var 1) .nil))))) .nil)))
def b_first_miss (i_rate_of i_check_trials i_check_rule : Nat) : Ss := (.cons (.exp (.call i_check_rule (.cons (.var 0) .nil))) (.cons (.exp (.call i_check_trials (.cons (.var 1) .nil))) (.cons (.iff (.bin .ne (.pri 0 (.cons (.ix (.ix (.var 1) (.cst (.int 0))) (.cst (.int 0))) .nil)) (.pri 0 (.cons (.ix (.var 0) (.cst (.int 1))) .nil))) (.cons (.ret (.cst (.int 0))) .nil) .nil) (.cons (.asg (.nm 2) (.lm (.comp (.var 3) (.tp (.cons (.nm 3) (.cons (.tp (.cons (.nm 4) (.cons (.nm 5) .nil))) .nil))) [3, 4, 5] (.enm (.cons (.var 1) .nil)) (.so (.bin .ne (.call i_rate_of (.cons (.var 0) (.cons (.var 4) .nil))) (.var 5)))))) (.cons (.ret (.ite (.bin .ne (.var 2) (.lm (.disp .nil))) (.ix (.var 2) (.cst (.int 0))) (.cst .non))) .nil)))))
def b_growth (i_power i_check_amount i_check_quantity i_check_rule : Nat) : Ss := (.cons (.exp (.call i_check_rule (.cons (.var 0) .nil))) (.cons (.exp (.call i_check_quantity (.cons (.pri 0 (.cons (.ix (.var 0) (.cst (.int 1))) .nil)) (.cons (.var 1) .nil)))) (.cons (.exp (.call i_check_amount (.cons (.var 2) .nil))) (.cons (.ret (.call i_power (.cons (.var 2) (.cons (.ix (.ix (.var 0) (.cst (.int 1))) (.var 1)) .nil)))) .nil))))
def b_order (i_check_rule : Nat) : Ss := (.cons (.exp (.call i_check_rule (.cons (.var 0) .nil))) (.cons (.ret (.pri 3 (.cons (.ix (.var 0) (.cst (.int 1))) .nil))) .nil))
def b_unit_power (i_check_rule : Nat) : Ss := (.cons (.exp (.call i_check_rule (.cons (.var 0) .nil))) (.cons (.ret (.neg (.pri 3 (.cons (.ix (.var 0) (.cst (.int 1))) .nil)))) .nil))
def b__law_pick (i__law_draw : Nat) : Ss := (.cons (.ret (.ix (.var 1) (.call i__law_draw (.cons (.var 0) (.cons (.pri 0 (.cons (.var 1) .nil)) .nil))))) .nil)
def b__law_true : Ss := (.cons (.ret (.and (.isi (.var 0) "bool") (.bin .eq (.var 0) (.var 1)))) .nil)
def b__law_low : Ss := (.cons (.asg (.tp (.cons (.nm 2) (.cons (.nm 3) .nil))) (.tup (.cons (.var 0) (.cons (.var 1) .nil)))) (.cons (.whl (muI 3) (.bin .ne (.var 3) (.cst (.int 0))) (.cons (.asg (.tp (.cons (.nm 2) (.cons (.nm 3) .nil))) (.tup (.cons (.var 3) (.cons (.bin .mod (.var 2) (.var 3)) .nil)))) .nil)) (.cons (.ret (.tup (.cons (.bin .fdiv (.var 0) (.var 2)) (.cons (.bin .fdiv (.var 1) (.var 2)) .nil)))) .nil)))
def b__law_amount (i__law_pick i__law_low i__law_draw : Nat) : Ss := (.cons (.ret (.call i__law_pick (.cons (.var 0) (.cons (.lm (.disp (.cons (.tup (.cons (.cst (.int 1)) (.cons (.cst (.int 1)) .nil))) (.cons (.tup (.cons (.cst (.int 2)) (.cons (.cst (.int 1)) .nil))) (.cons (.tup (.cons (.cst (.int 1)) (.cons (.cst (.int 2)) .nil))) (.cons (.tup (.cons (.cst (.int 3)) (.cons (.cst (.int 1)) .nil))) (.cons (.tup (.cons (.cst (.int 4)) (.cons (.cst (.int 1)) .nil))) (.cons (.tup (.cons (.cst (.int 2)) (.cons (.cst (.int 3)) .nil))) (.cons (.call i__law_low (.cons (.bin .add (.cst (.int 1)) (.call i__law_draw (.cons (.var 0) (.cons (.cst (.int 9)) .nil)))) (.cons (.bin .add (.cst (.int 1)) (.call i__law_draw (.cons (.var 0) (.cons (.cst (.int 5)) .nil)))) .nil))) .nil))))))))) .nil)))) .nil)
def b__law_new (i__law_draw i__law_amount : Nat) : Ss := (.cons (.ret (.tup (.cons (.call i__law_amount (.cons (.var 0) .nil)) (.cons (.lm (.comp (.bin .sub (.call i__law_draw (.cons (.var 0) (.cons (.cst (.int 7)) .nil))) (.cst (.int 3))) (.nm 2) [2] (.rng (.cons (.var 1) .nil)) .no)) .nil)))) .nil)
def b__law_rate (i__law_low : Nat) : Ss := (.cons (.asg (.tp (.cons (.nm 2) (.cons (.nm 3) .nil))) (.ix (.var 0) (.cst (.int 0)))) (.cons (.for' (.tp (.cons (.nm 4) (.cons (.nm 5) .nil))) (.zip (.cons (.ix (.var 0) (.cst (.int 1))) (.cons (.var 1) .nil))) (.cons (.for' (.nm 6) (.rng (.cons (.pri 1 (.cons (.var 4) .nil)) .nil)) (.cons (.asg (.nm 2) (.bin .mul (.var 2) (.ite (.bin .gt (.var 4) (.cst (.int 0))) (.ix (.var 5) (.cst (.int 0))) (.ix (.var 5) (.cst (.int 1)))))) (.cons (.asg (.nm 3) (.bin .mul (.var 3) (.ite (.bin .gt (.var 4) (.cst (.int 0))) (.ix (.var 5) (.cst (.int 1))) (.ix (.var 5) (.cst (.int 0)))))) .nil))) .nil)) (.cons (.ret (.call i__law_low (.cons (.var 2) (.cons (.var 3) .nil)))) .nil)))
def b__law_trials (i__law_draw i__law_low i__law_rate i__law_amount i__law_pick i__law_new : Nat) : Ss := (.cons (.asg (.nm 3) (.call i__law_new (.cons (.var 0) (.cons (.var 1) .nil)))) (.cons (.own 4 (.disp .nil)) (.cons (.for' (.nm 5) (.rng (.cons (.bin .add (.cst (.int 1)) (.call i__law_draw (.cons (.var 0) (.cons (.var 2) .nil)))) .nil)) (.cons (.own 6 (.comp (.call i__law_amount (.cons (.var 0) .nil)) (.nm 7) [7] (.rng (.cons (.var 1) .nil)) .no)) (.cons (.iff (.and (.ocmp .ne 4 (.lm (.disp .nil))) (.bin .eq (.call i__law_draw (.cons (.var 0) (.cons (.cst (.int 2)) .nil))) (.cst (.int 0)))) (.cons (.own 6 (.of (.cons (.ix (.callO i__law_pick false 4 (.var 0)) (.cst (.int 0))) .nil))) (.cons (.set 6 (.call i__law_draw (.cons (.var 0) (.cons (.var 1) .nil))) (.call i__law_amount (.cons (.var 0) .nil))) .nil)) .nil) (.cons (.frz 6 (.asg (.nm 8) (.call i__law_rate (.cons (.var 3) (.cons (.var 6) .nil))))) (.cons (.frz 6 (.app 4 (.tup (.cons (.var 6) (.cons (.ite (.bin .eq (.call i__law_draw (.cons (.var 0) (.cons (.cst (.int 12)) .nil))) (.cst (.int 0))) (.call i__law_low (.cons (.bin .mul (.ix (.var 8) (.cst (.int 0))) (.cst (.int 2))) (.cons (.ix (.var 8) (.cst (.int 1))) .nil))) (.var 8)) .nil))))) .nil))))) (.cons (.frz 4 (.ret (.var 4))) .nil))))
def b_quotient (i_lowest : Nat) : Ss := (.cons (.ret (.call i_lowest (.cons (.bin .mul (.ix (.var 0) (.cst (.int 0))) (.ix (.var 1) (.cst (.int 1)))) (.cons (.bin .mul (.ix (.var 0) (.cst (.int 1))) (.ix (.var 1) (.cst (.int 0)))) .nil)))) .nil)
def b_all_powers : Ss := (.cons (.asg (.nm 1) (.lm (.disp (.cons (.lm (.disp .nil)) .nil)))) (.cons (.for' (.nm 2) (.rng (.cons (.var 0) .nil)) (.cons (.own 3 (.disp .nil)) (.cons (.for' (.nm 4) (.seq (.var 1)) (.cons (.ext 3 (.lm (.comp (.bin .add (.var 4) (.lm (.disp (.cons (.var 5) .nil)))) (.nm 5) [5] (.rng (.cons (.neg (.gl 0)) (.cons (.bin .add (.gl 0) (.cst (.int 1))) .nil))) .no))) .nil)) (.cons (.frz 3 (.asg (.nm 1) (.var 3))) .nil)))) (.cons (.ret (.var 1)) .nil)))
def b_table_of (i_power : Nat) : Ss := (.cons (.ret (.lm (.comp (.lm (.comp (.call i_power (.cons (.var 2) (.cons (.var 1) .nil))) (.nm 1) [1] (.rng (.cons (.neg (.gl 0)) (.cons (.bin .add (.gl 0) (.cst (.int 1))) .nil))) .no)) (.nm 2) [2] (.seq (.var 0)) .no))) .nil)
def b_agrees : Ss := (.cons (.for' (.tp (.cons (.nm 2) (.cons (.nm 3) .nil))) (.seq (.var 0)) (.cons (.asg (.tp (.cons (.nm 4) (.cons (.nm 5) .nil))) (.tup (.cons (.ix (.var 3) (.cst (.int 1))) (.cons (.ix (.var 3) (.cst (.int 0))) .nil)))) (.cons (.for' (.tp (.cons (.nm 6) (.cons (.nm 7) .nil))) (.enm (.cons (.var 1) .nil)) (.cons (.imul 4 (.ix (.ix (.ix (.var 2) (.var 6)) (.bin .add (.var 7) (.gl 0))) (.cst (.int 0)))) (.cons (.imul 5 (.ix (.ix (.ix (.var 2) (.var 6)) (.bin .add (.var 7) (.gl 0))) (.cst (.int 1)))) .nil))) (.cons (.iff (.bin .ne (.var 4) (.var 5)) (.cons (.ret (.cst (.bl false))) .nil) .nil) .nil)))) (.cons (.ret (.cst (.bl true))) .nil))
def b_fitting_of (i_all_powers i_agrees i_quotient i_products_of i_table_of : Nat) : Ss := (.cons (.asg (.tp (.cons (.nm 1) (.cons (.nm 2) .nil))) (.ix (.var 0) (.cst (.int 0)))) (.cons (.own 3 (.disp .nil)) (.cons (.for' (.tp (.cons (.nm 4) (.cons (.nm 5) .nil))) (.seq (.sl (.var 0) (.so (.cst (.int 1))) .no)) (.cons (.app 3 (.tup (.cons (.call i_table_of (.cons (.lm (.comp (.call i_quotient (.cons (.var 6) (.cons (.var 7) .nil))) (.tp (.cons (.nm 6) (.cons (.nm 7) .nil))) [6, 7] (.zip (.cons (.var 4) (.cons (.var 1) .nil))) .no)) .nil)) (.cons (.call i_quotient (.cons (.var 5) (.cons (.var 2) .nil))) .nil)))) .nil)) (.cons (.own 8 (.disp .nil)) (.cons (.for' (.nm 9) (.seq (.call i_all_powers (.cons (.pri 0 (.cons (.var 1) .nil)) .nil))) (.cons (.frz 3 (.iff (.call i_agrees (.cons (.var 3) (.cons (.var 9) .nil))) (.cons (.app 8 (.tup (.cons (.call i_quotient (.cons (.var 2) (.cons (.call i_products_of (.cons (.var 9) (.cons (.var 1) .nil))) .nil))) (.cons (.var 9) .nil)))) .nil) .nil)) .nil)) (.cons (.frz 8 (.ret (.var 8))) .nil))))))
def b_fitting (i_fitting_of i_check_trials : Nat) : Ss := (.cons (.exp (.call i_check_trials (.cons (.var 0) .nil))) (.cons (.ret (.call i_fitting_of (.cons (.var 0) .nil))) .nil))
def b_count_fitting (i_fitting_of i_check_trials : Nat) : Ss := (.cons (.exp (.call i_check_trials (.cons (.var 0) .nil))) (.cons (.ret (.pri 0 (.cons (.call i_fitting_of (.cons (.var 0) .nil)) .nil))) .nil))
def b_only_rule (i_fitting_of i_check_trials : Nat) : Ss := (.cons (.exp (.call i_check_trials (.cons (.var 0) .nil))) (.cons (.asg (.nm 1) (.call i_fitting_of (.cons (.var 0) .nil))) (.cons (.iff (.bin .ne (.pri 0 (.cons (.var 1) .nil)) (.cst (.int 1))) (.cons (.rais 5) .nil) .nil) (.cons (.ret (.ix (.var 1) (.cst (.int 0)))) .nil))))
def b_powers_for (i_fitting_of i_check_quantity i_check_trials : Nat) : Ss := (.cons (.exp (.call i_check_trials (.cons (.var 0) .nil))) (.cons (.exp (.call i_check_quantity (.cons (.pri 0 (.cons (.ix (.ix (.var 0) (.cst (.int 0))) (.cst (.int 0))) .nil)) (.cons (.var 1) .nil)))) (.cons (.ret (.pr2 0 (.lm (.comp (.ix (.ix (.var 2) (.cst (.int 1))) (.var 1)) (.nm 2) [2] (.seq (.call i_fitting_of (.cons (.var 0) .nil))) .no)))) .nil)))
def b__law_error : Ss := (.cons (.asg (.nm 1) (.lm (.disp (.cons (.isx (.var 0) 0) (.cons (.isx (.var 0) 1) (.cons (.isx (.var 0) 2) .nil)))))) (.cons (.asg (.nm 1) (.bin .add (.var 1) (.lm (.disp (.cons (.isx (.var 0) 3) (.cons (.isx (.var 0) 4) (.cons (.isx (.var 0) 5) .nil))))))) (.cons (.iff (.or (.bin .ne (.bmt 0 (.var 1) (.cons (.cst (.bl true)) .nil)) (.cst (.int 1))) (.or (.not (.isx (.var 0) 6)) (.not (.isx (.var 0) 7)))) (.cons (.ret (.cst (.str "odd"))) .nil) .nil) (.cons (.ret (.ix (.lm (.disp (.cons (.cst (.str "rule")) (.cons (.cst (.str "trials")) (.cons (.cst (.str "amounts")) (.cons (.cst (.str "number")) (.cons (.cst (.str "text")) (.cons (.cst (.str "none")) .nil)))))))) (.bmt 1 (.var 1) (.cons (.cst (.bl true)) .nil)))) .nil))))
def b__law_powers : Ss := (.cons (.asg (.nm 1) (.lm (.disp (.cons (.lm (.disp .nil)) .nil)))) (.cons (.for' (.nm 2) (.rng (.cons (.var 0) .nil)) (.cons (.asg (.nm 3) (.lm (.disp .nil))) (.cons (.for' (.nm 4) (.seq (.var 1)) (.cons (.asg (.nm 3) (.bin .add (.var 3) (.lm (.comp (.bin .add (.var 4) (.lm (.disp (.cons (.var 5) .nil)))) (.nm 5) [5] (.rng (.cons (.bin .sub (.cst (.int 0)) (.cst (.int 3))) (.cons (.cst (.int 4)) .nil))) .no)))) .nil)) (.cons (.asg (.nm 1) (.var 3)) .nil)))) (.cons (.ret (.var 1)) .nil)))
def b__law_fitting (i__law_rate i__law_powers i__law_low : Nat) : Ss := (.cons (.asg (.tp (.cons (.nm 1) (.cons (.nm 2) .nil))) (.ix (.var 0) (.cst (.int 0)))) (.cons (.own 3 (.disp .nil)) (.cons (.for' (.nm 4) (.seq (.call i__law_powers (.cons (.pri 0 (.cons (.var 1) .nil)) .nil))) (.cons (.asg (.nm 5) (.call i__law_rate (.cons (.tup (.cons (.tup (.cons (.cst (.int 1)) (.cons (.cst (.int 1)) .nil))) (.cons (.var 4) .nil))) (.cons (.var 1) .nil)))) (.cons (.app 3 (.tup (.cons (.call i__law_low (.cons (.bin .mul (.ix (.var 2) (.cst (.int 0))) (.ix (.var 5) (.cst (.int 1)))) (.cons (.bin .mul (.ix (.var 2) (.cst (.int 1))) (.ix (.var 5) (.cst (.int 0)))) .nil))) (.cons (.var 4) .nil)))) .nil))) (.cons (.for' (.tp (.cons (.nm 6) (.cons (.nm 7) .nil))) (.seq (.sl (.var 0) (.so (.cst (.int 1))) .no)) (.cons (.own 3 (.comp (.var 8) (.nm 8) [8] (.own 3) (.so (.bin .eq (.call i__law_rate (.cons (.var 8) (.cons (.var 6) .nil))) (.var 7))))) .nil)) (.cons (.frz 3 (.ret (.var 3))) .nil)))))
def b__law_only (i__law_error i_only_rule : Nat) : Ss := (.cons (.asg (.nm 1) (.cst .non)) (.cons (.asg (.nm 2) (.cst .non)) (.cons (.tryK (.cons (.asg (.nm 1) (.call i_only_rule (.cons (.var 0) .nil))) .nil) 3 2 0) (.cons (.ret (.ite (.bin .is (.var 2) (.cst .non)) (.var 1) (.call i__law_error (.cons (.var 2) .nil)))) .nil))))
def b_parts_of : Ss := (.cons (.own 1 (.disp (.cons (.lm (.disp .nil)) .nil))) (.cons (.for' (.nm 2) (.rng (.cons (.var 0) .nil)) (.cons (.ext 1 (.lm (.comp (.bin .add (.var 3) (.lm (.disp (.cons (.var 2) .nil)))) (.nm 3) [3] (.own 1) .no))) .nil)) (.cons (.ret (.lm (.comp (.ix (.var 3) (.cst (.int 1))) (.nm 3) [3] (.seq (.hk 1 (.cons (.lm (.comp (.tup (.cons (.pri 0 (.cons (.var 3) .nil)) (.cons (.var 3) .nil))) (.nm 3) [3] (.own 1) .no)) .nil))) .no))) .nil)))
def b_smallest_bar (i_parts_of i_fitting_of i_check_trials : Nat) : Ss := (.cons (.exp (.call i_check_trials (.cons (.var 0) .nil))) (.cons (.iff (.bin .ne (.call i_fitting_of (.cons (.var 0) .nil)) (.lm (.disp .nil))) (.cons (.rais 5) .nil) .nil) (.cons (.for' (.nm 1) (.seq (.call i_parts_of (.cons (.pri 0 (.cons (.var 0) .nil)) .nil))) (.cons (.iff (.and (.bin .gt (.pri 0 (.cons (.var 1) .nil)) (.cst (.int 1))) (.bin .eq (.call i_fitting_of (.cons (.lm (.comp (.ix (.var 0) (.var 2)) (.nm 2) [2] (.seq (.var 1)) .no)) .nil)) (.lm (.disp .nil)))) (.cons (.ret (.var 1)) .nil) .nil) .nil)) (.cons (.ret (.lm (.lrg (.pri 0 (.cons (.var 0) .nil))))) .nil))))
def b_first_barred (i_fitting_of i_check_trials : Nat) : Ss := (.cons (.exp (.call i_check_trials (.cons (.var 0) .nil))) (.cons (.for' (.nm 1) (.rng (.cons (.pri 0 (.cons (.var 0) .nil)) .nil)) (.cons (.iff (.bin .eq (.call i_fitting_of (.cons (.sl (.var 0) .no (.so (.bin .add (.var 1) (.cst (.int 1))))) .nil)) (.lm (.disp .nil))) (.cons (.ret (.var 1)) .nil) .nil) .nil)) (.cons (.ret (.cst .non)) .nil)))
def b_needless (i_fitting_of i_check_trials : Nat) : Ss := (.cons (.exp (.call i_check_trials (.cons (.var 0) .nil))) (.cons (.iff (.bin .eq (.pri 0 (.cons (.var 0) .nil)) (.cst (.int 1))) (.cons (.ret (.lm (.disp .nil))) .nil) .nil) (.cons (.asg (.nm 1) (.call i_fitting_of (.cons (.var 0) .nil))) (.cons (.ret (.lm (.comp (.var 2) (.nm 2) [2] (.rng (.cons (.pri 0 (.cons (.var 0) .nil)) .nil)) (.so (.bin .eq (.call i_fitting_of (.cons (.bin .add (.sl (.var 0) .no (.so (.var 2))) (.sl (.var 0) (.so (.bin .add (.var 2) (.cst (.int 1)))) .no)) .nil)) (.var 1)))))) .nil))))
def b__law_bar (i__law_error i_smallest_bar : Nat) : Ss := (.cons (.asg (.nm 1) (.cst .non)) (.cons (.asg (.nm 2) (.cst .non)) (.cons (.tryK (.cons (.asg (.nm 1) (.call i_smallest_bar (.cons (.var 0) .nil))) .nil) 3 2 0) (.cons (.ret (.ite (.bin .is (.var 2) (.cst .non)) (.var 1) (.call i__law_error (.cons (.var 2) .nil)))) .nil))))
def b__law_parts : Ss := (.cons (.asg (.nm 1) (.lm (.disp (.cons (.lm (.disp .nil)) .nil)))) (.cons (.for' (.nm 2) (.rng (.cons (.var 0) .nil)) (.cons (.asg (.nm 1) (.bin .add (.var 1) (.lm (.comp (.bin .add (.var 3) (.lm (.disp (.cons (.var 2) .nil)))) (.nm 3) [3] (.seq (.var 1)) .no)))) .nil)) (.cons (.asg (.nm 4) (.lm (.disp .nil))) (.cons (.for' (.nm 5) (.rng (.cons (.cst (.int 1)) (.cons (.bin .add (.var 0) (.cst (.int 1))) .nil))) (.cons (.asg (.nm 4) (.bin .add (.var 4) (.hk 0 (.cons (.lm (.comp (.var 3) (.nm 3) [3] (.seq (.var 1)) (.so (.bin .eq (.pri 0 (.cons (.var 3) .nil)) (.var 5))))) .nil)))) .nil)) (.cons (.ret (.var 4)) .nil)))))
def b_differing : Ss := (.cons (.ret (.lm (.comp (.var 2) (.nm 2) [2] (.rng (.cons (.pri 0 (.cons (.ix (.var 0) (.cst (.int 0))) .nil)) .nil)) (.so (.bin .ne (.ix (.ix (.var 0) (.cst (.int 0))) (.var 2)) (.ix (.ix (.var 1) (.cst (.int 0))) (.var 2))))))) .nil)
def b_single_pairs (i_differing i_check_quantity i_check_trials : Nat) : Ss := (.cons (.exp (.call i_check_trials (.cons (.var 0) .nil))) (.cons (.exp (.call i_check_quantity (.cons (.pri 0 (.cons (.ix (.ix (.var 0) (.cst (.int 0))) (.cst (.int 0))) .nil)) (.cons (.var 1) .nil)))) (.cons (.own 2 (.disp .nil)) (.cons (.for' (.nm 3) (.rng (.cons (.pri 0 (.cons (.var 0) .nil)) .nil)) (.cons (.ext 2 (.lm (.comp (.tup (.cons (.var 3) (.cons (.var 4) .nil))) (.nm 4) [4] (.rng (.cons (.bin .add (.var 3) (.cst (.int 1))) (.cons (.pri 0 (.cons (.var 0) .nil)) .nil))) (.so (.bin .eq (.call i_differing (.cons (.ix (.var 0) (.var 3)) (.cons (.ix (.var 0) (.var 4)) .nil))) (.lm (.disp (.cons (.var 1) .nil)))))))) .nil)) (.cons (.frz 2 (.ret (.var 2))) .nil)))))
def b_power_of_pair (i_power i_quotient : Nat) : Ss := (.cons (.asg (.nm 3) (.call i_quotient (.cons (.ix (.ix (.var 0) (.cst (.int 0))) (.var 2)) (.cons (.ix (.ix (.var 1) (.cst (.int 0))) (.var 2)) .nil)))) (.cons (.asg (.nm 4) (.call i_quotient (.cons (.ix (.var 0) (.cst (.int 1))) (.cons (.ix (.var 1) (.cst (.int 1))) .nil)))) (.cons (.asg (.nm 5) (.lm (.comp (.var 6) (.nm 6) [6] (.rng (.cons (.neg (.gl 0)) (.cons (.bin .add (.gl 0) (.cst (.int 1))) .nil))) (.so (.bin .eq (.call i_power (.cons (.var 3) (.cons (.var 6) .nil))) (.var 4)))))) (.cons (.ret (.ite (.bin .ne (.var 5) (.lm (.disp .nil))) (.ix (.var 5) (.cst (.int 0))) (.cst .non))) .nil))))
def b_told_powers (i_single_pairs i_power_of_pair i_check_quantity i_check_trials : Nat) : Ss := (.cons (.exp (.call i_check_trials (.cons (.var 0) .nil))) (.cons (.exp (.call i_check_quantity (.cons (.pri 0 (.cons (.ix (.ix (.var 0) (.cst (.int 0))) (.cst (.int 0))) .nil)) (.cons (.var 1) .nil)))) (.cons (.own 2 (.disp .nil)) (.cons (.for' (.tp (.cons (.nm 3) (.cons (.nm 4) .nil))) (.seq (.call i_single_pairs (.cons (.var 0) (.cons (.var 1) .nil)))) (.cons (.app 2 (.tup (.cons (.var 3) (.cons (.var 4) (.cons (.call i_power_of_pair (.cons (.ix (.var 0) (.var 3)) (.cons (.ix (.var 0) (.var 4)) (.cons (.var 1) .nil)))) .nil))))) .nil)) (.cons (.frz 2 (.ret (.var 2))) .nil)))))
def b_agreed_power (i_told_powers i_check_quantity i_check_trials : Nat) : Ss := (.cons (.exp (.call i_check_trials (.cons (.var 0) .nil))) (.cons (.exp (.call i_check_quantity (.cons (.pri 0 (.cons (.ix (.ix (.var 0) (.cst (.int 0))) (.cst (.int 0))) .nil)) (.cons (.var 1) .nil)))) (.cons (.asg (.nm 2) (.pr2 0 (.lm (.comp (.ite (.bin .isn (.ix (.var 3) (.cst (.int 2))) (.cst .non)) (.ix (.var 3) (.cst (.int 2))) (.cst (.int 99))) (.nm 3) [3] (.seq (.call i_told_powers (.cons (.var 0) (.cons (.var 1) .nil)))) .no)))) (.cons (.iff (.or (.bin .ne (.pri 0 (.cons (.var 2) .nil)) (.cst (.int 1))) (.bin .eq (.ix (.var 2) (.cst (.int 0))) (.cst (.int 99)))) (.cons (.rais 5) .nil) .nil) (.cons (.ret (.ix (.var 2) (.cst (.int 0)))) .nil)))))
def b_same_amounts (i_differing i_check_trials : Nat) : Ss := (.cons (.exp (.call i_check_trials (.cons (.var 0) .nil))) (.cons (.own 1 (.disp .nil)) (.cons (.for' (.nm 2) (.rng (.cons (.pri 0 (.cons (.var 0) .nil)) .nil)) (.cons (.ext 1 (.lm (.comp (.tup (.cons (.var 2) (.cons (.var 3) .nil))) (.nm 3) [3] (.rng (.cons (.bin .add (.var 2) (.cst (.int 1))) (.cons (.pri 0 (.cons (.var 0) .nil)) .nil))) (.so (.bin .eq (.call i_differing (.cons (.ix (.var 0) (.var 2)) (.cons (.ix (.var 0) (.var 3)) .nil))) (.lm (.disp .nil))))))) .nil)) (.cons (.frz 1 (.ret (.var 1))) .nil))))
def b_contradictions (i_same_amounts i_check_trials : Nat) : Ss := (.cons (.exp (.call i_check_trials (.cons (.var 0) .nil))) (.cons (.ret (.lm (.comp (.tup (.cons (.var 1) (.cons (.var 2) .nil))) (.tp (.cons (.nm 1) (.cons (.nm 2) .nil))) [1, 2] (.seq (.call i_same_amounts (.cons (.var 0) .nil))) (.so (.bin .ne (.ix (.ix (.var 0) (.var 1)) (.cst (.int 1))) (.ix (.ix (.var 0) (.var 2)) (.cst (.int 1)))))))) .nil))
def b__law_agreed (i__law_error i_agreed_power : Nat) : Ss := (.cons (.asg (.nm 2) (.cst .non)) (.cons (.asg (.nm 3) (.cst .non)) (.cons (.tryK (.cons (.asg (.nm 2) (.call i_agreed_power (.cons (.var 0) (.cons (.var 1) .nil)))) .nil) 4 3 0) (.cons (.ret (.ite (.bin .is (.var 3) (.cst .non)) (.var 2) (.call i__law_error (.cons (.var 3) .nil)))) .nil))))
def b__law_told (i__law_low i__law_rate : Nat) : Ss := (.cons (.own 3 (.disp .nil)) (.cons (.for' (.nm 4) (.rng (.cons (.bin .sub (.cst (.int 0)) (.cst (.int 3))) (.cons (.cst (.int 4)) .nil))) (.cons (.asg (.tp (.cons (.nm 5) (.cons (.nm 6) .nil))) (.lm (.comp (.call i__law_rate (.cons (.tup (.cons (.tup (.cons (.cst (.int 1)) (.cons (.cst (.int 1)) .nil))) (.cons (.lm (.disp (.cons (.var 4) .nil))) .nil))) (.cons (.lm (.disp (.cons (.ix (.ix (.var 7) (.cst (.int 0))) (.var 2)) .nil))) .nil))) (.nm 7) [7] (.seq (.tup (.cons (.var 0) (.cons (.var 1) .nil)))) .no))) (.cons (.iff (.bin .eq (.call i__law_low (.cons (.bin .mul (.ix (.var 5) (.cst (.int 0))) (.ix (.var 6) (.cst (.int 1)))) (.cons (.bin .mul (.ix (.var 5) (.cst (.int 1))) (.ix (.var 6) (.cst (.int 0)))) .nil))) (.call i__law_low (.cons (.bin .mul (.ix (.ix (.var 0) (.cst (.int 1))) (.cst (.int 0))) (.ix (.ix (.var 1) (.cst (.int 1))) (.cst (.int 1)))) (.cons (.bin .mul (.ix (.ix (.var 0) (.cst (.int 1))) (.cst (.int 1))) (.ix (.ix (.var 1) (.cst (.int 1))) (.cst (.int 0)))) .nil)))) (.cons (.app 3 (.var 4)) .nil) .nil) .nil))) (.cons (.ret (.ite (.ocmp .ne 3 (.lm (.disp .nil))) (.oix 3 (.cst (.int 0))) (.cst .non))) .nil)))
def b_counts_of (i_fitting_of i_rate_of : Nat) : Ss := (.cons (.own 2 (.disp .nil)) (.cons (.for' (.nm 3) (.seq (.call i_fitting_of (.cons (.var 0) .nil))) (.cons (.asg (.nm 4) (.call i_rate_of (.cons (.var 3) (.cons (.var 1) .nil)))) (.cons (.asg (.nm 5) (.lm (.comp (.var 6) (.tp (.cons (.nm 6) (.cons (.nm 7) .nil))) [6, 7] (.ownE 2) (.so (.bin .eq (.ix (.var 7) (.cst (.int 0))) (.var 4)))))) (.cons (.iff (.bin .eq (.var 5) (.lm (.disp .nil))) (.cons (.app 2 (.tup (.cons (.var 4) (.cons (.cst (.int 1)) .nil)))) .nil) (.cons (.set 2 (.ix (.var 5) (.cst (.int 0))) (.tup (.cons (.var 4) (.cons (.bin .add (.ix (.oix 2 (.ix (.var 5) (.cst (.int 0)))) (.cst (.int 1))) (.cst (.int 1))) .nil)))) .nil)) .nil)))) (.cons (.asg (.nm 8) (.lm (.disp .nil))) (.cons (.frz 2 (.for' (.nm 7) (.seq (.var 2)) (.cons (.asg (.nm 9) (.lm (.comp (.var 10) (.nm 10) [10] (.seq (.var 8)) (.so (.bin .lt (.bin .mul (.ix (.ix (.var 10) (.cst (.int 0))) (.cst (.int 0))) (.ix (.ix (.var 7) (.cst (.int 0))) (.cst (.int 1)))) (.bin .mul (.ix (.ix (.var 7) (.cst (.int 0))) (.cst (.int 0))) (.ix (.ix (.var 10) (.cst (.int 0))) (.cst (.int 1))))))))) (.cons (.asg (.nm 8) (.bin .add (.bin .add (.var 9) (.lm (.disp (.cons (.var 7) .nil)))) (.sl (.var 8) (.so (.pri 0 (.cons (.var 9) .nil))) .no))) .nil)))) (.cons (.ret (.var 8)) .nil)))))
def b_rates_for (i_counts_of i_check_amounts i_check_trials : Nat) : Ss := (.cons (.exp (.call i_check_trials (.cons (.var 0) .nil))) (.cons (.exp (.call i_check_amounts (.cons (.var 1) (.cons (.pri 0 (.cons (.ix (.ix (.var 0) (.cst (.int 0))) (.cst (.int 0))) .nil)) .nil)))) (.cons (.ret (.call i_counts_of (.cons (.var 0) (.cons (.var 1) .nil)))) .nil)))
def b_tells_all (i_counts_of i_check_amounts i_check_trials : Nat) : Ss := (.cons (.exp (.call i_check_trials (.cons (.var 0) .nil))) (.cons (.exp (.call i_check_amounts (.cons (.var 1) (.cons (.pri 0 (.cons (.ix (.ix (.var 0) (.cst (.int 0))) (.cst (.int 0))) .nil)) .nil)))) (.cons (.ret (.pri 2 (.cons (.lm (.comp (.bin .eq (.var 3) (.cst (.int 1))) (.tp (.cons (.nm 2) (.cons (.nm 3) .nil))) [2, 3] (.seq (.call i_counts_of (.cons (.var 0) (.cons (.var 1) .nil)))) .no)) .nil))) .nil)))
def b_tells_nothing (i_counts_of i_check_amounts i_check_trials : Nat) : Ss := (.cons (.exp (.call i_check_trials (.cons (.var 0) .nil))) (.cons (.exp (.call i_check_amounts (.cons (.var 1) (.cons (.pri 0 (.cons (.ix (.ix (.var 0) (.cst (.int 0))) (.cst (.int 0))) .nil)) .nil)))) (.cons (.ret (.bin .le (.pri 0 (.cons (.call i_counts_of (.cons (.var 0) (.cons (.var 1) .nil))) .nil)) (.cst (.int 1)))) .nil)))
def b_worst_left (i_counts_of i_check_amounts i_check_trials : Nat) : Ss := (.cons (.exp (.call i_check_trials (.cons (.var 0) .nil))) (.cons (.exp (.call i_check_amounts (.cons (.var 1) (.cons (.pri 0 (.cons (.ix (.ix (.var 0) (.cst (.int 0))) (.cst (.int 0))) .nil)) .nil)))) (.cons (.ret (.pri 4 (.cons (.bin .add (.lm (.disp (.cons (.cst (.int 0)) .nil))) (.lm (.comp (.var 3) (.tp (.cons (.nm 2) (.cons (.nm 3) .nil))) [2, 3] (.seq (.call i_counts_of (.cons (.var 0) (.cons (.var 1) .nil)))) .no))) .nil))) .nil)))
def b_best_amounts (i_counts_of i_check_amounts i_check_trials : Nat) : Ss := (.cons (.exp (.call i_check_trials (.cons (.var 0) .nil))) (.cons (.iff (.or (.not (.isi (.var 1) "list")) (.bin .eq (.var 1) (.lm (.disp .nil)))) (.cons (.rais 2) .nil) .nil) (.cons (.for' (.nm 2) (.seq (.var 1)) (.cons (.exp (.call i_check_amounts (.cons (.var 2) (.cons (.pri 0 (.cons (.ix (.ix (.var 0) (.cst (.int 0))) (.cst (.int 0))) .nil)) .nil)))) .nil)) (.cons (.asg (.nm 3) (.lm (.comp (.pri 4 (.cons (.bin .add (.lm (.disp (.cons (.cst (.int 0)) .nil))) (.lm (.comp (.var 5) (.tp (.cons (.nm 4) (.cons (.nm 5) .nil))) [4, 5] (.seq (.call i_counts_of (.cons (.var 0) (.cons (.var 2) .nil)))) .no))) .nil)) (.nm 2) [2] (.seq (.var 1)) .no))) (.cons (.ret (.bmt 1 (.var 3) (.cons (.pri 5 (.cons (.var 3) .nil)) .nil))) .nil)))))
def b_same_rates (i_rate_of i_check_trials i_check_rule : Nat) : Ss := (.cons (.exp (.call i_check_rule (.cons (.var 0) .nil))) (.cons (.exp (.call i_check_rule (.cons (.var 1) .nil))) (.cons (.exp (.call i_check_trials (.cons (.var 2) .nil))) (.cons (.asg (.nm 3) (.pri 0 (.cons (.ix (.ix (.var 2) (.cst (.int 0))) (.cst (.int 0))) .nil))) (.cons (.iff (.or (.bin .ne (.pri 0 (.cons (.ix (.var 0) (.cst (.int 1))) .nil)) (.var 3)) (.bin .ne (.pri 0 (.cons (.ix (.var 1) (.cst (.int 1))) .nil)) (.var 3))) (.cons (.rais 2) .nil) .nil) (.cons (.ret (.lm (.comp (.var 4) (.tp (.cons (.nm 4) (.cons (.tp (.cons (.nm 5) (.cons (.nm 6) .nil))) .nil))) [4, 5, 6] (.enm (.cons (.var 2) .nil)) (.so (.bin .eq (.call i_rate_of (.cons (.var 0) (.cons (.var 5) .nil))) (.call i_rate_of (.cons (.var 1) (.cons (.var 5) .nil)))))))) .nil))))))
def b__law_less : Ss := (.cons (.ret (.bin .lt (.bin .mul (.ix (.var 0) (.cst (.int 0))) (.ix (.var 1) (.cst (.int 1)))) (.bin .mul (.ix (.var 1) (.cst (.int 0))) (.ix (.var 0) (.cst (.int 1)))))) .nil)
def b_less : Ss := (.cons (.ret (.bin .lt (.bin .mul (.ix (.var 0) (.cst (.int 0))) (.ix (.var 1) (.cst (.int 1)))) (.bin .mul (.ix (.var 1) (.cst (.int 0))) (.ix (.var 0) (.cst (.int 1)))))) .nil)
def b_root_of : Ss := (.cons (.asg (.tp (.cons (.nm 2) (.cons (.nm 3) .nil))) (.tup (.cons (.cst (.int 1)) (.cons (.var 0) .nil)))) (.cons (.whl (muD 2 3) (.bin .lt (.var 2) (.var 3)) (.cons (.asg (.nm 4) (.bin .fdiv (.bin .add (.var 2) (.var 3)) (.cst (.int 2)))) (.cons (.asg (.nm 5) (.cst (.int 1))) (.cons (.for' (.nm 6) (.rng (.cons (.var 1) .nil)) (.cons (.imul 5 (.var 4)) .nil)) (.cons (.iff (.bin .lt (.var 5) (.var 0)) (.cons (.asg (.nm 2) (.bin .add (.var 4) (.cst (.int 1)))) .nil) (.cons (.asg (.nm 3) (.var 4)) .nil)) .nil))))) (.cons (.asg (.nm 5) (.cst (.int 1))) (.cons (.for' (.nm 6) (.rng (.cons (.var 1) .nil)) (.cons (.imul 5 (.var 2)) .nil)) (.cons (.ret (.ite (.bin .eq (.var 5) (.var 0)) (.var 2) (.cst .non))) .nil)))))
def b_amount_for (i_root_of i_quotient i_rate_of i_check_amount i_check_quantity i_check_amounts i_check_rule : Nat) : Ss := (.cons (.exp (.call i_check_rule (.cons (.var 0) .nil))) (.cons (.exp (.call i_check_amounts (.cons (.var 1) (.cons (.pri 0 (.cons (.ix (.var 0) (.cst (.int 1))) .nil)) .nil)))) (.cons (.exp (.call i_check_quantity (.cons (.pri 0 (.cons (.ix (.var 0) (.cst (.int 1))) .nil)) (.cons (.var 2) .nil)))) (.cons (.exp (.call i_check_amount (.cons (.var 3) .nil))) (.cons (.asg (.nm 4) (.ix (.ix (.var 0) (.cst (.int 1))) (.var 2))) (.cons (.iff (.bin .eq (.var 4) (.cst (.int 0))) (.cons (.rais 5) .nil) .nil) (.cons (.own 5 (.of (.cons (.var 1) .nil))) (.cons (.set 5 (.var 2) (.tup (.cons (.cst (.int 1)) (.cons (.cst (.int 1)) .nil)))) (.cons (.frz 5 (.asg (.nm 6) (.call i_quotient (.cons (.var 3) (.cons (.call i_rate_of (.cons (.var 0) (.cons (.var 5) .nil))) .nil))))) (.cons (.iff (.bin .lt (.var 4) (.cst (.int 0))) (.cons (.asg (.nm 6) (.tup (.cons (.ix (.var 6) (.cst (.int 1))) (.cons (.ix (.var 6) (.cst (.int 0))) .nil)))) .nil) .nil) (.cons (.asg (.tp (.cons (.nm 7) (.cons (.nm 8) .nil))) (.tup (.cons (.call i_root_of (.cons (.ix (.var 6) (.cst (.int 0))) (.cons (.pri 1 (.cons (.var 4) .nil)) .nil))) (.cons (.call i_root_of (.cons (.ix (.var 6) (.cst (.int 1))) (.cons (.pri 1 (.cons (.var 4) .nil)) .nil))) .nil)))) (.cons (.iff (.or (.bin .is (.var 7) (.cst .non)) (.bin .is (.var 8) (.cst .non))) (.cons (.rais 5) .nil) .nil) (.cons (.ret (.tup (.cons (.var 7) (.cons (.var 8) .nil)))) .nil)))))))))))))
def b_is_faster (i_less i_rate_of i_check_amounts i_check_rule : Nat) : Ss := (.cons (.exp (.call i_check_rule (.cons (.var 0) .nil))) (.cons (.exp (.call i_check_amounts (.cons (.var 1) (.cons (.pri 0 (.cons (.ix (.var 0) (.cst (.int 1))) .nil)) .nil)))) (.cons (.exp (.call i_check_amounts (.cons (.var 2) (.cons (.pri 0 (.cons (.ix (.var 0) (.cst (.int 1))) .nil)) .nil)))) (.cons (.ret (.call i_less (.cons (.call i_rate_of (.cons (.var 0) (.cons (.var 2) .nil))) (.cons (.call i_rate_of (.cons (.var 0) (.cons (.var 1) .nil))) .nil)))) .nil))))
def b_order_of_rates (i_less i_rate_of i_check_amounts i_check_rule : Nat) : Ss := (.cons (.exp (.call i_check_rule (.cons (.var 0) .nil))) (.cons (.iff (.not (.isi (.var 1) "list")) (.cons (.rais 2) .nil) .nil) (.cons (.for' (.nm 2) (.seq (.var 1)) (.cons (.exp (.call i_check_amounts (.cons (.var 2) (.cons (.pri 0 (.cons (.ix (.var 0) (.cst (.int 1))) .nil)) .nil)))) .nil)) (.cons (.asg (.nm 3) (.lm (.disp .nil))) (.cons (.for' (.tp (.cons (.nm 4) (.cons (.nm 2) .nil))) (.enm (.cons (.var 1) .nil)) (.cons (.asg (.nm 5) (.call i_rate_of (.cons (.var 0) (.cons (.var 2) .nil)))) (.cons (.asg (.nm 6) (.pri 0 (.cons (.lm (.comp (.var 7) (.nm 7) [7] (.seq (.var 3)) (.so (.not (.call i_less (.cons (.var 5) (.cons (.call i_rate_of (.cons (.var 0) (.cons (.ix (.var 1) (.var 7)) .nil))) .nil))))))) .nil))) (.cons (.asg (.nm 3) (.bin .add (.bin .add (.sl (.var 3) .no (.so (.var 6))) (.lm (.disp (.cons (.var 4) .nil)))) (.sl (.var 3) (.so (.var 6)) .no))) .nil)))) (.cons (.ret (.var 3)) .nil))))))
def b_crossing (i_root_of i_quotient i_rate_of i_check_quantity i_check_amounts i_check_rule : Nat) : Ss := (.cons (.exp (.call i_check_rule (.cons (.var 0) .nil))) (.cons (.exp (.call i_check_rule (.cons (.var 1) .nil))) (.cons (.exp (.call i_check_amounts (.cons (.var 2) (.cons (.pri 0 (.cons (.ix (.var 0) (.cst (.int 1))) .nil)) .nil)))) (.cons (.exp (.call i_check_amounts (.cons (.var 2) (.cons (.pri 0 (.cons (.ix (.var 1) (.cst (.int 1))) .nil)) .nil)))) (.cons (.exp (.call i_check_quantity (.cons (.pri 0 (.cons (.ix (.var 0) (.cst (.int 1))) .nil)) (.cons (.var 3) .nil)))) (.cons (.asg (.nm 4) (.bin .sub (.ix (.ix (.var 0) (.cst (.int 1))) (.var 3)) (.ix (.ix (.var 1) (.cst (.int 1))) (.var 3)))) (.cons (.iff (.bin .eq (.var 4) (.cst (.int 0))) (.cons (.rais 5) .nil) .nil) (.cons (.own 5 (.of (.cons (.var 2) .nil))) (.cons (.set 5 (.var 3) (.tup (.cons (.cst (.int 1)) (.cons (.cst (.int 1)) .nil)))) (.cons (.frz 5 (.asg (.nm 6) (.call i_quotient (.cons (.call i_rate_of (.cons (.var 1) (.cons (.var 5) .nil))) (.cons (.call i_rate_of (.cons (.var 0) (.cons (.var 5) .nil))) .nil))))) (.cons (.iff (.bin .lt (.var 4) (.cst (.int 0))) (.cons (.asg (.nm 6) (.tup (.cons (.ix (.var 6) (.cst (.int 1))) (.cons (.ix (.var 6) (.cst (.int 0))) .nil)))) .nil) .nil) (.cons (.asg (.tp (.cons (.nm 7) (.cons (.nm 8) .nil))) (.tup (.cons (.call i_root_of (.cons (.ix (.var 6) (.cst (.int 0))) (.cons (.pri 1 (.cons (.var 4) .nil)) .nil))) (.cons (.call i_root_of (.cons (.ix (.var 6) (.cst (.int 1))) (.cons (.pri 1 (.cons (.var 4) .nil)) .nil))) .nil)))) (.cons (.iff (.or (.bin .is (.var 7) (.cst .non)) (.bin .is (.var 8) (.cst .non))) (.cons (.rais 5) .nil) .nil) (.cons (.ret (.tup (.cons (.var 7) (.cons (.var 8) .nil)))) .nil))))))))))))))
def b__law_put : Ss := (.cons (.ret (.bin .add (.bin .add (.sl (.var 0) .no (.so (.var 1))) (.lm (.disp (.cons (.var 2) .nil)))) (.sl (.var 0) (.so (.bin .add (.var 1) (.cst (.int 1)))) .no))) .nil)
def b__law_ordered (i_is_faster i__law_true i__law_less i__law_rate i__law_amount i_order_of_rates i__law_draw : Nat) : Ss := (.cons (.asg (.nm 4) (.lm (.comp (.lm (.comp (.call i__law_amount (.cons (.var 0) .nil)) (.nm 5) [5] (.rng (.cons (.var 3) .nil)) .no)) (.nm 6) [6] (.rng (.cons (.call i__law_draw (.cons (.var 0) (.cons (.cst (.int 6)) .nil))) .nil)) .no))) (.cons (.asg (.nm 7) (.lm (.comp (.call i__law_rate (.cons (.var 1) (.cons (.var 8) .nil))) (.nm 8) [8] (.seq (.var 4)) .no))) (.cons (.own 9 (.disp .nil)) (.cons (.for' (.nm 5) (.rng (.cons (.pri 0 (.cons (.var 4) .nil)) .nil)) (.cons (.app 9 (.pri 0 (.cons (.lm (.comp (.var 6) (.nm 6) [6] (.rng (.cons (.pri 0 (.cons (.var 4) .nil)) .nil)) (.so (.or (.call i__law_less (.cons (.ix (.var 7) (.var 6)) (.cons (.ix (.var 7) (.var 5)) .nil))) (.and (.bin .eq (.ix (.var 7) (.var 6)) (.ix (.var 7) (.var 5))) (.bin .lt (.var 6) (.var 5))))))) .nil))) .nil)) (.cons (.asg (.nm 10) (.call i_order_of_rates (.cons (.var 1) (.cons (.var 4) .nil)))) (.cons (.iff (.or (.bin .ne (.pri 7 (.cons (.var 10) .nil)) (.lm (.lrg (.pri 0 (.cons (.var 4) .nil))))) (.bin .ne (.lm (.comp (.oix 9 (.var 5)) (.nm 5) [5] (.seq (.var 10)) .no)) (.lm (.lrg (.pri 0 (.cons (.var 4) .nil)))))) (.cons (.ret (.cst (.bl false))) .nil) .nil) (.cons (.asg (.nm 11) (.lm (.comp (.call i__law_amount (.cons (.var 0) .nil)) (.nm 5) [5] (.rng (.cons (.var 3) .nil)) .no))) (.cons (.ret (.and (.call i__law_true (.cons (.call i_is_faster (.cons (.var 1) (.cons (.var 2) (.cons (.var 11) .nil)))) (.cons (.call i__law_less (.cons (.call i__law_rate (.cons (.var 1) (.cons (.var 11) .nil))) (.cons (.call i__law_rate (.cons (.var 1) (.cons (.var 2) .nil))) .nil))) .nil))) (.bin .is (.call i_is_faster (.cons (.var 1) (.cons (.var 11) (.cons (.var 11) .nil)))) (.cst (.bl false))))) .nil))))))))
def b_checked (i_is_rule : Nat) : Ss := (.cons (.iff (.not (.call i_is_rule (.cons (.var 0) .nil))) (.cons (.rais 0) .nil) .nil) (.cons (.ret (.var 0)) .nil))
def b_in_units (i_quotient i_product i_power i_check_amount i_check_amounts i_check_rule : Nat) : Ss := (.cons (.exp (.call i_check_rule (.cons (.var 0) .nil))) (.cons (.exp (.call i_check_amounts (.cons (.var 1) (.cons (.pri 0 (.cons (.ix (.var 0) (.cst (.int 1))) .nil)) .nil)))) (.cons (.exp (.call i_check_amount (.cons (.var 2) .nil))) (.cons (.asg (.nm 3) (.ix (.var 0) (.cst (.int 0)))) (.cons (.for' (.tp (.cons (.nm 4) (.cons (.nm 5) .nil))) (.zip (.cons (.ix (.var 0) (.cst (.int 1))) (.cons (.var 1) .nil))) (.cons (.asg (.nm 3) (.call i_product (.cons (.var 3) (.cons (.call i_power (.cons (.var 5) (.cons (.var 4) .nil))) .nil)))) .nil)) (.cons (.ret (.tup (.cons (.call i_quotient (.cons (.var 3) (.cons (.var 2) .nil))) (.cons (.lm (.of (.cons (.ix (.var 0) (.cst (.int 1))) .nil))) .nil)))) .nil))))))
def b_scaled (i_product i_check_amount i_check_rule : Nat) : Ss := (.cons (.exp (.call i_check_rule (.cons (.var 0) .nil))) (.cons (.exp (.call i_check_amount (.cons (.var 1) .nil))) (.cons (.ret (.tup (.cons (.call i_product (.cons (.ix (.var 0) (.cst (.int 0))) (.cons (.var 1) .nil))) (.cons (.lm (.of (.cons (.ix (.var 0) (.cst (.int 1))) .nil))) .nil)))) .nil)))
def b_multiplied (i_checked i_product i_check_rule : Nat) : Ss := (.cons (.exp (.call i_check_rule (.cons (.var 0) .nil))) (.cons (.exp (.call i_check_rule (.cons (.var 1) .nil))) (.cons (.iff (.bin .ne (.pri 0 (.cons (.ix (.var 0) (.cst (.int 1))) .nil)) (.pri 0 (.cons (.ix (.var 1) (.cst (.int 1))) .nil))) (.cons (.rais 0) .nil) .nil) (.cons (.ret (.call i_checked (.cons (.tup (.cons (.call i_product (.cons (.ix (.var 0) (.cst (.int 0))) (.cons (.ix (.var 1) (.cst (.int 0))) .nil))) (.cons (.lm (.comp (.bin .add (.var 2) (.var 3)) (.tp (.cons (.nm 2) (.cons (.nm 3) .nil))) [2, 3] (.zip (.cons (.ix (.var 0) (.cst (.int 1))) (.cons (.ix (.var 1) (.cst (.int 1))) .nil))) .no)) .nil))) .nil))) .nil))))
def b_turned_over (i_check_rule : Nat) : Ss := (.cons (.exp (.call i_check_rule (.cons (.var 0) .nil))) (.cons (.ret (.tup (.cons (.tup (.cons (.ix (.ix (.var 0) (.cst (.int 0))) (.cst (.int 1))) (.cons (.ix (.ix (.var 0) (.cst (.int 0))) (.cst (.int 0))) .nil))) (.cons (.lm (.comp (.neg (.var 1)) (.nm 1) [1] (.seq (.ix (.var 0) (.cst (.int 1)))) .no)) .nil)))) .nil))
def b_with_fixed (i_product i_power i_check_amount i_check_quantity i_check_rule : Nat) : Ss := (.cons (.exp (.call i_check_rule (.cons (.var 0) .nil))) (.cons (.exp (.call i_check_quantity (.cons (.pri 0 (.cons (.ix (.var 0) (.cst (.int 1))) .nil)) (.cons (.var 1) .nil)))) (.cons (.exp (.call i_check_amount (.cons (.var 2) .nil))) (.cons (.iff (.bin .eq (.pri 0 (.cons (.ix (.var 0) (.cst (.int 1))) .nil)) (.cst (.int 1))) (.cons (.rais 0) .nil) .nil) (.cons (.ret (.tup (.cons (.call i_product (.cons (.ix (.var 0) (.cst (.int 0))) (.cons (.call i_power (.cons (.var 2) (.cons (.ix (.ix (.var 0) (.cst (.int 1))) (.var 1)) .nil))) .nil))) (.cons (.bin .add (.sl (.ix (.var 0) (.cst (.int 1))) .no (.so (.var 1))) (.sl (.ix (.var 0) (.cst (.int 1))) (.so (.bin .add (.var 1) (.cst (.int 1)))) .no)) .nil)))) .nil)))))
def b_without_power (i_check_quantity i_check_rule : Nat) : Ss := (.cons (.exp (.call i_check_rule (.cons (.var 0) .nil))) (.cons (.exp (.call i_check_quantity (.cons (.pri 0 (.cons (.ix (.var 0) (.cst (.int 1))) .nil)) (.cons (.var 1) .nil)))) (.cons (.ret (.tup (.cons (.ix (.var 0) (.cst (.int 0))) (.cons (.bin .add (.bin .add (.sl (.ix (.var 0) (.cst (.int 1))) .no (.so (.var 1))) (.lm (.disp (.cons (.cst (.int 0)) .nil)))) (.sl (.ix (.var 0) (.cst (.int 1))) (.so (.bin .add (.var 1) (.cst (.int 1)))) .no)) .nil)))) .nil)))
def b_swapped (i_check_quantity i_check_rule : Nat) : Ss := (.cons (.exp (.call i_check_rule (.cons (.var 0) .nil))) (.cons (.exp (.call i_check_quantity (.cons (.pri 0 (.cons (.ix (.var 0) (.cst (.int 1))) .nil)) (.cons (.var 1) .nil)))) (.cons (.exp (.call i_check_quantity (.cons (.pri 0 (.cons (.ix (.var 0) (.cst (.int 1))) .nil)) (.cons (.var 2) .nil)))) (.cons (.own 3 (.of (.cons (.ix (.var 0) (.cst (.int 1))) .nil))) (.cons (.set2 3 (.var 1) (.var 2) (.tup (.cons (.oix 3 (.var 2)) (.cons (.oix 3 (.var 1)) .nil)))) (.cons (.frz 3 (.ret (.tup (.cons (.ix (.var 0) (.cst (.int 0))) (.cons (.var 3) .nil))))) .nil))))))
def b__law_times (i__law_low : Nat) : Ss := (.cons (.ret (.call i__law_low (.cons (.bin .mul (.ix (.var 0) (.cst (.int 0))) (.ix (.var 1) (.cst (.int 0)))) (.cons (.bin .mul (.ix (.var 0) (.cst (.int 1))) (.ix (.var 1) (.cst (.int 1)))) .nil)))) .nil)
def b__law_turned (i_swapped i_turned_over i_rate i__law_rate i_without_power i__law_call i__law_draw i__law_times : Nat) : Ss := (.cons (.asg (.nm 4) (.call i_turned_over (.cons (.var 1) .nil))) (.cons (.iff (.or (.bin .ne (.var 4) (.tup (.cons (.tup (.cons (.ix (.ix (.var 1) (.cst (.int 0))) (.cst (.int 1))) (.cons (.ix (.ix (.var 1) (.cst (.int 0))) (.cst (.int 0))) .nil))) (.cons (.lm (.comp (.bin .sub (.cst (.int 0)) (.var 5)) (.nm 5) [5] (.seq (.ix (.var 1) (.cst (.int 1)))) .no)) .nil)))) (.bin .ne (.call i__law_times (.cons (.call i_rate (.cons (.var 4) (.cons (.var 2) .nil))) (.cons (.call i__law_rate (.cons (.var 1) (.cons (.var 2) .nil))) .nil))) (.tup (.cons (.cst (.int 1)) (.cons (.cst (.int 1)) .nil))))) (.cons (.ret (.cst (.bl false))) .nil) .nil) (.cons (.asg (.tp (.cons (.nm 6) (.cons (.nm 7) .nil))) (.tup (.cons (.call i__law_draw (.cons (.var 0) (.cons (.var 3) .nil))) (.cons (.call i__law_draw (.cons (.var 0) (.cons (.var 3) .nil))) .nil)))) (.cons (.asg (.nm 8) (.call i__law_call (.cons (.cst (.int 1)) (.cons (.var 1) (.cons (.var 6) (.cons (.ix (.var 2) (.var 6)) .nil)))))) (.cons (.iff (.bin .eq (.var 3) (.cst (.int 1))) (.cons (.iff (.bin .ne (.var 8) (.cst (.str "rule"))) (.cons (.ret (.cst (.bl false))) .nil) .nil) .nil) (.cons (.iff (.bin .ne (.call i_rate (.cons (.var 8) (.cons (.bin .add (.sl (.var 2) .no (.so (.var 6))) (.sl (.var 2) (.so (.bin .add (.var 6) (.cst (.int 1)))) .no)) .nil))) (.call i__law_rate (.cons (.var 1) (.cons (.var 2) .nil)))) (.cons (.ret (.cst (.bl false))) .nil) .nil) .nil)) (.cons (.iff (.bin .ne (.call i_without_power (.cons (.var 1) (.cons (.var 6) .nil))) (.tup (.cons (.ix (.var 1) (.cst (.int 0))) (.cons (.bin .add (.bin .add (.sl (.ix (.var 1) (.cst (.int 1))) .no (.so (.var 6))) (.lm (.disp (.cons (.cst (.int 0)) .nil)))) (.sl (.ix (.var 1) (.cst (.int 1))) (.so (.bin .add (.var 6) (.cst (.int 1)))) .no)) .nil)))) (.cons (.ret (.cst (.bl false))) .nil) .nil) (.cons (.own 9 (.of (.cons (.var 2) .nil))) (.cons (.set2 9 (.var 6) (.var 7) (.tup (.cons (.ix (.var 2) (.var 7)) (.cons (.ix (.var 2) (.var 6)) .nil)))) (.cons (.frz 9 (.ret (.and (.bin .eq (.call i_rate (.cons (.call i_swapped (.cons (.var 1) (.cons (.var 6) (.cons (.var 7) .nil)))) (.cons (.var 9) .nil))) (.call i__law_rate (.cons (.var 1) (.cons (.var 2) .nil)))) (.and (.bin .eq (.call i_turned_over (.cons (.var 4) .nil)) (.var 1)) (.bin .eq (.call i_swapped (.cons (.var 1) (.cons (.var 7) (.cons (.var 7) .nil)))) (.var 1)))))) .nil)))))))))
def b_format_rule (i_text_of i_check_rule : Nat) : Ss := (.cons (.exp (.call i_check_rule (.cons (.var 0) .nil))) (.cons (.ret (.call i_text_of (.cons (.var 0) .nil))) .nil))
def b__law_parsed (i__law_error i_parse_rule : Nat) : Ss := (.cons (.asg (.nm 1) (.cst .non)) (.cons (.asg (.nm 2) (.cst .non)) (.cons (.tryK (.cons (.asg (.nm 1) (.call i_parse_rule (.cons (.var 0) .nil))) .nil) 3 2 0) (.cons (.ret (.ite (.bin .is (.var 2) (.cst .non)) (.var 1) (.call i__law_error (.cons (.var 2) .nil)))) .nil))))
def b__law_plain (i_crossing i_same_rates i_first_miss i_fits i_multiplied i_scaled i_format_rule i_turned_over i_unit_power i_order : Nat) : Ss := (.cons (.iff (.bin .eq (.var 0) (.cst (.int 13))) (.cons (.ret (.call i_order (.cons (.var 1) .nil))) .nil) .nil) (.cons (.iff (.bin .eq (.var 0) (.cst (.int 14))) (.cons (.ret (.call i_unit_power (.cons (.var 1) .nil))) .nil) .nil) (.cons (.iff (.bin .eq (.var 0) (.cst (.int 15))) (.cons (.ret (.call i_turned_over (.cons (.var 1) .nil))) .nil) .nil) (.cons (.iff (.bin .eq (.var 0) (.cst (.int 16))) (.cons (.ret (.call i_format_rule (.cons (.var 1) .nil))) .nil) .nil) (.cons (.iff (.bin .eq (.var 0) (.cst (.int 17))) (.cons (.ret (.call i_scaled (.cons (.var 1) (.cons (.tup (.cons (.cst (.int 1)) (.cons (.cst (.int 1)) .nil))) .nil)))) .nil) .nil) (.cons (.iff (.bin .eq (.var 0) (.cst (.int 18))) (.cons (.ret (.call i_multiplied (.cons (.var 1) (.cons (.tup (.cons (.tup (.cons (.cst (.int 1)) (.cons (.cst (.int 1)) .nil))) (.cons (.lm (.disp (.cons (.cst (.int 0)) (.cons (.cst (.int 0)) .nil)))) .nil))) .nil)))) .nil) .nil) (.cons (.iff (.bin .eq (.var 0) (.cst (.int 19))) (.cons (.ret (.call i_multiplied (.cons (.tup (.cons (.tup (.cons (.cst (.int 1)) (.cons (.cst (.int 1)) .nil))) (.cons (.lm (.disp (.cons (.cst (.int 0)) (.cons (.cst (.int 0)) .nil)))) .nil))) (.cons (.var 1) .nil)))) .nil) .nil) (.cons (.iff (.bin .eq (.var 0) (.cst (.int 20))) (.cons (.ret (.call i_fits (.cons (.var 1) (.cons (.lm (.disp (.cons (.tup (.cons (.bin .mul (.lm (.disp (.cons (.tup (.cons (.cst (.int 1)) (.cons (.cst (.int 1)) .nil))) .nil))) (.cst (.int 2))) (.cons (.tup (.cons (.cst (.int 1)) (.cons (.cst (.int 1)) .nil))) .nil))) .nil))) .nil)))) .nil) .nil) (.cons (.iff (.bin .eq (.var 0) (.cst (.int 21))) (.cons (.ret (.call i_first_miss (.cons (.var 1) (.cons (.lm (.disp (.cons (.tup (.cons (.bin .mul (.lm (.disp (.cons (.tup (.cons (.cst (.int 1)) (.cons (.cst (.int 1)) .nil))) .nil))) (.cst (.int 2))) (.cons (.tup (.cons (.cst (.int 1)) (.cons (.cst (.int 1)) .nil))) .nil))) .nil))) .nil)))) .nil) .nil) (.cons (.iff (.bin .eq (.var 0) (.cst (.int 22))) (.cons (.ret (.call i_same_rates (.cons (.var 1) (.cons (.tup (.cons (.tup (.cons (.cst (.int 1)) (.cons (.cst (.int 1)) .nil))) (.cons (.lm (.disp (.cons (.cst (.int 0)) (.cons (.cst (.int 0)) .nil)))) .nil))) (.cons (.lm (.disp (.cons (.tup (.cons (.bin .mul (.lm (.disp (.cons (.tup (.cons (.cst (.int 1)) (.cons (.cst (.int 1)) .nil))) .nil))) (.cst (.int 2))) (.cons (.tup (.cons (.cst (.int 1)) (.cons (.cst (.int 1)) .nil))) .nil))) .nil))) .nil))))) .nil) .nil) (.cons (.iff (.bin .eq (.var 0) (.cst (.int 23))) (.cons (.ret (.call i_same_rates (.cons (.tup (.cons (.tup (.cons (.cst (.int 1)) (.cons (.cst (.int 1)) .nil))) (.cons (.lm (.disp (.cons (.cst (.int 0)) (.cons (.cst (.int 0)) .nil)))) .nil))) (.cons (.var 1) (.cons (.lm (.disp (.cons (.tup (.cons (.bin .mul (.lm (.disp (.cons (.tup (.cons (.cst (.int 1)) (.cons (.cst (.int 1)) .nil))) .nil))) (.cst (.int 2))) (.cons (.tup (.cons (.cst (.int 1)) (.cons (.cst (.int 1)) .nil))) .nil))) .nil))) .nil))))) .nil) .nil) (.cons (.ret (.call i_crossing (.cons (.tup (.cons (.tup (.cons (.cst (.int 1)) (.cons (.cst (.int 1)) .nil))) (.cons (.lm (.disp (.cons (.cst (.int 1)) (.cons (.cst (.int 1)) .nil)))) .nil))) (.cons (.var 1) (.cons (.bin .mul (.lm (.disp (.cons (.tup (.cons (.cst (.int 1)) (.cons (.cst (.int 1)) .nil))) .nil))) (.cst (.int 2))) (.cons (.cst (.int 0)) .nil)))))) .nil))))))))))))
def b__law_on_law (i__law_plain i_swapped i_without_power i_with_fixed i_growth i_crossing i_amount_for i_order_of_rates i_is_faster i_in_units i_trial i_rate : Nat) : Ss := (.cons (.iff (.bin .eq (.var 0) (.cst (.int 0))) (.cons (.ret (.call i_rate (.cons (.var 1) (.cons (.var 2) .nil)))) .nil) .nil) (.cons (.iff (.bin .eq (.var 0) (.cst (.int 1))) (.cons (.ret (.call i_trial (.cons (.var 1) (.cons (.var 2) .nil)))) .nil) .nil) (.cons (.iff (.bin .eq (.var 0) (.cst (.int 2))) (.cons (.ret (.call i_in_units (.cons (.var 1) (.cons (.var 2) (.cons (.tup (.cons (.cst (.int 1)) (.cons (.cst (.int 1)) .nil))) .nil))))) .nil) .nil) (.cons (.iff (.bin .eq (.var 0) (.cst (.int 3))) (.cons (.ret (.call i_is_faster (.cons (.var 1) (.cons (.var 2) (.cons (.bin .mul (.lm (.disp (.cons (.tup (.cons (.cst (.int 1)) (.cons (.cst (.int 1)) .nil))) .nil))) (.cst (.int 2))) .nil))))) .nil) .nil) (.cons (.iff (.bin .eq (.var 0) (.cst (.int 4))) (.cons (.ret (.call i_is_faster (.cons (.var 1) (.cons (.bin .mul (.lm (.disp (.cons (.tup (.cons (.cst (.int 1)) (.cons (.cst (.int 1)) .nil))) .nil))) (.cst (.int 2))) (.cons (.var 2) .nil))))) .nil) .nil) (.cons (.iff (.bin .eq (.var 0) (.cst (.int 5))) (.cons (.ret (.call i_order_of_rates (.cons (.var 1) (.cons (.lm (.disp (.cons (.bin .mul (.lm (.disp (.cons (.tup (.cons (.cst (.int 1)) (.cons (.cst (.int 1)) .nil))) .nil))) (.cst (.int 2))) (.cons (.var 2) .nil)))) .nil)))) .nil) .nil) (.cons (.iff (.bin .eq (.var 0) (.cst (.int 6))) (.cons (.ret (.call i_amount_for (.cons (.var 1) (.cons (.var 2) (.cons (.var 3) (.cons (.tup (.cons (.cst (.int 1)) (.cons (.cst (.int 1)) .nil))) .nil)))))) .nil) .nil) (.cons (.iff (.bin .eq (.var 0) (.cst (.int 7))) (.cons (.ret (.call i_crossing (.cons (.var 1) (.cons (.tup (.cons (.tup (.cons (.cst (.int 1)) (.cons (.cst (.int 1)) .nil))) (.cons (.lm (.disp (.cons (.cst (.int 0)) (.cons (.cst (.int 0)) .nil)))) .nil))) (.cons (.var 2) (.cons (.var 3) .nil)))))) .nil) .nil) (.cons (.iff (.bin .eq (.var 0) (.cst (.int 8))) (.cons (.ret (.call i_growth (.cons (.var 1) (.cons (.var 3) (.cons (.tup (.cons (.cst (.int 1)) (.cons (.cst (.int 1)) .nil))) .nil))))) .nil) .nil) (.cons (.iff (.bin .eq (.var 0) (.cst (.int 9))) (.cons (.ret (.call i_with_fixed (.cons (.var 1) (.cons (.var 3) (.cons (.tup (.cons (.cst (.int 1)) (.cons (.cst (.int 1)) .nil))) .nil))))) .nil) .nil) (.cons (.iff (.bin .eq (.var 0) (.cst (.int 10))) (.cons (.ret (.call i_without_power (.cons (.var 1) (.cons (.var 3) .nil)))) .nil) .nil) (.cons (.iff (.bin .eq (.var 0) (.cst (.int 11))) (.cons (.ret (.call i_swapped (.cons (.var 1) (.cons (.var 3) (.cons (.cst (.int 0)) .nil))))) .nil) .nil) (.cons (.iff (.bin .eq (.var 0) (.cst (.int 12))) (.cons (.ret (.call i_swapped (.cons (.var 1) (.cons (.cst (.int 0)) (.cons (.var 3) .nil))))) .nil) .nil) (.cons (.ret (.call i__law_plain (.cons (.var 0) (.cons (.var 1) .nil)))) .nil))))))))))))))
def b__law_on_trials (i_best_amounts i_same_rates i_worst_left i_tells_nothing i_tells_all i_rates_for i_agreed_power i_told_powers i_single_pairs i_powers_for i_first_miss i_fits i_contradictions i_same_amounts i_needless i_first_barred i_count_fitting i_fitting : Nat) : Ss := (.cons (.iff (.bin .eq (.var 0) (.cst (.int 0))) (.cons (.ret (.call i_fitting (.cons (.var 1) .nil))) .nil) .nil) (.cons (.iff (.bin .eq (.var 0) (.cst (.int 1))) (.cons (.ret (.call i_count_fitting (.cons (.var 1) .nil))) .nil) .nil) (.cons (.iff (.bin .eq (.var 0) (.cst (.int 2))) (.cons (.ret (.call i_first_barred (.cons (.var 1) .nil))) .nil) .nil) (.cons (.iff (.bin .eq (.var 0) (.cst (.int 3))) (.cons (.ret (.call i_needless (.cons (.var 1) .nil))) .nil) .nil) (.cons (.iff (.bin .eq (.var 0) (.cst (.int 4))) (.cons (.ret (.call i_same_amounts (.cons (.var 1) .nil))) .nil) .nil) (.cons (.iff (.bin .eq (.var 0) (.cst (.int 5))) (.cons (.ret (.call i_contradictions (.cons (.var 1) .nil))) .nil) .nil) (.cons (.iff (.bin .eq (.var 0) (.cst (.int 6))) (.cons (.ret (.call i_fits (.cons (.tup (.cons (.tup (.cons (.cst (.int 1)) (.cons (.cst (.int 1)) .nil))) (.cons (.lm (.disp (.cons (.cst (.int 0)) (.cons (.cst (.int 0)) .nil)))) .nil))) (.cons (.var 1) .nil)))) .nil) .nil) (.cons (.iff (.bin .eq (.var 0) (.cst (.int 7))) (.cons (.ret (.call i_first_miss (.cons (.tup (.cons (.tup (.cons (.cst (.int 1)) (.cons (.cst (.int 1)) .nil))) (.cons (.lm (.disp (.cons (.cst (.int 0)) (.cons (.cst (.int 0)) .nil)))) .nil))) (.cons (.var 1) .nil)))) .nil) .nil) (.cons (.iff (.bin .eq (.var 0) (.cst (.int 8))) (.cons (.ret (.call i_powers_for (.cons (.var 1) (.cons (.var 2) .nil)))) .nil) .nil) (.cons (.iff (.bin .eq (.var 0) (.cst (.int 9))) (.cons (.ret (.call i_single_pairs (.cons (.var 1) (.cons (.var 2) .nil)))) .nil) .nil) (.cons (.iff (.bin .eq (.var 0) (.cst (.int 10))) (.cons (.ret (.call i_told_powers (.cons (.var 1) (.cons (.var 2) .nil)))) .nil) .nil) (.cons (.iff (.bin .eq (.var 0) (.cst (.int 11))) (.cons (.ret (.call i_agreed_power (.cons (.var 1) (.cons (.var 2) .nil)))) .nil) .nil) (.cons (.iff (.bin .eq (.var 0) (.cst (.int 12))) (.cons (.ret (.call i_rates_for (.cons (.var 1) (.cons (.var 2) .nil)))) .nil) .nil) (.cons (.iff (.bin .eq (.var 0) (.cst (.int 13))) (.cons (.ret (.call i_tells_all (.cons (.var 1) (.cons (.var 2) .nil)))) .nil) .nil) (.cons (.iff (.bin .eq (.var 0) (.cst (.int 14))) (.cons (.ret (.call i_tells_nothing (.cons (.var 1) (.cons (.var 2) .nil)))) .nil) .nil) (.cons (.iff (.bin .eq (.var 0) (.cst (.int 15))) (.cons (.ret (.call i_worst_left (.cons (.var 1) (.cons (.var 2) .nil)))) .nil) .nil) (.cons (.ret (.ite (.bin .eq (.var 0) (.cst (.int 16))) (.call i_best_amounts (.cons (.var 1) (.cons (.lm (.disp (.cons (.bin .mul (.lm (.disp (.cons (.tup (.cons (.cst (.int 1)) (.cons (.cst (.int 1)) .nil))) .nil))) (.cst (.int 2))) (.cons (.var 2) .nil)))) .nil))) (.call i_same_rates (.cons (.tup (.cons (.tup (.cons (.cst (.int 1)) (.cons (.cst (.int 1)) .nil))) (.cons (.lm (.disp (.cons (.cst (.int 0)) (.cons (.cst (.int 0)) .nil)))) .nil))) (.cons (.tup (.cons (.tup (.cons (.cst (.int 1)) (.cons (.cst (.int 1)) .nil))) (.cons (.lm (.disp (.cons (.cst (.int 0)) (.cons (.cst (.int 0)) .nil)))) .nil))) (.cons (.var 1) .nil)))))) .nil)))))))))))))))))
def b__law_trialed (i_is_amount i_is_rule i_is_trials i__law_asked : Nat) : Ss := (.cons (.asg (.nm 1) (.lm (.disp (.cons (.tup (.cons (.var 0) (.cons (.tup (.cons (.cst (.int 1)) (.cons (.cst (.int 1)) .nil))) .nil))) (.cons (.tup (.cons (.bin .mul (.lm (.disp (.cons (.tup (.cons (.cst (.int 1)) (.cons (.cst (.int 1)) .nil))) .nil))) (.cst (.int 2))) (.cons (.tup (.cons (.cst (.int 3)) (.cons (.cst (.int 1)) .nil))) .nil))) .nil))))) (.cons (.asg (.nm 2) (.lm (.disp (.cons (.cst .non) (.cons (.cst (.int 5)) (.cons (.tup .nil) (.cons (.lm (.disp .nil)) (.cons (.bin .mul (.var 1) (.cst (.int 5))) (.cons (.pri 6 (.cons (.var 1) .nil)) (.cons (.lm (.disp (.cons (.cst .non) .nil))) (.cons (.lm (.disp (.cons (.tup (.cons (.var 0) .nil)) .nil))) (.cons (.lm (.disp (.cons (.lm (.disp (.cons (.var 0) (.cons (.tup (.cons (.cst (.int 1)) (.cons (.cst (.int 1)) .nil))) .nil)))) .nil))) (.cons (.lm (.disp (.cons (.tup (.cons (.pri 6 (.cons (.var 0) .nil)) (.cons (.tup (.cons (.cst (.int 1)) (.cons (.cst (.int 1)) .nil))) .nil))) .nil))) (.cons (.lm (.disp (.cons (.tup (.cons (.var 0) (.cons (.tup (.cons (.cst (.int 0)) (.cons (.cst (.int 1)) .nil))) .nil))) .nil))) (.cons (.lm (.disp (.cons (.tup (.cons (.var 0) (.cons (.tup (.cons (.cst (.int 2)) (.cons (.cst (.int 4)) .nil))) .nil))) .nil))) (.cons (.lm (.disp (.cons (.tup (.cons (.var 0) (.cons (.cst (.int 1)) .nil))) .nil))) (.cons (.lm (.disp (.cons (.tup (.cons (.var 0) (.cons (.tup (.cons (.cst (.int 1)) (.cons (.cst (.int 1)) .nil))) .nil))) (.cons (.tup (.cons (.lm (.disp (.cons (.tup (.cons (.cst (.int 1)) (.cons (.cst (.int 1)) .nil))) .nil))) (.cons (.tup (.cons (.cst (.int 1)) (.cons (.cst (.int 1)) .nil))) .nil))) .nil)))) (.cons (.lm (.disp (.cons (.tup (.cons (.lm (.disp .nil)) (.cons (.tup (.cons (.cst (.int 1)) (.cons (.cst (.int 1)) .nil))) .nil))) .nil))) (.cons (.lm (.disp (.cons (.tup (.cons (.bin .mul (.lm (.disp (.cons (.tup (.cons (.cst (.int 1)) (.cons (.cst (.int 1)) .nil))) .nil))) (.cst (.int 4))) (.cons (.tup (.cons (.cst (.int 1)) (.cons (.cst (.int 1)) .nil))) .nil))) .nil))) (.cons (.lm (.disp (.cons (.tup (.cons (.lm (.disp (.cons (.tup (.cons (.cst (.int 1)) (.cons (.cst (.int 1)) .nil))) (.cons (.tup (.cons (.cst (.int 0)) (.cons (.cst (.int 1)) .nil))) .nil)))) (.cons (.tup (.cons (.cst (.int 1)) (.cons (.cst (.int 1)) .nil))) .nil))) .nil))) (.cons (.lm (.disp (.cons (.tup (.cons (.var 0) (.cons (.tup (.cons (.cst (.int 1)) (.cons (.cst (.int 1)) .nil))) (.cons (.cst (.int 0)) .nil)))) .nil))) .nil))))))))))))))))))))) (.cons (.for' (.nm 3) (.seq (.var 2)) (.cons (.iff (.or (.bin .isn (.call i_is_trials (.cons (.var 3) .nil)) (.cst (.bl false))) (.bin .ne (.lm (.comp (.call i__law_asked (.cons (.cst (.int 2)) (.cons (.var 4) (.cons (.var 3) (.cons (.cst .non) (.cons (.cst (.int 0)) .nil)))))) (.nm 4) [4] (.rng (.cons (.cst (.int 18)) .nil)) .no)) (.bin .mul (.lm (.disp (.cons (.cst (.str "trials")) .nil))) (.cst (.int 18))))) (.cons (.ret (.cst (.bl false))) .nil) .nil) .nil)) (.cons (.for' (.nm 3) (.seq (.lm (.disp (.cons (.cst .non) (.cons (.cst (.int 2)) (.cons (.bin .sub (.cst (.int 0)) (.cst (.int 1))) (.cons (.cst (.bl true)) (.cons (.cst (.str "0")) .nil)))))))) (.cons (.iff (.bin .ne (.lm (.comp (.call i__law_asked (.cons (.cst (.int 2)) (.cons (.var 4) (.cons (.var 1) (.cons (.var 3) (.cons (.cst (.int 0)) .nil)))))) (.nm 4) [4] (.rng (.cons (.cst (.int 8)) (.cons (.cst (.int 12)) .nil))) .no)) (.bin .mul (.lm (.disp (.cons (.cst (.str "number")) .nil))) (.cst (.int 4)))) (.cons (.ret (.cst (.bl false))) .nil) .nil) .nil)) (.cons (.for' (.nm 3) (.seq (.lm (.disp (.cons (.cst .non) (.cons (.lm (.disp .nil)) (.cons (.sl (.var 0) .no (.so (.cst (.int 1)))) (.cons (.bin .add (.var 0) (.var 0)) (.cons (.pri 6 (.cons (.var 0) .nil)) (.cons (.lm (.disp (.cons (.tup (.cons (.cst (.int 1)) (.cons (.cst (.int 1)) .nil))) (.cons (.tup (.cons (.cst (.int 2)) (.cons (.cst (.int 4)) .nil))) .nil)))) (.cons (.lm (.disp (.cons (.tup (.cons (.cst (.int 1)) (.cons (.cst (.int 1)) .nil))) (.cons (.tup (.cons (.cst (.int 0)) (.cons (.cst (.int 1)) .nil))) .nil)))) .nil)))))))))) (.cons (.iff (.bin .ne (.lm (.comp (.call i__law_asked (.cons (.cst (.int 2)) (.cons (.var 4) (.cons (.var 1) (.cons (.var 3) (.cons (.cst (.int 0)) .nil)))))) (.nm 4) [4] (.rng (.cons (.cst (.int 12)) (.cons (.cst (.int 17)) .nil))) .no)) (.bin .mul (.lm (.disp (.cons (.cst (.str "amounts")) .nil))) (.cst (.int 5)))) (.cons (.ret (.cst (.bl false))) .nil) .nil) .nil)) (.cons (.iff (.or (.bin .ne (.lm (.comp (.call i__law_asked (.cons (.cst (.int 2)) (.cons (.var 4) (.cons (.var 1) (.cons (.cst (.int 0)) (.cons (.cst (.int 0)) .nil)))))) (.nm 4) [4] (.rng (.cons (.cst (.int 11)) .nil)) .no)) (.bin .mul (.lm (.disp (.cons (.cst (.str "done")) .nil))) (.cst (.int 11)))) (.bin .ne (.lm (.comp (.call i__law_asked (.cons (.cst (.int 2)) (.cons (.var 4) (.cons (.var 1) (.cons (.var 0) (.cons (.cst (.int 0)) .nil)))))) (.nm 4) [4] (.rng (.cons (.cst (.int 12)) (.cons (.cst (.int 18)) .nil))) .no)) (.bin .mul (.lm (.disp (.cons (.cst (.str "done")) .nil))) (.cst (.int 6))))) (.cons (.ret (.cst (.bl false))) .nil) .nil) (.cons (.ret (.and (.bin .is (.call i_is_trials (.cons (.bin .mul (.var 1) (.cst (.int 4))) .nil)) (.cst (.bl true))) (.and (.bin .is (.call i_is_rule (.cons (.tup (.cons (.tup (.cons (.cst (.int 1)) (.cons (.cst (.int 1)) .nil))) (.cons (.lm (.disp (.cons (.cst (.int 3)) (.cons (.bin .sub (.cst (.int 0)) (.cst (.int 3))) (.cons (.cst (.int 0)) .nil))))) .nil))) .nil)) (.cst (.bl true))) (.and (.bin .is (.call i_is_amount (.cons (.tup (.cons (.cst (.int 7)) (.cons (.cst (.int 3)) .nil))) .nil)) (.cst (.bl true))) (.bin .is (.call i_is_amount (.cons (.tup (.cons (.cst (.int 0)) (.cons (.cst (.int 1)) .nil))) .nil)) (.cst (.bl false))))))) .nil)))))))
def b__law_none (i_crossing i_amount_for i_agreed_power i_smallest_bar i_only_rule : Nat) : Ss := (.cons (.iff (.bin .eq (.var 0) (.cst (.int 12))) (.cons (.ret (.call i_only_rule (.cons (.var 1) .nil))) .nil) .nil) (.cons (.iff (.bin .eq (.var 0) (.cst (.int 13))) (.cons (.ret (.call i_smallest_bar (.cons (.var 1) .nil))) .nil) .nil) (.cons (.iff (.bin .eq (.var 0) (.cst (.int 14))) (.cons (.ret (.call i_agreed_power (.cons (.var 1) (.cons (.var 2) .nil)))) .nil) .nil) (.cons (.iff (.bin .eq (.var 0) (.cst (.int 15))) (.cons (.ret (.call i_amount_for (.cons (.var 1) (.cons (.var 4) (.cons (.var 2) (.cons (.tup (.cons (.cst (.int 5)) (.cons (.cst (.int 1)) .nil))) .nil)))))) .nil) .nil) (.cons (.iff (.bin .eq (.var 0) (.cst (.int 16))) (.cons (.ret (.call i_crossing (.cons (.var 3) (.cons (.var 1) (.cons (.var 4) (.cons (.var 2) .nil)))))) .nil) .nil) (.cons (.ret (.ite (.bin .eq (.var 0) (.cst (.int 17))) (.call i_crossing (.cons (.var 1) (.cons (.var 3) (.cons (.sl (.var 4) .no (.so (.cst (.int 1)))) (.cons (.var 2) .nil))))) (.call i_crossing (.cons (.var 1) (.cons (.var 1) (.cons (.sl (.var 4) .no (.so (.cst (.int 1)))) (.cons (.var 2) .nil))))))) .nil))))))
def b__law_found (i__law_table i__law_asked i_smallest_bar i_crossing i_tells_nothing i_tells_all i_best_amounts i_rates_for i_worst_left : Nat) : Ss := (.cons (.asg (.nm 1) (.lm (.disp (.cons (.tup (.cons (.lm (.disp (.cons (.tup (.cons (.cst (.int 1)) (.cons (.cst (.int 1)) .nil))) (.cons (.tup (.cons (.cst (.int 1)) (.cons (.cst (.int 1)) .nil))) .nil)))) (.cons (.tup (.cons (.cst (.int 1)) (.cons (.cst (.int 1)) .nil))) .nil))) (.cons (.tup (.cons (.lm (.disp (.cons (.tup (.cons (.cst (.int 2)) (.cons (.cst (.int 1)) .nil))) (.cons (.tup (.cons (.cst (.int 1)) (.cons (.cst (.int 1)) .nil))) .nil)))) (.cons (.tup (.cons (.cst (.int 4)) (.cons (.cst (.int 1)) .nil))) .nil))) (.cons (.tup (.cons (.lm (.disp (.cons (.tup (.cons (.cst (.int 1)) (.cons (.cst (.int 1)) .nil))) (.cons (.tup (.cons (.cst (.int 2)) (.cons (.cst (.int 1)) .nil))) .nil)))) (.cons (.tup (.cons (.cst (.int 2)) (.cons (.cst (.int 1)) .nil))) .nil))) .nil)))))) (.cons (.iff (.bin .ne (.lm (.comp (.call i__law_asked (.cons (.cst (.int 12)) (.cons (.var 2) (.cons (.cst (.int 0)) .nil)))) (.nm 2) [2] (.seq (.tup (.cons (.sl (.var 1) .no (.so (.cst (.int 2)))) (.cons (.var 1) (.cons (.bin .add (.var 1) (.lm (.disp (.cons (.tup (.cons (.ix (.ix (.var 1) (.cst (.int 0))) (.cst (.int 0))) (.cons (.tup (.cons (.cst (.int 5)) (.cons (.cst (.int 1)) .nil))) .nil))) .nil)))) .nil))))) .no)) (.lm (.disp (.cons (.cst (.str "none")) (.cons (.cst (.str "done")) (.cons (.cst (.str "none")) .nil)))))) (.cons (.ret (.cst (.bl false))) .nil) .nil) (.cons (.asg (.nm 3) (.bin .add (.var 1) (.lm (.disp (.cons (.tup (.cons (.ix (.ix (.var 1) (.cst (.int 0))) (.cst (.int 0))) (.cons (.tup (.cons (.cst (.int 5)) (.cons (.cst (.int 1)) .nil))) .nil))) .nil))))) (.cons (.iff (.or (.bin .ne (.call i_worst_left (.cons (.var 3) (.cons (.ix (.ix (.var 1) (.cst (.int 0))) (.cst (.int 0))) .nil))) (.cst (.int 0))) (.or (.bin .ne (.call i_rates_for (.cons (.var 3) (.cons (.ix (.ix (.var 1) (.cst (.int 0))) (.cst (.int 0))) .nil))) (.lm (.disp .nil))) (.bin .ne (.call i_best_amounts (.cons (.var 3) (.cons (.lm (.disp (.cons (.ix (.ix (.var 1) (.cst (.int 0))) (.cst (.int 0))) .nil))) .nil))) (.cst (.int 0))))) (.cons (.ret (.cst (.bl false))) .nil) .nil) (.cons (.iff (.or (.bin .isn (.call i_tells_all (.cons (.var 3) (.cons (.ix (.ix (.var 1) (.cst (.int 0))) (.cst (.int 0))) .nil))) (.cst (.bl true))) (.bin .isn (.call i_tells_nothing (.cons (.var 3) (.cons (.ix (.ix (.var 1) (.cst (.int 0))) (.cst (.int 0))) .nil))) (.cst (.bl true)))) (.cons (.ret (.cst (.bl false))) .nil) .nil) (.cons (.iff (.bin .ne (.call i__law_asked (.cons (.cst (.int 14)) (.cons (.lm (.disp (.cons (.ix (.var 1) (.cst (.int 0))) (.cons (.tup (.cons (.lm (.disp (.cons (.tup (.cons (.cst (.int 2)) (.cons (.cst (.int 1)) .nil))) (.cons (.tup (.cons (.cst (.int 1)) (.cons (.cst (.int 1)) .nil))) .nil)))) (.cons (.tup (.cons (.cst (.int 16)) (.cons (.cst (.int 1)) .nil))) .nil))) .nil)))) (.cons (.cst (.int 0)) .nil)))) (.cst (.str "none"))) (.cons (.ret (.cst (.bl false))) .nil) .nil) (.cons (.asg (.tp (.cons (.nm 4) (.cons (.nm 5) .nil))) (.tup (.cons (.tup (.cons (.tup (.cons (.cst (.int 1)) (.cons (.cst (.int 1)) .nil))) (.cons (.lm (.disp (.cons (.cst (.int 1)) (.cons (.cst (.int 1)) (.cons (.cst (.int 2)) .nil))))) .nil))) (.cons (.tup (.cons (.tup (.cons (.cst (.int 2)) (.cons (.cst (.int 1)) .nil))) (.cons (.lm (.disp (.cons (.cst (.int 1)) (.cons (.cst (.int 1)) (.cons (.cst (.int 1)) .nil))))) .nil))) .nil)))) (.cons (.iff (.bin .ne (.call i_crossing (.cons (.var 4) (.cons (.var 5) (.cons (.bin .mul (.lm (.disp (.cons (.tup (.cons (.cst (.int 1)) (.cons (.cst (.int 1)) .nil))) .nil))) (.cst (.int 3))) (.cons (.cst (.int 2)) .nil))))) (.tup (.cons (.cst (.int 2)) (.cons (.cst (.int 1)) .nil)))) (.cons (.ret (.cst (.bl false))) .nil) .nil) (.cons (.iff (.or (.bin .ne (.lm (.comp (.call i__law_asked (.cons (.cst (.int 13)) (.cons (.var 2) (.cons (.cst (.int 0)) .nil)))) (.nm 2) [2] (.seq (.tup (.cons (.var 1) (.cons (.var 3) .nil)))) .no)) (.lm (.disp (.cons (.cst (.str "none")) (.cons (.cst (.str "done")) .nil))))) (.bin .ne (.call i_smallest_bar (.cons (.var 3) .nil)) (.lm (.disp (.cons (.cst (.int 0)) (.cons (.cst (.int 3)) .nil)))))) (.cons (.ret (.cst (.bl false))) .nil) .nil) (.cons (.asg (.nm 6) (.lm (.disp (.cons (.tup (.cons (.sl (.var 1) .no (.so (.cst (.int 1)))) (.cons (.cst (.int 0)) .nil))) (.cons (.tup (.cons (.var 1) (.cons (.cst (.int 0)) .nil))) (.cons (.tup (.cons (.var 1) (.cons (.cst (.int 1)) .nil))) .nil)))))) (.cons (.asg (.nm 6) (.bin .add (.var 6) (.lm (.comp (.tup (.cons (.bin .add (.var 1) (.lm (.disp (.cons (.tup (.cons (.lm (.disp (.cons (.tup (.cons (.var 7) (.cons (.cst (.int 1)) .nil))) (.cons (.tup (.cons (.cst (.int 1)) (.cons (.cst (.int 1)) .nil))) .nil)))) (.cons (.tup (.cons (.cst (.int 4)) (.cons (.cst (.int 1)) .nil))) .nil))) .nil)))) (.cons (.cst (.int 0)) .nil))) (.nm 7) [7] (.seq (.tup (.cons (.cst (.int 3)) (.cons (.cst (.int 4)) .nil)))) .no)))) (.cons (.iff (.bin .ne (.lm (.comp (.call i__law_asked (.cons (.cst (.int 14)) (.cons (.var 2) (.cons (.var 7) .nil)))) (.tp (.cons (.nm 2) (.cons (.nm 7) .nil))) [2, 7] (.seq (.var 6)) .no)) (.lm (.disp (.cons (.cst (.str "none")) (.cons (.cst (.str "done")) (.cons (.cst (.str "done")) (.cons (.cst (.str "none")) (.cons (.cst (.str "none")) .nil)))))))) (.cons (.ret (.cst (.bl false))) .nil) .nil) (.cons (.iff (.bin .ne (.lm (.comp (.call i__law_asked (.cons (.cst (.int 15)) (.cons (.tup (.cons (.tup (.cons (.cst (.int 1)) (.cons (.cst (.int 1)) .nil))) (.cons (.lm (.disp (.cons (.var 7) (.cons (.cst (.int 1)) .nil)))) .nil))) (.cons (.cst (.int 0)) .nil)))) (.nm 7) [7] (.seq (.tup (.cons (.cst (.int 0)) (.cons (.cst (.int 1)) (.cons (.cst (.int 2)) .nil))))) .no)) (.lm (.disp (.cons (.cst (.str "none")) (.cons (.cst (.str "done")) (.cons (.cst (.str "none")) .nil)))))) (.cons (.ret (.cst (.bl false))) .nil) .nil) (.cons (.asg (.nm 8) (.lm (.disp (.cons (.tup (.cons (.tup (.cons (.cst (.int 2)) (.cons (.cst (.int 1)) .nil))) (.cons (.lm (.disp (.cons (.cst (.int 2)) (.cons (.cst (.int 1)) .nil)))) .nil))) (.cons (.tup (.cons (.tup (.cons (.cst (.int 4)) (.cons (.cst (.int 1)) .nil))) (.cons (.lm (.disp (.cons (.cst (.int 0)) (.cons (.bin .sub (.cst (.int 0)) (.cst (.int 1))) .nil)))) .nil))) (.cons (.tup (.cons (.tup (.cons (.cst (.int 8)) (.cons (.cst (.int 1)) .nil))) (.cons (.lm (.disp (.cons (.cst (.int 0)) (.cons (.bin .sub (.cst (.int 0)) (.cst (.int 1))) .nil)))) .nil))) .nil)))))) (.cons (.iff (.bin .ne (.lm (.comp (.call i__law_asked (.cons (.cst (.int 16)) (.cons (.var 2) (.cons (.cst (.int 0)) .nil)))) (.nm 2) [2] (.seq (.var 8)) .no)) (.lm (.disp (.cons (.cst (.str "none")) (.cons (.cst (.str "none")) (.cons (.cst (.str "done")) .nil)))))) (.cons (.ret (.cst (.bl false))) .nil) .nil) (.cons (.ret (.and (.bin .eq (.call i__law_asked (.cons (.cst (.int 17)) (.cons (.var 0) (.cons (.cst (.int 0)) .nil)))) (.cst (.str "amounts"))) (.and (.bin .eq (.call i__law_asked (.cons (.cst (.int 18)) (.cons (.var 0) (.cons (.cst (.int 1)) .nil)))) (.cst (.str "number"))) (.and (.bin .eq (.call i__law_asked (.cons (.cst (.int 16)) (.cons (.var 0) (.cons (.cst (.int 0)) .nil)))) (.cst (.str "amounts"))) (.call i__law_table .nil))))) .nil))))))))))))))))
def b__law_first (i_worst_left i_told_powers i_count_fitting i_rate : Nat) : Ss := (.cons (.iff (.or (.bin .ne (.call i_rate (.cons (.var 0) (.cons (.lm (.disp (.cons (.tup (.cons (.cst (.int 3)) (.cons (.cst (.int 1)) .nil))) (.cons (.tup (.cons (.cst (.int 2)) (.cons (.cst (.int 1)) .nil))) .nil)))) .nil))) (.tup (.cons (.cst (.int 9)) (.cons (.cst (.int 1)) .nil)))) (.or (.bin .ne (.call i_count_fitting (.cons (.var 1) .nil)) (.cst (.int 7))) (.bin .ne (.call i_told_powers (.cons (.var 1) (.cons (.cst (.int 0)) .nil))) (.lm (.disp (.cons (.tup (.cons (.cst (.int 0)) (.cons (.cst (.int 1)) (.cons (.cst (.int 2)) .nil)))) .nil)))))) (.cons (.ret (.cst (.bl false))) .nil) .nil) (.cons (.ret (.bin .eq (.call i_worst_left (.cons (.var 1) (.cons (.lm (.disp (.cons (.tup (.cons (.cst (.int 1)) (.cons (.cst (.int 1)) .nil))) (.cons (.tup (.cons (.cst (.int 2)) (.cons (.cst (.int 1)) .nil))) .nil)))) .nil))) (.cst (.int 1)))) .nil))
def b__law_second (i_format_rule i_in_units i_amount_for : Nat) : Ss := (.cons (.iff (.or (.bin .ne (.call i_amount_for (.cons (.var 0) (.cons (.lm (.disp (.cons (.tup (.cons (.cst (.int 1)) (.cons (.cst (.int 1)) .nil))) (.cons (.tup (.cons (.cst (.int 2)) (.cons (.cst (.int 1)) .nil))) .nil)))) (.cons (.cst (.int 0)) (.cons (.tup (.cons (.cst (.int 4)) (.cons (.cst (.int 1)) .nil))) .nil))))) (.tup (.cons (.cst (.int 2)) (.cons (.cst (.int 1)) .nil)))) (.bin .ne (.call i_in_units (.cons (.var 0) (.cons (.lm (.disp (.cons (.tup (.cons (.cst (.int 10)) (.cons (.cst (.int 1)) .nil))) (.cons (.tup (.cons (.cst (.int 1)) (.cons (.cst (.int 1)) .nil))) .nil)))) (.cons (.tup (.cons (.cst (.int 1)) (.cons (.cst (.int 1)) .nil))) .nil)))) (.tup (.cons (.tup (.cons (.cst (.int 200)) (.cons (.cst (.int 1)) .nil))) (.cons (.lm (.disp (.cons (.cst (.int 2)) (.cons (.bin .sub (.cst (.int 0)) (.cst (.int 1))) .nil)))) .nil))))) (.cons (.ret (.cst (.bl false))) .nil) .nil) (.cons (.ret (.bin .eq (.call i_format_rule (.cons (.var 0) .nil)) (.cst (.str "2 A^2 B^-1")))) .nil))
def b__law_product (i__law_error i_multiplied : Nat) : Ss := (.cons (.asg (.nm 2) (.cst .non)) (.cons (.asg (.nm 3) (.cst .non)) (.cons (.tryK (.cons (.asg (.nm 2) (.call i_multiplied (.cons (.var 0) (.cons (.var 1) .nil)))) .nil) 4 3 0) (.cons (.ret (.ite (.bin .is (.var 3) (.cst .non)) (.var 2) (.call i__law_error (.cons (.var 3) .nil)))) .nil))))
def b__law_tests (i_worst_left i_best_amounts i_tells_nothing i_tells_all i_count_fitting i_needless i_powers_for i_only_rule i_fitting i_single_pairs i_agreed_power i_trial : Nat) : Ss := (.cons (.asg (.nm 2) (.bin .mul (.lm (.disp (.cons (.tup (.cons (.cst (.int 1)) (.cons (.cst (.int 1)) .nil))) .nil))) (.var 1))) (.cons (.own 3 (.disp (.cons (.call i_trial (.cons (.var 0) (.cons (.var 2) .nil))) .nil))) (.cons (.for' (.nm 4) (.rng (.cons (.var 1) .nil)) (.cons (.app 3 (.call i_trial (.cons (.var 0) (.cons (.bin .add (.bin .add (.sl (.var 2) .no (.so (.var 4))) (.lm (.disp (.cons (.tup (.cons (.cst (.int 2)) (.cons (.cst (.int 1)) .nil))) .nil)))) (.sl (.var 2) (.so (.bin .add (.var 4) (.cst (.int 1)))) .no)) .nil)))) (.cons (.iff (.or (.bin .ne (.callO i_agreed_power true 3 (.var 4)) (.ix (.ix (.var 0) (.cst (.int 1))) (.var 4))) (.bin .ne (.callO i_single_pairs true 3 (.var 4)) (.lm (.disp (.cons (.tup (.cons (.cst (.int 0)) (.cons (.bin .add (.var 4) (.cst (.int 1))) .nil))) .nil))))) (.cons (.ret (.cst (.bl false))) .nil) .nil) .nil))) (.cons (.frz 3 (.iff (.or (.bin .ne (.call i_fitting (.cons (.var 3) .nil)) (.lm (.disp (.cons (.var 0) .nil)))) (.or (.bin .ne (.call i_only_rule (.cons (.var 3) .nil)) (.var 0)) (.bin .ne (.lm (.comp (.call i_powers_for (.cons (.var 3) (.cons (.var 5) .nil))) (.nm 5) [5] (.rng (.cons (.var 1) .nil)) .no)) (.lm (.comp (.lm (.disp (.cons (.var 6) .nil))) (.nm 6) [6] (.seq (.ix (.var 0) (.cst (.int 1)))) .no))))) (.cons (.ret (.cst (.bl false))) .nil) .nil)) (.cons (.frz 3 (.iff (.or (.bin .ne (.lm (.comp (.var 5) (.nm 5) [5] (.seq (.call i_needless (.cons (.var 3) .nil))) (.so (.bin .gt (.var 5) (.cst (.int 0)))))) (.lm (.disp .nil))) (.or (.bin .isn (.call i_tells_nothing (.cons (.var 3) (.cons (.var 2) .nil))) (.cst (.bl true))) (.bin .isn (.call i_tells_all (.cons (.var 3) (.cons (.var 2) .nil))) (.cst (.bl true))))) (.cons (.ret (.cst (.bl false))) .nil) .nil)) (.cons (.frz 3 (.asg (.nm 7) (.sl (.var 3) .no (.so (.neg (.cst (.int 1))))))) (.cons (.iff (.or (.bin .ne (.call i_count_fitting (.cons (.var 7) .nil)) (.cst (.int 7))) (.or (.bin .isn (.call i_tells_all (.cons (.var 7) (.cons (.ix (.ix (.var 3) (.neg (.cst (.int 1)))) (.cst (.int 0))) .nil))) (.cst (.bl true))) (.bin .isn (.call i_tells_nothing (.cons (.var 7) (.cons (.var 2) .nil))) (.cst (.bl true))))) (.cons (.ret (.cst (.bl false))) .nil) .nil) (.cons (.ret (.and (.bin .eq (.call i_best_amounts (.cons (.var 7) (.cons (.lm (.disp (.cons (.var 2) (.cons (.ix (.ix (.var 3) (.neg (.cst (.int 1)))) (.cst (.int 0))) .nil)))) .nil))) (.cst (.int 1))) (.bin .eq (.call i_worst_left (.cons (.var 7) (.cons (.var 2) .nil))) (.cst (.int 7))))) .nil))))))))
def b__law_cross (i__law_error i_crossing : Nat) : Ss := (.cons (.asg (.nm 4) (.cst .non)) (.cons (.asg (.nm 5) (.cst .non)) (.cons (.tryK (.cons (.asg (.nm 4) (.call i_crossing (.cons (.var 0) (.cons (.var 1) (.cons (.var 2) (.cons (.var 3) .nil)))))) .nil) 6 5 0) (.cons (.ret (.ite (.bin .is (.var 5) (.cst .non)) (.var 4) (.call i__law_error (.cons (.var 5) .nil)))) .nil))))
def b__law_alone (i_order i_swapped i_rate i__law_draw i__law_low i_growth i_is_faster i_amount_for : Nat) : Ss := (.cons (.iff (.bin .ne (.ix (.ix (.var 1) (.cst (.int 1))) (.var 4)) (.cst (.int 0))) (.cons (.iff (.or (.bin .ne (.call i_amount_for (.cons (.var 1) (.cons (.var 3) (.cons (.var 4) (.cons (.var 6) .nil))))) (.var 5)) (.bin .isn (.call i_is_faster (.cons (.var 1) (.cons (.var 2) (.cons (.var 2) .nil)))) (.cst (.bl false)))) (.cons (.ret (.cst (.bl false))) .nil) .nil) (.cons (.asg (.nm 8) (.bin .add (.bin .add (.sl (.var 3) .no (.so (.var 4))) (.lm (.disp (.cons (.call i__law_low (.cons (.bin .mul (.ix (.var 5) (.cst (.int 0))) (.cst (.int 3))) (.cons (.ix (.var 5) (.cst (.int 1))) .nil))) .nil)))) (.sl (.var 3) (.so (.bin .add (.var 4) (.cst (.int 1)))) .no))) (.cons (.iff (.or (.bin .ne (.call i_is_faster (.cons (.var 1) (.cons (.var 8) (.cons (.var 2) .nil)))) (.bin .gt (.ix (.ix (.var 1) (.cst (.int 1))) (.var 4)) (.cst (.int 0)))) (.bin .ne (.call i_is_faster (.cons (.var 1) (.cons (.var 2) (.cons (.var 8) .nil)))) (.bin .lt (.ix (.ix (.var 1) (.cst (.int 1))) (.var 4)) (.cst (.int 0))))) (.cons (.ret (.cst (.bl false))) .nil) .nil) (.cons (.asg (.nm 9) (.call i_growth (.cons (.var 1) (.cons (.var 4) (.cons (.tup (.cons (.cst (.int 3)) (.cons (.cst (.int 1)) .nil))) .nil))))) (.cons (.iff (.bin .ne (.call i_rate (.cons (.var 1) (.cons (.var 8) .nil))) (.call i__law_low (.cons (.bin .mul (.ix (.var 6) (.cst (.int 0))) (.ix (.var 9) (.cst (.int 0)))) (.cons (.bin .mul (.ix (.var 6) (.cst (.int 1))) (.ix (.var 9) (.cst (.int 1)))) .nil)))) (.cons (.ret (.cst (.bl false))) .nil) .nil) .nil))))) .nil) (.cons (.asg (.nm 10) (.call i__law_draw (.cons (.var 0) (.cons (.var 7) .nil)))) (.cons (.own 11 (.of (.cons (.var 2) .nil))) (.cons (.set2 11 (.var 4) (.var 10) (.tup (.cons (.ix (.var 2) (.var 10)) (.cons (.ix (.var 2) (.var 4)) .nil)))) (.cons (.frz 11 (.ret (.and (.bin .eq (.call i_rate (.cons (.call i_swapped (.cons (.var 1) (.cons (.var 10) (.cons (.var 4) .nil)))) (.cons (.var 11) .nil))) (.var 6)) (.and (.bin .eq (.call i_swapped (.cons (.call i_swapped (.cons (.var 1) (.cons (.var 4) (.cons (.var 10) .nil)))) (.cons (.var 4) (.cons (.var 10) .nil)))) (.var 1)) (.bin .eq (.call i_order (.cons (.call i_swapped (.cons (.var 1) (.cons (.var 4) (.cons (.var 10) .nil)))) .nil)) (.call i_order (.cons (.var 1) .nil))))))) .nil)))))
def b__law_for (i__law_error i_amount_for : Nat) : Ss := (.cons (.asg (.nm 4) (.cst .non)) (.cons (.asg (.nm 5) (.cst .non)) (.cons (.tryK (.cons (.asg (.nm 4) (.call i_amount_for (.cons (.var 0) (.cons (.var 1) (.cons (.var 2) (.cons (.var 3) .nil)))))) .nil) 6 5 0) (.cons (.ret (.ite (.bin .is (.var 5) (.cst .non)) (.var 4) (.call i__law_error (.cons (.var 5) .nil)))) .nil))))
end RL

namespace RL
open PySem L2
/-! further defs as data (printed) -/
def b_fraction_text : Ss := (.cons (.ret (.ite (.bin .eq (.ix (.var 0) (.cst (.int 1))) (.cst (.int 1))) (.hk 3 (.cons (.ix (.var 0) (.cst (.int 0))) .nil)) (.hk 4 (.cons (.ix (.var 0) (.cst (.int 0))) (.cons (.ix (.var 0) (.cst (.int 1))) .nil))))) .nil)
def b_text_of (i_fraction_text : Nat) : Ss := (.cons (.ret (.hk 6 (.cons (.bin .add (.lm (.disp (.cons (.call i_fraction_text (.cons (.ix (.var 0) (.cst (.int 0))) .nil)) .nil))) (.lm (.comp (.hk 5 (.cons (.hk 7 (.cons (.var 1) .nil)) (.cons (.var 2) .nil))) (.tp (.cons (.nm 1) (.cons (.nm 2) .nil))) [1, 2] (.enm (.cons (.ix (.var 0) (.cst (.int 1))) .nil)) .no))) .nil))) .nil)
def b__law_written : Ss := (.cons (.own 1 (.disp (.cons (.bin .add (.hk 3 (.cons (.ix (.ix (.var 0) (.cst (.int 0))) (.cst (.int 0))) .nil)) (.ite (.bin .eq (.ix (.ix (.var 0) (.cst (.int 0))) (.cst (.int 1))) (.cst (.int 1))) (.cst (.str "")) (.bin .add (.cst (.str "/")) (.hk 3 (.cons (.ix (.ix (.var 0) (.cst (.int 0))) (.cst (.int 1))) .nil))))) .nil))) (.cons (.for' (.nm 2) (.rng (.cons (.pri 0 (.cons (.ix (.var 0) (.cst (.int 1))) .nil)) .nil)) (.cons (.app 1 (.bin .add (.bin .add (.ix (.lm (.disp (.cons (.cst (.str "A")) (.cons (.cst (.str "B")) (.cons (.cst (.str "C")) .nil))))) (.var 2)) (.cst (.str "^"))) (.hk 3 (.cons (.ix (.ix (.var 0) (.cst (.int 1))) (.var 2)) .nil)))) .nil)) (.cons (.frz 1 (.ret (.hk 6 (.cons (.var 1) .nil)))) .nil)))
end RL

namespace RL
open PySem L2
/-! tables: lines lent, grown, cut -/
mutual
def plainD : D → Bool
  | .lst xs => plainL xs
  | .tup xs => plainL xs
  | .drw => false
  | .tab _ => false
  | .exc _ => false
  | _ => true
def plainL : List D → Bool
  | [] => true
  | x :: xs => plainD x && plainL xs
end
/-- it begins as a list of trials does -/
def hdT : List D → Bool
  | .tup (.lst _ :: _) :: _ => true
  | _ => false
mutual
/-- nothing in it begins so -/
def noT : D → Bool
  | .lst xs => !hdT xs && noTL xs
  | .tup xs => noTL xs
  | .drw => false
  | .tab _ => false
  | .exc _ => false
  | _ => true
def noTL : List D → Bool
  | [] => true
  | x :: xs => noT x && noTL xs
end
def lentG (g : Gs) (l : Addr) (vs : List V) : Gs := ⟨upd g.F l (.lst vs), none, []⟩
def backG (g g' : Gs) (l : Addr) : Gs := ⟨fun a => if a = l then none else g'.F a, g.dr, g.tb⟩
section
variable {c : Cn} {g g' : Gs} {H H' : Hp} {w : Wd} {l : Addr} {vs : List V}
theorem lent_ok (k : WOk c g H w) (hv : H l = some (.lst vs)) : WOk c (lentG g l vs) H ⟨none, []⟩ := by
  refine ⟨fun a o e => ?_, (fun _ _ e => by cases e), fun _ => rfl, (fun i _ _ e => by simp at e), rfl, ?_, fun a ha => ?_⟩
  · have e : upd g.F l (.lst vs) a = some o := e
    by_cases q : a = l
    · subst q
      rw [upd_same] at e
      rw [hv]; exact e
    · rw [upd_ne q] at e
      exact k.sub a o e
  · simp [Gs.wadr, lentG, wdr, wtb]
  · simp [Gs.wadr, lentG, wdr, wtb] at ha
mutual
theorem lent_rep (hl : g.F l = none) : ∀ {d : D} {v : V}, Rep c g v d → plainD d = true → Rep c (lentG g l vs) v d
  | .non, _, r, _ => by cases r; exact .non
  | .bl _, _, r, _ => by cases r; exact .bl _
  | .int _, _, r, _ => by cases r; exact .int _
  | .str _, _, r, _ => by cases r; exact .str _
  | .lst ds, _, r, q => by
    cases r with
    | lst e x => exact .lst (by show upd g.F l _ _ = _; rw [upd_ne (ne_of_none e hl)]; exact e) (lent_repL hl x (by simpa [plainD] using q))
  | .tup ds, _, r, q => by
    cases r with
    | tup e x => exact .tup (by show upd g.F l _ _ = _; rw [upd_ne (ne_of_none e hl)]; exact e) (lent_repL hl x (by simpa [plainD] using q))
  | .drw, _, r, q => by simp [plainD] at q
  | .tab k, _, r, q => by simp [plainD] at q
  | .exc k, _, r, q => by simp [plainD] at q
theorem lent_repL (hl : g.F l = none) : ∀ {ds : List D} {us : List V}, RepL c g us ds → plainL ds = true → RepL c (lentG g l vs) us ds
  | [], _, r, _ => by cases r; exact .nil
  | d :: ds, _, r, q => by
    cases r with
    | cons a b =>
      simp only [plainL, Bool.and_eq_true] at q
      exact .cons (lent_rep hl a q.1) (lent_repL hl b q.2)
end
/-- a lent line comes back: the world is as it was -/
theorem back_ok (k : WOk c g H w) (hl : l ∈ g.wadr) (x : Ext (lentG g l vs) H g' H') (k' : WOk c g' H' ⟨none, []⟩) : Ext g H (backG g g' l) H' ∧ WOk c (backG g g' l) H' w := by
  have hF : g.F l = none := k.out l hl
  have kp : ∀ a o, H a = some o → H' a = some o := fun a o e => x.keep a o e (by simp [Gs.wadr, lentG, wdr, wtb])
  have sF : Same g.F (backG g g' l).F := fun a o e => by
    have na : a ≠ l := ne_of_none e hF
    show (if a = l then none else g'.F a) = some o
    rw [if_neg na]
    exact x.sF a o (by show upd g.F l _ a = some o; rw [upd_ne na]; exact e)
  have fr : ∀ a, g.F a = none → H a ≠ none → (backG g g' l).F a = none := fun a e n => by
    show (if a = l then none else g'.F a) = none
    by_cases q : a = l
    · rw [if_pos q]
    · rw [if_neg q]
      exact x.frF a (by show upd g.F l _ a = none; rw [upd_ne q]; exact e) n
  have G : Gle g (backG g g' l) := ⟨sF, fun _ q => q, fun _ _ q => q⟩
  refine ⟨⟨G, fun a o e _ => kp a o e, x.dom, fr, fun a e => .inl e⟩, ⟨fun a o e => ?_, fun ns n e => ?_, k.dr0, fun i sz ln e => ?_, k.tbl, k.nd, fun a ha => fr a (k.out a ha) (k.there ha)⟩⟩
  · have e : (if a = l then none else g'.F a) = some o := e
    by_cases q : a = l
    · rw [if_pos q] at e; cases e
    · rw [if_neg q] at e
      exact k'.sub a o e
  · obtain ⟨a, b, e1, e2, e3⟩ := k.dr ns n e
    exact ⟨a, b, e1, kp _ _ e2, kp _ _ e3⟩
  · obtain ⟨t, dx, l', vs', e1, e2, e3, r⟩ := k.tb i sz ln e
    exact ⟨t, dx, l', vs', e1, kp _ _ e2, kp _ _ e3, r.mono G⟩
/-- one value, one beginning -/
theorem hdT_same (hd : g.dr = none) (ht : g.tb = []) {us : List V} {ds ln : List D} (h1 : RepL c g us ds) (h2 : RepL c g us ln) (h : hdT ln = true) : hdT ds = true := by
  unfold hdT at h
  split at h
  · rename_i x xs zs
    cases h2 with
    | cons a2 b2 =>
      cases h1 with
      | cons a1 b1 =>
        cases a2 with
        | tup e2 l2 =>
          cases l2 with
          | cons a3 b3 =>
            cases a3 with
            | lst e3 l3 =>
              cases a1 with
              | lst e4 _ => rw [e2] at e4; cases e4
              | drw e4 => rw [hd] at e4; cases e4
              | tab e4 => rw [ht] at e4; simp at e4
              | exc e4 => rw [e2] at e4; cases e4
              | tup e4 l4 =>
                rw [e2] at e4
                cases e4
                cases l4 with
                | cons a5 b5 =>
                  cases a5 with
                  | lst _ _ => rfl
                  | drw e6 => rw [hd] at e6; cases e6
                  | tab e6 => rw [ht] at e6; simp at e6
                  | exc e6 => rw [e3] at e6; cases e6
                  | tup e6 _ => rw [e3] at e6; cases e6
  · cases h
mutual
theorem back_rep (hd : g'.dr = none) (ht : g'.tb = []) {ln : List D} (hv : g'.F l = some (.lst vs)) (hr : RepL c g' vs ln) (hh : hdT ln = true) : ∀ {d : D} {v : V}, Rep c g' v d → noT d = true → Rep c (backG g g' l) v d
  | .non, _, r, _ => by cases r; exact .non
  | .bl _, _, r, _ => by cases r; exact .bl _
  | .int _, _, r, _ => by cases r; exact .int _
  | .str _, _, r, _ => by cases r; exact .str _
  | .lst ds, _, r, q => by
    simp only [noT, Bool.and_eq_true, Bool.not_eq_true'] at q
    cases r with
    | @lst a us _ e x =>
      have na : a ≠ l := fun z => by
        rw [z, hv] at e
        cases e
        rw [hdT_same hd ht x hr hh] at q
        cases q.1
      exact .lst (by show (if a = l then none else g'.F a) = _; rw [if_neg na]; exact e) (back_repL hd ht hv hr hh x q.2)
  | .tup ds, _, r, q => by
    simp only [noT] at q
    cases r with
    | @tup a us _ e x =>
      have na : a ≠ l := fun z => by
        rw [z, hv] at e
        cases e
      exact .tup (by show (if a = l then none else g'.F a) = _; rw [if_neg na]; exact e) (back_repL hd ht hv hr hh x q)
  | .drw, _, r, q => by simp [noT] at q
  | .tab k, _, r, q => by simp [noT] at q
  | .exc k, _, r, q => by simp [noT] at q
theorem back_repL (hd : g'.dr = none) (ht : g'.tb = []) {ln : List D} (hv : g'.F l = some (.lst vs)) (hr : RepL c g' vs ln) (hh : hdT ln = true) : ∀ {ds : List D} {us : List V}, RepL c g' us ds → noTL ds = true → RepL c (backG g g' l) us ds
  | [], _, r, _ => by cases r; exact .nil
  | d :: ds, _, r, q => by
    cases r with
    | cons a b =>
      simp only [noTL, Bool.and_eq_true] at q
      exact .cons (back_rep hd ht hv hr hh a q.1) (back_repL hd ht hv hr hh b q.2)
end
/-! ### a table in the heap -/
theorem tab_at (k : WOk c g H w) {v : V} {i : Nat} (r : Rep c g v (.tab i)) : ∃ t dx l sz ln vs, v = .ref t ∧ g.tb[i]? = some (t, dx, l) ∧ w.tb[i]? = some (sz, ln) ∧ H t = some (.ins c.tC dx [("size", .int sz), ("line", .ref l)]) ∧ H l = some (.lst vs) ∧ RepL c g vs ln ∧ l ∈ g.wadr ∧ t ∈ g.wadr := by
  cases r with
  | @tab _ t dx l e =>
    have hi : i < w.tb.length := by
      rw [← k.tbl]
      exact (List.getElem?_eq_some_iff.mp e).1
    obtain ⟨t', dx', l', vs, e1, e2, e3, e4⟩ := k.tb i w.tb[i].1 w.tb[i].2 (by simp [hi])
    rw [e] at e1
    cases e1
    obtain ⟨m1, m2⟩ := wtb_mem e
    exact ⟨t, dx, l, w.tb[i].1, w.tb[i].2, vs, rfl, e, by simp [hi], e2, e3, e4, List.mem_append_right _ m2, List.mem_append_right _ m1⟩
theorem wtb_nodup : ∀ {tb : List (Addr × Addr × Addr)} {i j : Nat} {t dx l t' dx' l' : Addr}, (wtb tb).Nodup → tb[i]? = some (t, dx, l) → tb[j]? = some (t', dx', l') → (i ≠ j → t ≠ t' ∧ t ≠ l' ∧ l ≠ t' ∧ l ≠ l') ∧ (i = j → t ≠ l)
  | [], i, j, t, dx, l, t', dx', l', _, e, _ => by simp at e
  | (a, b, d) :: r, i, j, t, dx, l, t', dx', l', nd, e, e' => by
    simp only [wtb, List.nodup_cons, List.mem_cons, not_or] at nd
    obtain ⟨⟨n1, n2⟩, n3, n4⟩ := nd
    cases i with
    | zero =>
      simp at e
      obtain ⟨rfl, rfl, rfl⟩ := e
      cases j with
      | zero => exact ⟨fun h => absurd rfl h, fun _ => n1⟩
      | succ j =>
        obtain ⟨m1, m2⟩ := wtb_mem (show r[j]? = some (t', dx', l') by simpa using e')
        exact ⟨fun _ => ⟨fun z => n2 (z ▸ m1), fun z => n2 (z ▸ m2), fun z => n3 (z ▸ m1), fun z => n3 (z ▸ m2)⟩, fun h => by cases h⟩
    | succ i =>
      have ei : r[i]? = some (t, dx, l) := by simpa using e
      obtain ⟨m1, m2⟩ := wtb_mem ei
      cases j with
      | zero =>
        simp at e'
        obtain ⟨rfl, rfl, rfl⟩ := e'
        exact ⟨fun _ => ⟨fun z => n2 (z ▸ m1), fun z => n3 (z ▸ m1), fun z => n2 (z ▸ m2), fun z => n3 (z ▸ m2)⟩, fun h => by cases h⟩
      | succ j =>
        obtain ⟨z1, z2⟩ := wtb_nodup n4 ei (show r[j]? = some (t', dx', l') by simpa using e')
        exact ⟨fun h => z1 (fun q => h (by rw [q])), fun h => z2 (by omega)⟩
/-- a line is written -/
theorem tab_set (k : WOk c g H w) {i : Nat} {t dx : Addr} {sz : Int} {ln ln' : List D} {vs' : List V} (e : g.tb[i]? = some (t, dx, l)) (ew : w.tb[i]? = some (sz, ln)) (r : RepL c g vs' ln') : WOk c g (upd H l (.lst vs')) { w with tb := w.tb.set i (sz, ln') } ∧ Ext g H g (upd H l (.lst vs')) := by
  obtain ⟨m1, m2⟩ := wtb_mem e
  have ml : l ∈ g.wadr := List.mem_append_right _ m2
  have nd := List.nodup_append.1 k.nd
  have hiw : i < w.tb.length := (List.getElem?_eq_some_iff.mp ew).1
  refine ⟨⟨fun a o q => ?_, fun ns n q => ?_, k.dr0, fun j sz' ln'' q => ?_, by simpa using k.tbl, k.nd, k.out⟩, ⟨Gle.refl g, fun a o q n => ?_, fun a q => ?_, fun a q _ => q, fun a q => .inl q⟩⟩
  · rw [upd_ne (fun z => by rw [z, k.out l ml] at q; cases q)]
    exact k.sub a o q
  · obtain ⟨a, b, e1, e2, e3⟩ := k.dr ns n q
    have ha : a ∈ wdr g.dr := by rw [e1]; simp [wdr]
    have hb : b ∈ wdr g.dr := by rw [e1]; simp [wdr]
    exact ⟨a, b, e1, by rw [upd_ne (nd.2.2 a ha l m2)]; exact e2, by rw [upd_ne (nd.2.2 b hb l m2)]; exact e3⟩
  · have q : (w.tb.set i (sz, ln'))[j]? = some (sz', ln'') := q
    by_cases hij : i = j
    · subst hij
      rw [List.getElem?_set_self hiw] at q
      cases q
      obtain ⟨t', dx', l', vs, e1, e2, e3, e4⟩ := k.tb i sz ln ew
      rw [e] at e1
      cases e1
      have ntl := (wtb_nodup nd.2.1 e e).2 rfl
      exact ⟨t, dx, l, vs', e, by rw [upd_ne ntl]; exact e2, upd_same, r⟩
    · rw [List.getElem?_set_ne hij] at q
      obtain ⟨t', dx', l', vs, e1, e2, e3, e4⟩ := k.tb j sz' ln'' q
      obtain ⟨z1, z2, z3, z4⟩ := (wtb_nodup nd.2.1 e e1).1 hij
      exact ⟨t', dx', l', vs, e1, by rw [upd_ne (Ne.symm z3)]; exact e2, by rw [upd_ne (Ne.symm z4)]; exact e3, e4⟩
  · rw [upd_ne (fun z : a = l => n (by rw [z]; exact ml))]
    exact q
  · by_cases z : a = l
    · rw [z, upd_same] at q; cases q
    · rw [upd_ne z] at q; exact q
end
end RL

/-! methods, making, len of an own instance: what is raised is wished for at the slots -/
namespace RL
open PySem PySem.Calls PySem.Spec PyProof.Rows L2
section
variable {X : Cx} {CX : CXT} {k : Nat} {f C : Addr} {fd : FuncData} {ps : List Str} {sp : Sp} {E : L2.St → XK} {x m : Str} {p pos apos : Pos} {e o : Expr} {es : List Expr} {ta : TE} {t : TA}
def tMethS (C : Addr) (m : Str) (sp : Sp) (E : L2.St → XK) (ta : TE) (t : TA) : TE := fun σ H Q => ta σ H fun y H1 => ∃ a dx fs, y = .ref a ∧ H1 a = some (.ins C dx fs) ∧ fs.lookup m = none ∧ t σ H1 fun vs H2 => sp (y :: vs) H2 Q (E σ)
theorem pe_methT {pl : Sem Bool} (he : PE X o ta) (cl : Cls X.K C) (hm : Meth X.K C m f) (F : FnOk X.prog X.w X.K X.mg X.base CX k f fd ps sp) (hr : Room k X.A) (hb : Binds X.K fd ps []) (hx : ∀ σ, PassesAt CX X σ (E σ)) (ha : PA X (e :: es) t)
    (hst : starEach (e :: es) X.env = (false, eval e X.env) :: starEach es X.env) (hpl : (backTo pos (starEach es X.env)).any (·.1) = false)
    (ht : eval (.Call (.Attribute o m apos) (e :: es) [] pos) X.env = (do
      let ov ← eval o X.env
      standAt apos.atName
      let (f, first) ← holding [ov] (getMethod ov m pl)
      callWith pos f first (backTo pos (starEach (e :: es) X.env)) (backToKw pos (keywordEach [] X.env)))) :
    PE X (.Call (.Attribute o m apos) (e :: es) [] pos) (tMethS C m sp E ta t) := ⟨fun pins s σ H Q I h => PySem.W.methodCall_KW (pl := pl) (thn (he.run pins s σ H _ I h) fun uv sa ⟨y, Ha, Ia, ry, a, dx, fs, ey, ea, lk, q⟩ => by
  subst ey
  cases ry
  exact getmeth_ok Ia ea cl hm lk (PySem.W.callWith_K (first := [.ref a]) (h₀ := X.base) I.ok.mod.kin hm.kp (thn (ha.run pos pins sa σ Ha _ Ia q) fun us sb ⟨vs, Hb, Ib, rv, q2⟩ => ⟨Ib.kIn, run_fnS (us := .ref a :: us) (vs := .ref a :: vs) F hr hb (hx σ) Ib (.cons rfl rv) q2⟩) hst hpl)) ht⟩
theorem pe_methT0 {pl : Sem Bool} (he : PE X o ta) (cl : Cls X.K C) (hm : Meth X.K C m f) (F : FnOk X.prog X.w X.K X.mg X.base CX k f fd ps sp) (hr : Room k X.A) (hb : Binds X.K fd ps []) (hx : ∀ σ, PassesAt CX X σ (E σ))
    (ht : eval (.Call (.Attribute o m apos) [] [] pos) X.env = (do
      let ov ← eval o X.env
      standAt apos.atName
      let (f, first) ← holding [ov] (getMethod ov m pl)
      callWith pos f first (backTo pos (starEach [] X.env)) (backToKw pos (keywordEach [] X.env)))) :
    PE X (.Call (.Attribute o m apos) [] [] pos) (tMethS C m sp E ta tNil) := ⟨fun pins s σ H Q I h => PySem.W.methodCall_KW (pl := pl) (thn (he.run pins s σ H _ I h) fun uv sa ⟨y, Ha, Ia, ry, a, dx, fs, ey, ea, lk, q⟩ => by
  subst ey
  cases ry
  exact getmeth_ok Ia ea cl hm lk (PySem.W.callWith_K0 (first := [.ref a]) Ia.kIn hm.kp (run_fnS (us := [.ref a]) (vs := [.ref a]) F hr hb (hx σ) Ia (.cons rfl .nil) q))) ht⟩
def tMakeS (C : Addr) (sp : Sp) (E : L2.St → XK) (t : TA) : TE := fun σ H Q => t σ H fun vs H1 => ∀ y dx, H1 y = none → H1 dx = none → dx ≠ y →
  sp (.ref y :: vs) (upd (upd H1 dx (.own y)) y (.ins C dx [])) (fun v H2 => v = .non ∧ Q (.ref y) H2) (E σ)
theorem run_makeT {pins : List (Addr × Obj)} {σ : L2.St} {H : Hp} {s : Shared} {Q : VK} {us : List Value} {vs : List V} (M : Mk X.K C f) (F : FnOk X.prog X.w X.K X.mg X.base CX k f fd ps sp) (hr : Room (k + 1) X.A) (hb : Binds X.K fd ps [])
    (hx : PassesAt CX X σ (E σ)) (I : Inv X pins σ H s) (rv : Vals vs us)
    (h : ∀ y dx, H y = none → H dx = none → dx ≠ y → sp (.ref y :: vs) (upd (upd H dx (.own y)) y (.ins C dx [])) (fun v H2 => v = .non ∧ Q (.ref y) H2) (E σ)) :
    wpAny (model X.prog X.w) X.A (call (.ref C) us) (EP X pins σ Q) X.xe s := by
  have hq := h (s.heap.objs.size + 1) s.heap.objs.size (I.hok.fresh (Nat.le_succ _)) (I.hok.fresh (Nat.le_refl _)) (Nat.ne_of_lt (Nat.lt_succ_self _))
  have J := Inv.made (C := C) I
  have rw2 : Vals (V.ref (s.heap.objs.size + 1) :: vs) (Value.ref (s.heap.objs.size + 1) :: us) := .cons rfl rv
  have hl : (Value.ref (s.heap.objs.size + 1) :: us ++ []).length = ps.length := by
    have z := rw2.length
    rw [F.len _ _ _ _ hq] at z
    rw [List.append_nil]
    exact z.symm
  have b := hb { s with heap := (s.heap.push PySem.W.emptyDict).push (PySem.W.instObj C s.heap.objs.size) } (Value.ref (s.heap.objs.size + 1) :: us) J.kIn hl
  rw [List.append_nil] at b
  refine wpAny_call (make_map (f := f) I.kIn M.makes M.init (beq_iff_eq.mp M.fn) (codeAny_mono (F.run _ X.stack _ _ ⟨Value.ref (s.heap.objs.size + 1) :: us, []⟩ (Value.ref (s.heap.objs.size + 1) :: us) _ _ (E σ) (hr.make C us []) (J.env0.make C us []) b rw2 hq) fun re s' hq' => ?_))
  cases re with
  | error ex => exact hx pins _ _ ex s' J hq'
  | ok fl =>
    cases fl with
    | ret u =>
      obtain ⟨v, H', J3, rv, ev, q3⟩ := J.after hq'
      subst ev
      exact ⟨rv, ⟨V.ref (s.heap.objs.size + 1), H', J3, rfl, q3⟩⟩
    | next => exact hq'.elim
    | brk => exact hq'.elim
    | cont => exact hq'.elim
theorem pe_makeT (M : Mk X.K C f) (F : FnOk X.prog X.w X.K X.mg X.base CX k f fd ps sp) (hr : Room (k + 1) X.A) (hg : Gl X x) (hm : X.mg x = some (.ref C)) (hb : Binds X.K fd ps []) (hx : ∀ σ, PassesAt CX X σ (E σ))
    (ha : PA X (e :: es) t) (hdb : (x == ("__debug__" : Str)) = false) (hs : starEach (e :: es) X.env = (false, eval e X.env) :: starEach es X.env) (hpl : (backTo pos (starEach es X.env)).any (·.1) = false) :
    PE X (.Call (.Name x p) (e :: es) [] pos) (tMakeS C sp E t) :=
  ⟨fun pins s σ H Q I h => wpAny_Call_Name_kw (ld_glob I hg hm (PySem.W.callWith_K (h₀ := X.base) I.ok.mod.kin M.kp (thn (ha.run pos pins s σ H _ I h) fun us sa ⟨vs, Ha, Ia, rv, q⟩ => ⟨Ia.kIn, run_makeT M F hr hb (hx σ) Ia rv q⟩) hs hpl) hdb)⟩
/-- len(o) by an own __len__ -/
def rLenT (C : Addr) (sp : Sp) : List V → Hp → VK → Prop := fun vs H Q => ∃ a dx fs, vs = [.ref a] ∧ H a = some (.ins C dx fs) ∧ sp [.ref a] H (fun v H2 => ∃ n : Nat, v = .int n ∧ n ≤ 1000000 ∧ Q (.int n) H2) (fun _ _ _ => False)
theorem cr_lenT (hs : PySem.W.findIn X.K (.ref C) "__len__" = some (some (.ref f))) (hf : PySem.W.isFn X.K (.ref f) = true) (F : FnOk X.prog X.w X.K X.mg X.base (L2.CX X.prog X.w) k f fd ps sp) (hr : Room (k + 1) X.A) (hb : Binds X.K fd ps []) : CallR X (.builtin "len") (rLenT C sp) := by
  intro pins s σ H vs us Q I rv h
  obtain ⟨a, dx, fs, rfl, ea, q⟩ := h
  rw [Vals.ref1 rv]
  obtain ⟨mA, O, _, _, _, _⟩ := ins_get I.hok ea
  obtain ⟨od, ho, _⟩ := lookIn_ns O.ns
  have IA : PySem.W.InstAt s.heap a (PySem.W.instObj C dx) C (some od) := ⟨O.obj, rfl, rfl, ho⟩
  refine Calls.call_function_entry kind_len plain_len entry_len (args_len1 _) ?_
  unfold Builtin.«len»
  refine wpAny_bind (m := oneArg "len" _) (wpAny_pure ?_)
  have hl : [Value.ref a].length = ps.length := F.len _ _ _ _ q
  have b := hb s [Value.ref a] I.kIn (by simpa using hl)
  have run := F.run X.A.in1 X.stack s H ⟨[.ref a], []⟩ [.ref a] [.ref a] (fun v H2 => ∃ n : Nat, v = .int n ∧ n ≤ 1000000 ∧ Q (.int n) H2) (fun _ _ _ => False) hr.in1 I.env0.in1 (by simpa using b) (.cons rfl .nil) q
  refine wpAny_bind (m := callSpecial? (.ref a) (Str.ofString "__len__")) (PySem.W.special_fn I.kIn IA hs (beq_iff_eq.mp hf) (wpAny_call (codeAny_mono run fun re s' hq => ?_)))
  cases re with
  | error ex => exact passAt takes0 σ pins H s ex s' I hq
  | ok fl =>
    cases fl with
    | ret uv =>
      obtain ⟨v, H', J, rv2, n, hv, hn, q3⟩ := I.after hq
      subst hv
      obtain ⟨tk, rfl⟩ := rv2
      refine wpAny_bind (wpAny_holding (wpAny_pure (wpAny_bind (wpAny_letGo ?_))))
      show wpAny _ _ (if (n : Int) < 0 then _ else _) _ _ _
      rw [if_neg (by omega)]
      show wpAny _ _ (if (n : Int) ≥ 2 ^ 63 then _ else _) _ _ _
      rw [if_neg (by omega)]
      exact wpAny_bind (wpAny_mkInt (wpAny_pure ⟨_, rfl, V.int n, H', J.tok _, ⟨_, rfl⟩, q3⟩))
    | next => exact hq.elim
    | brk => exact hq.elim
    | cont => exact hq.elim
end
end RL

/-! the forms of expression that look at tables -/
namespace RL
open PySem L2
/-- what is known of the tables' class -/
structure TCl (c : Cn) (K : PySem.W.Frag) : Prop where
  cl : Cls K c.tC
  nS : NoAttr K c.tC "size"
  nL : NoAttr K c.tC "line"
def isLine : Expr → Option Expr
  | .Attribute (.Name x p) f _ => if decide (f = "line") then some (.Name x p) else none
  | _ => none
theorem isLine_ok {e y : Expr} (h : isLine e = some y) : ∃ x p pos, e = .Attribute (.Name x p) "line" pos ∧ y = .Name x p := by
  unfold isLine at h
  split at h
  · split at h
    · rename_i q
      cases h
      have q := of_decide_eq_true q
      subst q
      exact ⟨_, _, _, rfl, rfl⟩
    · cases h
  · cases h
/-! ### meanings -/
def sSize : MF := fun ds w => match ds with
  | [.tab k] => match w.tb[k]? with
    | some (sz, _) => .ok (.int sz) w
    | none => .bad
  | _ => .bad
def sTLen : MF := fun ds w => match ds with
  | [.tab k] => match w.tb[k]? with
    | some (_, ln) => .ok (.int ln.length) w
    | none => .bad
  | _ => .bad
def sTEmp : MF := fun ds w => match ds with
  | [.tab k] => match w.tb[k]? with
    | some (_, ln) => if ln.all (okD 11) then .ok (.bl ln.isEmpty) w else .bad
    | none => .bad
  | _ => .bad
def sTApp : MF := fun ds w => match ds with
  | [.tab k, d] => match w.tb[k]? with
    | some (sz, ln) => if ln.length < 1000 then .ok .non { w with tb := w.tb.set k (sz, ln ++ [d]) } else .bad
    | none => .bad
  | _ => .bad
def sTPop : MF := fun ds w => match ds with
  | [.tab k] => match w.tb[k]? with
    | some (sz, ln) => match ln[ln.length - 1]? with
      | some d => .ok d { w with tb := w.tb.set k (sz, ln.dropLast) }
      | none => .bad
    | none => .bad
  | _ => .bad
def lentR (f : MF) (ln : List D) (w : Wd) : Res D := match f [.lst ln] ⟨none, []⟩ with
  | .ok y ⟨none, []⟩ => if plainL ln && hdT ln && noT y then .ok y w else .bad
  | _ => .bad
def sTLent (f : MF) : MF := fun ds w => match ds with
  | [.tab k] => match w.tb[k]? with
    | some (_, ln) => lentR f ln w
    | none => .bad
  | _ => .bad
/-! ### forms -/
def on1 (f : MF) : List ME → ME := fun ms => match ms with
  | [m] => fun r w => (m r w).bind fun d w => f [d] w
  | _ => fun _ _ => .bad
/-- the first is looked at ahead of the others -/
def onT (f : MF) : List ME → ME := fun ms => match ms with
  | m :: ms => fun r w => (m r w).bind fun d w => match d with
    | .tab k => (seqM ms r w).bind fun ds w => f (.tab k :: ds) w
    | _ => .bad
  | [] => fun _ _ => .bad
def hkSize : Hk := ⟨fun _ e => match e with
  | .Attribute (.Name x p) f _ => if decide (f = "size") then some [.Name x p] else none
  | _ => none, on1 sSize⟩
def hkTLen : Hk := ⟨fun κ e => match e with
  | .Call (.Name y _) [a] [] _ => if decide (y = "len") && glB κ.sc "len" then (isLine a).map fun z => [z] else none
  | _ => none, on1 sTLen⟩
def hkTEmp : Hk := ⟨fun _ e => match e with
  | .Compare a [.Eq] [.List [] _] _ => (isLine a).map fun z => [z]
  | _ => none, on1 sTEmp⟩
def hkTApp : Hk := ⟨fun _ e => match e with
  | .Call (.Attribute a nm apos) [x] [] cpos => if decide (nm = "append") && (apos.endLine == cpos.line) then (isLine a).map fun z => [z, x] else none
  | _ => none, onT sTApp⟩
def hkTPop : Hk := ⟨fun _ e => match e with
  | .Call (.Attribute a nm apos) [] [] cpos => if decide (nm = "pop") && (apos.endLine == cpos.line) then (isLine a).map fun z => [z] else none
  | _ => none, on1 sTPop⟩
def hkTLent (fn : Str) (f : MF) : Hk := ⟨fun κ e => match e with
  | .Call (.Name y _) [a] [] _ => if decide (y = fn) && glB κ.sc fn && plainN fn then (isLine a).map fun z => [z] else none
  | _ => none, on1 (sTLent f)⟩
theorem map_one {e : Option Expr} {xs : List Expr} (h : (e.map fun z => [z]) = some xs) : ∃ z, e = some z ∧ xs = [z] := by
  cases e with
  | none => cases h
  | some z => cases h; exact ⟨z, rfl, rfl⟩
section
variable {c : Cn} {X : Cx} {W : WX}
theorem lk_size {sz : Int} {l : Addr} : List.lookup ("size" : Str) [(("size" : Str), V.int sz), (("line" : Str), V.ref l)] = some (.int sz) := rfl
theorem lk_line {sz : Int} {l : Addr} : List.lookup ("line" : Str) [(("size" : Str), V.int sz), (("line" : Str), V.ref l)] = some (.ref l) := rfl
/-- the reading of a table's line -/
theorem rd_line (T : TCl c X.K) {f : MF} {m : ME} {σ : St} {H : Hp} {Q : VK} (hf : ∀ d w, (∀ i, d ≠ .tab i) → f [d] w = .bad) (h : rd c W (fun r w => (m r w).bind fun d w => f [d] w) σ H Q) {Q1 : VK}
    (kq : ∀ g1 H1 w1 i t dx l sz ln vs, WOk c g1 H1 w1 → g1.tb[i]? = some (t, dx, l) → w1.tb[i]? = some (sz, ln) → H1 t = some (.ins c.tC dx [("size", .int sz), ("line", .ref l)]) → H1 l = some (.lst vs) → RepL c g1 vs ln → l ∈ g1.wadr → post c (Rep c) g1 H1 Q (WE W σ) (f [.tab i] w1) → Q1 (.ref l) H1) : tFld X.K (rd c W m) "line" σ H Q1 := by
  obtain ⟨B, g, ρ, w, E, k, p⟩ := h
  refine ⟨B, g, ρ, w, E, k, bnd p fun g1 H1 x dx w1 _ e1 k1 r1 p1 => ?_⟩
  cases dx with
  | tab i =>
    obtain ⟨t, dx, l, sz, ln, vs, rfl, a1, a2, a3, a4, a5, a6, a7⟩ := tab_at k1 r1
    exact ⟨t, c.tC, dx, _, .ref l, rfl, a3, T.cl, T.nL, lk_line, kq g1 H1 w1 i t dx l sz ln vs k1 a1 a2 a3 a4 a5 a6 p1⟩
  | _ => rw [hf _ _ (fun i z => by cases z)] at p1; exact False.elim p1
theorem hkSize_ok (T : TCl c X.K) : HkOk c X W hkSize := by
  intro κ x xs ms xo hp ha
  simp only [hkSize] at hp
  split at hp
  · split at hp
    · rename_i q
      have q := of_decide_eq_true q
      subst q
      cases hp
      cases ha with
      | @cons _ _ m _ h1 s1 ha =>
        cases ha
        refine .plain ?_ (fun _ => rfl) (fun _ _ _ e => nomatch e)
        refine (pe_fld h1 rfl).mono fun σ H Q h => ?_
        obtain ⟨B, g, ρ, w, E, k, p⟩ := h
        have p : post c (Rep c) g H Q (WE W σ) ((m ρ w).bind fun d w => sSize [d] w) := p
        refine ⟨B, g, ρ, w, E, k, bnd p fun g1 H1 x dx w1 _ e1 k1 r1 p1 => ?_⟩
        cases dx with
        | tab i =>
          obtain ⟨t, dx, l, sz, ln, vs, rfl, a1, a2, a3, a4, a5, a6, a7⟩ := tab_at k1 r1
          simp only [sSize, a2] at p1
          exact ⟨t, c.tC, dx, _, .int sz, rfl, a3, T.cl, T.nS, lk_size, p1 g1 H1 _ (Ext.refl _ _) k1 (.int _)⟩
        | _ => exact False.elim p1
    · cases hp
  · cases hp
theorem hkTLen_ok (T : TCl c X.K) (hm : X.mg "len" = none) : HkOk c X W hkTLen := by
  intro κ x xs ms xo hp ha
  simp only [hkTLen] at hp
  split at hp
  · split at hp
    · rename_i q
      simp only [Bool.and_eq_true, decide_eq_true_eq] at q
      obtain ⟨q1, q2⟩ := q
      subst q1
      obtain ⟨z, hz, rfl⟩ := map_one hp
      obtain ⟨y, p, pos, rfl, rfl⟩ := isLine_ok hz
      cases ha with
      | cons h1 s1 ha =>
        cases ha
        refine .plain ?_ (fun _ => rfl) (fun _ _ _ e => nomatch e)
        refine (pe_callB call_len (xo.gl q2) hm PySem.boot_len (pa_cons (pe_fld h1 rfl) pa_nil rfl) (by decide) (by decide) rfl rfl).mono fun σ H Q h => ?_
        refine rd_line T (f := sTLen) (fun d w hd => ?_) h fun g1 H1 w1 i t dx l sz ln vs k1 a1 a2 a3 a4 a5 a6 p1 => ?_
        · cases d <;> first | rfl | exact absurd rfl (hd _)
        · simp only [sTLen, a2] at p1
          exact ⟨_, _, rfl, .inl ⟨_, SqL.of a4, rfl⟩, by rw [a5.length]; exact p1 g1 H1 _ (Ext.refl _ _) k1 (.int _)⟩
    · cases hp
  · cases hp
theorem emp_core (T : TCl c X.K) {m : ME} {σ : St} {H : Hp} {Q : VK} (h : rd c W (fun r w => (m r w).bind fun d w => sTEmp [d] w) σ H Q) : tOp (rEqD X.K) (tFld X.K (rd c W m) "line") (tLst tNil) σ H Q := by
  refine rd_line T (f := sTEmp) (fun d w hd => by cases d <;> first | rfl | exact absurd rfl (hd _)) h fun g1 H1 w1 i t dx l sz ln vs k1 a1 a2 a3 a4 a5 a6 p1 => ?_
  simp only [sTEmp, a2] at p1
  split at p1
  · rename_i hok
    refine ⟨Nat.zero_le _, fun q hq => ?_⟩
    have k2 := k1.write (o := .lst []) (k1.notW hq) (k1.fresh hq)
    have nl : l ≠ q := ne_of_none a4 hq
    have hl : upd H1 q (.lst []) l = some (.lst vs) := by rw [upd_ne nl]; exact a4
    have d1 : Dp X.K (upd H1 q (.lst [])) (.ref l) (toPy (.lst ln)) := by
      simp only [toPy]
      exact .lst (SqL.of hl) (RepL.dp k2.sub (n := 11) hok a5)
    have d2 : Dp X.K (upd H1 q (.lst [])) (.ref q) (toPy (.lst [])) := by
      simp only [toPy, toPyL]
      exact .lst (SqL.of upd_same) .nil
    have o1 : okD 12 (.lst ln) = true := hok
    refine ⟨_, _, d1, d2, ok_shaped (by decide) o1, ok_shaped (n := 12) (by decide) rfl, ?_⟩
    rw [eq_py 12 _ _ o1 rfl]
    have e9 : eqN 12 (.lst ln) (.lst []) = ln.isEmpty := by cases ln <;> rfl
    rw [e9]
    exact p1 g1 _ _ (Ext.upd hq) k2 (.bl _)
  · exact False.elim p1
theorem hkTEmp_ok (T : TCl c X.K) (hu : X.A.units + 65 < cLine) : HkOk c X W hkTEmp := by
  intro κ x xs ms xo hp ha
  simp only [hkTEmp] at hp
  split at hp
  · obtain ⟨z, hz, rfl⟩ := map_one hp
    obtain ⟨y, p, pos, rfl, rfl⟩ := isLine_ok hz
    cases ha with
    | cons h1 s1 ha =>
      cases ha
      refine ⟨?_, fun _ => ?_, fun _ _ _ e => nomatch e⟩
      · exact (pe_cmpR (op_eqD (by omega)) (pe_fld h1 rfl) (pe_lst pa_nil) rfl).mono fun σ H Q h => emp_core T h
      · exact (pt_cmpR (op_eqD (by omega)) (pe_fld h1 rfl) (pe_lst pa_nil) rfl).mono fun σ H Q h => emp_core T (rd_test h)
  · cases hp
theorem hkTApp_ok (T : TCl c X.K) : HkOk c X W hkTApp := by
  intro κ x xs ms xo hp ha
  simp only [hkTApp] at hp
  split at hp
  · split at hp
    · rename_i q
      simp only [Bool.and_eq_true, decide_eq_true_eq] at q
      obtain ⟨q1, q2⟩ := q
      subst q1
      rename_i a apos b cpos
      cases hl : isLine a with
      | none => rw [hl] at hp; cases hp
      | some z =>
        rw [hl] at hp
        cases hp
        obtain ⟨y, p, pos, rfl, rfl⟩ := isLine_ok hl
        cases ha with
        | @cons _ _ m _ h1 s1 ha =>
          cases ha with
          | @cons _ _ m2 _ h2 s2 ha =>
            cases ha
            refine .plain ?_ (fun _ => rfl) (fun _ _ _ e => nomatch e)
            refine (pe_bm PySem.F.plainAttrs_list PySem.F.slot_list_append PySem.F.type_list_append mt_append (pe_fld h1 rfl) (pa_cons h2 pa_nil (star_cons s2)) rfl (by rw [star_cons s2]; rfl) q2 (star_cons s2) rfl).mono fun σ H Q h => ?_
            obtain ⟨B, g, ρ, w, E, k, p⟩ := h
            have p : post c (Rep c) g H Q (WE W σ) ((m ρ w).bind fun d w => match d with
              | .tab k => (seqM [m2] ρ w).bind fun ds w => sTApp (.tab k :: ds) w
              | _ => .bad) := p
            refine ⟨B, g, ρ, w, E, k, bnd p fun g1 H1 x dx w1 _ e1 k1 r1 p1 => ?_⟩
            cases dx with
            | tab i =>
              obtain ⟨t, dx, l, sz, ln, vs, rfl, a1, a2, a3, a4, a5, a6, a7⟩ := tab_at k1 r1
              have p1 : post c (Rep c) g1 H1 Q (WE W σ) ((seqM [m2] ρ w1).bind fun ds w => sTApp (.tab i :: ds) w) := p1
              simp only [seqM, mCons, mNil, Res.assoc] at p1
              refine ⟨t, c.tC, dx, _, .ref l, rfl, a3, T.cl, T.nL, lk_line, .inl ⟨rfl, vs, SqL.of a4⟩, B, g1, ρ, w1, E.ext e1, k1, bnd p1 fun g2 H2 v d w2 _ e2 k2 r2 p2 => ?_⟩
              obtain ⟨t', dx', l', sz', ln', vs', e3, b1, b2, b3, b4, b5, b6, b7⟩ := tab_at k2 (r1.mono e2.toGle)
              have a1' := e2.tb i _ a1
              rw [a1'] at b1
              cases b1
              simp only [Res.bind, sTApp, b2] at p2
              split at p2
              · rename_i hlen
                have hz : vs'.length < sizeLine := by
                  rw [b5.length, sizeLine_eq]
                  omega
                obtain ⟨k3, x3⟩ := tab_set (ln' := ln' ++ [d]) k2 a1' b2 (b5.append (.cons r2 .nil))
                exact ⟨l, vs', v, rfl, rfl, b4, hz, p2 g2 _ .non x3 k3 .non⟩
              · exact False.elim p2
            | _ => exact False.elim p1
    · cases hp
  · cases hp
theorem rep_last {g : Gs} {vs : List V} {ln : List D} (r : RepL c g vs ln) {d : D} (h : ln[ln.length - 1]? = some d) : ∃ v, vs[vs.length - 1]? = some v ∧ Rep c g v d ∧ RepL c g vs.dropLast ln.dropLast := by
  obtain ⟨v, h1, h2⟩ := r.getD h
  refine ⟨v, by rw [r.length]; exact h1, h2, ?_⟩
  rw [List.dropLast_eq_take, List.dropLast_eq_take, r.length]
  exact r.take _
theorem hkTPop_ok (T : TCl c X.K) : HkOk c X W hkTPop := by
  intro κ x xs ms xo hp ha
  simp only [hkTPop] at hp
  split at hp
  · split at hp
    · rename_i q
      simp only [Bool.and_eq_true, decide_eq_true_eq] at q
      obtain ⟨q1, q2⟩ := q
      subst q1
      obtain ⟨z, hz, rfl⟩ := map_one hp
      obtain ⟨y, p, pos, rfl, rfl⟩ := isLine_ok hz
      cases ha with
      | cons h1 s1 ha =>
        cases ha
        refine .plain ?_ (fun _ => rfl) (fun _ _ _ e => nomatch e)
        refine (pe_bm0 PySem.F.plainAttrs_list PySem.F.slot_list_pop PySem.F.type_list_pop mt_pop (pe_fld h1 rfl) rfl q2).mono fun σ H Q h => ?_
        refine rd_line T (f := sTPop) (fun d w hd => ?_) h fun g1 H1 w1 i t dx l sz ln vs k1 a1 a2 a3 a4 a5 a6 p1 => ?_
        · cases d <;> first | rfl | exact absurd rfl (hd _)
        · simp only [sTPop, a2] at p1
          cases hd : ln[ln.length - 1]? with
          | none => rw [hd] at p1; exact False.elim p1
          | some d =>
            rw [hd] at p1
            obtain ⟨v, b1, b2, b3⟩ := rep_last a5 hd
            obtain ⟨k3, x3⟩ := tab_set (ln' := ln.dropLast) k1 a1 a2 b3
            exact ⟨.inl ⟨rfl, vs, SqL.of a4⟩, l, vs, v, rfl, rfl, a4, b1, p1 g1 _ v x3 k3 b2⟩
    · cases hp
  · cases hp
/-- f(x.line) -/
theorem hkTLent_ok (T : TCl c X.K) {fn : Str} {f : MF} (tk : Takes X W) (F : FOk c X fn 1 f) : HkOk c X W (hkTLent fn f) := by
  intro κ x xs ms xo hp ha
  simp only [hkTLent] at hp
  split at hp
  · split at hp
    · rename_i q
      simp only [Bool.and_eq_true, decide_eq_true_eq] at q
      obtain ⟨⟨q1, q2⟩, q3⟩ := q
      subst q1
      obtain ⟨z, hz, rfl⟩ := map_one hp
      obtain ⟨y, p, pos, rfl, rfl⟩ := isLine_ok hz
      cases ha with
      | cons h1 s1 ha =>
        cases ha
        refine .plain ?_ (fun _ => rfl) (fun _ _ _ e => nomatch e)
        obtain ⟨kk, fa, fd, ps, F, hr, hm, hk, hb⟩ := F.ex
        refine (pe_callSD (E := fun σ => WE W σ) F hr (xo.gl q2) hm hk hb .nil (fun σ => passAt tk σ) (pa_cons (pe_fld h1 rfl) pa_nil rfl) (plainN_ok q3).1 rfl rfl).mono fun σ H Q h => ?_
        refine rd_line T (f := sTLent f) (fun d w hd => ?_) h fun g1 H1 w1 i t dx l sz ln vs k1 a1 a2 a3 a4 a5 a6 p1 => ?_
        · cases d <;> first | rfl | exact absurd rfl (hd _)
        · simp only [sTLent, a2] at p1
          unfold lentR at p1
          split at p1
          · rename_i y hf
            split at p1
            · rename_i hc
              simp only [Bool.and_eq_true] at hc
              obtain ⟨⟨c1, c2⟩, c3⟩ := hc
              have hF := k1.out l a6
              have kl := lent_ok (vs := vs) k1 a4
              have rl := lent_repL (vs := vs) hF a5 c1
              refine ⟨rfl, lentG g1 l vs, [.lst ln], ⟨none, []⟩, .cons (.lst (by show upd g1.F l _ l = _; exact upd_same) rl) .nil, kl, ?_⟩
              rw [hf]
              intro g2 H2 v x2 k2 r2
              obtain ⟨x3, k3⟩ := back_ok k1 a6 x2 k2
              have hd2 : g2.dr = none := k2.dr0 rfl
              have ht2 : g2.tb = [] := List.eq_nil_of_length_eq_zero k2.tbl
              exact p1 _ _ v x3 k3 (back_rep hd2 ht2 (x2.sF l _ (by show upd g1.F l _ l = _; exact upd_same)) (rl.mono x2.toGle) c2 r2 c3)
            · exact False.elim p1
          · exact False.elim p1
    · cases hp
  · cases hp
end
end RL

/-! tables made, their methods, their copies -/
namespace RL
open PySem L2
theorem BOk.mono {P : Program} {w : World} {K : PySem.W.Frag} {mg : Str → Option Value} {base : Heap} {j k : Nat} {X : Cx} (b : BOk P w K mg base k X) (h : j ≤ k) : BOk P w K mg base j X := ⟨b.prog, b.w, b.K, b.mg, b.base, b.calm, b.room.mono h⟩
def Tab.addH (T : Tab) (p : Hk) : Tab := { T with hks := T.hks ++ [p] }
section
variable {c : Cn} {P : Program} {w : World} {K : PySem.W.Frag} {mg : Str → Option Value} {base : Heap} {k : Nat} {T : Tab}
/-- one form more -/
theorem tok_hk (HT : TOk c P w K mg base k T) {p : Hk} {j : Nat} (hj : k ≤ j) (h : ∀ X W, BOk P w K mg base j X → Takes X W → HkOk c X W p) : TOk c P w K mg base j (T.addH p) := by
  refine ⟨fun X b i p e => HT.fns X (b.mono hj) i p e, fun X W b => HT.pri X W (b.mono hj), fun X W b => HT.bmt X W (b.mono hj), HT.cs, fun X b => HT.exs X (b.mono hj), HT.range, HT.list, HT.enumerate, HT.zip, HT.isinstance, HT.int, HT.bool, HT.str, HT.tuple, HT.trs, HT.cls, fun X W b => HT.pr2 X W (b.mono hj), fun X W b tk i q e => ?_⟩
  have e : (T.hks ++ [p])[i]? = some q := e
  by_cases hi : i < T.hks.length
  · rw [List.getElem?_append_left hi] at e
    exact HT.hks X W (b.mono hj) tk i q e
  · rw [List.getElem?_append_right (by omega)] at e
    cases z : i - T.hks.length with
    | succ j => rw [z] at e; simp at e
    | zero =>
      rw [z] at e
      simp at e
      subst e
      exact h X W b tk
end
/-! ### methods -/
def lenIs (n : Nat) (f : MF) : MF := fun ds w => if ds.length = n then f ds w else .bad
def hkMeth (nm : Str) (n : Nat) (f : MF) : Hk := ⟨fun _ e => match e with
  | .Call (.Attribute (.Name x p) m apos) args [] cpos => if decide (m = nm) && (apos.endLine == cpos.line) && decide (args.length < 30) then some (.Name x p :: args) else none
  | _ => none, onT (lenIs n f)⟩
theorem meth_eval {x m : Str} {p apos cpos : Pos} {args : List Expr} {env : PySem.Env} (hs : ∀ z ∈ args, isStar z = false) (hl : (apos.endLine == cpos.line) = true) (hn : args.length < 30) :
    eval (.Call (.Attribute (.Name x p) m apos) args [] cpos) env = (do
      let ov ← eval (.Name x p) env
      standAt apos.atName
      let (f, first) ← holding [ov] (getMethod ov m (do return (← importBound (.Name x p) env).getD true))
      callWith cpos f first (backTo cpos (starEach args env)) (backToKw cpos (keywordEach [] env))) := by
  have hf : methodCallForm (args.length + ([] : List Keyword).length) (backTo cpos (starEach args env)) (backToKw cpos (keywordEach [] env)) = true := by
    unfold methodCallForm
    rw [star_all hs]
    show (true && true && decide (args.length + 0 + 0 < 30)) = true
    simp only [Bool.and_self, Bool.true_and, decide_eq_true_eq]
    omega
  have e : eval (.Call (.Attribute (.Name x p) m apos) args [] cpos) env = (do
      let ov ← eval (.Name x p) env
      standAt apos.atName
      methodCall (.Name x p) m apos cpos env ov (args.length + ([] : List Keyword).length) (backTo cpos (starEach args env)) (backToKw cpos (keywordEach [] env))) := rfl
  rw [e]
  unfold methodCall calleeOf methodCallPos
  rw [hf, hl]
  rfl
section
variable {c : Cn} {X : Cx} {W : WX}
theorem lk_no {nm : Str} (h1 : (nm == ("size" : Str)) = false) (h2 : (nm == ("line" : Str)) = false) {a b : V} : List.lookup nm [(("size" : Str), a), (("line" : Str), b)] = none := by
  simp only [List.lookup, h1, h2]
theorem hkMeth_ok (T : TCl c X.K) {nm : Str} {f : MF} {n j : Nat} {fa : Addr} {fd : FuncData} {ps : List Str} (tk : Takes X W) (hm : Meth X.K c.tC nm fa) (F : FnOk X.prog X.w X.K X.mg X.base (L2.CX X.prog X.w) j fa fd ps (spOf c n f)) (hr : Room j X.A) (hb : Binds X.K fd ps [])
    (h1 : (nm == ("size" : Str)) = false) (h2 : (nm == ("line" : Str)) = false) : HkOk c X W (hkMeth nm n f) := by
  intro κ x xs ms xo hp ha
  simp only [hkMeth] at hp
  split at hp
  · rename_i y p m apos args pos
    split at hp
    · rename_i q
      simp only [Bool.and_eq_true, decide_eq_true_eq] at q
      obtain ⟨⟨q, ql⟩, qn⟩ := q
      subst q
      cases hp
      cases ha with
      | @cons _ _ m _ e1 s1 ha =>
        refine .plain ?_ (fun _ => rfl) (fun _ _ _ e => nomatch e)
        cases ha with
        | nil =>
          refine (pe_methT0 e1 T.cl hm F hr hb (fun σ => passAt tk σ) (meth_eval (fun z hz => by cases hz) ql qn)).mono fun σ H Q h => ?_
          obtain ⟨B, g, ρ, w, E, k, p⟩ := h
          have p : post c (Rep c) g H Q (WE W σ) ((m ρ w).bind fun d w => match d with
            | .tab k => (seqM [] ρ w).bind fun ds w => lenIs n f (.tab k :: ds) w
            | _ => .bad) := p
          refine ⟨B, g, ρ, w, E, k, bnd p fun g1 H1 x dx w1 _ e1 k1 r1 p1 => ?_⟩
          cases dx with
          | tab i =>
            obtain ⟨t, dx, l, sz, ln, vs, rfl, a1, a2, a3, a4, a5, a6, a7⟩ := tab_at k1 r1
            have p1 : post c (Rep c) g1 H1 Q (WE W σ) (lenIs n f [.tab i] w1) := p1
            unfold lenIs at p1
            split at p1
            · rename_i hl
              exact ⟨t, dx, _, rfl, a3, lk_no h1 h2, hl, g1, [.tab i], w1, .cons r1 .nil, k1, p1⟩
            · exact False.elim p1
          | _ => exact False.elim p1
        | @cons a as m2 ms2 e2 s2 ha =>
          have hA : AEs c X W (a :: as) (m2 :: ms2) := .cons e2 s2 ha
          refine (pe_methT e1 T.cl hm F hr hb (fun σ => passAt tk σ) hA.pa (star_cons s2) (star_any fun z hz => ha.st z hz) (meth_eval hA.st ql qn)).mono fun σ H Q h => ?_
          obtain ⟨B, g, ρ, w, E, k, p⟩ := h
          have p : post c (Rep c) g H Q (WE W σ) ((m ρ w).bind fun d w => match d with
            | .tab k => (seqM (m2 :: ms2) ρ w).bind fun ds w => lenIs n f (.tab k :: ds) w
            | _ => .bad) := p
          refine ⟨B, g, ρ, w, E, k, bnd p fun g1 H1 x dx w1 _ e1 k1 r1 p1 => ?_⟩
          cases dx with
          | tab i =>
            obtain ⟨t, dx, l, sz, ln, vs, rfl, a1, a2, a3, a4, a5, a6, a7⟩ := tab_at k1 r1
            have p1 : post c (Rep c) g1 H1 Q (WE W σ) ((seqM (m2 :: ms2) ρ w1).bind fun ds w => lenIs n f (.tab i :: ds) w) := p1
            refine ⟨t, dx, _, rfl, a3, lk_no h1 h2, B, g1, ρ, w1, E.ext e1, k1, bnd p1 fun g2 H2 vs ds w2 _ e2 k2 r2 p2 => ?_⟩
            unfold lenIs at p2
            split at p2
            · rename_i hl
              exact ⟨by rw [List.length_cons, r2.length]; exact hl, g2, .tab i :: ds, w2, .cons (r1.mono e2.toGle) r2, k2, p2⟩
            · exact False.elim p2
          | _ => exact False.elim p1
    · cases hp
  · cases hp
end
/-! ### len(x) -/
def sLenT (f : MF) : MF := fun ds w => match ds with
  | [.tab k] => match f [.tab k] w with
    | .ok (.int n) w' => if decide (0 ≤ n) && decide (n ≤ 1000000) then .ok (.int n) w' else .bad
    | _ => .bad
  | _ => .bad
def hkLenT (f : MF) : Hk := ⟨fun κ e => match e with
  | .Call (.Name y _) [.Name x p] [] _ => if decide (y = "len") && glB κ.sc "len" then some [.Name x p] else none
  | _ => none, on1 (sLenT f)⟩
section
variable {c : Cn} {X : Cx} {W : WX}
theorem hkLenT_ok {f : MF} {j : Nat} {fa : Addr} {fd : FuncData} {ps : List Str} (hm : X.mg "len" = none) (hs : PySem.W.findIn X.K (.ref c.tC) "__len__" = some (some (.ref fa))) (hf : PySem.W.isFn X.K (.ref fa) = true) (F : FnOk X.prog X.w X.K X.mg X.base (L2.CX X.prog X.w) j fa fd ps (spOf c 1 f)) (hr : Room (j + 1) X.A) (hb : Binds X.K fd ps []) : HkOk c X W (hkLenT f) := by
  intro κ x xs ms xo hp ha
  simp only [hkLenT] at hp
  split at hp
  · split at hp
    · rename_i q
      simp only [Bool.and_eq_true, decide_eq_true_eq] at q
      obtain ⟨q1, q2⟩ := q
      subst q1
      cases hp
      cases ha with
      | @cons _ _ m _ h1 s1 ha =>
        cases ha
        refine .plain ?_ (fun _ => rfl) (fun _ _ _ e => nomatch e)
        refine (pe_callB (cr_lenT (C := c.tC) hs hf F hr hb) (xo.gl q2) hm PySem.boot_len (pa_cons h1 pa_nil rfl) (by decide) (by decide) rfl rfl).mono fun σ H Q h => ?_
        obtain ⟨B, g, ρ, w, E, k, p⟩ := h
        have p : post c (Rep c) g H Q (WE W σ) ((m ρ w).bind fun d w => sLenT f [d] w) := p
        refine ⟨B, g, ρ, w, E, k, bnd p fun g1 H1 x dx w1 _ e1 k1 r1 p1 => ?_⟩
        cases dx with
        | tab i =>
          obtain ⟨t, dx, l, sz, ln, vs, rfl, a1, a2, a3, a4, a5, a6, a7⟩ := tab_at k1 r1
          refine ⟨t, dx, _, rfl, a3, rfl, g1, [.tab i], w1, .cons r1 .nil, k1, ?_⟩
          simp only [sLenT] at p1
          split at p1
          · rename_i n w' hf'
            split at p1
            · rename_i hc
              simp only [Bool.and_eq_true, decide_eq_true_eq] at hc
              rw [hf']
              intro g2 H2 v x2 k2 r2
              cases r2
              obtain ⟨z, rfl⟩ : ∃ z : Nat, n = (z : Int) := ⟨n.toNat, by omega⟩
              exact ⟨z, rfl, by omega, p1 g2 H2 _ x2 k2 (.int _)⟩
            · exact False.elim p1
          · exact False.elim p1
        | _ => exact False.elim p1
    · cases hp
  · cases hp
end
/-! ### making -/
/-- what __init__ finds of the number of quantities -/
def mInit (f : MF) (d : D) (w : Wd) : Res Int := (f [d, .int 1, .int 3] w).bind fun b w => match b, d with
  | .bl true, .int n => .ok n w
  | .bl false, _ => .exc 3 w
  | _, _ => .bad
def sMk (f : MF) : MF := fun ds w => match ds with
  | [d] => match mInit f d w with
    | .ok n w' => .ok (.tab w'.tb.length) { w' with tb := w'.tb ++ [(n, [])] }
    | .exc k w' => .exc k w'
    | .bad => .bad
  | _ => .bad
def spInit (c : Cn) (f : MF) : Sp := fun vs H Q E => ∃ y dx v g d w Hp, vs = [.ref y, v] ∧ Hp y = none ∧ Hp dx = none ∧ dx ≠ y ∧ H = upd (upd Hp dx (.own y)) y (.ins c.tC dx []) ∧ Rep c g v d ∧ WOk c g Hp w ∧
  match mInit f d w with
  | .ok n w' => ∀ g' H', Ext g Hp g' H' → WOk c g' H' { w' with tb := w'.tb ++ [(n, [])] } → (∃ dx l, g'.tb[w'.tb.length]? = some (y, dx, l)) → Q .non H'
  | .exc k w' => ∀ g' H', Ext g Hp g' H' → WOk c g' H' w' → E (.ref (c.ec k)) none H'
  | .bad => False
section
variable {c : Cn}
theorem wtb_app : ∀ (a b : List (Addr × Addr × Addr)), wtb (a ++ b) = wtb a ++ wtb b
  | [], b => rfl
  | (t, dx, l) :: a, b => by simp [wtb, wtb_app a b]
/-- a table more -/
theorem tab_new {g : Gs} {H : Hp} {w : Wd} {y dx l : Addr} {n : Int} (k : WOk c g H w) (hy : g.F y = none) (hyw : y ∉ g.wadr) (hl : g.F l = none) (hlw : l ∉ g.wadr) (hyl : y ≠ l) (e1 : H y = some (.ins c.tC dx [("size", .int n), ("line", .ref l)])) (e2 : H l = some (.lst [])) :
    WOk c { g with tb := g.tb ++ [(y, dx, l)] } H { w with tb := w.tb ++ [(n, [])] } ∧ Gle g { g with tb := g.tb ++ [(y, dx, l)] } := by
  have wa : ({ g with tb := g.tb ++ [(y, dx, l)] } : Gs).wadr = g.wadr ++ [y, l] := by
    simp [Gs.wadr, wtb_app, wtb]
  have G : Gle g { g with tb := g.tb ++ [(y, dx, l)] } := ⟨Same.refl _, fun _ q => q, fun i p q => by
    show (g.tb ++ [(y, dx, l)])[i]? = some p
    rw [List.getElem?_append_left (List.getElem?_eq_some_iff.mp q).1]
    exact q⟩
  refine ⟨⟨k.sub, k.dr, k.dr0, fun i sz ln e => ?_, by simp [k.tbl], ?_, fun a ha => ?_⟩, G⟩
  · have e : (w.tb ++ [(n, [])])[i]? = some (sz, ln) := e
    by_cases hi : i < w.tb.length
    · rw [List.getElem?_append_left hi] at e
      obtain ⟨t, dx', l', vs, b1, b2, b3, b4⟩ := k.tb i sz ln e
      exact ⟨t, dx', l', vs, G.tb i _ b1, b2, b3, b4.mono G⟩
    · rw [List.getElem?_append_right (by omega)] at e
      cases z : i - w.tb.length with
      | succ j => rw [z] at e; simp at e
      | zero =>
        rw [z] at e
        simp at e
        obtain ⟨rfl, rfl⟩ := e
        have hi' : i = g.tb.length := by rw [k.tbl]; omega
        refine ⟨y, dx, l, [], ?_, e1, e2, .nil⟩
        show (g.tb ++ [(y, dx, l)])[i]? = _
        rw [hi', List.getElem?_append_right (Nat.le_refl _)]
        simp
  · rw [wa, List.nodup_append]
    refine ⟨k.nd, by simp [hyl], fun a ha b hb => ?_⟩
    simp at hb
    rcases hb with rfl | rfl
    · exact fun z => hyw (z ▸ ha)
    · exact fun z => hlw (z ▸ ha)
  · rw [wa, List.mem_append] at ha
    rcases ha with ha | ha
    · exact k.out a ha
    · simp at ha
      rcases ha with rfl | rfl
      · exact hy
      · exact hl
end
section
variable {c : Cn} {P : Program} {w : World} {K : PySem.W.Frag} {mg : Str → Option Value} {base : Heap} {k : Nat} {T : Tab}
def initT (i : Nat) : E := .not (.call i (.cons (.var 1) (.cons (.cst (.int 1)) (.cons (.cst (.int 3)) .nil))))
theorem init_ok (HT : TOk c P w K mg base k T) (TC : TCl c K) {qual : Str} {st : Stmt} {f : Addr} {fd : FuncData} {i : Nat} (F : Fun K "__init__" qual st f fd) (SC : FnScope ["self", "size"] ["self", "size"] (defScope st))
    {x : Expr} {p1 p2 p3 p4 p5 p6 p7 p8 p9 p10 p11 p12 p13 : Pos} {msg : Str} {jj : Nat}
    (hd : defBody st = [.If x [.Raise (some (.Call (.Name "BadNumber" p9) [.Constant (.str msg) jj p10] [] p11)) none p12] [] p1, .Assign [.Attribute (.Name "self" p2) "size" p3] (.Name "size" p4) p5, .Assign [.Attribute (.Name "self" p6) "line" p7] (.List [] p8) p13])
    (q : chkE T ⟨["self", "size"], defScope st, fun _ => true⟩ (initT i) x = true) (qi : isIfE x = false) (hex : T.exs[3]? = some ("BadNumber" : Str)) (hgx : glB (defScope st) "BadNumber" = true)
    (hs : slotB ⟨["self", "size"], defScope st, fun _ => true⟩ 0 "self" = true) (hz : slotB ⟨["self", "size"], defScope st, fun _ => true⟩ 1 "size" = true) :
    FnOk P w K mg base (L2.CX P w) (k + 1) f fd ["self", "size"] (spInit c (T.fns.getD i noF).2.2) := by
  refine F.okX SC (fun vs H Q E h => by obtain ⟨y, dx, v, g, d, w, Hp, rfl, _⟩ := h; rfl) fun cdv A outer s H vs Q E hr h => ?_
  obtain ⟨y, dx, v, g, d, w0, Hp, rfl, hy, hdx, ndy, rfl, rv, kp, hq⟩ := h
  have xo : XOk ⟨["self", "size"], defScope st, fun _ => true⟩ (cxOf (L2.CX P w) P w K mg base ["self", "size"] qual (defScope st) f cdv A outer s (upd (upd Hp dx (.own y)) y (.ins c.tC dx [])) E) (fun cls d _ H => E cls d H) := ⟨rfl, SC.nd, rfl, rfl, takes_of rfl rfl rfl rfl⟩
  have bo : BOk P w K mg base k (cxOf (L2.CX P w) P w K mg base ["self", "size"] qual (defScope st) f cdv A outer s (upd (upd Hp dx (.own y)) y (.ins c.tC dx [])) E) := ⟨rfl, rfl, rfl, rfl, rfl, rfl, hr⟩
  obtain ⟨s1, s2, s3, s4⟩ := xo.slot hs
  obtain ⟨z1, z2, z3, z4⟩ := xo.slot hz
  have test := (sndE HT (initT i) _ _ _ x bo xo q).pt qi
  rw [hd]
  refine ⟨_, pss_cons (ps_if test (pss_one (ps_raise rfl xo.tk (HT.exs _ bo 3 "BadNumber" hex msg jj p9 p10 p11 (xo.gl hgx) (by decide)))) pss_nil) (pss_cons (ps_fld (pe_var s1 s2 s3 s4) (pe_var z1 z2 z3 z4) rfl) (pss_one (ps_fld (pe_var s1 s2 s3 s4) (pe_lst pa_nil) rfl))), ?_⟩
  have kd := kp.write (o := .own y) (kp.notW hdx) (kp.fresh hdx)
  have hy1 : upd Hp dx (.own y) y = none := by rw [upd_ne (Ne.symm ndy)]; exact hy
  have ky := kd.write (o := .ins c.tC dx []) (kd.notW hy1) (kd.fresh hy1)
  have xd : Ext g Hp g (upd (upd Hp dx (.own y)) y (.ins c.tC dx [])) := (Ext.upd hdx).trans (Ext.upd hy1)
  have fy : g.F y = none := kp.fresh hy
  have wy : y ∉ g.wadr := kp.notW hy
  have hyo : upd (upd Hp dx (.own y)) y (.ins c.tC dx []) y = some (.ins c.tC dx []) := upd_same
  have nny : upd (upd Hp dx (.own y)) y (.ins c.tC dx []) y ≠ none := by rw [hyo]; simp
  have E0 : EOk c (upd (upd Hp dx (.own y)) y (.ins c.tC dx [])) g (upd (upd Hp dx (.own y)) y (.ins c.tC dx [])) [.emp, .dat d] (L2.start ["self", "size"] [.ref y, v]) := by
    refine ⟨rfl, fun j e he => ?_, fun _ => 0, fun j e he => ?_, fun j l e e' he => ?_⟩
    · match j, he with
      | 0, he => simp at he
      | 1, he =>
        simp at he
        subst he
        exact ⟨v, rfl, rv⟩
      | j + 2, he => simp at he
    · match j, he with
      | 0, he => simp at he
      | 1, he => simp at he
      | j + 2, he => simp at he
    · match j, he with
      | 0, he => simp at he
      | 1, he => simp at he
      | j + 2, he => simp at he
  have hev : ev T (initT i) [.emp, .dat d] w0 = (((T.fns.getD i noF).2.2 [d, .int 1, .int 3]) w0).bind fun b w => lift (dNot b) w := by
    simp only [initT, ev, evs, mUn, mCall, mCons, mNil, mVar, mCst, List.getElem?_cons_succ, List.getElem?_cons_zero, Res.bind]
  refine ⟨_, g, [.emp, .dat d], w0, E0, ky, ?_⟩
  rw [hev]
  unfold mInit at hq
  cases hf : (T.fns.getD i noF).2.2 [d, .int 1, .int 3] w0 with
  | bad => rw [hf] at hq; exact False.elim hq
  | exc j w1 =>
    rw [hf] at hq
    exact fun g1 H1 x1 k1 => hq g1 H1 (xd.trans x1) k1
  | ok b w1 =>
    rw [hf] at hq
    simp only [Res.bind] at hq
    cases b with
    | bl b =>
      cases b with
      | false =>
        simp only at hq
        intro g1 H1 v1 x1 k1 r1
        subst r1
        exact iteT (hq g1 H1 (xd.trans x1) k1)
      | true =>
        cases d with
        | int n =>
          simp only at hq
          intro g1 H1 v1 x1 k1 r1
          subst r1
          refine iteF ?_
          cases rv
          have hy2 : H1 y = some (.ins c.tC dx []) := x1.keep y _ hyo wy
          have fy2 : g1.F y = none := x1.frF y fy nny
          have wy2 : y ∉ g1.wadr := fun z => (x1.frW y z).elim wy nny
          refine ⟨_, rfl, _, rfl, y, c.tC, dx, [], rfl, hy2, TC.cl, TC.nS, by decide, ?_⟩
          have k2 := k1.write (o := .ins c.tC dx (putF "size" (.int n) [])) wy2 fy2
          refine ⟨Nat.zero_le _, fun l hl => ⟨_, rfl, y, c.tC, dx, putF "size" (.int n) [], rfl, ?_, TC.cl, TC.nL, by show 1 < 1000; decide, ?_⟩⟩
          · have nyl : y ≠ l := fun z => by
              rw [← z, upd_same] at hl
              cases hl
            rw [upd_ne nyl, upd_same]
          · have nyl : y ≠ l := fun z => by
              rw [← z, upd_same] at hl
              cases hl
            have k3 := k2.write (o := .lst []) (k2.notW hl) (k2.fresh hl)
            have k4 := k3.write (o := .ins c.tC dx (putF "line" (.ref l) (putF "size" (.int n) []))) wy2 fy2
            obtain ⟨k5, G5⟩ := tab_new (n := n) (y := y) (dx := dx) (l := l) k4 fy2 wy2 (k2.fresh hl) (k2.notW hl) nyl upd_same (by rw [upd_ne (Ne.symm nyl), upd_same])
            have hl0 : H1 l = none := by rw [upd_ne (Ne.symm nyl)] at hl; exact hl
            have hlp : Hp l = none := (xd.trans x1).dom l hl0
            refine hq _ _ ⟨(xd.trans x1).toGle.trans G5, fun a o e na => ?_, fun a e => ?_, fun a e na => (xd.trans x1).frF a e na, fun a ha => ?_⟩ k5 ⟨dx, l, ?_⟩
            · have ay : a ≠ y := ne_of_none e hy
              have al : a ≠ l := ne_of_none e hlp
              rw [upd_ne ay, upd_ne al, upd_ne ay]
              exact (xd.trans x1).keep a o e na
            · by_cases ay : a = y
              · rw [ay]; exact hy
              · by_cases al : a = l
                · rw [al]; exact hlp
                · rw [upd_ne ay, upd_ne al, upd_ne ay] at e
                  exact (xd.trans x1).dom a e
            · have wa : ({ g1 with tb := g1.tb ++ [(y, dx, l)] } : Gs).wadr = g1.wadr ++ [y, l] := by simp [Gs.wadr, wtb_app, wtb]
              rw [wa, List.mem_append] at ha
              rcases ha with ha | ha
              · exact (xd.trans x1).frW a ha
              · simp at ha
                rcases ha with rfl | rfl
                · exact .inr hy
                · exact .inr hlp
            · show (g1.tb ++ [(y, dx, l)])[w1.tb.length]? = _
              rw [← k1.tbl, List.getElem?_append_right (Nat.le_refl _)]
              simp
        | _ => exact False.elim hq
    | _ => exact False.elim hq
end
def hkMk (f : MF) : Hk := ⟨fun κ e => match e with
  | .Call (.Name y _) [a] [] _ => if decide (y = "Table") && glB κ.sc "Table" then some [a] else none
  | _ => none, on1 (sMk f)⟩
section
variable {c : Cn} {X : Cx} {W : WX}
theorem hkMk_ok {f : MF} {j : Nat} {fa : Addr} {fd : FuncData} (tk : Takes X W) (hm : X.mg "Table" = some (.ref c.tC)) (M : Mk X.K c.tC fa) (F : FnOk X.prog X.w X.K X.mg X.base (L2.CX X.prog X.w) j fa fd ["self", "size"] (spInit c f)) (hr : Room (j + 1) X.A) (hb : Binds X.K fd ["self", "size"] []) : HkOk c X W (hkMk f) := by
  intro κ x xs ms xo hp ha
  simp only [hkMk] at hp
  split at hp
  · split at hp
    · rename_i q
      simp only [Bool.and_eq_true, decide_eq_true_eq] at q
      obtain ⟨q1, q2⟩ := q
      subst q1
      cases hp
      cases ha with
      | @cons _ _ m _ h1 s1 ha =>
        cases ha
        refine .plain ?_ (fun _ => rfl) (fun _ _ _ e => nomatch e)
        refine (pe_makeT M F hr (xo.gl q2) hm hb (fun σ => passAt tk σ) (pa_cons h1 pa_nil (star_cons s1)) (by decide) (star_cons s1) rfl).mono fun σ H Q h => ?_
        obtain ⟨B, g, ρ, w, E, k, p⟩ := h
        have p : post c (Rep c) g H Q (WE W σ) ((m ρ w).bind fun d w => sMk f [d] w) := p
        refine ⟨B, g, ρ, w, E, k, bnd p fun g1 H1 v d w1 _ e1 k1 r1 p1 => ?_⟩
        intro y dx hy hdx ndy
        refine ⟨y, dx, v, g1, d, w1, H1, rfl, hy, hdx, ndy, rfl, r1, k1, ?_⟩
        simp only [sMk] at p1
        revert p1
        cases mInit f d w1 with
        | ok n w2 => exact fun p1 g2 H2 x2 k2 ⟨dx', l, e⟩ => ⟨rfl, p1 g2 H2 _ x2 k2 (.tab e)⟩
        | exc j w2 => exact fun p1 => p1
        | bad => exact fun p1 => p1
    · cases hp
  · cases hp
end
end RL

/-! [(list(a), b) for a, b in x.line] -/
namespace RL
open PySem L2
def copyT : Tg := .tp (.cons (.nm 1) (.cons (.nm 2) .nil))
def copyE : E := .tup (.cons (.lm (.of (.cons (.var 1) .nil))) (.cons (.var 2) .nil))
def sCopy (T : Tab) (n : Nat) : MF := fun ds w => match ds with
  | [.tab k] => match w.tb[k]? with
    | some (_, ln) => match compGo (compF copyT (wipeR (List.replicate n .emp) [1, 2]) (mCst (.bl true)) (ev T copyE)) ln ⟨none, []⟩ with
      | .ok ys ⟨none, []⟩ => if decide (ln.length ≤ big) && plainL ln && (ln.isEmpty || hdT ln) && noTL ys then .ok (.lst ys) w else .bad
      | _ => .bad
    | none => .bad
  | _ => .bad
def hkCopy (T : Tab) : Hk := ⟨fun κ e => match e with
  | .ListComp y [⟨tg, iter, [], 0⟩] scope _ => if blkC κ.N κ.sc scope (ownOf κ.N [1, 2]) && decide ((ownOf κ.N [1, 2]).map (·.2) = [1, 2]) && !isSet iter && chkT ⟨κ.N, relS scope κ.sc, fun x => scope.names.lookup x == some .cell⟩ copyT tg && chkE T ⟨κ.N, relS scope κ.sc, fun x => scope.names.lookup x == some .cell⟩ copyE y then (isLine iter).map fun z => [z] else none
  | _ => none, fun ms => match ms with
  | [m] => fun r w => (m r w).bind fun d w => sCopy T r.length [d] w
  | _ => fun _ _ => .bad⟩
section
variable {c : Cn} {P : Program} {w : World} {K : PySem.W.Frag} {mg : Str → Option Value} {base : Heap} {k : Nat} {T : Tab} {X : Cx} {W : WX}
theorem hkCopy_ok (HT : TOk c P w K mg base k T) (TC : TCl c X.K) (b : BOk P w K mg base k X) : HkOk c X W (hkCopy T) := by
  intro κ x xs ms xo hp ha
  simp only [hkCopy] at hp
  split at hp
  · rename_i yE tg iter scope lpos
    split at hp
    · rename_i q
      simp only [Bool.and_eq_true, decide_eq_true_eq, Bool.not_eq_true'] at q
      obtain ⟨⟨⟨⟨q1, q2⟩, q3⟩, q4⟩, q5⟩ := q
      obtain ⟨z, hz, rfl⟩ := map_one hp
      obtain ⟨y, p, pos, rfl, rfl⟩ := isLine_ok hz
      cases ha with
      | @cons _ _ m _ h1 s1 ha =>
        cases ha
        refine .plain ?_ (fun _ => rfl) (fun _ _ _ e => nomatch e)
        refine (pe_lc (own := ownOf κ.N [1, 2]) b.calm xo.nodup (pi_list (pe_fld h1 rfl)) (by rw [xo.N, xo.sc]; exact blkOk_by q1) (fun s H C cl fp => sndT (c := c) (κ := ⟨κ.N, relS scope κ.sc, fun x => scope.names.lookup x == some .cell⟩) xo.blk b.blk.calm copyT _ q4)
          (fun s H C cl fp => sndC HT .no _ _ WF [] b.blk xo.blk rfl) (fun s H C cl fp => (sndE HT copyE _ _ WF _ b.blk xo.blk q5).pe) (fun _ => rfl)).mono fun σ H Q h => ?_
        rw [q2]
        obtain ⟨B, g, ρ, w0, E, k0, p⟩ := h
        have p : post c (Rep c) g H Q (WE W σ) ((m ρ w0).bind fun d w => sCopy T ρ.length [d] w) := p
        refine ⟨B, g, ρ, w0, E, k0, bnd p fun g1 H1 x dx w1 _ e1 k1 r1 p1 => ?_⟩
        cases dx with
        | tab i =>
          obtain ⟨t, dx, l, sz, ln, vs, rfl, a1, a2, a3, a4, a5, a6, a7⟩ := tab_at k1 r1
          refine ⟨t, c.tC, dx, _, .ref l, rfl, a3, TC.cl, TC.nL, lk_line, l, rfl, ⟨vs, SqL.of a4⟩, ?_⟩
          simp only [sCopy, a2] at p1
          split at p1
          · rename_i ys hc
            split at p1
            · rename_i hq
              simp only [Bool.and_eq_true, decide_eq_true_eq] at hq
              obtain ⟨⟨⟨l1, l2⟩, l3⟩, l4⟩ := hq
              have hF := k1.out l a6
              have kl := lent_ok (vs := vs) k1 a4
              have rl := lent_repL (vs := vs) hF a5 l2
              have E0 : EOk c H1 (lentG g1 l vs) H1 (List.replicate ρ.length .emp) σ := by
                refine ⟨by rw [List.length_replicate]; exact E.len, fun j d he => ?_, fun _ => 0, fun j d he => ?_, fun j l d d' he => ?_⟩ <;> (rw [List.getElem?_replicate] at he; split at he <;> cases he)
              have wd : WD c (StandE (lentG g1 l vs) H1) (Itl X.K l) ln := by
                refine ⟨_, _, by rw [← a5.length]; exact walk_list (xs := vs), fun g2 H2 s => SqL.of (s.1.keep _ _ a4 (by simp [Gs.wadr, lentG, wdr, wtb])), fun j g2 H2 w2 x2 H' s k2 yy hj => ?_⟩
                obtain ⟨rfl, yy⟩ := yy
                obtain ⟨d, z1, z2⟩ := (rl.mono s.1.toGle).get yy
                exact ⟨g2, d, z1, Ext.refl _ _, k2, z2⟩
              refine comp_go (E0 := fun _ _ _ => False) E0 kl wd l1 (fun j hj => by simpa [copyT, slotsT, slotsTs] using hj) ?_
              have hc' : compGo (compF copyT (wipeR (List.replicate ρ.length .emp) [1, 2]) (evc T .no) (ev T copyE)) ln ⟨none, []⟩ = .ok ys ⟨none, []⟩ := by
                simp only [evc]
                exact hc
              rw [hc']
              intro g' H' pp vs' x2 k2 hp0 hF2 hW2 hv2 r2
              obtain ⟨x3, k3⟩ := back_ok k1 a6 x2 k2
              have hd2 : g'.dr = none := k2.dr0 rfl
              have ht2 : g'.tb = [] := List.eq_nil_of_length_eq_zero k2.tbl
              have rb : RepL c (backG g1 g' l) vs' ys := by
                cases hh : hdT ln with
                | true => exact back_repL hd2 ht2 (x2.sF l _ (by show upd g1.F l _ l = _; exact upd_same)) (rl.mono x2.toGle) hh r2 l4
                | false =>
                  rw [hh, Bool.or_false, List.isEmpty_iff] at l3
                  subst l3
                  simp only [compGo] at hc
                  cases hc
                  cases r2
                  exact .nil
              have npl : pp ≠ l := fun e => by rw [e, a4] at hp0; cases hp0
              obtain ⟨x4, k4, L4⟩ := freeze x3 k3 hp0 (by show (if pp = l then none else g'.F pp) = none; rw [if_neg npl]; exact hF2) (fun e => k1.there e hp0) hv2
              exact p1 _ _ _ x4 k4 (.lst upd_same (rb.mono L4))
            · exact False.elim p1
          · exact False.elim p1
        | _ => exact False.elim p1
    · cases hp
  · cases hp
end
end RL

/-! the class of tables as the text has it -/
namespace RL
open PySem L2
def clsBody : Stmt → List Stmt
  | .ClassDef _ _ _ b _ _ _ _ _ _ _ => b
  | _ => []
structure MtIn (K : PySem.W.Frag) (C : Addr) (x qual : Str) (st : Stmt) (f : Addr) : Prop where
  a : PySem.W.findIn K (.ref C) x = some (some (.ref f))
  i : PySem.W.isFn K (.ref f) = true
  ex : ∃ (oc : Value) (od : Option Addr) (kV doc pm : Value) (an : Option Addr) (cdv ct : Value) (osl : Array (Option Value)), K.lookup f = some ⟨oc, od, .func (PySem.W.fnOf x qual (defArgs st) (defBody st) (defScope st) .none kV doc pm an cdv ct), osl⟩ ∧ PySem.W.codeIn K cdv qual = true
  k : PySem.W.keepIn K (.ref f) = true
theorem MtIn.of {K : PySem.W.Frag} {C : Addr} {x qual : Str} {st : Stmt} {f : Addr} {oc : Value} {od : Option Addr} {kV doc pm : Value} {an : Option Addr} {cdv ct : Value} {osl : Array (Option Value)} (a : PySem.W.findIn K (.ref C) x = some (some (.ref f))) (i : PySem.W.isFn K (.ref f) = true)
    (l : K.lookup f = some ⟨oc, od, .func (PySem.W.fnOf x qual (defArgs st) (defBody st) (defScope st) .none kV doc pm an cdv ct), osl⟩) (c : PySem.W.codeIn K cdv qual = true) (k : PySem.W.keepIn K (.ref f) = true) : MtIn K C x qual st f := ⟨a, i, ⟨oc, od, kV, doc, pm, an, cdv, ct, osl, l, c⟩, k⟩
theorem MtIn.get {K : PySem.W.Frag} {C : Addr} {x qual : Str} {st : Stmt} {f : Addr} (d : MtIn K C x qual st f) {ps : List Str} (hb : ∀ (kV doc pm : Value) (an : Option Addr) (cdv ct : Value) (us : List Value), us.length = ps.length → bindArgs (PySem.W.fnOf x qual (defArgs st) (defBody st) (defScope st) .none kV doc pm an cdv ct) ⟨us, []⟩ = pure (ps.zip us)) :
    ∃ fd, Fun K x qual st f fd ∧ Meth K C x f ∧ Binds K fd ps [] := by
  obtain ⟨oc, od, kV, doc, pm, an, cdv, ct, osl, l, e⟩ := d.ex
  exact ⟨_, ⟨⟨oc, od, kV, doc, pm, an, cdv, ct, osl, rfl, l, e⟩, d.k⟩, ⟨d.a, d.i, d.k⟩, .all (hb kV doc pm an cdv ct)⟩
/-! ### the bodies -/
def b_t_add (h it : Nat) : Ss := (.cons (.iff (.or (.not (.call it (.cons (.lm (.disp (.cons (.var 1) .nil))) .nil))) (.bin .ne (.pri 0 (.cons (.ix (.var 1) (.cst (.int 0))) .nil)) (.hk h (.cons (.var 0) .nil)))) (.cons (.rais 1) .nil) .nil)
  (.cons (.iff (.bin .eq (.hk (h + 1) (.cons (.var 0) .nil)) (.cst (.int 8))) (.cons (.rais 1) .nil) .nil)
  (.cons (.exp (.hk (h + 3) (.cons (.var 0) (.cons (.tup (.cons (.lm (.of (.cons (.ix (.var 1) (.cst (.int 0))) .nil))) (.cons (.ix (.var 1) (.cst (.int 1))) .nil))) .nil))))
  (.cons (.ret (.pri 0 (.cons (.hk (h + 5) (.cons (.var 0) .nil)) .nil))) .nil))))
def b_t_rules (h : Nat) : Ss := (.cons (.iff (.hk (h + 2) (.cons (.var 0) .nil)) (.cons (.rais 5) .nil) .nil) (.cons (.ret (.hk (h + 5) (.cons (.var 0) .nil))) .nil))
def b_t_trials (h : Nat) : Ss := (.cons (.ret (.hk (h + 6) (.cons (.var 0) .nil))) .nil)
def b_t_undo (h : Nat) : Ss := (.cons (.iff (.hk (h + 2) (.cons (.var 0) .nil)) (.cons (.rais 5) .nil) .nil) (.cons (.ret (.hk (h + 4) (.cons (.var 0) .nil))) .nil))
def b_t_len (h : Nat) : Ss := (.cons (.ret (.hk (h + 1) (.cons (.var 0) .nil))) .nil)
/-- the forms within the methods -/
def Tab.lines (T : Tab) (fo : Nat) : Tab := ((((((T.addH hkSize).addH hkTLen).addH hkTEmp).addH hkTApp).addH hkTPop).addH (hkTLent "fitting_of" (T.fns.getD fo noF).2.2)).addH (hkCopy T)
def mAdd (T : Tab) (h it fo : Nat) : MF := mFun 2 (ess (T.lines fo) (b_t_add h it))
def mRules (T : Tab) (h fo : Nat) : MF := mFun 1 (ess (T.lines fo) (b_t_rules h))
def mTrials (T : Tab) (h fo : Nat) : MF := mFun 3 (ess (T.lines fo) (b_t_trials h))
def mUndo (T : Tab) (h fo : Nat) : MF := mFun 1 (ess (T.lines fo) (b_t_undo h))
def mTlen (T : Tab) (h fo : Nat) : MF := mFun 1 (ess (T.lines fo) (b_t_len h))
/-- and those without -/
def Tab.tables (T : Tab) (h ii it fo : Nat) : Tab := ((((((T.lines fo).addH (hkMk (T.fns.getD ii noF).2.2)).addH (hkMeth "add" 2 (mAdd T h it fo))).addH (hkMeth "rules" 1 (mRules T h fo))).addH (hkMeth "trials" 1 (mTrials T h fo))).addH (hkMeth "undo" 1 (mUndo T h fo))).addH (hkLenT (mTlen T h fo))
section
variable {c : Cn} {P : Program} {w : World} {K : PySem.W.Frag} {mg : Str → Option Value} {base : Heap} {k : Nat} {T : Tab}
theorem tok_lines (HT : TOk c P w K mg base k T) (TC : TCl c K) {fo : Nat} {φ : MF} (hf : T.fns[fo]? = some (("fitting_of" : Str), 1, φ)) (hl : mg "len" = none) : TOk c P w K mg base k (T.lines fo) := by
  have e : T.fns.getD fo noF = (("fitting_of" : Str), 1, φ) := by simp [hf]
  have t1 := tok_hk HT (Nat.le_refl k) (fun X W b tk => hkSize_ok (X := X) (W := W) (by rw [b.K]; exact TC))
  have t2 := tok_hk t1 (Nat.le_refl k) (fun X W b tk => hkTLen_ok (X := X) (W := W) (by rw [b.K]; exact TC) (by rw [b.mg]; exact hl))
  have t3 := tok_hk t2 (Nat.le_refl k) (fun X W b tk => hkTEmp_ok (X := X) (W := W) (by rw [b.K]; exact TC) b.hu)
  have t4 := tok_hk t3 (Nat.le_refl k) (fun X W b tk => hkTApp_ok (X := X) (W := W) (by rw [b.K]; exact TC))
  have t5 := tok_hk t4 (Nat.le_refl k) (fun X W b tk => hkTPop_ok (X := X) (W := W) (by rw [b.K]; exact TC))
  have t6 := tok_hk t5 (Nat.le_refl k) (fun X W b tk => hkTLent_ok (X := X) (W := W) (by rw [b.K]; exact TC) tk (HT.fns X b fo _ hf))
  have t7 := tok_hk t6 (Nat.le_refl k) (fun X W b tk => hkCopy_ok (X := X) (W := W) HT (by rw [b.K]; exact TC) b)
  unfold Tab.lines
  rw [e]
  exact t7
theorem tok_tables (HT : TOk c P w K mg base k T) (TC : TCl c K) (hl : mg "len" = none) (hc : mg "Table" = some (.ref c.tC)) (mk : PySem.W.makesIn K c.tC = true) (kc : PySem.W.keepIn K (.ref c.tC) = true) {h ii it fo : Nat} {φ : MF} (hf : T.fns[fo]? = some (("fitting_of" : Str), 1, φ))
    {s1 s2 s3 s4 s5 s6 : Stmt} {f1 f2 f3 f4 f5 f6 : Addr} (m1 : MtIn K c.tC "__init__" "Table.__init__" s1 f1) (m2 : MtIn K c.tC "add" "Table.add" s2 f2) (m3 : MtIn K c.tC "rules" "Table.rules" s3 f3) (m4 : MtIn K c.tC "trials" "Table.trials" s4 f4) (m5 : MtIn K c.tC "undo" "Table.undo" s5 f5) (m6 : MtIn K c.tC "__len__" "Table.__len__" s6 f6)
    (b1 : ∀ (kV doc pm : Value) (an : Option Addr) (cdv ct : Value) (us : List Value), us.length = 2 → bindArgs (PySem.W.fnOf "__init__" "Table.__init__" (defArgs s1) (defBody s1) (defScope s1) .none kV doc pm an cdv ct) ⟨us, []⟩ = pure ((["self", "size"] : List Str).zip us))
    (b2 : ∀ (kV doc pm : Value) (an : Option Addr) (cdv ct : Value) (us : List Value), us.length = 2 → bindArgs (PySem.W.fnOf "add" "Table.add" (defArgs s2) (defBody s2) (defScope s2) .none kV doc pm an cdv ct) ⟨us, []⟩ = pure ((["self", "one"] : List Str).zip us))
    (b3 : ∀ (kV doc pm : Value) (an : Option Addr) (cdv ct : Value) (us : List Value), us.length = 1 → bindArgs (PySem.W.fnOf "rules" "Table.rules" (defArgs s3) (defBody s3) (defScope s3) .none kV doc pm an cdv ct) ⟨us, []⟩ = pure ((["self"] : List Str).zip us))
    (b4 : ∀ (kV doc pm : Value) (an : Option Addr) (cdv ct : Value) (us : List Value), us.length = 1 → bindArgs (PySem.W.fnOf "trials" "Table.trials" (defArgs s4) (defBody s4) (defScope s4) .none kV doc pm an cdv ct) ⟨us, []⟩ = pure ((["self"] : List Str).zip us))
    (b5 : ∀ (kV doc pm : Value) (an : Option Addr) (cdv ct : Value) (us : List Value), us.length = 1 → bindArgs (PySem.W.fnOf "undo" "Table.undo" (defArgs s5) (defBody s5) (defScope s5) .none kV doc pm an cdv ct) ⟨us, []⟩ = pure ((["self"] : List Str).zip us))
    (b6 : ∀ (kV doc pm : Value) (an : Option Addr) (cdv ct : Value) (us : List Value), us.length = 1 → bindArgs (PySem.W.fnOf "__len__" "Table.__len__" (defArgs s6) (defBody s6) (defScope s6) .none kV doc pm an cdv ct) ⟨us, []⟩ = pure ((["self"] : List Str).zip us))
    (c1 : FnScope ["self", "size"] ["self", "size"] (defScope s1)) (c2 : FnScope ["self", "one"] ["self", "one"] (defScope s2)) (c3 : FnScope ["self"] ["self"] (defScope s3)) (c4 : FnScope ["self", "amounts", "seen"] ["self"] (defScope s4)) (c5 : FnScope ["self"] ["self"] (defScope s5)) (c6 : FnScope ["self"] ["self"] (defScope s6))
    {x : Expr} {p1 p2 p3 p4 p5 p6 p7 p8 p9 p10 p11 p12 p13 : Pos} {msg : Str} {jj : Nat}
    (hd : defBody s1 = [.If x [.Raise (some (.Call (.Name "BadNumber" p9) [.Constant (.str msg) jj p10] [] p11)) none p12] [] p1, .Assign [.Attribute (.Name "self" p2) "size" p3] (.Name "size" p4) p5, .Assign [.Attribute (.Name "self" p6) "line" p7] (.List [] p8) p13])
    (q1 : chkE T ⟨["self", "size"], defScope s1, fun _ => true⟩ (initT ii) x = true) (qi : isIfE x = false) (hex : T.exs[3]? = some ("BadNumber" : Str)) (hgx : glB (defScope s1) "BadNumber" = true) (hs : slotB ⟨["self", "size"], defScope s1, fun _ => true⟩ 0 "self" = true) (hz : slotB ⟨["self", "size"], defScope s1, fun _ => true⟩ 1 "size" = true)
    (q2 : chkSs (T.lines fo) ⟨["self", "one"], defScope s2, fun _ => true⟩ (b_t_add h it) (defBody s2) = true) (q3 : chkSs (T.lines fo) ⟨["self"], defScope s3, fun _ => true⟩ (b_t_rules h) (defBody s3) = true) (q4 : chkSs (T.lines fo) ⟨["self", "amounts", "seen"], defScope s4, fun _ => true⟩ (b_t_trials h) (defBody s4) = true)
    (q5 : chkSs (T.lines fo) ⟨["self"], defScope s5, fun _ => true⟩ (b_t_undo h) (defBody s5) = true) (q6 : chkSs (T.lines fo) ⟨["self"], defScope s6, fun _ => true⟩ (b_t_len h) (defBody s6) = true) : TOk c P w K mg base (k + 2) (T.tables h ii it fo) := by
  have tl := tok_lines HT TC hf hl
  obtain ⟨fd1, F1, M1, B1⟩ := m1.get (ps := ["self", "size"]) b1
  obtain ⟨fd2, F2, M2, B2⟩ := m2.get (ps := ["self", "one"]) b2
  obtain ⟨fd3, F3, M3, B3⟩ := m3.get (ps := ["self"]) b3
  obtain ⟨fd4, F4, M4, B4⟩ := m4.get (ps := ["self"]) b4
  obtain ⟨fd5, F5, M5, B5⟩ := m5.get (ps := ["self"]) b5
  obtain ⟨fd6, F6, M6, B6⟩ := m6.get (ps := ["self"]) b6
  have O1 := init_ok HT TC F1 c1 hd q1 qi hex hgx hs hz
  have O2 := def_ok tl F2 c2 q2
  have O3 := def_ok tl F3 c3 q3
  have O4 := def_ok tl F4 c4 q4
  have O5 := def_ok tl F5 c5 q5
  have O6 := def_ok tl F6 c6 q6
  have t1 := tok_hk tl (show k ≤ k + 2 by omega) (p := hkMk (T.fns.getD ii noF).2.2) (fun X W b tk => by
    obtain ⟨e1, e2, e3, e4, e5, e6, e7⟩ := b
    exact hkMk_ok (X := X) (W := W) (j := k + 1) tk (by rw [e4]; exact hc) (by rw [e3]; exact ⟨mk, m1.a, m1.i, kc⟩) (by rw [e1, e2, e3, e4, e5]; exact O1) e7 (by rw [e3]; exact B1))
  have t2 := tok_hk t1 (Nat.le_refl (k + 2)) (p := hkMeth "add" 2 (mAdd T h it fo)) (fun X W b tk => by
    obtain ⟨e1, e2, e3, e4, e5, e6, e7⟩ := b
    exact hkMeth_ok (X := X) (W := W) (j := k + 1) (by rw [e3]; exact TC) tk (by rw [e3]; exact M2) (by rw [e1, e2, e3, e4, e5]; exact O2) (e7.mono (by omega)) (by rw [e3]; exact B2) (by decide) (by decide))
  have t3 := tok_hk t2 (Nat.le_refl (k + 2)) (p := hkMeth "rules" 1 (mRules T h fo)) (fun X W b tk => by
    obtain ⟨e1, e2, e3, e4, e5, e6, e7⟩ := b
    exact hkMeth_ok (X := X) (W := W) (j := k + 1) (by rw [e3]; exact TC) tk (by rw [e3]; exact M3) (by rw [e1, e2, e3, e4, e5]; exact O3) (e7.mono (by omega)) (by rw [e3]; exact B3) (by decide) (by decide))
  have t4 := tok_hk t3 (Nat.le_refl (k + 2)) (p := hkMeth "trials" 1 (mTrials T h fo)) (fun X W b tk => by
    obtain ⟨e1, e2, e3, e4, e5, e6, e7⟩ := b
    exact hkMeth_ok (X := X) (W := W) (j := k + 1) (by rw [e3]; exact TC) tk (by rw [e3]; exact M4) (by rw [e1, e2, e3, e4, e5]; exact O4) (e7.mono (by omega)) (by rw [e3]; exact B4) (by decide) (by decide))
  have t5 := tok_hk t4 (Nat.le_refl (k + 2)) (p := hkMeth "undo" 1 (mUndo T h fo)) (fun X W b tk => by
    obtain ⟨e1, e2, e3, e4, e5, e6, e7⟩ := b
    exact hkMeth_ok (X := X) (W := W) (j := k + 1) (by rw [e3]; exact TC) tk (by rw [e3]; exact M5) (by rw [e1, e2, e3, e4, e5]; exact O5) (e7.mono (by omega)) (by rw [e3]; exact B5) (by decide) (by decide))
  exact tok_hk t5 (Nat.le_refl (k + 2)) (fun X W b tk => by
    obtain ⟨e1, e2, e3, e4, e5, e6, e7⟩ := b
    exact hkLenT_ok (X := X) (W := W) (j := k + 1) (by rw [e4]; exact hl) (by rw [e3]; exact m6.a) (by rw [e3]; exact m6.i) (by rw [e1, e2, e3, e4, e5]; exact O6) e7 (by rw [e3]; exact B6))
end
end RL

/-! a def that is called within an except suite with the exception, its answer put to a list -/
namespace RL
open PySem PySem.Spec PyProof.Rows L2
/-! ### expressions that can be read there -/
mutual
def hotE : E → Bool
  | .var _ => true
  | .cst _ => true
  | .bin _ a b => hotE a && hotE b
  | .not a => hotE a
  | .or a b => hotE a && hotE b
  | .lm l => hotL l
  | .ix a b => hotE a && hotE b
  | .bmt _ o es => hotE o && hotEs es
  | .isx a _ => hotE a
  | _ => false
def hotEs : Es → Bool
  | .nil => true
  | .cons e es => hotE e && hotEs es
def hotL : L → Bool
  | .disp es => hotEs es
  | _ => false
end
/-- what is there for them -/
structure HotX (c : Cn) (T : Tab) (X : Cx) (W : WX) : Prop where
  hu : X.A.units + 65 < cLine
  bm : ∀ (i : Nat) p, T.bmt[i]? = some p → BmtOk c X W p.1 p.2
  isn : X.mg "isinstance" = none
  cls : ∀ (i : Nat) p, T.cls[i]? = some p → ∃ v cv, ClsAt X.mg p.1 v cv ∧ ∀ j b, p.2 j = some b → ExcC X.K (c.ec j) ∧ PySem.W.kitOne X.K (.ref (c.ec j)) cv = some b
section
variable {c : Cn} {T : Tab} {κ : Ck} {X : Cx} {W : WX}
mutual
theorem hotE_ok (b : HotX c T X W) (h : XOk κ X W) : ∀ (e : E) (x : Expr), hotE e = true → chkE T κ e x = true → EOkP c X W x (ev T e)
  | .var i, x, hh, q => by
    cases x with
    | Name y pos =>
      simp only [chkE] at q
      obtain ⟨r1, r2, r3, r4⟩ := h.slot q
      exact .plain (by simp only [ev]; exact s_var r1 r2 r3 r4) (fun _ => rfl) (fun _ _ _ e => nomatch e)
    | _ => simp [chkE] at q
  | .cst d, x, hh, q => by
    cases x with
    | Constant v j pos =>
      cases d with
      | int i =>
        cases v with
        | int i' =>
          simp only [chkE, decide_eq_true_eq] at q
          subst q
          exact .plain (by simp only [ev]; exact s_int) (fun _ => rfl) (fun _ _ _ e => nomatch e)
        | _ => simp [chkE] at q
      | bl i =>
        cases v with
        | bool i' =>
          simp only [chkE, decide_eq_true_eq] at q
          subst q
          exact .plain (by simp only [ev]; exact s_bl) (fun _ => rfl) (fun _ _ _ e => nomatch e)
        | _ => simp [chkE] at q
      | non =>
        cases v with
        | none => exact .plain (by simp only [ev]; exact s_non) (fun _ => rfl) (fun _ _ _ e => nomatch e)
        | _ => simp [chkE] at q
      | str i =>
        cases v with
        | str i' =>
          simp only [chkE, decide_eq_true_eq] at q
          subst q
          exact .plain (by simp only [ev]; exact s_str) (fun _ => rfl) (fun _ _ _ e => nomatch e)
        | _ => simp [chkE] at q
      | _ => simp [chkE] at q
    | _ => cases d <;> simp [chkE] at q
  | .bin o a d, x, hh, q => by
    simp only [hotE, Bool.and_eq_true] at hh
    cases x with
    | BinOp l op r pos =>
      simp only [chkE, Bool.and_eq_true, decide_eq_true_eq] at q
      obtain ⟨⟨q1, q2⟩, q3⟩ := q
      exact .plain (by simp only [ev]; exact s_bin q1 (hotE_ok b h a l hh.1 q2).pe (hotE_ok b h d r hh.2 q3).pe) (fun _ => rfl) (fun _ _ _ e => nomatch e)
    | Compare l ops rs pos =>
      match ops, rs, q with
      | [op], [r], q =>
        simp only [chkE, Bool.and_eq_true, decide_eq_true_eq, Bool.not_eq_true'] at q
        obtain ⟨⟨⟨q1, q2⟩, q3⟩, q4⟩ := q
        refine ⟨?_, fun _ => ?_, fun _ _ _ e => nomatch e⟩
        · simp only [ev]; exact s_cmp b.hu q1 (hotE_ok b h a l hh.1 q2).pe (hotE_ok b h d r hh.2 q3).pe (set_marks q4)
        · simp only [ev]; exact t_cmp b.hu q1 (hotE_ok b h a l hh.1 q2).pe (hotE_ok b h d r hh.2 q3).pe (set_marks q4)
      | [], _, q => simp [chkE] at q
      | [_], [], q => simp [chkE] at q
      | [_], _ :: _ :: _, q => simp [chkE] at q
      | _ :: _ :: _, _, q => simp [chkE] at q
    | _ => simp [chkE] at q
  | .not a, x, hh, q => by
    simp only [hotE] at hh
    cases x with
    | UnaryOp op y pos =>
      cases op with
      | Not =>
        simp only [chkE, Bool.and_eq_true, Bool.not_eq_true'] at q
        have r := hotE_ok b h a y hh q.1
        exact ⟨by simp only [ev]; exact s_not r.pe, fun _ => by simp only [ev]; exact t_not (r.pt q.2), fun _ _ _ e => nomatch e⟩
      | _ => simp [chkE] at q
    | _ => simp [chkE] at q
  | .or a d, x, hh, q => by
    simp only [hotE, Bool.and_eq_true] at hh
    cases x with
    | BoolOp op xs pos =>
      cases op with
      | Or =>
        match xs, q with
        | [y, z], q =>
          simp only [chkE, Bool.and_eq_true, Bool.not_eq_true'] at q
          obtain ⟨⟨⟨q1, q2⟩, q3⟩, q4⟩ := q
          have r1 := hotE_ok b h a y hh.1 q1
          have r2 := hotE_ok b h d z hh.2 q2
          have hw : PW X (.BoolOp .Or [y, z] pos) (rdT c W (ev T (.or a d))) := by simp only [ev]; exact w_or (r1.pt q3) (pw_or1 (r2.pt q4))
          exact ⟨by simp only [ev]; exact s_or r1.pe (pe_one r2.pe), fun _ => hw.pt, fun _ _ _ _ => hw⟩
        | y :: z :: u :: xs, q =>
          simp only [chkE, Bool.and_eq_true, Bool.not_eq_true'] at q
          obtain ⟨⟨q1, q2⟩, q3⟩ := q
          have r1 := hotE_ok b h a y hh.1 q1
          have r2 := hotE_ok b h d _ hh.2 q2
          have hw : PW X (.BoolOp .Or (y :: z :: u :: xs) pos) (rdT c W (ev T (.or a d))) := by simp only [ev]; exact w_or (r1.pt q3) (r2.pw _ _ _ rfl)
          exact ⟨by simp only [ev]; exact s_or r1.pe r2.pe, fun _ => hw.pt, fun _ _ _ _ => hw⟩
        | [], q => simp [chkE] at q
        | [_], q => simp [chkE] at q
      | And => simp [chkE] at q
    | _ => simp [chkE] at q
  | .lm l, x, hh, q => by
    cases l with
    | disp es =>
      have q : chkL T κ (.disp es) x = true := by simpa [chkE] using q
      cases x with
      | List xs pos =>
        simp only [chkL] at q
        simp only [hotE, hotL] at hh
        exact .plain (by simp only [ev, evl]; exact s_of_l (l_disp (hotEs_ok b h es xs hh q).1)) (fun _ => rfl) (fun _ _ _ e => nomatch e)
      | _ => simp [chkL] at q
    | _ => simp [hotE, hotL] at hh
  | .ix a d, x, hh, q => by
    simp only [hotE, Bool.and_eq_true] at hh
    cases x with
    | Subscript y z pos =>
      simp only [chkE, Bool.and_eq_true, Bool.not_eq_true'] at q
      obtain ⟨⟨q1, q2⟩, q3⟩ := q
      exact .plain (by simp only [ev]; exact s_ix (hotE_ok b h a y hh.1 q1).pe (hotE_ok b h d z hh.2 q2).pe (plain_ix q3)) (fun _ => rfl) (fun _ _ _ e => nomatch e)
    | _ => simp [chkE] at q
  | .bmt f o es, x, hh, q => by
    simp only [hotE, Bool.and_eq_true] at hh
    cases x with
    | Call g as ks pos =>
      cases g with
      | Attribute y nm p =>
        cases as with
        | nil => cases ks <;> simp [chkE] at q
        | cons z zs =>
          cases ks with
          | cons _ _ => simp [chkE] at q
          | nil =>
            simp only [chkE, Bool.and_eq_true, decide_eq_true_eq] at q
            obtain ⟨⟨⟨⟨⟨q1, q2⟩, q3⟩, q4⟩, q5⟩, q6⟩ := q
            obtain ⟨ra, rst⟩ := hotEs_ok b h es (z :: zs) hh.2 q3
            split at q1
            · rename_i pp hp
              have q1 := of_decide_eq_true q1
              subst q1
              have F := b.bm f pp hp
              have e : T.bmt.getD f (Str.empty, fun _ _ => none) = pp := by simp [hp]
              refine .plain ?_ (fun _ => rfl) (fun _ _ _ e => nomatch e)
              simp only [ev]
              rw [e]
              exact F y z zs _ _ p pos (hotE_ok b h o y hh.1 q2).pe ra (star_cons (rst z List.mem_cons_self)) (star_any fun x hx => rst x (List.mem_cons_of_mem _ hx)) (star_all rst) (by rw [chkEs_len es (z :: zs) q3]; exact q5) q4 (attr_base (by simpa using q6))
            · cases q1
      | _ => simp [chkE] at q
    | _ => simp [chkE] at q
  | .isx a j, x, hh, q => by
    simp only [hotE] at hh
    obtain ⟨y, z, p, p', pos, pp, rfl, q1, q2, q3, q4, q5, q6⟩ := chk_isx q
    obtain ⟨v, cv, c1, c2⟩ := b.cls j pp q1
    have e : T.cls.getD j noC = pp := by simp [q1]
    refine .plain ?_ (fun _ => rfl) (fun _ _ _ e => nomatch e)
    simp only [ev]
    rw [e]
    exact isx_ok (h.gl q3) b.isn (h.gl q4) (by rw [← q2]; exact c1) (plainN_ok q5).1 c2 (hotE_ok b h a y hh q6).pe (chk_not_star q6)
  | .gl _, x, hh, q => by simp [hotE] at hh
  | .chn _ _ _ _ _, x, hh, q => by simp [hotE] at hh
  | .neg _, x, hh, q => by simp [hotE] at hh
  | .and _ _, x, hh, q => by simp [hotE] at hh
  | .ite _ _ _, x, hh, q => by simp [hotE] at hh
  | .tup _, x, hh, q => by simp [hotE] at hh
  | .oix _ _, x, hh, q => by simp [hotE] at hh
  | .sl _ _ _, x, hh, q => by simp [hotE] at hh
  | .rev _, x, hh, q => by simp [hotE] at hh
  | .call _ _, x, hh, q => by simp [hotE] at hh
  | .pri _ _, x, hh, q => by simp [hotE] at hh
  | .isi _ _, x, hh, q => by simp [hotE] at hh
  | .ocmp _ _ _, x, hh, q => by simp [hotE] at hh
  | .callO _ _ _ _, x, hh, q => by simp [hotE] at hh
  | .pr2 _ _, x, hh, q => by simp [hotE] at hh
  | .hk _ _, x, hh, q => by simp [hotE] at hh
theorem hotEs_ok (b : HotX c T X W) (h : XOk κ X W) : ∀ (es : Es) (xs : List Expr), hotEs es = true → chkEs T κ es xs = true → PA X xs (rdA c W (evs T es)) ∧ ∀ x ∈ xs, isStar x = false
  | .nil, xs, hh, q => by
    cases xs with
    | nil => exact ⟨by simp only [evs]; exact a_nil, fun x hx => by cases hx⟩
    | cons x xs => simp [chkEs] at q
  | .cons e es, xs, hh, q => by
    simp only [hotEs, Bool.and_eq_true] at hh
    cases xs with
    | nil => simp [chkEs] at q
    | cons x xs =>
      simp only [chkEs, Bool.and_eq_true, Bool.not_eq_true'] at q
      obtain ⟨⟨q1, q2⟩, q3⟩ := q
      obtain ⟨r, rst⟩ := hotEs_ok b h es xs hh.2 q3
      refine ⟨by simp only [evs]; exact a_cons (hotE_ok b h e x hh.1 q2).pe r (star_cons q1), fun y hy => ?_⟩
      rcases List.mem_cons.mp hy with rfl | hy
      · exact q1
      · exact rst y hy
end
/-! ### statements -/
mutual
def hotS : S → Stmt → Bool
  | .ret e, _ => hotE e
  | .asg (.nm _) e, .Assign _ x _ => hotE e && !isLC x
  | .iff t a b, .If _ xs ys _ => hotE t && hotSs a xs && hotSs b ys
  | _, _ => false
def hotSs : Ss → List Stmt → Bool
  | .nil, _ => true
  | .cons s ss, st :: sts => hotS s st && hotSs ss sts
  | _, _ => false
end
theorem lc_no {sc : Scope} {y : Str} {py : Pos} {x : Expr} (h : isLC x = false) : lcNo sc y py x = true := by
  cases x <;> first | rfl | cases h
mutual
theorem hotS_ok (b : HotX c T X W) (h : XOk κ X W) : ∀ (s : S) (st : Stmt), hotS s st = true → chkS T κ s st = true → PS X st (rs c W (es T s))
  | .ret e, st, hh, q => by
    cases st with
    | Return x pos =>
      cases x with
      | none => simp [chkS] at q
      | some x =>
        simp only [chkS] at q
        simp only [hotS] at hh
        simp only [es]
        exact st_ret (hotE_ok b h e x hh q).pe
    | _ => simp [chkS] at q
  | .asg (.nm i) e, st, hh, q => by
    obtain ⟨y, py, x, pos, rfl, q1, q2, q3, q4⟩ := chk_asgN q
    simp only [hotS, Bool.and_eq_true, Bool.not_eq_true'] at hh
    obtain ⟨s1, s2, s3⟩ := h.stor q1
    simp only [es]
    exact st_asgN (ps_name h.nodup s1 s2 s3 (hotE_ok b h e x hh.1 q2).pe (lc_no hh.2))
  | .asg (.tp _) e, st, hh, q => by cases st <;> simp [hotS] at hh
  | .iff t a d, st, hh, q => by
    cases st with
    | If x xs ys pos =>
      simp only [chkS, Bool.and_eq_true, Bool.not_eq_true'] at q
      simp only [hotS, Bool.and_eq_true] at hh
      obtain ⟨⟨⟨q1, q2⟩, q3⟩, q4⟩ := q
      simp only [es]
      exact st_if ((hotE_ok b h t x hh.1.1 q1).pt q2) (hotSs_ok b h a xs hh.1.2 q3) (hotSs_ok b h d ys hh.2 q4)
    | _ => simp [chkS] at q
  | .exp _, st, hh, q => by cases st <;> simp [hotS] at hh
  | .own _ _, st, hh, q => by cases st <;> simp [hotS] at hh
  | .for' _ _ _, st, hh, q => by cases st <;> simp [hotS] at hh
  | .whl _ _ _, st, hh, q => by cases st <;> simp [hotS] at hh
  | .rais _, st, hh, q => by cases st <;> simp [hotS] at hh
  | .imul _ _, st, hh, q => by cases st <;> simp [hotS] at hh
  | .app _ _, st, hh, q => by cases st <;> simp [hotS] at hh
  | .ext _ _, st, hh, q => by cases st <;> simp [hotS] at hh
  | .set _ _ _, st, hh, q => by cases st <;> simp [hotS] at hh
  | .set2 _ _ _ _, st, hh, q => by cases st <;> simp [hotS] at hh
  | .frz _ _, st, hh, q => by cases st <;> simp [hotS] at hh
  | .tryK _ _ _ _, st, hh, q => by cases st <;> simp [hotS] at hh
  | .pass, st, hh, q => by cases st <;> simp [hotS] at hh
  | .nev, st, hh, q => by cases st <;> simp [hotS] at hh
  | .own2 _ _, st, hh, q => by cases st <;> simp [hotS] at hh
theorem hotSs_ok (b : HotX c T X W) (h : XOk κ X W) : ∀ (ss : Ss) (sts : List Stmt), hotSs ss sts = true → chkSs T κ ss sts = true → PSs X sts (rs c W (ess T ss))
  | .nil, sts, hh, q => by
    cases sts with
    | nil => simp only [ess]; exact ss_nil
    | cons x xs => simp [chkSs] at q
  | .cons s ss, sts, hh, q => by
    cases sts with
    | nil => simp [chkSs] at q
    | cons x xs =>
      simp only [chkSs, Bool.and_eq_true] at q
      simp only [hotSs, Bool.and_eq_true] at hh
      simp only [ess]
      exact ss_cons (hotS_ok b h s x hh.1 q.1) (hotSs_ok b h ss xs hh.2 q.2)
end
end
/-! ### the def -/
/-- the same surroundings, nothing handled -/
def cold (A : Around) : Around := { A with handled := none }
structure FnQ (P : Program) (w : World) (K : PySem.W.Frag) (mg : Str → Option Value) (base : Heap) (k : Nat) (f : Addr) (fd : FuncData) (ps : List Str) (sp : Sp) : Prop where
  len : ∀ vs H Q E, sp vs H Q E → vs.length = ps.length
  run : ∀ (A : Around) (a : Addr) (outer : List Env) (s : Shared) (H : Hp) (args : Args) (us : List Value) (vs : List V) (Q : VK), Room k (cold A) → A.handled = some (.ref a) → Env0 P w K mg base A outer s H → BindsTo s fd args (ps.zip us) → Vals vs us → sp vs H Q E0 →
    codeAny (model P w) A (.call (.ref f) args) (fun r s' => ∃ u, r = .ok (.ret u) ∧ CE outer P w H s Q u s') s
section
variable {P : Program} {w : World} {K : PySem.W.Frag} {mg : Str → Option Value} {base : Heap}
theorem inv_hot {X : Cx} {σ : L2.St} {H : Hp} {s : Shared} {pins : List (Addr × Obj)} (I : Inv X pins σ H s) (a : Addr) : Inv (X.suite a (X.pn ++ pins)) [] σ H s :=
  ⟨I.ok.suite _ _, I.os, I.bare, I.base, I.loc, I.cell, I.free, I.freeC, fun p hp => I.pin p (by rw [List.append_nil] at hp; exact hp), I.hok, I.len⟩
theorem inv_unhot {X : Cx} {σ : L2.St} {H : Hp} {s : Shared} {pins pn' : List (Addr × Obj)} {a : Addr} (I : Inv (X.suite a (X.pn ++ pins)) pn' σ H s) (ok : X.Ok) : Inv X pins σ H s :=
  ⟨ok, I.os, I.bare, I.base, I.loc, I.cell, I.free, I.freeC, fun p hp => I.pin p (List.mem_append_left _ hp), I.hok, I.len⟩
theorem hot_A {A : Around} {a : Addr} {env : PySem.Env} (h : A.handled = some (.ref a)) : ((cold A).deeper env).mark (some (.ref a)) = A.deeper env := by
  obtain ⟨h1, h2, h3, h4⟩ := A
  dsimp only at h
  subst h
  rfl
theorem fnq_of {x qual : Str} {st : Stmt} {f : Addr} {fd : FuncData} {N ps : List Str} {k : Nat} {sp : Sp} (F : Fun K x qual st f fd) (S : FnScope N ps (defScope st)) (len : ∀ vs H Q E, sp vs H Q E → vs.length = ps.length)
    (hbody : ∀ (cdv : Value) (A : Around) (a : Addr) (outer : List Env) (s : Shared) (H : Hp) (vs : List V) (Q : VK), Room k (A.deeper (envOfC qual (defScope st) s.heap.objs.size f cdv)) → sp vs H Q E0 →
      ∃ t, PSs ((cxOf (L2.CX P w) P w K mg base N qual (defScope st) f cdv A outer s H E0).suite a []) (defBody st) t ∧ t { nx := fun _ H' => Q .non H', rt := Q } (L2.start N vs) H) : FnQ P w K mg base (k + 1) f fd ps sp := by
  obtain ⟨oc, od, kV, doc, pm, an, cdv, ct, osl, rfl, lk, hcd⟩ := F.ex
  refine ⟨len, fun A a outer s H args us vs Q hr hh e0 hb rv hs => ?_⟩
  have hv := len _ _ _ _ hs
  have kin : K.In s.heap := e0.mod.kin.keeps fun b o e => (e0.bs b o e).1
  have nol : s.heap.NoLimit := e0.mod.nolimit.keeps fun b o e => (e0.bs b o e).1
  have kd : ∀ y ∈ ps.zip us, (defScope st).names.lookup y.1 = some .local ∨ ((defScope st).names.lookup y.1 = some .cell ∧ ((cellsFrom (s.heap.objs.size + 1) (defScope st).names []).lookup y.1).isSome = true) := by
    rintro ⟨n, v⟩ hy
    rcases S.par n (List.of_mem_zip hy).1 with z | z
    · exact .inl z
    · exact .inr ⟨z, PySem.W.cellsFrom_some _ _ _ (.inl z)⟩
  have e1 : Env0 P w K mg base (cold A) outer s H := ⟨e0.frames, e0.mod, e0.bs, e0.bsz, e0.funs, e0.frf, e0.hok, e0.bare⟩
  have hdep : A.depth < recursionLimit := hr.depth
  refine codeAny_mono (R := CR (fun _ _ _ _ _ _ => False) outer P w H s Q E0) (codeAny_call_function hdep (kin _ _ lk) rfl S.co S.gen rfl (PySem.W.codeRec_of kin hcd) (hb _ _ _ _ ?_)) fun re s' hq => ?_
  · refine wpAny_newFunctionEnv_cells S.kind kd fun env he s1 ic => ?_
    subst he
    refine ⟨nol.keeps ic.toInCall.keep, codeAny_func ?_⟩
    obtain ⟨t, ht, hq⟩ := hbody cdv (cold A) a outer s H vs Q (hr.deeper _) hs
    have I0 : Inv (cxOf (L2.CX P w) P w K mg base N qual (defScope st) f cdv (cold A) outer s H E0) [] (L2.start N vs) H s1 := inv_start S rfl e1 hv rv ic
    have I1 := inv_hot I0 a
    have go := ht.run [] s1 (L2.start N vs) H _ I1 hq
    rw [show ((cxOf (L2.CX P w) P w K mg base N qual (defScope st) f cdv (cold A) outer s H E0).suite a []).A = A.deeper (envOfC qual (defScope st) s.heap.objs.size f cdv) from hot_A hh] at go
    refine wpAny_mono go (fun fl s' hs => ?_) fun e s' hs => hs.elim
    cases fl with
    | ret u =>
      obtain ⟨v, σ', H', J, rv, q⟩ := hs
      exact ⟨v, H', J.os, J.bare, J.base, J.hok, rv, q⟩
    | next =>
      obtain ⟨σ', H', J, q⟩ := hs
      exact ⟨V.non, H', J.os, J.bare, J.base, J.hok, rfl, q⟩
    | brk =>
      obtain ⟨_, _, _, q⟩ := hs
      exact q.elim
    | cont =>
      obtain ⟨_, _, _, q⟩ := hs
      exact q.elim
  · cases re with
    | error e => exact hq.elim
    | ok fl =>
      cases fl with
      | ret u => exact ⟨u, rfl, hq⟩
      | _ => exact hq.elim
/-- by its data -/
theorem def_hot {c : Cn} {T : Tab} {x qual : Str} {st : Stmt} {f : Addr} {fd : FuncData} {N ps : List Str} {ss : Ss} {k : Nat} (F : Fun K x qual st f fd) (SC : FnScope N ps (defScope st)) (hh : hotSs ss (defBody st) = true) (q : chkSs T ⟨N, defScope st, fun _ => true⟩ ss (defBody st) = true)
    (hb : ∀ X W, X.prog = P → X.w = w → X.K = K → X.mg = mg → X.base = base → X.A.units + 65 < cLine → Takes X W → HotX c T X W) : FnQ P w K mg base (k + 1) f fd ps (spOf c ps.length (mFun N.length (ess T ss))) := by
  refine fnq_of F SC (fun vs H Q E h => h.1) fun cdv A a outer s H vs Q hr h => ?_
  obtain ⟨q1, g, ds, w', q2, q3, q4⟩ := h
  have tk : Takes ((cxOf (L2.CX P w) P w K mg base N qual (defScope st) f cdv A outer s H E0).suite a []) (fun _ _ _ _ => False) := takes0
  refine ⟨_, hotSs_ok (c := c) (T := T) (κ := ⟨N, defScope st, fun _ => true⟩) (hb _ _ rfl rfl rfl rfl rfl ?_ tk) ⟨rfl, SC.nd, rfl, rfl, tk⟩ ss (defBody st) hh q, ?_⟩
  · have := hr.un
    show (A.deeper (envOfC qual (defScope st) s.heap.objs.size f cdv)).units + 65 < cLine
    omega
  refine ⟨g, H, g, startR N.length ds, w', start_ok N q2, q3, Ext.refl _ _, ?_⟩
  unfold mFun at q4
  revert q4
  cases ess T ss (startR N.length ds) w' with
  | next r w2 => exact fun q4 g' H' σ' _ x _ k' => q4 g' H' .non x k' .non
  | ret d w2 => exact fun q4 g' H' v _ x k' r => q4 g' H' v x k' r
  | exc j r w2 => exact fun q4 g' H' σ' _ x _ k' => q4 g' H' x k'
  | bad => exact fun q4 => q4
end
/-! ### the call -/
section
variable {X : Cx} {k : Nat} {f a : Addr} {fd : FuncData} {ps : List Str} {sp : Sp} {x : Str} {p pos : Pos} {e : Expr} {es : List Expr} {t : TA}
theorem pe_callQ (F : FnQ X.prog X.w X.K X.mg X.base k f fd ps sp) (hr : Room k (cold X.A)) (hh : X.A.handled = some (.ref a)) (hg : Gl X x) (hm : X.mg x = some (.ref f)) (hk : PySem.W.keepIn X.K (.ref f) = true) (hb : Binds X.K fd ps [])
    (ha : PA X (e :: es) t) (hdb : (x == ("__debug__" : Str)) = false) (he : starEach (e :: es) X.env = (false, eval e X.env) :: starEach es X.env) (hpl : (backTo pos (starEach es X.env)).any (·.1) = false) :
    PE X (.Call (.Name x p) (e :: es) [] pos) (fun σ H Q => t σ H fun vs H1 => sp vs H1 Q E0) := ⟨fun pins s σ H Q I h => wpAny_Call_Name_kw (ld_glob I hg hm (PySem.W.callWith_K (h₀ := X.base) I.ok.mod.kin hk (thn (ha.run pos pins s σ H _ I h) fun us sb ⟨vs, Hb, Ib, rv, q⟩ => ⟨Ib.kIn, by
  have hl : us.length = ps.length := by rw [← rv.length]; exact F.len _ _ _ _ q
  have b := hb sb us Ib.kIn (by rw [List.append_nil]; exact hl)
  rw [List.append_nil] at b
  refine wpAny_call (codeAny_mono (F.run X.A a X.stack sb Hb ⟨us, []⟩ us vs Q hr hh Ib.env0 b rv q) fun re s' hq => ?_)
  obtain ⟨u, rfl, hq⟩ := hq
  exact Ib.after hq⟩) he hpl) hdb)⟩
end
end RL

/-! try: .., except X as e: xs.append(f(e)); a call without arguments -/
namespace RL
open PySem PySem.Spec PyProof.Rows L2
/-- the wish: the class is caught, the suite runs with the exception in sight -/
def wTrk (K : PySem.W.Frag) (n : Nat) (cv : Value) (i : Nat) (ts : Addr → TS) (Dn : Ends) : WX := fun cls d σ H =>
  PySem.W.exmOne K cls cv = some true ∧ ∀ a, σ.length = n → H a = none → ts a { nx := fun σ' H' => Dn.nx (σ'.set i none) H', rt := fun _ _ => False } (σ.set i (some (.ref a))) (upd H a (exT cls d a))
theorem ps_try_trk {X : Cx} {x n : Str} {cv : Value} {i : Nat} {body suite : List Stmt} {b₀ : Stmt} {np pos pos' : Pos} {tb : WX → TS} {ts : Addr → TS} (hs : X.stack = X.env :: X.outer) (hf : X.env.frame = some X.env.locals) (hN : X.N.Nodup) (hi : X.N[i]? = some n) (hln : X.env.kindOf n = some .local) (hc : Names X x cv)
    (hb : ∀ (W : WX) (pn : List (Addr × Obj)) (xe : Value → Shared → Prop), Takes (X.tr pn xe) W → PassesOwn (model X.prog X.w) X.A X.env xe → PSs (X.tr pn xe) body (tb W))
    (hsu : ∀ (a : Addr) (pn : List (Addr × Obj)), PSs (X.suite a pn) (b₀ :: suite) (ts a)) :
    PS X (.Try body [.ExceptHandler (some (.Name x np)) (some n) (b₀ :: suite) pos'] [] [] pos) (fun Dn σ H => tb (wTrk X.K X.N.length cv i ts Dn) Dn σ H) := by
  refine ⟨fun pins s σ H Dn I h => wpAny_Try_except ?_⟩
  have ok := I.ok
  have framed : X.A.frames = some (X.env :: X.outer) := by rw [ok.frames, hs]
  let hand : Value → Sem Flow := fun e => handleBy e X.env [.ExceptHandler (some (.Name x np)) (some n) (b₀ :: suite) pos']
  let wish : Value → Shared → Prop := fun e s₁ => wpAny (model X.prog X.w) X.A (noteFrame e X.env) (fun _ s₂ => wpAny (model X.prog X.w) X.A (setFlight e none) (fun _ s₃ => wpAny (model X.prog X.w) X.A (hand e) (SP X pins Dn) X.xe s₃) X.xe s₂) X.xe s₁
  refine wpAny_mono ((hb (wTrk X.K X.N.length cv i ts Dn) (X.pn ++ pins) wish (fun u s' z => ?_) PassesOwn.looking).run [] s σ H Dn (I.toTry _) h) (fun f s1 e1 => ?_) (fun e s1 he => he)
  · obtain ⟨a, B, sI, pins', σ', H', cls, d, rfl, JT, nb, up, sky, na, os, ag, hyes, hgo⟩ := z
    have J : Inv X pins σ' H' sI := JT.ofTry ok
    have sky2 : Sky B (X.env :: X.outer) a (Zc cls d) X.env.locals s'.heap := hs ▸ sky
    show wpAny (model X.prog X.w) X.A (noteFrame (.ref a) X.env) _ _ _
    refine Sky.land Zc.steady framed hf sky2 fun hA fA upA => ?_
    have JA : Inv X pins σ' H' { s' with heap := hA } := J.landed nb fA.1 (up.trans upA) os ag
    obtain ⟨oA, vA, gA, zA, dA⟩ := fA.there
    have notIn : a ∉ frs (X.env :: X.outer) := fun hm => by
      obtain ⟨_, o', e', hnf⟩ := fA.2.2.1.mem hm
      rw [gA] at e'
      cases e'
      exact hnf _ dA
    have nL : a ≠ X.env.locals := fun z => notIn (List.mem_filterMap.mpr ⟨X.env, List.mem_cons_self, by rw [hf, z]⟩)
    have nF : a ∉ X.fs := fun hm => by
      obtain ⟨e, he, q⟩ := List.mem_filterMap.mp hm
      exact notIn (List.mem_filterMap.mpr ⟨e, List.mem_cons_of_mem _ he, q⟩)
    have fresh : sI.heap.get? a = none := by
      cases q : sI.heap.get? a with
      | none => rfl
      | some o =>
        have z := nb a o q (by rw [hs]; exact notIn)
        rw [fA.2.1] at z
        cases z
    have SA := JA.suite gA dA na nL nF
    refine wpAny_handleBy_cons (codeAny_handlers_test ?_) (by intro q; cases q)
    have LT : PySem.W.Looks (model X.prog X.w) hA (typeOf (.ref a)) cls := fun A Q E s k q => wpAny_typeOf_ref (k _ _ gA) (by rw [zA.1]; exact q)
    have LM := PySem.W.exm_one (M := model X.prog X.w) (JA.kIn) LT hyes
    have asks : ∀ {Q : Value → Shared → Prop} {E : Value → Shared → Prop}, Q cv { s' with heap := hA } → wpAny (model X.prog X.w) (X.A.mark (some (.ref a))) (eval (.Name x np) X.env) Q E { s' with heap := hA } := fun {Q E} q => by
      obtain ⟨hg, hdbg, hm | ⟨hm, hv, hnn⟩⟩ := hc
      · exact ld_glob (X := X.suite a ((a, oA) :: (X.pn ++ pins))) SA hg hm q hdbg
      · exact ld_blt (X := X.suite a ((a, oA) :: (X.pn ++ pins))) SA hg hm hv q hnn hdbg
    refine asks (LM.here (codeAny_handlers_suite_as ?_))
    refine HandSPX.lands_againZ fA fun hC fC upC => ?_
    have JC : Inv X pins σ' H' { s' with heap := hC } := J.landed nb fC.1 ((up.trans upA).trans upC) os ag
    obtain ⟨oC, vC, gC, zC, dC⟩ := fC.there
    have TC := inv_track (cls := cls) (d := d) JC (a := a) (fun b o e x z => by
        obtain ⟨o', e'⟩ := J.base.there b o e x
        rw [z, fresh] at e'
        cases e') na (fun p hp z => by
        have e' := (J.pin p hp).1
        rw [z, fresh] at e'
        cases e') nL gC zC dC
    have SC := inv_hot TC a
    refine store_ok (X := X.suite a (X.pn ++ pins)) (v := .ref a) SC hN hi (.inl hln) rfl (fun s5 S5 => ?_) (.inr hln)
    refine wpAny_mono ((hsu a (X.pn ++ pins)).run [] s5 _ _ _ S5 (hgo a J.len na)) (fun f s6 e6 => ?_) (fun _ _ z => False.elim z)
    cases f with
    | next =>
      obtain ⟨σ6, H6, S6, q6⟩ := e6
      exact gone_ok (inv_unhot S6 ok) hN hi hln fun s7 J7 => ⟨_, _, J7, q6⟩
    | brk =>
      obtain ⟨_, _, _, q6⟩ := e6
      exact False.elim q6
    | cont =>
      obtain ⟨_, _, _, q6⟩ := e6
      exact False.elim q6
    | ret u =>
      obtain ⟨_, _, _, _, _, q6⟩ := e6
      exact False.elim q6
  · cases f with
    | next =>
      obtain ⟨σ', H', J', q⟩ := e1
      exact wpAny_execs_nil ⟨σ', H', J'.ofTry ok, q⟩
    | brk =>
      obtain ⟨σ', H', J', q⟩ := e1
      exact ⟨σ', H', J'.ofTry ok, q⟩
    | cont =>
      obtain ⟨σ', H', J', q⟩ := e1
      exact ⟨σ', H', J'.ofTry ok, q⟩
    | ret u =>
      obtain ⟨v, σ', H', J', r, q⟩ := e1
      exact ⟨v, σ', H', J'.ofTry ok, r, q⟩
def mPut (i j : Nat) (φ : MF) : MS := sMut j fApp (mCall φ (mCons (mVar i) mNil))
def sTryA (ks : List Nat) (i j : Nat) (φ : MF) (m : MS) : MS := fun r w => match m r w with
  | .exc k r' w' => if ks.contains k then (match mPut i j φ (r'.set i (.dat (.exc k))) w' with
    | .next r2 w2 => .next (r2.set i .emp) w2
    | _ => .bad) else .bad
  | x => x
def chkTA (T : Tab) (κ : Ck) (bb : Ss) (i j t : Nat) (y : Str) : Stmt → Bool
  | .Try xs [.ExceptHandler (some (.Name x _)) (some n) [.Expr (.Call (.Attribute (.Name l _) nm apos) [.Call (.Name y' _) [.Name z _] [] _] [] cpos) _] _] [] [] _ =>
    (match T.trs[t]? with | some p => decide (p.1 = x) | none => false) && glB κ.sc x && plainN x && storB κ i n && isLocal κ.sc n && slotB κ i z && slotB κ j l && decide (nm = "append") && (apos.endLine == cpos.line) && decide (y' = y) && glB κ.sc y && plainN y && chkSs T κ bb xs
  | _ => false
/-- the def y, as it can be called there -/
structure HotF (c : Cn) (P : Program) (w : World) (K : PySem.W.Frag) (mg : Str → Option Value) (base : Heap) (k : Nat) (y : Str) (φ : MF) : Prop where
  ex : ∃ (j : Nat) (fa : Addr) (fd : FuncData) (ps : List Str), FnQ P w K mg base j fa fd ps (spOf c 1 φ) ∧ j ≤ k ∧ mg y = some (.ref fa) ∧ PySem.W.keepIn K (.ref fa) = true ∧ Binds K fd ps []
section
variable {c : Cn} {P : Program} {w : World} {K : PySem.W.Frag} {mg : Str → Option Value} {base : Heap} {k : Nat} {T : Tab}
theorem tryA_rs {X : Cx} {W : WX} {Dn : Ends} {σ : L2.St} {H : Hp} {ks : List Nat} {i j : Nat} {φ : MF} {m : MS} {cv : Value} (hk : ∀ e ∈ ks, PySem.W.exmOne X.K (.ref (c.ec e)) cv = some true) {n : Nat}
    (h : rs c W (sTryA ks i j φ m) Dn σ H) : rs c (wTrk X.K n cv i (fun _ => rs c (fun _ _ _ _ => False) (mPut i j φ)) Dn) m Dn σ H := by
  obtain ⟨g0, B, g, r, w, E, k, x0, p⟩ := h
  refine ⟨g0, B, g, r, w, E, k, x0, ?_⟩
  unfold sTryA at p
  revert p
  cases m r w with
  | next r' w' => exact fun p => p
  | ret d w' => exact fun p => p
  | bad => exact fun p => p
  | exc e r' w' =>
    intro p g' H' σ' l x1 E1 k1
    simp only at p
    split at p
    · rename_i he
      refine ⟨hk e (by simpa using he), fun a hl ha => ?_⟩
      have xl := Ext.laid (o := exT (.ref (c.ec e)) none a) k1 ha
      have rp : Rep c (g'.lay a (exT (.ref (c.ec e)) none a)) (.ref a) (.exc e) := .exc upd_same
      refine ⟨g0, B, _, _, w', (E1.ext xl).setD i rp, k1.laid ha, x1.trans xl, ?_⟩
      revert p
      cases mPut i j φ (r'.set i (.dat (.exc e))) w' with
      | next r2 w2 => exact fun p g3 H3 σ3 l3 x3 E3 k3 => p g3 H3 _ ((l.trans xl.toGle).trans l3) x3 (E3.drop i none) k3
      | ret d w2 => exact fun p => p.elim
      | exc e2 r2 w2 => exact fun p => p.elim
      | bad => exact fun p => p
    · exact False.elim p
theorem st_tryA (HT : TOk c P w K mg base k T) {X : Cx} (b : BOk P w K mg base k X) (R : RunOk X) {κ : Ck} {W : WX} (h : XOk κ X W) {bb : Ss} {i j t : Nat} {y : Str} {φ : MF} (HF : HotF c P w K mg base k y φ) {st : Stmt} (q : chkTA T κ bb i j t y st = true) :
    PS X st (rs c W (sTryA (T.trs.getD t (Str.empty, [])).2 i j φ (ess T bb))) := by
  unfold chkTA at q
  split at q
  · rename_i xs x p n l lp nm apos y' yp z zp p3 cpos p4 p5 pos
    simp only [Bool.and_eq_true, decide_eq_true_eq] at q
    obtain ⟨⟨⟨⟨⟨⟨⟨⟨⟨⟨⟨⟨q1, q2⟩, q3⟩, q4⟩, q5⟩, q6⟩, q7⟩, q8⟩, q9⟩, q10⟩, q11⟩, q12⟩, q13⟩ := q
    subst q8; subst q10
    split at q1
    · rename_i pp hp
      have q1 := of_decide_eq_true q1
      obtain ⟨cv, h1, h2⟩ := HT.trs t pp hp
      obtain ⟨s1, s2, s3⟩ := h.stor q4
      obtain ⟨v1, v2, v3, v4⟩ := h.slot q6
      obtain ⟨u1, u2, u3, u4⟩ := h.slot q7
      have e : T.trs.getD t (Str.empty, []) = pp := by simp [hp]
      rw [e]
      have nl : X.env.kindOf n = some .local := by
        have := isLocal_ok q5
        rw [← h.sc] at this
        exact this
      obtain ⟨jj, fa, fd, ps, F, hj, hm, hkp, hbd⟩ := HF.ex
      have su : ∀ (a : Addr) (pn : List (Addr × Obj)), PSs (X.suite a pn) [.Expr (.Call (.Attribute (.Name l lp) "append" apos) [.Call (.Name y' yp) [.Name z zp] [] p3] [] cpos) p4] (rs c (fun _ _ _ _ => False) (mPut i j φ)) := fun a pn => by
        have F' : FnQ (X.suite a pn).prog (X.suite a pn).w (X.suite a pn).K (X.suite a pn).mg (X.suite a pn).base jj fa fd ps (spOf c 1 φ) := by
          show FnQ X.prog X.w X.K X.mg X.base jj fa fd ps (spOf c 1 φ)
          rw [b.prog, b.w, b.K, b.mg, b.base]
          exact F
        have rm : Room jj (cold (X.suite a pn).A) := by
          have r0 := b.room.mono hj
          exact ⟨rfl, r0.dp, r0.un⟩
        have pv : PE (X.suite a pn) (.Name z zp) (rd c (fun _ _ _ _ => False) (mVar i)) := s_var (X := X.suite a pn) v1 v2 v3 v4
        have pa : PA (X.suite a pn) [.Name z zp] (rdA c (fun _ _ _ _ => False) (mCons (mVar i) mNil)) := a_cons pv a_nil rfl
        have pc : PE (X.suite a pn) (.Call (.Name y' yp) [.Name z zp] [] p3) (rd c (fun _ _ _ _ => False) (mCall φ (mCons (mVar i) mNil))) := by
          refine (pe_callQ (X := X.suite a pn) (a := a) F' rm rfl (h.gl q11) (by show X.mg _ = _; rw [b.mg]; exact hm) (by show PySem.W.keepIn X.K _ = _; rw [b.K]; exact hkp) (by show Binds X.K _ _ _; rw [b.K]; exact hbd) pa (plainN_ok q12).1 rfl rfl).mono fun σ H Q hq => ?_
          obtain ⟨B, g, ρ, w, E, k, p⟩ := hq
          refine ⟨B, g, ρ, w, E, k, bnd p fun g1 H1 vs ds w1 e0 e1 k1 r1 p1 => ?_⟩
          refine ⟨?_, g1, ds, w1, r1, k1, p1⟩
          rw [r1.length]
          exact evs_len T (.cons (.var i) .nil) ρ w w1 ds (by simp only [evs, ev]; exact e0)
        exact pss_one (st_app (X := X.suite a pn) u1 u2 u3 u4 pc q9 rfl)
      refine (ps_try_trk (cv := cv) (i := i) (tb := fun W' => rs c W' (ess T bb)) R.stk R.frm h.nodup s1 nl ⟨h.gl q2, (plainN_ok q3).1, .inl (by rw [b.mg, ← q1]; exact h1)⟩ (fun W' pn xe tk ps => ?_) su).mono fun Dn σ H z => ?_
      · exact sndSs HT (X := X.tr pn xe) ⟨b.prog, b.w, b.K, b.mg, b.base, b.calm, b.room⟩ ⟨R.kind, ps, R.stk, R.frm⟩ (κ := κ) ⟨h.N, h.nd, h.sc, h.fn, tk⟩ bb xs q13
      · exact tryA_rs (X := X) (by rw [b.K]; exact h2) z
    · cases q1
  · cases q
/-! ### f() -/
def mC0 (φ : MF) : ME := fun _ w => match φ [] w with
  | .ok d w' => .ok d w'
  | _ => .bad
def hkC0 (nm : Str) (φ : MF) : Hk := ⟨fun κ e => match e with
  | .Call (.Name x _) [] [] _ => if decide (x = nm) && glB κ.sc nm && plainN nm then some [] else none
  | _ => none, fun ms => match ms with
  | [] => mC0 φ
  | _ => fun _ _ => .bad⟩
theorem hkC0_ok {X : Cx} {W : WX} {nm : Str} {φ : MF} (F : FOk c X nm 0 φ) : HkOk c X W (hkC0 nm φ) := by
  intro κ x xs ms xo hp ha
  simp only [hkC0] at hp
  split at hp
  · split at hp
    · rename_i q
      simp only [Bool.and_eq_true, decide_eq_true_eq] at q
      obtain ⟨⟨q1, q2⟩, q3⟩ := q
      subst q1
      cases hp
      cases ha
      obtain ⟨k, fa, fd, ps, F, hr, hm, hk, hb⟩ := F.ex
      refine .plain ?_ (fun _ => rfl) (fun _ _ _ e => nomatch e)
      refine (pe_call0 (E := E0) F hr (xo.gl q2) hm hk hb .nil passL (plainN_ok q3).1).mono fun σ H Q h => ?_
      obtain ⟨B, g, ρ, w, E, k, p⟩ := h
      refine ⟨rfl, g, [], w, .nil, k, ?_⟩
      have p : post c (Rep c) g H Q (WE W σ) (mC0 φ ρ w) := p
      unfold mC0 at p
      revert p
      cases φ [] w with
      | ok d w' => exact fun p => p
      | exc e w' => exact fun p => p.elim
      | bad => exact fun p => p
    · cases hp
  · cases hp
end
end RL

/-! a def with such a try in a loop -/
namespace RL
open PySem PySem.Spec PyProof.Rows L2
def essK (T : Tab) : Ss → MS → MS
  | .nil, k => k
  | .cons s ss, k => sSeq (es T s) (essK T ss k)
def mTab (T : Tab) (tA : Ss) (tg : Tg) (it : I) (i j t : Nat) (φ : MF) (bb tC : Ss) : MS := essK T tA (sSeq (sFor (evi T it) tg (sSeq (sTryA (T.trs.getD t (Str.empty, [])).2 i j φ (ess T bb)) sNil)) (ess T tC))
def chkTab (T : Tab) (κ : Ck) (n : Nat) (tA : Ss) (tg : Tg) (it : I) (i j t : Nat) (y : Str) (bb tC : Ss) (sts : List Stmt) : Bool := match sts.drop n with
  | .For tg' x [st] [] _ :: rest => chkSs T κ tA (sts.take n) && chkT κ tg tg' && chkI T κ it x tg' && !isSet x && !isOwnI it && chkTA T κ bb i j t y st && chkSs T κ tC rest
  | _ => false
section
variable {c : Cn} {P : Program} {w : World} {K : PySem.W.Frag} {mg : Str → Option Value} {base : Heap} {k : Nat} {T : Tab}
theorem essK_ok (HT : TOk c P w K mg base k T) {X : Cx} (b : BOk P w K mg base k X) (R : RunOk X) {κ : Ck} {W : WX} (h : XOk κ X W) {m : MS} {sts2 : List Stmt} (h2 : PSs X sts2 (rs c W m)) : ∀ (ss : Ss) (sts : List Stmt), chkSs T κ ss sts = true → PSs X (sts ++ sts2) (rs c W (essK T ss m))
  | .nil, sts, q => by
    cases sts with
    | nil => exact h2
    | cons x xs => simp [chkSs] at q
  | .cons s ss, sts, q => by
    cases sts with
    | nil => simp [chkSs] at q
    | cons x xs =>
      simp only [chkSs, Bool.and_eq_true] at q
      exact ss_cons (sndS HT b R h s x q.1) (essK_ok HT b R h h2 ss xs q.2)
theorem tab_ok (HT : TOk c P w K mg base k T) {y : Str} {φ : MF} (HF : HotF c P w K mg base k y φ) {x qual : Str} {st : Stmt} {f : Addr} {fd : FuncData} {N ps : List Str} {n i j t : Nat} {tA bb tC : Ss} {tg : Tg} {it : I} (F : Fun K x qual st f fd) (SC : FnScope N ps (defScope st))
    (q : chkTab T ⟨N, defScope st, fun _ => true⟩ n tA tg it i j t y bb tC (defBody st) = true) : FnOk P w K mg base (L2.CX P w) (k + 1) f fd ps (spOf c ps.length (mFun N.length (mTab T tA tg it i j t φ bb tC))) :=
  fun_ok F SC fun X W e1 e2 e3 e4 e5 e6 e7 e8 e9 tk pass room e10 e11 => by
    have b : BOk P w K mg base k X := ⟨e1, e2, e3, e4, e5, e8, room⟩
    have R : RunOk X := ⟨by rw [e7]; exact SC.kind, pass, e10, e11⟩
    have h : XOk ⟨N, defScope st, fun _ => true⟩ X W := ⟨e6, SC.nd, e7, funext e9, tk⟩
    unfold chkTab at q
    split at q
    · rename_i tg' xx s1 pos rest hd
      simp only [Bool.and_eq_true, Bool.not_eq_true'] at q
      obtain ⟨⟨⟨⟨⟨⟨q1, q2⟩, q3⟩, q4⟩, q5⟩, q6⟩, q7⟩ := q
      rw [← List.take_append_drop n (defBody st), hd]
      have tr := st_tryA HT b R h HF q6
      have lp := st_for (pos := pos) R.pass b.calm ((sndI HT it _ X W xx tg' b h q3).pf q5) (sndT h b.calm tg tg' q2) (ss_cons tr ss_nil) (set_fold q4)
      exact essK_ok HT b R h (ss_cons lp (sndSs HT b R h tC rest q7)) tA _ q1
    · cases q
theorem hotX_of (HT : TOk c P w K mg base k T) (hb : T.bmt = bmtTab) : ∀ X W, X.prog = P → X.w = w → X.K = K → X.mg = mg → X.base = base → X.A.units + 65 < cLine → Takes X W → HotX c T X W := fun X W e1 e2 e3 e4 e5 hu tk =>
  ⟨hu, fun i p e => by
    rw [hb] at e
    have m := List.mem_of_getElem? e
    simp only [bmtTab, List.mem_cons, List.not_mem_nil, or_false] at m
    rcases m with rfl | rfl
    · exact bmt_count hu
    · exact bmt_index hu, by rw [e4]; exact HT.isinstance, fun i p e => by rw [e3, e4]; exact HT.cls i p e⟩
/-- a def of one argument, ready to be called in a suite -/
theorem hot_def {h : Heap} (HT : TOk c P w K mg base k T) (hb : T.bmt = bmtTab) {x z : Str} {st : Stmt} {f : Addr} (d : DefIn K x st f) (X : K.In h) (G : h.Ns mainGlobals mg) {N : List Str} {ss : Ss} (hB : ∀ (kV doc pm : Value) (an : Option Addr) (cdv ct : Value) (us : List Value), us.length = 1 → bindArgs (PySem.W.fnOf x x (defArgs st) (defBody st) (defScope st) .none kV doc pm an cdv ct) ⟨us, []⟩ = pure ([z].zip us))
    (SC : FnScope N [z] (defScope st)) (hh : hotSs ss (defBody st) = true) (q : chkSs T ⟨N, defScope st, fun _ => true⟩ ss (defBody st) = true) {j : Nat} (hj : 1 ≤ j) : HotF c P w K mg base j x (mFun N.length (ess T ss)) := by
  obtain ⟨hm, fd, F, hB'⟩ := d.get X G (ps := [z]) hB
  exact ⟨⟨1, f, fd, [z], def_hot (k := 0) F SC hh q (hotX_of HT hb), hj, hm, d.k, .all hB'⟩⟩
/-- one more def that is called without arguments -/
theorem tok_c0 (HT : TOk c P w K mg base k T) {h : Heap} {x : Str} {st : Stmt} {f : Addr} (d : DefIn K x st f) (X : K.In h) (G : h.Ns mainGlobals mg) (hB : ∀ (kV doc pm : Value) (an : Option Addr) (cdv ct : Value) (us : List Value), us.length = 0 → bindArgs (PySem.W.fnOf x x (defArgs st) (defBody st) (defScope st) .none kV doc pm an cdv ct) ⟨us, []⟩ = pure (([] : List Str).zip us)) {φ : MF}
    (ok : ∀ fd, Fun K x x st f fd → FnOk P w K mg base (L2.CX P w) (k + 1) f fd [] (spOf c 0 φ)) {n : Nat} (hn : T.fns.length = n) : TOk c P w K mg base (k + 1) ((T.add x 0 φ).addH (hkC0 x φ)) := by
  obtain ⟨hm, fd, F, hB'⟩ := d.get X G (ps := []) hB
  have t1 : TOk c P w K mg base (k + 1) (T.add x 0 φ) := tok_hand HT (ok fd F) hm d.k (.all hB')
  refine tok_hk t1 (Nat.le_refl _) fun Y W b tk => hkC0_ok (t1.fns Y b n (x, 0, φ) ?_)
  show (T.fns ++ [(x, 0, φ)])[n]? = _
  rw [← hn]
  simp
end
end RL

namespace RL
open PySem L2
def tA12 (i__law_asked : Nat) : Ss := (.cons (.asg (.nm 0) (.hk 10 (.cons (.cst (.int 2)) .nil))) (.cons (.asg (.nm 1) (.tup (.cons (.lm (.disp (.cons (.tup (.cons (.cst (.int 1)) (.cons (.cst (.int 1)) .nil))) (.cons (.tup (.cons (.cst (.int 2)) (.cons (.cst (.int 1)) .nil))) .nil)))) (.cons (.tup (.cons (.cst (.int 1)) (.cons (.cst (.int 1)) .nil))) .nil)))) (.cons (.for' (.nm 2) (.seq (.lm (.disp (.cons (.cst .non) (.cons (.cst (.int 5)) (.cons (.tup .nil) (.cons (.ix (.var 1) (.cst (.int 0))) (.cons (.lm (.disp (.cons (.var 1) .nil))) (.cons (.tup (.cons (.ix (.var 1) (.cst (.int 0))) .nil)) (.cons (.tup (.cons (.sl (.ix (.var 1) (.cst (.int 0))) .no (.so (.cst (.int 1)))) (.cons (.tup (.cons (.cst (.int 1)) (.cons (.cst (.int 1)) .nil))) .nil))) (.cons (.tup (.cons (.ix (.var 1) (.cst (.int 0))) (.cons (.tup (.cons (.cst (.int 0)) (.cons (.cst (.int 1)) .nil))) .nil))) (.cons (.tup (.cons (.ix (.var 1) (.cst (.int 0))) (.cons (.tup (.cons (.cst (.int 2)) (.cons (.cst (.int 4)) .nil))) .nil))) (.cons (.tup (.cons (.bin .add (.ix (.var 1) (.cst (.int 0))) (.sl (.ix (.var 1) (.cst (.int 0))) .no (.so (.cst (.int 1))))) (.cons (.tup (.cons (.cst (.int 1)) (.cons (.cst (.int 1)) .nil))) .nil))) (.cons (.tup (.cons (.pri 6 (.cons (.ix (.var 1) (.cst (.int 0))) .nil)) (.cons (.tup (.cons (.cst (.int 1)) (.cons (.cst (.int 1)) .nil))) .nil))) .nil)))))))))))))) (.cons (.iff (.or (.bin .ne (.call i__law_asked (.cons (.cst (.int 10)) (.cons (.var 0) (.cons (.var 2) .nil)))) (.cst (.str "trials"))) (.bin .ne (.hk 15 (.cons (.var 0) .nil)) (.cst (.int 0)))) (.cons (.ret (.cst (.bl false))) .nil) .nil) .nil)) (.cons (.own 3 (.disp .nil)) .nil))))
def tB12 (i__law_asked : Nat) : Ss := (.cons (.iff (.bin .eq (.var 4) (.cst (.int 0))) (.cons (.exp (.hk 14 (.cons (.var 0) .nil))) .nil) (.cons (.exp (.hk 12 (.cons (.var 0) .nil))) .nil)) .nil)
def tC12 (i__law_asked : Nat) : Ss := (.cons (.iff (.or (.ocmp .ne 3 (.bin .mul (.lm (.disp (.cons (.cst (.str "none")) .nil))) (.cst (.int 2)))) (.or (.bin .ne (.lm (.comp (.hk 11 (.cons (.var 0) (.cons (.var 1) .nil))) (.nm 6) [6] (.rng (.cons (.cst (.int 8)) .nil)) .no)) (.bin .mul (.lm (.disp (.cons (.cst (.int 49)) .nil))) (.cst (.int 8)))) (.bin .ne (.call i__law_asked (.cons (.cst (.int 10)) (.cons (.var 0) (.cons (.var 1) .nil)))) (.cst (.str "trials"))))) (.cons (.ret (.cst (.bl false))) .nil) .nil) (.cons (.ret (.and (.bin .eq (.hk 15 (.cons (.var 0) .nil)) (.cst (.int 8))) (.and (.bin .eq (.pri 0 (.cons (.hk 12 (.cons (.var 0) .nil)) .nil)) (.cst (.int 49))) (.and (.bin .eq (.hk 14 (.cons (.var 0) .nil)) (.var 1)) (.bin .eq (.hk 13 (.cons (.var 0) .nil)) (.bin .mul (.lm (.disp (.cons (.var 1) .nil))) (.cst (.int 7)))))))) .nil))
def b12_law_found (i__law_asked i_smallest_bar i_crossing i_tells_nothing i_tells_all i_best_amounts i_rates_for i_worst_left : Nat) : Ss := (.cons (.asg (.nm 1) (.lm (.disp (.cons (.tup (.cons (.lm (.disp (.cons (.tup (.cons (.cst (.int 1)) (.cons (.cst (.int 1)) .nil))) (.cons (.tup (.cons (.cst (.int 1)) (.cons (.cst (.int 1)) .nil))) .nil)))) (.cons (.tup (.cons (.cst (.int 1)) (.cons (.cst (.int 1)) .nil))) .nil))) (.cons (.tup (.cons (.lm (.disp (.cons (.tup (.cons (.cst (.int 2)) (.cons (.cst (.int 1)) .nil))) (.cons (.tup (.cons (.cst (.int 1)) (.cons (.cst (.int 1)) .nil))) .nil)))) (.cons (.tup (.cons (.cst (.int 4)) (.cons (.cst (.int 1)) .nil))) .nil))) (.cons (.tup (.cons (.lm (.disp (.cons (.tup (.cons (.cst (.int 1)) (.cons (.cst (.int 1)) .nil))) (.cons (.tup (.cons (.cst (.int 2)) (.cons (.cst (.int 1)) .nil))) .nil)))) (.cons (.tup (.cons (.cst (.int 2)) (.cons (.cst (.int 1)) .nil))) .nil))) .nil)))))) (.cons (.iff (.bin .ne (.lm (.comp (.call i__law_asked (.cons (.cst (.int 12)) (.cons (.var 2) (.cons (.cst (.int 0)) .nil)))) (.nm 2) [2] (.seq (.tup (.cons (.sl (.var 1) .no (.so (.cst (.int 2)))) (.cons (.var 1) (.cons (.bin .add (.var 1) (.lm (.disp (.cons (.tup (.cons (.ix (.ix (.var 1) (.cst (.int 0))) (.cst (.int 0))) (.cons (.tup (.cons (.cst (.int 5)) (.cons (.cst (.int 1)) .nil))) .nil))) .nil)))) .nil))))) .no)) (.lm (.disp (.cons (.cst (.str "none")) (.cons (.cst (.str "done")) (.cons (.cst (.str "none")) .nil)))))) (.cons (.ret (.cst (.bl false))) .nil) .nil) (.cons (.asg (.nm 3) (.bin .add (.var 1) (.lm (.disp (.cons (.tup (.cons (.ix (.ix (.var 1) (.cst (.int 0))) (.cst (.int 0))) (.cons (.tup (.cons (.cst (.int 5)) (.cons (.cst (.int 1)) .nil))) .nil))) .nil))))) (.cons (.iff (.or (.bin .ne (.call i_worst_left (.cons (.var 3) (.cons (.ix (.ix (.var 1) (.cst (.int 0))) (.cst (.int 0))) .nil))) (.cst (.int 0))) (.or (.bin .ne (.call i_rates_for (.cons (.var 3) (.cons (.ix (.ix (.var 1) (.cst (.int 0))) (.cst (.int 0))) .nil))) (.lm (.disp .nil))) (.bin .ne (.call i_best_amounts (.cons (.var 3) (.cons (.lm (.disp (.cons (.ix (.ix (.var 1) (.cst (.int 0))) (.cst (.int 0))) .nil))) .nil))) (.cst (.int 0))))) (.cons (.ret (.cst (.bl false))) .nil) .nil) (.cons (.iff (.or (.bin .isn (.call i_tells_all (.cons (.var 3) (.cons (.ix (.ix (.var 1) (.cst (.int 0))) (.cst (.int 0))) .nil))) (.cst (.bl true))) (.bin .isn (.call i_tells_nothing (.cons (.var 3) (.cons (.ix (.ix (.var 1) (.cst (.int 0))) (.cst (.int 0))) .nil))) (.cst (.bl true)))) (.cons (.ret (.cst (.bl false))) .nil) .nil) (.cons (.iff (.bin .ne (.call i__law_asked (.cons (.cst (.int 14)) (.cons (.lm (.disp (.cons (.ix (.var 1) (.cst (.int 0))) (.cons (.tup (.cons (.lm (.disp (.cons (.tup (.cons (.cst (.int 2)) (.cons (.cst (.int 1)) .nil))) (.cons (.tup (.cons (.cst (.int 1)) (.cons (.cst (.int 1)) .nil))) .nil)))) (.cons (.tup (.cons (.cst (.int 16)) (.cons (.cst (.int 1)) .nil))) .nil))) .nil)))) (.cons (.cst (.int 0)) .nil)))) (.cst (.str "none"))) (.cons (.ret (.cst (.bl false))) .nil) .nil) (.cons (.asg (.tp (.cons (.nm 4) (.cons (.nm 5) .nil))) (.tup (.cons (.tup (.cons (.tup (.cons (.cst (.int 1)) (.cons (.cst (.int 1)) .nil))) (.cons (.lm (.disp (.cons (.cst (.int 1)) (.cons (.cst (.int 1)) (.cons (.cst (.int 2)) .nil))))) .nil))) (.cons (.tup (.cons (.tup (.cons (.cst (.int 2)) (.cons (.cst (.int 1)) .nil))) (.cons (.lm (.disp (.cons (.cst (.int 1)) (.cons (.cst (.int 1)) (.cons (.cst (.int 1)) .nil))))) .nil))) .nil)))) (.cons (.iff (.bin .ne (.call i_crossing (.cons (.var 4) (.cons (.var 5) (.cons (.bin .mul (.lm (.disp (.cons (.tup (.cons (.cst (.int 1)) (.cons (.cst (.int 1)) .nil))) .nil))) (.cst (.int 3))) (.cons (.cst (.int 2)) .nil))))) (.tup (.cons (.cst (.int 2)) (.cons (.cst (.int 1)) .nil)))) (.cons (.ret (.cst (.bl false))) .nil) .nil) (.cons (.iff (.or (.bin .ne (.lm (.comp (.call i__law_asked (.cons (.cst (.int 13)) (.cons (.var 2) (.cons (.cst (.int 0)) .nil)))) (.nm 2) [2] (.seq (.tup (.cons (.var 1) (.cons (.var 3) .nil)))) .no)) (.lm (.disp (.cons (.cst (.str "none")) (.cons (.cst (.str "done")) .nil))))) (.bin .ne (.call i_smallest_bar (.cons (.var 3) .nil)) (.lm (.disp (.cons (.cst (.int 0)) (.cons (.cst (.int 3)) .nil)))))) (.cons (.ret (.cst (.bl false))) .nil) .nil) (.cons (.asg (.nm 6) (.lm (.disp (.cons (.tup (.cons (.sl (.var 1) .no (.so (.cst (.int 1)))) (.cons (.cst (.int 0)) .nil))) (.cons (.tup (.cons (.var 1) (.cons (.cst (.int 0)) .nil))) (.cons (.tup (.cons (.var 1) (.cons (.cst (.int 1)) .nil))) .nil)))))) (.cons (.asg (.nm 6) (.bin .add (.var 6) (.lm (.comp (.tup (.cons (.bin .add (.var 1) (.lm (.disp (.cons (.tup (.cons (.lm (.disp (.cons (.tup (.cons (.var 7) (.cons (.cst (.int 1)) .nil))) (.cons (.tup (.cons (.cst (.int 1)) (.cons (.cst (.int 1)) .nil))) .nil)))) (.cons (.tup (.cons (.cst (.int 4)) (.cons (.cst (.int 1)) .nil))) .nil))) .nil)))) (.cons (.cst (.int 0)) .nil))) (.nm 7) [7] (.seq (.tup (.cons (.cst (.int 3)) (.cons (.cst (.int 4)) .nil)))) .no)))) (.cons (.iff (.bin .ne (.lm (.comp (.call i__law_asked (.cons (.cst (.int 14)) (.cons (.var 2) (.cons (.var 7) .nil)))) (.tp (.cons (.nm 2) (.cons (.nm 7) .nil))) [2, 7] (.seq (.var 6)) .no)) (.lm (.disp (.cons (.cst (.str "none")) (.cons (.cst (.str "done")) (.cons (.cst (.str "done")) (.cons (.cst (.str "none")) (.cons (.cst (.str "none")) .nil)))))))) (.cons (.ret (.cst (.bl false))) .nil) .nil) (.cons (.iff (.bin .ne (.lm (.comp (.call i__law_asked (.cons (.cst (.int 15)) (.cons (.tup (.cons (.tup (.cons (.cst (.int 1)) (.cons (.cst (.int 1)) .nil))) (.cons (.lm (.disp (.cons (.var 7) (.cons (.cst (.int 1)) .nil)))) .nil))) (.cons (.cst (.int 0)) .nil)))) (.nm 7) [7] (.seq (.tup (.cons (.cst (.int 0)) (.cons (.cst (.int 1)) (.cons (.cst (.int 2)) .nil))))) .no)) (.lm (.disp (.cons (.cst (.str "none")) (.cons (.cst (.str "done")) (.cons (.cst (.str "none")) .nil)))))) (.cons (.ret (.cst (.bl false))) .nil) .nil) (.cons (.asg (.nm 8) (.lm (.disp (.cons (.tup (.cons (.tup (.cons (.cst (.int 2)) (.cons (.cst (.int 1)) .nil))) (.cons (.lm (.disp (.cons (.cst (.int 2)) (.cons (.cst (.int 1)) .nil)))) .nil))) (.cons (.tup (.cons (.tup (.cons (.cst (.int 4)) (.cons (.cst (.int 1)) .nil))) (.cons (.lm (.disp (.cons (.cst (.int 0)) (.cons (.bin .sub (.cst (.int 0)) (.cst (.int 1))) .nil)))) .nil))) (.cons (.tup (.cons (.tup (.cons (.cst (.int 8)) (.cons (.cst (.int 1)) .nil))) (.cons (.lm (.disp (.cons (.cst (.int 0)) (.cons (.bin .sub (.cst (.int 0)) (.cst (.int 1))) .nil)))) .nil))) .nil)))))) (.cons (.iff (.bin .ne (.lm (.comp (.call i__law_asked (.cons (.cst (.int 16)) (.cons (.var 2) (.cons (.cst (.int 0)) .nil)))) (.nm 2) [2] (.seq (.var 8)) .no)) (.lm (.disp (.cons (.cst (.str "none")) (.cons (.cst (.str "none")) (.cons (.cst (.str "done")) .nil)))))) (.cons (.ret (.cst (.bl false))) .nil) .nil) (.cons (.ret (.and (.bin .eq (.call i__law_asked (.cons (.cst (.int 17)) (.cons (.var 0) (.cons (.cst (.int 0)) .nil)))) (.cst (.str "amounts"))) (.and (.bin .eq (.call i__law_asked (.cons (.cst (.int 18)) (.cons (.var 0) (.cons (.cst (.int 1)) .nil)))) (.cst (.str "number"))) (.and (.bin .eq (.call i__law_asked (.cons (.cst (.int 16)) (.cons (.var 0) (.cons (.cst (.int 0)) .nil)))) (.cst (.str "amounts"))) (.hk 16 .nil))))) .nil))))))))))))))))
def b__law_call (i__law_none i_same_rates i_with_fixed i_multiplied i_order_of_rates i_best_amounts i_scaled i_in_units i_amount_for i_growth : Nat) : Ss := (.cons (.asg (.tp (.cons (.nm 3) (.cons (.nm 4) .nil))) (.tup (.cons (.tup (.cons (.tup (.cons (.cst (.int 2)) (.cons (.cst (.int 1)) .nil))) (.cons (.lm (.disp (.cons (.cst (.int 2)) (.cons (.bin .sub (.cst (.int 0)) (.cst (.int 1))) .nil)))) .nil))) (.cons (.lm (.disp (.cons (.tup (.cons (.cst (.int 1)) (.cons (.cst (.int 1)) .nil))) (.cons (.tup (.cons (.cst (.int 2)) (.cons (.cst (.int 1)) .nil))) .nil)))) .nil)))) (.cons (.asg (.nm 5) (.lm (.disp (.cons (.tup (.cons (.var 4) (.cons (.tup (.cons (.cst (.int 1)) (.cons (.cst (.int 1)) .nil))) .nil))) (.cons (.tup (.cons (.lm (.disp (.cons (.tup (.cons (.cst (.int 2)) (.cons (.cst (.int 1)) .nil))) (.cons (.tup (.cons (.cst (.int 2)) (.cons (.cst (.int 1)) .nil))) .nil)))) (.cons (.tup (.cons (.cst (.int 4)) (.cons (.cst (.int 1)) .nil))) .nil))) .nil))))) (.cons (.iff (.bin .eq (.var 0) (.cst (.int 0))) (.cons (.ret (.call i_growth (.cons (.var 3) (.cons (.cst (.int 0)) (.cons (.var 1) .nil))))) .nil) .nil) (.cons (.iff (.bin .eq (.var 0) (.cst (.int 1))) (.cons (.ret (.call i_amount_for (.cons (.var 3) (.cons (.var 4) (.cons (.cst (.int 0)) (.cons (.var 1) .nil)))))) .nil) .nil) (.cons (.iff (.bin .eq (.var 0) (.cst (.int 2))) (.cons (.ret (.call i_in_units (.cons (.var 3) (.cons (.var 4) (.cons (.var 1) .nil))))) .nil) .nil) (.cons (.iff (.bin .eq (.var 0) (.cst (.int 3))) (.cons (.ret (.call i_scaled (.cons (.var 3) (.cons (.var 1) .nil)))) .nil) .nil) (.cons (.iff (.bin .eq (.var 0) (.cst (.int 4))) (.cons (.ret (.call i_with_fixed (.cons (.var 3) (.cons (.cst (.int 0)) (.cons (.var 1) .nil))))) .nil) .nil) (.cons (.iff (.bin .eq (.var 0) (.cst (.int 5))) (.cons (.ret (.call i_best_amounts (.cons (.var 5) (.cons (.var 1) .nil)))) .nil) .nil) (.cons (.iff (.bin .eq (.var 0) (.cst (.int 6))) (.cons (.ret (.call i_order_of_rates (.cons (.var 3) (.cons (.var 1) .nil)))) .nil) .nil) (.cons (.iff (.bin .eq (.var 0) (.cst (.int 7))) (.cons (.ret (.call i_multiplied (.cons (.var 1) (.cons (.var 2) .nil)))) .nil) .nil) (.cons (.iff (.bin .eq (.var 0) (.cst (.int 8))) (.cons (.ret (.call i_with_fixed (.cons (.var 1) (.cons (.var 2) (.cons (.tup (.cons (.cst (.int 1)) (.cons (.cst (.int 1)) .nil))) .nil))))) .nil) .nil) (.cons (.iff (.bin .eq (.var 0) (.cst (.int 9))) (.cons (.ret (.hk 10 (.cons (.var 1) .nil))) .nil) .nil) (.cons (.iff (.bin .eq (.var 0) (.cst (.int 10))) (.cons (.ret (.hk 11 (.cons (.var 1) (.cons (.var 2) .nil)))) .nil) .nil) (.cons (.iff (.bin .eq (.var 0) (.cst (.int 11))) (.cons (.ret (.call i_same_rates (.cons (.var 1) (.cons (.var 2) (.cons (.var 5) .nil))))) .nil) .nil) (.cons (.ret (.call i__law_none (.cons (.var 0) (.cons (.var 1) (.cons (.var 2) (.cons (.var 3) (.cons (.var 4) (.cons (.var 5) .nil)))))))) .nil)))))))))))))))
def b__law_asked (i__law_error i__law_call : Nat) : Ss := (.cons (.asg (.nm 3) (.cst .non)) (.cons (.tryK (.cons (.exp (.call i__law_call (.cons (.var 0) (.cons (.var 1) (.cons (.var 2) .nil))))) .nil) 4 3 0) (.cons (.ret (.ite (.bin .is (.var 3) (.cst .non)) (.cst (.str "done")) (.call i__law_error (.cons (.var 3) .nil)))) .nil)))
def k12s1 : S := (.for' (.nm 2) (.seq (.lm (.disp (.cons (.cst .non) (.cons (.cst (.int 5)) (.cons (.tup (.cons (.cst (.int 0)) (.cons (.cst (.int 1)) .nil))) (.cons (.tup (.cons (.cst (.int 2)) (.cons (.cst (.int 4)) .nil))) (.cons (.tup (.cons (.bin .sub (.cst (.int 0)) (.cst (.int 1))) (.cons (.cst (.int 1)) .nil))) (.cons (.tup (.cons (.cst (.int 1)) (.cons (.cst (.int 0)) .nil))) (.cons (.tup (.cons (.cst (.bl true)) (.cons (.cst (.int 1)) .nil))) (.cons (.lm (.disp (.cons (.cst (.int 1)) (.cons (.cst (.int 2)) .nil)))) (.cons (.tup (.cons (.cst (.int 1)) (.cons (.cst (.int 2)) (.cons (.cst (.int 3)) .nil)))) .nil)))))))))))) (.cons (.iff (.bin .ne (.lm (.comp (.call 50 (.cons (.var 3) (.cons (.var 2) (.cons (.cst (.int 0)) .nil)))) (.nm 3) [3] (.rng (.cons (.cst (.int 5)) .nil)) .no)) (.bin .mul (.lm (.disp (.cons (.cst (.str "amounts")) .nil))) (.cst (.int 5)))) (.cons (.ret (.cst (.bl false))) .nil) .nil) .nil))
def k12s2 : S := (.iff (.or (.bin .ne (.lm (.comp (.call 50 (.cons (.var 3) (.cons (.tup (.cons (.cst (.int 4)) (.cons (.cst (.int 1)) .nil))) (.cons (.cst (.int 0)) .nil)))) (.nm 3) [3] (.rng (.cons (.cst (.int 5)) .nil)) .no)) (.bin .mul (.lm (.disp (.cons (.cst (.str "done")) .nil))) (.cst (.int 5)))) (.bin .ne (.lm (.comp (.call 50 (.cons (.cst (.int 1)) (.cons (.var 4) (.cons (.cst (.int 0)) .nil)))) (.nm 4) [4] (.seq (.tup (.cons (.tup (.cons (.cst (.int 3)) (.cons (.cst (.int 1)) .nil))) (.cons (.tup (.cons (.cst (.int 2)) (.cons (.cst (.int 1)) .nil))) (.cons (.tup (.cons (.cst (.int 9)) (.cons (.cst (.int 1)) .nil))) .nil))))) .no)) (.lm (.disp (.cons (.cst (.str "none")) (.cons (.cst (.str "none")) (.cons (.cst (.str "done")) .nil))))))) (.cons (.ret (.cst (.bl false))) .nil) .nil)
def k12s3 : S := (.for' (.nm 2) (.seq (.lm (.disp (.cons (.cst .non) (.cons (.cst (.int 5)) (.cons (.tup (.cons (.tup (.cons (.cst (.int 1)) (.cons (.cst (.int 1)) .nil))) (.cons (.tup (.cons (.cst (.int 1)) (.cons (.cst (.int 1)) .nil))) .nil))) (.cons (.lm (.disp (.cons (.tup (.cons (.cst (.int 1)) (.cons (.cst (.int 1)) .nil))) .nil))) (.cons (.lm (.disp (.cons (.lm (.disp (.cons (.tup (.cons (.cst (.int 1)) (.cons (.cst (.int 1)) .nil))) .nil))) .nil))) (.cons (.lm (.disp (.cons (.lm (.disp (.cons (.tup (.cons (.cst (.int 1)) (.cons (.cst (.int 1)) .nil))) (.cons (.tup (.cons (.cst (.int 2)) (.cons (.cst (.int 1)) .nil))) .nil)))) (.cons (.cst .non) .nil)))) (.cons (.lm (.disp (.cons (.lm (.disp (.cons (.tup (.cons (.cst (.int 1)) (.cons (.cst (.int 1)) .nil))) (.cons (.tup (.cons (.cst (.int 2)) (.cons (.cst (.int 4)) .nil))) .nil)))) .nil))) .nil)))))))))) (.cons (.iff (.bin .ne (.lm (.comp (.call 50 (.cons (.var 3) (.cons (.var 2) (.cons (.cst (.int 0)) .nil)))) (.nm 3) [3] (.seq (.tup (.cons (.cst (.int 5)) (.cons (.cst (.int 6)) .nil)))) .no)) (.bin .mul (.lm (.disp (.cons (.cst (.str "amounts")) .nil))) (.cst (.int 2)))) (.cons (.ret (.cst (.bl false))) .nil) .nil) .nil))
def k12s4 : S := (.iff (.or (.bin .ne (.lm (.comp (.call 50 (.cons (.var 3) (.cons (.lm (.disp .nil)) (.cons (.cst (.int 0)) .nil)))) (.nm 3) [3] (.seq (.tup (.cons (.cst (.int 5)) (.cons (.cst (.int 6)) .nil)))) .no)) (.lm (.disp (.cons (.cst (.str "amounts")) (.cons (.cst (.str "done")) .nil))))) (.bin .ne (.lm (.comp (.call 50 (.cons (.var 3) (.cons (.bin .mul (.lm (.disp (.cons (.lm (.disp (.cons (.tup (.cons (.cst (.int 1)) (.cons (.cst (.int 1)) .nil))) (.cons (.tup (.cons (.cst (.int 2)) (.cons (.cst (.int 1)) .nil))) .nil)))) .nil))) (.cst (.int 3))) (.cons (.cst (.int 0)) .nil)))) (.nm 3) [3] (.seq (.tup (.cons (.cst (.int 5)) (.cons (.cst (.int 6)) .nil)))) .no)) (.bin .mul (.lm (.disp (.cons (.cst (.str "done")) .nil))) (.cst (.int 2))))) (.cons (.ret (.cst (.bl false))) .nil) .nil)
def k12s5 : S := (.asg (.tp (.cons (.nm 5) (.cons (.nm 6) .nil))) (.tup (.cons (.tup (.cons (.tup (.cons (.cst (.int 1)) (.cons (.cst (.int 1)) .nil))) (.cons (.lm (.disp (.cons (.cst (.int 2)) (.cons (.bin .sub (.cst (.int 0)) (.cst (.int 2))) .nil)))) .nil))) (.cons (.tup (.cons (.tup (.cons (.cst (.int 1)) (.cons (.cst (.int 1)) .nil))) (.cons (.lm (.disp (.cons (.cst (.int 1)) .nil))) .nil))) .nil))))
def k12s6 : S := (.asg (.nm 7) (.lm (.comp (.call 50 (.cons (.cst (.int 7)) (.cons (.var 8) (.cons (.var 9) .nil)))) (.tp (.cons (.nm 8) (.cons (.nm 9) .nil))) [8, 9] (.seq (.tup (.cons (.tup (.cons (.var 5) (.cons (.var 6) .nil))) (.cons (.tup (.cons (.var 6) (.cons (.var 5) .nil))) (.cons (.tup (.cons (.var 5) (.cons (.var 5) .nil))) (.cons (.tup (.cons (.var 5) (.cons (.tup (.cons (.tup (.cons (.cst (.int 1)) (.cons (.cst (.int 1)) .nil))) (.cons (.lm (.disp (.cons (.cst (.int 1)) (.cons (.bin .sub (.cst (.int 0)) (.cst (.int 1))) .nil)))) .nil))) .nil))) (.cons (.tup (.cons (.var 5) (.cons (.tup (.cons (.tup (.cons (.cst (.int 1)) (.cons (.cst (.int 1)) .nil))) (.cons (.lm (.disp (.cons (.cst (.int 1)) (.cons (.cst (.int 1)) .nil)))) .nil))) .nil))) (.cons (.tup (.cons (.cst .non) (.cons (.cst .non) .nil))) .nil)))))))) .no)))
def k12s7 : S := (.iff (.bin .ne (.var 7) (.bin .add (.bin .add (.bin .mul (.lm (.disp (.cons (.cst (.str "rule")) .nil))) (.cst (.int 3))) (.bin .mul (.lm (.disp (.cons (.cst (.str "done")) .nil))) (.cst (.int 2)))) (.lm (.disp (.cons (.cst (.str "rule")) .nil))))) (.cons (.ret (.cst (.bl false))) .nil) .nil)
def k12s8 : S := (.iff (.bin .ne (.lm (.comp (.call 50 (.cons (.cst (.int 8)) (.cons (.var 8) (.cons (.var 9) .nil)))) (.tp (.cons (.nm 8) (.cons (.nm 9) .nil))) [8, 9] (.seq (.tup (.cons (.tup (.cons (.var 6) (.cons (.cst (.int 0)) .nil))) (.cons (.tup (.cons (.var 6) (.cons (.cst (.int 1)) .nil))) (.cons (.tup (.cons (.var 5) (.cons (.cst (.int 0)) .nil))) .nil))))) .no)) (.lm (.disp (.cons (.cst (.str "rule")) (.cons (.cst (.str "number")) (.cons (.cst (.str "done")) .nil)))))) (.cons (.ret (.cst (.bl false))) .nil) .nil)
def k12s9 : S := (.iff (.bin .ne (.lm (.comp (.call 50 (.cons (.cst (.int 9)) (.cons (.var 2) (.cons (.cst (.int 0)) .nil)))) (.nm 2) [2] (.seq (.tup (.cons (.cst .non) (.cons (.cst (.int 0)) (.cons (.cst (.int 4)) (.cons (.cst (.bl true)) (.cons (.cst (.str "1")) (.cons (.cst (.int 1)) (.cons (.cst (.int 3)) .nil))))))))) .no)) (.bin .add (.bin .mul (.lm (.disp (.cons (.cst (.str "number")) .nil))) (.cst (.int 5))) (.bin .mul (.lm (.disp (.cons (.cst (.str "done")) .nil))) (.cst (.int 2))))) (.cons (.ret (.cst (.bl false))) .nil) .nil)
def k12s10 : S := (.iff (.bin .ne (.lm (.comp (.call 50 (.cons (.cst (.int 11)) (.cons (.var 8) (.cons (.var 9) .nil)))) (.tp (.cons (.nm 8) (.cons (.nm 9) .nil))) [8, 9] (.seq (.tup (.cons (.tup (.cons (.var 5) (.cons (.var 6) .nil))) (.cons (.tup (.cons (.var 6) (.cons (.var 5) .nil))) (.cons (.tup (.cons (.var 5) (.cons (.var 5) .nil))) .nil))))) .no)) (.bin .add (.bin .mul (.lm (.disp (.cons (.cst (.str "amounts")) .nil))) (.cst (.int 2))) (.lm (.disp (.cons (.cst (.str "done")) .nil))))) (.cons (.ret (.cst (.bl false))) .nil) .nil)
def k12s11 : S := (.ret (.call 52 (.cons (.var 6) .nil)))
def b_law_k12 : Ss := (.cons k12s1 (.cons k12s2 (.cons k12s3 (.cons k12s4 (.cons k12s5 (.cons k12s6 (.cons k12s7 (.cons k12s8 (.cons k12s9 (.cons k12s10 (.cons k12s11 .nil)))))))))))
-- slots 0:script 1:draws 2:bad 3:k 4:far 5:one 6:wide 7:told 8:a 9:b
-- uses _law_found=52 _law_asked=50
def isWin : RS → Bool
  | .ret (.bl true) _ => true
  | _ => false
theorem isWin_ok {x : RS} (h : isWin x = true) : ∃ w', x = .ret (.bl true) w' := by
  unfold isWin at h
  split at h
  · exact ⟨_, rfl⟩
  · cases h
end RL

namespace RL
open PySem L2
def top (i : Nat) : Stmt := PySem.Challenge.pw_ratelaws_k12_more_errors.main.body.getD i (.Pass ⟨0, 0, 0, 0⟩)
/-! ### the start, by hand -/
section
variable {c : Cn} {P : Program} {w : World} {K : PySem.W.Frag} {mg : Str → Option Value} {base : Heap}
theorem dp_ints {H : Hp} : ∀ ns : List Int, DpAll K H (ns.map V.int) (ns.map PyData.int)
  | [] => .nil
  | n :: ns => .cons (.int n) (dp_ints ns)
theorem lay_ints : ∀ ns : List Int, PyData.canLayAll0 (ns.map PyData.int) = true
  | [] => rfl
  | n :: ns => by simp [PyData.canLayAll0, PyData.canLay0, lay_ints ns]
theorem dep_ints : ∀ ns : List Int, PyData.depthAll (ns.map PyData.int) ≤ 1
  | [] => by simp [PyData.depthAll]
  | n :: ns => by
    have := dep_ints ns
    simp only [List.map_cons, PyData.depthAll, PyData.depth]
    omega
theorem shaped_ints (ns : List Int) : SeqAt.shaped (.list (ns.map PyData.int)) = true := by
  have h1 := dep_ints ns
  have h2 : (PyData.list (ns.map PyData.int)).depth ≤ 64 := by
    simp only [PyData.depth]
    omega
  unfold SeqAt.shaped
  simp only [PyData.canLay0, lay_ints, Bool.true_and]
  exact decide_eq_true h2
theorem scS : FnScope ["script"] ["script"] (defScope (top 66)) := ⟨rfl, rfl, rfl, by decide +kernel, rfl, by decide +kernel, by decide +kernel⟩
theorem ok_start {f : Addr} {fd : FuncData} (F : Fun K "_law_start" "_law_start" (top 66) f fd) (hlist : mg "list" = none) : FnOk P w K mg base (L2.CX P w) 1 f fd ["script"] (spStart K) := by
  refine F.okX scS (fun vs H Q E h => by obtain ⟨a, ns, rfl, _⟩ := h; rfl) fun cdv A outer s H vs Q E hr h => ?_
  obtain ⟨a, ns, rfl, hs, kq⟩ := h
  refine ⟨_, pss_one (ps_ret (pe_lst (pa_cons (pe_ifExp (pt_cmpR (op_neD hr.units) (pv 0) (pe_lst pa_nil) (nomark _)) (pe_callTy call_list_of (by rfl) hlist (by decide +kernel) (pa_cons (pv 0) pa_nil)) (pe_lst (pa_cons pe_int pa_nil))) (pa_cons pe_int pa_nil)))), ?_⟩
  refine ⟨_, rfl, Nat.zero_le _, fun e he => ?_⟩
  have s1 : Same H (upd H e (.lst [])) := fun b o q => by rw [upd_ne (ne_of_none q he)]; exact q
  refine ⟨_, _, .lst (s1.seq hs) (dp_ints ns), .lst (SqL.of upd_same) .nil, shaped_ints ns, by decide, _, rfl, ?_⟩
  have back : ∀ {H1 : Hp} {q p : Addr}, Same H H1 → H1 q = none → (upd H1 q (.lst ((scriptOf ns).map V.int))) p = none → Q (.ref p) (upd (upd H1 q (.lst ((scriptOf ns).map V.int))) p (.lst [.ref q, .int 0])) := fun {H1 q p} s2 hq hp => by
    have npq : p ≠ q := fun z => by rw [z, upd_same] at hp; cases hp
    have hp1 : H1 p = none := by rw [upd_ne npq] at hp; exact hp
    refine kq _ p q (fun b o e => ?_) (s2.free hp1) (s2.free hq) npq upd_same (by rw [upd_ne (Ne.symm npq), upd_same])
    have e1 := s2 b o e
    rw [upd_ne (ne_of_none e1 hp1), upd_ne (ne_of_none e1 hq)]
    exact e1
  cases ns with
  | nil =>
    refine iteF ⟨by show 1 ≤ sizeLine; decide, fun q hq => ⟨by show 2 ≤ sizeLine; decide, fun p hp => ?_⟩⟩
    exact back s1 hq hp
  | cons n ns =>
    refine iteT ⟨_, rfl, a, _, rfl, .inl (s1.seq hs), fun q hq => ⟨by show 2 ≤ sizeLine; decide, fun p hp => ?_⟩⟩
    exact back s1 hq hp
end

def tab0 : Tab := ⟨[], priTab, bmtTab, [("MOST_POWER", .int 3)], ["BadRule", "BadTrials", "BadAmounts", "BadNumber", "BadText", "NotFound"], trsTab, clsTab, pr2Tab, hk0⟩
def f0 : MF := mFun 3 (ess tab0 (b_is_int))
theorem q0 : chkSs tab0 ⟨["value", "low", "high"], defScope (top 9), fun _ => true⟩ (b_is_int) (defBody (top 9)) = true := by decide +kernel
theorem sc0 : FnScope ["value", "low", "high"] ["value", "low", "high"] (defScope (top 9)) := ⟨rfl, rfl, rfl, by decide +kernel, rfl, by decide +kernel, by decide +kernel⟩
def tab1 : Tab := tab0.add "is_int" 3 f0
def f1 : MF := mFun 2 (ess tab1 (b_common))
theorem q1 : chkSs tab1 ⟨["one", "other"], defScope (top 10), fun _ => true⟩ (b_common) (defBody (top 10)) = true := by decide +kernel
theorem sc1 : FnScope ["one", "other"] ["one", "other"] (defScope (top 10)) := ⟨rfl, rfl, rfl, by decide +kernel, rfl, by decide +kernel, by decide +kernel⟩
def tab2 : Tab := tab1.add "common" 2 f1
def f2 : MF := mFun 2 (ess tab2 (b_is_amount 1))
theorem q2 : chkSs tab2 ⟨["value", "part"], defScope (top 11), fun _ => true⟩ (b_is_amount 1) (defBody (top 11)) = true := by decide +kernel
theorem sc2 : FnScope ["value", "part"] ["value"] (defScope (top 11)) := ⟨rfl, rfl, rfl, by decide +kernel, rfl, by decide +kernel, by decide +kernel⟩
def tab3 : Tab := tab2.add "is_amount" 1 f2
def f3 : MF := mFun 2 (ess tab3 (b_is_rule 0 2))
theorem q3 : chkSs tab3 ⟨["value", "one"], defScope (top 12), fun _ => true⟩ (b_is_rule 0 2) (defBody (top 12)) = true := by decide +kernel
theorem sc3 : FnScope ["value", "one"] ["value"] (defScope (top 12)) := ⟨rfl, rfl, rfl, by decide +kernel, rfl, by decide +kernel, by decide +kernel⟩
def tab4 : Tab := tab3.add "is_rule" 1 f3
def f4 : MF := mFun 3 (ess tab4 (b_is_amounts 2))
theorem q4 : chkSs tab4 ⟨["value", "size", "one"], defScope (top 13), fun _ => true⟩ (b_is_amounts 2) (defBody (top 13)) = true := by decide +kernel
theorem sc4 : FnScope ["value", "size", "one"] ["value", "size"] (defScope (top 13)) := ⟨rfl, rfl, rfl, by decide +kernel, rfl, by decide +kernel, by decide +kernel⟩
def tab5 : Tab := tab4.add "is_amounts" 2 f4
def f5 : MF := mFun 2 (ess tab5 (b_is_trials 4 2))
theorem q5 : chkSs tab5 ⟨["value", "one"], defScope (top 14), fun _ => true⟩ (b_is_trials 4 2) (defBody (top 14)) = true := by decide +kernel
theorem sc5 : FnScope ["value", "one"] ["value"] (defScope (top 14)) := ⟨rfl, rfl, rfl, by decide +kernel, rfl, by decide +kernel, by decide +kernel⟩
def tab6 : Tab := tab5.add "is_trials" 1 f5
def f6 : MF := mFun 1 (ess tab6 (b_check_rule 3))
theorem q6 : chkSs tab6 ⟨["value"], defScope (top 15), fun _ => true⟩ (b_check_rule 3) (defBody (top 15)) = true := by decide +kernel
theorem sc6 : FnScope ["value"] ["value"] (defScope (top 15)) := ⟨rfl, rfl, rfl, by decide +kernel, rfl, by decide +kernel, by decide +kernel⟩
def tab7 : Tab := tab6.add "check_rule" 1 f6
def f7 : MF := mFun 1 (ess tab7 (b_check_trials 5))
theorem q7 : chkSs tab7 ⟨["value"], defScope (top 16), fun _ => true⟩ (b_check_trials 5) (defBody (top 16)) = true := by decide +kernel
theorem sc7 : FnScope ["value"] ["value"] (defScope (top 16)) := ⟨rfl, rfl, rfl, by decide +kernel, rfl, by decide +kernel, by decide +kernel⟩
def tab8 : Tab := tab7.add "check_trials" 1 f7
def f8 : MF := mFun 2 (ess tab8 (b_check_amounts 4))
theorem q8 : chkSs tab8 ⟨["value", "size"], defScope (top 17), fun _ => true⟩ (b_check_amounts 4) (defBody (top 17)) = true := by decide +kernel
theorem sc8 : FnScope ["value", "size"] ["value", "size"] (defScope (top 17)) := ⟨rfl, rfl, rfl, by decide +kernel, rfl, by decide +kernel, by decide +kernel⟩
def tab9 : Tab := tab8.add "check_amounts" 2 f8
def f9 : MF := mFun 1 (ess tab9 (b_check_amount 2))
theorem q9 : chkSs tab9 ⟨["value"], defScope (top 18), fun _ => true⟩ (b_check_amount 2) (defBody (top 18)) = true := by decide +kernel
theorem sc9 : FnScope ["value"] ["value"] (defScope (top 18)) := ⟨rfl, rfl, rfl, by decide +kernel, rfl, by decide +kernel, by decide +kernel⟩
def tab10 : Tab := tab9.add "check_amount" 1 f9
def f10 : MF := mFun 2 (ess tab10 (b_check_quantity 0))
theorem q10 : chkSs tab10 ⟨["size", "value"], defScope (top 19), fun _ => true⟩ (b_check_quantity 0) (defBody (top 19)) = true := by decide +kernel
theorem sc10 : FnScope ["size", "value"] ["size", "value"] (defScope (top 19)) := ⟨rfl, rfl, rfl, by decide +kernel, rfl, by decide +kernel, by decide +kernel⟩
def tab11 : Tab := tab10.add "check_quantity" 2 f10
def f11 : MF := mFun 3 (ess tab11 (b_lowest 1))
theorem q11 : chkSs tab11 ⟨["top", "below", "divisor"], defScope (top 21), fun _ => true⟩ (b_lowest 1) (defBody (top 21)) = true := by decide +kernel
theorem sc11 : FnScope ["top", "below", "divisor"] ["top", "below"] (defScope (top 21)) := ⟨rfl, rfl, rfl, by decide +kernel, rfl, by decide +kernel, by decide +kernel⟩
def tab12 : Tab := tab11.add "lowest" 2 f11
def f12 : MF := mFun 2 (ess tab12 (b_product 11))
theorem q12 : chkSs tab12 ⟨["one", "other"], defScope (top 22), fun _ => true⟩ (b_product 11) (defBody (top 22)) = true := by decide +kernel
theorem sc12 : FnScope ["one", "other"] ["one", "other"] (defScope (top 22)) := ⟨rfl, rfl, rfl, by decide +kernel, rfl, by decide +kernel, by decide +kernel⟩
def tab13 : Tab := tab12.add "product" 2 f12
def f13 : MF := mFun 2 (ess tab13 (b_quotient 11))
theorem q13 : chkSs tab13 ⟨["one", "other"], defScope (top 23), fun _ => true⟩ (b_quotient 11) (defBody (top 23)) = true := by decide +kernel
theorem sc13 : FnScope ["one", "other"] ["one", "other"] (defScope (top 23)) := ⟨rfl, rfl, rfl, by decide +kernel, rfl, by decide +kernel, by decide +kernel⟩
def tab14 : Tab := tab13.add "quotient" 2 f13
def f14 : MF := mFun 4 (ess tab14 (b_power 12))
theorem q14 : chkSs tab14 ⟨["value", "exponent", "found", "turn"], defScope (top 24), fun _ => true⟩ (b_power 12) (defBody (top 24)) = true := by decide +kernel
theorem sc14 : FnScope ["value", "exponent", "found", "turn"] ["value", "exponent"] (defScope (top 24)) := ⟨rfl, rfl, rfl, by decide +kernel, rfl, by decide +kernel, by decide +kernel⟩
def tab15 : Tab := tab14.add "power" 2 f14
def f15 : MF := mFun 2 (ess tab15 (b_less))
theorem q15 : chkSs tab15 ⟨["one", "other"], defScope (top 25), fun _ => true⟩ (b_less) (defBody (top 25)) = true := by decide +kernel
theorem sc15 : FnScope ["one", "other"] ["one", "other"] (defScope (top 25)) := ⟨rfl, rfl, rfl, by decide +kernel, rfl, by decide +kernel, by decide +kernel⟩
def tab16 : Tab := tab15.add "less" 2 f15
def f16 : MF := mFun 7 (ess tab16 (b_root_of))
theorem q16 : chkSs tab16 ⟨["number", "degree", "low", "high", "middle", "whole", "turn"], defScope (top 26), fun _ => true⟩ (b_root_of) (defBody (top 26)) = true := by decide +kernel
theorem sc16 : FnScope ["number", "degree", "low", "high", "middle", "whole", "turn"] ["number", "degree"] (defScope (top 26)) := ⟨rfl, rfl, rfl, by decide +kernel, rfl, by decide +kernel, by decide +kernel⟩
def tab17 : Tab := tab16.add "root_of" 2 f16
def f17 : MF := mFun 5 (ess tab17 (b_products_of 12 14))
theorem q17 : chkSs tab17 ⟨["powers", "amounts", "found", "one", "amount"], defScope (top 28), fun _ => true⟩ (b_products_of 12 14) (defBody (top 28)) = true := by decide +kernel
theorem sc17 : FnScope ["powers", "amounts", "found", "one", "amount"] ["powers", "amounts"] (defScope (top 28)) := ⟨rfl, rfl, rfl, by decide +kernel, rfl, by decide +kernel, by decide +kernel⟩
def tab18 : Tab := tab17.add "products_of" 2 f17
def f18 : MF := mFun 2 (ess tab18 (b_rate_of 12 17))
theorem q18 : chkSs tab18 ⟨["rule", "amounts"], defScope (top 29), fun _ => true⟩ (b_rate_of 12 17) (defBody (top 29)) = true := by decide +kernel
theorem sc18 : FnScope ["rule", "amounts"] ["rule", "amounts"] (defScope (top 29)) := ⟨rfl, rfl, rfl, by decide +kernel, rfl, by decide +kernel, by decide +kernel⟩
def tab19 : Tab := tab18.add "rate_of" 2 f18
def f19 : MF := mFun 3 (ess tab19 (b_growth 14 9 10 6))
theorem q19 : chkSs tab19 ⟨["rule", "quantity", "factor"], defScope (top 30), fun _ => true⟩ (b_growth 14 9 10 6) (defBody (top 30)) = true := by decide +kernel
theorem sc19 : FnScope ["rule", "quantity", "factor"] ["rule", "quantity", "factor"] (defScope (top 30)) := ⟨rfl, rfl, rfl, by decide +kernel, rfl, by decide +kernel, by decide +kernel⟩
def tab20 : Tab := tab19.add "growth" 3 f19
def f20 : MF := mFun 9 (ess tab20 (b_amount_for 16 13 18 9 10 8 6))
theorem q20 : chkSs tab20 ⟨["rule", "amounts", "quantity", "wanted", "degree", "alone", "value", "top", "below"], defScope (top 32), fun _ => true⟩ (b_amount_for 16 13 18 9 10 8 6) (defBody (top 32)) = true := by decide +kernel
theorem sc20 : FnScope ["rule", "amounts", "quantity", "wanted", "degree", "alone", "value", "top", "below"] ["rule", "amounts", "quantity", "wanted"] (defScope (top 32)) := ⟨rfl, rfl, rfl, by decide +kernel, rfl, by decide +kernel, by decide +kernel⟩
def tab21 : Tab := tab20.add "amount_for" 4 f20
def f21 : MF := mFun 8 (ess tab21 (b_order_of_rates 15 18 8 6))
theorem q21 : chkSs tab21 ⟨["rule", "choices", "one", "found", "k", "seen", "before", "far"], defScope (top 33), fun _ => true⟩ (b_order_of_rates 15 18 8 6) (defBody (top 33)) = true := by decide +kernel
theorem sc21 : FnScope ["rule", "choices", "one", "found", "k", "seen", "before", "far"] ["rule", "choices"] (defScope (top 33)) := ⟨rfl, rfl, rfl, by decide +kernel, rfl, by decide +kernel, by decide +kernel⟩
def tab22 : Tab := tab21.add "order_of_rates" 2 f21
def f22 : MF := mFun 9 (ess tab22 (b_crossing 16 13 18 10 8 6))
theorem q22 : chkSs tab22 ⟨["one", "other", "amounts", "quantity", "degree", "alone", "value", "top", "below"], defScope (top 34), fun _ => true⟩ (b_crossing 16 13 18 10 8 6) (defBody (top 34)) = true := by decide +kernel
theorem sc22 : FnScope ["one", "other", "amounts", "quantity", "degree", "alone", "value", "top", "below"] ["one", "other", "amounts", "quantity"] (defScope (top 34)) := ⟨rfl, rfl, rfl, by decide +kernel, rfl, by decide +kernel, by decide +kernel⟩
def tab23 : Tab := tab22.add "crossing" 4 f22
def f23 : MF := mFun 6 (ess tab23 (b_all_powers))
theorem q23 : chkSs tab23 ⟨["size", "found", "turn", "longer", "one", "last"], defScope (top 36), fun _ => true⟩ (b_all_powers) (defBody (top 36)) = true := by decide +kernel
theorem sc23 : FnScope ["size", "found", "turn", "longer", "one", "last"] ["size"] (defScope (top 36)) := ⟨rfl, rfl, rfl, by decide +kernel, rfl, by decide +kernel, by decide +kernel⟩
def tab24 : Tab := tab23.add "all_powers" 1 f23
def f24 : MF := mFun 3 (ess tab24 (b_table_of 14))
theorem q24 : chkSs tab24 ⟨["amounts", "exponent", "one"], defScope (top 37), fun _ => true⟩ (b_table_of 14) (defBody (top 37)) = true := by decide +kernel
theorem sc24 : FnScope ["amounts", "exponent", "one"] ["amounts"] (defScope (top 37)) := ⟨rfl, rfl, rfl, by decide +kernel, rfl, by decide +kernel, by decide +kernel⟩
def tab25 : Tab := tab24.add "table_of" 1 f24
def f25 : MF := mFun 8 (ess tab25 (b_agrees))
theorem q25 : chkSs tab25 ⟨["steps", "powers", "table", "wanted", "top", "below", "k", "one"], defScope (top 38), fun _ => true⟩ (b_agrees) (defBody (top 38)) = true := by decide +kernel
theorem sc25 : FnScope ["steps", "powers", "table", "wanted", "top", "below", "k", "one"] ["steps", "powers"] (defScope (top 38)) := ⟨rfl, rfl, rfl, by decide +kernel, rfl, by decide +kernel, by decide +kernel⟩
def tab26 : Tab := tab25.add "agrees" 2 f25
def f26 : MF := mFun 10 (ess tab26 (b_fitting_of 23 25 13 17 24))
theorem q26 : chkSs tab26 ⟨["trials", "amounts", "seen", "steps", "others", "far", "a", "b", "found", "powers"], defScope (top 39), fun _ => true⟩ (b_fitting_of 23 25 13 17 24) (defBody (top 39)) = true := by decide +kernel
theorem sc26 : FnScope ["trials", "amounts", "seen", "steps", "others", "far", "a", "b", "found", "powers"] ["trials"] (defScope (top 39)) := ⟨rfl, rfl, rfl, by decide +kernel, rfl, by decide +kernel, by decide +kernel⟩
def tab27 : Tab := tab26.add "fitting_of" 1 f26
def f27 : MF := mFun 2 (ess tab27 (b_only_rule 26 7))
theorem q27 : chkSs tab27 ⟨["trials", "found"], defScope (top 40), fun _ => true⟩ (b_only_rule 26 7) (defBody (top 40)) = true := by decide +kernel
theorem sc27 : FnScope ["trials", "found"] ["trials"] (defScope (top 40)) := ⟨rfl, rfl, rfl, by decide +kernel, rfl, by decide +kernel, by decide +kernel⟩
def tab28 : Tab := tab27.add "only_rule" 1 f27
def f28 : MF := mFun 4 (ess tab28 (b_parts_of))
theorem q28 : chkSs tab28 ⟨["size", "found", "place", "one"], defScope (top 41), fun _ => true⟩ (b_parts_of) (defBody (top 41)) = true := by decide +kernel
theorem sc28 : FnScope ["size", "found", "place", "one"] ["size"] (defScope (top 41)) := ⟨rfl, rfl, rfl, by decide +kernel, rfl, by decide +kernel, by decide +kernel⟩
def tab29 : Tab := tab28.add "parts_of" 1 f28
def f29 : MF := mFun 3 (ess tab29 (b_smallest_bar 28 26 7))
theorem q29 : chkSs tab29 ⟨["trials", "places", "k"], defScope (top 42), fun _ => true⟩ (b_smallest_bar 28 26 7) (defBody (top 42)) = true := by decide +kernel
theorem sc29 : FnScope ["trials", "places", "k"] ["trials"] (defScope (top 42)) := ⟨rfl, rfl, rfl, by decide +kernel, rfl, by decide +kernel, by decide +kernel⟩
def tab30 : Tab := tab29.add "smallest_bar" 1 f29
def f30 : MF := mFun 3 (ess tab30 (b_differing))
theorem q30 : chkSs tab30 ⟨["one", "other", "k"], defScope (top 44), fun _ => true⟩ (b_differing) (defBody (top 44)) = true := by decide +kernel
theorem sc30 : FnScope ["one", "other", "k"] ["one", "other"] (defScope (top 44)) := ⟨rfl, rfl, rfl, by decide +kernel, rfl, by decide +kernel, by decide +kernel⟩
def tab31 : Tab := tab30.add "differing" 2 f30
def f31 : MF := mFun 5 (ess tab31 (b_single_pairs 30 10 7))
theorem q31 : chkSs tab31 ⟨["trials", "quantity", "found", "k", "j"], defScope (top 45), fun _ => true⟩ (b_single_pairs 30 10 7) (defBody (top 45)) = true := by decide +kernel
theorem sc31 : FnScope ["trials", "quantity", "found", "k", "j"] ["trials", "quantity"] (defScope (top 45)) := ⟨rfl, rfl, rfl, by decide +kernel, rfl, by decide +kernel, by decide +kernel⟩
def tab32 : Tab := tab31.add "single_pairs" 2 f31
def f32 : MF := mFun 7 (ess tab32 (b_power_of_pair 14 13))
theorem q32 : chkSs tab32 ⟨["one", "other", "quantity", "step", "wanted", "good", "exponent"], defScope (top 46), fun _ => true⟩ (b_power_of_pair 14 13) (defBody (top 46)) = true := by decide +kernel
theorem sc32 : FnScope ["one", "other", "quantity", "step", "wanted", "good", "exponent"] ["one", "other", "quantity"] (defScope (top 46)) := ⟨rfl, rfl, rfl, by decide +kernel, rfl, by decide +kernel, by decide +kernel⟩
def tab33 : Tab := tab32.add "power_of_pair" 3 f32
def f33 : MF := mFun 5 (ess tab33 (b_told_powers 31 32 10 7))
theorem q33 : chkSs tab33 ⟨["trials", "quantity", "found", "k", "j"], defScope (top 47), fun _ => true⟩ (b_told_powers 31 32 10 7) (defBody (top 47)) = true := by decide +kernel
theorem sc33 : FnScope ["trials", "quantity", "found", "k", "j"] ["trials", "quantity"] (defScope (top 47)) := ⟨rfl, rfl, rfl, by decide +kernel, rfl, by decide +kernel, by decide +kernel⟩
def tab34 : Tab := tab33.add "told_powers" 2 f33
def f34 : MF := mFun 4 (ess tab34 (b_agreed_power 33 10 7))
theorem q34 : chkSs tab34 ⟨["trials", "quantity", "told", "one"], defScope (top 48), fun _ => true⟩ (b_agreed_power 33 10 7) (defBody (top 48)) = true := by decide +kernel
theorem sc34 : FnScope ["trials", "quantity", "told", "one"] ["trials", "quantity"] (defScope (top 48)) := ⟨rfl, rfl, rfl, by decide +kernel, rfl, by decide +kernel, by decide +kernel⟩
def tab35 : Tab := tab34.add "agreed_power" 2 f34
def f35 : MF := mFun 11 (ess tab35 (b_counts_of 26 18))
theorem q35 : chkSs tab35 ⟨["trials", "amounts", "found", "rule", "seen", "places", "k", "one", "ordered", "before", "far"], defScope (top 51), fun _ => true⟩ (b_counts_of 26 18) (defBody (top 51)) = true := by decide +kernel
theorem sc35 : FnScope ["trials", "amounts", "found", "rule", "seen", "places", "k", "one", "ordered", "before", "far"] ["trials", "amounts"] (defScope (top 51)) := ⟨rfl, rfl, rfl, by decide +kernel, rfl, by decide +kernel, by decide +kernel⟩
def tab36 : Tab := tab35.add "counts_of" 2 f35
def f36 : MF := mFun 2 (ess tab36 (b_rates_for 35 8 7))
theorem q36 : chkSs tab36 ⟨["trials", "amounts"], defScope (top 50), fun _ => true⟩ (b_rates_for 35 8 7) (defBody (top 50)) = true := by decide +kernel
theorem sc36 : FnScope ["trials", "amounts"] ["trials", "amounts"] (defScope (top 50)) := ⟨rfl, rfl, rfl, by decide +kernel, rfl, by decide +kernel, by decide +kernel⟩
def tab37 : Tab := tab36.add "rates_for" 2 f36
def f37 : MF := mFun 4 (ess tab37 (b_tells_all 35 8 7))
theorem q37 : chkSs tab37 ⟨["trials", "amounts", "seen", "many"], defScope (top 52), fun _ => true⟩ (b_tells_all 35 8 7) (defBody (top 52)) = true := by decide +kernel
theorem sc37 : FnScope ["trials", "amounts", "seen", "many"] ["trials", "amounts"] (defScope (top 52)) := ⟨rfl, rfl, rfl, by decide +kernel, rfl, by decide +kernel, by decide +kernel⟩
def tab38 : Tab := tab37.add "tells_all" 2 f37
def f38 : MF := mFun 2 (ess tab38 (b_tells_nothing 35 8 7))
theorem q38 : chkSs tab38 ⟨["trials", "amounts"], defScope (top 53), fun _ => true⟩ (b_tells_nothing 35 8 7) (defBody (top 53)) = true := by decide +kernel
theorem sc38 : FnScope ["trials", "amounts"] ["trials", "amounts"] (defScope (top 53)) := ⟨rfl, rfl, rfl, by decide +kernel, rfl, by decide +kernel, by decide +kernel⟩
def tab39 : Tab := tab38.add "tells_nothing" 2 f38
def f39 : MF := mFun 4 (ess tab39 (b_worst_left 35 8 7))
theorem q39 : chkSs tab39 ⟨["trials", "amounts", "seen", "many"], defScope (top 54), fun _ => true⟩ (b_worst_left 35 8 7) (defBody (top 54)) = true := by decide +kernel
theorem sc39 : FnScope ["trials", "amounts", "seen", "many"] ["trials", "amounts"] (defScope (top 54)) := ⟨rfl, rfl, rfl, by decide +kernel, rfl, by decide +kernel, by decide +kernel⟩
def tab40 : Tab := tab39.add "worst_left" 2 f39
def f40 : MF := mFun 6 (ess tab40 (b_best_amounts 35 8 7))
theorem q40 : chkSs tab40 ⟨["trials", "choices", "one", "found", "seen", "many"], defScope (top 55), fun _ => true⟩ (b_best_amounts 35 8 7) (defBody (top 55)) = true := by decide +kernel
theorem sc40 : FnScope ["trials", "choices", "one", "found", "seen", "many"] ["trials", "choices"] (defScope (top 55)) := ⟨rfl, rfl, rfl, by decide +kernel, rfl, by decide +kernel, by decide +kernel⟩
def tab41 : Tab := tab40.add "best_amounts" 2 f40
def f41 : MF := mFun 7 (ess tab41 (b_same_rates 18 7 6))
theorem q41 : chkSs tab41 ⟨["one", "other", "trials", "size", "k", "amounts", "seen"], defScope (top 56), fun _ => true⟩ (b_same_rates 18 7 6) (defBody (top 56)) = true := by decide +kernel
theorem sc41 : FnScope ["one", "other", "trials", "size", "k", "amounts", "seen"] ["one", "other", "trials"] (defScope (top 56)) := ⟨rfl, rfl, rfl, by decide +kernel, rfl, by decide +kernel, by decide +kernel⟩
def tab42 : Tab := tab41.add "same_rates" 3 f41
def f42 : MF := mFun 1 (ess tab42 (b_checked 3))
theorem q42 : chkSs tab42 ⟨["rule"], defScope (top 58), fun _ => true⟩ (b_checked 3) (defBody (top 58)) = true := by decide +kernel
theorem sc42 : FnScope ["rule"] ["rule"] (defScope (top 58)) := ⟨rfl, rfl, rfl, by decide +kernel, rfl, by decide +kernel, by decide +kernel⟩
def tab43 : Tab := tab42.add "checked" 1 f42
def f43 : MF := mFun 6 (ess tab43 (b_in_units 13 12 14 9 8 6))
theorem q43 : chkSs tab43 ⟨["rule", "sizes", "rate_size", "factor", "one", "size"], defScope (top 59), fun _ => true⟩ (b_in_units 13 12 14 9 8 6) (defBody (top 59)) = true := by decide +kernel
theorem sc43 : FnScope ["rule", "sizes", "rate_size", "factor", "one", "size"] ["rule", "sizes", "rate_size"] (defScope (top 59)) := ⟨rfl, rfl, rfl, by decide +kernel, rfl, by decide +kernel, by decide +kernel⟩
def tab44 : Tab := tab43.add "in_units" 3 f43
def f44 : MF := mFun 2 (ess tab44 (b_scaled 12 9 6))
theorem q44 : chkSs tab44 ⟨["rule", "by"], defScope (top 60), fun _ => true⟩ (b_scaled 12 9 6) (defBody (top 60)) = true := by decide +kernel
theorem sc44 : FnScope ["rule", "by"] ["rule", "by"] (defScope (top 60)) := ⟨rfl, rfl, rfl, by decide +kernel, rfl, by decide +kernel, by decide +kernel⟩
def tab45 : Tab := tab44.add "scaled" 2 f44
def f45 : MF := mFun 4 (ess tab45 (b_multiplied 42 12 6))
theorem q45 : chkSs tab45 ⟨["one", "other", "a", "b"], defScope (top 61), fun _ => true⟩ (b_multiplied 42 12 6) (defBody (top 61)) = true := by decide +kernel
theorem sc45 : FnScope ["one", "other", "a", "b"] ["one", "other"] (defScope (top 61)) := ⟨rfl, rfl, rfl, by decide +kernel, rfl, by decide +kernel, by decide +kernel⟩
def tab46 : Tab := tab45.add "multiplied" 2 f45
def f46 : MF := mFun 3 (ess tab46 (b_with_fixed 12 14 9 10 6))
theorem q46 : chkSs tab46 ⟨["rule", "quantity", "amount"], defScope (top 62), fun _ => true⟩ (b_with_fixed 12 14 9 10 6) (defBody (top 62)) = true := by decide +kernel
theorem sc46 : FnScope ["rule", "quantity", "amount"] ["rule", "quantity", "amount"] (defScope (top 62)) := ⟨rfl, rfl, rfl, by decide +kernel, rfl, by decide +kernel, by decide +kernel⟩
def tab47 : Tab := tab46.add "with_fixed" 3 f46
def f47 : MF := mFun 2 (ess tab47 (b__law_error))
theorem q47 : chkSs tab47 ⟨["caught", "kinds"], defScope (top 67), fun _ => true⟩ (b__law_error) (defBody (top 67)) = true := by decide +kernel
theorem sc47 : FnScope ["caught", "kinds"] ["caught"] (defScope (top 67)) := ⟨rfl, rfl, rfl, by decide +kernel, rfl, by decide +kernel, by decide +kernel⟩
def tab48 : Tab := tab47.add "_law_error" 1 f47
def f48 : MF := mFun 6 (ess tab48 (b__law_none 22 20 34 29 27))
theorem q48 : chkSs tab48 ⟨["kind", "one", "two", "own", "good", "some"], defScope (top 69), fun _ => true⟩ (b__law_none 22 20 34 29 27) (defBody (top 69)) = true := by decide +kernel
theorem sc48 : FnScope ["kind", "one", "two", "own", "good", "some"] ["kind", "one", "two", "own", "good", "some"] (defScope (top 69)) := ⟨rfl, rfl, rfl, by decide +kernel, rfl, by decide +kernel, by decide +kernel⟩
def tab49 : Tab := tab48.add "_law_none" 6 f48
def mt (j : Nat) : Stmt := (clsBody (top 64)).getD j (.Pass ⟨0, 0, 0, 0⟩)
theorem scm___init__ : FnScope ["self", "size"] ["self", "size"] (defScope (mt 0)) := ⟨rfl, rfl, rfl, by decide +kernel, rfl, by decide +kernel, by decide +kernel⟩
theorem qm_add : chkSs (tab49.lines 26) ⟨["self", "one"], defScope (mt 1), fun _ => true⟩ (b_t_add 3 5) (defBody (mt 1)) = true := by decide +kernel
theorem scm_add : FnScope ["self", "one"] ["self", "one"] (defScope (mt 1)) := ⟨rfl, rfl, rfl, by decide +kernel, rfl, by decide +kernel, by decide +kernel⟩
theorem qm_rules : chkSs (tab49.lines 26) ⟨["self"], defScope (mt 2), fun _ => true⟩ (b_t_rules 3) (defBody (mt 2)) = true := by decide +kernel
theorem scm_rules : FnScope ["self"] ["self"] (defScope (mt 2)) := ⟨rfl, rfl, rfl, by decide +kernel, rfl, by decide +kernel, by decide +kernel⟩
theorem qm_trials : chkSs (tab49.lines 26) ⟨["self", "amounts", "seen"], defScope (mt 3), fun _ => true⟩ (b_t_trials 3) (defBody (mt 3)) = true := by decide +kernel
theorem scm_trials : FnScope ["self", "amounts", "seen"] ["self"] (defScope (mt 3)) := ⟨rfl, rfl, rfl, by decide +kernel, rfl, by decide +kernel, by decide +kernel⟩
theorem qm_undo : chkSs (tab49.lines 26) ⟨["self"], defScope (mt 4), fun _ => true⟩ (b_t_undo 3) (defBody (mt 4)) = true := by decide +kernel
theorem scm_undo : FnScope ["self"] ["self"] (defScope (mt 4)) := ⟨rfl, rfl, rfl, by decide +kernel, rfl, by decide +kernel, by decide +kernel⟩
theorem qm___len__ : chkSs (tab49.lines 26) ⟨["self"], defScope (mt 5), fun _ => true⟩ (b_t_len 3) (defBody (mt 5)) = true := by decide +kernel
theorem scm___len__ : FnScope ["self"] ["self"] (defScope (mt 5)) := ⟨rfl, rfl, rfl, by decide +kernel, rfl, by decide +kernel, by decide +kernel⟩
def tabT : Tab := tab49.tables 3 0 5 26
def f49 : MF := mFun 6 (ess tabT (b__law_call 48 41 46 45 21 40 44 43 20 19))
theorem q49 : chkSs tabT ⟨["kind", "one", "two", "own", "good", "some"], defScope (top 68), fun _ => true⟩ (b__law_call 48 41 46 45 21 40 44 43 20 19) (defBody (top 68)) = true := by decide +kernel
theorem sc49 : FnScope ["kind", "one", "two", "own", "good", "some"] ["kind", "one", "two"] (defScope (top 68)) := ⟨rfl, rfl, rfl, by decide +kernel, rfl, by decide +kernel, by decide +kernel⟩
def tab50 : Tab := tabT.add "_law_call" 3 f49
def f50 : MF := mFun 5 (ess tab50 (b__law_asked 47 49))
theorem q50 : chkSs tab50 ⟨["kind", "one", "two", "caught", "e"], defScope (top 70), fun _ => true⟩ (b__law_asked 47 49) (defBody (top 70)) = true := by decide +kernel
theorem sc50 : FnScope ["kind", "one", "two", "caught", "e"] ["kind", "one", "two"] (defScope (top 70)) := ⟨rfl, rfl, rfl, by decide +kernel, rfl, by decide +kernel, by decide +kernel⟩
def tab51 : Tab := tab50.add "_law_asked" 3 f50
def f51 : MF := mFun 7 (mTab tab51 (tA12 50) (.nm 4) (.rng (.cons (.cst (.int 2)) .nil)) 5 3 0 f47 (tB12 50) (tC12 50))
theorem q51 : chkTab tab51 ⟨["shown", "good", "bad", "caught", "kind", "e", "k"], defScope (top 71), fun _ => true⟩ 4 (tA12 50) (.nm 4) (.rng (.cons (.cst (.int 2)) .nil)) 5 3 0 "_law_error" (tB12 50) (tC12 50) (defBody (top 71)) = true := by decide +kernel
theorem sc51 : FnScope ["shown", "good", "bad", "caught", "kind", "e", "k"] [] (defScope (top 71)) := ⟨rfl, rfl, rfl, by decide +kernel, rfl, by decide +kernel, by decide +kernel⟩
theorem hot51 : hotSs (b__law_error) (defBody (top 67)) = true := by decide +kernel
def tab52 : Tab := (tab51.add "_law_table" 0 f51).addH (hkC0 "_law_table" f51)
def f52 : MF := mFun 9 (ess tab52 (b12_law_found 50 29 22 38 37 40 36 39))
theorem q52 : chkSs tab52 ⟨["wide", "some", "far", "bent", "three", "plain", "pairs", "k", "crossed"], defScope (top 72), fun _ => true⟩ (b12_law_found 50 29 22 38 37 40 36 39) (defBody (top 72)) = true := by decide +kernel
theorem sc52 : FnScope ["wide", "some", "far", "bent", "three", "plain", "pairs", "k", "crossed"] ["wide"] (defScope (top 72)) := ⟨rfl, rfl, rfl, by decide +kernel, rfl, by decide +kernel, by decide +kernel⟩
def tab53 : Tab := tab52.add "_law_found" 1 f52
theorem qlaw : chkSs tab53 ⟨["script", "draws", "bad", "k", "far", "one", "wide", "told", "a", "b"], defScope (top 73), fun _ => true⟩ b_law_k12 (defBody (top 73)).tail = true := by decide +kernel
theorem sclaw : FnScope ["script", "draws", "bad", "k", "far", "one", "wide", "told", "a", "b"] ["script"] (defScope (top 73)) := ⟨rfl, rfl, rfl, by decide +kernel, rfl, by decide +kernel, by decide +kernel⟩
def tbE : List (Int × List D) := [(1, []), (3, []), (2, [(.tup [(.lst [(.tup [(.int 1), (.int 1)]), (.tup [(.int 2), (.int 1)])]), (.tup [(.int 1), (.int 1)])]), (.tup [(.lst [(.tup [(.int 1), (.int 1)]), (.tup [(.int 2), (.int 1)])]), (.tup [(.int 1), (.int 1)])]), (.tup [(.lst [(.tup [(.int 1), (.int 1)]), (.tup [(.int 2), (.int 1)])]), (.tup [(.int 1), (.int 1)])]), (.tup [(.lst [(.tup [(.int 1), (.int 1)]), (.tup [(.int 2), (.int 1)])]), (.tup [(.int 1), (.int 1)])]), (.tup [(.lst [(.tup [(.int 1), (.int 1)]), (.tup [(.int 2), (.int 1)])]), (.tup [(.int 1), (.int 1)])]), (.tup [(.lst [(.tup [(.int 1), (.int 1)]), (.tup [(.int 2), (.int 1)])]), (.tup [(.int 1), (.int 1)])]), (.tup [(.lst [(.tup [(.int 1), (.int 1)]), (.tup [(.int 2), (.int 1)])]), (.tup [(.int 1), (.int 1)])])])]
theorem bnd_ok {α β : Type} (a : α) (w : Wd) (f : α → Wd → Res β) : (Res.ok a w).bind f = f a w := rfl
def tb9 : List (Int × List D) := [(1, []), (3, [])]
def goodT : D := .tup [.lst [.tup [.int 1, .int 1], .tup [.int 2, .int 1]], .tup [.int 1, .int 1]]
def tbk (k : Nat) : List (Int × List D) := [(1, []), (3, []), (2, List.replicate k goodT)]
def rtA : Rho := [(.dat (.tab 2)), (.dat (.tup [(.lst [(.tup [(.int 1), (.int 1)]), (.tup [(.int 2), (.int 1)])]), (.tup [(.int 1), (.int 1)])])), (.dat (.tup [(.tup [(.tup [(.int 1), (.int 1)]), (.tup [(.int 2), (.int 1)])]), (.tup [(.int 1), (.int 1)])])), (.own []), .emp, .emp, .emp]
def rtF : Rho := [(.dat (.tab 2)), (.dat (.tup [(.lst [(.tup [(.int 1), (.int 1)]), (.tup [(.int 2), (.int 1)])]), (.tup [(.int 1), (.int 1)])])), (.dat (.tup [(.tup [(.tup [(.int 1), (.int 1)]), (.tup [(.int 2), (.int 1)])]), (.tup [(.int 1), (.int 1)])])), (.own [(.str "none"), (.str "none")]), (.dat (.int 1)), .emp, .emp]
theorem tA_ok (x : Option (List Int × Int)) : ess tab51 (tA12 50) (startR 7 []) ⟨x, tb9⟩ = .next rtA ⟨x, tbk 0⟩ := by kernel_rfl
def mFT : MS := sFor (evi tab51 (.rng (.cons (.cst (.int 2)) .nil))) (.nm 4) (sSeq (sTryA (tab51.trs.getD 0 (Str.empty, [])).2 5 3 f47 (ess tab51 (tB12 50))) sNil)
theorem tF_ok (x : Option (List Int × Int)) : mFT rtA ⟨x, tbk 0⟩ = .next rtF ⟨x, tbk 0⟩ := by kernel_rfl
def cfT : D → Wd → Res (Option D) := compF (.nm 6) (wipeR rtF [6]) (evc tab51 .no) (ev tab51 (.hk 11 (.cons (.var 0) (.cons (.var 1) .nil))))
theorem ad0 (x : Option (List Int × Int)) : cfT (.int 0) ⟨x, tbk 0⟩ = .ok (some (.int 49)) ⟨x, tbk 1⟩ := by kernel_rfl
theorem ad1 (x : Option (List Int × Int)) : cfT (.int 1) ⟨x, tbk 1⟩ = .ok (some (.int 49)) ⟨x, tbk 2⟩ := by kernel_rfl
theorem ad2 (x : Option (List Int × Int)) : cfT (.int 2) ⟨x, tbk 2⟩ = .ok (some (.int 49)) ⟨x, tbk 3⟩ := by kernel_rfl
theorem ad3 (x : Option (List Int × Int)) : cfT (.int 3) ⟨x, tbk 3⟩ = .ok (some (.int 49)) ⟨x, tbk 4⟩ := by kernel_rfl
theorem ad4 (x : Option (List Int × Int)) : cfT (.int 4) ⟨x, tbk 4⟩ = .ok (some (.int 49)) ⟨x, tbk 5⟩ := by kernel_rfl
theorem ad5 (x : Option (List Int × Int)) : cfT (.int 5) ⟨x, tbk 5⟩ = .ok (some (.int 49)) ⟨x, tbk 6⟩ := by kernel_rfl
theorem ad6 (x : Option (List Int × Int)) : cfT (.int 6) ⟨x, tbk 6⟩ = .ok (some (.int 49)) ⟨x, tbk 7⟩ := by kernel_rfl
theorem ad7 (x : Option (List Int × Int)) : cfT (.int 7) ⟨x, tbk 7⟩ = .ok (some (.int 49)) ⟨x, tbk 8⟩ := by kernel_rfl
theorem go_cons {f : D → Wd → Res (Option D)} {d y : D} {ds ys : List D} {w w1 w2 : Wd} (h1 : f d w = .ok (some y) w1) (h2 : compGo f ds w1 = .ok ys w2) : compGo f (d :: ds) w = .ok (y :: ys) w2 := by
  rw [compGo, h1]
  simp only [Res.bind]
  rw [h2]
theorem cmpT (x : Option (List Int × Int)) : ev tab51 (.lm (.comp (.hk 11 (.cons (.var 0) (.cons (.var 1) .nil))) (.nm 6) [6] (.rng (.cons (.cst (.int 8)) .nil)) .no)) rtF ⟨x, tbk 0⟩ = .ok (.lst (List.replicate 8 (.int 49))) ⟨x, tbk 8⟩ := by
  have hg : compGo cfT ((iota 0 8)) ⟨x, tbk 0⟩ = .ok (List.replicate 8 (.int 49)) ⟨x, tbk 8⟩ := (go_cons (ad0 x) (go_cons (ad1 x) (go_cons (ad2 x) (go_cons (ad3 x) (go_cons (ad4 x) (go_cons (ad5 x) (go_cons (ad6 x) (go_cons (ad7 x) rfl))))))))
  have hi : evi tab51 (.rng (.cons (.cst (.int 8)) .nil)) rtF ⟨x, tbk 0⟩ = .ok (iota 0 8) ⟨x, tbk 0⟩ := by kernel_rfl
  rw [ev, mLst, evl, mComp, hi, bnd_ok, if_pos (by decide), show compGo (compF (.nm 6) (wipeR rtF [6]) (evc tab51 .no) (ev tab51 (.hk 11 (.cons (.var 0) (.cons (.var 1) .nil))))) (iota 0 8) ⟨x, tbk 0⟩ = _ from hg, bnd_ok]
theorem or_f2 {T : Tab} {a b : E} {r : Rho} {w w1 w2 : Wd} {d : D} (h1 : ev T a r w = .ok (.bl false) w1) (h2 : ev T b r w1 = .ok d w2) : ev T (.or a b) r w = .ok d w2 := by
  rw [ev, mOr, h1]
  simp only [Res.bind]
  rw [h2]
theorem ta1 (x : Option (List Int × Int)) : ev tab51 (.ocmp .ne 3 (.bin .mul (.lm (.disp (.cons (.cst (.str "none")) .nil))) (.cst (.int 2)))) rtF ⟨x, tbk 0⟩ = .ok (.bl false) ⟨x, tbk 0⟩ := by kernel_rfl
theorem ta2 (x : Option (List Int × Int)) : ev tab51 (.bin .ne (.lm (.comp (.hk 11 (.cons (.var 0) (.cons (.var 1) .nil))) (.nm 6) [6] (.rng (.cons (.cst (.int 8)) .nil)) .no)) (.bin .mul (.lm (.disp (.cons (.cst (.int 49)) .nil))) (.cst (.int 8)))) rtF ⟨x, tbk 0⟩ = .ok (.bl false) ⟨x, tbk 8⟩ := by
  have e : ev tab51 (.bin .mul (.lm (.disp (.cons (.cst (.int 49)) .nil))) (.cst (.int 8))) rtF ⟨x, tbk 8⟩ = .ok (.lst (List.replicate 8 (.int 49))) ⟨x, tbk 8⟩ := by kernel_rfl
  rw [ev, mBin, cmpT x]
  simp only [Res.bind]
  rw [e]
  kernel_rfl
theorem ta3 (x : Option (List Int × Int)) : ev tab51 (.bin .ne (.call 50 (.cons (.cst (.int 10)) (.cons (.var 0) (.cons (.var 1) .nil)))) (.cst (.str "trials"))) rtF ⟨x, tbk 8⟩ = .ok (.bl false) ⟨x, tbk 8⟩ := by kernel_rfl
theorem tc1 (x : Option (List Int × Int)) : es tab51 (.iff (.or (.ocmp .ne 3 (.bin .mul (.lm (.disp (.cons (.cst (.str "none")) .nil))) (.cst (.int 2)))) (.or (.bin .ne (.lm (.comp (.hk 11 (.cons (.var 0) (.cons (.var 1) .nil))) (.nm 6) [6] (.rng (.cons (.cst (.int 8)) .nil)) .no)) (.bin .mul (.lm (.disp (.cons (.cst (.int 49)) .nil))) (.cst (.int 8)))) (.bin .ne (.call 50 (.cons (.cst (.int 10)) (.cons (.var 0) (.cons (.var 1) .nil)))) (.cst (.str "trials"))))) (.cons (.ret (.cst (.bl false))) .nil) .nil) rtF ⟨x, tbk 0⟩ = .next rtF ⟨x, tbk 8⟩ := by
  rw [es, sIf, or_f2 (ta1 x) (or_f2 (ta2 x) (ta3 x))]
  kernel_rfl
theorem tc2 (x : Option (List Int × Int)) : es tab51 (.ret (.and (.bin .eq (.hk 15 (.cons (.var 0) .nil)) (.cst (.int 8))) (.and (.bin .eq (.pri 0 (.cons (.hk 12 (.cons (.var 0) .nil)) .nil)) (.cst (.int 49))) (.and (.bin .eq (.hk 14 (.cons (.var 0) .nil)) (.var 1)) (.bin .eq (.hk 13 (.cons (.var 0) .nil)) (.bin .mul (.lm (.disp (.cons (.var 1) .nil))) (.cst (.int 7)))))))) rtF ⟨x, tbk 8⟩ = .ret (.bl true) ⟨x, tbE⟩ := by kernel_rfl
theorem tC_ok (x : Option (List Int × Int)) : ess tab51 (tC12 50) rtF ⟨x, tbk 0⟩ = .ret (.bl true) ⟨x, tbE⟩ := by
  rw [show tC12 50 = .cons (.iff (.or (.ocmp .ne 3 (.bin .mul (.lm (.disp (.cons (.cst (.str "none")) .nil))) (.cst (.int 2)))) (.or (.bin .ne (.lm (.comp (.hk 11 (.cons (.var 0) (.cons (.var 1) .nil))) (.nm 6) [6] (.rng (.cons (.cst (.int 8)) .nil)) .no)) (.bin .mul (.lm (.disp (.cons (.cst (.int 49)) .nil))) (.cst (.int 8)))) (.bin .ne (.call 50 (.cons (.cst (.int 10)) (.cons (.var 0) (.cons (.var 1) .nil)))) (.cst (.str "trials"))))) (.cons (.ret (.cst (.bl false))) .nil) .nil) (.cons (.ret (.and (.bin .eq (.hk 15 (.cons (.var 0) .nil)) (.cst (.int 8))) (.and (.bin .eq (.pri 0 (.cons (.hk 12 (.cons (.var 0) .nil)) .nil)) (.cst (.int 49))) (.and (.bin .eq (.hk 14 (.cons (.var 0) .nil)) (.var 1)) (.bin .eq (.hk 13 (.cons (.var 0) .nil)) (.bin .mul (.lm (.disp (.cons (.var 1) .nil))) (.cst (.int 7)))))))) .nil) from rfl]
  rw [ess, sSeq, tc1 x]
  simp only
  rw [ess, sSeq, tc2 x]
theorem essK_go {T : Tab} {k : MS} : ∀ {ss : Ss} {r r1 : Rho} {w w1 : Wd}, ess T ss r w = .next r1 w1 → essK T ss k r w = k r1 w1
  | .nil, r, r1, w, w1, h => by
    rw [ess] at h
    cases h
    rfl
  | .cons s ss, r, r1, w, w1, h => by
    rw [ess, sSeq] at h
    rw [essK, sSeq]
    revert h
    cases es T s r w with
    | next r2 w2 => exact fun h => essK_go h
    | ret d w2 => exact fun h => by cases h
    | exc j r2 w2 => exact fun h => by cases h
    | bad => exact fun h => by cases h
theorem tabl (x : Option (List Int × Int)) : f51 [] ⟨x, tb9⟩ = .ok (.bl true) ⟨x, tbE⟩ := by
  have h : mTab tab51 (tA12 50) (.nm 4) (.rng (.cons (.cst (.int 2)) .nil)) 5 3 0 f47 (tB12 50) (tC12 50) (startR 7 []) ⟨x, tb9⟩ = .ret (.bl true) ⟨x, tbE⟩ := by
    rw [mTab, essK_go (tA_ok x), sSeq]
    rw [show sFor (evi tab51 (.rng (.cons (.cst (.int 2)) .nil))) (.nm 4) (sSeq (sTryA (tab51.trs.getD 0 (Str.empty, [])).2 5 3 f47 (ess tab51 (tB12 50))) sNil) rtA ⟨x, tbk 0⟩ = _ from tF_ok x]
    simp only
    rw [tC_ok x]
  show mFun 7 (mTab tab51 (tA12 50) (.nm 4) (.rng (.cons (.cst (.int 2)) .nil)) 5 3 0 f47 (tB12 50) (tC12 50)) [] ⟨x, tb9⟩ = _
  rw [mFun, h]
def fd1 : S := (.asg (.nm 1) (.lm (.disp (.cons (.tup (.cons (.lm (.disp (.cons (.tup (.cons (.cst (.int 1)) (.cons (.cst (.int 1)) .nil))) (.cons (.tup (.cons (.cst (.int 1)) (.cons (.cst (.int 1)) .nil))) .nil)))) (.cons (.tup (.cons (.cst (.int 1)) (.cons (.cst (.int 1)) .nil))) .nil))) (.cons (.tup (.cons (.lm (.disp (.cons (.tup (.cons (.cst (.int 2)) (.cons (.cst (.int 1)) .nil))) (.cons (.tup (.cons (.cst (.int 1)) (.cons (.cst (.int 1)) .nil))) .nil)))) (.cons (.tup (.cons (.cst (.int 4)) (.cons (.cst (.int 1)) .nil))) .nil))) (.cons (.tup (.cons (.lm (.disp (.cons (.tup (.cons (.cst (.int 1)) (.cons (.cst (.int 1)) .nil))) (.cons (.tup (.cons (.cst (.int 2)) (.cons (.cst (.int 1)) .nil))) .nil)))) (.cons (.tup (.cons (.cst (.int 2)) (.cons (.cst (.int 1)) .nil))) .nil))) .nil))))))
def fd2 : S := (.iff (.bin .ne (.lm (.comp (.call 50 (.cons (.cst (.int 12)) (.cons (.var 2) (.cons (.cst (.int 0)) .nil)))) (.nm 2) [2] (.seq (.tup (.cons (.sl (.var 1) .no (.so (.cst (.int 2)))) (.cons (.var 1) (.cons (.bin .add (.var 1) (.lm (.disp (.cons (.tup (.cons (.ix (.ix (.var 1) (.cst (.int 0))) (.cst (.int 0))) (.cons (.tup (.cons (.cst (.int 5)) (.cons (.cst (.int 1)) .nil))) .nil))) .nil)))) .nil))))) .no)) (.lm (.disp (.cons (.cst (.str "none")) (.cons (.cst (.str "done")) (.cons (.cst (.str "none")) .nil)))))) (.cons (.ret (.cst (.bl false))) .nil) .nil)
def fd3 : S := (.asg (.nm 3) (.bin .add (.var 1) (.lm (.disp (.cons (.tup (.cons (.ix (.ix (.var 1) (.cst (.int 0))) (.cst (.int 0))) (.cons (.tup (.cons (.cst (.int 5)) (.cons (.cst (.int 1)) .nil))) .nil))) .nil)))))
def fd4 : S := (.iff (.or (.bin .ne (.call 39 (.cons (.var 3) (.cons (.ix (.ix (.var 1) (.cst (.int 0))) (.cst (.int 0))) .nil))) (.cst (.int 0))) (.or (.bin .ne (.call 36 (.cons (.var 3) (.cons (.ix (.ix (.var 1) (.cst (.int 0))) (.cst (.int 0))) .nil))) (.lm (.disp .nil))) (.bin .ne (.call 40 (.cons (.var 3) (.cons (.lm (.disp (.cons (.ix (.ix (.var 1) (.cst (.int 0))) (.cst (.int 0))) .nil))) .nil))) (.cst (.int 0))))) (.cons (.ret (.cst (.bl false))) .nil) .nil)
def fd5 : S := (.iff (.or (.bin .isn (.call 37 (.cons (.var 3) (.cons (.ix (.ix (.var 1) (.cst (.int 0))) (.cst (.int 0))) .nil))) (.cst (.bl true))) (.bin .isn (.call 38 (.cons (.var 3) (.cons (.ix (.ix (.var 1) (.cst (.int 0))) (.cst (.int 0))) .nil))) (.cst (.bl true)))) (.cons (.ret (.cst (.bl false))) .nil) .nil)
def fd6 : S := (.iff (.bin .ne (.call 50 (.cons (.cst (.int 14)) (.cons (.lm (.disp (.cons (.ix (.var 1) (.cst (.int 0))) (.cons (.tup (.cons (.lm (.disp (.cons (.tup (.cons (.cst (.int 2)) (.cons (.cst (.int 1)) .nil))) (.cons (.tup (.cons (.cst (.int 1)) (.cons (.cst (.int 1)) .nil))) .nil)))) (.cons (.tup (.cons (.cst (.int 16)) (.cons (.cst (.int 1)) .nil))) .nil))) .nil)))) (.cons (.cst (.int 0)) .nil)))) (.cst (.str "none"))) (.cons (.ret (.cst (.bl false))) .nil) .nil)
def fd7 : S := (.asg (.tp (.cons (.nm 4) (.cons (.nm 5) .nil))) (.tup (.cons (.tup (.cons (.tup (.cons (.cst (.int 1)) (.cons (.cst (.int 1)) .nil))) (.cons (.lm (.disp (.cons (.cst (.int 1)) (.cons (.cst (.int 1)) (.cons (.cst (.int 2)) .nil))))) .nil))) (.cons (.tup (.cons (.tup (.cons (.cst (.int 2)) (.cons (.cst (.int 1)) .nil))) (.cons (.lm (.disp (.cons (.cst (.int 1)) (.cons (.cst (.int 1)) (.cons (.cst (.int 1)) .nil))))) .nil))) .nil))))
def fd8 : S := (.iff (.bin .ne (.call 22 (.cons (.var 4) (.cons (.var 5) (.cons (.bin .mul (.lm (.disp (.cons (.tup (.cons (.cst (.int 1)) (.cons (.cst (.int 1)) .nil))) .nil))) (.cst (.int 3))) (.cons (.cst (.int 2)) .nil))))) (.tup (.cons (.cst (.int 2)) (.cons (.cst (.int 1)) .nil)))) (.cons (.ret (.cst (.bl false))) .nil) .nil)
def fd9 : S := (.iff (.or (.bin .ne (.lm (.comp (.call 50 (.cons (.cst (.int 13)) (.cons (.var 2) (.cons (.cst (.int 0)) .nil)))) (.nm 2) [2] (.seq (.tup (.cons (.var 1) (.cons (.var 3) .nil)))) .no)) (.lm (.disp (.cons (.cst (.str "none")) (.cons (.cst (.str "done")) .nil))))) (.bin .ne (.call 29 (.cons (.var 3) .nil)) (.lm (.disp (.cons (.cst (.int 0)) (.cons (.cst (.int 3)) .nil)))))) (.cons (.ret (.cst (.bl false))) .nil) .nil)
def fd10 : S := (.asg (.nm 6) (.lm (.disp (.cons (.tup (.cons (.sl (.var 1) .no (.so (.cst (.int 1)))) (.cons (.cst (.int 0)) .nil))) (.cons (.tup (.cons (.var 1) (.cons (.cst (.int 0)) .nil))) (.cons (.tup (.cons (.var 1) (.cons (.cst (.int 1)) .nil))) .nil))))))
def fd11 : S := (.asg (.nm 6) (.bin .add (.var 6) (.lm (.comp (.tup (.cons (.bin .add (.var 1) (.lm (.disp (.cons (.tup (.cons (.lm (.disp (.cons (.tup (.cons (.var 7) (.cons (.cst (.int 1)) .nil))) (.cons (.tup (.cons (.cst (.int 1)) (.cons (.cst (.int 1)) .nil))) .nil)))) (.cons (.tup (.cons (.cst (.int 4)) (.cons (.cst (.int 1)) .nil))) .nil))) .nil)))) (.cons (.cst (.int 0)) .nil))) (.nm 7) [7] (.seq (.tup (.cons (.cst (.int 3)) (.cons (.cst (.int 4)) .nil)))) .no))))
def fd12 : S := (.iff (.bin .ne (.lm (.comp (.call 50 (.cons (.cst (.int 14)) (.cons (.var 2) (.cons (.var 7) .nil)))) (.tp (.cons (.nm 2) (.cons (.nm 7) .nil))) [2, 7] (.seq (.var 6)) .no)) (.lm (.disp (.cons (.cst (.str "none")) (.cons (.cst (.str "done")) (.cons (.cst (.str "done")) (.cons (.cst (.str "none")) (.cons (.cst (.str "none")) .nil)))))))) (.cons (.ret (.cst (.bl false))) .nil) .nil)
def fd13 : S := (.iff (.bin .ne (.lm (.comp (.call 50 (.cons (.cst (.int 15)) (.cons (.tup (.cons (.tup (.cons (.cst (.int 1)) (.cons (.cst (.int 1)) .nil))) (.cons (.lm (.disp (.cons (.var 7) (.cons (.cst (.int 1)) .nil)))) .nil))) (.cons (.cst (.int 0)) .nil)))) (.nm 7) [7] (.seq (.tup (.cons (.cst (.int 0)) (.cons (.cst (.int 1)) (.cons (.cst (.int 2)) .nil))))) .no)) (.lm (.disp (.cons (.cst (.str "none")) (.cons (.cst (.str "done")) (.cons (.cst (.str "none")) .nil)))))) (.cons (.ret (.cst (.bl false))) .nil) .nil)
def fd14 : S := (.asg (.nm 8) (.lm (.disp (.cons (.tup (.cons (.tup (.cons (.cst (.int 2)) (.cons (.cst (.int 1)) .nil))) (.cons (.lm (.disp (.cons (.cst (.int 2)) (.cons (.cst (.int 1)) .nil)))) .nil))) (.cons (.tup (.cons (.tup (.cons (.cst (.int 4)) (.cons (.cst (.int 1)) .nil))) (.cons (.lm (.disp (.cons (.cst (.int 0)) (.cons (.bin .sub (.cst (.int 0)) (.cst (.int 1))) .nil)))) .nil))) (.cons (.tup (.cons (.tup (.cons (.cst (.int 8)) (.cons (.cst (.int 1)) .nil))) (.cons (.lm (.disp (.cons (.cst (.int 0)) (.cons (.bin .sub (.cst (.int 0)) (.cst (.int 1))) .nil)))) .nil))) .nil))))))
def fd15 : S := (.iff (.bin .ne (.lm (.comp (.call 50 (.cons (.cst (.int 16)) (.cons (.var 2) (.cons (.cst (.int 0)) .nil)))) (.nm 2) [2] (.seq (.var 8)) .no)) (.lm (.disp (.cons (.cst (.str "none")) (.cons (.cst (.str "none")) (.cons (.cst (.str "done")) .nil)))))) (.cons (.ret (.cst (.bl false))) .nil) .nil)
def fd16 : S := (.ret (.and (.bin .eq (.call 50 (.cons (.cst (.int 17)) (.cons (.var 0) (.cons (.cst (.int 0)) .nil)))) (.cst (.str "amounts"))) (.and (.bin .eq (.call 50 (.cons (.cst (.int 18)) (.cons (.var 0) (.cons (.cst (.int 1)) .nil)))) (.cst (.str "number"))) (.and (.bin .eq (.call 50 (.cons (.cst (.int 16)) (.cons (.var 0) (.cons (.cst (.int 0)) .nil)))) (.cst (.str "amounts"))) (.hk 16 .nil)))))
theorem fd_eq : b12_law_found 50 29 22 38 37 40 36 39 = (.cons fd1 (.cons fd2 (.cons fd3 (.cons fd4 (.cons fd5 (.cons fd6 (.cons fd7 (.cons fd8 (.cons fd9 (.cons fd10 (.cons fd11 (.cons fd12 (.cons fd13 (.cons fd14 (.cons fd15 (.cons fd16 .nil)))))))))))))))) := rfl
def rf1 : Rho := [(.dat (.tup [(.tup [(.int 1), (.int 1)]), (.lst [(.int 1)])])), (.dat (.lst [(.tup [(.lst [(.tup [(.int 1), (.int 1)]), (.tup [(.int 1), (.int 1)])]), (.tup [(.int 1), (.int 1)])]), (.tup [(.lst [(.tup [(.int 2), (.int 1)]), (.tup [(.int 1), (.int 1)])]), (.tup [(.int 4), (.int 1)])]), (.tup [(.lst [(.tup [(.int 1), (.int 1)]), (.tup [(.int 2), (.int 1)])]), (.tup [(.int 2), (.int 1)])])])), .emp, .emp, .emp, .emp, .emp, .emp, .emp]
theorem g1 (x : Option (List Int × Int)) : es tab52 fd1 (startR 9 [.tup [.tup [.int 1, .int 1], .lst [.int 1]]]) ⟨x, tb9⟩ = .next rf1 ⟨x, tb9⟩ := by kernel_rfl
def rf2 : Rho := [(.dat (.tup [(.tup [(.int 1), (.int 1)]), (.lst [(.int 1)])])), (.dat (.lst [(.tup [(.lst [(.tup [(.int 1), (.int 1)]), (.tup [(.int 1), (.int 1)])]), (.tup [(.int 1), (.int 1)])]), (.tup [(.lst [(.tup [(.int 2), (.int 1)]), (.tup [(.int 1), (.int 1)])]), (.tup [(.int 4), (.int 1)])]), (.tup [(.lst [(.tup [(.int 1), (.int 1)]), (.tup [(.int 2), (.int 1)])]), (.tup [(.int 2), (.int 1)])])])), .emp, .emp, .emp, .emp, .emp, .emp, .emp]
theorem g2 (x : Option (List Int × Int)) : es tab52 fd2 rf1 ⟨x, tb9⟩ = .next rf2 ⟨x, tb9⟩ := by kernel_rfl
def rf3 : Rho := [(.dat (.tup [(.tup [(.int 1), (.int 1)]), (.lst [(.int 1)])])), (.dat (.lst [(.tup [(.lst [(.tup [(.int 1), (.int 1)]), (.tup [(.int 1), (.int 1)])]), (.tup [(.int 1), (.int 1)])]), (.tup [(.lst [(.tup [(.int 2), (.int 1)]), (.tup [(.int 1), (.int 1)])]), (.tup [(.int 4), (.int 1)])]), (.tup [(.lst [(.tup [(.int 1), (.int 1)]), (.tup [(.int 2), (.int 1)])]), (.tup [(.int 2), (.int 1)])])])), .emp, (.dat (.lst [(.tup [(.lst [(.tup [(.int 1), (.int 1)]), (.tup [(.int 1), (.int 1)])]), (.tup [(.int 1), (.int 1)])]), (.tup [(.lst [(.tup [(.int 2), (.int 1)]), (.tup [(.int 1), (.int 1)])]), (.tup [(.int 4), (.int 1)])]), (.tup [(.lst [(.tup [(.int 1), (.int 1)]), (.tup [(.int 2), (.int 1)])]), (.tup [(.int 2), (.int 1)])]), (.tup [(.lst [(.tup [(.int 1), (.int 1)]), (.tup [(.int 1), (.int 1)])]), (.tup [(.int 5), (.int 1)])])])), .emp, .emp, .emp, .emp, .emp]
theorem g3 (x : Option (List Int × Int)) : es tab52 fd3 rf2 ⟨x, tb9⟩ = .next rf3 ⟨x, tb9⟩ := by kernel_rfl
def rf4 : Rho := [(.dat (.tup [(.tup [(.int 1), (.int 1)]), (.lst [(.int 1)])])), (.dat (.lst [(.tup [(.lst [(.tup [(.int 1), (.int 1)]), (.tup [(.int 1), (.int 1)])]), (.tup [(.int 1), (.int 1)])]), (.tup [(.lst [(.tup [(.int 2), (.int 1)]), (.tup [(.int 1), (.int 1)])]), (.tup [(.int 4), (.int 1)])]), (.tup [(.lst [(.tup [(.int 1), (.int 1)]), (.tup [(.int 2), (.int 1)])]), (.tup [(.int 2), (.int 1)])])])), .emp, (.dat (.lst [(.tup [(.lst [(.tup [(.int 1), (.int 1)]), (.tup [(.int 1), (.int 1)])]), (.tup [(.int 1), (.int 1)])]), (.tup [(.lst [(.tup [(.int 2), (.int 1)]), (.tup [(.int 1), (.int 1)])]), (.tup [(.int 4), (.int 1)])]), (.tup [(.lst [(.tup [(.int 1), (.int 1)]), (.tup [(.int 2), (.int 1)])]), (.tup [(.int 2), (.int 1)])]), (.tup [(.lst [(.tup [(.int 1), (.int 1)]), (.tup [(.int 1), (.int 1)])]), (.tup [(.int 5), (.int 1)])])])), .emp, .emp, .emp, .emp, .emp]
theorem g4 (x : Option (List Int × Int)) : es tab52 fd4 rf3 ⟨x, tb9⟩ = .next rf4 ⟨x, tb9⟩ := by kernel_rfl
def rf5 : Rho := [(.dat (.tup [(.tup [(.int 1), (.int 1)]), (.lst [(.int 1)])])), (.dat (.lst [(.tup [(.lst [(.tup [(.int 1), (.int 1)]), (.tup [(.int 1), (.int 1)])]), (.tup [(.int 1), (.int 1)])]), (.tup [(.lst [(.tup [(.int 2), (.int 1)]), (.tup [(.int 1), (.int 1)])]), (.tup [(.int 4), (.int 1)])]), (.tup [(.lst [(.tup [(.int 1), (.int 1)]), (.tup [(.int 2), (.int 1)])]), (.tup [(.int 2), (.int 1)])])])), .emp, (.dat (.lst [(.tup [(.lst [(.tup [(.int 1), (.int 1)]), (.tup [(.int 1), (.int 1)])]), (.tup [(.int 1), (.int 1)])]), (.tup [(.lst [(.tup [(.int 2), (.int 1)]), (.tup [(.int 1), (.int 1)])]), (.tup [(.int 4), (.int 1)])]), (.tup [(.lst [(.tup [(.int 1), (.int 1)]), (.tup [(.int 2), (.int 1)])]), (.tup [(.int 2), (.int 1)])]), (.tup [(.lst [(.tup [(.int 1), (.int 1)]), (.tup [(.int 1), (.int 1)])]), (.tup [(.int 5), (.int 1)])])])), .emp, .emp, .emp, .emp, .emp]
theorem g5 (x : Option (List Int × Int)) : es tab52 fd5 rf4 ⟨x, tb9⟩ = .next rf5 ⟨x, tb9⟩ := by kernel_rfl
def rf6 : Rho := [(.dat (.tup [(.tup [(.int 1), (.int 1)]), (.lst [(.int 1)])])), (.dat (.lst [(.tup [(.lst [(.tup [(.int 1), (.int 1)]), (.tup [(.int 1), (.int 1)])]), (.tup [(.int 1), (.int 1)])]), (.tup [(.lst [(.tup [(.int 2), (.int 1)]), (.tup [(.int 1), (.int 1)])]), (.tup [(.int 4), (.int 1)])]), (.tup [(.lst [(.tup [(.int 1), (.int 1)]), (.tup [(.int 2), (.int 1)])]), (.tup [(.int 2), (.int 1)])])])), .emp, (.dat (.lst [(.tup [(.lst [(.tup [(.int 1), (.int 1)]), (.tup [(.int 1), (.int 1)])]), (.tup [(.int 1), (.int 1)])]), (.tup [(.lst [(.tup [(.int 2), (.int 1)]), (.tup [(.int 1), (.int 1)])]), (.tup [(.int 4), (.int 1)])]), (.tup [(.lst [(.tup [(.int 1), (.int 1)]), (.tup [(.int 2), (.int 1)])]), (.tup [(.int 2), (.int 1)])]), (.tup [(.lst [(.tup [(.int 1), (.int 1)]), (.tup [(.int 1), (.int 1)])]), (.tup [(.int 5), (.int 1)])])])), .emp, .emp, .emp, .emp, .emp]
theorem g6 (x : Option (List Int × Int)) : es tab52 fd6 rf5 ⟨x, tb9⟩ = .next rf6 ⟨x, tb9⟩ := by kernel_rfl
def rf7 : Rho := [(.dat (.tup [(.tup [(.int 1), (.int 1)]), (.lst [(.int 1)])])), (.dat (.lst [(.tup [(.lst [(.tup [(.int 1), (.int 1)]), (.tup [(.int 1), (.int 1)])]), (.tup [(.int 1), (.int 1)])]), (.tup [(.lst [(.tup [(.int 2), (.int 1)]), (.tup [(.int 1), (.int 1)])]), (.tup [(.int 4), (.int 1)])]), (.tup [(.lst [(.tup [(.int 1), (.int 1)]), (.tup [(.int 2), (.int 1)])]), (.tup [(.int 2), (.int 1)])])])), .emp, (.dat (.lst [(.tup [(.lst [(.tup [(.int 1), (.int 1)]), (.tup [(.int 1), (.int 1)])]), (.tup [(.int 1), (.int 1)])]), (.tup [(.lst [(.tup [(.int 2), (.int 1)]), (.tup [(.int 1), (.int 1)])]), (.tup [(.int 4), (.int 1)])]), (.tup [(.lst [(.tup [(.int 1), (.int 1)]), (.tup [(.int 2), (.int 1)])]), (.tup [(.int 2), (.int 1)])]), (.tup [(.lst [(.tup [(.int 1), (.int 1)]), (.tup [(.int 1), (.int 1)])]), (.tup [(.int 5), (.int 1)])])])), (.dat (.tup [(.tup [(.int 1), (.int 1)]), (.lst [(.int 1), (.int 1), (.int 2)])])), (.dat (.tup [(.tup [(.int 2), (.int 1)]), (.lst [(.int 1), (.int 1), (.int 1)])])), .emp, .emp, .emp]
theorem g7 (x : Option (List Int × Int)) : es tab52 fd7 rf6 ⟨x, tb9⟩ = .next rf7 ⟨x, tb9⟩ := by kernel_rfl
def rf8 : Rho := [(.dat (.tup [(.tup [(.int 1), (.int 1)]), (.lst [(.int 1)])])), (.dat (.lst [(.tup [(.lst [(.tup [(.int 1), (.int 1)]), (.tup [(.int 1), (.int 1)])]), (.tup [(.int 1), (.int 1)])]), (.tup [(.lst [(.tup [(.int 2), (.int 1)]), (.tup [(.int 1), (.int 1)])]), (.tup [(.int 4), (.int 1)])]), (.tup [(.lst [(.tup [(.int 1), (.int 1)]), (.tup [(.int 2), (.int 1)])]), (.tup [(.int 2), (.int 1)])])])), .emp, (.dat (.lst [(.tup [(.lst [(.tup [(.int 1), (.int 1)]), (.tup [(.int 1), (.int 1)])]), (.tup [(.int 1), (.int 1)])]), (.tup [(.lst [(.tup [(.int 2), (.int 1)]), (.tup [(.int 1), (.int 1)])]), (.tup [(.int 4), (.int 1)])]), (.tup [(.lst [(.tup [(.int 1), (.int 1)]), (.tup [(.int 2), (.int 1)])]), (.tup [(.int 2), (.int 1)])]), (.tup [(.lst [(.tup [(.int 1), (.int 1)]), (.tup [(.int 1), (.int 1)])]), (.tup [(.int 5), (.int 1)])])])), (.dat (.tup [(.tup [(.int 1), (.int 1)]), (.lst [(.int 1), (.int 1), (.int 2)])])), (.dat (.tup [(.tup [(.int 2), (.int 1)]), (.lst [(.int 1), (.int 1), (.int 1)])])), .emp, .emp, .emp]
theorem g8 (x : Option (List Int × Int)) : es tab52 fd8 rf7 ⟨x, tb9⟩ = .next rf8 ⟨x, tb9⟩ := by kernel_rfl
def rf9 : Rho := [(.dat (.tup [(.tup [(.int 1), (.int 1)]), (.lst [(.int 1)])])), (.dat (.lst [(.tup [(.lst [(.tup [(.int 1), (.int 1)]), (.tup [(.int 1), (.int 1)])]), (.tup [(.int 1), (.int 1)])]), (.tup [(.lst [(.tup [(.int 2), (.int 1)]), (.tup [(.int 1), (.int 1)])]), (.tup [(.int 4), (.int 1)])]), (.tup [(.lst [(.tup [(.int 1), (.int 1)]), (.tup [(.int 2), (.int 1)])]), (.tup [(.int 2), (.int 1)])])])), .emp, (.dat (.lst [(.tup [(.lst [(.tup [(.int 1), (.int 1)]), (.tup [(.int 1), (.int 1)])]), (.tup [(.int 1), (.int 1)])]), (.tup [(.lst [(.tup [(.int 2), (.int 1)]), (.tup [(.int 1), (.int 1)])]), (.tup [(.int 4), (.int 1)])]), (.tup [(.lst [(.tup [(.int 1), (.int 1)]), (.tup [(.int 2), (.int 1)])]), (.tup [(.int 2), (.int 1)])]), (.tup [(.lst [(.tup [(.int 1), (.int 1)]), (.tup [(.int 1), (.int 1)])]), (.tup [(.int 5), (.int 1)])])])), (.dat (.tup [(.tup [(.int 1), (.int 1)]), (.lst [(.int 1), (.int 1), (.int 2)])])), (.dat (.tup [(.tup [(.int 2), (.int 1)]), (.lst [(.int 1), (.int 1), (.int 1)])])), .emp, .emp, .emp]
theorem g9 (x : Option (List Int × Int)) : es tab52 fd9 rf8 ⟨x, tb9⟩ = .next rf9 ⟨x, tb9⟩ := by kernel_rfl
def rf10 : Rho := [(.dat (.tup [(.tup [(.int 1), (.int 1)]), (.lst [(.int 1)])])), (.dat (.lst [(.tup [(.lst [(.tup [(.int 1), (.int 1)]), (.tup [(.int 1), (.int 1)])]), (.tup [(.int 1), (.int 1)])]), (.tup [(.lst [(.tup [(.int 2), (.int 1)]), (.tup [(.int 1), (.int 1)])]), (.tup [(.int 4), (.int 1)])]), (.tup [(.lst [(.tup [(.int 1), (.int 1)]), (.tup [(.int 2), (.int 1)])]), (.tup [(.int 2), (.int 1)])])])), .emp, (.dat (.lst [(.tup [(.lst [(.tup [(.int 1), (.int 1)]), (.tup [(.int 1), (.int 1)])]), (.tup [(.int 1), (.int 1)])]), (.tup [(.lst [(.tup [(.int 2), (.int 1)]), (.tup [(.int 1), (.int 1)])]), (.tup [(.int 4), (.int 1)])]), (.tup [(.lst [(.tup [(.int 1), (.int 1)]), (.tup [(.int 2), (.int 1)])]), (.tup [(.int 2), (.int 1)])]), (.tup [(.lst [(.tup [(.int 1), (.int 1)]), (.tup [(.int 1), (.int 1)])]), (.tup [(.int 5), (.int 1)])])])), (.dat (.tup [(.tup [(.int 1), (.int 1)]), (.lst [(.int 1), (.int 1), (.int 2)])])), (.dat (.tup [(.tup [(.int 2), (.int 1)]), (.lst [(.int 1), (.int 1), (.int 1)])])), (.dat (.lst [(.tup [(.lst [(.tup [(.lst [(.tup [(.int 1), (.int 1)]), (.tup [(.int 1), (.int 1)])]), (.tup [(.int 1), (.int 1)])])]), (.int 0)]), (.tup [(.lst [(.tup [(.lst [(.tup [(.int 1), (.int 1)]), (.tup [(.int 1), (.int 1)])]), (.tup [(.int 1), (.int 1)])]), (.tup [(.lst [(.tup [(.int 2), (.int 1)]), (.tup [(.int 1), (.int 1)])]), (.tup [(.int 4), (.int 1)])]), (.tup [(.lst [(.tup [(.int 1), (.int 1)]), (.tup [(.int 2), (.int 1)])]), (.tup [(.int 2), (.int 1)])])]), (.int 0)]), (.tup [(.lst [(.tup [(.lst [(.tup [(.int 1), (.int 1)]), (.tup [(.int 1), (.int 1)])]), (.tup [(.int 1), (.int 1)])]), (.tup [(.lst [(.tup [(.int 2), (.int 1)]), (.tup [(.int 1), (.int 1)])]), (.tup [(.int 4), (.int 1)])]), (.tup [(.lst [(.tup [(.int 1), (.int 1)]), (.tup [(.int 2), (.int 1)])]), (.tup [(.int 2), (.int 1)])])]), (.int 1)])])), .emp, .emp]
theorem g10 (x : Option (List Int × Int)) : es tab52 fd10 rf9 ⟨x, tb9⟩ = .next rf10 ⟨x, tb9⟩ := by kernel_rfl
def rf11 : Rho := [(.dat (.tup [(.tup [(.int 1), (.int 1)]), (.lst [(.int 1)])])), (.dat (.lst [(.tup [(.lst [(.tup [(.int 1), (.int 1)]), (.tup [(.int 1), (.int 1)])]), (.tup [(.int 1), (.int 1)])]), (.tup [(.lst [(.tup [(.int 2), (.int 1)]), (.tup [(.int 1), (.int 1)])]), (.tup [(.int 4), (.int 1)])]), (.tup [(.lst [(.tup [(.int 1), (.int 1)]), (.tup [(.int 2), (.int 1)])]), (.tup [(.int 2), (.int 1)])])])), .emp, (.dat (.lst [(.tup [(.lst [(.tup [(.int 1), (.int 1)]), (.tup [(.int 1), (.int 1)])]), (.tup [(.int 1), (.int 1)])]), (.tup [(.lst [(.tup [(.int 2), (.int 1)]), (.tup [(.int 1), (.int 1)])]), (.tup [(.int 4), (.int 1)])]), (.tup [(.lst [(.tup [(.int 1), (.int 1)]), (.tup [(.int 2), (.int 1)])]), (.tup [(.int 2), (.int 1)])]), (.tup [(.lst [(.tup [(.int 1), (.int 1)]), (.tup [(.int 1), (.int 1)])]), (.tup [(.int 5), (.int 1)])])])), (.dat (.tup [(.tup [(.int 1), (.int 1)]), (.lst [(.int 1), (.int 1), (.int 2)])])), (.dat (.tup [(.tup [(.int 2), (.int 1)]), (.lst [(.int 1), (.int 1), (.int 1)])])), (.dat (.lst [(.tup [(.lst [(.tup [(.lst [(.tup [(.int 1), (.int 1)]), (.tup [(.int 1), (.int 1)])]), (.tup [(.int 1), (.int 1)])])]), (.int 0)]), (.tup [(.lst [(.tup [(.lst [(.tup [(.int 1), (.int 1)]), (.tup [(.int 1), (.int 1)])]), (.tup [(.int 1), (.int 1)])]), (.tup [(.lst [(.tup [(.int 2), (.int 1)]), (.tup [(.int 1), (.int 1)])]), (.tup [(.int 4), (.int 1)])]), (.tup [(.lst [(.tup [(.int 1), (.int 1)]), (.tup [(.int 2), (.int 1)])]), (.tup [(.int 2), (.int 1)])])]), (.int 0)]), (.tup [(.lst [(.tup [(.lst [(.tup [(.int 1), (.int 1)]), (.tup [(.int 1), (.int 1)])]), (.tup [(.int 1), (.int 1)])]), (.tup [(.lst [(.tup [(.int 2), (.int 1)]), (.tup [(.int 1), (.int 1)])]), (.tup [(.int 4), (.int 1)])]), (.tup [(.lst [(.tup [(.int 1), (.int 1)]), (.tup [(.int 2), (.int 1)])]), (.tup [(.int 2), (.int 1)])])]), (.int 1)]), (.tup [(.lst [(.tup [(.lst [(.tup [(.int 1), (.int 1)]), (.tup [(.int 1), (.int 1)])]), (.tup [(.int 1), (.int 1)])]), (.tup [(.lst [(.tup [(.int 2), (.int 1)]), (.tup [(.int 1), (.int 1)])]), (.tup [(.int 4), (.int 1)])]), (.tup [(.lst [(.tup [(.int 1), (.int 1)]), (.tup [(.int 2), (.int 1)])]), (.tup [(.int 2), (.int 1)])]), (.tup [(.lst [(.tup [(.int 3), (.int 1)]), (.tup [(.int 1), (.int 1)])]), (.tup [(.int 4), (.int 1)])])]), (.int 0)]), (.tup [(.lst [(.tup [(.lst [(.tup [(.int 1), (.int 1)]), (.tup [(.int 1), (.int 1)])]), (.tup [(.int 1), (.int 1)])]), (.tup [(.lst [(.tup [(.int 2), (.int 1)]), (.tup [(.int 1), (.int 1)])]), (.tup [(.int 4), (.int 1)])]), (.tup [(.lst [(.tup [(.int 1), (.int 1)]), (.tup [(.int 2), (.int 1)])]), (.tup [(.int 2), (.int 1)])]), (.tup [(.lst [(.tup [(.int 4), (.int 1)]), (.tup [(.int 1), (.int 1)])]), (.tup [(.int 4), (.int 1)])])]), (.int 0)])])), .emp, .emp]
theorem g11 (x : Option (List Int × Int)) : es tab52 fd11 rf10 ⟨x, tb9⟩ = .next rf11 ⟨x, tb9⟩ := by kernel_rfl
def rf12 : Rho := [(.dat (.tup [(.tup [(.int 1), (.int 1)]), (.lst [(.int 1)])])), (.dat (.lst [(.tup [(.lst [(.tup [(.int 1), (.int 1)]), (.tup [(.int 1), (.int 1)])]), (.tup [(.int 1), (.int 1)])]), (.tup [(.lst [(.tup [(.int 2), (.int 1)]), (.tup [(.int 1), (.int 1)])]), (.tup [(.int 4), (.int 1)])]), (.tup [(.lst [(.tup [(.int 1), (.int 1)]), (.tup [(.int 2), (.int 1)])]), (.tup [(.int 2), (.int 1)])])])), .emp, (.dat (.lst [(.tup [(.lst [(.tup [(.int 1), (.int 1)]), (.tup [(.int 1), (.int 1)])]), (.tup [(.int 1), (.int 1)])]), (.tup [(.lst [(.tup [(.int 2), (.int 1)]), (.tup [(.int 1), (.int 1)])]), (.tup [(.int 4), (.int 1)])]), (.tup [(.lst [(.tup [(.int 1), (.int 1)]), (.tup [(.int 2), (.int 1)])]), (.tup [(.int 2), (.int 1)])]), (.tup [(.lst [(.tup [(.int 1), (.int 1)]), (.tup [(.int 1), (.int 1)])]), (.tup [(.int 5), (.int 1)])])])), (.dat (.tup [(.tup [(.int 1), (.int 1)]), (.lst [(.int 1), (.int 1), (.int 2)])])), (.dat (.tup [(.tup [(.int 2), (.int 1)]), (.lst [(.int 1), (.int 1), (.int 1)])])), (.dat (.lst [(.tup [(.lst [(.tup [(.lst [(.tup [(.int 1), (.int 1)]), (.tup [(.int 1), (.int 1)])]), (.tup [(.int 1), (.int 1)])])]), (.int 0)]), (.tup [(.lst [(.tup [(.lst [(.tup [(.int 1), (.int 1)]), (.tup [(.int 1), (.int 1)])]), (.tup [(.int 1), (.int 1)])]), (.tup [(.lst [(.tup [(.int 2), (.int 1)]), (.tup [(.int 1), (.int 1)])]), (.tup [(.int 4), (.int 1)])]), (.tup [(.lst [(.tup [(.int 1), (.int 1)]), (.tup [(.int 2), (.int 1)])]), (.tup [(.int 2), (.int 1)])])]), (.int 0)]), (.tup [(.lst [(.tup [(.lst [(.tup [(.int 1), (.int 1)]), (.tup [(.int 1), (.int 1)])]), (.tup [(.int 1), (.int 1)])]), (.tup [(.lst [(.tup [(.int 2), (.int 1)]), (.tup [(.int 1), (.int 1)])]), (.tup [(.int 4), (.int 1)])]), (.tup [(.lst [(.tup [(.int 1), (.int 1)]), (.tup [(.int 2), (.int 1)])]), (.tup [(.int 2), (.int 1)])])]), (.int 1)]), (.tup [(.lst [(.tup [(.lst [(.tup [(.int 1), (.int 1)]), (.tup [(.int 1), (.int 1)])]), (.tup [(.int 1), (.int 1)])]), (.tup [(.lst [(.tup [(.int 2), (.int 1)]), (.tup [(.int 1), (.int 1)])]), (.tup [(.int 4), (.int 1)])]), (.tup [(.lst [(.tup [(.int 1), (.int 1)]), (.tup [(.int 2), (.int 1)])]), (.tup [(.int 2), (.int 1)])]), (.tup [(.lst [(.tup [(.int 3), (.int 1)]), (.tup [(.int 1), (.int 1)])]), (.tup [(.int 4), (.int 1)])])]), (.int 0)]), (.tup [(.lst [(.tup [(.lst [(.tup [(.int 1), (.int 1)]), (.tup [(.int 1), (.int 1)])]), (.tup [(.int 1), (.int 1)])]), (.tup [(.lst [(.tup [(.int 2), (.int 1)]), (.tup [(.int 1), (.int 1)])]), (.tup [(.int 4), (.int 1)])]), (.tup [(.lst [(.tup [(.int 1), (.int 1)]), (.tup [(.int 2), (.int 1)])]), (.tup [(.int 2), (.int 1)])]), (.tup [(.lst [(.tup [(.int 4), (.int 1)]), (.tup [(.int 1), (.int 1)])]), (.tup [(.int 4), (.int 1)])])]), (.int 0)])])), .emp, .emp]
theorem g12 (x : Option (List Int × Int)) : es tab52 fd12 rf11 ⟨x, tb9⟩ = .next rf12 ⟨x, tb9⟩ := by kernel_rfl
def rf13 : Rho := [(.dat (.tup [(.tup [(.int 1), (.int 1)]), (.lst [(.int 1)])])), (.dat (.lst [(.tup [(.lst [(.tup [(.int 1), (.int 1)]), (.tup [(.int 1), (.int 1)])]), (.tup [(.int 1), (.int 1)])]), (.tup [(.lst [(.tup [(.int 2), (.int 1)]), (.tup [(.int 1), (.int 1)])]), (.tup [(.int 4), (.int 1)])]), (.tup [(.lst [(.tup [(.int 1), (.int 1)]), (.tup [(.int 2), (.int 1)])]), (.tup [(.int 2), (.int 1)])])])), .emp, (.dat (.lst [(.tup [(.lst [(.tup [(.int 1), (.int 1)]), (.tup [(.int 1), (.int 1)])]), (.tup [(.int 1), (.int 1)])]), (.tup [(.lst [(.tup [(.int 2), (.int 1)]), (.tup [(.int 1), (.int 1)])]), (.tup [(.int 4), (.int 1)])]), (.tup [(.lst [(.tup [(.int 1), (.int 1)]), (.tup [(.int 2), (.int 1)])]), (.tup [(.int 2), (.int 1)])]), (.tup [(.lst [(.tup [(.int 1), (.int 1)]), (.tup [(.int 1), (.int 1)])]), (.tup [(.int 5), (.int 1)])])])), (.dat (.tup [(.tup [(.int 1), (.int 1)]), (.lst [(.int 1), (.int 1), (.int 2)])])), (.dat (.tup [(.tup [(.int 2), (.int 1)]), (.lst [(.int 1), (.int 1), (.int 1)])])), (.dat (.lst [(.tup [(.lst [(.tup [(.lst [(.tup [(.int 1), (.int 1)]), (.tup [(.int 1), (.int 1)])]), (.tup [(.int 1), (.int 1)])])]), (.int 0)]), (.tup [(.lst [(.tup [(.lst [(.tup [(.int 1), (.int 1)]), (.tup [(.int 1), (.int 1)])]), (.tup [(.int 1), (.int 1)])]), (.tup [(.lst [(.tup [(.int 2), (.int 1)]), (.tup [(.int 1), (.int 1)])]), (.tup [(.int 4), (.int 1)])]), (.tup [(.lst [(.tup [(.int 1), (.int 1)]), (.tup [(.int 2), (.int 1)])]), (.tup [(.int 2), (.int 1)])])]), (.int 0)]), (.tup [(.lst [(.tup [(.lst [(.tup [(.int 1), (.int 1)]), (.tup [(.int 1), (.int 1)])]), (.tup [(.int 1), (.int 1)])]), (.tup [(.lst [(.tup [(.int 2), (.int 1)]), (.tup [(.int 1), (.int 1)])]), (.tup [(.int 4), (.int 1)])]), (.tup [(.lst [(.tup [(.int 1), (.int 1)]), (.tup [(.int 2), (.int 1)])]), (.tup [(.int 2), (.int 1)])])]), (.int 1)]), (.tup [(.lst [(.tup [(.lst [(.tup [(.int 1), (.int 1)]), (.tup [(.int 1), (.int 1)])]), (.tup [(.int 1), (.int 1)])]), (.tup [(.lst [(.tup [(.int 2), (.int 1)]), (.tup [(.int 1), (.int 1)])]), (.tup [(.int 4), (.int 1)])]), (.tup [(.lst [(.tup [(.int 1), (.int 1)]), (.tup [(.int 2), (.int 1)])]), (.tup [(.int 2), (.int 1)])]), (.tup [(.lst [(.tup [(.int 3), (.int 1)]), (.tup [(.int 1), (.int 1)])]), (.tup [(.int 4), (.int 1)])])]), (.int 0)]), (.tup [(.lst [(.tup [(.lst [(.tup [(.int 1), (.int 1)]), (.tup [(.int 1), (.int 1)])]), (.tup [(.int 1), (.int 1)])]), (.tup [(.lst [(.tup [(.int 2), (.int 1)]), (.tup [(.int 1), (.int 1)])]), (.tup [(.int 4), (.int 1)])]), (.tup [(.lst [(.tup [(.int 1), (.int 1)]), (.tup [(.int 2), (.int 1)])]), (.tup [(.int 2), (.int 1)])]), (.tup [(.lst [(.tup [(.int 4), (.int 1)]), (.tup [(.int 1), (.int 1)])]), (.tup [(.int 4), (.int 1)])])]), (.int 0)])])), .emp, .emp]
theorem g13 (x : Option (List Int × Int)) : es tab52 fd13 rf12 ⟨x, tb9⟩ = .next rf13 ⟨x, tb9⟩ := by kernel_rfl
def rf14 : Rho := [(.dat (.tup [(.tup [(.int 1), (.int 1)]), (.lst [(.int 1)])])), (.dat (.lst [(.tup [(.lst [(.tup [(.int 1), (.int 1)]), (.tup [(.int 1), (.int 1)])]), (.tup [(.int 1), (.int 1)])]), (.tup [(.lst [(.tup [(.int 2), (.int 1)]), (.tup [(.int 1), (.int 1)])]), (.tup [(.int 4), (.int 1)])]), (.tup [(.lst [(.tup [(.int 1), (.int 1)]), (.tup [(.int 2), (.int 1)])]), (.tup [(.int 2), (.int 1)])])])), .emp, (.dat (.lst [(.tup [(.lst [(.tup [(.int 1), (.int 1)]), (.tup [(.int 1), (.int 1)])]), (.tup [(.int 1), (.int 1)])]), (.tup [(.lst [(.tup [(.int 2), (.int 1)]), (.tup [(.int 1), (.int 1)])]), (.tup [(.int 4), (.int 1)])]), (.tup [(.lst [(.tup [(.int 1), (.int 1)]), (.tup [(.int 2), (.int 1)])]), (.tup [(.int 2), (.int 1)])]), (.tup [(.lst [(.tup [(.int 1), (.int 1)]), (.tup [(.int 1), (.int 1)])]), (.tup [(.int 5), (.int 1)])])])), (.dat (.tup [(.tup [(.int 1), (.int 1)]), (.lst [(.int 1), (.int 1), (.int 2)])])), (.dat (.tup [(.tup [(.int 2), (.int 1)]), (.lst [(.int 1), (.int 1), (.int 1)])])), (.dat (.lst [(.tup [(.lst [(.tup [(.lst [(.tup [(.int 1), (.int 1)]), (.tup [(.int 1), (.int 1)])]), (.tup [(.int 1), (.int 1)])])]), (.int 0)]), (.tup [(.lst [(.tup [(.lst [(.tup [(.int 1), (.int 1)]), (.tup [(.int 1), (.int 1)])]), (.tup [(.int 1), (.int 1)])]), (.tup [(.lst [(.tup [(.int 2), (.int 1)]), (.tup [(.int 1), (.int 1)])]), (.tup [(.int 4), (.int 1)])]), (.tup [(.lst [(.tup [(.int 1), (.int 1)]), (.tup [(.int 2), (.int 1)])]), (.tup [(.int 2), (.int 1)])])]), (.int 0)]), (.tup [(.lst [(.tup [(.lst [(.tup [(.int 1), (.int 1)]), (.tup [(.int 1), (.int 1)])]), (.tup [(.int 1), (.int 1)])]), (.tup [(.lst [(.tup [(.int 2), (.int 1)]), (.tup [(.int 1), (.int 1)])]), (.tup [(.int 4), (.int 1)])]), (.tup [(.lst [(.tup [(.int 1), (.int 1)]), (.tup [(.int 2), (.int 1)])]), (.tup [(.int 2), (.int 1)])])]), (.int 1)]), (.tup [(.lst [(.tup [(.lst [(.tup [(.int 1), (.int 1)]), (.tup [(.int 1), (.int 1)])]), (.tup [(.int 1), (.int 1)])]), (.tup [(.lst [(.tup [(.int 2), (.int 1)]), (.tup [(.int 1), (.int 1)])]), (.tup [(.int 4), (.int 1)])]), (.tup [(.lst [(.tup [(.int 1), (.int 1)]), (.tup [(.int 2), (.int 1)])]), (.tup [(.int 2), (.int 1)])]), (.tup [(.lst [(.tup [(.int 3), (.int 1)]), (.tup [(.int 1), (.int 1)])]), (.tup [(.int 4), (.int 1)])])]), (.int 0)]), (.tup [(.lst [(.tup [(.lst [(.tup [(.int 1), (.int 1)]), (.tup [(.int 1), (.int 1)])]), (.tup [(.int 1), (.int 1)])]), (.tup [(.lst [(.tup [(.int 2), (.int 1)]), (.tup [(.int 1), (.int 1)])]), (.tup [(.int 4), (.int 1)])]), (.tup [(.lst [(.tup [(.int 1), (.int 1)]), (.tup [(.int 2), (.int 1)])]), (.tup [(.int 2), (.int 1)])]), (.tup [(.lst [(.tup [(.int 4), (.int 1)]), (.tup [(.int 1), (.int 1)])]), (.tup [(.int 4), (.int 1)])])]), (.int 0)])])), .emp, (.dat (.lst [(.tup [(.tup [(.int 2), (.int 1)]), (.lst [(.int 2), (.int 1)])]), (.tup [(.tup [(.int 4), (.int 1)]), (.lst [(.int 0), (.int (-1))])]), (.tup [(.tup [(.int 8), (.int 1)]), (.lst [(.int 0), (.int (-1))])])]))]
theorem g14 (x : Option (List Int × Int)) : es tab52 fd14 rf13 ⟨x, tb9⟩ = .next rf14 ⟨x, tb9⟩ := by kernel_rfl
def rf15 : Rho := [(.dat (.tup [(.tup [(.int 1), (.int 1)]), (.lst [(.int 1)])])), (.dat (.lst [(.tup [(.lst [(.tup [(.int 1), (.int 1)]), (.tup [(.int 1), (.int 1)])]), (.tup [(.int 1), (.int 1)])]), (.tup [(.lst [(.tup [(.int 2), (.int 1)]), (.tup [(.int 1), (.int 1)])]), (.tup [(.int 4), (.int 1)])]), (.tup [(.lst [(.tup [(.int 1), (.int 1)]), (.tup [(.int 2), (.int 1)])]), (.tup [(.int 2), (.int 1)])])])), .emp, (.dat (.lst [(.tup [(.lst [(.tup [(.int 1), (.int 1)]), (.tup [(.int 1), (.int 1)])]), (.tup [(.int 1), (.int 1)])]), (.tup [(.lst [(.tup [(.int 2), (.int 1)]), (.tup [(.int 1), (.int 1)])]), (.tup [(.int 4), (.int 1)])]), (.tup [(.lst [(.tup [(.int 1), (.int 1)]), (.tup [(.int 2), (.int 1)])]), (.tup [(.int 2), (.int 1)])]), (.tup [(.lst [(.tup [(.int 1), (.int 1)]), (.tup [(.int 1), (.int 1)])]), (.tup [(.int 5), (.int 1)])])])), (.dat (.tup [(.tup [(.int 1), (.int 1)]), (.lst [(.int 1), (.int 1), (.int 2)])])), (.dat (.tup [(.tup [(.int 2), (.int 1)]), (.lst [(.int 1), (.int 1), (.int 1)])])), (.dat (.lst [(.tup [(.lst [(.tup [(.lst [(.tup [(.int 1), (.int 1)]), (.tup [(.int 1), (.int 1)])]), (.tup [(.int 1), (.int 1)])])]), (.int 0)]), (.tup [(.lst [(.tup [(.lst [(.tup [(.int 1), (.int 1)]), (.tup [(.int 1), (.int 1)])]), (.tup [(.int 1), (.int 1)])]), (.tup [(.lst [(.tup [(.int 2), (.int 1)]), (.tup [(.int 1), (.int 1)])]), (.tup [(.int 4), (.int 1)])]), (.tup [(.lst [(.tup [(.int 1), (.int 1)]), (.tup [(.int 2), (.int 1)])]), (.tup [(.int 2), (.int 1)])])]), (.int 0)]), (.tup [(.lst [(.tup [(.lst [(.tup [(.int 1), (.int 1)]), (.tup [(.int 1), (.int 1)])]), (.tup [(.int 1), (.int 1)])]), (.tup [(.lst [(.tup [(.int 2), (.int 1)]), (.tup [(.int 1), (.int 1)])]), (.tup [(.int 4), (.int 1)])]), (.tup [(.lst [(.tup [(.int 1), (.int 1)]), (.tup [(.int 2), (.int 1)])]), (.tup [(.int 2), (.int 1)])])]), (.int 1)]), (.tup [(.lst [(.tup [(.lst [(.tup [(.int 1), (.int 1)]), (.tup [(.int 1), (.int 1)])]), (.tup [(.int 1), (.int 1)])]), (.tup [(.lst [(.tup [(.int 2), (.int 1)]), (.tup [(.int 1), (.int 1)])]), (.tup [(.int 4), (.int 1)])]), (.tup [(.lst [(.tup [(.int 1), (.int 1)]), (.tup [(.int 2), (.int 1)])]), (.tup [(.int 2), (.int 1)])]), (.tup [(.lst [(.tup [(.int 3), (.int 1)]), (.tup [(.int 1), (.int 1)])]), (.tup [(.int 4), (.int 1)])])]), (.int 0)]), (.tup [(.lst [(.tup [(.lst [(.tup [(.int 1), (.int 1)]), (.tup [(.int 1), (.int 1)])]), (.tup [(.int 1), (.int 1)])]), (.tup [(.lst [(.tup [(.int 2), (.int 1)]), (.tup [(.int 1), (.int 1)])]), (.tup [(.int 4), (.int 1)])]), (.tup [(.lst [(.tup [(.int 1), (.int 1)]), (.tup [(.int 2), (.int 1)])]), (.tup [(.int 2), (.int 1)])]), (.tup [(.lst [(.tup [(.int 4), (.int 1)]), (.tup [(.int 1), (.int 1)])]), (.tup [(.int 4), (.int 1)])])]), (.int 0)])])), .emp, (.dat (.lst [(.tup [(.tup [(.int 2), (.int 1)]), (.lst [(.int 2), (.int 1)])]), (.tup [(.tup [(.int 4), (.int 1)]), (.lst [(.int 0), (.int (-1))])]), (.tup [(.tup [(.int 8), (.int 1)]), (.lst [(.int 0), (.int (-1))])])]))]
theorem g15 (x : Option (List Int × Int)) : es tab52 fd15 rf14 ⟨x, tb9⟩ = .next rf15 ⟨x, tb9⟩ := by kernel_rfl
theorem h1 (x : Option (List Int × Int)) : ev tab52 (.bin .eq (.call 50 (.cons (.cst (.int 17)) (.cons (.var 0) (.cons (.cst (.int 0)) .nil)))) (.cst (.str "amounts"))) rf15 ⟨x, tb9⟩ = .ok (.bl true) ⟨x, tb9⟩ := by kernel_rfl
theorem h2 (x : Option (List Int × Int)) : ev tab52 (.bin .eq (.call 50 (.cons (.cst (.int 18)) (.cons (.var 0) (.cons (.cst (.int 1)) .nil)))) (.cst (.str "number"))) rf15 ⟨x, tb9⟩ = .ok (.bl true) ⟨x, tb9⟩ := by kernel_rfl
theorem h3 (x : Option (List Int × Int)) : ev tab52 (.bin .eq (.call 50 (.cons (.cst (.int 16)) (.cons (.var 0) (.cons (.cst (.int 0)) .nil)))) (.cst (.str "amounts"))) rf15 ⟨x, tb9⟩ = .ok (.bl true) ⟨x, tb9⟩ := by kernel_rfl
theorem evh (x : Option (List Int × Int)) : ev tab52 (.hk 16 .nil) rf15 ⟨x, tb9⟩ = .ok (.bl true) ⟨x, tbE⟩ := by
  have eh : tab52.hks.getD 16 noH = hkC0 "_law_table" f51 := rfl
  rw [ev, evm, eh]
  show mC0 f51 rf15 ⟨x, tb9⟩ = _
  rw [mC0, tabl x]
theorem and_t2 {T : Tab} {a b : E} {r : Rho} {w w1 w2 : Wd} {d : D} (h1 : ev T a r w = .ok (.bl true) w1) (h2 : ev T b r w1 = .ok d w2) : ev T (.and a b) r w = .ok d w2 := by
  rw [ev, mAnd, h1]
  simp only [Res.bind]
  rw [h2]
theorem foundE (x : Option (List Int × Int)) : f52 [.tup [.tup [.int 1, .int 1], .lst [.int 1]]] ⟨x, tb9⟩ = .ok (.bl true) ⟨x, tbE⟩ := by
  have hb : ess tab52 (b12_law_found 50 29 22 38 37 40 36 39) (startR 9 [.tup [.tup [.int 1, .int 1], .lst [.int 1]]]) ⟨x, tb9⟩ = .ret (.bl true) ⟨x, tbE⟩ := by
    rw [fd_eq]
    rw [ess, sSeq, g1 x]
    simp only
    rw [ess, sSeq, g2 x]
    simp only
    rw [ess, sSeq, g3 x]
    simp only
    rw [ess, sSeq, g4 x]
    simp only
    rw [ess, sSeq, g5 x]
    simp only
    rw [ess, sSeq, g6 x]
    simp only
    rw [ess, sSeq, g7 x]
    simp only
    rw [ess, sSeq, g8 x]
    simp only
    rw [ess, sSeq, g9 x]
    simp only
    rw [ess, sSeq, g10 x]
    simp only
    rw [ess, sSeq, g11 x]
    simp only
    rw [ess, sSeq, g12 x]
    simp only
    rw [ess, sSeq, g13 x]
    simp only
    rw [ess, sSeq, g14 x]
    simp only
    rw [ess, sSeq, g15 x]
    simp only
    rw [ess, sSeq]
    have hr : es tab52 fd16 rf15 ⟨x, tb9⟩ = .ret (.bl true) ⟨x, tbE⟩ := by
      rw [fd16, es, sRet, show _ = _ from (and_t2 (h1 x) (and_t2 (h2 x) (and_t2 (h3 x) (evh x))))]
      rfl
    rw [hr]
  show mFun 9 (ess tab52 (b12_law_found 50 29 22 38 37 40 36 39)) _ _ = _
  rw [mFun, hb]
def rl1 : Rho := [.emp, (.dat .drw), (.dat (.tup [(.int 1), (.int 2), (.int 3)])), .emp, .emp, .emp, .emp, .emp, .emp, .emp]
theorem n1 (x : Option (List Int × Int)) : es tab53 k12s1 (lawR 10) ⟨x, []⟩ = .next rl1 ⟨x, []⟩ := by kernel_rfl
def rl2 : Rho := [.emp, (.dat .drw), (.dat (.tup [(.int 1), (.int 2), (.int 3)])), .emp, .emp, .emp, .emp, .emp, .emp, .emp]
theorem n2 (x : Option (List Int × Int)) : es tab53 k12s2 rl1 ⟨x, []⟩ = .next rl2 ⟨x, []⟩ := by kernel_rfl
def rl3 : Rho := [.emp, (.dat .drw), (.dat (.lst [(.lst [(.tup [(.int 1), (.int 1)]), (.tup [(.int 2), (.int 4)])])])), .emp, .emp, .emp, .emp, .emp, .emp, .emp]
theorem n3 (x : Option (List Int × Int)) : es tab53 k12s3 rl2 ⟨x, []⟩ = .next rl3 ⟨x, []⟩ := by kernel_rfl
def rl4 : Rho := [.emp, (.dat .drw), (.dat (.lst [(.lst [(.tup [(.int 1), (.int 1)]), (.tup [(.int 2), (.int 4)])])])), .emp, .emp, .emp, .emp, .emp, .emp, .emp]
theorem n4 (x : Option (List Int × Int)) : es tab53 k12s4 rl3 ⟨x, []⟩ = .next rl4 ⟨x, []⟩ := by kernel_rfl
def rl5 : Rho := [.emp, (.dat .drw), (.dat (.lst [(.lst [(.tup [(.int 1), (.int 1)]), (.tup [(.int 2), (.int 4)])])])), .emp, .emp, (.dat (.tup [(.tup [(.int 1), (.int 1)]), (.lst [(.int 2), (.int (-2))])])), (.dat (.tup [(.tup [(.int 1), (.int 1)]), (.lst [(.int 1)])])), .emp, .emp, .emp]
theorem n5 (x : Option (List Int × Int)) : es tab53 k12s5 rl4 ⟨x, []⟩ = .next rl5 ⟨x, []⟩ := by kernel_rfl
def rl6 : Rho := [.emp, (.dat .drw), (.dat (.lst [(.lst [(.tup [(.int 1), (.int 1)]), (.tup [(.int 2), (.int 4)])])])), .emp, .emp, (.dat (.tup [(.tup [(.int 1), (.int 1)]), (.lst [(.int 2), (.int (-2))])])), (.dat (.tup [(.tup [(.int 1), (.int 1)]), (.lst [(.int 1)])])), (.dat (.lst [(.str "rule"), (.str "rule"), (.str "rule"), (.str "done"), (.str "done"), (.str "rule")])), .emp, .emp]
theorem n6 (x : Option (List Int × Int)) : es tab53 k12s6 rl5 ⟨x, []⟩ = .next rl6 ⟨x, []⟩ := by kernel_rfl
def rl7 : Rho := [.emp, (.dat .drw), (.dat (.lst [(.lst [(.tup [(.int 1), (.int 1)]), (.tup [(.int 2), (.int 4)])])])), .emp, .emp, (.dat (.tup [(.tup [(.int 1), (.int 1)]), (.lst [(.int 2), (.int (-2))])])), (.dat (.tup [(.tup [(.int 1), (.int 1)]), (.lst [(.int 1)])])), (.dat (.lst [(.str "rule"), (.str "rule"), (.str "rule"), (.str "done"), (.str "done"), (.str "rule")])), .emp, .emp]
theorem n7 (x : Option (List Int × Int)) : es tab53 k12s7 rl6 ⟨x, []⟩ = .next rl7 ⟨x, []⟩ := by kernel_rfl
def rl8 : Rho := [.emp, (.dat .drw), (.dat (.lst [(.lst [(.tup [(.int 1), (.int 1)]), (.tup [(.int 2), (.int 4)])])])), .emp, .emp, (.dat (.tup [(.tup [(.int 1), (.int 1)]), (.lst [(.int 2), (.int (-2))])])), (.dat (.tup [(.tup [(.int 1), (.int 1)]), (.lst [(.int 1)])])), (.dat (.lst [(.str "rule"), (.str "rule"), (.str "rule"), (.str "done"), (.str "done"), (.str "rule")])), .emp, .emp]
theorem n8 (x : Option (List Int × Int)) : es tab53 k12s8 rl7 ⟨x, []⟩ = .next rl8 ⟨x, []⟩ := by kernel_rfl
def rl9 : Rho := [.emp, (.dat .drw), (.dat (.lst [(.lst [(.tup [(.int 1), (.int 1)]), (.tup [(.int 2), (.int 4)])])])), .emp, .emp, (.dat (.tup [(.tup [(.int 1), (.int 1)]), (.lst [(.int 2), (.int (-2))])])), (.dat (.tup [(.tup [(.int 1), (.int 1)]), (.lst [(.int 1)])])), (.dat (.lst [(.str "rule"), (.str "rule"), (.str "rule"), (.str "done"), (.str "done"), (.str "rule")])), .emp, .emp]
theorem n9 (x : Option (List Int × Int)) : es tab53 k12s9 rl8 ⟨x, []⟩ = .next rl9 ⟨x, [(1, []), (3, [])]⟩ := by kernel_rfl
def rl10 : Rho := [.emp, (.dat .drw), (.dat (.lst [(.lst [(.tup [(.int 1), (.int 1)]), (.tup [(.int 2), (.int 4)])])])), .emp, .emp, (.dat (.tup [(.tup [(.int 1), (.int 1)]), (.lst [(.int 2), (.int (-2))])])), (.dat (.tup [(.tup [(.int 1), (.int 1)]), (.lst [(.int 1)])])), (.dat (.lst [(.str "rule"), (.str "rule"), (.str "rule"), (.str "done"), (.str "done"), (.str "rule")])), .emp, .emp]
theorem n10 (x : Option (List Int × Int)) : es tab53 k12s10 rl9 ⟨x, [(1, []), (3, [])]⟩ = .next rl10 ⟨x, [(1, []), (3, [])]⟩ := by kernel_rfl
theorem wins (x : Option (List Int × Int)) : ∃ w', ess tab53 b_law_k12 (lawR 10) ⟨x, []⟩ = .ret (.bl true) w' := by
  refine ⟨⟨x, tbE⟩, ?_⟩
  rw [b_law_k12]
  rw [ess, sSeq, n1 x]
  simp only
  rw [ess, sSeq, n2 x]
  simp only
  rw [ess, sSeq, n3 x]
  simp only
  rw [ess, sSeq, n4 x]
  simp only
  rw [ess, sSeq, n5 x]
  simp only
  rw [ess, sSeq, n6 x]
  simp only
  rw [ess, sSeq, n7 x]
  simp only
  rw [ess, sSeq, n8 x]
  simp only
  rw [ess, sSeq, n9 x]
  simp only
  rw [ess, sSeq, n10 x]
  simp only
  rw [ess, sSeq]
  have hr : es tab53 k12s11 rl10 ⟨x, [(1, []), (3, [])]⟩ = .ret (.bl true) ⟨x, tbE⟩ := by
    have ea : evs tab53 (.cons (.var 6) .nil) rl10 ⟨x, [(1, []), (3, [])]⟩ = .ok [.tup [.tup [.int 1, .int 1], .lst [.int 1]]] ⟨x, tb9⟩ := by kernel_rfl
    have ef : (tab53.fns.getD 52 noF).2.2 = f52 := rfl
    have e : ev tab53 (.call 52 (.cons (.var 6) .nil)) rl10 ⟨x, [(1, []), (3, [])]⟩ = .ok (.bl true) ⟨x, tbE⟩ := by
      rw [ev, ef, mCall, ea]
      rw [bnd_ok, foundE x]
    rw [k12s11, es, sRet, e]
    rfl
  rw [hr]

theorem core {w : World} {K : PySem.W.Frag} {h : Heap} {mg : Str → Option Value} {fa : Addr} {l : PySem.W.OpenLaw} (X : K.In h) (G : h.Ns mainGlobals mg) (hfa : mg "law" = some (.ref fa))
    {a_is_int : Addr} (d_is_int : DefIn K "is_int" (top 9) a_is_int)
    {a_common : Addr} (d_common : DefIn K "common" (top 10) a_common)
    {a_is_amount : Addr} (d_is_amount : DefIn K "is_amount" (top 11) a_is_amount)
    {a_is_rule : Addr} (d_is_rule : DefIn K "is_rule" (top 12) a_is_rule)
    {a_is_amounts : Addr} (d_is_amounts : DefIn K "is_amounts" (top 13) a_is_amounts)
    {a_is_trials : Addr} (d_is_trials : DefIn K "is_trials" (top 14) a_is_trials)
    {a_check_rule : Addr} (d_check_rule : DefIn K "check_rule" (top 15) a_check_rule)
    {a_check_trials : Addr} (d_check_trials : DefIn K "check_trials" (top 16) a_check_trials)
    {a_check_amounts : Addr} (d_check_amounts : DefIn K "check_amounts" (top 17) a_check_amounts)
    {a_check_amount : Addr} (d_check_amount : DefIn K "check_amount" (top 18) a_check_amount)
    {a_check_quantity : Addr} (d_check_quantity : DefIn K "check_quantity" (top 19) a_check_quantity)
    {a_lowest : Addr} (d_lowest : DefIn K "lowest" (top 21) a_lowest)
    {a_product : Addr} (d_product : DefIn K "product" (top 22) a_product)
    {a_quotient : Addr} (d_quotient : DefIn K "quotient" (top 23) a_quotient)
    {a_power : Addr} (d_power : DefIn K "power" (top 24) a_power)
    {a_less : Addr} (d_less : DefIn K "less" (top 25) a_less)
    {a_root_of : Addr} (d_root_of : DefIn K "root_of" (top 26) a_root_of)
    {a_products_of : Addr} (d_products_of : DefIn K "products_of" (top 28) a_products_of)
    {a_rate_of : Addr} (d_rate_of : DefIn K "rate_of" (top 29) a_rate_of)
    {a_growth : Addr} (d_growth : DefIn K "growth" (top 30) a_growth)
    {a_amount_for : Addr} (d_amount_for : DefIn K "amount_for" (top 32) a_amount_for)
    {a_order_of_rates : Addr} (d_order_of_rates : DefIn K "order_of_rates" (top 33) a_order_of_rates)
    {a_crossing : Addr} (d_crossing : DefIn K "crossing" (top 34) a_crossing)
    {a_all_powers : Addr} (d_all_powers : DefIn K "all_powers" (top 36) a_all_powers)
    {a_table_of : Addr} (d_table_of : DefIn K "table_of" (top 37) a_table_of)
    {a_agrees : Addr} (d_agrees : DefIn K "agrees" (top 38) a_agrees)
    {a_fitting_of : Addr} (d_fitting_of : DefIn K "fitting_of" (top 39) a_fitting_of)
    {a_only_rule : Addr} (d_only_rule : DefIn K "only_rule" (top 40) a_only_rule)
    {a_parts_of : Addr} (d_parts_of : DefIn K "parts_of" (top 41) a_parts_of)
    {a_smallest_bar : Addr} (d_smallest_bar : DefIn K "smallest_bar" (top 42) a_smallest_bar)
    {a_differing : Addr} (d_differing : DefIn K "differing" (top 44) a_differing)
    {a_single_pairs : Addr} (d_single_pairs : DefIn K "single_pairs" (top 45) a_single_pairs)
    {a_power_of_pair : Addr} (d_power_of_pair : DefIn K "power_of_pair" (top 46) a_power_of_pair)
    {a_told_powers : Addr} (d_told_powers : DefIn K "told_powers" (top 47) a_told_powers)
    {a_agreed_power : Addr} (d_agreed_power : DefIn K "agreed_power" (top 48) a_agreed_power)
    {a_rates_for : Addr} (d_rates_for : DefIn K "rates_for" (top 50) a_rates_for)
    {a_counts_of : Addr} (d_counts_of : DefIn K "counts_of" (top 51) a_counts_of)
    {a_tells_all : Addr} (d_tells_all : DefIn K "tells_all" (top 52) a_tells_all)
    {a_tells_nothing : Addr} (d_tells_nothing : DefIn K "tells_nothing" (top 53) a_tells_nothing)
    {a_worst_left : Addr} (d_worst_left : DefIn K "worst_left" (top 54) a_worst_left)
    {a_best_amounts : Addr} (d_best_amounts : DefIn K "best_amounts" (top 55) a_best_amounts)
    {a_same_rates : Addr} (d_same_rates : DefIn K "same_rates" (top 56) a_same_rates)
    {a_checked : Addr} (d_checked : DefIn K "checked" (top 58) a_checked)
    {a_in_units : Addr} (d_in_units : DefIn K "in_units" (top 59) a_in_units)
    {a_scaled : Addr} (d_scaled : DefIn K "scaled" (top 60) a_scaled)
    {a_multiplied : Addr} (d_multiplied : DefIn K "multiplied" (top 61) a_multiplied)
    {a_with_fixed : Addr} (d_with_fixed : DefIn K "with_fixed" (top 62) a_with_fixed)
    {a__law_start : Addr} (d__law_start : DefIn K "_law_start" (top 66) a__law_start)
    {a__law_error : Addr} (d__law_error : DefIn K "_law_error" (top 67) a__law_error)
    {a__law_call : Addr} (d__law_call : DefIn K "_law_call" (top 68) a__law_call)
    {a__law_none : Addr} (d__law_none : DefIn K "_law_none" (top 69) a__law_none)
    {a__law_asked : Addr} (d__law_asked : DefIn K "_law_asked" (top 70) a__law_asked)
    {a__law_table : Addr} (d__law_table : DefIn K "_law_table" (top 71) a__law_table)
    {a__law_found : Addr} (d__law_found : DefIn K "_law_found" (top 72) a__law_found)
    {a_law : Addr} (d_law : DefIn K "law" (top 73) a_law)
    {c_BadRule : Addr} (x_BadRule : ExIn K "BadRule" c_BadRule)
    {c_BadTrials : Addr} (x_BadTrials : ExIn K "BadTrials" c_BadTrials)
    {c_BadAmounts : Addr} (x_BadAmounts : ExIn K "BadAmounts" c_BadAmounts)
    {c_BadNumber : Addr} (x_BadNumber : ExIn K "BadNumber" c_BadNumber)
    {c_BadText : Addr} (x_BadText : ExIn K "BadText" c_BadText)
    {c_NotFound : Addr} (x_NotFound : ExIn K "NotFound" c_NotFound)
    {c_Table : Addr} (y_ns : PySem.W.nsIn K mainGlobals "Table" = some (some (.ref c_Table))) (y_pg : PySem.W.plainGet K c_Table Str.empty = true) (y_hd : PySem.W.hasDictIn K c_Table = true) (y_po : PySem.W.plainOver K c_Table = true) (y_sa : PySem.W.findIn K (.ref c_Table) "__setattr__" = some (some (.builtin "object.__setattr__")))
    (y_nS : PySem.W.findIn K (.ref c_Table) "size" = some none) (y_nL : PySem.W.findIn K (.ref c_Table) "line" = some none) (y_mk : PySem.W.makesIn K c_Table = true) (y_kc : PySem.W.keepIn K (.ref c_Table) = true)
    {a_m__init__ : Addr} (m___init__ : MtIn K c_Table "__init__" "Table.__init__" (mt 0) a_m__init__)
    {a_madd : Addr} (m_add : MtIn K c_Table "add" "Table.add" (mt 1) a_madd)
    {a_mrules : Addr} (m_rules : MtIn K c_Table "rules" "Table.rules" (mt 2) a_mrules)
    {a_mtrials : Addr} (m_trials : MtIn K c_Table "trials" "Table.trials" (mt 3) a_mtrials)
    {a_mundo : Addr} (m_undo : MtIn K c_Table "undo" "Table.undo" (mt 4) a_mundo)
    {a_m__len__ : Addr} (m___len__ : MtIn K c_Table "__len__" "Table.__len__" (mt 5) a_m__len__)
    {c_RateError : Addr} (x_RateError : PySem.W.nsIn K mainGlobals "RateError" = some (some (.ref c_RateError))) (x_ValueError : PySem.W.nsIn K mainGlobals "ValueError" = some none)
    (ec0 : ExcC K c_BadRule) (em0 : PySem.W.exmOne K (.ref c_BadRule) (.ref c_RateError) = some true) (kr0 : PySem.W.kitOne K (.ref c_BadRule) (.ref c_RateError) = some true) (kv0 : PySem.W.kitOne K (.ref c_BadRule) (.type "ValueError") = some true)
    (kx0_0 : PySem.W.kitOne K (.ref c_BadRule) (.ref c_BadRule) = some true)
    (kx0_1 : PySem.W.kitOne K (.ref c_BadRule) (.ref c_BadTrials) = some false)
    (kx0_2 : PySem.W.kitOne K (.ref c_BadRule) (.ref c_BadAmounts) = some false)
    (kx0_3 : PySem.W.kitOne K (.ref c_BadRule) (.ref c_BadNumber) = some false)
    (kx0_4 : PySem.W.kitOne K (.ref c_BadRule) (.ref c_BadText) = some false)
    (kx0_5 : PySem.W.kitOne K (.ref c_BadRule) (.ref c_NotFound) = some false)
    (ec1 : ExcC K c_BadTrials) (em1 : PySem.W.exmOne K (.ref c_BadTrials) (.ref c_RateError) = some true) (kr1 : PySem.W.kitOne K (.ref c_BadTrials) (.ref c_RateError) = some true) (kv1 : PySem.W.kitOne K (.ref c_BadTrials) (.type "ValueError") = some true)
    (kx1_0 : PySem.W.kitOne K (.ref c_BadTrials) (.ref c_BadRule) = some false)
    (kx1_1 : PySem.W.kitOne K (.ref c_BadTrials) (.ref c_BadTrials) = some true)
    (kx1_2 : PySem.W.kitOne K (.ref c_BadTrials) (.ref c_BadAmounts) = some false)
    (kx1_3 : PySem.W.kitOne K (.ref c_BadTrials) (.ref c_BadNumber) = some false)
    (kx1_4 : PySem.W.kitOne K (.ref c_BadTrials) (.ref c_BadText) = some false)
    (kx1_5 : PySem.W.kitOne K (.ref c_BadTrials) (.ref c_NotFound) = some false)
    (ec2 : ExcC K c_BadAmounts) (em2 : PySem.W.exmOne K (.ref c_BadAmounts) (.ref c_RateError) = some true) (kr2 : PySem.W.kitOne K (.ref c_BadAmounts) (.ref c_RateError) = some true) (kv2 : PySem.W.kitOne K (.ref c_BadAmounts) (.type "ValueError") = some true)
    (kx2_0 : PySem.W.kitOne K (.ref c_BadAmounts) (.ref c_BadRule) = some false)
    (kx2_1 : PySem.W.kitOne K (.ref c_BadAmounts) (.ref c_BadTrials) = some false)
    (kx2_2 : PySem.W.kitOne K (.ref c_BadAmounts) (.ref c_BadAmounts) = some true)
    (kx2_3 : PySem.W.kitOne K (.ref c_BadAmounts) (.ref c_BadNumber) = some false)
    (kx2_4 : PySem.W.kitOne K (.ref c_BadAmounts) (.ref c_BadText) = some false)
    (kx2_5 : PySem.W.kitOne K (.ref c_BadAmounts) (.ref c_NotFound) = some false)
    (ec3 : ExcC K c_BadNumber) (em3 : PySem.W.exmOne K (.ref c_BadNumber) (.ref c_RateError) = some true) (kr3 : PySem.W.kitOne K (.ref c_BadNumber) (.ref c_RateError) = some true) (kv3 : PySem.W.kitOne K (.ref c_BadNumber) (.type "ValueError") = some true)
    (kx3_0 : PySem.W.kitOne K (.ref c_BadNumber) (.ref c_BadRule) = some false)
    (kx3_1 : PySem.W.kitOne K (.ref c_BadNumber) (.ref c_BadTrials) = some false)
    (kx3_2 : PySem.W.kitOne K (.ref c_BadNumber) (.ref c_BadAmounts) = some false)
    (kx3_3 : PySem.W.kitOne K (.ref c_BadNumber) (.ref c_BadNumber) = some true)
    (kx3_4 : PySem.W.kitOne K (.ref c_BadNumber) (.ref c_BadText) = some false)
    (kx3_5 : PySem.W.kitOne K (.ref c_BadNumber) (.ref c_NotFound) = some false)
    (ec4 : ExcC K c_BadText) (em4 : PySem.W.exmOne K (.ref c_BadText) (.ref c_RateError) = some true) (kr4 : PySem.W.kitOne K (.ref c_BadText) (.ref c_RateError) = some true) (kv4 : PySem.W.kitOne K (.ref c_BadText) (.type "ValueError") = some true)
    (kx4_0 : PySem.W.kitOne K (.ref c_BadText) (.ref c_BadRule) = some false)
    (kx4_1 : PySem.W.kitOne K (.ref c_BadText) (.ref c_BadTrials) = some false)
    (kx4_2 : PySem.W.kitOne K (.ref c_BadText) (.ref c_BadAmounts) = some false)
    (kx4_3 : PySem.W.kitOne K (.ref c_BadText) (.ref c_BadNumber) = some false)
    (kx4_4 : PySem.W.kitOne K (.ref c_BadText) (.ref c_BadText) = some true)
    (kx4_5 : PySem.W.kitOne K (.ref c_BadText) (.ref c_NotFound) = some false)
    (ec5 : ExcC K c_NotFound) (em5 : PySem.W.exmOne K (.ref c_NotFound) (.ref c_RateError) = some true) (kr5 : PySem.W.kitOne K (.ref c_NotFound) (.ref c_RateError) = some true) (kv5 : PySem.W.kitOne K (.ref c_NotFound) (.type "ValueError") = some true)
    (kx5_0 : PySem.W.kitOne K (.ref c_NotFound) (.ref c_BadRule) = some false)
    (kx5_1 : PySem.W.kitOne K (.ref c_NotFound) (.ref c_BadTrials) = some false)
    (kx5_2 : PySem.W.kitOne K (.ref c_NotFound) (.ref c_BadAmounts) = some false)
    (kx5_3 : PySem.W.kitOne K (.ref c_NotFound) (.ref c_BadNumber) = some false)
    (kx5_4 : PySem.W.kitOne K (.ref c_NotFound) (.ref c_BadText) = some false)
    (kx5_5 : PySem.W.kitOne K (.ref c_NotFound) (.ref c_NotFound) = some true)
    {t : Tok} (mp : PySem.W.nsIn K mainGlobals "MOST_POWER" = some (some (.int 3 t)))
    (z_range : PySem.W.nsIn K mainGlobals "range" = some none)
    (z_list : PySem.W.nsIn K mainGlobals "list" = some none)
    (z_enumerate : PySem.W.nsIn K mainGlobals "enumerate" = some none)
    (z_zip : PySem.W.nsIn K mainGlobals "zip" = some none)
    (z_isinstance : PySem.W.nsIn K mainGlobals "isinstance" = some none)
    (z_int : PySem.W.nsIn K mainGlobals "int" = some none)
    (z_bool : PySem.W.nsIn K mainGlobals "bool" = some none)
    (z_str : PySem.W.nsIn K mainGlobals "str" = some none)
    (z_tuple : PySem.W.nsIn K mainGlobals "tuple" = some none)
    (z_len : PySem.W.nsIn K mainGlobals "len" = some none)
    (z_abs : PySem.W.nsIn K mainGlobals "abs" = some none)
    (z_all : PySem.W.nsIn K mainGlobals "all" = some none)
    (z_sum : PySem.W.nsIn K mainGlobals "sum" = some none)
    (z_max : PySem.W.nsIn K mainGlobals "max" = some none)
    (z_min : PySem.W.nsIn K mainGlobals "min" = some none)
    (z_sorted : PySem.W.nsIn K mainGlobals "sorted" = some none)
    (z_set : PySem.W.nsIn K mainGlobals "set" = some none)
    : ∃ fd : FuncData, (∀ (s : Shared) (u : Value), BindsTo s fd ⟨[u], []⟩ [("script", u)]) ∧ ∀ base : Heap, K.In base → base.Ns mainGlobals mg → FnOk l.prog w K mg base (L2.CX l.prog w) 57 fa fd ["script"] (spLaw K) := by
  have fr : Free mg := ⟨PySem.W.mg_none_of X G z_range, PySem.W.mg_none_of X G z_list, PySem.W.mg_none_of X G z_enumerate, PySem.W.mg_none_of X G z_zip, PySem.W.mg_none_of X G z_isinstance, PySem.W.mg_none_of X G z_int, PySem.W.mg_none_of X G z_bool, PySem.W.mg_none_of X G z_str, PySem.W.mg_none_of X G z_tuple, PySem.W.mg_none_of X G z_len, PySem.W.mg_none_of X G z_abs, PySem.W.mg_none_of X G z_all, PySem.W.mg_none_of X G z_sum, PySem.W.mg_none_of X G z_max, PySem.W.mg_none_of X G z_min, PySem.W.mg_none_of X G z_sorted, PySem.W.mg_none_of X G z_set⟩
  let c : Cn := ⟨fun i => [c_BadRule, c_BadTrials, c_BadAmounts, c_BadNumber, c_BadText, c_NotFound].getD i 0, c_Table⟩
  obtain ⟨hml, fdl, Fl, hBl⟩ := d_law.get X G (ps := ["script"]) (fun _ _ _ _ _ _ us hl => match us, hl with | [_], _ => rfl)
  obtain ⟨hms, fds, Fs, hBs⟩ := d__law_start.get X G (ps := ["script"]) (fun _ _ _ _ _ _ us hl => match us, hl with | [_], _ => rfl)
  rw [hfa] at hml
  cases hml
  refine ⟨fdl, fun s u => .of_eq (hBl [u] rfl), fun base _ _ => ?_⟩
  have t0 : TOk c l.prog w K mg base 0 tab0 := tok_exs fr X G (cs_one X G mp) (fun i x e => by
    match i, e with
    | 0, e => cases e; exact .inr x_BadRule
    | 1, e => cases e; exact .inr x_BadTrials
    | 2, e => cases e; exact .inr x_BadAmounts
    | 3, e => cases e; exact .inr x_BadNumber
    | 4, e => cases e; exact .inr x_BadText
    | 5, e => cases e; exact .inr x_NotFound
    | n + 6, e => simp at e)
    (fun i p e => by
    match i, e with
    | 0, e =>
      cases e
      refine ⟨.ref c_RateError, PySem.W.mg_of X G x_RateError, fun j hj => ?_⟩
      match j, hj with
      | 0, _ => exact em0
      | 1, _ => exact em1
      | 2, _ => exact em2
      | 3, _ => exact em3
      | 4, _ => exact em4
      | 5, _ => exact em5
      | n + 6, hj => simp at hj
    | n + 1, e => simp [trsTab] at e)
    (fun i p e => by
    match i, e with
    | 0, e =>
      cases e
      refine ⟨.ref c_BadRule, .ref c_BadRule, ⟨rfl, fun u h => h, .inl (PySem.W.mg_of X G x_BadRule.a)⟩, fun j b hj => ?_⟩
      match j, hj with
      | 0, hj => cases hj; exact ⟨ec0, kx0_0⟩
      | 1, hj => cases hj; exact ⟨ec1, kx1_0⟩
      | 2, hj => cases hj; exact ⟨ec2, kx2_0⟩
      | 3, hj => cases hj; exact ⟨ec3, kx3_0⟩
      | 4, hj => cases hj; exact ⟨ec4, kx4_0⟩
      | 5, hj => cases hj; exact ⟨ec5, kx5_0⟩
      | n + 6, hj => exact (clsF_ge (i := 0) (n := n) hj).elim
    | 1, e =>
      cases e
      refine ⟨.ref c_BadTrials, .ref c_BadTrials, ⟨rfl, fun u h => h, .inl (PySem.W.mg_of X G x_BadTrials.a)⟩, fun j b hj => ?_⟩
      match j, hj with
      | 0, hj => cases hj; exact ⟨ec0, kx0_1⟩
      | 1, hj => cases hj; exact ⟨ec1, kx1_1⟩
      | 2, hj => cases hj; exact ⟨ec2, kx2_1⟩
      | 3, hj => cases hj; exact ⟨ec3, kx3_1⟩
      | 4, hj => cases hj; exact ⟨ec4, kx4_1⟩
      | 5, hj => cases hj; exact ⟨ec5, kx5_1⟩
      | n + 6, hj => exact (clsF_ge (i := 1) (n := n) hj).elim
    | 2, e =>
      cases e
      refine ⟨.ref c_BadAmounts, .ref c_BadAmounts, ⟨rfl, fun u h => h, .inl (PySem.W.mg_of X G x_BadAmounts.a)⟩, fun j b hj => ?_⟩
      match j, hj with
      | 0, hj => cases hj; exact ⟨ec0, kx0_2⟩
      | 1, hj => cases hj; exact ⟨ec1, kx1_2⟩
      | 2, hj => cases hj; exact ⟨ec2, kx2_2⟩
      | 3, hj => cases hj; exact ⟨ec3, kx3_2⟩
      | 4, hj => cases hj; exact ⟨ec4, kx4_2⟩
      | 5, hj => cases hj; exact ⟨ec5, kx5_2⟩
      | n + 6, hj => exact (clsF_ge (i := 2) (n := n) hj).elim
    | 3, e =>
      cases e
      refine ⟨.ref c_BadNumber, .ref c_BadNumber, ⟨rfl, fun u h => h, .inl (PySem.W.mg_of X G x_BadNumber.a)⟩, fun j b hj => ?_⟩
      match j, hj with
      | 0, hj => cases hj; exact ⟨ec0, kx0_3⟩
      | 1, hj => cases hj; exact ⟨ec1, kx1_3⟩
      | 2, hj => cases hj; exact ⟨ec2, kx2_3⟩
      | 3, hj => cases hj; exact ⟨ec3, kx3_3⟩
      | 4, hj => cases hj; exact ⟨ec4, kx4_3⟩
      | 5, hj => cases hj; exact ⟨ec5, kx5_3⟩
      | n + 6, hj => exact (clsF_ge (i := 3) (n := n) hj).elim
    | 4, e =>
      cases e
      refine ⟨.ref c_BadText, .ref c_BadText, ⟨rfl, fun u h => h, .inl (PySem.W.mg_of X G x_BadText.a)⟩, fun j b hj => ?_⟩
      match j, hj with
      | 0, hj => cases hj; exact ⟨ec0, kx0_4⟩
      | 1, hj => cases hj; exact ⟨ec1, kx1_4⟩
      | 2, hj => cases hj; exact ⟨ec2, kx2_4⟩
      | 3, hj => cases hj; exact ⟨ec3, kx3_4⟩
      | 4, hj => cases hj; exact ⟨ec4, kx4_4⟩
      | 5, hj => cases hj; exact ⟨ec5, kx5_4⟩
      | n + 6, hj => exact (clsF_ge (i := 4) (n := n) hj).elim
    | 5, e =>
      cases e
      refine ⟨.ref c_NotFound, .ref c_NotFound, ⟨rfl, fun u h => h, .inl (PySem.W.mg_of X G x_NotFound.a)⟩, fun j b hj => ?_⟩
      match j, hj with
      | 0, hj => cases hj; exact ⟨ec0, kx0_5⟩
      | 1, hj => cases hj; exact ⟨ec1, kx1_5⟩
      | 2, hj => cases hj; exact ⟨ec2, kx2_5⟩
      | 3, hj => cases hj; exact ⟨ec3, kx3_5⟩
      | 4, hj => cases hj; exact ⟨ec4, kx4_5⟩
      | 5, hj => cases hj; exact ⟨ec5, kx5_5⟩
      | n + 6, hj => exact (clsF_ge (i := 5) (n := n) hj).elim
    | 6, e =>
      cases e
      refine ⟨.ref c_RateError, .ref c_RateError, ⟨rfl, fun u h => h, .inl (PySem.W.mg_of X G x_RateError)⟩, fun j b hj => ?_⟩
      match j, hj with
      | 0, hj => cases hj; exact ⟨ec0, kr0⟩
      | 1, hj => cases hj; exact ⟨ec1, kr1⟩
      | 2, hj => cases hj; exact ⟨ec2, kr2⟩
      | 3, hj => cases hj; exact ⟨ec3, kr3⟩
      | 4, hj => cases hj; exact ⟨ec4, kr4⟩
      | 5, hj => cases hj; exact ⟨ec5, kr5⟩
      | n + 6, hj => exact (clsT_ge (n := n) hj).elim
    | 7, e =>
      cases e
      refine ⟨.ty "ValueError", .type "ValueError", ⟨rfl, fun u h => h, .inr ⟨PySem.W.mg_none_of X G x_ValueError, by decide +kernel, by decide⟩⟩, fun j b hj => ?_⟩
      match j, hj with
      | 0, hj => cases hj; exact ⟨ec0, kv0⟩
      | 1, hj => cases hj; exact ⟨ec1, kv1⟩
      | 2, hj => cases hj; exact ⟨ec2, kv2⟩
      | 3, hj => cases hj; exact ⟨ec3, kv3⟩
      | 4, hj => cases hj; exact ⟨ec4, kv4⟩
      | 5, hj => cases hj; exact ⟨ec5, kv5⟩
      | n + 6, hj => exact (clsT_ge (n := n) hj).elim
    | n + 8, e => simp [clsTab] at e)
    (hk0_ok fr)
  have t1 : TOk c l.prog w K mg base 1 tab1 := tok_def t0 d_is_int X G (fun _ _ _ _ _ _ us hl => match us, hl with | [_, _, _], _ => rfl) sc0 q0
  have t2 : TOk c l.prog w K mg base 2 tab2 := tok_def t1 d_common X G (fun _ _ _ _ _ _ us hl => match us, hl with | [_, _], _ => rfl) sc1 q1
  have t3 : TOk c l.prog w K mg base 3 tab3 := tok_def t2 d_is_amount X G (fun _ _ _ _ _ _ us hl => match us, hl with | [_], _ => rfl) sc2 q2
  have t4 : TOk c l.prog w K mg base 4 tab4 := tok_def t3 d_is_rule X G (fun _ _ _ _ _ _ us hl => match us, hl with | [_], _ => rfl) sc3 q3
  have t5 : TOk c l.prog w K mg base 5 tab5 := tok_def t4 d_is_amounts X G (fun _ _ _ _ _ _ us hl => match us, hl with | [_, _], _ => rfl) sc4 q4
  have t6 : TOk c l.prog w K mg base 6 tab6 := tok_def t5 d_is_trials X G (fun _ _ _ _ _ _ us hl => match us, hl with | [_], _ => rfl) sc5 q5
  have t7 : TOk c l.prog w K mg base 7 tab7 := tok_def t6 d_check_rule X G (fun _ _ _ _ _ _ us hl => match us, hl with | [_], _ => rfl) sc6 q6
  have t8 : TOk c l.prog w K mg base 8 tab8 := tok_def t7 d_check_trials X G (fun _ _ _ _ _ _ us hl => match us, hl with | [_], _ => rfl) sc7 q7
  have t9 : TOk c l.prog w K mg base 9 tab9 := tok_def t8 d_check_amounts X G (fun _ _ _ _ _ _ us hl => match us, hl with | [_, _], _ => rfl) sc8 q8
  have t10 : TOk c l.prog w K mg base 10 tab10 := tok_def t9 d_check_amount X G (fun _ _ _ _ _ _ us hl => match us, hl with | [_], _ => rfl) sc9 q9
  have t11 : TOk c l.prog w K mg base 11 tab11 := tok_def t10 d_check_quantity X G (fun _ _ _ _ _ _ us hl => match us, hl with | [_, _], _ => rfl) sc10 q10
  have t12 : TOk c l.prog w K mg base 12 tab12 := tok_def t11 d_lowest X G (fun _ _ _ _ _ _ us hl => match us, hl with | [_, _], _ => rfl) sc11 q11
  have t13 : TOk c l.prog w K mg base 13 tab13 := tok_def t12 d_product X G (fun _ _ _ _ _ _ us hl => match us, hl with | [_, _], _ => rfl) sc12 q12
  have t14 : TOk c l.prog w K mg base 14 tab14 := tok_def t13 d_quotient X G (fun _ _ _ _ _ _ us hl => match us, hl with | [_, _], _ => rfl) sc13 q13
  have t15 : TOk c l.prog w K mg base 15 tab15 := tok_def t14 d_power X G (fun _ _ _ _ _ _ us hl => match us, hl with | [_, _], _ => rfl) sc14 q14
  have t16 : TOk c l.prog w K mg base 16 tab16 := tok_def t15 d_less X G (fun _ _ _ _ _ _ us hl => match us, hl with | [_, _], _ => rfl) sc15 q15
  have t17 : TOk c l.prog w K mg base 17 tab17 := tok_def t16 d_root_of X G (fun _ _ _ _ _ _ us hl => match us, hl with | [_, _], _ => rfl) sc16 q16
  have t18 : TOk c l.prog w K mg base 18 tab18 := tok_def t17 d_products_of X G (fun _ _ _ _ _ _ us hl => match us, hl with | [_, _], _ => rfl) sc17 q17
  have t19 : TOk c l.prog w K mg base 19 tab19 := tok_def t18 d_rate_of X G (fun _ _ _ _ _ _ us hl => match us, hl with | [_, _], _ => rfl) sc18 q18
  have t20 : TOk c l.prog w K mg base 20 tab20 := tok_def t19 d_growth X G (fun _ _ _ _ _ _ us hl => match us, hl with | [_, _, _], _ => rfl) sc19 q19
  have t21 : TOk c l.prog w K mg base 21 tab21 := tok_def t20 d_amount_for X G (fun _ _ _ _ _ _ us hl => match us, hl with | [_, _, _, _], _ => rfl) sc20 q20
  have t22 : TOk c l.prog w K mg base 22 tab22 := tok_def t21 d_order_of_rates X G (fun _ _ _ _ _ _ us hl => match us, hl with | [_, _], _ => rfl) sc21 q21
  have t23 : TOk c l.prog w K mg base 23 tab23 := tok_def t22 d_crossing X G (fun _ _ _ _ _ _ us hl => match us, hl with | [_, _, _, _], _ => rfl) sc22 q22
  have t24 : TOk c l.prog w K mg base 24 tab24 := tok_def t23 d_all_powers X G (fun _ _ _ _ _ _ us hl => match us, hl with | [_], _ => rfl) sc23 q23
  have t25 : TOk c l.prog w K mg base 25 tab25 := tok_def t24 d_table_of X G (fun _ _ _ _ _ _ us hl => match us, hl with | [_], _ => rfl) sc24 q24
  have t26 : TOk c l.prog w K mg base 26 tab26 := tok_def t25 d_agrees X G (fun _ _ _ _ _ _ us hl => match us, hl with | [_, _], _ => rfl) sc25 q25
  have t27 : TOk c l.prog w K mg base 27 tab27 := tok_def t26 d_fitting_of X G (fun _ _ _ _ _ _ us hl => match us, hl with | [_], _ => rfl) sc26 q26
  have t28 : TOk c l.prog w K mg base 28 tab28 := tok_def t27 d_only_rule X G (fun _ _ _ _ _ _ us hl => match us, hl with | [_], _ => rfl) sc27 q27
  have t29 : TOk c l.prog w K mg base 29 tab29 := tok_def t28 d_parts_of X G (fun _ _ _ _ _ _ us hl => match us, hl with | [_], _ => rfl) sc28 q28
  have t30 : TOk c l.prog w K mg base 30 tab30 := tok_def t29 d_smallest_bar X G (fun _ _ _ _ _ _ us hl => match us, hl with | [_], _ => rfl) sc29 q29
  have t31 : TOk c l.prog w K mg base 31 tab31 := tok_def t30 d_differing X G (fun _ _ _ _ _ _ us hl => match us, hl with | [_, _], _ => rfl) sc30 q30
  have t32 : TOk c l.prog w K mg base 32 tab32 := tok_def t31 d_single_pairs X G (fun _ _ _ _ _ _ us hl => match us, hl with | [_, _], _ => rfl) sc31 q31
  have t33 : TOk c l.prog w K mg base 33 tab33 := tok_def t32 d_power_of_pair X G (fun _ _ _ _ _ _ us hl => match us, hl with | [_, _, _], _ => rfl) sc32 q32
  have t34 : TOk c l.prog w K mg base 34 tab34 := tok_def t33 d_told_powers X G (fun _ _ _ _ _ _ us hl => match us, hl with | [_, _], _ => rfl) sc33 q33
  have t35 : TOk c l.prog w K mg base 35 tab35 := tok_def t34 d_agreed_power X G (fun _ _ _ _ _ _ us hl => match us, hl with | [_, _], _ => rfl) sc34 q34
  have t36 : TOk c l.prog w K mg base 36 tab36 := tok_def t35 d_counts_of X G (fun _ _ _ _ _ _ us hl => match us, hl with | [_, _], _ => rfl) sc35 q35
  have t37 : TOk c l.prog w K mg base 37 tab37 := tok_def t36 d_rates_for X G (fun _ _ _ _ _ _ us hl => match us, hl with | [_, _], _ => rfl) sc36 q36
  have t38 : TOk c l.prog w K mg base 38 tab38 := tok_def t37 d_tells_all X G (fun _ _ _ _ _ _ us hl => match us, hl with | [_, _], _ => rfl) sc37 q37
  have t39 : TOk c l.prog w K mg base 39 tab39 := tok_def t38 d_tells_nothing X G (fun _ _ _ _ _ _ us hl => match us, hl with | [_, _], _ => rfl) sc38 q38
  have t40 : TOk c l.prog w K mg base 40 tab40 := tok_def t39 d_worst_left X G (fun _ _ _ _ _ _ us hl => match us, hl with | [_, _], _ => rfl) sc39 q39
  have t41 : TOk c l.prog w K mg base 41 tab41 := tok_def t40 d_best_amounts X G (fun _ _ _ _ _ _ us hl => match us, hl with | [_, _], _ => rfl) sc40 q40
  have t42 : TOk c l.prog w K mg base 42 tab42 := tok_def t41 d_same_rates X G (fun _ _ _ _ _ _ us hl => match us, hl with | [_, _, _], _ => rfl) sc41 q41
  have t43 : TOk c l.prog w K mg base 43 tab43 := tok_def t42 d_checked X G (fun _ _ _ _ _ _ us hl => match us, hl with | [_], _ => rfl) sc42 q42
  have t44 : TOk c l.prog w K mg base 44 tab44 := tok_def t43 d_in_units X G (fun _ _ _ _ _ _ us hl => match us, hl with | [_, _, _], _ => rfl) sc43 q43
  have t45 : TOk c l.prog w K mg base 45 tab45 := tok_def t44 d_scaled X G (fun _ _ _ _ _ _ us hl => match us, hl with | [_, _], _ => rfl) sc44 q44
  have t46 : TOk c l.prog w K mg base 46 tab46 := tok_def t45 d_multiplied X G (fun _ _ _ _ _ _ us hl => match us, hl with | [_, _], _ => rfl) sc45 q45
  have t47 : TOk c l.prog w K mg base 47 tab47 := tok_def t46 d_with_fixed X G (fun _ _ _ _ _ _ us hl => match us, hl with | [_, _, _], _ => rfl) sc46 q46
  have t48 : TOk c l.prog w K mg base 48 tab48 := tok_def t47 d__law_error X G (fun _ _ _ _ _ _ us hl => match us, hl with | [_], _ => rfl) sc47 q47
  have t49 : TOk c l.prog w K mg base 49 tab49 := tok_def t48 d__law_none X G (fun _ _ _ _ _ _ us hl => match us, hl with | [_, _, _, _, _, _], _ => rfl) sc48 q48
  have TC : TCl c K := ⟨⟨y_pg, y_hd, y_po, y_sa⟩, y_nS, y_nL⟩
  have tT : TOk c l.prog w K mg base 51 tabT := tok_tables t49 TC fr.len (PySem.W.mg_of X G y_ns) y_mk y_kc (ii := 0) (it := 5) (fo := 26) (φ := f26) rfl m___init__ m_add m_rules m_trials m_undo m___len__ (fun _ _ _ _ _ _ us hl => match us, hl with | [_, _], _ => rfl) (fun _ _ _ _ _ _ us hl => match us, hl with | [_, _], _ => rfl) (fun _ _ _ _ _ _ us hl => match us, hl with | [_], _ => rfl) (fun _ _ _ _ _ _ us hl => match us, hl with | [_], _ => rfl) (fun _ _ _ _ _ _ us hl => match us, hl with | [_], _ => rfl) (fun _ _ _ _ _ _ us hl => match us, hl with | [_], _ => rfl) scm___init__ scm_add scm_rules scm_trials scm_undo scm___len__ rfl (by decide +kernel) (by decide +kernel) rfl (by decide +kernel) (by decide +kernel) (by decide +kernel) qm_add qm_rules qm_trials qm_undo qm___len__
  have t50 : TOk c l.prog w K mg base 52 tab50 := tok_def tT d__law_call X G (fun _ _ _ _ _ _ us hl => match us, hl with | [_, _, _], _ => rfl) sc49 q49
  have t51 : TOk c l.prog w K mg base 53 tab51 := tok_def t50 d__law_asked X G (fun _ _ _ _ _ _ us hl => match us, hl with | [_, _, _], _ => rfl) sc50 q50
  have HF : HotF c l.prog w K mg base 53 "_law_error" f47 := hot_def t47 rfl d__law_error X G (fun _ _ _ _ _ _ us hl => match us, hl with | [_], _ => rfl) sc47 hot51 q47 (by omega)
  have t52 : TOk c l.prog w K mg base 54 tab52 := tok_c0 t51 d__law_table X G (fun _ _ _ _ _ _ us hl => match us, hl with | [], _ => rfl) (fun fd F => tab_ok t51 HF F sc51 q51) (n := 51) rfl
  have t53 : TOk c l.prog w K mg base 55 tab53 := tok_def t52 d__law_found X G (fun _ _ _ _ _ _ us hl => match us, hl with | [_], _ => rfl) sc52 q52
  exact law_entry t53 Fl sclaw ⟨_, _, _, _, _, rfl⟩ (by decide +kernel) (by decide +kernel) (by decide +kernel) qlaw (ok_start Fs fr.list) hms d__law_start.k (.all hBs) (fun ns _ => wins (some (scriptOf ns, 0)))
end RL
open PySem PySem.W PyProof.Rows in
set_option maxRecDepth 100000 in
set_option maxHeartbeats 0 in
theorem PySem.Challenge.cw_ratelaws_k12_more_errors_holds : PySem.Challenge.rw_ratelaws_k12_more_errors.Holds := by
  w_on
  o_law
  k_head
  (case hw => w_witness2)
  k_fill
  refine RL.walk (l := PySem.Challenge.rw_ratelaws_k12_more_errors) (k := 57) (by decide) rfl rfl (fun w h Y => PySem.W.kIn_of Y) ?F
  case F =>
    intro w mg fa h KX G hmg
    refine' RL.core KX G hmg (RL.DefIn.of ?a_is_int ?l_is_int ?c_is_int ?k_is_int) (RL.DefIn.of ?a_common ?l_common ?c_common ?k_common) (RL.DefIn.of ?a_is_amount ?l_is_amount ?c_is_amount ?k_is_amount) (RL.DefIn.of ?a_is_rule ?l_is_rule ?c_is_rule ?k_is_rule) (RL.DefIn.of ?a_is_amounts ?l_is_amounts ?c_is_amounts ?k_is_amounts) (RL.DefIn.of ?a_is_trials ?l_is_trials ?c_is_trials ?k_is_trials) (RL.DefIn.of ?a_check_rule ?l_check_rule ?c_check_rule ?k_check_rule) (RL.DefIn.of ?a_check_trials ?l_check_trials ?c_check_trials ?k_check_trials) (RL.DefIn.of ?a_check_amounts ?l_check_amounts ?c_check_amounts ?k_check_amounts) (RL.DefIn.of ?a_check_amount ?l_check_amount ?c_check_amount ?k_check_amount) (RL.DefIn.of ?a_check_quantity ?l_check_quantity ?c_check_quantity ?k_check_quantity) (RL.DefIn.of ?a_lowest ?l_lowest ?c_lowest ?k_lowest) (RL.DefIn.of ?a_product ?l_product ?c_product ?k_product) (RL.DefIn.of ?a_quotient ?l_quotient ?c_quotient ?k_quotient) (RL.DefIn.of ?a_power ?l_power ?c_power ?k_power) (RL.DefIn.of ?a_less ?l_less ?c_less ?k_less) (RL.DefIn.of ?a_root_of ?l_root_of ?c_root_of ?k_root_of) (RL.DefIn.of ?a_products_of ?l_products_of ?c_products_of ?k_products_of) (RL.DefIn.of ?a_rate_of ?l_rate_of ?c_rate_of ?k_rate_of) (RL.DefIn.of ?a_growth ?l_growth ?c_growth ?k_growth) (RL.DefIn.of ?a_amount_for ?l_amount_for ?c_amount_for ?k_amount_for) (RL.DefIn.of ?a_order_of_rates ?l_order_of_rates ?c_order_of_rates ?k_order_of_rates) (RL.DefIn.of ?a_crossing ?l_crossing ?c_crossing ?k_crossing) (RL.DefIn.of ?a_all_powers ?l_all_powers ?c_all_powers ?k_all_powers) (RL.DefIn.of ?a_table_of ?l_table_of ?c_table_of ?k_table_of) (RL.DefIn.of ?a_agrees ?l_agrees ?c_agrees ?k_agrees) (RL.DefIn.of ?a_fitting_of ?l_fitting_of ?c_fitting_of ?k_fitting_of) (RL.DefIn.of ?a_only_rule ?l_only_rule ?c_only_rule ?k_only_rule) (RL.DefIn.of ?a_parts_of ?l_parts_of ?c_parts_of ?k_parts_of) (RL.DefIn.of ?a_smallest_bar ?l_smallest_bar ?c_smallest_bar ?k_smallest_bar) (RL.DefIn.of ?a_differing ?l_differing ?c_differing ?k_differing) (RL.DefIn.of ?a_single_pairs ?l_single_pairs ?c_single_pairs ?k_single_pairs) (RL.DefIn.of ?a_power_of_pair ?l_power_of_pair ?c_power_of_pair ?k_power_of_pair) (RL.DefIn.of ?a_told_powers ?l_told_powers ?c_told_powers ?k_told_powers) (RL.DefIn.of ?a_agreed_power ?l_agreed_power ?c_agreed_power ?k_agreed_power) (RL.DefIn.of ?a_rates_for ?l_rates_for ?c_rates_for ?k_rates_for) (RL.DefIn.of ?a_counts_of ?l_counts_of ?c_counts_of ?k_counts_of) (RL.DefIn.of ?a_tells_all ?l_tells_all ?c_tells_all ?k_tells_all) (RL.DefIn.of ?a_tells_nothing ?l_tells_nothing ?c_tells_nothing ?k_tells_nothing) (RL.DefIn.of ?a_worst_left ?l_worst_left ?c_worst_left ?k_worst_left) (RL.DefIn.of ?a_best_amounts ?l_best_amounts ?c_best_amounts ?k_best_amounts) (RL.DefIn.of ?a_same_rates ?l_same_rates ?c_same_rates ?k_same_rates) (RL.DefIn.of ?a_checked ?l_checked ?c_checked ?k_checked) (RL.DefIn.of ?a_in_units ?l_in_units ?c_in_units ?k_in_units) (RL.DefIn.of ?a_scaled ?l_scaled ?c_scaled ?k_scaled) (RL.DefIn.of ?a_multiplied ?l_multiplied ?c_multiplied ?k_multiplied) (RL.DefIn.of ?a_with_fixed ?l_with_fixed ?c_with_fixed ?k_with_fixed) (RL.DefIn.of ?a__law_start ?l__law_start ?c__law_start ?k__law_start) (RL.DefIn.of ?a__law_error ?l__law_error ?c__law_error ?k__law_error) (RL.DefIn.of ?a__law_call ?l__law_call ?c__law_call ?k__law_call) (RL.DefIn.of ?a__law_none ?l__law_none ?c__law_none ?k__law_none) (RL.DefIn.of ?a__law_asked ?l__law_asked ?c__law_asked ?k__law_asked) (RL.DefIn.of ?a__law_table ?l__law_table ?c__law_table ?k__law_table) (RL.DefIn.of ?a__law_found ?l__law_found ?c__law_found ?k__law_found) (RL.DefIn.of ?a_law ?l_law ?c_law ?k_law) ⟨?xa_BadRule, ?xe_BadRule, ?xk_BadRule, ?xb_BadRule, ?xt_BadRule⟩ ⟨?xa_BadTrials, ?xe_BadTrials, ?xk_BadTrials, ?xb_BadTrials, ?xt_BadTrials⟩ ⟨?xa_BadAmounts, ?xe_BadAmounts, ?xk_BadAmounts, ?xb_BadAmounts, ?xt_BadAmounts⟩ ⟨?xa_BadNumber, ?xe_BadNumber, ?xk_BadNumber, ?xb_BadNumber, ?xt_BadNumber⟩ ⟨?xa_BadText, ?xe_BadText, ?xk_BadText, ?xb_BadText, ?xt_BadText⟩ ⟨?xa_NotFound, ?xe_NotFound, ?xk_NotFound, ?xb_NotFound, ?xt_NotFound⟩ ?y_ns ?y_pg ?y_hd ?y_po ?y_sa ?y_nS ?y_nL ?y_mk ?y_kc (RL.MtIn.of ?ma___init__ ?mi___init__ ?ml___init__ ?mc___init__ ?mk___init__) (RL.MtIn.of ?ma_add ?mi_add ?ml_add ?mc_add ?mk_add) (RL.MtIn.of ?ma_rules ?mi_rules ?ml_rules ?mc_rules ?mk_rules) (RL.MtIn.of ?ma_trials ?mi_trials ?ml_trials ?mc_trials ?mk_trials) (RL.MtIn.of ?ma_undo ?mi_undo ?ml_undo ?mc_undo ?mk_undo) (RL.MtIn.of ?ma___len__ ?mi___len__ ?ml___len__ ?mc___len__ ?mk___len__) ?xq ?xv ⟨?ec0g, ?ec0k, ?ec0s, ?ec0d, ?ec0a, ?ec0n, ?ec0T, ?ec0m⟩ (RL.exm_ref ?sbR (RL.cls_some ?clR) ?tyR ?sr0) (RL.kit_ref (RL.cls_some ?clR) ?tyR ?sb0_0 ?sr0) (RL.kit_val ?sv0) (RL.kit_ref (RL.cls_some ?cl0) ?xt_BadRule ?sb0_0 ?sb0_0) (RL.kit_ref (RL.cls_some ?cl1) ?xt_BadTrials ?sb0_0 ?sb0_1) (RL.kit_ref (RL.cls_some ?cl2) ?xt_BadAmounts ?sb0_0 ?sb0_2) (RL.kit_ref (RL.cls_some ?cl3) ?xt_BadNumber ?sb0_0 ?sb0_3) (RL.kit_ref (RL.cls_some ?cl4) ?xt_BadText ?sb0_0 ?sb0_4) (RL.kit_ref (RL.cls_some ?cl5) ?xt_NotFound ?sb0_0 ?sb0_5) ⟨?ec1g, ?ec1k, ?ec1s, ?ec1d, ?ec1a, ?ec1n, ?ec1T, ?ec1m⟩ (RL.exm_ref ?sbR (RL.cls_some ?clR) ?tyR ?sr1) (RL.kit_ref (RL.cls_some ?clR) ?tyR ?sb1_1 ?sr1) (RL.kit_val ?sv1) (RL.kit_ref (RL.cls_some ?cl0) ?xt_BadRule ?sb1_1 ?sb1_0) (RL.kit_ref (RL.cls_some ?cl1) ?xt_BadTrials ?sb1_1 ?sb1_1) (RL.kit_ref (RL.cls_some ?cl2) ?xt_BadAmounts ?sb1_1 ?sb1_2) (RL.kit_ref (RL.cls_some ?cl3) ?xt_BadNumber ?sb1_1 ?sb1_3) (RL.kit_ref (RL.cls_some ?cl4) ?xt_BadText ?sb1_1 ?sb1_4) (RL.kit_ref (RL.cls_some ?cl5) ?xt_NotFound ?sb1_1 ?sb1_5) ⟨?ec2g, ?ec2k, ?ec2s, ?ec2d, ?ec2a, ?ec2n, ?ec2T, ?ec2m⟩ (RL.exm_ref ?sbR (RL.cls_some ?clR) ?tyR ?sr2) (RL.kit_ref (RL.cls_some ?clR) ?tyR ?sb2_2 ?sr2) (RL.kit_val ?sv2) (RL.kit_ref (RL.cls_some ?cl0) ?xt_BadRule ?sb2_2 ?sb2_0) (RL.kit_ref (RL.cls_some ?cl1) ?xt_BadTrials ?sb2_2 ?sb2_1) (RL.kit_ref (RL.cls_some ?cl2) ?xt_BadAmounts ?sb2_2 ?sb2_2) (RL.kit_ref (RL.cls_some ?cl3) ?xt_BadNumber ?sb2_2 ?sb2_3) (RL.kit_ref (RL.cls_some ?cl4) ?xt_BadText ?sb2_2 ?sb2_4) (RL.kit_ref (RL.cls_some ?cl5) ?xt_NotFound ?sb2_2 ?sb2_5) ⟨?ec3g, ?ec3k, ?ec3s, ?ec3d, ?ec3a, ?ec3n, ?ec3T, ?ec3m⟩ (RL.exm_ref ?sbR (RL.cls_some ?clR) ?tyR ?sr3) (RL.kit_ref (RL.cls_some ?clR) ?tyR ?sb3_3 ?sr3) (RL.kit_val ?sv3) (RL.kit_ref (RL.cls_some ?cl0) ?xt_BadRule ?sb3_3 ?sb3_0) (RL.kit_ref (RL.cls_some ?cl1) ?xt_BadTrials ?sb3_3 ?sb3_1) (RL.kit_ref (RL.cls_some ?cl2) ?xt_BadAmounts ?sb3_3 ?sb3_2) (RL.kit_ref (RL.cls_some ?cl3) ?xt_BadNumber ?sb3_3 ?sb3_3) (RL.kit_ref (RL.cls_some ?cl4) ?xt_BadText ?sb3_3 ?sb3_4) (RL.kit_ref (RL.cls_some ?cl5) ?xt_NotFound ?sb3_3 ?sb3_5) ⟨?ec4g, ?ec4k, ?ec4s, ?ec4d, ?ec4a, ?ec4n, ?ec4T, ?ec4m⟩ (RL.exm_ref ?sbR (RL.cls_some ?clR) ?tyR ?sr4) (RL.kit_ref (RL.cls_some ?clR) ?tyR ?sb4_4 ?sr4) (RL.kit_val ?sv4) (RL.kit_ref (RL.cls_some ?cl0) ?xt_BadRule ?sb4_4 ?sb4_0) (RL.kit_ref (RL.cls_some ?cl1) ?xt_BadTrials ?sb4_4 ?sb4_1) (RL.kit_ref (RL.cls_some ?cl2) ?xt_BadAmounts ?sb4_4 ?sb4_2) (RL.kit_ref (RL.cls_some ?cl3) ?xt_BadNumber ?sb4_4 ?sb4_3) (RL.kit_ref (RL.cls_some ?cl4) ?xt_BadText ?sb4_4 ?sb4_4) (RL.kit_ref (RL.cls_some ?cl5) ?xt_NotFound ?sb4_4 ?sb4_5) ⟨?ec5g, ?ec5k, ?ec5s, ?ec5d, ?ec5a, ?ec5n, ?ec5T, ?ec5m⟩ (RL.exm_ref ?sbR (RL.cls_some ?clR) ?tyR ?sr5) (RL.kit_ref (RL.cls_some ?clR) ?tyR ?sb5_5 ?sr5) (RL.kit_val ?sv5) (RL.kit_ref (RL.cls_some ?cl0) ?xt_BadRule ?sb5_5 ?sb5_0) (RL.kit_ref (RL.cls_some ?cl1) ?xt_BadTrials ?sb5_5 ?sb5_1) (RL.kit_ref (RL.cls_some ?cl2) ?xt_BadAmounts ?sb5_5 ?sb5_2) (RL.kit_ref (RL.cls_some ?cl3) ?xt_BadNumber ?sb5_5 ?sb5_3) (RL.kit_ref (RL.cls_some ?cl4) ?xt_BadText ?sb5_5 ?sb5_4) (RL.kit_ref (RL.cls_some ?cl5) ?xt_NotFound ?sb5_5 ?sb5_5) ?mp ?z_range ?z_list ?z_enumerate ?z_zip ?z_isinstance ?z_int ?z_bool ?z_str ?z_tuple ?z_len ?z_abs ?z_all ?z_sum ?z_max ?z_min ?z_sorted ?z_set
    (case a_is_int => k_is)
    (case l_is_int => k_is)
    (case c_is_int => k_is)
    (case k_is_int => k_is)
    (case a_common => k_is)
    (case l_common => k_is)
    (case c_common => k_is)
    (case k_common => k_is)
    (case a_is_amount => k_is)
    (case l_is_amount => k_is)
    (case c_is_amount => k_is)
    (case k_is_amount => k_is)
    (case a_is_rule => k_is)
    (case l_is_rule => k_is)
    (case c_is_rule => k_is)
    (case k_is_rule => k_is)
    (case a_is_amounts => k_is)
    (case l_is_amounts => k_is)
    (case c_is_amounts => k_is)
    (case k_is_amounts => k_is)
    (case a_is_trials => k_is)
    (case l_is_trials => k_is)
    (case c_is_trials => k_is)
    (case k_is_trials => k_is)
    (case a_check_rule => k_is)
    (case l_check_rule => k_is)
    (case c_check_rule => k_is)
    (case k_check_rule => k_is)
    (case a_check_trials => k_is)
    (case l_check_trials => k_is)
    (case c_check_trials => k_is)
    (case k_check_trials => k_is)
    (case a_check_amounts => k_is)
    (case l_check_amounts => k_is)
    (case c_check_amounts => k_is)
    (case k_check_amounts => k_is)
    (case a_check_amount => k_is)
    (case l_check_amount => k_is)
    (case c_check_amount => k_is)
    (case k_check_amount => k_is)
    (case a_check_quantity => k_is)
    (case l_check_quantity => k_is)
    (case c_check_quantity => k_is)
    (case k_check_quantity => k_is)
    (case a_lowest => k_is)
    (case l_lowest => k_is)
    (case c_lowest => k_is)
    (case k_lowest => k_is)
    (case a_product => k_is)
    (case l_product => k_is)
    (case c_product => k_is)
    (case k_product => k_is)
    (case a_quotient => k_is)
    (case l_quotient => k_is)
    (case c_quotient => k_is)
    (case k_quotient => k_is)
    (case a_power => k_is)
    (case l_power => k_is)
    (case c_power => k_is)
    (case k_power => k_is)
    (case a_less => k_is)
    (case l_less => k_is)
    (case c_less => k_is)
    (case k_less => k_is)
    (case a_root_of => k_is)
    (case l_root_of => k_is)
    (case c_root_of => k_is)
    (case k_root_of => k_is)
    (case a_products_of => k_is)
    (case l_products_of => k_is)
    (case c_products_of => k_is)
    (case k_products_of => k_is)
    (case a_rate_of => k_is)
    (case l_rate_of => k_is)
    (case c_rate_of => k_is)
    (case k_rate_of => k_is)
    (case a_growth => k_is)
    (case l_growth => k_is)
    (case c_growth => k_is)
    (case k_growth => k_is)
    (case a_amount_for => k_is)
    (case l_amount_for => k_is)
    (case c_amount_for => k_is)
    (case k_amount_for => k_is)
    (case a_order_of_rates => k_is)
    (case l_order_of_rates => k_is)
    (case c_order_of_rates => k_is)
    (case k_order_of_rates => k_is)
    (case a_crossing => k_is)
    (case l_crossing => k_is)
    (case c_crossing => k_is)
    (case k_crossing => k_is)
    (case a_all_powers => k_is)
    (case l_all_powers => k_is)
    (case c_all_powers => k_is)
    (case k_all_powers => k_is)
    (case a_table_of => k_is)
    (case l_table_of => k_is)
    (case c_table_of => k_is)
    (case k_table_of => k_is)
    (case a_agrees => k_is)
    (case l_agrees => k_is)
    (case c_agrees => k_is)
    (case k_agrees => k_is)
    (case a_fitting_of => k_is)
    (case l_fitting_of => k_is)
    (case c_fitting_of => k_is)
    (case k_fitting_of => k_is)
    (case a_only_rule => k_is)
    (case l_only_rule => k_is)
    (case c_only_rule => k_is)
    (case k_only_rule => k_is)
    (case a_parts_of => k_is)
    (case l_parts_of => k_is)
    (case c_parts_of => k_is)
    (case k_parts_of => k_is)
    (case a_smallest_bar => k_is)
    (case l_smallest_bar => k_is)
    (case c_smallest_bar => k_is)
    (case k_smallest_bar => k_is)
    (case a_differing => k_is)
    (case l_differing => k_is)
    (case c_differing => k_is)
    (case k_differing => k_is)
    (case a_single_pairs => k_is)
    (case l_single_pairs => k_is)
    (case c_single_pairs => k_is)
    (case k_single_pairs => k_is)
    (case a_power_of_pair => k_is)
    (case l_power_of_pair => k_is)
    (case c_power_of_pair => k_is)
    (case k_power_of_pair => k_is)
    (case a_told_powers => k_is)
    (case l_told_powers => k_is)
    (case c_told_powers => k_is)
    (case k_told_powers => k_is)
    (case a_agreed_power => k_is)
    (case l_agreed_power => k_is)
    (case c_agreed_power => k_is)
    (case k_agreed_power => k_is)
    (case a_rates_for => k_is)
    (case l_rates_for => k_is)
    (case c_rates_for => k_is)
    (case k_rates_for => k_is)
    (case a_counts_of => k_is)
    (case l_counts_of => k_is)
    (case c_counts_of => k_is)
    (case k_counts_of => k_is)
    (case a_tells_all => k_is)
    (case l_tells_all => k_is)
    (case c_tells_all => k_is)
    (case k_tells_all => k_is)
    (case a_tells_nothing => k_is)
    (case l_tells_nothing => k_is)
    (case c_tells_nothing => k_is)
    (case k_tells_nothing => k_is)
    (case a_worst_left => k_is)
    (case l_worst_left => k_is)
    (case c_worst_left => k_is)
    (case k_worst_left => k_is)
    (case a_best_amounts => k_is)
    (case l_best_amounts => k_is)
    (case c_best_amounts => k_is)
    (case k_best_amounts => k_is)
    (case a_same_rates => k_is)
    (case l_same_rates => k_is)
    (case c_same_rates => k_is)
    (case k_same_rates => k_is)
    (case a_checked => k_is)
    (case l_checked => k_is)
    (case c_checked => k_is)
    (case k_checked => k_is)
    (case a_in_units => k_is)
    (case l_in_units => k_is)
    (case c_in_units => k_is)
    (case k_in_units => k_is)
    (case a_scaled => k_is)
    (case l_scaled => k_is)
    (case c_scaled => k_is)
    (case k_scaled => k_is)
    (case a_multiplied => k_is)
    (case l_multiplied => k_is)
    (case c_multiplied => k_is)
    (case k_multiplied => k_is)
    (case a_with_fixed => k_is)
    (case l_with_fixed => k_is)
    (case c_with_fixed => k_is)
    (case k_with_fixed => k_is)
    (case a__law_start => k_is)
    (case l__law_start => k_is)
    (case c__law_start => k_is)
    (case k__law_start => k_is)
    (case a__law_error => k_is)
    (case l__law_error => k_is)
    (case c__law_error => k_is)
    (case k__law_error => k_is)
    (case a__law_call => k_is)
    (case l__law_call => k_is)
    (case c__law_call => k_is)
    (case k__law_call => k_is)
    (case a__law_none => k_is)
    (case l__law_none => k_is)
    (case c__law_none => k_is)
    (case k__law_none => k_is)
    (case a__law_asked => k_is)
    (case l__law_asked => k_is)
    (case c__law_asked => k_is)
    (case k__law_asked => k_is)
    (case a__law_table => k_is)
    (case l__law_table => k_is)
    (case c__law_table => k_is)
    (case k__law_table => k_is)
    (case a__law_found => k_is)
    (case l__law_found => k_is)
    (case c__law_found => k_is)
    (case k__law_found => k_is)
    (case a_law => k_is)
    (case l_law => k_is)
    (case c_law => k_is)
    (case k_law => k_is)
    (case xa_BadRule => k_is)
    (case xe_BadRule => k_exc)
    (case xk_BadRule => k_is)
    (case xb_BadRule => k_is)
    (case xt_BadRule => k_is)
    (case xa_BadTrials => k_is)
    (case xe_BadTrials => k_exc)
    (case xk_BadTrials => k_is)
    (case xb_BadTrials => k_is)
    (case xt_BadTrials => k_is)
    (case xa_BadAmounts => k_is)
    (case xe_BadAmounts => k_exc)
    (case xk_BadAmounts => k_is)
    (case xb_BadAmounts => k_is)
    (case xt_BadAmounts => k_is)
    (case xa_BadNumber => k_is)
    (case xe_BadNumber => k_exc)
    (case xk_BadNumber => k_is)
    (case xb_BadNumber => k_is)
    (case xt_BadNumber => k_is)
    (case xa_BadText => k_is)
    (case xe_BadText => k_exc)
    (case xk_BadText => k_is)
    (case xb_BadText => k_is)
    (case xt_BadText => k_is)
    (case xa_NotFound => k_is)
    (case xe_NotFound => k_exc)
    (case xk_NotFound => k_is)
    (case xb_NotFound => k_is)
    (case xt_NotFound => k_is)
    (case y_ns => k_is)
    (case y_pg => k_is)
    (case y_hd => k_is)
    (case y_po => k_is)
    (case y_sa => k_is)
    (case y_nS => k_is)
    (case y_nL => k_is)
    (case y_mk => k_is)
    (case y_kc => k_is)
    (case ma___init__ => k_is)
    (case mi___init__ => k_is)
    (case ml___init__ => k_is)
    (case mc___init__ => k_is)
    (case mk___init__ => k_is)
    (case ma_add => k_is)
    (case mi_add => k_is)
    (case ml_add => k_is)
    (case mc_add => k_is)
    (case mk_add => k_is)
    (case ma_rules => k_is)
    (case mi_rules => k_is)
    (case ml_rules => k_is)
    (case mc_rules => k_is)
    (case mk_rules => k_is)
    (case ma_trials => k_is)
    (case mi_trials => k_is)
    (case ml_trials => k_is)
    (case mc_trials => k_is)
    (case mk_trials => k_is)
    (case ma_undo => k_is)
    (case mi_undo => k_is)
    (case ml_undo => k_is)
    (case mc_undo => k_is)
    (case mk_undo => k_is)
    (case ma___len__ => k_is)
    (case mi___len__ => k_is)
    (case ml___len__ => k_is)
    (case mc___len__ => k_is)
    (case mk___len__ => k_is)
    (case xq => k_is)
    (case xv => k_is)
    (case sbR => k_is)
    (case clR => k_is)
    (case tyR => k_is)
    (case cl0 => k_is)
    (case cl1 => k_is)
    (case cl2 => k_is)
    (case cl3 => k_is)
    (case cl4 => k_is)
    (case cl5 => k_is)
    (case ec0g => k_is)
    (case ec0k => k_is)
    (case ec0s => k_is)
    (case ec0d => k_is)
    (case ec0a => k_is)
    (case ec0n => k_is)
    (case ec0T => k_is)
    (case ec0m => k_is)
    (case sr0 => k_is)
    (case sv0 => k_is)
    (case sb0_0 => k_is)
    (case sb0_1 => k_is)
    (case sb0_2 => k_is)
    (case sb0_3 => k_is)
    (case sb0_4 => k_is)
    (case sb0_5 => k_is)
    (case ec1g => k_is)
    (case ec1k => k_is)
    (case ec1s => k_is)
    (case ec1d => k_is)
    (case ec1a => k_is)
    (case ec1n => k_is)
    (case ec1T => k_is)
    (case ec1m => k_is)
    (case sr1 => k_is)
    (case sv1 => k_is)
    (case sb1_0 => k_is)
    (case sb1_1 => k_is)
    (case sb1_2 => k_is)
    (case sb1_3 => k_is)
    (case sb1_4 => k_is)
    (case sb1_5 => k_is)
    (case ec2g => k_is)
    (case ec2k => k_is)
    (case ec2s => k_is)
    (case ec2d => k_is)
    (case ec2a => k_is)
    (case ec2n => k_is)
    (case ec2T => k_is)
    (case ec2m => k_is)
    (case sr2 => k_is)
    (case sv2 => k_is)
    (case sb2_0 => k_is)
    (case sb2_1 => k_is)
    (case sb2_2 => k_is)
    (case sb2_3 => k_is)
    (case sb2_4 => k_is)
    (case sb2_5 => k_is)
    (case ec3g => k_is)
    (case ec3k => k_is)
    (case ec3s => k_is)
    (case ec3d => k_is)
    (case ec3a => k_is)
    (case ec3n => k_is)
    (case ec3T => k_is)
    (case ec3m => k_is)
    (case sr3 => k_is)
    (case sv3 => k_is)
    (case sb3_0 => k_is)
    (case sb3_1 => k_is)
    (case sb3_2 => k_is)
    (case sb3_3 => k_is)
    (case sb3_4 => k_is)
    (case sb3_5 => k_is)
    (case ec4g => k_is)
    (case ec4k => k_is)
    (case ec4s => k_is)
    (case ec4d => k_is)
    (case ec4a => k_is)
    (case ec4n => k_is)
    (case ec4T => k_is)
    (case ec4m => k_is)
    (case sr4 => k_is)
    (case sv4 => k_is)
    (case sb4_0 => k_is)
    (case sb4_1 => k_is)
    (case sb4_2 => k_is)
    (case sb4_3 => k_is)
    (case sb4_4 => k_is)
    (case sb4_5 => k_is)
    (case ec5g => k_is)
    (case ec5k => k_is)
    (case ec5s => k_is)
    (case ec5d => k_is)
    (case ec5a => k_is)
    (case ec5n => k_is)
    (case ec5T => k_is)
    (case ec5m => k_is)
    (case sr5 => k_is)
    (case sv5 => k_is)
    (case sb5_0 => k_is)
    (case sb5_1 => k_is)
    (case sb5_2 => k_is)
    (case sb5_3 => k_is)
    (case sb5_4 => k_is)
    (case sb5_5 => k_is)
    (case mp => k_is)
    (case z_range => k_is)
    (case z_list => k_is)
    (case z_enumerate => k_is)
    (case z_zip => k_is)
    (case z_isinstance => k_is)
    (case z_int => k_is)
    (case z_bool => k_is)
    (case z_str => k_is)
    (case z_tuple => k_is)
    (case z_len => k_is)
    (case z_abs => k_is)
    (case z_all => k_is)
    (case z_sum => k_is)
    (case z_max => k_is)
    (case z_min => k_is)
    (case z_sorted => k_is)
    (case z_set => k_is)
