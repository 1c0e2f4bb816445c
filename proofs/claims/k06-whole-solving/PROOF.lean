import PyProof.Rows.All
import Wide.All
import OpenK.AllK
import Wide.FinOn
import HandS.ForMost
import HandS.ForExc
import HandS.Walk
import HandS.Wide
import HandS.IsInst
import HandS.CallSlots
import HandS.TupLe
import HandS.Style
import HandS.Deep
import HandS.ExcValue
import HandS.ExcIs
import HandS.Conv
import KE.DataFind
import HandS.SortInts
import HandS.ExcOwn
import PySem.Challenge.RW_ratelaws_k06_whole_solving
set_option Elab.async false
set_option linter.all false
set_option maxRecDepth 100000
set_option autoImplicit false
set_option maxHeartbeats 4000000
namespace RL
open PySem L2

/-! ### data -/
inductive D where
  | non | bl (b : Bool) | int (i : Int) | str (z : Str) | lst (xs : List D) | tup (xs : List D)
  | drw | tab (k : Nat) | exc (k : Nat)

/-- a slot of a frame: empty, a datum that nobody changes, a list that this frame alone may change -/
inductive Sl where
  | emp | dat (d : D) | own (xs : List D)
abbrev Rho := List Sl
/-- the world: the drawing object's numbers and count; the tables' sizes and trials -/
structure Wd where
  dr : Option (List Int × Int)
  tb : List (Int × List D)
inductive Res (α : Type) where
  | ok (a : α) (w : Wd) | exc (k : Nat) (w : Wd) | bad
def Res.bind {α β : Type} : Res α → (α → Wd → Res β) → Res β
  | .ok a w, f => f a w
  | .exc k w, _ => .exc k w
  | .bad, _ => .bad
inductive RS where
  | next (r : Rho) (w : Wd) | ret (d : D) (w : Wd) | exc (k : Nat) (r : Rho) (w : Wd) | bad

/-- addresses of the program: the exceptions' classes, the tables' class -/
structure Cn where
  ec : Nat → Addr
  tC : Addr
/-- the frozen part of the heap, the drawing object's two lists, the tables (instance, dict, list) -/
structure Gs where
  F : Hp
  dr : Option (Addr × Addr)
  tb : List (Addr × Addr × Addr)
def wdr : Option (Addr × Addr) → List Addr
  | none => []
  | some (a, b) => [a, b]
def wtb : List (Addr × Addr × Addr) → List Addr
  | [] => []
  | (t, _, l) :: r => t :: l :: wtb r
def Gs.wadr (g : Gs) : List Addr := wdr g.dr ++ wtb g.tb

def excP (a C : Addr) : Heap → Prop := fun h => ∃ oe vs, h.get? a = some oe ∧ Zc (.ref C) none oe ∧ oe.data = .fields vs

mutual
inductive Rep (c : Cn) (g : Gs) : V → D → Prop
  | non : Rep c g .non .non
  | bl (b : Bool) : Rep c g (.bl b) (.bl b)
  | int (i : Int) : Rep c g (.int i) (.int i)
  | str (z : Str) : Rep c g (.str z) (.str z)
  | lst {a : Addr} {vs : List V} {ds : List D} : g.F a = some (.lst vs) → RepL c g vs ds → Rep c g (.ref a) (.lst ds)
  | tup {a : Addr} {vs : List V} {ds : List D} : g.F a = some (.tup vs) → RepL c g vs ds → Rep c g (.ref a) (.tup ds)
  | drw {a b : Addr} : g.dr = some (a, b) → Rep c g (.ref a) .drw
  | tab {k : Nat} {t dx l : Addr} : g.tb[k]? = some (t, dx, l) → Rep c g (.ref t) (.tab k)
  | exc {k : Nat} {a : Addr} : g.F a = some (.ext (excP a (c.ec k))) → Rep c g (.ref a) (.exc k)
inductive RepL (c : Cn) (g : Gs) : List V → List D → Prop
  | nil : RepL c g [] []
  | cons {v : V} {d : D} {vs : List V} {ds : List D} : Rep c g v d → RepL c g vs ds → RepL c g (v :: vs) (d :: ds)
end

/-- g' knows all that g knows -/
structure Gle (g g' : Gs) : Prop where
  sF : Same g.F g'.F
  dr : ∀ p, g.dr = some p → g'.dr = some p
  tb : ∀ (k : Nat) p, g.tb[k]? = some p → g'.tb[k]? = some p
theorem Gle.refl (g : Gs) : Gle g g := ⟨Same.refl _, fun _ h => h, fun _ _ h => h⟩
theorem Gle.trans {a b c : Gs} (h : Gle a b) (k : Gle b c) : Gle a c := ⟨h.sF.trans k.sF, fun p q => k.dr p (h.dr p q), fun i p q => k.tb i p (h.tb i p q)⟩

mutual
theorem Rep.mono {c : Cn} {g g' : Gs} (h : Gle g g') : ∀ {d : D} {v : V}, Rep c g v d → Rep c g' v d
  | .non, _, r => by cases r; exact .non
  | .bl _, _, r => by cases r; exact .bl _
  | .int _, _, r => by cases r; exact .int _
  | .str _, _, r => by cases r; exact .str _
  | .lst ds, _, r => by
    cases r with
    | lst e l => exact .lst (h.sF _ _ e) (RepL.mono h l)
  | .tup ds, _, r => by
    cases r with
    | tup e l => exact .tup (h.sF _ _ e) (RepL.mono h l)
  | .drw, _, r => by
    cases r with
    | drw e => exact .drw (h.dr _ e)
  | .tab k, _, r => by
    cases r with
    | tab e => exact .tab (h.tb _ _ e)
  | .exc k, _, r => by
    cases r with
    | exc e => exact .exc (h.sF _ _ e)
theorem RepL.mono {c : Cn} {g g' : Gs} (h : Gle g g') : ∀ {ds : List D} {vs : List V}, RepL c g vs ds → RepL c g' vs ds
  | [], _, r => by cases r; exact .nil
  | d :: ds, _, r => by
    cases r with
    | cons a b => exact .cons (Rep.mono h a) (RepL.mono h b)
end
section
variable {c : Cn} {g : Gs}
theorem RepL.length : ∀ {vs : List V} {ds : List D}, RepL c g vs ds → vs.length = ds.length
  | _, _, .nil => rfl
  | _, _, .cons _ r => by simp [RepL.length r]
theorem RepL.get : ∀ {vs : List V} {ds : List D} {i : Nat} {v : V}, RepL c g vs ds → vs[i]? = some v → ∃ d, ds[i]? = some d ∧ Rep c g v d
  | _, _, _, _, .nil, e => by simp at e
  | _, _, 0, _, .cons a _, e => by simp at e; subst e; exact ⟨_, rfl, a⟩
  | _, _, i + 1, v, .cons _ r, e => by
    obtain ⟨d, h1, h2⟩ := RepL.get (i := i) (v := v) r (by simpa using e)
    exact ⟨d, by simpa using h1, h2⟩
theorem RepL.getD : ∀ {vs : List V} {ds : List D} {i : Nat} {d : D}, RepL c g vs ds → ds[i]? = some d → ∃ v, vs[i]? = some v ∧ Rep c g v d
  | _, _, _, _, .nil, e => by simp at e
  | _, _, 0, _, .cons a _, e => by simp at e; subst e; exact ⟨_, rfl, a⟩
  | _, _, i + 1, v, .cons _ r, e => by
    obtain ⟨d, h1, h2⟩ := RepL.getD (i := i) (d := v) r (by simpa using e)
    exact ⟨d, by simpa using h1, h2⟩
theorem RepL.append : ∀ {vs ws : List V} {ds es : List D}, RepL c g vs ds → RepL c g ws es → RepL c g (vs ++ ws) (ds ++ es)
  | _, _, _, _, .nil, s => s
  | _, _, _, _, .cons a r, s => .cons a (RepL.append r s)
theorem RepL.take : ∀ {vs : List V} {ds : List D} (n : Nat), RepL c g vs ds → RepL c g (vs.take n) (ds.take n)
  | _, _, 0, _ => by simpa using RepL.nil
  | _, _, _ + 1, .nil => by simpa using RepL.nil
  | _, _, n + 1, .cons a r => .cons a (RepL.take n r)
theorem RepL.drop : ∀ {vs : List V} {ds : List D} (n : Nat), RepL c g vs ds → RepL c g (vs.drop n) (ds.drop n)
  | _, _, 0, r => r
  | _, _, _ + 1, .nil => by simpa using RepL.nil
  | _, _, n + 1, .cons _ r => RepL.drop n r
theorem RepL.set {v : V} {d : D} (h : Rep c g v d) : ∀ {vs : List V} {ds : List D} (i : Nat), RepL c g vs ds → RepL c g (vs.set i v) (ds.set i d)
  | _, _, _, .nil => .nil
  | _, _, 0, .cons _ r => .cons h r
  | _, _, i + 1, .cons a r => .cons a (RepL.set h i r)
theorem RepL.reverse : ∀ {vs : List V} {ds : List D}, RepL c g vs ds → RepL c g vs.reverse ds.reverse
  | _, _, .nil => .nil
  | _, _, .cons a r => by
    rw [List.reverse_cons, List.reverse_cons]
    exact (RepL.reverse r).append (.cons a .nil)
theorem RepL.rep : ∀ {vs : List V} {ds : List D} (n : Nat), RepL c g vs ds → RepL c g (List.replicate n vs).flatten (List.replicate n ds).flatten
  | _, _, 0, _ => .nil
  | _, _, n + 1, r => by
    rw [List.replicate_succ, List.replicate_succ, List.flatten_cons, List.flatten_cons]
    exact r.append (RepL.rep n r)
end

/-! ### the world in the heap -/
structure WOk (c : Cn) (g : Gs) (H : Hp) (w : Wd) : Prop where
  sub : Same g.F H
  dr : ∀ ns n, w.dr = some (ns, n) → ∃ a b, g.dr = some (a, b) ∧ H a = some (.lst [.ref b, .int n]) ∧ H b = some (.lst (ns.map V.int))
  dr0 : w.dr = none → g.dr = none
  tb : ∀ (k : Nat) sz ln, w.tb[k]? = some (sz, ln) → ∃ t dx l vs, g.tb[k]? = some (t, dx, l) ∧ H t = some (.ins c.tC dx [("size", .int sz), ("line", .ref l)]) ∧ H l = some (.lst vs) ∧ RepL c g vs ln
  tbl : g.tb.length = w.tb.length
  nd : g.wadr.Nodup
  out : ∀ a ∈ g.wadr, g.F a = none

/-- from (g, H) to (g', H'): what is known stays known; all but the world's own objects is kept; new things are new -/
structure Ext (g : Gs) (H : Hp) (g' : Gs) (H' : Hp) : Prop extends Gle g g' where
  keep : ∀ a o, H a = some o → a ∉ g.wadr → H' a = some o
  dom : ∀ a, H' a = none → H a = none
  frF : ∀ a, g.F a = none → H a ≠ none → g'.F a = none
  frW : ∀ a, a ∈ g'.wadr → a ∈ g.wadr ∨ H a = none
theorem Ext.refl (g : Gs) (H : Hp) : Ext g H g H := ⟨Gle.refl g, fun _ _ h _ => h, fun _ h => h, fun _ h _ => h, fun _ h => .inl h⟩
theorem Ext.trans {g g1 g2 : Gs} {H H1 H2 : Hp} (a : Ext g H g1 H1) (b : Ext g1 H1 g2 H2) : Ext g H g2 H2 := by
  refine ⟨a.toGle.trans b.toGle, fun x o e n => ?_, fun x e => a.dom x (b.dom x e), fun x e n => ?_, fun x e => ?_⟩
  · refine b.keep x o (a.keep x o e n) fun z => ?_
    rcases a.frW x z with q | q
    · exact n q
    · rw [q] at e; cases e
  · exact b.frF x (a.frF x e n) fun z => n (a.dom x z)
  · rcases b.frW x e with q | q
    · exact a.frW x q
    · exact .inr (a.dom x q)
/-- a new object is laid in the frozen part -/
def Gs.lay (g : Gs) (p : Addr) (o : HO) : Gs := { g with F := upd g.F p o }
theorem Gs.lay_wadr (g : Gs) (p : Addr) (o : HO) : (g.lay p o).wadr = g.wadr := rfl
section
variable {c : Cn} {g : Gs} {H : Hp} {w : Wd} {p : Addr} {o : HO}
theorem WOk.fresh (h : WOk c g H w) (hp : H p = none) : g.F p = none := h.sub.free hp
theorem wtb_mem {k : Nat} {t dx l : Addr} : ∀ {tb : List (Addr × Addr × Addr)}, tb[k]? = some (t, dx, l) → t ∈ wtb tb ∧ l ∈ wtb tb := by
  induction k with
  | zero =>
    intro tb e
    cases tb with
    | nil => simp at e
    | cons x r =>
      simp at e; subst e
      simp [wtb]
  | succ k ih =>
    intro tb e
    cases tb with
    | nil => simp at e
    | cons x r =>
      obtain ⟨a, b, d⟩ := x
      obtain ⟨h1, h2⟩ := ih (tb := r) (by simpa using e)
      simp [wtb, h1, h2]
theorem mem_wtb {a : Addr} : ∀ {tb : List (Addr × Addr × Addr)}, a ∈ wtb tb → ∃ (k : Nat) (t dx l : Addr), tb[k]? = some (t, dx, l) ∧ (a = t ∨ a = l)
  | [], h => by simp [wtb] at h
  | (t, dx, l) :: r, h => by
    simp only [wtb, List.mem_cons] at h
    rcases h with h | h | h
    · exact ⟨0, t, dx, l, rfl, .inl h⟩
    · exact ⟨0, t, dx, l, rfl, .inr h⟩
    · obtain ⟨k, t', dx', l', e, q⟩ := mem_wtb h
      exact ⟨k + 1, t', dx', l', by simpa using e, q⟩
/-- the world's own objects stand in the heap -/
theorem WOk.there (h : WOk c g H w) {a : Addr} (ha : a ∈ g.wadr) : H a ≠ none := by
  rcases List.mem_append.mp ha with q | q
  · cases e : w.dr with
    | none => rw [h.dr0 e] at q; simp [wdr] at q
    | some p =>
      obtain ⟨x, y, e1, e2, e3⟩ := h.dr p.1 p.2 e
      rw [e1] at q
      simp only [wdr, List.mem_cons, List.not_mem_nil, or_false] at q
      rcases q with rfl | rfl
      · rw [e2]; simp
      · rw [e3]; simp
  · obtain ⟨k, t, dx, l, e, q⟩ := mem_wtb q
    have hk : k < w.tb.length := by
      rw [← h.tbl]
      exact (List.getElem?_eq_some_iff.mp e).1
    obtain ⟨t', dx', l', vs, e1, e2, e3, _⟩ := h.tb k w.tb[k].1 w.tb[k].2 (by simp [hk])
    rw [e] at e1
    cases e1
    rcases q with rfl | rfl
    · rw [e2]; simp
    · rw [e3]; simp
theorem Ext.laid (h : WOk c g H w) (hp : H p = none) : Ext g H (g.lay p o) (upd H p o) := by
  refine ⟨⟨fun b u e => ?_, fun _ q => q, fun _ _ q => q⟩, fun b u e _ => ?_, fun b e => ?_, fun b e n => ?_, fun b e => .inl e⟩
  · show upd g.F p o b = some u
    rw [upd_ne (ne_of_none e (h.fresh hp))]; exact e
  · rw [upd_ne (ne_of_none e hp)]; exact e
  · by_cases q : b = p
    · rw [q, upd_same] at e; cases e
    · rw [upd_ne q] at e; exact e
  · show upd g.F p o b = none
    rw [upd_ne (fun q => n (by rw [q]; exact hp))]; exact e
/-- an object laid, not frozen -/
theorem Ext.upd (hp : H p = none) : Ext g H g (upd H p o) := by
  refine ⟨Gle.refl g, fun b u e _ => ?_, fun b e => ?_, fun b e _ => e, fun b e => .inl e⟩
  · rw [upd_ne (ne_of_none e hp)]; exact e
  · by_cases q : b = p
    · rw [q, upd_same] at e; cases e
    · rw [upd_ne q] at e; exact e
theorem WOk.laid (h : WOk c g H w) (hp : H p = none) : WOk c (g.lay p o) (L2.upd H p o) w := by
  have ne : ∀ a, a ∈ g.wadr → a ≠ p := fun a ha q => h.there ha (by rw [q]; exact hp)
  have X := Ext.laid (o := o) h hp
  refine ⟨fun b u e => ?_, fun ns n e => ?_, h.dr0, fun k sz ln e => ?_, h.tbl, h.nd, fun a ha => ?_⟩
  · by_cases q : b = p
    · subst q
      have e' : L2.upd g.F b o b = some u := e
      rw [upd_same] at e' ⊢
      exact e'
    · have e' : L2.upd g.F p o b = some u := e
      rw [upd_ne q] at e' ⊢
      exact h.sub _ _ e'
  · obtain ⟨a, b, e1, e2, e3⟩ := h.dr ns n e
    exact ⟨a, b, e1, by rw [upd_ne (ne_of_none e2 hp)]; exact e2, by rw [upd_ne (ne_of_none e3 hp)]; exact e3⟩
  · obtain ⟨t, dx, l, vs, e1, e2, e3, r⟩ := h.tb k sz ln e
    exact ⟨t, dx, l, vs, e1, by rw [upd_ne (ne_of_none e2 hp)]; exact e2, by rw [upd_ne (ne_of_none e3 hp)]; exact e3, r.mono X.toGle⟩
  · show L2.upd g.F p o a = none
    rw [upd_ne (ne a ha)]
    exact h.out a ha
/-- an object outside of the world and the frozen part is written or laid -/
theorem WOk.write (h : WOk c g H w) (hp : p ∉ g.wadr) (hF : g.F p = none) : WOk c g (L2.upd H p o) w := by
  have ne : ∀ a, a ∈ g.wadr → a ≠ p := fun a ha q => hp (q ▸ ha)
  refine ⟨fun b u e => ?_, fun ns n e => ?_, h.dr0, fun k sz ln e => ?_, h.tbl, h.nd, h.out⟩
  · rw [upd_ne (ne_of_none e hF)]
    exact h.sub _ _ e
  · obtain ⟨a, b, e1, e2, e3⟩ := h.dr ns n e
    have m : a ∈ g.wadr ∧ b ∈ g.wadr := by simp [Gs.wadr, e1, wdr]
    exact ⟨a, b, e1, by rw [upd_ne (ne a m.1)]; exact e2, by rw [upd_ne (ne b m.2)]; exact e3⟩
  · obtain ⟨t, dx, l, vs, e1, e2, e3, r⟩ := h.tb k sz ln e
    obtain ⟨m1, m2⟩ := wtb_mem e1
    have m : t ∈ g.wadr ∧ l ∈ g.wadr := ⟨List.mem_append_right _ m1, List.mem_append_right _ m2⟩
    exact ⟨t, dx, l, vs, e1, by rw [upd_ne (ne t m.1)]; exact e2, by rw [upd_ne (ne l m.2)]; exact e3, r⟩
theorem WOk.notW (h : WOk c g H w) (hp : H p = none) : p ∉ g.wadr := fun q => h.there q hp
end

/-! ### a frame's slots -/
/-- B: the heap at the frame's entry -/
structure EOk (c : Cn) (B : Hp) (g : Gs) (H : Hp) (r : Rho) (σ : St) : Prop where
  len : r.length = σ.length
  dat : ∀ (i : Nat) d, r[i]? = some (.dat d) → ∃ v, σ[i]? = some (some v) ∧ Rep c g v d
  own : ∃ ad : Nat → Addr, (∀ (i : Nat) xs, r[i]? = some (.own xs) → σ[i]? = some (some (.ref (ad i))) ∧ g.F (ad i) = none ∧ ad i ∉ g.wadr ∧ B (ad i) = none ∧ ∃ vs, H (ad i) = some (.lst vs) ∧ RepL c g vs xs) ∧
    ∀ (i j : Nat) xs ys, r[i]? = some (.own xs) → r[j]? = some (.own ys) → ad i = ad j → i = j
theorem EOk.ext {c : Cn} {B : Hp} {g g' : Gs} {H H' : Hp} {r : Rho} {σ : St} (h : EOk c B g H r σ) (x : Ext g H g' H') : EOk c B g' H' r σ := by
  refine ⟨h.len, fun i d e => ?_, ?_⟩
  · obtain ⟨v, h1, h2⟩ := h.dat i d e
    exact ⟨v, h1, h2.mono x.toGle⟩
  · obtain ⟨ad, h1, h2⟩ := h.own
    refine ⟨ad, fun i xs e => ?_, h2⟩
    obtain ⟨a1, a2, a3, a0, vs, a4, a5⟩ := h1 i xs e
    have nn : H (ad i) ≠ none := by rw [a4]; simp
    refine ⟨a1, x.frF _ a2 nn, fun z => ?_, a0, vs, x.keep _ _ a4 a3, a5.mono x.toGle⟩
    rcases x.frW _ z with q | q
    · exact a3 q
    · exact nn q

/-! ### what is wanted behind an expression -/
def post {α β : Type} (c : Cn) (R : Gs → β → α → Prop) (g : Gs) (H : Hp) (Q : β → Hp → Prop) (E : XK) : Res α → Prop
  | .ok d w => ∀ g' H' v, Ext g H g' H' → WOk c g' H' w → R g' v d → Q v H'
  | .exc k w => ∀ g' H', Ext g H g' H' → WOk c g' H' w → E (.ref (c.ec k)) none H'
  | .bad => False
theorem post.ext {α β : Type} {c : Cn} {R : Gs → β → α → Prop} {g g' : Gs} {H H' : Hp} {Q : β → Hp → Prop} {E : XK} {x : Res α} (h : post c R g H Q E x) (e : Ext g H g' H') : post c R g' H' Q E x := by
  cases x with
  | ok d w => exact fun g2 H2 v e2 => h g2 H2 v (e.trans e2)
  | exc k w => exact fun g2 H2 e2 => h g2 H2 (e.trans e2)
  | bad => exact h
theorem post.mono {α β : Type} {c : Cn} {R : Gs → β → α → Prop} {g : Gs} {H : Hp} {Q Q' : β → Hp → Prop} {E : XK} {x : Res α} (h : post c R g H Q E x) (f : ∀ v H', Q v H' → Q' v H') : post c R g H Q' E x := by
  cases x with
  | ok d w => exact fun g2 H2 v e2 w2 r => f _ _ (h g2 H2 v e2 w2 r)
  | exc k w => exact h
  | bad => exact h
abbrev ME := Rho → Wd → Res D
abbrev MA := Rho → Wd → Res (List D)
/-- the reading of an expression that means m -/
def rd (c : Cn) (W : WX) (m : ME) : TE := fun σ H Q => ∃ B g r w, EOk c B g H r σ ∧ WOk c g H w ∧ post c (Rep c) g H Q (WE W σ) (m r w)
def rdA (c : Cn) (W : WX) (m : MA) : TA := fun σ H Q => ∃ B g r w, EOk c B g H r σ ∧ WOk c g H w ∧ post c (RepL c) g H Q (WE W σ) (m r w)
/-- a test -/
def ofB : Res D → Res Bool := fun x => x.bind fun d w => match d with | .bl b => .ok b w | _ => .bad
def rdT (c : Cn) (W : WX) (m : ME) : TT := fun σ H Q => ∃ B g r w, EOk c B g H r σ ∧ WOk c g H w ∧ post c (fun _ v d => v = d) g H Q (WE W σ) (ofB (m r w))

/-- one thing after another -/
theorem bnd {α β γ δ : Type} {c : Cn} {R : Gs → β → α → Prop} {R' : Gs → δ → γ → Prop} {g : Gs} {H : Hp} {Q : δ → Hp → Prop} {E : XK} {x : Res α} {f : α → Wd → Res γ} (h : post c R' g H Q E (x.bind f))
    {Q1 : β → Hp → Prop} (k : ∀ g1 H1 v d w1, x = .ok d w1 → Ext g H g1 H1 → WOk c g1 H1 w1 → R g1 v d → post c R' g1 H1 Q E (f d w1) → Q1 v H1) : post c R g H Q1 E x := by
  cases x with
  | ok d w => exact fun g1 H1 v e w1 r => k g1 H1 v d w rfl e w1 r (post.ext (show post c R' g H Q E (f d w) from h) e)
  | exc k w => exact h
  | bad => exact h
end RL

namespace RL
open PySem L2

theorem _root_.L2.PE.mono {X : Cx} {e : Expr} {t t' : TE} (h : PE X e t) (f : ∀ σ H Q, t' σ H Q → t σ H Q) : PE X e t' := ⟨fun pins s σ H Q I q => h.run pins s σ H Q I (f _ _ _ q)⟩
theorem _root_.L2.PT.mono {X : Cx} {e : Expr} {t t' : TT} (h : PT X e t) (f : ∀ σ H Q, t' σ H Q → t σ H Q) : PT X e t' := ⟨fun pins s σ H Q I q => h.run pins s σ H Q I (f _ _ _ q)⟩
theorem _root_.L2.PW.mono {X : Cx} {e : Expr} {t t' : TT} (h : PW X e t) (f : ∀ σ H Q, t' σ H Q → t σ H Q) : PW X e t' := ⟨fun wh pins s σ H Q I q => h.run wh pins s σ H Q I (f _ _ _ q)⟩
theorem _root_.L2.PA.mono {X : Cx} {e : List Expr} {t t' : TA} (h : PA X e t) (f : ∀ σ H Q, t' σ H Q → t σ H Q) : PA X e t' := ⟨fun p pins s σ H Q I q => h.run p pins s σ H Q I (f _ _ _ q)⟩
theorem _root_.L2.PS.mono {X : Cx} {e : Stmt} {t t' : TS} (h : PS X e t) (f : ∀ D σ H, t' D σ H → t D σ H) : PS X e t' := ⟨fun pins s σ H D I q => h.run pins s σ H D I (f _ _ _ q)⟩
theorem _root_.L2.PSs.mono {X : Cx} {e : List Stmt} {t t' : TS} (h : PSs X e t) (f : ∀ D σ H, t' D σ H → t D σ H) : PSs X e t' := ⟨fun pins s σ H D I q => h.run pins s σ H D I (f _ _ _ q)⟩

/-- a pure answer or none -/
def lift {α : Type} : Option α → Wd → Res α
  | some d, w => .ok d w
  | none, _ => .bad
/-- big lists are not looked at -/
def big : Nat := 100000
theorem big_le : big ≤ sizeLine := by decide
/-- an int of fewer than 8000 bits -/
def sm (i : Int) : Bool := decide (i.natAbs.log2 < 8000)
theorem sm_mul {i j : Int} (h : sm i = true) (k : sm j = true) : CMulW i j := by
  have h1 := of_decide_eq_true h
  have h2 := of_decide_eq_true k
  unfold CMulW
  omega
theorem sm_div {i j : Int} (h : 0 < j) (k : sm j = true) : CDivW i j := by
  have h2 := of_decide_eq_true k
  exact ⟨h, by omega⟩

/-! ### comparing data -/
mutual
def toPy : D → PyData
  | .non => .none
  | .bl b => .bool b
  | .int i => .int i
  | .str z => .str z
  | .lst xs => .list (toPyL xs)
  | .tup xs => .tuple (toPyL xs)
  | .drw => .dict []
  | .tab _ => .dict []
  | .exc _ => .dict []
def toPyL : List D → List PyData
  | [] => []
  | x :: xs => toPy x :: toPyL xs
end
/-- no deeper than n, no object in it, its texts fine -/
def okD : Nat → D → Bool
  | _, .non => true
  | _, .bl _ => true
  | _, .int _ => true
  | _, .str z => PyData.strOk z
  | n + 1, .lst xs => xs.all (okD n)
  | n + 1, .tup xs => xs.all (okD n)
  | _, _ => false
def eqL (f : D → D → Bool) : List D → List D → Bool
  | [], [] => true
  | x :: xs, y :: ys => f x y && eqL f xs ys
  | _, _ => false
def eqN : Nat → D → D → Bool
  | _, .non, .non => true
  | _, .bl a, .bl b => a == b
  | _, .bl a, .int j => (if a then 1 else 0) == j
  | _, .int i, .bl b => i == (if b then 1 else 0)
  | _, .int i, .int j => i == j
  | _, .str x, .str y => x == y
  | n + 1, .lst xs, .lst ys => eqL (eqN n) xs ys
  | n + 1, .tup xs, .tup ys => eqL (eqN n) xs ys
  | _, _, _ => false
theorem okL_py (n : Nat) (ih : ∀ d, okD n d = true → (toPy d).canLay0 = true ∧ (toPy d).depth ≤ n) : ∀ xs : List D, xs.all (okD n) = true → PyData.canLayAll0 (toPyL xs) = true ∧ PyData.depthAll (toPyL xs) ≤ n
  | [], _ => by simp [toPyL, PyData.canLayAll0, PyData.depthAll]
  | x :: xs, h => by
    simp only [List.all_cons, Bool.and_eq_true] at h
    obtain ⟨a, b⟩ := ih x h.1
    obtain ⟨a', b'⟩ := okL_py n ih xs h.2
    simp only [toPyL, PyData.canLayAll0, PyData.depthAll, a, a', Bool.and_self, true_and]
    omega
theorem ok_py : ∀ (n : Nat) (d : D), okD n d = true → (toPy d).canLay0 = true ∧ (toPy d).depth ≤ n := by
  intro n
  induction n with
  | zero => intro d h; cases d <;> simp_all [okD, toPy, PyData.canLay0, PyData.depth]
  | succ n ih =>
    intro d h
    cases d with
    | lst xs =>
      obtain ⟨a, b⟩ := okL_py n ih xs (by simpa [okD] using h)
      simp only [toPy, PyData.canLay0, PyData.depth, a, true_and]
      omega
    | tup xs =>
      obtain ⟨a, b⟩ := okL_py n ih xs (by simpa [okD] using h)
      simp only [toPy, PyData.canLay0, PyData.depth, a, true_and]
      omega
    | _ => simp_all [okD, toPy, PyData.canLay0, PyData.depth]
theorem ok_shaped {n : Nat} {d : D} (hn : n ≤ 64) (h : okD n d = true) : SeqAt.shaped (toPy d) = true := by
  obtain ⟨a, b⟩ := ok_py n d h
  unfold SeqAt.shaped
  rw [a]
  simp
  omega
theorem eqL_py (n : Nat) (ih : ∀ d e, okD n d = true → okD n e = true → PyData.eqv (toPy d) (toPy e) = eqN n d e) : ∀ xs ys : List D, xs.all (okD n) = true → ys.all (okD n) = true → PyData.eqvAll (toPyL xs) (toPyL ys) = eqL (eqN n) xs ys
  | [], [], _, _ => by simp [toPyL, PyData.eqvAll, eqL]
  | [], _ :: _, _, _ => by simp [toPyL, PyData.eqvAll, eqL]
  | _ :: _, [], _, _ => by simp [toPyL, PyData.eqvAll, eqL]
  | x :: xs, y :: ys, h, k => by
    simp only [List.all_cons, Bool.and_eq_true] at h k
    simp only [toPyL, PyData.eqvAll, eqL, ih x y h.1 k.1, eqL_py n ih xs ys h.2 k.2]
theorem eq_py : ∀ (n : Nat) (d e : D), okD n d = true → okD n e = true → PyData.eqv (toPy d) (toPy e) = eqN n d e := by
  intro n
  induction n with
  | zero => intro d e h k; cases d <;> cases e <;> simp_all [okD, toPy, PyData.eqv, eqN]
  | succ n ih =>
    intro d e h k
    cases d with
    | lst xs =>
      cases e with
      | lst ys => simpa [toPy, PyData.eqv, eqN] using eqL_py n ih xs ys (by simpa [okD] using h) (by simpa [okD] using k)
      | _ => simp_all [okD, toPy, PyData.eqv, eqN]
    | tup xs =>
      cases e with
      | tup ys => simpa [toPy, PyData.eqv, eqN] using eqL_py n ih xs ys (by simpa [okD] using h) (by simpa [okD] using k)
      | _ => simp_all [okD, toPy, PyData.eqv, eqN]
    | _ => cases e <;> simp_all [okD, toPy, PyData.eqv, eqN]
mutual
theorem Rep.dp {c : Cn} {g : Gs} {H : Hp} {K : PySem.W.Frag} (s : Same g.F H) : ∀ {d : D} {v : V} {n : Nat}, okD n d = true → Rep c g v d → Dp K H v (toPy d)
  | .non, _, _, _, r => by cases r; exact .non
  | .bl _, _, _, _, r => by cases r; exact .bl _
  | .int _, _, _, _, r => by cases r; exact .int _
  | .str _, _, _, _, r => by cases r; exact .str _
  | .lst ds, _, 0, k, r => by simp [okD] at k
  | .lst ds, _, n + 1, k, r => by
    cases r with
    | lst e l => exact .lst (SqL.of (s _ _ e)) (RepL.dp s (by simpa [okD] using k) l)
  | .tup ds, _, 0, k, r => by simp [okD] at k
  | .tup ds, _, n + 1, k, r => by
    cases r with
    | tup e l => exact .tup (SqT.of (s _ _ e)) (RepL.dp s (by simpa [okD] using k) l)
  | .drw, _, n, k, r => by cases n <;> simp [okD] at k
  | .tab _, _, n, k, r => by cases n <;> simp [okD] at k
  | .exc _, _, n, k, r => by cases n <;> simp [okD] at k
theorem RepL.dp {c : Cn} {g : Gs} {H : Hp} {K : PySem.W.Frag} (s : Same g.F H) : ∀ {ds : List D} {vs : List V} {n : Nat}, ds.all (okD n) = true → RepL c g vs ds → DpAll K H vs (toPyL ds)
  | [], _, _, _, r => by cases r; exact .nil
  | d :: ds, _, n, k, r => by
    cases r with
    | cons a b =>
      simp only [List.all_cons, Bool.and_eq_true] at k
      exact .cons (Rep.dp s k.1 a) (RepL.dp s k.2 b)
end
/-- == as Python has it -/
def bEq (d e : D) : Option D := if okD 12 d && okD 12 e then some (.bl (eqN 12 d e)) else none
def bNe (d e : D) : Option D := if okD 12 d && okD 12 e then some (.bl (!eqN 12 d e)) else none
end RL

namespace RL
open PySem L2

inductive Bop where
  | add | sub | mul | fdiv | mod | pow | eq | ne | lt | le | gt | ge | is | isn | mem | nmem
  deriving DecidableEq
def isNon : D → Bool
  | .non => true
  | _ => false
def bAdd : D → D → Option D
  | .int a, .int b => some (.int (a + b))
  | .lst xs, .lst ys => if xs.length + ys.length ≤ big then some (.lst (xs ++ ys)) else none
  | .str a, .str b => if a.length + b.length ≤ big then some (.str (a ++ b)) else none
  | _, _ => none
def bSub : D → D → Option D
  | .int a, .int b => some (.int (a - b))
  | _, _ => none
def bMul : D → D → Option D
  | .int a, .int b => if sm a && sm b then some (.int (a * b)) else none
  | .lst xs, .int k => if decide (0 ≤ k) && decide (k ≤ big) && decide (xs.length * k.toNat ≤ big) then some (.lst (List.replicate k.toNat xs).flatten) else none
  | _, _ => none
def bDiv : D → D → Option D
  | .int a, .int b => if decide (0 < b) && sm b then some (.int (a / b)) else none
  | _, _ => none
def bMod : D → D → Option D
  | .int a, .int b => if 0 < b then some (.int (a % b)) else none
  | _, _ => none
def bPow : D → D → Option D
  | .int a, .int b => if decide (0 ≤ b) && decide (b ≤ 1000) && decide (a.natAbs < 2 ^ 64) then some (.int (a ^ b.toNat)) else none
  | _, _ => none
def bLt : D → D → Option D
  | .int a, .int b => some (.bl (decide (a < b)))
  | _, _ => none
def bLe : D → D → Option D
  | .int a, .int b => some (.bl (decide (a ≤ b)))
  | _, _ => none
def bGt : D → D → Option D
  | .int a, .int b => some (.bl (decide (b < a)))
  | _, _ => none
def bGe : D → D → Option D
  | .int a, .int b => some (.bl (decide (b ≤ a)))
  | _, _ => none
def bIs : D → D → Option D
  | d, .non => some (.bl (isNon d))
  | .bl a, .bl b => some (.bl (decide (a = b)))
  | _, _ => none
def bIsn : D → D → Option D
  | d, .non => some (.bl (!isNon d))
  | .bl a, .bl b => some (.bl (!decide (a = b)))
  | _, _ => none
def bMem : D → D → Option D
  | d, .lst xs => if okD 11 d && xs.all (okD 11) then some (.bl (xs.any fun z => eqN 11 z d)) else none
  | _, _ => none
def bNmem : D → D → Option D
  | d, .lst xs => if okD 11 d && xs.all (okD 11) then some (.bl (!xs.any fun z => eqN 11 z d)) else none
  | _, _ => none
def bop : Bop → D → D → Option D
  | .add => bAdd
  | .sub => bSub
  | .mul => bMul
  | .fdiv => bDiv
  | .mod => bMod
  | .pow => bPow
  | .eq => bEq
  | .ne => bNe
  | .lt => bLt
  | .le => bLe
  | .gt => bGt
  | .ge => bGe
  | .is => bIs
  | .isn => bIsn
  | .mem => bMem
  | .nmem => bNmem
def opOf : Operator → Option Bop
  | .Add => some .add
  | .Sub => some .sub
  | .Mult => some .mul
  | .FloorDiv => some .fdiv
  | .Mod => some .mod
  | .Pow => some .pow
  | _ => none
def cmpOf : CmpOp → Option Bop
  | .Eq => some .eq
  | .NotEq => some .ne
  | .Lt => some .lt
  | .LtE => some .le
  | .Gt => some .gt
  | .GtE => some .ge
  | .Is => some .is
  | .IsNot => some .isn
  | .In => some .mem
  | .NotIn => some .nmem

/-- what is wanted of a pure answer -/
def Wants (c : Cn) (g : Gs) (H : Hp) (w : Wd) (d : D) (Q : VK) : Prop := ∀ g' H' v, Ext g H g' H' → WOk c g' H' w → Rep c g' v d → Q v H'
theorem Wants.at {c : Cn} {g : Gs} {H : Hp} {w : Wd} {d : D} {Q : VK} (h : Wants c g H w d Q) (k : WOk c g H w) {v : V} (r : Rep c g v d) : Q v H := h g H v (Ext.refl _ _) k r
theorem Wants.lst {c : Cn} {g : Gs} {H : Hp} {w : Wd} {ds : List D} {vs : List V} {Q : VK} (h : Wants c g H w (.lst ds) Q) (k : WOk c g H w) (r : RepL c g vs ds) : ∀ p, H p = none → Q (.ref p) (upd H p (.lst vs)) := fun p hp =>
  h _ _ _ (Ext.laid k hp) (k.laid hp) (.lst upd_same (r.mono (Ext.laid (o := .lst vs) k hp).toGle))
theorem Wants.tup {c : Cn} {g : Gs} {H : Hp} {w : Wd} {ds : List D} {vs : List V} {Q : VK} (h : Wants c g H w (.tup ds) Q) (k : WOk c g H w) (r : RepL c g vs ds) : ∀ p, H p = none → Q (.ref p) (upd H p (.tup vs)) := fun p hp =>
  h _ _ _ (Ext.laid k hp) (k.laid hp) (.tup upd_same (r.mono (Ext.laid (o := .tup vs) k hp).toGle))
/-- a rule r answers what b says -/
def OpS (c : Cn) (f : D → D → Option D) (r : R2) : Prop := ∀ g H w x y dx dy d Q, WOk c g H w → Rep c g x dx → Rep c g y dy → f dx dy = some d → Wants c g H w d Q → r x y H Q

theorem Rep.isNon {c : Cn} {g : Gs} {v : V} {d : D} (r : Rep c g v d) : decide (v = V.non) = RL.isNon d := by
  cases r <;> simp [RL.isNon]
section
variable {c : Cn}
theorem opS_add : OpS c bAdd (fun x y H Q => (rI0 fun i j => .int (i + j)) x y H Q ∨ (rCat x y H Q ∨ (∃ i j, x = .str i ∧ y = .str j ∧ i.length + j.length ≤ sizeLine ∧ Q (.str (i ++ j)) H))) := by
  intro g H w x y dx dy d Q k rx ry e q
  unfold bAdd at e
  split at e
  · cases e; cases rx; cases ry
    exact .inl ⟨_, _, rfl, rfl, q.at k (.int _)⟩
  · split at e <;> cases e
    rename_i hl
    cases rx with
    | lst hx lx =>
      cases ry with
      | lst hy ly => exact .inr (.inl ⟨_, _, _, _, rfl, rfl, k.sub _ _ hx, k.sub _ _ hy, by rw [lx.length, ly.length]; exact Nat.le_trans hl big_le, q.lst k (lx.append ly)⟩)
  · split at e <;> cases e
    rename_i hl
    cases rx; cases ry
    exact .inr (.inr ⟨_, _, rfl, rfl, Nat.le_trans hl big_le, q.at k (.str _)⟩)
  all_goals cases e
theorem opS_sub : OpS c bSub (rI0 fun i j => .int (i - j)) := by
  intro g H w x y dx dy d Q k rx ry e q
  unfold bSub at e
  split at e
  · cases e; cases rx; cases ry
    exact ⟨_, _, rfl, rfl, q.at k (.int _)⟩
  all_goals cases e
theorem opS_mul : OpS c bMul (fun x y H Q => (rI CMulW fun i j => .int (i * j)) x y H Q ∨ rRep x y H Q) := by
  intro g H w x y dx dy d Q k rx ry e q
  unfold bMul at e
  split at e
  · split at e <;> cases e
    rename_i hs
    rw [Bool.and_eq_true] at hs
    cases rx; cases ry
    exact .inl ⟨_, _, rfl, rfl, sm_mul hs.1 hs.2, q.at k (.int _)⟩
  · split at e <;> cases e
    rename_i hs
    simp only [Bool.and_eq_true, decide_eq_true_eq] at hs
    obtain ⟨⟨h1, h2⟩, h3⟩ := hs
    have hb : (big : Int) < 2 ^ 63 := by decide
    cases ry
    cases rx with
    | lst hx lx => exact .inr ⟨_, _, _, rfl, rfl, k.sub _ _ hx, by omega, by omega, by rw [lx.length]; exact Nat.le_trans h3 big_le, q.lst k (lx.rep _)⟩
  all_goals cases e
theorem opS_fdiv : OpS c bDiv (rI CDivW fun i j => .int (i / j)) := by
  intro g H w x y dx dy d Q k rx ry e q
  unfold bDiv at e
  split at e
  · split at e <;> cases e
    rename_i hs
    simp only [Bool.and_eq_true, decide_eq_true_eq] at hs
    cases rx; cases ry
    exact ⟨_, _, rfl, rfl, sm_div hs.1 hs.2, q.at k (.int _)⟩
  all_goals cases e
theorem opS_mod : OpS c bMod (rI (fun _ j => 0 < j) fun i j => .int (i % j)) := by
  intro g H w x y dx dy d Q k rx ry e q
  unfold bMod at e
  split at e
  · split at e <;> cases e
    rename_i hs
    cases rx; cases ry
    exact ⟨_, _, rfl, rfl, hs, q.at k (.int _)⟩
  all_goals cases e
theorem opS_pow : OpS c bPow (rI CPow fun i j => .int (i ^ j.toNat)) := by
  intro g H w x y dx dy d Q k rx ry e q
  unfold bPow at e
  split at e
  · split at e <;> cases e
    rename_i hs
    simp only [Bool.and_eq_true, decide_eq_true_eq] at hs
    cases rx; cases ry
    exact ⟨_, _, rfl, rfl, ⟨hs.1.1, by omega, hs.2⟩, q.at k (.int _)⟩
  all_goals cases e
theorem opS_eq {K : PySem.W.Frag} : OpS c bEq (rEqD K) := by
  intro g H w x y dx dy d Q k rx ry e q
  have e : bEq dx dy = some d := e
  unfold bEq at e
  split at e <;> cases e
  rename_i hs
  rw [Bool.and_eq_true] at hs
  exact ⟨_, _, rx.dp k.sub hs.1, ry.dp k.sub hs.2, ok_shaped (by decide) hs.1, ok_shaped (by decide) hs.2, by rw [eq_py 12 dx dy hs.1 hs.2]; exact q.at k (.bl _)⟩
theorem opS_ne {K : PySem.W.Frag} : OpS c bNe (rNeD K) := by
  intro g H w x y dx dy d Q k rx ry e q
  have e : bNe dx dy = some d := e
  unfold bNe at e
  split at e <;> cases e
  rename_i hs
  rw [Bool.and_eq_true] at hs
  exact ⟨_, _, rx.dp k.sub hs.1, ry.dp k.sub hs.2, ok_shaped (by decide) hs.1, ok_shaped (by decide) hs.2, by rw [eq_py 12 dx dy hs.1 hs.2]; exact q.at k (.bl _)⟩
theorem opS_lt : OpS c bLt (rI0 fun i j => .bl (decide (i < j))) := by
  intro g H w x y dx dy d Q k rx ry e q
  unfold bLt at e
  split at e
  · cases e; cases rx; cases ry
    exact ⟨_, _, rfl, rfl, q.at k (.bl _)⟩
  all_goals cases e
theorem opS_le : OpS c bLe (rI0 fun i j => .bl (decide (i ≤ j))) := by
  intro g H w x y dx dy d Q k rx ry e q
  unfold bLe at e
  split at e
  · cases e; cases rx; cases ry
    exact ⟨_, _, rfl, rfl, q.at k (.bl _)⟩
  all_goals cases e
theorem opS_gt : OpS c bGt (rI0 fun i j => .bl (decide (j < i))) := by
  intro g H w x y dx dy d Q k rx ry e q
  unfold bGt at e
  split at e
  · cases e; cases rx; cases ry
    exact ⟨_, _, rfl, rfl, q.at k (.bl _)⟩
  all_goals cases e
theorem opS_ge : OpS c bGe (rI0 fun i j => .bl (decide (j ≤ i))) := by
  intro g H w x y dx dy d Q k rx ry e q
  unfold bGe at e
  split at e
  · cases e; cases rx; cases ry
    exact ⟨_, _, rfl, rfl, q.at k (.bl _)⟩
  all_goals cases e
theorem opS_is : OpS c bIs (fun x y H Q => (y = .non ∧ Q (.bl (decide (x = .non))) H) ∨ rIsB x y H Q) := by
  intro g H w x y dx dy d Q k rx ry e q
  unfold bIs at e
  split at e
  · cases e; cases ry
    exact .inl ⟨rfl, by rw [rx.isNon]; exact q.at k (.bl _)⟩
  · cases e; cases rx; cases ry
    exact .inr ⟨_, _, rfl, rfl, q.at k (.bl _)⟩
  all_goals cases e
theorem opS_isn : OpS c bIsn (fun x y H Q => (y = .non ∧ Q (.bl (!decide (x = .non))) H) ∨ rNotB x y H Q) := by
  intro g H w x y dx dy d Q k rx ry e q
  unfold bIsn at e
  split at e
  · cases e; cases ry
    exact .inl ⟨rfl, by rw [rx.isNon]; exact q.at k (.bl _)⟩
  · cases e; cases rx; cases ry
    exact .inr ⟨_, _, rfl, rfl, q.at k (.bl _)⟩
  all_goals cases e
theorem any_py (d : D) (hd : okD 11 d = true) : ∀ xs : List D, xs.all (okD 11) = true → ((toPyL xs).any fun z => PyData.eqv z (toPy d)) = xs.any fun z => eqN 11 z d
  | [], _ => rfl
  | x :: xs, h => by
    simp only [List.all_cons, Bool.and_eq_true] at h
    simp only [toPyL, List.any_cons, eq_py 11 x d h.1 hd, any_py d hd xs h.2]
theorem opS_mem {K : PySem.W.Frag} : OpS c bMem (rInD K) := by
  intro g H w x y dx dy d Q k rx ry e q
  unfold bMem at e
  split at e
  · split at e <;> cases e
    rename_i hs
    rw [Bool.and_eq_true] at hs
    have hl : okD 12 (.lst _) = true := hs.2
    exact ⟨_, _, rx.dp k.sub hs.1, ry.dp k.sub hl, ok_shaped (by decide) hs.1, ok_shaped (by decide) hl, by rw [any_py _ hs.1 _ hs.2]; exact q.at k (.bl _)⟩
  all_goals cases e
theorem opS_nmem {K : PySem.W.Frag} : OpS c bNmem (rNotInD K) := by
  intro g H w x y dx dy d Q k rx ry e q
  unfold bNmem at e
  split at e
  · split at e <;> cases e
    rename_i hs
    rw [Bool.and_eq_true] at hs
    have hl : okD 12 (.lst _) = true := hs.2
    exact ⟨_, _, rx.dp k.sub hs.1, ry.dp k.sub hl, ok_shaped (by decide) hs.1, ok_shaped (by decide) hl, by rw [any_py _ hs.1 _ hs.2]; exact q.at k (.bl _)⟩
  all_goals cases e
/-- each arithmetic operator has a rule -/
theorem bin_rule {X : Cx} {op : Operator} {b : Bop} (h : opOf op = some b) : ∃ r, OpR X (binaryOp op) r ∧ OpS c (bop b) r := by
  cases op <;> cases h
  · exact ⟨_, op_add.or (op_cat.or op_add_str), opS_add⟩
  · exact ⟨_, op_sub, opS_sub⟩
  · exact ⟨_, op_mulW.or op_rep, opS_mul⟩
  · exact ⟨_, op_mod, opS_mod⟩
  · exact ⟨_, op_pow, opS_pow⟩
  · exact ⟨_, op_fdivW, opS_fdiv⟩
theorem cmp_rule {X : Cx} (hu : X.A.units + 65 < cLine) {op : CmpOp} {b : Bop} (h : cmpOf op = some b) : ∃ r, OpR X (compareOp op) r ∧ OpS c (bop b) r := by
  cases op <;> cases h
  · exact ⟨_, op_eqD (by omega), opS_eq⟩
  · exact ⟨_, op_neD (by omega), opS_ne⟩
  · exact ⟨_, op_lt, opS_lt⟩
  · exact ⟨_, op_le, opS_le⟩
  · exact ⟨_, op_gt, opS_gt⟩
  · exact ⟨_, op_ge, opS_ge⟩
  · exact ⟨_, op_isN.or op_isBl, opS_is⟩
  · exact ⟨_, op_notN.or op_notBl, opS_isn⟩
  · exact ⟨_, op_inD hu, opS_mem⟩
  · exact ⟨_, op_notInD hu, opS_nmem⟩
end
end RL

namespace RL
open PySem L2

/-! ### the meanings of expressions -/
def mVar (i : Nat) : ME := fun r w => match r[i]? with
  | some (.dat d) => .ok d w
  | _ => .bad
def mCst (d : D) : ME := fun _ w => .ok d w
def mBin (f : D → D → Option D) (a b : ME) : ME := fun r w => (a r w).bind fun x w => (b r w).bind fun y w => lift (f x y) w
def mUn (f : D → Option D) (a : ME) : ME := fun r w => (a r w).bind fun x w => lift (f x) w
def dNeg : D → Option D
  | .int i => some (.int (-i))
  | _ => none
def dNot : D → Option D
  | .bl b => some (.bl (!b))
  | _ => none
def mAnd (a b : ME) : ME := fun r w => (a r w).bind fun x w => match x with
  | .bl true => b r w
  | .bl false => .ok (.bl false) w
  | _ => .bad
def mOr (a b : ME) : ME := fun r w => (a r w).bind fun x w => match x with
  | .bl true => .ok (.bl true) w
  | .bl false => b r w
  | _ => .bad
def mIf (t a b : ME) : ME := fun r w => (t r w).bind fun x w => match x with
  | .bl true => a r w
  | .bl false => b r w
  | _ => .bad
def mChn (f f' : D → D → Option D) (a b d : ME) : ME := fun r w => (a r w).bind fun x w => (b r w).bind fun y w => (lift (f x y) w).bind fun z w => match z with
  | .bl true => (d r w).bind fun u w => lift (f' y u) w
  | .bl false => .ok (.bl false) w
  | _ => .bad
def mNil : MA := fun _ w => .ok [] w
def mCons (a : ME) (b : MA) : MA := fun r w => (a r w).bind fun x w => (b r w).bind fun xs w => .ok (x :: xs) w
def mSeq (k : List D → D) (a : MA) : ME := fun r w => (a r w).bind fun xs w => lift (if xs.length ≤ big then some (k xs) else none) w
def dIx : D → D → Option D
  | .lst xs, .int i => atI xs i
  | .tup xs, .int i => atI xs i
  | .str z, .int i => if z.length ≤ big then (atI z.cps.toList i).map fun ch => .str ⟨#[ch]⟩ else none
  | _, _ => none
def cutD (xs : List D) (lo hi : Option Int) : List D := (xs.drop (HT.sIx xs.length 0 lo)).take (HT.sIx xs.length xs.length hi - HT.sIx xs.length 0 lo)
def dSl : D → Option Int → Option Int → Option D
  | .lst xs, lo, hi => some (.lst (cutD xs lo hi))
  | .str z, lo, hi => if z.length ≤ big then some (.str (cutS z lo hi)) else none
  | _, _, _ => none
def mNo : Rho → Wd → Res (Option Int) := fun _ w => .ok none w
def mPt (a : ME) : Rho → Wd → Res (Option Int) := fun r w => (a r w).bind fun x w => match x with
  | .int i => .ok (some i) w
  | _ => .bad
def mSl (a : ME) (lo hi : Rho → Wd → Res (Option Int)) : ME := fun r w => (a r w).bind fun x w => (lo r w).bind fun l w => (hi r w).bind fun h w => lift (dSl x l h) w
def dRev : D → Option D
  | .lst xs => some (.lst xs.reverse)
  | _ => none
/-- a call of a function that means f -/
abbrev MF := List D → Wd → Res D
def mCall (f : MF) (a : MA) : ME := fun r w => (a r w).bind fun xs w => f xs w
def mPri (f : List D → Option D) (a : MA) : ME := fun r w => (a r w).bind fun xs w => lift (f xs) w

section
variable {c : Cn} {X : Cx} {W : WX} {a b e : Expr} {ma mb md : ME} {pos : Pos}
theorem post_lift {g : Gs} {H : Hp} {w : Wd} {Q : VK} {E : XK} {o : Option D} (h : post c (Rep c) g H Q E (lift o w)) : ∃ d, o = some d ∧ Wants c g H w d Q := by
  cases o with
  | none => exact False.elim h
  | some d => exact ⟨d, rfl, h⟩
theorem rd_bin {f : D → D → Option D} {r : R2} (hs : OpS c f r) {σ : St} {H : Hp} {Q : VK} (h : rd c W (mBin f ma mb) σ H Q) : tOp r (rd c W ma) (rd c W mb) σ H Q := by
  obtain ⟨B, g, ρ, w, E, k, p⟩ := h
  refine ⟨B, g, ρ, w, E, k, bnd p fun g1 H1 x dx w1 _ e1 k1 r1 p1 => ⟨B, g1, ρ, w1, E.ext e1, k1, bnd p1 fun g2 H2 y dy w2 _ e2 k2 r2 p2 => ?_⟩⟩
  obtain ⟨d, ed, q⟩ := post_lift p2
  exact hs g2 H2 w2 x y dx dy d Q k2 (r1.mono e2.toGle) r2 ed q
/-- a test's reading, by the value's -/
theorem rd_test {σ : St} {H : Hp} {Q : Bool → Hp → Prop} (h : rdT c W ma σ H Q) : rd c W ma σ H fun x H' => ∃ k, x = .bl k ∧ Q k H' := by
  obtain ⟨B, g, ρ, w, E, k, p⟩ := h
  refine ⟨B, g, ρ, w, E, k, bnd p fun g1 H1 x dx w1 _ e1 k1 r1 p1 => ?_⟩
  cases r1 with
  | bl b => exact ⟨b, rfl, p1 g1 H1 b (Ext.refl _ _) k1 rfl⟩
  | _ => exact False.elim p1
/-- a value that is a bool, as a test -/
theorem s_test (h : PE X e (rd c W ma)) (he : ∀ whole, isTrue e X.env whole = (do let v ← whole; standAt e.pos; holding [v] (truthy v))) : PT X e (rdT c W ma) := (pt_val h he).mono fun _ _ _ q => rd_test q

theorem s_var {i : Nat} {x : Str} (hN : X.N[i]? = some x) (hv : Vis X.env.scope x) (hd : (x == ("__debug__" : Str)) = false) (hcd : (x == ("__classdict__" : Str)) = false) : PE X (.Name x pos) (rd c W (mVar i)) := by
  refine (pe_var hN hv hd hcd).mono fun σ H Q h => ?_
  obtain ⟨B, g, ρ, w, E, k, p⟩ := h
  unfold mVar at p
  split at p
  · rename_i d e
    obtain ⟨v, h1, h2⟩ := E.dat i d e
    exact ⟨v, h1, p g H v (Ext.refl _ _) k h2⟩
  · exact False.elim p
theorem rd_cst {v : V} {d : D} (hr : ∀ g, Rep c g v d) {σ : St} {H : Hp} {Q : VK} (h : rd c W (mCst d) σ H Q) : tC v σ H Q := by
  obtain ⟨B, g, ρ, w, E, k, p⟩ := h
  exact p g H v (Ext.refl _ _) k (hr g)
theorem s_int {i : Int} {j : Nat} : PE X (.Constant (.int i) j pos) (rd c W (mCst (.int i))) := pe_int.mono fun _ _ _ h => rd_cst (fun _ => .int i) h
theorem s_bl {b : Bool} {j : Nat} : PE X (.Constant (.bool b) j pos) (rd c W (mCst (.bl b))) := pe_bl.mono fun _ _ _ h => rd_cst (fun _ => .bl b) h
theorem s_non {j : Nat} : PE X (.Constant .none j pos) (rd c W (mCst .non)) := pe_non.mono fun _ _ _ h => rd_cst (fun _ => .non) h
theorem s_str {z : Str} {j : Nat} : PE X (.Constant (.str z) j pos) (rd c W (mCst (.str z))) := pe_str.mono fun _ _ _ h => rd_cst (fun _ => .str z) h
theorem s_glob {x : Str} {v : V} {u : Value} {d : D} (hg : Gl X x) (hm : X.mg x = some u) (r : RelV v u) (hr : ∀ g, Rep c g v d) (hd : (x == ("__debug__" : Str)) = false) : PE X (.Name x pos) (rd c W (mCst d)) :=
  (pe_glob hg hm r hd).mono fun _ _ _ h => rd_cst hr h
theorem s_bin {op : Operator} {o : Bop} (ho : opOf op = some o) (ha : PE X a (rd c W ma)) (hb : PE X b (rd c W mb)) : PE X (.BinOp a op b pos) (rd c W (mBin (bop o) ma mb)) := by
  obtain ⟨r, h1, h2⟩ := bin_rule (c := c) (X := X) ho
  exact (pe_op h1 ha hb).mono fun _ _ _ h => rd_bin h2 h
theorem s_cmp (hu : X.A.units + 65 < cLine) {op : CmpOp} {o : Bop} (ho : cmpOf op = some o) (ha : PE X a (rd c W ma)) (hb : PE X b (rd c W mb)) (hm : behindInMarks op b = false) : PE X (.Compare a [op] [b] pos) (rd c W (mBin (bop o) ma mb)) := by
  obtain ⟨r, h1, h2⟩ := cmp_rule (c := c) hu ho
  exact (pe_cmpR h1 ha hb hm).mono fun _ _ _ h => rd_bin h2 h
theorem t_cmp (hu : X.A.units + 65 < cLine) {op : CmpOp} {o : Bop} (ho : cmpOf op = some o) (ha : PE X a (rd c W ma)) (hb : PE X b (rd c W mb)) (hm : behindInMarks op b = false) : PT X (.Compare a [op] [b] pos) (rdT c W (mBin (bop o) ma mb)) := by
  obtain ⟨r, h1, h2⟩ := cmp_rule (c := c) hu ho
  exact (pt_cmpR h1 ha hb hm).mono fun _ _ _ h => rd_bin h2 (rd_test h)
theorem rd_chn {f f' : D → D → Option D} {r r' : R2} (hs : OpS c f r) (hs' : OpS c f' r') {σ : St} {H : Hp} {Q : VK} (h : rd c W (mChn f f' ma mb md) σ H Q) : tChain r r' (rd c W ma) (rd c W mb) (rd c W md) σ H Q := by
  obtain ⟨B, g, ρ, w, E, k, p⟩ := h
  refine ⟨B, g, ρ, w, E, k, bnd p fun g1 H1 x dx w1 _ e1 k1 r1 p1 => ⟨B, g1, ρ, w1, E.ext e1, k1, bnd p1 fun g2 H2 y dy w2 _ e2 k2 r2 p2 => ?_⟩⟩
  cases hf : f dx dy with
  | none => rw [hf] at p2; exact False.elim p2
  | some d =>
    rw [hf] at p2
    refine hs g2 H2 w2 x y dx dy d _ k2 (r1.mono e2.toGle) r2 hf fun g3 H3 v e3 k3 r3 => ?_
    have p3 := post.ext (R := Rep c) p2 e3
    cases r3 with
    | bl z =>
      refine ⟨z, rfl, ?_⟩
      cases z with
      | true =>
        refine iteT ⟨B, g3, ρ, w2, (E.ext e1).ext (e2.trans e3), k3, bnd (show post c (Rep c) g3 H3 Q _ ((md ρ w2).bind fun u w => lift (f' dy u) w) from p3) fun g4 H4 u du w4 _ e4 k4 r4 p4 => ?_⟩
        obtain ⟨d, ed, q⟩ := post_lift p4
        exact hs' g4 H4 w4 y u dy du d Q k4 (r2.mono (e3.trans e4).toGle) r4 ed q
      | false => exact iteF (p3 g3 H3 _ (Ext.refl _ _) k3 (.bl false))
    | _ => exact False.elim p3
theorem s_chn (hu : X.A.units + 65 < cLine) {op op' : CmpOp} {o o' : Bop} {d : Expr} (ho : cmpOf op = some o) (ho' : cmpOf op' = some o') (ha : PE X a (rd c W ma)) (hb : PE X b (rd c W mb)) (hd : PE X d (rd c W md)) (hm : lastMarks [op, op'] [b, d] = false) :
    PE X (.Compare a [op, op'] [b, d] pos) (rd c W (mChn (bop o) (bop o') ma mb md)) := by
  obtain ⟨r, h1, h2⟩ := cmp_rule (c := c) hu ho
  obtain ⟨r', h1', h2'⟩ := cmp_rule (c := c) hu ho'
  exact (pe_chain h1 h1' ha hb hd hm).mono fun _ _ _ h => rd_chn h2 h2' h
theorem t_chn (hu : X.A.units + 65 < cLine) {op op' : CmpOp} {o o' : Bop} {d : Expr} (ho : cmpOf op = some o) (ho' : cmpOf op' = some o') (ha : PE X a (rd c W ma)) (hb : PE X b (rd c W mb)) (hd : PE X d (rd c W md)) (hm : lastMarks [op, op'] [b, d] = false) :
    PT X (.Compare a [op, op'] [b, d] pos) (rdT c W (mChn (bop o) (bop o') ma mb md)) := by
  obtain ⟨r, h1, h2⟩ := cmp_rule (c := c) hu ho
  obtain ⟨r', h1', h2'⟩ := cmp_rule (c := c) hu ho'
  exact (pt_chain h1 h1' ha hb hd hm).mono fun _ _ _ h => rd_chn h2 h2' (rd_test h)
theorem s_neg (ha : PE X a (rd c W ma)) : PE X (.UnaryOp .USub a pos) (rd c W (mUn dNeg ma)) := by
  refine (pe_un un_neg ha).mono fun σ H Q h => ?_
  obtain ⟨B, g, ρ, w, E, k, p⟩ := h
  refine ⟨B, g, ρ, w, E, k, bnd p fun g1 H1 x dx w1 _ e1 k1 r1 p1 => ?_⟩
  obtain ⟨d, ed, q⟩ := post_lift p1
  cases r1 with
  | int i => cases ed; exact ⟨i, rfl, q.at k1 (.int _)⟩
  | _ => cases ed
theorem s_not (ha : PE X a (rd c W ma)) : PE X (.UnaryOp .Not a pos) (rd c W (mUn dNot ma)) := by
  refine (pe_not ha).mono fun σ H Q h => ?_
  obtain ⟨B, g, ρ, w, E, k, p⟩ := h
  refine ⟨B, g, ρ, w, E, k, bnd p fun g1 H1 x dx w1 _ e1 k1 r1 p1 => ?_⟩
  obtain ⟨d, ed, q⟩ := post_lift p1
  cases r1 with
  | bl b => cases ed; exact ⟨b, rfl, q.at k1 (.bl _)⟩
  | _ => cases ed
theorem ofB_bind {α : Type} {x : Res α} {f : α → Wd → Res D} : ofB (x.bind f) = x.bind fun a w => ofB (f a w) := by cases x <;> rfl
theorem bind_ofB {x : Res D} {f : Bool → Wd → Res Bool} : (ofB x).bind f = x.bind fun d w => match d with | .bl b => f b w | _ => .bad := by
  cases x with
  | ok d w => cases d <;> rfl
  | exc k w => rfl
  | bad => rfl
theorem t_not (ha : PT X a (rdT c W ma)) : PT X (.UnaryOp .Not a pos) (rdT c W (mUn dNot ma)) := by
  refine (pt_not ha).mono fun σ H Q h => ?_
  obtain ⟨B, g, ρ, w, E, k, p⟩ := h
  have e : ofB (mUn dNot ma ρ w) = (ofB (ma ρ w)).bind fun b w => .ok (!b) w := by
    rw [bind_ofB]
    unfold mUn
    rw [ofB_bind]
    congr 1; funext d w; cases d <;> rfl
  rw [e] at p
  refine ⟨B, g, ρ, w, E, k, bnd p fun g1 H1 b d w1 _ e1 k1 r1 p1 => ?_⟩
  subst r1
  exact p1 g1 H1 _ (Ext.refl _ _) k1 rfl
theorem s_and {rest : List Expr} (ha : PE X a (rd c W ma)) (hb : PE X (.BoolOp .And (b :: rest) pos) (rd c W mb)) : PE X (.BoolOp .And (a :: b :: rest) pos) (rd c W (mAnd ma mb)) := by
  refine (pe_and ha hb).mono fun σ H Q h => ?_
  obtain ⟨B, g, ρ, w, E, k, p⟩ := h
  refine ⟨B, g, ρ, w, E, k, bnd p fun g1 H1 x dx w1 _ e1 k1 r1 p1 => ?_⟩
  cases r1 with
  | bl z =>
    refine ⟨z, rfl, ?_⟩
    cases z with
    | true => exact iteT ⟨B, g1, ρ, w1, E.ext e1, k1, p1⟩
    | false => exact iteF (p1 g1 H1 _ (Ext.refl _ _) k1 (.bl false))
  | _ => exact False.elim p1
theorem s_or {rest : List Expr} (ha : PE X a (rd c W ma)) (hb : PE X (.BoolOp .Or (b :: rest) pos) (rd c W mb)) : PE X (.BoolOp .Or (a :: b :: rest) pos) (rd c W (mOr ma mb)) := by
  refine (pe_or ha hb).mono fun σ H Q h => ?_
  obtain ⟨B, g, ρ, w, E, k, p⟩ := h
  refine ⟨B, g, ρ, w, E, k, bnd p fun g1 H1 x dx w1 _ e1 k1 r1 p1 => ?_⟩
  cases r1 with
  | bl z =>
    refine ⟨z, rfl, ?_⟩
    cases z with
    | true => exact iteT (p1 g1 H1 _ (Ext.refl _ _) k1 (.bl true))
    | false => exact iteF ⟨B, g1, ρ, w1, E.ext e1, k1, p1⟩
  | _ => exact False.elim p1
theorem w_and {rest : List Expr} (ha : PT X a (rdT c W ma)) (hb : PW X (.BoolOp .And (b :: rest) pos) (rdT c W mb)) : PW X (.BoolOp .And (a :: b :: rest) pos) (rdT c W (mAnd ma mb)) := by
  refine (pw_and ha hb).mono fun σ H Q h => ?_
  obtain ⟨B, g, ρ, w, E, k, p⟩ := h
  have e : ofB (mAnd ma mb ρ w) = (ofB (ma ρ w)).bind fun b w => if b = true then ofB (mb ρ w) else .ok false w := by
    rw [bind_ofB]
    unfold mAnd
    rw [ofB_bind]
    congr 1; funext d w; cases d with
    | bl b => cases b <;> rfl
    | _ => rfl
  rw [e] at p
  refine ⟨B, g, ρ, w, E, k, bnd p fun g1 H1 b d w1 _ e1 k1 r1 p1 => ?_⟩
  subst r1
  cases b with
  | true => exact iteT ⟨B, g1, ρ, w1, E.ext e1, k1, p1⟩
  | false => exact iteF (p1 g1 H1 _ (Ext.refl _ _) k1 rfl)
theorem w_or {rest : List Expr} (ha : PT X a (rdT c W ma)) (hb : PW X (.BoolOp .Or (b :: rest) pos) (rdT c W mb)) : PW X (.BoolOp .Or (a :: b :: rest) pos) (rdT c W (mOr ma mb)) := by
  refine (pw_or ha hb).mono fun σ H Q h => ?_
  obtain ⟨B, g, ρ, w, E, k, p⟩ := h
  have e : ofB (mOr ma mb ρ w) = (ofB (ma ρ w)).bind fun b w => if b = true then .ok true w else ofB (mb ρ w) := by
    rw [bind_ofB]
    unfold mOr
    rw [ofB_bind]
    congr 1; funext d w; cases d with
    | bl b => cases b <;> rfl
    | _ => rfl
  rw [e] at p
  refine ⟨B, g, ρ, w, E, k, bnd p fun g1 H1 b d w1 _ e1 k1 r1 p1 => ?_⟩
  subst r1
  cases b with
  | true => exact iteT (p1 g1 H1 _ (Ext.refl _ _) k1 rfl)
  | false => exact iteF ⟨B, g1, ρ, w1, E.ext e1, k1, p1⟩
theorem s_ite {t : Expr} (ht : PT X t (rdT c W md)) (ha : PE X a (rd c W ma)) (hb : PE X b (rd c W mb)) : PE X (.IfExp t a b pos) (rd c W (mIf md ma mb)) := by
  refine (pe_ifExp ht ha hb).mono fun σ H Q h => ?_
  obtain ⟨B, g, ρ, w, E, k, p⟩ := h
  have e : mIf md ma mb ρ w = (ofB (md ρ w)).bind fun b w => if b = true then ma ρ w else mb ρ w := by
    unfold mIf ofB
    cases md ρ w with
    | ok d w =>
      cases d with
      | bl b => cases b <;> rfl
      | _ => rfl
    | exc k w => rfl
    | bad => rfl
  rw [e] at p
  refine ⟨B, g, ρ, w, E, k, bnd p fun g1 H1 b d w1 _ e1 k1 r1 p1 => ?_⟩
  subst r1
  cases b with
  | true => exact iteT ⟨B, g1, ρ, w1, E.ext e1, k1, p1⟩
  | false => exact iteF ⟨B, g1, ρ, w1, E.ext e1, k1, p1⟩
theorem a_nil : PA X [] (rdA c W mNil) := pa_nil.mono fun σ H Q h => by
  obtain ⟨B, g, ρ, w, E, k, p⟩ := h
  exact p g H [] (Ext.refl _ _) k .nil
theorem a_cons {es : List Expr} {ms : MA} (ha : PE X a (rd c W ma)) (hb : PA X es (rdA c W ms)) (hs : starEach (a :: es) X.env = (false, eval a X.env) :: starEach es X.env) : PA X (a :: es) (rdA c W (mCons ma ms)) := by
  refine (pa_cons ha hb hs).mono fun σ H Q h => ?_
  obtain ⟨B, g, ρ, w, E, k, p⟩ := h
  exact ⟨B, g, ρ, w, E, k, bnd p fun g1 H1 x dx w1 _ e1 k1 r1 p1 => ⟨B, g1, ρ, w1, E.ext e1, k1, bnd p1 fun g2 H2 y dy w2 _ e2 k2 r2 p2 => p2 g2 H2 _ (Ext.refl _ _) k2 (.cons (r1.mono e2.toGle) r2)⟩⟩
theorem s_tup {es : List Expr} {ms : MA} {j : Nat} (h : PA X es (rdA c W ms)) : PE X (.Tuple es j pos) (rd c W (mSeq .tup ms)) := by
  refine (pe_tup h).mono fun σ H Q h => ?_
  obtain ⟨B, g, ρ, w, E, k, p⟩ := h
  refine ⟨B, g, ρ, w, E, k, bnd p fun g1 H1 x dx w1 _ e1 k1 r1 p1 => ?_⟩
  obtain ⟨d, ed, q⟩ := post_lift p1
  split at ed
  · rename_i hl
    cases ed
    exact ⟨by rw [r1.length]; exact Nat.le_trans hl big_le, q.tup k1 r1⟩
  · cases ed
theorem s_lst {es : List Expr} {ms : MA} (h : PA X es (rdA c W ms)) : PE X (.List es pos) (rd c W (mSeq .lst ms)) := by
  refine (pe_lst h).mono fun σ H Q h => ?_
  obtain ⟨B, g, ρ, w, E, k, p⟩ := h
  refine ⟨B, g, ρ, w, E, k, bnd p fun g1 H1 x dx w1 _ e1 k1 r1 p1 => ?_⟩
  obtain ⟨d, ed, q⟩ := post_lift p1
  split at ed
  · rename_i hl
    cases ed
    exact ⟨by rw [r1.length]; exact Nat.le_trans hl big_le, q.lst k1 r1⟩
  · cases ed
theorem atI_rep {g : Gs} {vs : List V} {ds : List D} (h : RepL c g vs ds) {i : Int} {d : D} (e : atI ds i = some d) : ∃ v, atI vs i = some v ∧ Rep c g v d := by
  unfold atI at e ⊢
  rw [h.length]
  cases q : ixN ds.length i with
  | none => rw [q] at e; cases e
  | some j =>
    rw [q] at e
    obtain ⟨v, h1, h2⟩ := h.getD (show ds[j]? = some d from e)
    exact ⟨v, h1, h2⟩
theorem opS_ix {K : PySem.W.Frag} : OpS c dIx (rIx K) := by
  intro g H w x y dx dy d Q k rx ry e q
  unfold dIx at e
  split at e
  · cases ry
    cases rx with
    | lst hx lx =>
      obtain ⟨v, h1, h2⟩ := atI_rep lx e
      exact .inl ⟨_, _, _, v, rfl, rfl, SqL.of (k.sub _ _ hx), h1, q.at k h2⟩
  · cases ry
    cases rx with
    | tup hx lx =>
      obtain ⟨v, h1, h2⟩ := atI_rep lx e
      exact .inr (.inl ⟨_, _, _, v, rfl, rfl, SqT.of (k.sub _ _ hx), h1, q.at k h2⟩)
  · split at e
    · rename_i z i hl
      cases rx; cases ry
      cases h1 : atI z.cps.toList i with
      | none => rw [h1] at e; cases e
      | some ch =>
        rw [h1] at e; cases e
        exact .inr (.inr ⟨z, i, ch, rfl, rfl, Nat.le_trans hl big_le, h1, q.at k (.str _)⟩)
    · cases e
  · cases e
theorem s_ix (ha : PE X a (rd c W ma)) (hb : PE X b (rd c W mb)) (hs : PlainIx b) : PE X (.Subscript a b pos) (rd c W (mBin dIx ma mb)) := (pe_ix ix_seq ha hb hs).mono fun _ _ _ h => rd_bin opS_ix h
def rdP (c : Cn) (W : WX) (m : Rho → Wd → Res (Option Int)) : TO := fun σ H Q => ∃ B g r w, EOk c B g H r σ ∧ WOk c g H w ∧ post c (fun _ v d => v = d) g H Q (WE W σ) (m r w)
theorem _root_.L2.PO.mono {X : Cx} {e : Option Expr} {t t' : TO} (h : PO X e t) (f : ∀ σ H Q, t' σ H Q → t σ H Q) : PO X e t' := ⟨fun pins s σ H Q I q => h.run pins s σ H Q I (f _ _ _ q)⟩
theorem o_none : PO X none (rdP c W mNo) := po_none.mono fun σ H Q h => by
  obtain ⟨B, g, ρ, w, E, k, p⟩ := h
  exact p g H none (Ext.refl _ _) k rfl
theorem o_some (ha : PE X a (rd c W ma)) : PO X (some a) (rdP c W (mPt ma)) := (po_some ha).mono fun σ H Q h => by
  obtain ⟨B, g, ρ, w, E, k, p⟩ := h
  refine ⟨B, g, ρ, w, E, k, bnd p fun g1 H1 x dx w1 _ e1 k1 r1 p1 => ?_⟩
  cases r1 with
  | int i => exact ⟨i, rfl, p1 g1 H1 _ (Ext.refl _ _) k1 rfl⟩
  | _ => exact False.elim p1
theorem s_sl {lo hi : Option Expr} {ml mh : Rho → Wd → Res (Option Int)} {p2 : Pos} (ha : PE X a (rd c W ma)) (hl : PO X lo (rdP c W ml)) (hh : PO X hi (rdP c W mh)) : PE X (.Subscript a (.Slice lo hi none p2) pos) (rd c W (mSl ma ml mh)) := by
  refine (pe_slice (sl_list.or sl_str) ha hl hh).mono fun σ H Q h => ?_
  obtain ⟨B, g, ρ, w, E, k, p⟩ := h
  refine ⟨B, g, ρ, w, E, k, bnd p fun g1 H1 x dx w1 _ e1 k1 r1 p1 => ⟨B, g1, ρ, w1, E.ext e1, k1, bnd p1 fun g2 H2 l dl w2 _ e2 k2 r2 p2 => ⟨B, g2, ρ, w2, E.ext (e1.trans e2), k2, bnd p2 fun g3 H3 u du w3 _ e3 k3 r3 p3 => ?_⟩⟩⟩
  subst r2; subst r3
  obtain ⟨d, ed, q⟩ := post_lift p3
  have r := r1.mono (e2.trans e3).toGle
  unfold dSl at ed
  split at ed
  · cases ed
    cases r with
    | lst hx lx =>
      refine .inl ⟨_, _, rfl, SqL.of (k3.sub _ _ hx), ?_⟩
      refine q.lst k3 ?_
      unfold cutV cutD
      rw [lx.length]
      exact (lx.drop _).take _
  · split at ed <;> cases ed
    rename_i hl
    cases r
    exact .inr ⟨_, rfl, Nat.le_trans hl big_le, q.at k3 (.str _)⟩
  · cases ed
theorem s_rev {j : Nat} {p1 p2 p3 : Pos} (ha : PE X a (rd c W ma)) : PE X (.Subscript a (.Slice none none (some (.UnaryOp .USub (.Constant (.int 1) j p1) p2)) p3) pos) (rd c W (mUn dRev ma)) := by
  refine (pe_revL ha).mono fun σ H Q h => ?_
  obtain ⟨B, g, ρ, w, E, k, p⟩ := h
  refine ⟨B, g, ρ, w, E, k, bnd p fun g1 H1 x dx w1 _ e1 k1 r1 p1 => ?_⟩
  obtain ⟨d, ed, q⟩ := post_lift p1
  cases r1 with
  | lst hx lx => cases ed; exact ⟨_, _, rfl, SqL.of (k1.sub _ _ hx), q.lst k1 lx.reverse⟩
  | _ => cases ed

/-! ### calls -/
/-- a def that means f -/
def spOf (c : Cn) (n : Nat) (f : MF) : Sp := fun vs H Q E => vs.length = n ∧ ∃ g ds w, RepL c g vs ds ∧ WOk c g H w ∧ post c (Rep c) g H Q E (f ds w)
/-- the def named x is there and means f -/
structure FOk (c : Cn) (X : Cx) (x : Str) (n : Nat) (f : MF) : Prop where
  ex : ∃ (k : Nat) (fa : Addr) (fd : FuncData) (ps : List Str), FnOk X.prog X.w X.K X.mg X.base (L2.CX X.prog X.w) k fa fd ps (spOf c n f) ∧ Room k X.A ∧ X.mg x = some (.ref fa) ∧ PySem.W.keepIn X.K (.ref fa) = true ∧ Binds X.K fd ps []
theorem s_call {x : Str} {es : List Expr} {ms : MA} {n : Nat} {f : MF} {p : Pos} (tk : Takes X W) (F : FOk c X x n f) (hg : Gl X x) (ha : PA X (e :: es) (rdA c W ms)) (hn : (e :: es).length = n) (hl : ∀ r w ds w', ms r w = .ok ds w' → ds.length = n)
    (hdb : (x == ("__debug__" : Str)) = false) (he : starEach (e :: es) X.env = (false, eval e X.env) :: starEach es X.env) (hpl : (backTo pos (starEach es X.env)).any (·.1) = false) : PE X (.Call (.Name x p) (e :: es) [] pos) (rd c W (mCall f ms)) := by
  obtain ⟨k, fa, fd, ps, F, hr, hm, hk, hb⟩ := F.ex
  refine (pe_callSD (E := fun σ => WE W σ) F hr hg hm hk hb .nil (fun σ => passAt tk σ) ha hdb he hpl).mono fun σ H Q h => ?_
  obtain ⟨B, g, ρ, w, E, k, p⟩ := h
  refine ⟨B, g, ρ, w, E, k, bnd p fun g1 H1 vs ds w1 e0 e1 k1 r1 p1 => ?_⟩
  rw [List.append_nil]
  exact ⟨by rw [r1.length]; exact hl _ _ _ _ e0, g1, ds, w1, r1, k1, p1⟩
/-- a built-in whose answer is pure -/
def PrS (c : Cn) (f : List D → Option D) (r : List V → Hp → VK → Prop) : Prop := ∀ g H w vs ds d Q, WOk c g H w → RepL c g vs ds → f ds = some d → Wants c g H w d Q → r vs H Q
theorem s_bi {x : Str} {id : String} {r : List V → Hp → VK → Prop} {es : List Expr} {ms : MA} {f : List D → Option D} {p : Pos} (hc : CallR X (.builtin id) r) (hs : PrS c f r) (hg : Gl X x) (hm : X.mg x = none) (hv : bootBuiltins x = some (.builtin id)) (ha : PA X (e :: es) (rdA c W ms))
    (hn : x ≠ "__name__") (hdb : (x == ("__debug__" : Str)) = false) (he : starEach (e :: es) X.env = (false, eval e X.env) :: starEach es X.env) (hpl : (backTo pos (starEach es X.env)).any (·.1) = false) : PE X (.Call (.Name x p) (e :: es) [] pos) (rd c W (mPri f ms)) := by
  refine (pe_callB hc hg hm hv ha hn hdb he hpl).mono fun σ H Q h => ?_
  obtain ⟨B, g, ρ, w, E, k, p⟩ := h
  refine ⟨B, g, ρ, w, E, k, bnd p fun g1 H1 vs ds w1 e0 e1 k1 r1 p1 => ?_⟩
  obtain ⟨d, ed, q⟩ := post_lift p1
  exact hs g1 H1 w1 vs ds d Q k1 r1 ed q
theorem s_ty {x : Str} {T : String} {r : List V → Hp → VK → Prop} {es : List Expr} {ms : MA} {f : List D → Option D} {p : Pos} (hc : CallR X (.type T) r) (hs : PrS c f r) (hg : Gl X x) (hm : X.mg x = none) (hv : bootBuiltins x = some (.type T)) (ha : PA X (e :: es) (rdA c W ms))
    (hn : x ≠ "__name__") (hdb : (x == ("__debug__" : Str)) = false) (he : starEach (e :: es) X.env = (false, eval e X.env) :: starEach es X.env) (hpl : (backTo pos (starEach es X.env)).any (·.1) = false) : PE X (.Call (.Name x p) (e :: es) [] pos) (rd c W (mPri f ms)) := by
  refine (pe_callTy hc hg hm hv ha hn hdb he hpl).mono fun σ H Q h => ?_
  obtain ⟨B, g, ρ, w, E, k, p⟩ := h
  refine ⟨B, g, ρ, w, E, k, bnd p fun g1 H1 vs ds w1 e0 e1 k1 r1 p1 => ?_⟩
  obtain ⟨d, ed, q⟩ := post_lift p1
  exact hs g1 H1 w1 vs ds d Q k1 r1 ed q
end
end RL

namespace RL
open PySem L2

/-! ### slots changed -/
section
variable {c : Cn} {B : Hp} {g g' : Gs} {H H' : Hp} {r : Rho} {σ : St}
theorem getElem?_set' {α : Type} {l : List α} {i j : Nat} {a b : α} (h : (l.set i a)[j]? = some b) : (i = j ∧ b = a ∧ j < l.length) ∨ (i ≠ j ∧ l[j]? = some b) := by
  by_cases e : i = j
  · subst e
    by_cases hl : i < l.length
    · rw [List.getElem?_set_self hl] at h
      exact .inl ⟨rfl, (Option.some.inj h).symm, hl⟩
    · rw [List.getElem?_eq_none (by simpa using hl)] at h; cases h
  · rw [List.getElem?_set_ne e] at h
    exact .inr ⟨e, h⟩
theorem EOk.setD (h : EOk c B g H r σ) (i : Nat) {v : V} {d : D} (q : Rep c g v d) : EOk c B g H (r.set i (.dat d)) (σ.set i (some v)) := by
  refine ⟨by simp [h.len], fun j e hj => ?_, ?_⟩
  · rcases getElem?_set' hj with ⟨rfl, e2, hl⟩ | ⟨ne, e2⟩
    · cases e2
      exact ⟨v, by rw [List.getElem?_set_self (by rw [← h.len]; exact hl)], q⟩
    · obtain ⟨u, h1, h2⟩ := h.dat j e e2
      exact ⟨u, by rw [List.getElem?_set_ne ne]; exact h1, h2⟩
  · obtain ⟨ad, h1, h2⟩ := h.own
    refine ⟨ad, fun j xs hj => ?_, fun j k xs ys hj hk => ?_⟩
    · rcases getElem?_set' hj with ⟨rfl, e2, hl⟩ | ⟨ne, e2⟩
      · cases e2
      · obtain ⟨a1, a2⟩ := h1 j xs e2
        exact ⟨by rw [List.getElem?_set_ne ne]; exact a1, a2⟩
    · rcases getElem?_set' hj with ⟨rfl, e2, hl⟩ | ⟨ne, e2⟩
      · cases e2
      · rcases getElem?_set' hk with ⟨rfl, e3, hl⟩ | ⟨ne', e3⟩
        · cases e3
        · exact h2 j k xs ys e2 e3
/-- a slot forgotten -/
theorem EOk.drop (h : EOk c B g H r σ) (i : Nat) (v : Option V) : EOk c B g H (r.set i .emp) (σ.set i v) := by
  refine ⟨by simp [h.len], fun j e hj => ?_, ?_⟩
  · rcases getElem?_set' hj with ⟨rfl, e2, hl⟩ | ⟨ne, e2⟩
    · cases e2
    · obtain ⟨u, h1, h2⟩ := h.dat j e e2
      exact ⟨u, by rw [List.getElem?_set_ne ne]; exact h1, h2⟩
  · obtain ⟨ad, h1, h2⟩ := h.own
    refine ⟨ad, fun j xs hj => ?_, fun j k xs ys hj hk => ?_⟩
    · rcases getElem?_set' hj with ⟨rfl, e2, hl⟩ | ⟨ne, e2⟩
      · cases e2
      · obtain ⟨a1, a2⟩ := h1 j xs e2
        exact ⟨by rw [List.getElem?_set_ne ne]; exact a1, a2⟩
    · rcases getElem?_set' hj with ⟨rfl, e2, hl⟩ | ⟨ne, e2⟩
      · cases e2
      · rcases getElem?_set' hk with ⟨rfl, e3, hl⟩ | ⟨ne', e3⟩
        · cases e3
        · exact h2 j k xs ys e2 e3
/-- a slot that holds a list of one's own, just made -/
theorem EOk.setO (h : EOk c B g H r σ) (x : Ext g H g' H') (i : Nat) {p : Addr} {vs : List V} {ds : List D} (hp : H p = none) (hB : B p = none) (hF : g'.F p = none) (hW : p ∉ g'.wadr) (hv : H' p = some (.lst vs)) (q : RepL c g' vs ds) :
    EOk c B g' H' (r.set i (.own ds)) (σ.set i (some (.ref p))) := by
  have h' := h.ext x
  refine ⟨by simp [h.len], fun j e hj => ?_, ?_⟩
  · rcases getElem?_set' hj with ⟨rfl, e2, hl⟩ | ⟨ne, e2⟩
    · cases e2
    · obtain ⟨u, h1, h2⟩ := h'.dat j e e2
      exact ⟨u, by rw [List.getElem?_set_ne ne]; exact h1, h2⟩
  · obtain ⟨ad, h1, h2⟩ := h.own
    have np : ∀ j xs, r[j]? = some (.own xs) → ad j ≠ p := fun j xs e z => by
      obtain ⟨_, _, _, _, vs, a4, _⟩ := h1 j xs e
      rw [z, hp] at a4; cases a4
    refine ⟨fun j => if j = i then p else ad j, fun j xs hj => ?_, fun j k xs ys hj hk => ?_⟩
    · rcases getElem?_set' hj with ⟨rfl, e2, hl⟩ | ⟨ne, e2⟩
      · cases e2
        simp only [if_true]
        exact ⟨by rw [List.getElem?_set_self (by rw [← h.len]; exact hl)], hF, hW, hB, vs, hv, q⟩
      · obtain ⟨a1, a2, a3, a0, vs', a4, a5⟩ := h1 j xs e2
        have nn : H (ad j) ≠ none := by rw [a4]; simp
        dsimp only
        rw [if_neg (Ne.symm ne)]
        refine ⟨by rw [List.getElem?_set_ne ne]; exact a1, x.frF _ a2 nn, fun z => ?_, a0, vs', x.keep _ _ a4 a3, a5.mono x.toGle⟩
        rcases x.frW _ z with q | q
        · exact a3 q
        · exact nn q
    · rcases getElem?_set' hj with ⟨rfl, e2, hl⟩ | ⟨ne, e2⟩
      · rcases getElem?_set' hk with ⟨rfl, e3, hl⟩ | ⟨ne', e3⟩
        · exact fun _ => rfl
        · dsimp only
          rw [if_pos rfl, if_neg (Ne.symm ne')]
          exact fun z => (np k ys e3 z.symm).elim
      · rcases getElem?_set' hk with ⟨rfl, e3, hl⟩ | ⟨ne', e3⟩
        · dsimp only
          rw [if_neg (Ne.symm ne), if_pos rfl]
          exact fun z => (np j xs e2 z).elim
        · dsimp only
          rw [if_neg (Ne.symm ne), if_neg (Ne.symm ne')]
          exact h2 j k xs ys e2 e3
end

/-! ### targets -/
mutual
inductive Tg where
  | nm (i : Nat) | tp (ts : Tgs)
inductive Tgs where
  | nil | cons (t : Tg) (ts : Tgs)
end
mutual
def bindT : Tg → D → Rho → Option Rho
  | .nm i, d, r => some (r.set i (.dat d))
  | .tp ts, .tup ds, r => bindTs ts ds r
  | .tp _, _, _ => none
def bindTs : Tgs → List D → Rho → Option Rho
  | .nil, [], r => some r
  | .cons t ts, d :: ds, r => (bindT t d r).bind fun r1 => bindTs ts ds r1
  | _, _, _ => none
end
mutual
def slotsT : Tg → List Nat
  | .nm i => [i]
  | .tp ts => slotsTs ts
def slotsTs : Tgs → List Nat
  | .nil => []
  | .cons t ts => slotsT t ++ slotsTs ts
end
def lenTs : Tgs → Nat
  | .nil => 0
  | .cons _ ts => lenTs ts + 1
/-- the same slots but for those of vs -/
def SameBut (vs : List Nat) (σ σ' : St) : Prop := σ'.length = σ.length ∧ ∀ i, i ∉ vs → σ'[i]? = σ[i]?
theorem SameBut.set {vs : List Nat} {σ : St} {i : Nat} {v : Option V} (h : i ∈ vs) : SameBut vs σ (σ.set i v) := ⟨by simp, fun j hj => by rw [List.getElem?_set_ne]; rintro rfl; exact hj h⟩
theorem SameBut.trans {vs : List Nat} {a b d : St} (h : SameBut vs a b) (k : SameBut vs b d) : SameBut vs a d := ⟨k.1.trans h.1, fun i hi => (k.2 i hi).trans (h.2 i hi)⟩
theorem SameBut.mono {vs ws : List Nat} {a b : St} (h : SameBut vs a b) (k : ∀ i ∈ vs, i ∈ ws) : SameBut ws a b := ⟨h.1, fun i hi => h.2 i fun z => hi (k i z)⟩
theorem wipe_get {σ : St} {i : Nat} : ∀ {vs : List Nat}, i ∈ vs → i < σ.length → (wipe σ vs)[i]? = some none
  | [], h, _ => by cases h
  | v :: vs, h, hl => by
    unfold wipe
    by_cases e : v = i
    · subst e
      rw [List.getElem?_set_self (by rw [wipe_length]; exact hl)]
    · rw [List.getElem?_set_ne e]
      rcases List.mem_cons.mp h with z | z
      · exact (e z.symm).elim
      · exact wipe_get z hl
theorem SameBut.wipe {vs : List Nat} {a b : St} (h : SameBut vs a b) : L2.wipe b vs = L2.wipe a vs := by
  apply List.ext_getElem?
  intro i
  by_cases hi : i ∈ vs
  · by_cases hl : i < a.length
    · rw [wipe_get hi hl, wipe_get hi (by rw [h.1]; exact hl)]
    · rw [List.getElem?_eq_none (by rw [wipe_length, h.1]; omega), List.getElem?_eq_none (by rw [wipe_length]; omega)]
  · rw [wipe_out hi, wipe_out hi]
    exact h.2 i hi
theorem wipe_wipe {σ : St} {vs : List Nat} : SameBut vs σ (wipe σ vs) := ⟨wipe_length _ _, fun i hi => wipe_out hi⟩
/-- the reading of a target that means t -/
def rdG (c : Cn) (t : Tg) : TG := fun v σ H Q => ∃ B g r d r', EOk c B g H r σ ∧ Same g.F H ∧ Rep c g v d ∧ bindT t d r = some r' ∧ ∀ σ', SameBut (slotsT t) σ σ' → EOk c B g H r' σ' → Q σ' H
def rdGs (c : Cn) (t : Tgs) : TGs := fun vs σ H Q => ∃ B g r ds r', EOk c B g H r σ ∧ Same g.F H ∧ RepL c g vs ds ∧ bindTs t ds r = some r' ∧ ∀ σ', SameBut (slotsTs t) σ σ' → EOk c B g H r' σ' → Q σ' H
theorem _root_.L2.PG.mono {X : Cx} {e : Expr} {t t' : TG} (h : PG X e t) (f : ∀ v σ H Q, t' v σ H Q → t v σ H Q) : PG X e t' := ⟨fun pins s σ H v u Q I r q => h.run pins s σ H v u Q I r (f _ _ _ _ q)⟩
theorem _root_.L2.PGs.mono {X : Cx} {e : List Expr} {t t' : TGs} (h : PGs X e t) (f : ∀ v σ H Q, t' v σ H Q → t v σ H Q) : PGs X e t' := ⟨fun pins s σ H v u Q I r q => h.run pins s σ H v u Q I r (f _ _ _ _ q)⟩
section
variable {c : Cn} {X : Cx} {pos : Pos}
theorem g_name {i : Nat} {x : Str} (hN : X.N.Nodup) (hi : X.N[i]? = some x) (hx : Loc X.env.scope x) (hf : X.fn x = true ∨ X.env.scope.names.lookup x = some .local) : PG X (.Name x pos) (rdG c (.nm i)) := by
  refine (pg_name hN hi hx hf).mono fun v σ H Q h => ?_
  obtain ⟨B, g, r, d, r', E, s, q, e, k⟩ := h
  simp only [bindT] at e
  cases e
  exact k _ (SameBut.set (by simp [slotsT])) (E.setD i q)
theorem gs_nil : PGs X [] (rdGs c .nil) := pgs_nil.mono fun v σ H Q h => by
  obtain ⟨B, g, r, d, r', E, s, q, e, k⟩ := h
  cases q with
  | nil =>
    simp only [bindTs] at e
    cases e
    exact ⟨rfl, k σ ⟨rfl, fun _ _ => rfl⟩ E⟩
  | cons a b => simp only [bindTs] at e; cases e
theorem gs_cons {e : Expr} {es : List Expr} {t : Tg} {ts : Tgs} (h1 : PG X e (rdG c t)) (h2 : PGs X es (rdGs c ts)) (hs : (assignEach (e :: es) X.env).map (·.2) = assign e X.env :: (assignEach es X.env).map (·.2)) : PGs X (e :: es) (rdGs c (.cons t ts)) := by
  refine (pgs_cons h1 h2 hs).mono fun v σ H Q h => ?_
  obtain ⟨B, g, r, d, r', E, s, q, e, k⟩ := h
  cases q with
  | nil => simp only [bindTs] at e; cases e
  | cons a b =>
    rename_i v' d' vs' ds'
    simp only [bindTs] at e
    cases e1 : bindT t d' r with
    | none => rw [e1] at e; cases e
    | some r1 =>
      rw [e1] at e
      refine ⟨_, _, rfl, B, g, r, d', r1, E, s, a, e1, fun σ1 b1 E1 => ⟨B, g, r1, ds', r', E1, s, b, e, fun σ2 b2 E2 => k σ2 ?_ E2⟩⟩
      exact (b1.mono fun i hi => by simp [slotsTs, hi]).trans (b2.mono fun i hi => by simp [slotsTs, hi])
theorem g_tup {es : List Expr} {j n : Nat} {ts : Tgs} (hc : X.calm = true) (h : PGs X es (rdGs c ts)) (hn : (assignEach es X.env).length = n) (hl : lenTs ts = n) (hst : (assignEach es X.env).findIdx? (·.1) = none) (hb : ∀ ds r r', bindTs ts ds r = some r' → ds.length = n) :
    PG X (.Tuple es j pos) (rdG c (.tp ts)) := by
  refine (pg_tup hc h hn hst).mono fun v σ H Q h => ?_
  obtain ⟨B, g, r, d, r', E, s, q, e, k⟩ := h
  cases q with
  | tup hx lx =>
    simp only [bindT] at e
    exact ⟨_, _, rfl, SqT.of (s _ _ hx), by rw [lx.length]; exact hb _ _ _ e, B, g, r, _, r', E, s, lx, e, fun σ' b' E' => k σ' (b'.mono fun i hi => by simpa [slotsT] using hi) E'⟩
  | _ => simp only [bindT] at e; cases e
theorem bindTs_len : ∀ (ts : Tgs) (ds : List D) (r r' : Rho), bindTs ts ds r = some r' → ds.length = lenTs ts
  | .nil, [], _, _, _ => rfl
  | .nil, _ :: _, _, _, e => by simp only [bindTs] at e; cases e
  | .cons _ _, [], _, _, e => by simp only [bindTs] at e; cases e
  | .cons t ts, d :: ds, r, r', e => by
    simp only [bindTs] at e
    cases e1 : bindT t d r with
    | none => rw [e1] at e; cases e
    | some r1 =>
      rw [e1] at e
      simp only [List.length_cons, lenTs, bindTs_len ts ds r1 r' e]
end

/-! ### what is walked -/
/-- while S stands, J gives the data ds one by one -/
structure WD (c : Cn) (S : Gs → Hp → Prop) (J : It) (ds : List D) : Prop where
  ex : ∃ (Gd : Hp → Prop) (Y : Nat → Hp → V → Hp → Prop), Walk J ds.length Gd Y ∧ (∀ g H, S g H → Gd H) ∧
    ∀ (i : Nat) g H w x H', S g H → WOk c g H w → Y i H x H' → i < ds.length → ∃ g2 d, ds[i]? = some d ∧ Ext g H g2 H' ∧ WOk c g2 H' w ∧ Rep c g2 x d
theorem WD.mono {c : Cn} {S S' : Gs → Hp → Prop} {J : It} {ds : List D} (h : WD c S J ds) (k : ∀ g H, S' g H → S g H) : WD c S' J ds := by
  obtain ⟨Gd, Y, h1, h2, h3⟩ := h.ex
  exact ⟨Gd, Y, h1, fun g H s => h2 g H (k g H s), fun i g H w x H' s => h3 i g H w x H' (k g H s)⟩
/-- what is frozen stands -/
def Stand (c : Cn) (g : Gs) : Gs → Hp → Prop := fun g2 H2 => Gle g g2 ∧ Same g2.F H2
abbrev MI := Rho → Wd → Res (List D)
def postI (c : Cn) (g : Gs) (H : Hp) (R : It → Hp → Prop) (E : XK) : Res (List D) → Prop
  | .ok ds w => ∀ g' H' J, Ext g H g' H' → WOk c g' H' w → WD c (Stand c g') J ds → R J H'
  | .exc k w => ∀ g' H', Ext g H g' H' → WOk c g' H' w → E (.ref (c.ec k)) none H'
  | .bad => False
def rdI (c : Cn) (W : WX) (m : MI) : TI := fun σ H R => ∃ B g r w, EOk c B g H r σ ∧ WOk c g H w ∧ postI c g H R (WE W σ) (m r w)
/-- what a walked thing gives -/
def dItems : D → Option (List D)
  | .lst xs => some xs
  | .tup xs => some xs
  | _ => none
def iota (a : Int) : Nat → List D
  | 0 => []
  | n + 1 => .int a :: iota (a + 1) n
theorem iota_length : ∀ (a : Int) (n : Nat), (iota a n).length = n
  | _, 0 => rfl
  | a, n + 1 => by simp [iota, iota_length (a + 1) n]
theorem iota_get : ∀ (n : Nat) (a : Int) (i : Nat), i < n → (iota a n)[i]? = some (.int (a + i))
  | 0, _, _, h => by omega
  | n + 1, a, 0, _ => by simp [iota]
  | n + 1, a, i + 1, h => by
    simp only [iota, List.getElem?_cons_succ]
    rw [iota_get n (a + 1) i (by omega)]
    congr 2
    omega
def enumD (i : Int) : List D → List D
  | [] => []
  | x :: xs => .tup [.int i, x] :: enumD (i + 1) xs
theorem enumD_length : ∀ (a : Int) (xs : List D), (enumD a xs).length = xs.length
  | _, [] => rfl
  | a, x :: xs => by simp [enumD, enumD_length (a + 1) xs]
theorem enumD_get : ∀ (xs : List D) (a : Int) (i : Nat) (x : D), xs[i]? = some x → (enumD a xs)[i]? = some (.tup [.int (a + i), x])
  | [], _, _, _, h => by simp at h
  | y :: ys, a, 0, x, h => by simp at h; subst h; simp [enumD]
  | y :: ys, a, i + 1, x, h => by
    simp only [enumD, List.getElem?_cons_succ]
    rw [enumD_get ys (a + 1) i x (by simpa using h)]
    congr 4
    simp
    omega
def zipD : List D → List D → List D
  | x :: xs, y :: ys => .tup [x, y] :: zipD xs ys
  | _, _ => []
theorem zipD_length : ∀ (xs ys : List D), (zipD xs ys).length = min xs.length ys.length
  | [], _ => by simp [zipD]
  | _ :: _, [] => by simp [zipD]
  | x :: xs, y :: ys => by simp [zipD, zipD_length xs ys]
theorem zipD_get : ∀ (xs ys : List D) (i : Nat) (x y : D), xs[i]? = some x → ys[i]? = some y → (zipD xs ys)[i]? = some (.tup [x, y])
  | [], _, _, _, _, h, _ => by simp at h
  | _ :: _, [], _, _, _, _, h => by simp at h
  | x :: xs, y :: ys, 0, _, _, h, k => by simp at h k; subst h; subst k; simp [zipD]
  | x :: xs, y :: ys, i + 1, _, _, h, k => by
    simp only [zipD, List.getElem?_cons_succ]
    exact zipD_get xs ys i _ _ (by simpa using h) (by simpa using k)
def mISeq (a : ME) : MI := fun r w => (a r w).bind fun x w => lift (dItems x) w
def dRng : List D → Option (List D)
  | [.int n] => if decide (-1000000 ≤ n) && decide (n ≤ 1000000) then some (iota 0 n.toNat) else none
  | [.int a, .int b] => if decide (-1000000 ≤ a) && decide (a ≤ 1000000) && decide (-1000000 ≤ b) && decide (b ≤ 1000000) then some (iota a (b - a).toNat) else none
  | _ => none
def dEnum : List D → Option (List D)
  | [.lst xs] => some (enumD 0 xs)
  | _ => none
def dZip : List D → Option (List D)
  | [.lst xs, .lst ys] => some (zipD xs ys)
  | _ => none
def mIBi (f : List D → Option (List D)) (a : MA) : MI := fun r w => (a r w).bind fun xs w => lift (f xs) w
theorem _root_.L2.PI.mono {X : Cx} {tg e : Expr} {t t' : TI} (h : PI X tg e t) (f : ∀ σ H Q, t' σ H Q → t σ H Q) : PI X tg e t' := ⟨fun pins s σ H Q I q => h.run pins s σ H Q I (f _ _ _ q)⟩
section
variable {c : Cn} {X : Cx} {W : WX} {tg a b e : Expr} {ma mb : ME} {pos : Pos}
theorem bndI {α β : Type} {R : Gs → β → α → Prop} {g : Gs} {H : Hp} {Q : It → Hp → Prop} {E : XK} {x : Res α} {f : α → Wd → Res (List D)} (h : postI c g H Q E (x.bind f))
    {Q1 : β → Hp → Prop} (k : ∀ g1 H1 v d w1, x = .ok d w1 → Ext g H g1 H1 → WOk c g1 H1 w1 → R g1 v d → postI c g1 H1 Q E (f d w1) → Q1 v H1) : post c R g H Q1 E x := by
  cases x with
  | ok d w =>
    refine fun g1 H1 v e w1 r => k g1 H1 v d w rfl e w1 r ?_
    have h : postI c g H Q E (f d w) := h
    revert h
    cases f d w with
    | ok ds w' => exact fun h g2 H2 J e2 => h g2 H2 J (e.trans e2)
    | exc k w' => exact fun h g2 H2 e2 => h g2 H2 (e.trans e2)
    | bad => exact fun h => h
  | exc k w => exact h
  | bad => exact h
theorem WD.list {K : PySem.W.Frag} {g : Gs} {p : Addr} {vs : List V} {ds : List D} (hx : g.F p = some (.lst vs)) (l : RepL c g vs ds) : WD c (Stand c g) (Itl K p) ds := by
  refine ⟨_, _, by rw [← l.length]; exact walk_list (xs := vs), fun g2 H2 s => SqL.of (s.2 _ _ (s.1.sF _ _ hx)), fun i g2 H2 w x H' s k y hi => ?_⟩
  obtain ⟨rfl, y⟩ := y
  obtain ⟨d, h1, h2⟩ := (l.mono s.1).get y
  exact ⟨g2, d, h1, Ext.refl _ _, k, h2⟩
theorem WD.tup {K : PySem.W.Frag} {g : Gs} {p : Addr} {vs : List V} {ds : List D} (hx : g.F p = some (.tup vs)) (l : RepL c g vs ds) : WD c (Stand c g) (Itt K p) ds := by
  refine ⟨_, _, by rw [← l.length]; exact walk_tup (xs := vs), fun g2 H2 s => SqT.of (s.2 _ _ (s.1.sF _ _ hx)), fun i g2 H2 w x H' s k y hi => ?_⟩
  obtain ⟨rfl, y⟩ := y
  obtain ⟨d, h1, h2⟩ := (l.mono s.1).get y
  exact ⟨g2, d, h1, Ext.refl _ _, k, h2⟩
/-- a list or a tuple, by values -/
theorem pi_seq {l : Expr} {tl : TE} (hl : PE X l tl) : PI X tg l (fun σ H R => tl σ H fun x H1 => (∃ a, x = .ref a ∧ (∃ xs, SqL X.K H1 a xs) ∧ R (Itl X.K a) H1) ∨ (∃ a, x = .ref a ∧ (∃ xs, SqT X.K H1 a xs) ∧ R (Itt X.K a) H1)) := by
  refine ⟨fun pins s σ H R I h => ?_⟩
  refine thn (hl.run pins s σ H _ I h) fun v s1 ⟨x, H1, I1, r1, q1⟩ => ?_
  rcases q1 with ⟨p, rfl, ⟨xs, hq⟩, q⟩ | ⟨p, rfl, ⟨xs, hq⟩, q⟩
  · cases r1
    obtain ⟨its, rv, pp, hz⟩ := I1.list hq
    refine wpAny_pyIter_list pp.isList ?_
    refine ⟨s1.heap.objs.size, [s1.heap.objs.size], _, _, H1, rfl, I1.kept (t' := s1.toks) fun b o e => Heap.get?_push_of_some _ e, turn_list p _, ⟨_, Heap.get?_push_size _ rfl, rfl, rfl⟩, fun b hb => ?_, q⟩
    obtain rfl : b = s1.heap.objs.size := by simpa using hb
    exact I1.fpOk (Nat.le_refl _) (I1.hok.fresh (Nat.le_refl _))
  · cases r1
    obtain ⟨its, rv, pp, hz⟩ := I1.tuple hq
    refine wpAny_pyIter_tuple (show s1.heap.IsTuple p its.toArray from pp) ?_
    refine ⟨s1.heap.objs.size, [s1.heap.objs.size], _, _, H1, rfl, I1.kept (t' := s1.toks) fun b o e => Heap.get?_push_of_some _ e, turn_tuple p _, ⟨_, Heap.get?_push_size _ rfl, rfl, rfl⟩, fun b hb => ?_, q⟩
    obtain rfl : b = s1.heap.objs.size := by simpa using hb
    exact I1.fpOk (Nat.le_refl _) (I1.hok.fresh (Nat.le_refl _))
theorem i_seq (ha : PE X a (rd c W ma)) : PI X tg a (rdI c W (mISeq ma)) := by
  refine (pi_seq ha).mono fun σ H Q h => ?_
  obtain ⟨B, g, ρ, w, E, k, p⟩ := h
  refine ⟨B, g, ρ, w, E, k, bndI p fun g1 H1 x dx w1 _ e1 k1 r1 p1 => ?_⟩
  cases r1 with
  | lst hx lx => exact .inl ⟨_, rfl, ⟨_, SqL.of (k1.sub _ _ hx)⟩, p1 g1 H1 _ (Ext.refl _ _) k1 (WD.list hx lx)⟩
  | tup hx lx => exact .inr ⟨_, rfl, ⟨_, SqT.of (k1.sub _ _ hx)⟩, p1 g1 H1 _ (Ext.refl _ _) k1 (WD.tup hx lx)⟩
  | _ => exact False.elim p1
theorem WD.rng {g : Gs} {lo : Int} {n : Nat} : WD c (Stand c g) (Itr lo n) (iota lo n) := by
  refine ⟨_, _, by rw [iota_length]; exact walk_range, fun _ _ _ => trivial, fun i g2 H2 w x H' s k y hi => ?_⟩
  obtain ⟨rfl, rfl⟩ := y
  rw [iota_length] at hi
  exact ⟨g2, _, iota_get n lo i hi, Ext.refl _ _, k, .int _⟩
theorem i_rng1 {ms : MA} {p : Pos} (hg : Gl X "range") (hm : X.mg "range" = none) (ha : PA X [a] (rdA c W ms)) (hs : starEach [a] X.env = [(false, eval a X.env)]) (hl : ∀ r w ds w', ms r w = .ok ds w' → ds.length = 1) : PI X tg (.Call (.Name "range" p) [a] [] pos) (rdI c W (mIBi dRng ms)) := by
  refine (pi_range1 hg hm ha hs).mono fun σ H Q h => ?_
  obtain ⟨B, g, ρ, w, E, k, p⟩ := h
  refine ⟨B, g, ρ, w, E, k, bndI p fun g1 H1 vs ds w1 e0 e1 k1 r1 p1 => ?_⟩
  have h1 := hl _ _ _ _ e0
  cases r1 with
  | nil => simp at h1
  | cons r2 r3 =>
    cases r3 with
    | cons _ _ => simp at h1
    | nil =>
      cases r2 with
      | int n =>
        simp only [dRng] at p1
        split at p1
        · rename_i hb
          simp only [Bool.and_eq_true, decide_eq_true_eq] at hb
          exact ⟨n, rfl, by omega, by omega, p1 g1 H1 _ (Ext.refl _ _) k1 WD.rng⟩
        · exact False.elim p1
      | _ => exact False.elim p1
theorem i_rng2 {ms : MA} {p : Pos} (hg : Gl X "range") (hm : X.mg "range" = none) (ha : PA X [a, b] (rdA c W ms)) (hs : starEach [a, b] X.env = [(false, eval a X.env), (false, eval b X.env)]) (hs2 : starEach [b] X.env = [(false, eval b X.env)])
    (hl : ∀ r w ds w', ms r w = .ok ds w' → ds.length = 2) : PI X tg (.Call (.Name "range" p) [a, b] [] pos) (rdI c W (mIBi dRng ms)) := by
  refine (pi_range2 hg hm ha hs hs2).mono fun σ H Q h => ?_
  obtain ⟨B, g, ρ, w, E, k, p⟩ := h
  refine ⟨B, g, ρ, w, E, k, bndI p fun g1 H1 vs ds w1 e0 e1 k1 r1 p1 => ?_⟩
  have h1 := hl _ _ _ _ e0
  cases r1 with
  | nil => simp at h1
  | cons r2 r3 =>
    cases r3 with
    | nil => simp at h1
    | cons r4 r5 =>
      cases r5 with
      | cons _ _ => simp at h1
      | nil =>
        cases r2 with
        | int n =>
          cases r4 with
          | int m =>
            simp only [dRng] at p1
            split at p1
            · rename_i hb
              simp only [Bool.and_eq_true, decide_eq_true_eq] at hb
              exact ⟨n, m, rfl, ⟨by omega, by omega, by omega, by omega⟩, p1 g1 H1 _ (Ext.refl _ _) k1 WD.rng⟩
            · exact False.elim p1
          | _ => exact False.elim p1
        | _ => exact False.elim p1
theorem WD.pair {J : It} {g : Gs} {n : Nat} {Gd : Hp → Prop} {xs ys : Nat → Option V} {ds : List D} (hn : ds.length = n) (hw : Walk J n Gd (YPair xs ys)) (hG : ∀ g2 H2, Stand c g g2 H2 → Gd H2)
    (hd : ∀ g2, Gle g g2 → ∀ (i : Nat) x y, xs i = some x → ys i = some y → ∃ dx dy, Rep c g2 x dx ∧ Rep c g2 y dy ∧ ds[i]? = some (.tup [dx, dy])) : WD c (Stand c g) J ds := by
  refine ⟨_, _, by rw [hn]; exact hw, hG, fun i g2 H2 w x H' s k y hi => ?_⟩
  obtain ⟨T, u, v, rfl, hT, rfl, h1, h2⟩ := y
  obtain ⟨dx, dy, r1, r2, h3⟩ := hd g2 s.1 i u v h1 h2
  have l := (Ext.laid (o := .tup [u, v]) k hT).toGle
  exact ⟨_, _, h3, Ext.laid k hT, k.laid hT, .tup upd_same (.cons (r1.mono l) (.cons (r2.mono l) .nil))⟩
theorem i_enum {ms : MA} {p tpos : Pos} {elts : List Expr} {kk : Nat} (hg : Gl X "enumerate") (hm : X.mg "enumerate" = none) (ha : PA X [a] (rdA c W ms)) (hs : starEach [a] X.env = [(false, eval a X.env)]) :
    PI X (.Tuple elts kk tpos) (.Call (.Name "enumerate" p) [a] [] pos) (rdI c W (mIBi dEnum ms)) := by
  refine (pi_enum hg hm ha hs).mono fun σ H Q h => ?_
  obtain ⟨B, g, ρ, w, E, k, p⟩ := h
  refine ⟨B, g, ρ, w, E, k, bndI p fun g1 H1 vs ds w1 e0 e1 k1 r1 p1 => ?_⟩
  unfold dEnum at p1
  split at p1
  · cases r1 with
    | cons r2 r3 =>
      cases r3
      cases r2 with
      | lst hx lx =>
        refine ⟨_, _, rfl, SqL.of (k1.sub _ _ hx), p1 g1 H1 _ (Ext.refl _ _) k1 ?_⟩
        refine WD.pair (n := _) (by rw [enumD_length, ← lx.length]) walk_enum (fun g2 H2 s => SqL.of (s.2 _ _ (s.1.sF _ _ hx))) fun g2 l i x y e1 e2 => ?_
        cases e1
        obtain ⟨d, h1, h2⟩ := (lx.mono l).get e2
        exact ⟨_, d, .int _, h2, by rw [enumD_get _ 0 i d h1]; simp⟩
  · exact False.elim p1
theorem i_zip {ms : MA} {p tpos : Pos} {elts : List Expr} {kk : Nat} (hg : Gl X "zip") (hm : X.mg "zip" = none) (ha : PA X [a, b] (rdA c W ms)) (hs : starEach [a, b] X.env = [(false, eval a X.env), (false, eval b X.env)]) (hs2 : starEach [b] X.env = [(false, eval b X.env)]) :
    PI X (.Tuple elts kk tpos) (.Call (.Name "zip" p) [a, b] [] pos) (rdI c W (mIBi dZip ms)) := by
  refine (pi_zip hg hm ha (by rw [hs, hs2]) (by rw [hs2]; rfl)).mono fun σ H Q h => ?_
  obtain ⟨B, g, ρ, w, E, k, p⟩ := h
  refine ⟨B, g, ρ, w, E, k, bndI p fun g1 H1 vs ds w1 e0 e1 k1 r1 p1 => ?_⟩
  unfold dZip at p1
  split at p1
  · cases r1 with
    | cons r2 r3 =>
      cases r3 with
      | cons r4 r5 =>
        cases r5
        cases r2 with
        | lst hx lx =>
          cases r4 with
          | lst hy ly =>
            refine ⟨_, _, _, _, rfl, SqL.of (k1.sub _ _ hx), SqL.of (k1.sub _ _ hy), p1 g1 H1 _ (Ext.refl _ _) k1 ?_⟩
            refine WD.pair rfl (walk_zip (by rw [zipD_length, lx.length, ly.length])) (fun g2 H2 s => ⟨SqL.of (s.2 _ _ (s.1.sF _ _ hx)), SqL.of (s.2 _ _ (s.1.sF _ _ hy))⟩) fun g2 l i x y e1 e2 => ?_
            obtain ⟨d, h1, h2⟩ := (lx.mono l).get e1
            obtain ⟨d', h1', h2'⟩ := (ly.mono l).get e2
            exact ⟨_, _, h2, h2', zipD_get _ _ i _ _ h1 h1'⟩
  · exact False.elim p1
end
end RL

namespace RL
open PySem L2

/-! ### makers of new lists -/
def postL (c : Cn) (g : Gs) (H : Hp) (Q : VK) (E : XK) : Res (List D) → Prop
  | .ok ds w => ∀ g' H' p vs, Ext g H g' H' → WOk c g' H' w → H p = none → g'.F p = none → p ∉ g'.wadr → H' p = some (.lst vs) → RepL c g' vs ds → Q (.ref p) H'
  | .exc k w => ∀ g' H', Ext g H g' H' → WOk c g' H' w → E (.ref (c.ec k)) none H'
  | .bad => False
def rdL (c : Cn) (W : WX) (m : MA) : TE := fun σ H Q => ∃ B g r w, EOk c B g H r σ ∧ WOk c g H w ∧ postL c g H Q (WE W σ) (m r w)
def mLst (m : MA) : ME := fun r w => (m r w).bind fun ds w => .ok (.lst ds) w
def mLen (m : MA) : MA := fun r w => (m r w).bind fun xs w => lift (if xs.length ≤ big then some xs else none) w
def dOf : List D → Option (List D)
  | [d] => dItems d
  | _ => none
def mOf (m : MA) : MA := fun r w => (m r w).bind fun xs w => lift (dOf xs) w
theorem Res.assoc {α β γ : Type} {x : Res α} {f : α → Wd → Res β} {h : β → Wd → Res γ} : (x.bind f).bind h = x.bind fun a w => (f a w).bind h := by cases x <;> rfl
section
variable {c : Cn} {X : Cx} {W : WX} {a b e : Expr} {ma mb : ME} {pos : Pos}
theorem bndL {α β : Type} {R : Gs → β → α → Prop} {g g0 : Gs} {H H0 : Hp} {Q : VK} {E : XK} {x : Res α} {f : α → Wd → Res (List D)} (h : postL c g0 H0 Q E (x.bind f)) (x0 : Ext g0 H0 g H)
    {Q1 : β → Hp → Prop} (k : ∀ g1 H1 v d w1, x = .ok d w1 → Ext g H g1 H1 → WOk c g1 H1 w1 → R g1 v d → postL c g0 H0 Q E (f d w1) → Q1 v H1) : post c R g H Q1 E x := by
  cases x with
  | ok d w => exact fun g1 H1 v e w1 r => k g1 H1 v d w rfl e w1 r h
  | exc k w => exact fun g1 H1 e => h g1 H1 (x0.trans e)
  | bad => exact h
/-- a list that is made is frozen -/
theorem freeze {g g' : Gs} {H H' : Hp} {w : Wd} {p : Addr} {vs : List V} (x : Ext g H g' H') (k : WOk c g' H' w) (hp : H p = none) (hF : g'.F p = none) (hW : p ∉ g'.wadr) (hv : H' p = some (.lst vs)) : Ext g H (g'.lay p (.lst vs)) H' ∧ WOk c (g'.lay p (.lst vs)) H' w ∧ Gle g' (g'.lay p (.lst vs)) := by
  have L : Gle g' (g'.lay p (.lst vs)) := ⟨fun b u e => by
    show upd g'.F p _ b = some u
    rw [upd_ne (ne_of_none e hF)]; exact e, fun _ q => q, fun _ _ q => q⟩
  refine ⟨⟨x.toGle.trans L, x.keep, x.dom, fun b e n => ?_, x.frW⟩, ⟨fun b u e => ?_, k.dr, k.dr0, fun i sz ln e => ?_, k.tbl, k.nd, fun b hb => ?_⟩, L⟩
  · show upd g'.F p _ b = none
    rw [upd_ne fun q => n (by rw [q]; exact hp)]
    exact x.frF b e n
  · have e : upd g'.F p _ b = some u := e
    by_cases q : b = p
    · subst q
      rw [upd_same] at e
      rw [hv]; exact e
    · rw [upd_ne q] at e
      exact k.sub _ _ e
  · obtain ⟨t, dx, l, vs', e1, e2, e3, r⟩ := k.tb i sz ln e
    exact ⟨t, dx, l, vs', e1, e2, e3, r.mono L⟩
  · show upd g'.F p _ b = none
    rw [upd_ne (fun q : b = p => hW (by rw [← q]; exact hb))]
    exact k.out b hb
theorem rdL_of {m : MA} {σ : St} {H : Hp} {Q : VK} (h : rd c W (mLst m) σ H Q) : rdL c W m σ H Q := by
  obtain ⟨B, g, ρ, w, E, k, p⟩ := h
  refine ⟨B, g, ρ, w, E, k, ?_⟩
  unfold mLst at p
  cases hm : m ρ w with
  | bad => rw [hm] at p; exact p
  | exc j w' => rw [hm] at p; exact p
  | ok ds w' =>
    rw [hm] at p
    intro g' H' q vs x k' hp hF hW hv r
    obtain ⟨x2, k2, L⟩ := freeze x k' hp hF hW hv
    exact p _ _ _ x2 k2 (.lst upd_same (r.mono L))
theorem s_of_l {m : MA} (h : PE X e (rdL c W m)) : PE X e (rd c W (mLst m)) := h.mono fun _ _ _ h => rdL_of h
theorem laidL {g g1 : Gs} {H H1 : Hp} {w : Wd} {Q : VK} {E : XK} {ds : List D} {vs : List V} (h : postL c g H Q E (.ok ds w)) (x : Ext g H g1 H1) (k : WOk c g1 H1 w) (r : RepL c g1 vs ds) : ∀ p, H1 p = none → Q (.ref p) (upd H1 p (.lst vs)) := fun p hp =>
  h g1 _ p vs (x.trans (Ext.upd hp)) (k.write (k.notW hp) (k.fresh hp)) (x.dom p hp) (k.fresh hp) (k.notW hp) upd_same r
theorem post_liftL {α : Type} {g : Gs} {H : Hp} {w : Wd} {Q : VK} {E : XK} {o : Option (List D)} (h : postL c g H Q E (lift o w)) : ∃ d, o = some d ∧ postL c g H Q E (.ok d w) := by
  cases o with
  | none => exact False.elim h
  | some d => exact ⟨d, rfl, h⟩
theorem l_disp {es : List Expr} {ms : MA} (h : PA X es (rdA c W ms)) : PE X (.List es pos) (rdL c W (mLen ms)) := by
  refine (pe_lst h).mono fun σ H Q h => ?_
  obtain ⟨B, g, ρ, w, E, k, p⟩ := h
  refine ⟨B, g, ρ, w, E, k, bndL p (Ext.refl _ _) fun g1 H1 x dx w1 _ e1 k1 r1 p1 => ?_⟩
  obtain ⟨d, ed, q⟩ := post_liftL (α := Unit) p1
  split at ed
  · rename_i hl
    cases ed
    exact ⟨by rw [r1.length]; exact Nat.le_trans hl big_le, laidL q e1 k1 r1⟩
  · cases ed
theorem l_of {es : List Expr} {ms : MA} {p : Pos} (hg : Gl X "list") (hm : X.mg "list" = none) (ha : PA X (e :: es) (rdA c W ms)) (he : starEach (e :: es) X.env = (false, eval e X.env) :: starEach es X.env) (hpl : (backTo pos (starEach es X.env)).any (·.1) = false) :
    PE X (.Call (.Name "list" p) (e :: es) [] pos) (rdL c W (mOf ms)) := by
  refine (pe_callTy call_list_of hg hm (by decide +kernel) ha (by decide) (by decide) he hpl).mono fun σ H Q h => ?_
  obtain ⟨B, g, ρ, w, E, k, p⟩ := h
  refine ⟨B, g, ρ, w, E, k, bndL p (Ext.refl _ _) fun g1 H1 x dx w1 _ e1 k1 r1 p1 => ?_⟩
  obtain ⟨d, ed, q⟩ := post_liftL (α := Unit) p1
  unfold dOf at ed
  split at ed
  · cases r1 with
    | cons r2 r3 =>
      cases r3
      cases r2 with
      | lst hx lx => cases ed; exact ⟨_, _, rfl, .inl (SqL.of (k1.sub _ _ hx)), laidL q e1 k1 lx⟩
      | tup hx lx => cases ed; exact ⟨_, _, rfl, .inr (SqT.of (k1.sub _ _ hx)), laidL q e1 k1 lx⟩
      | _ => cases ed
  · cases ed

/-! ### comprehensions -/
/-- what stands while the world goes on from (g, H) -/
def StandE (g : Gs) (H : Hp) : Gs → Hp → Prop := fun g2 H2 => Ext g H g2 H2 ∧ Same g2.F H2
def postE (c : Cn) (g : Gs) (H : Hp) (R : It → Hp → Prop) (E : XK) : Res (List D) → Prop
  | .ok ds w => ∀ g' H' J, Ext g H g' H' → WOk c g' H' w → WD c (StandE g' H') J ds → R J H'
  | .exc k w => ∀ g' H', Ext g H g' H' → WOk c g' H' w → E (.ref (c.ec k)) none H'
  | .bad => False
def rdIE (c : Cn) (W : WX) (m : MI) : TI := fun σ H R => ∃ B g r w, EOk c B g H r σ ∧ WOk c g H w ∧ postE c g H R (WE W σ) (m r w)
theorem i_weak {tg : Expr} {m : MI} (h : PI X tg e (rdI c W m)) : PI X tg e (rdIE c W m) := by
  refine h.mono fun σ H Q h => ?_
  obtain ⟨B, g, ρ, w, E, k, p⟩ := h
  refine ⟨B, g, ρ, w, E, k, ?_⟩
  revert p
  cases m ρ w with
  | ok ds w' => exact fun p g' H' J x k' wd => p g' H' J x k' (wd.mono fun g2 H2 s => ⟨s.1.toGle, s.2⟩)
  | exc j w' => exact fun p => p
  | bad => exact fun p => p
def mIOwn (i : Nat) : MI := fun r w => match r[i]? with
  | some (.own xs) => .ok xs w
  | _ => .bad
def mIOwnE (i : Nat) : MI := fun r w => match r[i]? with
  | some (.own xs) => .ok (enumD 0 xs) w
  | _ => .bad
theorem i_own {tg : Expr} {i : Nat} {x : Str} (hN : X.N[i]? = some x) (hv : Vis X.env.scope x) (hd : (x == ("__debug__" : Str)) = false) (hcd : (x == ("__classdict__" : Str)) = false) : PI X tg (.Name x pos) (rdIE c W (mIOwn i)) := by
  refine (pi_list (pe_var hN hv hd hcd)).mono fun σ H Q h => ?_
  obtain ⟨B, g, ρ, w, E, k, p⟩ := h
  unfold mIOwn at p
  split at p
  · rename_i xs e
    obtain ⟨ad, h1, h2⟩ := E.own
    obtain ⟨a1, a2, a3, a0, vs, a4, a5⟩ := h1 i xs e
    refine ⟨_, a1, _, rfl, ⟨_, SqL.of a4⟩, p g H _ (Ext.refl _ _) k ⟨_, _, by rw [← a5.length]; exact walk_list (xs := vs), fun g2 H2 s => SqL.of (s.1.keep _ _ a4 a3), fun j g2 H2 w2 x2 H' s k2 y hj => ?_⟩⟩
    obtain ⟨rfl, y⟩ := y
    obtain ⟨d, q1, q2⟩ := (a5.mono s.1.toGle).get y
    exact ⟨g2, d, q1, Ext.refl _ _, k2, q2⟩
  · exact False.elim p
theorem i_ownE {i : Nat} {x : Str} {p tpos : Pos} {elts : List Expr} {kk : Nat} (hg : Gl X "enumerate") (hm : X.mg "enumerate" = none) (hN : X.N[i]? = some x) (hv : Vis X.env.scope x) (hd : (x == ("__debug__" : Str)) = false) (hcd : (x == ("__classdict__" : Str)) = false) {pos' : Pos} :
    PI X (.Tuple elts kk tpos) (.Call (.Name "enumerate" p) [.Name x pos'] [] pos) (rdIE c W (mIOwnE i)) := by
  refine (pi_enum hg hm (pa_cons (pe_var hN hv hd hcd) pa_nil)).mono fun σ H Q h => ?_
  obtain ⟨B, g, ρ, w, E, k, p⟩ := h
  unfold mIOwnE at p
  split at p
  · rename_i xs e
    obtain ⟨ad, h1, h2⟩ := E.own
    obtain ⟨a1, a2, a3, a0, vs, a4, a5⟩ := h1 i xs e
    refine ⟨_, a1, _, _, rfl, SqL.of a4, p g H _ (Ext.refl _ _) k ⟨_, _, by rw [enumD_length, ← a5.length]; exact walk_enum (xs := vs), fun g2 H2 s => SqL.of (s.1.keep _ _ a4 a3), fun j g2 H2 w2 x2 H' s k2 y hj => ?_⟩⟩
    obtain ⟨T, u, v, rfl, hT, rfl, q1, q2⟩ := y
    cases q1
    obtain ⟨d, q3, q4⟩ := (a5.mono s.1.toGle).get q2
    have l := (Ext.laid (o := .tup [.int (j : Nat), v]) k2 hT).toGle
    exact ⟨_, _, by rw [enumD_get _ 0 j d q3]; simp, Ext.laid k2 hT, k2.laid hT, .tup upd_same (.cons (.int _) (.cons (q4.mono l) .nil))⟩
  · exact False.elim p
def wipeR (r : Rho) : List Nat → Rho
  | [] => r
  | v :: vs => (wipeR r vs).set v .emp
theorem EOk.wipe {B : Hp} {g : Gs} {H : Hp} {r : Rho} {σ : St} (h : EOk c B g H r σ) : ∀ vs : List Nat, EOk c B g H (wipeR r vs) (L2.wipe σ vs)
  | [] => h
  | v :: vs => (EOk.wipe h vs).drop v none
def Res.nx {α : Type} : Res α → Res α
  | .exc _ _ => .bad
  | x => x
/-- no exception leaves -/
abbrev WF : WX := fun _ _ _ _ => False
def compGo (f : D → Wd → Res (Option D)) : List D → Wd → Res (List D)
  | [], w => .ok [] w
  | x :: xs, w => (f x w).bind fun o w => (compGo f xs w).bind fun ys w => .ok (match o with | some y => y :: ys | none => ys) w
def compF (t : Tg) (r0 : Rho) (mc me : ME) : D → Wd → Res (Option D) := fun x w => match bindT t x r0 with
  | none => .bad
  | some r1 => (ofB (mc r1 w)).nx.bind fun b w => if b = true then (me r1 w).nx.bind fun y w => .ok (some y) w else .ok none w
def mComp (it : MI) (t : Tg) (vs : List Nat) (mc me : ME) : MA := fun r w => (it r w).bind fun ds w => if ds.length ≤ big then compGo (compF t (wipeR r vs) mc me) ds w else .bad
theorem bndN {α β : Type} {R : Gs → β → α → Prop} {g g0 : Gs} {H H0 : Hp} {Q : VK} {E E' : XK} {x : Res α} {f : α → Wd → Res (List D)} (h : postL c g0 H0 Q E (x.nx.bind f))
    {Q1 : β → Hp → Prop} (k : ∀ g1 H1 v d w1, x = .ok d w1 → Ext g H g1 H1 → WOk c g1 H1 w1 → R g1 v d → postL c g0 H0 Q E (f d w1) → Q1 v H1) : post c R g H Q1 E' x := by
  cases x with
  | ok d w => exact fun g1 H1 v e w1 r => k g1 H1 v d w rfl e w1 r h
  | exc k w => exact False.elim h
  | bad => exact h
theorem l_comp {elt tg iter : Expr} {ifs : List Expr} {scope : Scope} {own : List (Str × Nat)} {it : MI} {t : Tg} {mc me : ME} (hc : X.calm = true) (hN : X.N.Nodup) (hi : PI X tg iter (rdIE c W it)) (ok : BlkOk X.N X.env.scope scope own)
    (hg : ∀ (s : Shared) (H : Hp) (C : Addr) (cl : List (Str × Addr)) (fp : List Addr), PG (X.blk s H scope (compEnvC scope cl C X.env) fp) tg (rdG c t))
    (ht : ∀ (s : Shared) (H : Hp) (C : Addr) (cl : List (Str × Addr)) (fp : List Addr), PTs (X.blk s H scope (compEnvC scope cl C X.env) fp) ifs (rdT c WF mc))
    (he : ∀ (s : Shared) (H : Hp) (C : Addr) (cl : List (Str × Addr)) (fp : List Addr), PE (X.blk s H scope (compEnvC scope cl C X.env) fp) elt (rd c WF me))
    (hsl : ∀ i ∈ slotsT t, i ∈ own.map (·.2)) (hs : ∀ x, foldedSetIterable iter X.env x = pure x) :
    ∀ (σ : St) (H : Hp) (Q : VK), rdL c W (mComp it t (own.map (·.2)) mc me) σ H Q → tLc (rdIE c W it) (rdG c t) (rdT c WF mc) (rd c WF me) (own.map (·.2)) σ H Q := by
  intro σ H Q h
  obtain ⟨B, g, ρ, w, E, k, p⟩ := h
  refine ⟨B, g, ρ, w, E, k, ?_⟩
  unfold mComp at p
  cases hm : it ρ w with
  | bad => rw [hm] at p; exact p
  | exc j w' => rw [hm] at p; exact p
  | ok ds w1 =>
    rw [hm] at p
    have p : postL c g H Q (WE W σ) (if ds.length ≤ big then compGo (compF t (wipeR ρ (own.map (·.2))) mc me) ds w1 else .bad) := p
    split at p
    · rename_i hlen
      intro g1 H1 J e1 k1 wd D hD
      obtain ⟨Gd, Y, hw, hG, hY⟩ := wd.ex
      refine lc_it hw (fun i H2 => i ≤ ds.length ∧ ∃ g2 w2 vs ys, Ext g1 H1 g2 H2 ∧ WOk c g2 H2 w2 ∧ g2.F D = none ∧ D ∉ g2.wadr ∧ H2 D = some (.lst vs) ∧ RepL c g2 vs ys ∧ ys.length ≤ i ∧
        postL c g H Q (WE W σ) ((compGo (compF t (wipeR ρ (own.map (·.2))) mc me) (ds.drop i) w2).bind fun zs w => .ok (ys ++ zs) w)) ?_ ?_ ?_ ?_
      · refine ⟨Nat.zero_le _, g1, w1, [], [], Ext.upd hD, k1.write (k1.notW hD) (k1.fresh hD), k1.fresh hD, k1.notW hD, upd_same, .nil, Nat.le_refl _, ?_⟩
        rw [List.drop_zero]
        have e : ((compGo (compF t (wipeR ρ (own.map (·.2))) mc me) ds w1).bind fun zs w => Res.ok ([] ++ zs) w) = compGo (compF t (wipeR ρ (own.map (·.2))) mc me) ds w1 := by
          cases compGo (compF t (wipeR ρ (own.map (·.2))) mc me) ds w1 <;> rfl
        rw [e]
        exact p
      · rintro i H2 _ ⟨_, g2, w2, vs, ys, x2, k2, _⟩
        exact hG g2 H2 ⟨x2, k2.sub⟩
      · rintro i x H2 H3 hi ⟨_, g2, w2, vs, ys, x2, k2, f2, n2, v2, r2, l2, p2⟩ hy
        obtain ⟨g3, d, hd, x3, k3, r3⟩ := hY i g2 H2 w2 x H3 ⟨x2, k2.sub⟩ k2 hy hi
        have e4 : ds.drop i = d :: ds.drop (i + 1) := by
          rw [List.drop_eq_getElem_cons hi]
          congr 1
          rw [List.getElem?_eq_getElem hi] at hd
          exact Option.some.inj hd
        rw [e4] at p2
        have nD : H2 D ≠ none := by rw [v2]; simp
        cases hb : bindT t d (wipeR ρ (own.map (·.2))) with
        | none => simp only [compGo, compF, hb] at p2; exact False.elim p2
        | some r1 =>
          have hf : compF t (wipeR ρ (own.map (·.2))) mc me d w2 = (ofB (mc r1 w2)).nx.bind fun b w => if b = true then (me r1 w).nx.bind fun y w => .ok (some y) w else .ok none w := by simp only [compF, hb]
          simp only [compGo] at p2
          rw [hf, Res.assoc, Res.assoc] at p2
          have E3 := ((E.ext (e1.trans (x2.trans x3))).wipe (own.map (·.2)))
          refine ⟨B, g3, _, d, r1, E3, k3.sub, r3, hb, fun σ2 sb E4 => ⟨?_, B, g3, r1, w2, E4, k3, bndN p2 fun g4 H4 b b' w4 _ x4 k4 rb p4 => ?_⟩⟩
          · exact ((wipe_wipe.trans (sb.mono hsl)).wipe)
          · subst rb
            have x14 := (x2.trans x3).trans x4
            have f4 : g4.F D = none := (x3.trans x4).frF D f2 nD
            have n4 : D ∉ g4.wadr := fun z => by
              rcases (x3.trans x4).frW D z with q | q
              · exact n2 q
              · exact nD q
            have v4 : H4 D = some (.lst vs) := (x3.trans x4).keep D _ v2 n2
            cases b with
            | false =>
              refine iteF ⟨hi, g4, w4, vs, ys, x14, k4, f4, n4, v4, r2.mono (x3.trans x4).toGle, by omega, ?_⟩
              have e5 : ∀ z : Res (List RL.D), ((z.bind fun ys w => Res.ok ys w).bind fun zs w => Res.ok (ys ++ zs) w) = z.bind fun zs w => .ok (ys ++ zs) w := fun z => by cases z <;> rfl
              rw [← e5]
              exact p4
            | true =>
              refine iteT ⟨B, g4, r1, w4, E4.ext x4, k4, ?_⟩
              simp only [if_true, Res.assoc] at p4
              refine bndN p4 fun g5 H5 y dy w5 _ x5 k5 r5 p5 => ?_
              have nD4 : H4 D ≠ none := by rw [v4]; simp
              have f5 : g5.F D = none := x5.frF D f4 nD4
              have n5 : D ∉ g5.wadr := fun z => by
                rcases x5.frW D z with q | q
                · exact n4 q
                · exact nD4 q
              have v5 : H5 D = some (.lst vs) := x5.keep D _ v4 n4
              have hl2 : vs.length = ys.length := r2.length
              have hb : big < sizeLine := by decide
              refine ⟨vs, v5, by omega, hi, g5, w5, vs ++ [y], ys ++ [dy], ?_, k5.write n5 f5, f5, n5, upd_same, (r2.mono ((x3.trans x4).trans x5).toGle).append (.cons r5 .nil), by simp; omega, ?_⟩
              · have x15 := x14.trans x5
                refine ⟨x15.toGle, fun q u e n => ?_, fun q e => ?_, x15.frF, x15.frW⟩
                · have nq : q ≠ D := ne_of_none e hD
                  rw [upd_ne nq]
                  exact x15.keep q u e n
                · by_cases nq : q = D
                  · rw [nq, upd_same] at e; cases e
                  · rw [upd_ne nq] at e
                    exact x15.dom q e
              · simpa [Res.bind, Res.assoc] using p5
      · rintro H2 ⟨_, g2, w2, vs, ys, x2, k2, f2, n2, v2, r2, l2, p2⟩
        rw [List.drop_length] at p2
        simp only [compGo, Res.bind, List.append_nil] at p2
        exact p2 g2 H2 D vs (e1.trans x2) k2 (e1.dom D hD) f2 n2 v2 r2
    · exact False.elim p
end
end RL

namespace RL
open PySem L2

abbrev MS := Rho → Wd → RS
def Res.toS {α : Type} (x : Res α) (r : Rho) (f : α → Wd → RS) : RS := match x with
  | .ok a w => f a w
  | .exc k w => .exc k r w
  | .bad => .bad
def postS (c : Cn) (W : WX) (g0 : Gs) (B : Hp) (g : Gs) (Dn : Ends) : RS → Prop
  | .next r w => ∀ g' H' σ', Gle g g' → Ext g0 B g' H' → EOk c B g' H' r σ' → WOk c g' H' w → Dn.nx σ' H'
  | .ret d w => ∀ g' H' v, Gle g g' → Ext g0 B g' H' → WOk c g' H' w → Rep c g' v d → Dn.rt v H'
  | .exc k r w => ∀ g' H' σ', Gle g g' → Ext g0 B g' H' → EOk c B g' H' r σ' → WOk c g' H' w → W (.ref (c.ec k)) none σ' H'
  | .bad => False
def rs (c : Cn) (W : WX) (m : MS) : TS := fun Dn σ H => ∃ g0 B g r w, EOk c B g H r σ ∧ WOk c g H w ∧ Ext g0 B g H ∧ postS c W g0 B g Dn (m r w)

def sRet (m : ME) : MS := fun r w => (m r w).toS r fun d w => .ret d w
def sExp (m : ME) : MS := fun r w => (m r w).toS r fun _ w => .next r w
def sAsg (t : Tg) (m : ME) : MS := fun r w => (m r w).toS r fun d w => match bindT t d r with
  | some r' => .next r' w
  | none => .bad
def sOwn (i : Nat) (m : MA) : MS := fun r w => (m r w).toS r fun ds w => .next (r.set i (.own ds)) w
def sSeq (a b : MS) : MS := fun r w => match a r w with
  | .next r w => b r w
  | x => x
def sNil : MS := fun r w => .next r w
def sIf (t : ME) (a b : MS) : MS := fun r w => (ofB (t r w)).toS r fun k w => if k = true then a r w else b r w
def forGo (t : Tg) (b : MS) : List D → MS
  | [], r, w => .next r w
  | x :: xs, r, w => match bindT t x r with
    | none => .bad
    | some r1 => match b r1 w with
      | .next r2 w2 => forGo t b xs r2 w2
      | y => y
def sFor (it : MI) (t : Tg) (b : MS) : MS := fun r w => (it r w).toS r fun ds w => forGo t b ds r w
def whGo (t : ME) (b : MS) : Nat → MS
  | 0, _, _ => .bad
  | n + 1, r, w => (ofB (t r w)).toS r fun k w => if k = true then (match b r w with
      | .next r2 w2 => whGo t b n r2 w2
      | y => y) else .next r w
def sWh (μ : Rho → Nat) (t : ME) (b : MS) : MS := fun r w => whGo t b (μ r) r w
def sRaise (k : Nat) : MS := fun r w => .exc k r w
/-- x op= e of data -/
def sAug (f : D → D → Option D) (i : Nat) (m : ME) : MS := fun r w => match r[i]? with
  | some (.dat x) => (m r w).toS r fun y w => match f x y with
    | some z => .next (r.set i (.dat z)) w
    | none => .bad
  | _ => .bad
/-- the list of one's own in slot i is changed by f -/
def sMut (i : Nat) (f : List D → D → Option (List D)) (m : ME) : MS := fun r w => match r[i]? with
  | some (.own xs) => (m r w).toS r fun y w => (match f xs y with
    | some zs => .next (r.set i (.own zs)) w
    | none => .bad)
  | _ => .bad
def fApp (xs : List D) (y : D) : Option (List D) := if xs.length ≤ big then some (xs ++ [y]) else none
def fExt (xs : List D) : D → Option (List D)
  | .lst ys => if xs.length + ys.length ≤ big then some (xs ++ ys) else none
  | _ => none
/-- xs[e] = v of one's own: v first -/
def sSet (i : Nat) (mi m : ME) : MS := fun r w => match r[i]? with
  | some (.own xs) => (m r w).toS r fun y w => (mi r w).toS r fun j w => (match j with
    | .int k => (match ixN xs.length k with
      | some j => .next (r.set i (.own (xs.set j y))) w
      | none => .bad)
    | _ => .bad)
  | _ => .bad
/-- from here on nobody changes the list in slot i -/
def frzR (r : Rho) (i : Nat) : Rho := match r[i]? with
  | some (.own xs) => r.set i (.dat (.lst xs))
  | _ => r
def sFrz (i : Nat) (m : MS) : MS := fun r w => m (frzR r i) w

section
variable {c : Cn} {X : Cx} {W : WX} {e : Expr} {st : Stmt} {sts : List Stmt} {me mt : ME} {ma : MA} {pos : Pos}
theorem postS.up {g0 g g' : Gs} {B : Hp} {Dn : Ends} {x : RS} (h : postS c W g0 B g Dn x) (l : Gle g g') : postS c W g0 B g' Dn x := by
  cases x with
  | next r w => exact fun g2 H2 σ2 l2 => h g2 H2 σ2 (l.trans l2)
  | ret d w => exact fun g2 H2 v l2 => h g2 H2 v (l.trans l2)
  | exc k r w => exact fun g2 H2 σ2 l2 => h g2 H2 σ2 (l.trans l2)
  | bad => exact h
theorem bndS {α β : Type} {R : Gs → β → α → Prop} {g0 g : Gs} {B H : Hp} {Dn : Ends} {x : Res α} {r : Rho} {σ : St} {f : α → Wd → RS} (h : postS c W g0 B g Dn (x.toS r f)) (E : EOk c B g H r σ) (x0 : Ext g0 B g H)
    {Q1 : β → Hp → Prop} (k : ∀ g1 H1 v d w1, x = .ok d w1 → Ext g H g1 H1 → WOk c g1 H1 w1 → R g1 v d → EOk c B g1 H1 r σ → Ext g0 B g1 H1 → postS c W g0 B g1 Dn (f d w1) → Q1 v H1) : post c R g H Q1 (WE W σ) x := by
  cases x with
  | ok d w => exact fun g1 H1 v e w1 q => k g1 H1 v d w rfl e w1 q (E.ext e) (x0.trans e) ((show postS c W g0 B g Dn (f d w) from h).up e.toGle)
  | exc j w => exact fun g1 H1 e w1 => h g1 H1 σ e.toGle (x0.trans e) (E.ext e) w1
  | bad => exact h
theorem st_ret (he : PE X e (rd c W me)) : PS X (.Return (some e) pos) (rs c W (sRet me)) := by
  refine (ps_ret he).mono fun Dn σ H h => ?_
  obtain ⟨g0, B, g, r, w, E, k, x0, p⟩ := h
  exact ⟨B, g, r, w, E, k, bndS p E x0 fun g1 H1 v d w1 _ x1 k1 r1 E1 y1 p1 => p1 g1 H1 v (Gle.refl _) y1 k1 r1⟩
theorem st_exp (he : PE X e (rd c W me)) (hs : swapsWith e none pos.line X.env = pure false) : PS X (.Expr e pos) (rs c W (sExp me)) := by
  refine (ps_expr he hs).mono fun Dn σ H h => ?_
  obtain ⟨g0, B, g, r, w, E, k, x0, p⟩ := h
  exact ⟨B, g, r, w, E, k, bndS p E x0 fun g1 H1 v d w1 _ x1 k1 r1 E1 y1 p1 => p1 g1 H1 σ (Gle.refl _) y1 E1 k1⟩
theorem st_asgN {i : Nat} (h : PS X st (tAsg (rd c W me) (gName i))) : PS X st (rs c W (sAsg (.nm i) me)) := by
  refine h.mono fun Dn σ H h => ?_
  obtain ⟨g0, B, g, r, w, E, k, x0, p⟩ := h
  exact ⟨B, g, r, w, E, k, bndS p E x0 fun g1 H1 v d w1 _ x1 k1 r1 E1 y1 p1 => by
    simp only [bindT] at p1
    exact p1 g1 H1 _ (Gle.refl _) y1 (E1.setD i r1) k1⟩
theorem st_asg {t : Tg} (h : PS X st (tAsg (rd c W me) (rdG c t))) : PS X st (rs c W (sAsg t me)) := by
  refine h.mono fun Dn σ H h => ?_
  obtain ⟨g0, B, g, r, w, E, k, x0, p⟩ := h
  refine ⟨B, g, r, w, E, k, bndS p E x0 fun g1 H1 v d w1 _ x1 k1 r1 E1 y1 p1 => ?_⟩
  cases hb : bindT t d r with
  | none => rw [hb] at p1; exact False.elim p1
  | some r' =>
    rw [hb] at p1
    exact ⟨B, g1, r, d, r', E1, k1.sub, r1, hb, fun σ' _ E' => p1 g1 H1 σ' (Gle.refl _) y1 E' k1⟩
theorem st_own {i : Nat} (h : PS X st (tAsg (rdL c W ma) (gName i))) : PS X st (rs c W (sOwn i ma)) := by
  refine h.mono fun Dn σ H h => ?_
  obtain ⟨g0, B, g, r, w, E, k, x0, p⟩ := h
  refine ⟨B, g, r, w, E, k, ?_⟩
  unfold sOwn at p
  cases hm : ma r w with
  | bad => rw [hm] at p; exact p
  | exc j w' => rw [hm] at p; exact fun g1 H1 x1 k1 => p g1 H1 σ x1.toGle (x0.trans x1) (E.ext x1) k1
  | ok ds w' =>
    rw [hm] at p
    intro g1 H1 q vs x1 k1 hp hF hW hv rl
    exact p g1 H1 _ x1.toGle (x0.trans x1) (E.setO x1 i hp (x0.dom _ hp) hF hW hv rl) k1
theorem ss_nil : PSs X [] (rs c W sNil) := pss_nil.mono fun Dn σ H h => by
  obtain ⟨g0, B, g, r, w, E, k, x0, p⟩ := h
  exact p g H σ (Gle.refl _) x0 E k
theorem ss_cons {m1 m2 : MS} (h1 : PS X st (rs c W m1)) (h2 : PSs X sts (rs c W m2)) : PSs X (st :: sts) (rs c W (sSeq m1 m2)) := by
  refine (pss_cons h1 h2).mono fun Dn σ H h => ?_
  obtain ⟨g0, B, g, r, w, E, k, x0, p⟩ := h
  refine ⟨g0, B, g, r, w, E, k, x0, ?_⟩
  unfold sSeq at p
  revert p
  cases m1 r w with
  | next r1 w1 => exact fun p g1 H1 σ1 l1 x1 E1 k1 => ⟨g0, B, g1, r1, w1, E1, k1, x1, p.up l1⟩
  | ret d w1 => exact fun p => p
  | exc j r1 w1 => exact fun p => p
  | bad => exact fun p => p
/-- one statement alone -/
theorem ss_one {m : MS} (h : PS X st (rs c W m)) : PSs X [st] (rs c W m) := (pss_one h)
theorem st_if {a b : List Stmt} {m1 m2 : MS} (ht : PT X e (rdT c W mt)) (ha : PSs X a (rs c W m1)) (hb : PSs X b (rs c W m2)) : PS X (.If e a b pos) (rs c W (sIf mt m1 m2)) := by
  refine (ps_if ht ha hb).mono fun Dn σ H h => ?_
  obtain ⟨g0, B, g, r, w, E, k, x0, p⟩ := h
  refine ⟨B, g, r, w, E, k, bndS p E x0 fun g1 H1 v d w1 _ x1 k1 r1 E1 y1 p1 => ?_⟩
  subst r1
  cases v with
  | true => exact iteT ⟨g0, B, g1, r, w1, E1, k1, y1, p1⟩
  | false => exact iteF ⟨g0, B, g1, r, w1, E1, k1, y1, p1⟩
theorem st_for {tg iter : Expr} {body : List Stmt} {it : MI} {t : Tg} {mb : MS} (hp : PassesOwn (model X.prog X.w) X.A X.env X.xe) (hc : X.calm = true) (hi : PI X tg iter (rdI c W it)) (hg : PG X tg (rdG c t)) (hb : PSs X body (rs c W mb))
    (hs : ∀ x, foldedSetIterable iter X.env x = pure x) : PS X (.For tg iter body [] pos) (rs c W (sFor it t mb)) := by
  refine (ps_for hp hc hi hg hb hs).mono fun Dn σ H h => ?_
  obtain ⟨g0, B, g, r, w, E, k, x0, p⟩ := h
  refine ⟨B, g, r, w, E, k, ?_⟩
  unfold sFor at p
  cases hm : it r w with
  | bad => rw [hm] at p; exact p
  | exc j w' => rw [hm] at p; exact fun g1 H1 x1 k1 => p g1 H1 σ x1.toGle (x0.trans x1) (E.ext x1) k1
  | ok ds w1 =>
    rw [hm] at p
    have p : postS c W g0 B g Dn (forGo t mb ds r w1) := p
    intro g1 H1 J x1 k1 wd
    obtain ⟨Gd, Y, hw, hG, hY⟩ := wd.ex
    refine for_it hw (fun i σ2 H2 => i ≤ ds.length ∧ ∃ g2 r2 w2, Gle g1 g2 ∧ Ext g0 B g2 H2 ∧ EOk c B g2 H2 r2 σ2 ∧ WOk c g2 H2 w2 ∧ postS c W g0 B g2 Dn (forGo t mb (ds.drop i) r2 w2)) ?_ ?_ ?_ ?_
    · exact ⟨Nat.zero_le _, g1, r, w1, Gle.refl _, x0.trans x1, E.ext x1, k1, by rw [List.drop_zero]; exact p.up x1.toGle⟩
    · rintro i σ2 H2 _ ⟨_, g2, r2, w2, l2, x2, E2, k2, _⟩
      exact hG g2 H2 ⟨l2, k2.sub⟩
    · rintro i x σ2 H2 H3 hi ⟨_, g2, r2, w2, l2, x2, E2, k2, p2⟩ hy
      obtain ⟨g3, d, hd, x3, k3, r3⟩ := hY i g2 H2 w2 x H3 ⟨l2, k2.sub⟩ k2 hy hi
      have e4 : ds.drop i = d :: ds.drop (i + 1) := by
        rw [List.drop_eq_getElem_cons hi]
        congr 1
        rw [List.getElem?_eq_getElem hi] at hd
        exact Option.some.inj hd
      rw [e4] at p2
      have p3 := p2.up x3.toGle
      cases hbi : bindT t d r2 with
      | none => simp only [forGo, hbi] at p3; exact False.elim p3
      | some r3' =>
        simp only [forGo, hbi] at p3
        refine ⟨B, g3, r2, d, r3', E2.ext x3, k3.sub, r3, hbi, fun σ4 _ E4 => ⟨g0, B, g3, r3', w2, E4, k3, x2.trans x3, ?_⟩⟩
        revert p3
        cases mb r3' w2 with
        | next r5 w5 => exact fun p3 g5 H5 σ5 l5 x5 E5 k5 => ⟨hi, g5, r5, w5, (l2.trans x3.toGle).trans l5, x5, E5, k5, (show postS c W g0 B g3 Dn (forGo t mb (ds.drop (i + 1)) r5 w5) from p3).up l5⟩
        | ret d w5 => exact fun p3 => p3
        | exc j r5 w5 => exact fun p3 => p3
        | bad => exact fun p3 => p3
    · rintro σ2 H2 ⟨_, g2, r2, w2, l2, x2, E2, k2, p2⟩
      rw [List.drop_length] at p2
      exact p2 g2 H2 σ2 (Gle.refl _) x2 E2 k2
theorem st_wh {body : List Stmt} {μ : Rho → Nat} {mb : MS} (hp : PassesOwn (model X.prog X.w) X.A X.env X.xe) (ht : PT X e (rdT c W mt)) (hb : PSs X body (rs c W mb)) : PS X (.While e body [] pos) (rs c W (sWh μ mt mb)) := by
  refine (ps_while hp ht hb).mono fun Dn σ H h => ?_
  obtain ⟨g0, B, g, r, w, E, k, x0, p⟩ := h
  refine ⟨fun n σ2 H2 => ∃ g2 r2 w2, Ext g0 B g2 H2 ∧ EOk c B g2 H2 r2 σ2 ∧ WOk c g2 H2 w2 ∧ postS c W g0 B g2 Dn (whGo mt mb n r2 w2), ⟨μ r, g, r, w, x0, E, k, p⟩, ?_⟩
  rintro n σ2 H2 ⟨g2, r2, w2, x2, E2, k2, p2⟩
  cases n with
  | zero => exact False.elim p2
  | succ n =>
    refine ⟨B, g2, r2, w2, E2, k2, bndS p2 E2 x2 fun g3 H3 v d w3 _ x3 k3 r3 E3 y3 p3 => ?_⟩
    subst r3
    cases v with
    | false => exact iteF (p3 g3 H3 σ2 (Gle.refl _) y3 E3 k3)
    | true =>
      refine iteT ⟨fun σ4 H4 => ∃ g4 r4 w4, Ext g0 B g4 H4 ∧ EOk c B g4 H4 r4 σ4 ∧ WOk c g4 H4 w4 ∧ postS c W g0 B g4 Dn (whGo mt mb n r4 w4), fun σ4 H4 q => ⟨n, Nat.lt_succ_self n, q⟩, g0, B, g3, r2, w3, E3, k3, y3, ?_⟩
      simp only [if_true] at p3
      revert p3
      cases mb r2 w3 with
      | next r5 w5 => exact fun p3 g5 H5 σ5 l5 x5 E5 k5 => ⟨g5, r5, w5, x5, E5, k5, (show postS c W g0 B g3 Dn (whGo mt mb n r5 w5) from p3).up l5⟩
      | ret d w5 => exact fun p3 => p3
      | exc j r5 w5 => exact fun p3 => p3
      | bad => exact fun p3 => p3
theorem st_raise {k : Nat} (tk : Takes X W) (hc : X.calm = true) (he : PMk X e (fun _ H Q => Q (.ref (c.ec k)) none H)) : PS X (.Raise (some e) none pos) (rs c W (sRaise k)) := by
  refine (ps_raise hc tk he).mono fun Dn σ H h => ?_
  obtain ⟨g0, B, g, r, w, E, k, x0, p⟩ := h
  exact p g H σ (Gle.refl _) x0 E k
theorem st_aug {i : Nat} {x : Str} {op : Operator} {f : D → D → Option D} {rr : R2} {pos' : Pos} (hN : X.N.Nodup) (hi : X.N[i]? = some x) (hx : Loc X.env.scope x) (he : PE X e (rd c W me)) (ho : OpR X (inplaceOp op) rr) (hs : OpS c f rr)
    (hf : X.fn x = true ∨ X.env.scope.names.lookup x = some .local) : PS X (.AugAssign (.Name x pos') op e pos) (rs c W (sAug f i me)) := by
  refine (ps_aug hN hi hx he (ti := rr) (fun pins s σ H x y v u Q I r1 r2 h => ho pins s σ H x y v u Q I r1 r2 h) hf).mono fun Dn σ H h => ?_
  obtain ⟨g0, B, g, r, w, E, k, x0, p⟩ := h
  unfold sAug at p
  split at p
  · rename_i d ed
    obtain ⟨v, h1, h2⟩ := E.dat i d ed
    refine ⟨v, h1, B, g, r, w, E, k, bndS p E x0 fun g1 H1 y dy w1 _ x1 k1 r1 E1 y1 p1 => ?_⟩
    cases hz : f d dy with
    | none => rw [hz] at p1; exact False.elim p1
    | some z =>
      rw [hz] at p1
      exact hs g1 H1 w1 v y d dy z _ k1 (h2.mono x1.toGle) r1 hz fun g2 H2 u x2 k2 r2 => p1 g2 H2 _ x2.toGle (y1.trans x2) ((E1.ext x2).setD i r2) k2
  · exact False.elim p
/-- the list of one's own in slot i is written -/
theorem EOk.mut {B : Hp} {g : Gs} {H : Hp} {r : Rho} {σ : St} {ad : Nat → Addr} {i : Nat} {xs zs : List D} {ws : List V}
    (len : r.length = σ.length) (dat : ∀ (i : Nat) d, r[i]? = some (.dat d) → ∃ v, σ[i]? = some (some v) ∧ Rep c g v d)
    (h1 : ∀ (i : Nat) xs, r[i]? = some (.own xs) → σ[i]? = some (some (.ref (ad i))) ∧ g.F (ad i) = none ∧ ad i ∉ g.wadr ∧ B (ad i) = none ∧ ∃ vs, H (ad i) = some (.lst vs) ∧ RepL c g vs xs)
    (h2 : ∀ (i j : Nat) xs ys, r[i]? = some (.own xs) → r[j]? = some (.own ys) → ad i = ad j → i = j) (e : r[i]? = some (.own xs)) (q : RepL c g ws zs) :
    EOk c B g (upd H (ad i) (.lst ws)) (r.set i (.own zs)) σ := by
  have hi : i < r.length := (List.getElem?_eq_some_iff.mp e).1
  refine ⟨by simp [len], fun j d hj => ?_, ad, fun j ys hj => ?_, fun j k ys us hj hk => ?_⟩
  · rcases getElem?_set' hj with ⟨rfl, e2, hl⟩ | ⟨ne, e2⟩
    · cases e2
    · exact dat j d e2
  · rcases getElem?_set' hj with ⟨rfl, e2, hl⟩ | ⟨ne, e2⟩
    · cases e2
      obtain ⟨a1, a2, a3, a0, _⟩ := h1 i xs e
      exact ⟨a1, a2, a3, a0, ws, upd_same, q⟩
    · obtain ⟨a1, a2, a3, a0, vs, a4, a5⟩ := h1 j ys e2
      exact ⟨a1, a2, a3, a0, vs, by rw [upd_ne fun z => ne (h2 j i ys xs e2 e z).symm]; exact a4, a5⟩
  · have own' : ∀ (l : Nat) (vs : List D), (r.set i (.own zs))[l]? = some (Sl.own vs) → ∃ vs' : List D, r[l]? = some (Sl.own vs') := fun l vs hl => by
      rcases getElem?_set' hl with ⟨rfl, _, _⟩ | ⟨_, e2⟩
      · exact ⟨xs, e⟩
      · exact ⟨vs, e2⟩
    obtain ⟨_, q1⟩ := own' j ys hj
    obtain ⟨_, q2⟩ := own' k us hk
    exact h2 j k _ _ q1 q2
theorem Ext.mut {g0 g : Gs} {B H : Hp} {a : Addr} {o : HO} (x : Ext g0 B g H) (hB : B a = none) : Ext g0 B g (L2.upd H a o) := by
  refine ⟨x.toGle, fun b u e n => ?_, fun b e => ?_, x.frF, x.frW⟩
  · rw [upd_ne (ne_of_none e hB)]
    exact x.keep b u e n
  · by_cases q : b = a
    · rw [q]; exact hB
    · rw [upd_ne q] at e
      exact x.dom b e
theorem own_at {B : Hp} {g : Gs} {H : Hp} {r : Rho} {σ : St} {i : Nat} {xs : List D} (E : EOk c B g H r σ) (e : r[i]? = some (.own xs)) : ∃ a vs, σ[i]? = some (some (.ref a)) ∧ H a = some (.lst vs) ∧ RepL c g vs xs ∧ g.F a = none ∧ a ∉ g.wadr ∧ B a = none ∧
    ∀ zs ws, RepL c g ws zs → EOk c B g (upd H a (.lst ws)) (r.set i (.own zs)) σ := by
  obtain ⟨ad, h1, h2⟩ := E.own
  obtain ⟨a1, a2, a3, a0, vs, a4, a5⟩ := h1 i xs e
  exact ⟨ad i, vs, a1, a4, a5, a2, a3, a0, fun zs ws q => EOk.mut E.len E.dat h1 h2 e q⟩
theorem st_app {i : Nat} {x : Str} {apos cpos pos' : Pos} (hN : X.N[i]? = some x) (hv : Vis X.env.scope x) (hd : (x == ("__debug__" : Str)) = false) (hcd : (x == ("__classdict__" : Str)) = false) (he : PE X e (rd c W me)) (hl : (apos.endLine == cpos.line) = true) (hs : starEach [e] X.env = [(false, eval e X.env)]) :
    PS X (.Expr (.Call (.Attribute (.Name x pos') "append" apos) [e] [] cpos) pos) (rs c W (sMut i fApp me)) := by
  refine (ps_expr (pe_bm PySem.F.plainAttrs_list PySem.F.slot_list_append PySem.F.type_list_append mt_append (pe_var hN hv hd hcd) (pa_cons he pa_nil hs) rfl (by rw [hs]; rfl) hl hs rfl)).mono fun Dn σ H h => ?_
  obtain ⟨g0, B, g, r, w, E, k, x0, p⟩ := h
  unfold sMut at p
  split at p
  · rename_i xs ex
    obtain ⟨a, vs, b1, b2, b3, _⟩ := own_at E ex
    refine ⟨_, b1, .inl ⟨rfl, vs, SqL.of b2⟩, B, g, r, w, E, k, bndS p E x0 fun g1 H1 y dy w1 _ x1 k1 r1 E1 y1 p1 => ?_⟩
    obtain ⟨a', vs', c1, c2, c3, c4, c5, c6, c7⟩ := own_at E1 ex
    obtain rfl : a = a' := by
      rw [b1] at c1
      cases c1; rfl
    cases hz : fApp xs dy with
    | none => rw [hz] at p1; exact False.elim p1
    | some zs =>
      rw [hz] at p1
      unfold fApp at hz
      split at hz <;> cases hz
      rename_i hlen
      have hb : big < sizeLine := by decide
      exact ⟨a, vs', y, rfl, rfl, c2, by rw [c3.length]; omega, p1 g1 _ σ (Gle.refl _) (y1.mut c6) (c7 _ _ (c3.append (.cons r1 .nil))) (k1.write c5 c4)⟩
  · exact False.elim p
theorem set_self {σ : St} {i : Nat} {v : Option V} (h : σ[i]? = some v) : σ.set i v = σ := by
  apply List.ext_getElem?
  intro j
  by_cases e : i = j
  · subst e
    rw [List.getElem?_set_self (List.getElem?_eq_some_iff.mp h).1, h]
  · rw [List.getElem?_set_ne e]
theorem st_ext {i : Nat} {x : Str} {pos' : Pos} (hN : X.N.Nodup) (hi : X.N[i]? = some x) (hx : Loc X.env.scope x) (he : PE X e (rd c W me)) (hf : X.fn x = true ∨ X.env.scope.names.lookup x = some .local) :
    PS X (.AugAssign (.Name x pos') .Add e pos) (rs c W (sMut i fExt me)) := by
  refine (ps_aug hN hi hx he (ti := rExt2) (fun pins s σ H x y v u Q I r1 r2 h => iop_ext pins s σ H x y v u Q I r1 r2 h) hf).mono fun Dn σ H h => ?_
  obtain ⟨g0, B, g, r, w, E, k, x0, p⟩ := h
  unfold sMut at p
  split at p
  · rename_i xs ex
    obtain ⟨a, vs, b1, b2, b3, _⟩ := own_at E ex
    refine ⟨_, b1, B, g, r, w, E, k, bndS p E x0 fun g1 H1 y dy w1 _ x1 k1 r1 E1 y1 p1 => ?_⟩
    obtain ⟨a', vs', c1, c2, c3, c4, c5, c6, c7⟩ := own_at E1 ex
    obtain rfl : a = a' := by
      rw [b1] at c1
      cases c1; rfl
    cases hz : fExt xs dy with
    | none => rw [hz] at p1; exact False.elim p1
    | some zs =>
      rw [hz] at p1
      unfold fExt at hz
      split at hz
      · split at hz <;> cases hz
        rename_i hlen
        cases r1 with
        | lst hy ly =>
          refine ⟨a, _, vs', _, rfl, rfl, c2, k1.sub _ _ hy, by rw [c3.length, ly.length]; exact Nat.le_trans hlen big_le, ?_⟩
          dsimp only
          rw [set_self c1]
          exact p1 g1 _ σ (Gle.refl _) (y1.mut c6) (c7 _ _ (c3.append ly)) (k1.write c5 c4)
      · cases hz
  · exact False.elim p
theorem st_set {i : Nat} {x : Str} {ei : Expr} {mi : ME} {pos' spos : Pos} (hN : X.N[i]? = some x) (hv : Vis X.env.scope x) (hd : (x == ("__debug__" : Str)) = false) (hcd : (x == ("__classdict__" : Str)) = false) (hi : PE X ei (rd c W mi)) (he : PE X e (rd c W me))
    (ha : ∀ v, assign (.Subscript (.Name x pos') ei spos) X.env v = (do
      let ov ← holding [v] (eval (.Name x pos') X.env)
      let iv ← holding [v, ov] (eval ei X.env)
      standAt spos
      holding [v, ov, iv] (setItem ov iv v)
      release [v, ov, iv] [])) (hs : swapsWithSole [.Subscript (.Name x pos') ei spos] e pos.line X.env = pure false) (hw : swappedStores [.Subscript (.Name x pos') ei spos] e X.env = pure none) :
    PS X (.Assign [.Subscript (.Name x pos') ei spos] e pos) (rs c W (sSet i mi me)) := by
  refine (ps_asg he (pg_sub (pe_var hN hv hd hcd) hi set_list ha) hs hw rfl).mono fun Dn σ H h => ?_
  obtain ⟨g0, B, g, r, w, E, k, x0, p⟩ := h
  unfold sSet at p
  split at p
  · rename_i xs ex
    obtain ⟨a, vs, b1, b2, b3, _⟩ := own_at E ex
    refine ⟨B, g, r, w, E, k, bndS p E x0 fun g1 H1 y dy w1 _ x1 k1 r1 E1 y1 p1 => ⟨_, b1, B, g1, r, w1, E1, k1, bndS p1 E1 y1 fun g2 H2 j dj w2 _ x2 k2 r2 E2 y2 p2 => ?_⟩⟩
    obtain ⟨a', vs', c1, c2, c3, c4, c5, c6, c7⟩ := own_at E2 ex
    obtain rfl : a = a' := by
      rw [b1] at c1
      cases c1; rfl
    cases r2 with
    | int n =>
      cases hz : ixN xs.length n with
      | none => simp only [hz] at p2; exact False.elim p2
      | some l =>
        simp only [hz] at p2
        exact ⟨a, vs', n, l, rfl, rfl, c2, by rw [c3.length]; exact hz, p2 g2 _ σ (Gle.refl _) (y2.mut c6) (c7 _ _ (c3.set (r1.mono x2.toGle) l)) (k2.write c5 c4)⟩
    | _ => exact False.elim p2
  · exact False.elim p
/-- freezing is no step of the program's -/
theorem frz_rs {i : Nat} {m : MS} {Dn : Ends} {σ : St} {H : Hp} (h : rs c W (sFrz i m) Dn σ H) : rs c W m Dn σ H := by
  obtain ⟨g0, B, g, r, w, E, k, x0, p⟩ := h
  unfold sFrz frzR at p
  split at p
  · rename_i xs ex
    obtain ⟨a, vs, b1, b2, b3, b4, b5, b6, _⟩ := own_at E ex
    obtain ⟨x2, k2, L⟩ := freeze x0 k b6 b4 b5 b2
    refine ⟨g0, B, _, _, w, ?_, k2, x2, p.up L⟩
    have E2 : EOk c B (g.lay a (.lst vs)) H (r.set i .emp) (σ.set i none) := by
      have E' := E.drop i none
      refine ⟨E'.len, fun j d hj => ?_, ?_⟩
      · obtain ⟨v, q1, q2⟩ := E'.dat j d hj
        exact ⟨v, q1, q2.mono L⟩
      · obtain ⟨ad, h1, h2⟩ := E.own
        have ha : ad i = a := by
          have := (h1 i xs ex).1
          rw [b1] at this
          cases this; rfl
        refine ⟨ad, fun j ys hj => ?_, fun j l ys us hj hl => ?_⟩
        · rcases getElem?_set' hj with ⟨rfl, e2, _⟩ | ⟨ne, e2⟩
          · cases e2
          · obtain ⟨a1, a2, a3, a0, vs', a4, a5⟩ := h1 j ys e2
            refine ⟨by rw [List.getElem?_set_ne ne]; exact a1, ?_, a3, a0, vs', a4, a5.mono L⟩
            show upd g.F a _ (ad j) = none
            rw [upd_ne fun z => ne (h2 j i ys xs e2 ex (z.trans ha.symm)).symm]
            exact a2
        · rcases getElem?_set' hj with ⟨rfl, e2, _⟩ | ⟨ne, e2⟩
          · cases e2
          · rcases getElem?_set' hl with ⟨rfl, e3, _⟩ | ⟨ne', e3⟩
            · cases e3
            · exact h2 j l ys us e2 e3
    have E3 := E2.setD i (v := .ref a) (d := .lst xs) (.lst upd_same (b3.mono L))
    rw [List.set_set, List.set_set, set_self b1] at E3
    exact E3
  · exact ⟨g0, B, g, r, w, E, k, x0, p⟩
theorem st_frz {i : Nat} {m : MS} (h : PS X st (rs c W m)) : PS X st (rs c W (sFrz i m)) := h.mono fun _ _ _ q => frz_rs q
end

/-! ### a def -/
def startR (n : Nat) (ds : List D) : Rho := ds.map Sl.dat ++ List.replicate (n - ds.length) Sl.emp
def mFun (n : Nat) (m : MS) : MF := fun ds w => match m (startR n ds) w with
  | .next _ w => .ok .non w
  | .ret d w => .ok d w
  | .exc k _ w => .exc k w
  | .bad => .bad
theorem start_ok {c : Cn} {g : Gs} {H : Hp} {vs : List V} {ds : List D} (N : List Str) (h : RepL c g vs ds) : EOk c H g H (startR N.length ds) (L2.start N vs) := by
  have hl := h.length
  refine ⟨by simp [startR, L2.start, hl], fun i d e => ?_, fun _ => 0, fun i xs e => ?_, fun i j xs ys e => ?_⟩
  · unfold startR at e
    by_cases hi : i < ds.length
    · rw [List.getElem?_append_left (by simpa using hi), List.getElem?_map] at e
      cases q : ds[i]? with
      | none => rw [q] at e; cases e
      | some d' =>
        rw [q] at e
        cases e
        obtain ⟨v, h1, h2⟩ := h.getD q
        exact ⟨v, by unfold L2.start; rw [List.getElem?_append_left (by simpa [hl] using hi), List.getElem?_map, h1]; rfl, h2⟩
    · rw [List.getElem?_append_right (by simpa using hi), List.getElem?_replicate] at e
      split at e <;> cases e
  · unfold startR at e
    by_cases hi : i < ds.length
    · rw [List.getElem?_append_left (by simpa using hi), List.getElem?_map] at e
      cases q : ds[i]? with
      | none => rw [q] at e; cases e
      | some d' => rw [q] at e; cases e
    · rw [List.getElem?_append_right (by simpa using hi), List.getElem?_replicate] at e
      split at e <;> cases e
  · exfalso
    unfold startR at e
    by_cases hi : i < ds.length
    · rw [List.getElem?_append_left (by simpa using hi), List.getElem?_map] at e
      cases q : ds[i]? with
      | none => rw [q] at e; cases e
      | some d' => rw [q] at e; cases e
    · rw [List.getElem?_append_right (by simpa using hi), List.getElem?_replicate] at e
      split at e <;> cases e
/-- f' promises no more than f -/
def Ref (f f' : MF) : Prop := ∀ ds w, f' ds w = .bad ∨ f ds w = f' ds w
theorem spOf_ref {c : Cn} {n : Nat} {f f' : MF} (h : Ref f f') : ∀ vs H Q E, spOf c n f' vs H Q E → spOf c n f vs H Q E := by
  intro vs H Q E q
  obtain ⟨q1, g, ds, w, q2, q3, q4⟩ := q
  refine ⟨q1, g, ds, w, q2, q3, ?_⟩
  rcases h ds w with e | e
  · rw [e] at q4; exact False.elim q4
  · rw [e]; exact q4
section
variable {P : Program} {w : World} {K : PySem.W.Frag} {mg : Str → Option Value} {base : Heap}
/-- a def of the text, by the meaning of its body -/
theorem fun_ok {c : Cn} {x qual : Str} {st : Stmt} {f : Addr} {fd : FuncData} {N ps : List Str} {k : Nat} {m : MS} (F : Fun K x qual st f fd) (S : FnScope N ps (defScope st))
    (hb : ∀ (X : Cx) (W : WX), X.prog = P → X.w = w → X.K = K → X.mg = mg → X.base = base → X.N = N → X.env.scope = defScope st → X.calm = true → (∀ x, X.fn x = true) → Takes X W → PassesOwn (model X.prog X.w) X.A X.env X.xe → Room k X.A → X.stack = X.env :: X.outer → X.env.frame = some X.env.locals → PSs X (defBody st) (rs c W m)) :
    FnOk P w K mg base (L2.CX P w) (k + 1) f fd ps (spOf c ps.length (mFun N.length m)) := by
  refine F.okX S (fun vs H Q E h => h.1) fun cdv A outer s H vs Q E hr h => ?_
  obtain ⟨q1, g, ds, w', q2, q3, q4⟩ := h
  refine ⟨_, hb _ (fun cls d _ H => E cls d H) rfl rfl rfl rfl rfl rfl rfl rfl (fun _ => rfl) (takes_of rfl rfl rfl rfl) (passes_of rfl) hr rfl rfl, ?_⟩
  refine ⟨g, H, g, startR N.length ds, w', start_ok N q2, q3, Ext.refl _ _, ?_⟩
  unfold mFun at q4
  revert q4
  cases m (startR N.length ds) w' with
  | next r w2 => exact fun q4 g' H' σ' _ x _ k' => q4 g' H' .non x k' .non
  | ret d w2 => exact fun q4 g' H' v _ x k' r => q4 g' H' v x k' r
  | exc j r w2 => exact fun q4 g' H' σ' _ x _ k' => q4 g' H' x k'
  | bad => exact fun q4 => q4
end
end RL

/-! except X as e: the exception is kept as a value behind the clause -/
namespace RL
open PySem PySem.Spec PyProof.Rows L2
def exT (cls : Value) (d : Option Addr) (a : Addr) : HO := .ext fun h => ∃ oe vs, h.get? a = some oe ∧ Zc cls d oe ∧ oe.data = .fields vs
theorem inv_track {X : Cx} {pins : List (Addr × Obj)} {σ : L2.St} {H : Hp} {s : Shared} (I : Inv X pins σ H s) {a : Addr} {oe : Obj} {vs : Array Value} {cls : Value} {d : Option Addr} (h0 : ∀ b o, X.s_0.heap.get? b = some o → b ∉ X.ex → b ≠ a) (hn : H a = none)
    (np : ∀ p ∈ X.pn ++ pins, p.1 ≠ a) (nL : a ≠ X.env.locals) (ho : s.heap.get? a = some oe) (hz : Zc cls d oe) (hd : oe.data = .fields vs) : Inv X pins σ (upd H a (exT cls d a)) s := by
  have old : ∀ b u, H b = some u → b ≠ a := fun b u e z => by
    rw [z, hn] at e
    cases e
  have new : ObjOk X.prog X.w (upd H a (exT cls d a)) s.heap a (exT cls d a) := ⟨⟨oe, vs, ho, hz, hd⟩, ⟨oe, ho⟩, fun _ _ ⟨o, v, q, r⟩ k => ⟨o, v, k o q, r⟩⟩
  refine ⟨I.ok, I.os, I.bare, ⟨I.base.keep, I.base.slot, fun b o e n x => ?_, I.base.there, fun b xs e => ?_, fun b o u e => ?_, fun b ps e => ?_⟩, I.loc, I.cell, ?_, fun x c e => ?_, fun p hp => ?_, I.hok.laidN (fun _ _ q => q) hn new, I.len⟩
  · rw [upd_ne (h0 b o e x)]
    exact I.base.free b o e n x
  · have q := I.base.tups b xs e
    rw [upd_ne (old _ _ q)]
    exact q
  · have q := I.base.frzs b o u e
    rw [upd_ne (old _ _ q)]
    exact q
  · obtain ⟨more, q⟩ := I.base.tbls b ps e
    exact ⟨more, by rw [upd_ne (old _ _ q)]; exact q⟩
  · rw [upd_ne (Ne.symm nL)]
    exact I.free
  · rw [upd_ne fun z => ?_]
    · exact I.freeC x c e
    · obtain ⟨v, o, k1, k2⟩ := I.cell x c e
      rw [z, ho] at k1
      cases k1
      rw [hd] at k2
      cases k2
  · obtain ⟨q1, q2, q3⟩ := I.pin p hp
    exact ⟨q1, by rw [upd_ne (np p hp)]; exact q2, q3⟩
/-- the wish: the class is caught, the suite runs, the exception is there from then on -/
def wKeep (K : PySem.W.Frag) (n : Nat) (cv : Value) (i : Nat) (ts : Addr → TS) (Dn : Ends) : WX := fun cls d σ H =>
  PySem.W.exmOne K cls cv = some true ∧ ∀ a, σ.length = n → H a = none → ts a { nx := fun σ' H' => Dn.nx (σ'.set i none) (upd H' a (exT cls d a)), rt := fun _ _ => False } (σ.set i (some (.ref a))) H
theorem ps_try_keep {X : Cx} {x n : Str} {cv : Value} {i : Nat} {body suite : List Stmt} {b₀ : Stmt} {np pos pos' : Pos} {tb : WX → TS} {ts : Addr → TS} (hs : X.stack = X.env :: X.outer) (hf : X.env.frame = some X.env.locals) (hN : X.N.Nodup) (hi : X.N[i]? = some n) (hln : X.env.kindOf n = some .local) (hc : Names X x cv)
    (hb : ∀ (W : WX) (pn : List (Addr × Obj)) (xe : Value → Shared → Prop), Takes (X.tr pn xe) W → PassesOwn (model X.prog X.w) X.A X.env xe → PSs (X.tr pn xe) body (tb W))
    (hsu : ∀ (a : Addr) (pn : List (Addr × Obj)), PSs (X.suite a pn) (b₀ :: suite) (ts a)) :
    PS X (.Try body [.ExceptHandler (some (.Name x np)) (some n) (b₀ :: suite) pos'] [] [] pos) (fun Dn σ H => tb (wKeep X.K X.N.length cv i ts Dn) Dn σ H) := by
  refine ⟨fun pins s σ H Dn I h => wpAny_Try_except ?_⟩
  have ok := I.ok
  have framed : X.A.frames = some (X.env :: X.outer) := by rw [ok.frames, hs]
  let hand : Value → Sem Flow := fun e => handleBy e X.env [.ExceptHandler (some (.Name x np)) (some n) (b₀ :: suite) pos']
  let wish : Value → Shared → Prop := fun e s₁ => wpAny (model X.prog X.w) X.A (noteFrame e X.env) (fun _ s₂ => wpAny (model X.prog X.w) X.A (setFlight e none) (fun _ s₃ => wpAny (model X.prog X.w) X.A (hand e) (SP X pins Dn) X.xe s₃) X.xe s₂) X.xe s₁
  refine wpAny_mono ((hb (wKeep X.K X.N.length cv i ts Dn) (X.pn ++ pins) wish (fun u s' z => ?_) PassesOwn.looking).run [] s σ H Dn (I.toTry _) h) (fun f s1 e1 => ?_) (fun e s1 he => he)
  · obtain ⟨a, B, sI, pins', σ', H', cls, d, rfl, JT, nb, up, sky, na, os, ag, hyes, hgo⟩ := z
    have J : Inv X pins σ' H' sI := JT.ofTry ok
    have sky2 : Sky B (X.env :: X.outer) a (Zc cls d) X.env.locals s'.heap := hs ▸ sky
    show wpAny (model X.prog X.w) X.A (noteFrame (.ref a) X.env) _ _ _
    refine Sky.land Zc.steady framed hf sky2 fun hA fA upA => ?_
    have JA : Inv X pins σ' H' { s' with heap := hA } := J.landed nb fA.1 (up.trans upA) os ag
    obtain ⟨oA, vA, gA, zA, dA⟩ := fA.there
    have notIn : a ∉ frs (X.env :: X.outer) := fun hm => by
      obtain ⟨_, o', e', hnf⟩ := fA.2.2.1.mem hm
      rw [gA] at e'
      cases e'
      exact hnf _ dA
    have nL : a ≠ X.env.locals := fun z => notIn (List.mem_filterMap.mpr ⟨X.env, List.mem_cons_self, by rw [hf, z]⟩)
    have nF : a ∉ X.fs := fun hm => by
      obtain ⟨e, he, q⟩ := List.mem_filterMap.mp hm
      exact notIn (List.mem_filterMap.mpr ⟨e, List.mem_cons_of_mem _ he, q⟩)
    have fresh : sI.heap.get? a = none := by
      cases q : sI.heap.get? a with
      | none => rfl
      | some o =>
        have z := nb a o q (by rw [hs]; exact notIn)
        rw [fA.2.1] at z
        cases z
    have SA := JA.suite gA dA na nL nF
    refine wpAny_handleBy_cons (codeAny_handlers_test ?_) (by intro q; cases q)
    have LT : PySem.W.Looks (model X.prog X.w) hA (typeOf (.ref a)) cls := fun A Q E s k q => wpAny_typeOf_ref (k _ _ gA) (by rw [zA.1]; exact q)
    have LM := PySem.W.exm_one (M := model X.prog X.w) (JA.kIn) LT hyes
    have asks : ∀ {Q : Value → Shared → Prop} {E : Value → Shared → Prop}, Q cv { s' with heap := hA } → wpAny (model X.prog X.w) (X.A.mark (some (.ref a))) (eval (.Name x np) X.env) Q E { s' with heap := hA } := fun {Q E} q => by
      obtain ⟨hg, hdbg, hm | ⟨hm, hv, hnn⟩⟩ := hc
      · exact ld_glob (X := X.suite a ((a, oA) :: (X.pn ++ pins))) SA hg hm q hdbg
      · exact ld_blt (X := X.suite a ((a, oA) :: (X.pn ++ pins))) SA hg hm hv q hnn hdbg
    refine asks (LM.here (codeAny_handlers_suite_as ?_))
    refine HandSPX.lands_againZ fA fun hC fC upC => ?_
    have JC : Inv X pins σ' H' { s' with heap := hC } := J.landed nb fC.1 ((up.trans upA).trans upC) os ag
    obtain ⟨oC, vC, gC, zC, dC⟩ := fC.there
    have SC := JC.suite gC dC na nL nF
    refine store_ok (X := X.suite a ((a, oC) :: (X.pn ++ pins))) (v := .ref a) SC hN hi (.inl hln) rfl (fun s5 S5 => ?_) (.inr hln)
    refine wpAny_mono ((hsu a ((a, oC) :: (X.pn ++ pins))).run [] s5 _ H' _ S5 (hgo a J.len na)) (fun f s6 e6 => ?_) (fun _ _ z => False.elim z)
    cases f with
    | next =>
      obtain ⟨σ6, H6, S6, q6⟩ := e6
      obtain ⟨p1, p2, p3, p4, p5⟩ := S6.pin (a, oC) (List.mem_append_left _ List.mem_cons_self)
      have J6 : Inv X pins σ6 H6 s6 := S6.unsuite ok
      have T6 := inv_track (cls := cls) (d := d) J6 (a := a) (fun b o e x z => by
        obtain ⟨o', e'⟩ := J.base.there b o e x
        rw [z, fresh] at e'
        cases e') p2 (fun p hp z => by
        have e' := (J.pin p hp).1
        rw [z, fresh] at e'
        cases e') p3 p1 zC dC
      exact gone_ok T6 hN hi hln fun s7 J7 => ⟨_, _, J7, q6⟩
    | brk =>
      obtain ⟨_, _, _, q6⟩ := e6
      exact False.elim q6
    | cont =>
      obtain ⟨_, _, _, q6⟩ := e6
      exact False.elim q6
    | ret u =>
      obtain ⟨_, _, _, _, _, q6⟩ := e6
      exact False.elim q6
  · cases f with
    | next =>
      obtain ⟨σ', H', J', q⟩ := e1
      exact wpAny_execs_nil ⟨σ', H', J'.ofTry ok, q⟩
    | brk =>
      obtain ⟨σ', H', J', q⟩ := e1
      exact ⟨σ', H', J'.ofTry ok, q⟩
    | cont =>
      obtain ⟨σ', H', J', q⟩ := e1
      exact ⟨σ', H', J'.ofTry ok, q⟩
    | ret u =>
      obtain ⟨v, σ', H', J', r, q⟩ := e1
      exact ⟨v, σ', H', J'.ofTry ok, r, q⟩
end RL

namespace RL
open PySem L2
/-- xs[a], xs[b] = e of one's own -/
def sSet2 (i : Nat) (ma mb me : ME) : MS := fun r w => match r[i]? with
  | some (.own xs) => (me r w).toS r fun y w => (match y with
    | .tup [u, v] => (ma r w).toS r fun j w => (match j with
      | .int n => (match ixN xs.length n with
        | some l => (mb (r.set i (.own (xs.set l u))) w).toS (r.set i (.own (xs.set l u))) fun j w => (match j with
          | .int n => (match ixN xs.length n with
            | some m => .next ((r.set i (.own (xs.set l u))).set i (.own ((xs.set l u).set m v))) w
            | none => .bad)
          | _ => .bad)
        | none => .bad)
      | _ => .bad)
    | _ => .bad)
  | _ => .bad
section
variable {c : Cn} {X : Cx} {W : WX} {e : Expr} {me : ME} {pos : Pos}
theorem st_set2 {i : Nat} {x : Str} {ea eb : Expr} {ma mb : ME} {p1 p2 s1 s2 tp : Pos} {kt : Nat} (hc : X.calm = true) (hN : X.N[i]? = some x) (hv : Vis X.env.scope x) (hd : (x == ("__debug__" : Str)) = false) (hcd : (x == ("__classdict__" : Str)) = false) (h1 : PE X ea (rd c W ma)) (h2 : PE X eb (rd c W mb)) (he : PE X e (rd c W me))
    (ha : ∀ v, assign (.Subscript (.Name x p1) ea s1) X.env v = (do
      let ov ← holding [v] (eval (.Name x p1) X.env)
      let iv ← holding [v, ov] (eval ea X.env)
      standAt s1
      holding [v, ov, iv] (setItem ov iv v)
      release [v, ov, iv] []))
    (hb : ∀ v, assign (.Subscript (.Name x p2) eb s2) X.env v = (do
      let ov ← holding [v] (eval (.Name x p2) X.env)
      let iv ← holding [v, ov] (eval eb X.env)
      standAt s2
      holding [v, ov, iv] (setItem ov iv v)
      release [v, ov, iv] []))
    (hs : swapsWithSole [.Tuple [.Subscript (.Name x p1) ea s1, .Subscript (.Name x p2) eb s2] kt tp] e pos.line X.env = pure false) (hw : swappedStores [.Tuple [.Subscript (.Name x p1) ea s1, .Subscript (.Name x p2) eb s2] kt tp] e X.env = pure none) :
    PS X (.Assign [.Tuple [.Subscript (.Name x p1) ea s1, .Subscript (.Name x p2) eb s2] kt tp] e pos) (rs c W (sSet2 i ma mb me)) := by
  refine (ps_asg he (pg_tup hc (pgs_cons (pg_sub (pe_var hN hv hd hcd) h1 set_list ha) (pgs_cons (pg_sub (pe_var hN hv hd hcd) h2 set_list hb) pgs_nil))) hs hw rfl).mono fun Dn σ H h => ?_
  obtain ⟨g0, B, g, r, w, E, k, x0, p⟩ := h
  unfold sSet2 at p
  split at p
  · rename_i xs ex
    refine ⟨B, g, r, w, E, k, bndS p E x0 fun g1 H1 y dy w1 _ x1 k1 r1 E1 y1 p1 => ?_⟩
    split at p1
    · rename_i u v
      cases r1 with
      | tup ht lt =>
        cases lt with
        | cons ru lt =>
          cases lt with
          | cons rv lt =>
            cases lt
            refine ⟨_, _, rfl, SqT.of (k1.sub _ _ ht), rfl, _, _, rfl, ?_⟩
            obtain ⟨a, vs, b1, b2, b3, _⟩ := own_at E1 ex
            refine ⟨_, b1, B, g1, r, w1, E1, k1, bndS p1 E1 y1 fun g2 H2 j dj w2 _ x2 k2 r2 E2 y2 p2 => ?_⟩
            obtain ⟨a', vs', c1, c2, c3, c4, c5, c6, c7⟩ := own_at E2 ex
            obtain rfl : a = a' := by
              rw [b1] at c1
              cases c1; rfl
            cases r2 with
            | int n =>
              cases hz : ixN xs.length n with
              | none => simp only [hz] at p2; exact False.elim p2
              | some l =>
                simp only [hz] at p2
                refine ⟨a, vs', n, l, rfl, rfl, c2, by rw [c3.length]; exact hz, ?_⟩
                have E3 := c7 _ _ (c3.set (ru.mono x2.toGle) l)
                have y3 : ∀ ws, Ext g0 B g2 (upd H2 a (.lst ws)) := fun ws => y2.mut c6
                have k3 : ∀ ws, WOk c g2 (upd H2 a (.lst ws)) w2 := fun ws => k2.write c5 c4
                have hi : i < r.length := (List.getElem?_eq_some_iff.1 ex).1
                have ex3 : ∀ z, (List.set r i (Sl.own z))[i]? = some (Sl.own z) := fun z => by rw [List.getElem?_set_self hi]
                refine ⟨_, _, rfl, ?_⟩
                obtain ⟨a3, vs3, d1, d2, d3, _⟩ := own_at E3 (ex3 _)
                refine ⟨_, d1, B, g2, _, w2, E3, k3 _, bndS p2 E3 (y3 _) fun g4 H4 j4 dj4 w4 _ x4 k4 r4 E4 y4 p4 => ?_⟩
                obtain ⟨a4, vs4, f1, f2, f3, f4, f5, f6, f7⟩ := own_at E4 (ex3 _)
                obtain rfl : a3 = a4 := by
                  rw [d1] at f1
                  cases f1; rfl
                cases r4 with
                | int n4 =>
                  cases hz4 : ixN xs.length n4 with
                  | none => simp only [hz4] at p4; exact False.elim p4
                  | some m =>
                    simp only [hz4] at p4
                    exact ⟨a3, vs4, n4, m, rfl, rfl, f2, by rw [f3.length, List.length_set]; exact hz4, rfl, p4 g4 _ σ (Gle.refl _) (y4.mut f6) (f7 _ _ (f3.set ((rv.mono x2.toGle).mono x4.toGle) m)) (k4.write f5 f4)⟩
                | _ => exact False.elim p4
            | _ => exact False.elim p2
    · exact False.elim p1
  · exact False.elim p
end
end RL

namespace RL
open PySem L2

/-! ### expressions as data -/
mutual
inductive E where
  | var (i : Nat) | cst (d : D) | gl (j : Nat) | bin (o : Bop) (a b : E) | chn (o o' : Bop) (a b d : E) | neg (a : E) | not (a : E) | and (a b : E) | or (a b : E) | ite (t a b : E)
  | tup (es : Es) | lm (l : L) | ix (a b : E) | oix (i : Nat) (b : E) | sl (a : E) (lo hi : Oe) | rev (a : E) | call (f : Nat) (es : Es) | pri (p : Nat) (es : Es) | bmt (p : Nat) (o : E) (es : Es) | isi (a : E) (t : String)
  | ocmp (o : Bop) (i : Nat) (b : E) | isx (a : E) (j : Nat) | callO (f : Nat) (fst : Bool) (i : Nat) (b : E)
inductive Es where
  | nil | cons (e : E) (es : Es)
inductive Oe where
  | no | so (e : E)
inductive L where
  | disp (es : Es) | of (es : Es) | lrg (a : E) | comp (elt : E) (t : Tg) (vs : List Nat) (it : I) (cond : Oe)
inductive I where
  | seq (e : E) | rng (es : Es) | enm (es : Es) | zip (es : Es) | own (i : Nat) | ownE (i : Nat)
end
/-- the defs, built-ins, methods, constants and errors that a text names -/
structure Tab where
  fns : List (Str × Nat × MF)
  pri : List (Str × (List D → Option D))
  bmt : List (Str × (D → List D → Option D))
  cs : List (Str × D)
  exs : List Str
  trs : List (Str × List Nat)
  cls : List (Str × (Nat → Option Bool))
/-- isinstance of an exception that is held -/
def dIsx (f : Nat → Option Bool) : D → Option D
  | .exc k => (f k).map .bl
  | _ => none
def noC : Str × (Nat → Option Bool) := (Str.empty, fun _ => none)
/-- list(range(n)) -/
def dLrg : D → Option (List D)
  | .int n => if decide (0 ≤ n) && decide (n ≤ big) then some (iota 0 n.toNat) else none
  | _ => none
def mLrg (m : ME) : MA := fun r w => (m r w).bind fun x w => lift (dLrg x) w
def noF : Str × Nat × MF := (Str.empty, 0, fun _ _ => .bad)
def tyName : D → Option String
  | .non => some "NoneType"
  | .bl _ => some "bool"
  | .int _ => some "int"
  | .str _ => some "str"
  | .lst _ => some "list"
  | .tup _ => some "tuple"
  | _ => none
def dIsi (t : String) (d : D) : Option D := (tyName d).map fun s => .bl (s == t || (s == "bool" && t == "int"))
def tyOk : String → Bool
  | "int" => true
  | "bool" => true
  | "str" => true
  | "list" => true
  | "tuple" => true
  | _ => false
def mOix (i : Nat) (m : ME) : ME := fun r w => match r[i]? with
  | some (.own xs) => (m r w).bind fun y w => lift (dIx (.lst xs) y) w
  | _ => .bad
def mOcmp (f : D → D → Option D) (i : Nat) (m : ME) : ME := fun r w => match r[i]? with
  | some (.own xs) => (m r w).bind fun y w => lift (f (.lst xs) y) w
  | _ => .bad
mutual
def sizeD : D → Nat
  | .lst xs => sizeL xs + 1
  | .tup xs => sizeL xs + 1
  | _ => 1
def sizeL : List D → Nat
  | [] => 0
  | x :: xs => sizeD x + sizeL xs
end
/-- a call with the list of one's own as an argument: it is lent, the answer is too small to hold it -/
def mCallO (f : MF) (fst : Bool) (i : Nat) (m : ME) : ME := fun r w => match r[i]? with
  | some (.own xs) => (m r w).bind fun d w => (f (if fst then [.lst xs, d] else [d, .lst xs]) w).nx.bind fun y w => if decide (sizeD y < sizeD (.lst xs)) && w.tb.isEmpty then .ok y w else .bad
  | _ => .bad
def mBmt (f : D → List D → Option D) (a : ME) (b : MA) : ME := fun r w => (a r w).bind fun x w => (b r w).nx.bind fun xs w => lift (f x xs) w
mutual
def ev (T : Tab) : E → ME
  | .var i => mVar i
  | .cst d => mCst d
  | .gl j => mCst (T.cs.getD j (Str.empty, .non)).2
  | .bin o a b => mBin (bop o) (ev T a) (ev T b)
  | .chn o o' a b d => mChn (bop o) (bop o') (ev T a) (ev T b) (ev T d)
  | .neg a => mUn dNeg (ev T a)
  | .not a => mUn dNot (ev T a)
  | .and a b => mAnd (ev T a) (ev T b)
  | .or a b => mOr (ev T a) (ev T b)
  | .ite t a b => mIf (ev T t) (ev T a) (ev T b)
  | .tup es => mSeq .tup (evs T es)
  | .lm l => mLst (evl T l)
  | .ix a b => mBin dIx (ev T a) (ev T b)
  | .oix i b => mOix i (ev T b)
  | .sl a lo hi => mSl (ev T a) (evo T lo) (evo T hi)
  | .rev a => mUn dRev (ev T a)
  | .call f es => mCall (T.fns.getD f noF).2.2 (evs T es)
  | .pri p es => mPri (T.pri.getD p (Str.empty, fun _ => none)).2 (evs T es)
  | .bmt p o es => mBmt (T.bmt.getD p (Str.empty, fun _ _ => none)).2 (ev T o) (evs T es)
  | .isi a t => mUn (dIsi t) (ev T a)
  | .ocmp o i b => mOcmp (bop o) i (ev T b)
  | .isx a j => mUn (dIsx (T.cls.getD j noC).2) (ev T a)
  | .callO f fst i b => mCallO (T.fns.getD f noF).2.2 fst i (ev T b)
def evs (T : Tab) : Es → MA
  | .nil => mNil
  | .cons e es => mCons (ev T e) (evs T es)
def evo (T : Tab) : Oe → Rho → Wd → Res (Option Int)
  | .no => mNo
  | .so e => mPt (ev T e)
def evc (T : Tab) : Oe → ME
  | .no => mCst (.bl true)
  | .so e => ev T e
def evl (T : Tab) : L → MA
  | .disp es => mLen (evs T es)
  | .of es => mOf (evs T es)
  | .lrg a => mLrg (ev T a)
  | .comp elt t vs it cond => mComp (evi T it) t vs (evc T cond) (ev T elt)
def evi (T : Tab) : I → MI
  | .seq e => mISeq (ev T e)
  | .rng es => mIBi dRng (evs T es)
  | .enm es => mIBi dEnum (evs T es)
  | .zip es => mIBi dZip (evs T es)
  | .own i => mIOwn i
  | .ownE i => mIOwnE i
end
def lenEs : Es → Nat
  | .nil => 0
  | .cons _ es => lenEs es + 1
theorem evs_len (T : Tab) : ∀ (es : Es) (r : Rho) (w w' : Wd) (ds : List D), evs T es r w = .ok ds w' → ds.length = lenEs es
  | .nil, r, w, w', ds, h => by
    simp only [evs, mNil] at h
    cases h; rfl
  | .cons e es, r, w, w', ds, h => by
    simp only [evs, mCons] at h
    cases h1 : ev T e r w with
    | bad => rw [h1] at h; cases h
    | exc k w1 => rw [h1] at h; cases h
    | ok d w1 =>
      rw [h1] at h
      simp only [Res.bind] at h
      cases h2 : evs T es r w1 with
      | bad => rw [h2] at h; cases h
      | exc k w2 => rw [h2] at h; cases h
      | ok ds' w2 =>
        rw [h2] at h
        cases h
        have q := evs_len T es r w1 _ ds' h2
        simp only [List.length_cons, lenEs, q]

/-! ### the text and the data -/
/-- where a name is looked up: the slots, the scope, which cells were made here -/
structure Ck where
  N : List Str
  sc : Scope
  fn : Str → Bool
def visB (sc : Scope) (x : Str) : Bool := match sc.names.lookup x with
  | some .local => true
  | some .cell => true
  | some .free => true
  | _ => false
def glB (sc : Scope) (x : Str) : Bool := match sc.names.lookup x with
  | some .globalImplicit => true
  | _ => false
def plainN (x : Str) : Bool := !(x == ("__debug__" : Str)) && !(x == ("__classdict__" : Str)) && !(x == ("__name__" : Str))
def slotB (κ : Ck) (i : Nat) (x : Str) : Bool := decide (κ.N[i]? = some x) && visB κ.sc x && plainN x
def storB (κ : Ck) (i : Nat) (x : Str) : Bool := decide (κ.N[i]? = some x) && plainN x && (match κ.sc.names.lookup x with
  | some .local => true
  | some .cell => κ.fn x
  | _ => false)
def isSlice : Expr → Bool
  | .Slice .. => true
  | _ => false
def isSet : Expr → Bool
  | .Set .. => true
  | _ => false
def isStar : Expr → Bool
  | .Starred .. => true
  | _ => false
def isIfE : Expr → Bool
  | .IfExp .. => true
  | _ => false
def ownOf (N : List Str) (vs : List Nat) : List (Str × Nat) := vs.filterMap fun i => (N[i]?).map fun x => (x, i)
mutual
def chkT (κ : Ck) : Tg → Expr → Bool
  | .nm i, .Name x _ => storB κ i x
  | .tp ts, .Tuple xs _ _ => chkTs κ ts xs
  | _, _ => false
def chkTs (κ : Ck) : Tgs → List Expr → Bool
  | .nil, [] => true
  | .cons t ts, x :: xs => !isStar x && chkT κ t x && chkTs κ ts xs
  | _, _ => false
end
mutual
def chkE (T : Tab) (κ : Ck) : E → Expr → Bool
  | .var i, .Name x _ => slotB κ i x
  | .cst (.int i), .Constant (.int j) _ _ => decide (i = j)
  | .cst (.bl b), .Constant (.bool b') _ _ => decide (b = b')
  | .cst .non, .Constant .none _ _ => true
  | .cst (.str z), .Constant (.str z') _ _ => decide (z = z')
  | .gl j, .Name x _ => (match T.cs[j]? with | some p => decide (p.1 = x) | none => false) && glB κ.sc x && plainN x
  | .bin o a b, .BinOp x op y _ => decide (opOf op = some o) && chkE T κ a x && chkE T κ b y
  | .bin o a b, .Compare x [op] [y] _ => decide (cmpOf op = some o) && chkE T κ a x && chkE T κ b y && !isSet y
  | .chn o o' a b d, .Compare x [op, op'] [y, z] _ => decide (cmpOf op = some o) && decide (cmpOf op' = some o') && chkE T κ a x && chkE T κ b y && chkE T κ d z && !isSet z
  | .neg a, .UnaryOp .USub x _ => chkE T κ a x
  | .not a, .UnaryOp .Not x _ => chkE T κ a x && !isIfE x
  | .and a b, .BoolOp .And [x, y] _ => chkE T κ a x && chkE T κ b y && !isIfE x && !isIfE y
  | .and a b, .BoolOp .And (x :: y :: z :: r) pos => chkE T κ a x && chkE T κ b (.BoolOp .And (y :: z :: r) pos) && !isIfE x
  | .or a b, .BoolOp .Or [x, y] _ => chkE T κ a x && chkE T κ b y && !isIfE x && !isIfE y
  | .or a b, .BoolOp .Or (x :: y :: z :: r) pos => chkE T κ a x && chkE T κ b (.BoolOp .Or (y :: z :: r) pos) && !isIfE x
  | .ite t a b, .IfExp x y z _ => chkE T κ t x && chkE T κ a y && chkE T κ b z && !isIfE x
  | .tup es, .Tuple xs _ _ => chkEs T κ es xs
  | .lm l, x => chkL T κ l x
  | .ix a b, .Subscript x y _ => chkE T κ a x && chkE T κ b y && !isSlice y
  | .oix i b, .Subscript (.Name x _) y _ => slotB κ i x && chkE T κ b y && !isSlice y
  | .sl a lo hi, .Subscript x (.Slice l h none _) _ => chkE T κ a x && chkO T κ lo l && chkO T κ hi h
  | .rev a, .Subscript x (.Slice none none (some (.UnaryOp .USub (.Constant (.int 1) _ _) _)) _) _ => chkE T κ a x
  | .call f es, .Call (.Name x _) (y :: ys) [] _ => (match T.fns[f]? with | some p => decide (p.1 = x) && decide (p.2.1 = lenEs es) | none => false) && glB κ.sc x && plainN x && chkEs T κ es (y :: ys)
  | .pri p es, .Call (.Name x _) (y :: ys) [] _ => (match T.pri[p]? with | some q => decide (q.1 = x) | none => false) && glB κ.sc x && plainN x && chkEs T κ es (y :: ys)
  | .bmt p o es, .Call (.Attribute z x apos) (y :: ys) [] cpos => (match T.bmt[p]? with | some q => decide (q.1 = x) | none => false) && chkE T κ o z && chkEs T κ es (y :: ys) && (apos.endLine == cpos.line) && decide (lenEs es < 30)
  | .isi a t, .Call (.Name x _) [y, .Name z _] [] _ => decide (x = "isinstance") && decide (z = Str.ofString t) && tyOk t && glB κ.sc x && glB κ.sc z && chkE T κ a y
  | .isx a j, .Call (.Name x _) [y, .Name z _] [] _ => decide (x = "isinstance") && (match T.cls[j]? with | some p => decide (p.1 = z) | none => false) && glB κ.sc x && glB κ.sc z && plainN z && chkE T κ a y
  | .ocmp o i b, .Compare (.Name x _) [op] [y] _ => decide (cmpOf op = some o) && (decide (o = .eq) || decide (o = .ne)) && slotB κ i x && chkE T κ b y && !isSet y
  | .callO f fst i b, .Call (.Name x _) [y, z] [] _ => (match T.fns[f]? with | some p => decide (p.1 = x) && decide (p.2.1 = 2) | none => false) && glB κ.sc x && plainN x && !isStar y && !isStar z && (match fst, y, z with
    | true, .Name n _, z => slotB κ i n && chkE T κ b z
    | false, y, .Name n _ => slotB κ i n && chkE T κ b y
    | _, _, _ => false)
  | _, _ => false
def chkEs (T : Tab) (κ : Ck) : Es → List Expr → Bool
  | .nil, [] => true
  | .cons e es, x :: xs => !isStar x && chkE T κ e x && chkEs T κ es xs
  | _, _ => false
def chkO (T : Tab) (κ : Ck) : Oe → Option Expr → Bool
  | .no, none => true
  | .so e, some x => chkE T κ e x
  | _, _ => false
def chkC (T : Tab) (κ : Ck) : Oe → List Expr → Bool
  | .no, [] => true
  | .so e, [x] => chkE T κ e x && !isIfE x
  | _, _ => false
def chkL (T : Tab) (κ : Ck) : L → Expr → Bool
  | .disp es, .List xs _ => chkEs T κ es xs
  | .of es, .Call (.Name x _) (y :: ys) [] _ => decide (x = "list") && glB κ.sc x && chkEs T κ es (y :: ys)
  | .lrg a, .Call (.Name x _) [.Call (.Name y _) [z] [] _] [] _ => decide (x = "list") && decide (y = "range") && glB κ.sc x && glB κ.sc y && chkE T κ a z
  | .comp elt t vs it cond, .ListComp y [⟨tg, iter, ifs, 0⟩] scope _ =>
    blkC κ.N κ.sc scope (ownOf κ.N vs) && decide ((ownOf κ.N vs).map (·.2) = vs) && (slotsT t).all (fun i => vs.contains i) && chkI T κ it iter tg && !isSet iter &&
      chkT ⟨κ.N, relS scope κ.sc, fun x => scope.names.lookup x == some .cell⟩ t tg && chkC T ⟨κ.N, relS scope κ.sc, fun x => scope.names.lookup x == some .cell⟩ cond ifs && chkE T ⟨κ.N, relS scope κ.sc, fun x => scope.names.lookup x == some .cell⟩ elt y
  | _, _ => false
def chkI (T : Tab) (κ : Ck) : I → Expr → Expr → Bool
  | .seq e, x, _ => chkE T κ e x
  | .rng es, .Call (.Name x _) [y] [] _, _ => decide (x = "range") && glB κ.sc x && chkEs T κ es [y]
  | .rng es, .Call (.Name x _) [y, z] [] _, _ => decide (x = "range") && glB κ.sc x && chkEs T κ es [y, z]
  | .enm es, .Call (.Name x _) [y] [] _, .Tuple _ _ _ => decide (x = "enumerate") && glB κ.sc x && chkEs T κ es [y]
  | .zip es, .Call (.Name x _) [y, z] [] _, .Tuple _ _ _ => decide (x = "zip") && glB κ.sc x && chkEs T κ es [y, z]
  | .own i, .Name x _, _ => slotB κ i x
  | .ownE i, .Call (.Name x _) [.Name y _] [] _, .Tuple _ _ _ => decide (x = "enumerate") && glB κ.sc x && slotB κ i y
  | _, _, _ => false
end
end RL

namespace RL
open PySem L2
/-! isinstance of an exception that is held -/
def rIsX (K : PySem.W.Frag) : List V → Hp → VK → Prop := fun xs H Q => ∃ (a C : Addr) (v : V) (cv : Value) (b : Bool), xs = [.ref a, v] ∧ H a = some (.ext (excP a C)) ∧ ExcC K C ∧ (∀ u, RelV v u → u = cv) ∧ PySem.W.kitOne K (.ref C) cv = some b ∧ Q (.bl b) H
theorem call_isX {X : Cx} : CallR X (.builtin "isinstance") (rIsX X.K) := by
  intro pins s σ H xs us Q I r h
  obtain ⟨a, C, v, cv, b, rfl, ha, E, hv, e, q⟩ := h
  cases r with
  | cons r1 r2 =>
    cases r2 with
    | cons r3 r4 =>
      cases r4
      cases r1
      have hc := hv _ r3
      subst hc
      obtain ⟨⟨oe, vs, hget, hz, hd⟩, _⟩ := I.hok a _ ha
      have J : PySem.W.InstAt s.heap a oe C none := by
        obtain ⟨o1, o2, o3, o4⟩ := oe
        obtain ⟨z1, z2⟩ := hz
        dsimp only at z1 z2 hd
        subst z1 z2 hd
        exact ⟨hget, rfl, rfl, trivial⟩
      exact PySem.W.kia_one (PySem.W.handS_kitx_exc E.hg E.hk E.hs E.hd E.ha E.hn E.ht E.hm) I.kIn J e (fun z => nomatch z) fun tk => ⟨.bl b, H, I.kept (t' := tk) fun _ _ z => z, rfl, q⟩
/-- the name of a class and its value -/
def ClsAt (mg : Str → Option Value) (x : Str) (v : V) (cv : Value) : Prop := RelV v cv ∧ (∀ u, RelV v u → u = cv) ∧ (mg x = some cv ∨ (mg x = none ∧ bootBuiltins x = some cv ∧ x ≠ "__name__"))
end RL

namespace RL
open PySem L2

/-! ### what the booleans say -/
theorem visB_ok {sc : Scope} {x : Str} (h : visB sc x = true) : Vis sc x := by
  unfold visB at h
  split at h
  · exact .inl (by assumption)
  · exact .inr (.inl (by assumption))
  · exact .inr (.inr (by assumption))
  · cases h
theorem glB_ok {sc : Scope} {x : Str} (h : glB sc x = true) : sc.names.lookup x = some .globalImplicit := by
  unfold glB at h
  split at h
  · assumption
  · cases h
theorem plainN_ok {x : Str} (h : plainN x = true) : (x == ("__debug__" : Str)) = false ∧ (x == ("__classdict__" : Str)) = false ∧ x ≠ "__name__" := by
  unfold plainN at h
  simp only [Bool.and_eq_true, Bool.not_eq_true'] at h
  exact ⟨h.1.1, h.1.2, fun q => by rw [q] at h; simp at h⟩
theorem star_cons {x : Expr} {xs : List Expr} {env : PySem.Env} (h : isStar x = false) : starEach (x :: xs) env = (false, eval x env) :: starEach xs env := by
  cases x <;> first | rfl | cases h
theorem asg_cons {x : Expr} {xs : List Expr} {env : PySem.Env} (h : isStar x = false) : assignEach (x :: xs) env = (false, assign x env) :: assignEach xs env := by
  cases x <;> first | rfl | cases h
theorem plain_ix {x : Expr} (h : isSlice x = false) : PlainIx x := by
  intro o i
  cases x <;> first | rfl | cases h
theorem set_marks {x : Expr} {op : CmpOp} (h : isSet x = false) : behindInMarks op x = false := by
  cases x <;> first | rfl | cases h
theorem set_fold {x : Expr} {env : PySem.Env} (h : isSet x = false) : ∀ v, foldedSetIterable x env v = pure v := by
  intro v
  cases x <;> first | rfl | cases h

/-- all contexts of one run: the program, what it has left, room for k calls -/
structure BOk (P : Program) (w : World) (K : PySem.W.Frag) (mg : Str → Option Value) (base : Heap) (k : Nat) (X : Cx) : Prop where
  prog : X.prog = P
  w : X.w = w
  K : X.K = K
  mg : X.mg = mg
  base : X.base = base
  calm : X.calm = true
  room : Room k X.A
/-- a built-in by its name that means f -/
def PriOk (c : Cn) (X : Cx) (W : WX) (x : Str) (f : List D → Option D) : Prop := ∀ (e : Expr) (es : List Expr) (ms : MA) (p pos : Pos), Gl X x → PA X (e :: es) (rdA c W ms) → starEach (e :: es) X.env = (false, eval e X.env) :: starEach es X.env → (backTo pos (starEach es X.env)).any (·.1) = false →
  PE X (.Call (.Name x p) (e :: es) [] pos) (rd c W (mPri f ms))
/-- a method of built-in things that means f -/
def BmtOk (c : Cn) (X : Cx) (W : WX) (x : Str) (f : D → List D → Option D) : Prop := ∀ (o e : Expr) (es : List Expr) (mo : ME) (ms : MA) (apos cpos : Pos), PE X o (rd c W mo) → PA X (e :: es) (rdA c W ms) → starEach (e :: es) X.env = (false, eval e X.env) :: starEach es X.env → (backTo cpos (starEach es X.env)).any (·.1) = false →
  (backTo cpos (starEach (e :: es) X.env)).all (fun x => !x.1) = true → (e :: es).length < 30 → (apos.endLine == cpos.line) = true → attributeBase o x X.env (eval o X.env) = eval o X.env → PE X (.Call (.Attribute o x apos) (e :: es) [] cpos) (rd c W (mBmt f mo ms))
/-- all that a text names is there and means what the table says -/
structure TOk (c : Cn) (P : Program) (w : World) (K : PySem.W.Frag) (mg : Str → Option Value) (base : Heap) (k : Nat) (T : Tab) : Prop where
  fns : ∀ X, BOk P w K mg base k X → ∀ (i : Nat) p, T.fns[i]? = some p → FOk c X p.1 p.2.1 p.2.2
  pri : ∀ X W, BOk P w K mg base k X → Takes X W → ∀ (i : Nat) p, T.pri[i]? = some p → PriOk c X W p.1 p.2
  bmt : ∀ X W, BOk P w K mg base k X → Takes X W → ∀ (i : Nat) p, T.bmt[i]? = some p → BmtOk c X W p.1 p.2
  cs : ∀ (i : Nat) p, T.cs[i]? = some p → ∃ v u, mg p.1 = some u ∧ RelV v u ∧ ∀ g, Rep c g v p.2
  exs : ∀ X, BOk P w K mg base k X → ∀ (i : Nat) x, T.exs[i]? = some x → ∀ (m : Str) (j : Nat) (p p2 pos : Pos), Gl X x → (x == ("__debug__" : Str)) = false → PMk X (.Call (.Name x p) [.Constant (.str m) j p2] [] pos) (fun _ H Q => Q (.ref (c.ec i)) none H)
  range : mg "range" = none
  list : mg "list" = none
  enumerate : mg "enumerate" = none
  zip : mg "zip" = none
  isinstance : mg "isinstance" = none
  int : mg "int" = none
  bool : mg "bool" = none
  str : mg "str" = none
  tuple : mg "tuple" = none
  trs : ∀ (i : Nat) p, T.trs[i]? = some p → ∃ cv, mg p.1 = some cv ∧ ∀ j ∈ p.2, PySem.W.exmOne K (.ref (c.ec j)) cv = some true
  cls : ∀ (i : Nat) p, T.cls[i]? = some p → ∃ v cv, ClsAt mg p.1 v cv ∧ ∀ j b, p.2 j = some b → ExcC K (c.ec j) ∧ PySem.W.kitOne K (.ref (c.ec j)) cv = some b
/-- a context that is looked at with κ -/
structure XOk (κ : Ck) (X : Cx) (W : WX) : Prop where
  N : X.N = κ.N
  nd : κ.N.Nodup
  sc : X.env.scope = κ.sc
  fn : X.fn = κ.fn
  tk : Takes X W

section
variable {c : Cn} {P : Program} {w : World} {K : PySem.W.Frag} {mg : Str → Option Value} {base : Heap} {k : Nat} {T : Tab}
theorem XOk.gl {κ : Ck} {X : Cx} {W : WX} (h : XOk κ X W) {x : Str} (q : glB κ.sc x = true) : Gl X x := by
  show X.env.scope.names.lookup x = _
  rw [h.sc]; exact glB_ok q
theorem XOk.slot {κ : Ck} {X : Cx} {W : WX} (h : XOk κ X W) {i : Nat} {x : Str} (q : slotB κ i x = true) : X.N[i]? = some x ∧ Vis X.env.scope x ∧ (x == ("__debug__" : Str)) = false ∧ (x == ("__classdict__" : Str)) = false := by
  unfold slotB at q
  simp only [Bool.and_eq_true, decide_eq_true_eq] at q
  obtain ⟨⟨q1, q2⟩, q3⟩ := q
  rw [h.N, h.sc]
  exact ⟨q1, visB_ok q2, (plainN_ok q3).1, (plainN_ok q3).2.1⟩
theorem XOk.stor {κ : Ck} {X : Cx} {W : WX} (h : XOk κ X W) {i : Nat} {x : Str} (q : storB κ i x = true) : X.N[i]? = some x ∧ Loc X.env.scope x ∧ (X.fn x = true ∨ X.env.scope.names.lookup x = some .local) := by
  unfold storB at q
  simp only [Bool.and_eq_true, decide_eq_true_eq] at q
  obtain ⟨⟨q1, q2⟩, q3⟩ := q
  rw [h.N, h.sc, h.fn]
  refine ⟨q1, ?_⟩
  split at q3
  · rename_i e
    exact ⟨.inl e, .inr e⟩
  · rename_i e
    exact ⟨.inr e, .inl q3⟩
  · cases q3
theorem XOk.nodup {κ : Ck} {X : Cx} {W : WX} (h : XOk κ X W) : X.N.Nodup := by rw [h.N]; exact h.nd
mutual
theorem sndT {κ : Ck} {X : Cx} {W : WX} (h : XOk κ X W) (hc : X.calm = true) : ∀ (t : Tg) (x : Expr), chkT κ t x = true → PG X x (rdG c t)
  | .nm i, x, q => by
    cases x with
    | Name x pos =>
      simp only [chkT] at q
      obtain ⟨q1, q2, q3⟩ := h.stor q
      exact g_name h.nodup q1 q2 q3
    | _ => simp [chkT] at q
  | .tp ts, x, q => by
    cases x with
    | Tuple xs j pos =>
      simp only [chkT] at q
      obtain ⟨q1, q2, q3⟩ := sndTs h hc ts xs q
      exact g_tup hc q1 (n := lenTs ts) q2 rfl q3 fun ds r r' e => bindTs_len ts ds r r' e
    | _ => simp [chkT] at q
theorem sndTs {κ : Ck} {X : Cx} {W : WX} (h : XOk κ X W) (hc : X.calm = true) : ∀ (ts : Tgs) (xs : List Expr), chkTs κ ts xs = true → PGs X xs (rdGs c ts) ∧ (assignEach xs X.env).length = lenTs ts ∧ (assignEach xs X.env).findIdx? (·.1) = none
  | .nil, xs, q => by
    cases xs with
    | nil => exact ⟨gs_nil, rfl, rfl⟩
    | cons x xs => simp [chkTs] at q
  | .cons t ts, xs, q => by
    cases xs with
    | nil => simp [chkTs] at q
    | cons x xs =>
      simp only [chkTs, Bool.and_eq_true, Bool.not_eq_true'] at q
      obtain ⟨⟨q1, q2⟩, q3⟩ := q
      obtain ⟨r1, r2, r3⟩ := sndTs h hc ts xs q3
      refine ⟨gs_cons (sndT h hc t x q2) r1 (by rw [asg_cons q1]; rfl), ?_, ?_⟩
      · rw [asg_cons q1]
        simp [r2, lenTs]
      · rw [asg_cons q1]
        simp [List.findIdx?_cons, r3]
end
/-- what is shown of an expression: its value, its truth -/
structure EOkP (c : Cn) (X : Cx) (W : WX) (x : Expr) (m : ME) : Prop where
  pe : PE X x (rd c W m)
  pt : isIfE x = false → PT X x (rdT c W m)
  pw : ∀ op xs pos, x = .BoolOp op xs pos → PW X x (rdT c W m)
theorem EOkP.plain {X : Cx} {W : WX} {x : Expr} {m : ME} (h : PE X x (rd c W m)) (he : ∀ whole, isTrue x X.env whole = (do let v ← whole; standAt x.pos; holding [v] (truthy v))) (hb : ∀ op xs pos, x ≠ .BoolOp op xs pos) : EOkP c X W x m :=
  ⟨h, fun _ => s_test h he, fun op xs pos e => (hb op xs pos e).elim⟩
theorem rg_rep {g : Gs} : ∀ (n : Nat) (a : Int), RepL c g ((List.range n).map fun i => V.int (a + (i : Nat))) (iota a n)
  | 0, a => .nil
  | n + 1, a => by
    rw [iota, List.range_succ_eq_map, List.map_cons, List.map_map]
    refine .cons (by simpa using Rep.int a) ?_
    have e : (fun i : Nat => V.int (a + (i : Nat))) ∘ Nat.succ = fun i : Nat => V.int (a + 1 + (i : Nat)) := by
      funext i
      simp only [Function.comp_def]
      congr 1
      omega
    rw [e]
    exact rg_rep n (a + 1)
theorem l_lrg {X : Cx} {W : WX} {a : Expr} {ma : ME} {p p2 pos pos2 : Pos} (hc : X.calm = true) (hg : Gl X "list") (hm : X.mg "list" = none) (hg2 : Gl X "range") (hm2 : X.mg "range" = none) (ha : PE X a (rd c W ma)) (hs : isStar a = false) :
    PE X (.Call (.Name "list" p) [.Call (.Name "range" p2) [a] [] pos2] [] pos) (rdL c W (mLrg ma)) := by
  refine (pe_listRg hc hg hm (prg_1 hg2 hm2 ha (star_cons hs))).mono fun σ H Q h => ?_
  obtain ⟨B, g, ρ, w, E, k, p⟩ := h
  refine ⟨B, g, ρ, w, E, k, bndL p (Ext.refl _ _) fun g1 H1 x dx w1 _ e1 k1 r1 p1 => ?_⟩
  obtain ⟨d, ed, q⟩ := post_liftL (α := Unit) p1
  unfold dLrg at ed
  split at ed
  · rename_i n _
    split at ed
    · rename_i hb
      cases ed
      rw [Bool.and_eq_true] at hb
      have h1 := of_decide_eq_true hb.1
      have h2 := of_decide_eq_true hb.2
      have hbig : big = 100000 := rfl
      cases r1
      refine ⟨n, rfl, RgOk.of_le (by omega) (by omega) (by omega) (by omega), laidL q e1 k1 ?_⟩
      have := rg_rep (c := c) (g := g1) n.toNat 0
      unfold rgV
      simpa using this
    · cases ed
  · cases ed
theorem isx_ok {X : Cx} {W : WX} {a : Expr} {ma : ME} {f : Nat → Option Bool} {z : Str} {v : V} {cv : Value} {p p' pos : Pos} (hg : Gl X "isinstance") (hm : X.mg "isinstance" = none) (hgz : Gl X z) (hz : ClsAt X.mg z v cv) (hdb : (z == ("__debug__" : Str)) = false)
    (hf : ∀ j b, f j = some b → ExcC X.K (c.ec j) ∧ PySem.W.kitOne X.K (.ref (c.ec j)) cv = some b) (ha : PE X a (rd c W ma)) (hs : isStar a = false) : PE X (.Call (.Name "isinstance" p) [a, .Name z p'] [] pos) (rd c W (mUn (dIsx f) ma)) := by
  obtain ⟨z1, z2, z3⟩ := hz
  have hn : PE X (.Name z p') (tC v) := by
    rcases z3 with z3 | ⟨z3, z4, z5⟩
    · exact pe_glob hgz z3 z1 hdb
    · exact pe_bltn hgz z3 z4 z1 z5 hdb
  refine (pe_callB (hg := hg) (hm := hm) (call_isX (X := X)) (hv := PyProof.Rows.boot_isinstance) (ha := pa_cons ha (pa_cons hn pa_nil rfl) (by rw [star_cons hs])) (he := by rw [star_cons hs]) (hpl := rfl)).mono fun σ H Q h => ?_
  obtain ⟨B, g, ρ, w, E, kk, p⟩ := h
  refine ⟨B, g, ρ, w, E, kk, bnd p fun g1 H1 x dx w1 _ e1 k1 r1 p1 => ?_⟩
  obtain ⟨d, ed, q⟩ := post_lift p1
  show rIsX X.K [x, v] H1 Q
  cases r1 with
  | exc hF =>
    rename_i j a' _
    cases hj : f j with
    | none => simp [dIsx, hj] at ed
    | some b =>
      simp [dIsx, hj] at ed
      subst ed
      obtain ⟨k1', k2⟩ := hf j b hj
      exact ⟨_, _, v, cv, b, rfl, k1.sub _ _ hF, k1', z2, k2, q.at k1 (.bl _)⟩
  | _ => simp [dIsx] at ed
theorem isi_ok {X : Cx} {W : WX} {a : Expr} {ma : ME} {t : String} {p p' pos : Pos} (ht : tyOk t = true) (hg : Gl X "isinstance") (hm : X.mg "isinstance" = none) (hgt : Gl X (Str.ofString t)) (hmt : X.mg (Str.ofString t) = none) (ha : PE X a (rd c W ma)) (hs : isStar a = false) :
    PE X (.Call (.Name "isinstance" p) [a, .Name (Str.ofString t) p'] [] pos) (rd c W (mUn (dIsi t) ma)) := by
  have hb : bootBuiltins (Str.ofString t) = some (.type t) ∧ (Str.ofString t) ≠ "__name__" ∧ (Str.ofString t == ("__debug__" : Str)) = false := by
    unfold tyOk at ht
    split at ht <;> first | exact ⟨by decide +kernel, by decide +kernel, by decide +kernel⟩ | cases ht
  refine (pe_callB (hg := hg) (hm := hm) (call_isi (X := X)) (hv := PyProof.Rows.boot_isinstance) (ha := pa_cons ha (pa_cons (pe_bltn (v := .ty t) hgt hmt hb.1 rfl hb.2.1 hb.2.2) pa_nil rfl) (by rw [star_cons hs])) (he := by rw [star_cons hs]) (hpl := rfl)).mono fun σ H Q h => ?_
  obtain ⟨B, g, ρ, w, E, kk, p⟩ := h
  refine ⟨B, g, ρ, w, E, kk, bnd p fun g1 H1 x dx w1 _ e1 k1 r1 p1 => ?_⟩
  obtain ⟨d, ed, q⟩ := post_lift p1
  show rIsi X.K [x, .ty t] H1 Q
  have fin : ∀ s : String, tyName dx = some s → TyX X.K H1 x (.type s) → rIsi X.K [x, .ty t] H1 Q := fun s hs2 ty => by
    unfold dIsi at ed
    rw [hs2] at ed
    cases ed
    refine ⟨x, .ty t, _, .type t, _, rfl, .ty t, ty, kit_ty ?_, q.at k1 (.bl _)⟩
    have hcs : s = "NoneType" ∨ s = "bool" ∨ s = "int" ∨ s = "str" ∨ s = "list" ∨ s = "tuple" := by
      cases dx <;> simp only [tyName, Option.some.injEq, reduceCtorEq] at hs2 <;> subst hs2 <;> simp
    unfold tyOk at ht
    rcases hcs with rfl | rfl | rfl | rfl | rfl | rfl <;> (split at ht <;> first | decide +kernel | cases ht)
  cases r1 with
  | non => exact fin _ rfl (.base .non)
  | bl b => exact fin _ rfl (.base (.bl b))
  | int i => exact fin _ rfl (.base (.int i))
  | str z => exact fin _ rfl (.base (.str z))
  | lst hx lx => exact fin _ rfl (.base (.lst (k1.sub _ _ hx)))
  | tup hx lx => exact fin _ rfl (.base (.tup (k1.sub _ _ hx)))
  | _ => cases ed
theorem oix_ok {X : Cx} {W : WX} {i : Nat} {x : Str} {b : Expr} {mb : ME} {p pos : Pos} (hN : X.N[i]? = some x) (hv : Vis X.env.scope x) (hd : (x == ("__debug__" : Str)) = false) (hcd : (x == ("__classdict__" : Str)) = false) (hb : PE X b (rd c W mb)) (hs : PlainIx b) :
    PE X (.Subscript (.Name x p) b pos) (rd c W (mOix i mb)) := by
  refine (pe_ix ix_seq (pe_var hN hv hd hcd) hb hs).mono fun σ H Q h => ?_
  obtain ⟨B, g, ρ, w, E, kk, p⟩ := h
  unfold mOix at p
  split at p
  · rename_i xs ex
    obtain ⟨a, vs, b1, b2, b3, _⟩ := own_at E ex
    refine ⟨_, b1, B, g, ρ, w, E, kk, bnd p fun g1 H1 y dy w1 _ e1 k1 r1 p1 => ?_⟩
    obtain ⟨a', vs', c1, c2, c3, _⟩ := own_at (E.ext e1) ex
    obtain rfl : a = a' := by
      rw [b1] at c1
      cases c1; rfl
    obtain ⟨d, ed, q⟩ := post_lift p1
    cases r1 with
    | int n =>
      obtain ⟨v, h1, h2⟩ := atI_rep c3 (show atI xs n = some d from ed)
      exact .inl ⟨_, _, _, v, rfl, rfl, SqL.of c2, h1, q.at k1 h2⟩
    | _ => cases ed
  · exact False.elim p
theorem ocmp_core {X : Cx} {W : WX} {i : Nat} {o : Bop} {mb : ME} {r : R2} (ho : o = .eq ∧ r = rEqD X.K ∨ o = .ne ∧ r = rNeD X.K) {σ : St} {H : Hp} {Q : VK} (h : rd c W (mOcmp (bop o) i mb) σ H Q) : tOp r (tVar i) (rd c W mb) σ H Q := by
  obtain ⟨B, g, ρ, w, E, kk, p⟩ := h
  unfold mOcmp at p
  split at p
  · rename_i xs ex
    obtain ⟨a, vs, b1, b2, b3, _⟩ := own_at E ex
    refine ⟨_, b1, B, g, ρ, w, E, kk, bnd p fun g1 H1 y dy w1 _ e1 k1 r1 p1 => ?_⟩
    obtain ⟨a', vs', c1, c2, c3, _⟩ := own_at (E.ext e1) ex
    obtain rfl : a = a' := by
      rw [b1] at c1
      cases c1; rfl
    obtain ⟨d, ed, q⟩ := post_lift p1
    rcases ho with ⟨rfl, rfl⟩ | ⟨rfl, rfl⟩
    · have ed : bEq (.lst xs) dy = some d := ed
      unfold bEq at ed
      split at ed <;> cases ed
      rename_i hs
      rw [Bool.and_eq_true] at hs
      exact ⟨_, _, .lst (SqL.of c2) (c3.dp k1.sub (by simpa [okD] using hs.1)), r1.dp k1.sub hs.2, ok_shaped (by decide) hs.1, ok_shaped (by decide) hs.2, by
        have e := eq_py 12 (.lst xs) dy hs.1 hs.2
        simp only [toPy] at e
        rw [e]; exact q.at k1 (.bl _)⟩
    · have ed : bNe (.lst xs) dy = some d := ed
      unfold bNe at ed
      split at ed <;> cases ed
      rename_i hs
      rw [Bool.and_eq_true] at hs
      exact ⟨_, _, .lst (SqL.of c2) (c3.dp k1.sub (by simpa [okD] using hs.1)), r1.dp k1.sub hs.2, ok_shaped (by decide) hs.1, ok_shaped (by decide) hs.2, by
        have e := eq_py 12 (.lst xs) dy hs.1 hs.2
        simp only [toPy] at e
        rw [e]; exact q.at k1 (.bl _)⟩
  · exact False.elim p
/-! ### a list that is lent -/
theorem wdr_mem {g : Gs} {a b : Addr} (h : g.dr = some (a, b)) : a ∈ g.wadr := by simp [Gs.wadr, h, wdr]
theorem wtb_mem' {g : Gs} {k : Nat} {t dx l : Addr} (h : g.tb[k]? = some (t, dx, l)) : t ∈ g.wadr := List.mem_append_right _ (wtb_mem h).1
mutual
theorem Rep.size {g : Gs} (out : ∀ a ∈ g.wadr, g.F a = none) : ∀ {d d' : D} {v : V}, Rep c g v d → Rep c g v d' → sizeD d = sizeD d'
  | .non, d', v, h, h' => by cases h; cases h'; rfl
  | .bl _, d', v, h, h' => by cases h; cases h'; rfl
  | .int _, d', v, h, h' => by cases h; cases h'; rfl
  | .str _, d', v, h, h' => by cases h; cases h'; rfl
  | .lst ds, d', v, h, h' => by
    cases h with
    | lst e l =>
      cases h' with
      | lst e' l' =>
        rw [e] at e'
        cases e'
        simp only [sizeD, RepL.size out l l']
      | tup e' l' => rw [e] at e'; cases e'
      | drw e' => rw [out _ (wdr_mem e')] at e; cases e
      | tab e' => rw [out _ (wtb_mem' e')] at e; cases e
      | exc e' => rw [e] at e'; cases e'
  | .tup ds, d', v, h, h' => by
    cases h with
    | tup e l =>
      cases h' with
      | tup e' l' =>
        rw [e] at e'
        cases e'
        simp only [sizeD, RepL.size out l l']
      | lst e' l' => rw [e] at e'; cases e'
      | drw e' => rw [out _ (wdr_mem e')] at e; cases e
      | tab e' => rw [out _ (wtb_mem' e')] at e; cases e
      | exc e' => rw [e] at e'; cases e'
  | .drw, d', v, h, h' => by
    cases h with
    | drw e =>
      cases h' with
      | lst e' l' => rw [out _ (wdr_mem e)] at e'; cases e'
      | tup e' l' => rw [out _ (wdr_mem e)] at e'; cases e'
      | _ => rfl
  | .tab _, d', v, h, h' => by
    cases h with
    | tab e =>
      cases h' with
      | lst e' l' => rw [out _ (wtb_mem' e)] at e'; cases e'
      | tup e' l' => rw [out _ (wtb_mem' e)] at e'; cases e'
      | _ => rfl
  | .exc _, d', v, h, h' => by
    cases h with
    | exc e =>
      cases h' with
      | lst e' l' => rw [e] at e'; cases e'
      | tup e' l' => rw [e] at e'; cases e'
      | _ => rfl
theorem RepL.size {g : Gs} (out : ∀ a ∈ g.wadr, g.F a = none) : ∀ {ds ds' : List D} {vs : List V}, RepL c g vs ds → RepL c g vs ds' → sizeL ds = sizeL ds'
  | [], ds', vs, h, h' => by cases h; cases h'; rfl
  | d :: ds, ds', vs, h, h' => by
    cases h with
    | cons a l =>
      cases h' with
      | cons a' l' => simp only [sizeL, Rep.size out a a', RepL.size out l l']
end
/-- the address p is taken out of the frozen part -/
def Gs.del (g : Gs) (p : Addr) : Gs := { g with F := fun b => if b = p then none else g.F b }
theorem Gs.del_ne {g : Gs} {p b : Addr} (h : b ≠ p) : (g.del p).F b = g.F b := if_neg h
theorem Gs.del_at {g : Gs} {p : Addr} : (g.del p).F p = none := if_pos rfl
mutual
theorem Rep.unlend {g : Gs} (out : ∀ a ∈ g.wadr, g.F a = none) {p : Addr} {vs : List V} {xs : List D} (hp : g.F p = some (.lst vs)) (hx : RepL c g vs xs) : ∀ {d : D} {v : V}, Rep c g v d → sizeD d ≤ sizeL xs → Rep c (g.del p) v d
  | .non, v, h, _ => by cases h; exact .non
  | .bl _, v, h, _ => by cases h; exact .bl _
  | .int _, v, h, _ => by cases h; exact .int _
  | .str _, v, h, _ => by cases h; exact .str _
  | .lst ds, v, h, s => by
    simp only [sizeD] at s
    cases h with
    | @lst a _ _ e l =>
      have na : a ≠ p := fun z => by
        rw [z, hp] at e
        cases e
        have := RepL.size out l hx
        omega
      exact .lst (by rw [Gs.del_ne na]; exact e) (RepL.unlend out hp hx l (by omega))
  | .tup ds, v, h, s => by
    simp only [sizeD] at s
    cases h with
    | @tup a _ _ e l =>
      have na : a ≠ p := fun z => by
        rw [z, hp] at e
        cases e
      exact .tup (by rw [Gs.del_ne na]; exact e) (RepL.unlend out hp hx l (by omega))
  | .drw, v, h, _ => by
    cases h with
    | drw e => exact .drw e
  | .tab _, v, h, _ => by
    cases h with
    | tab e => exact .tab e
  | .exc _, v, h, _ => by
    cases h with
    | @exc _ a e =>
      have na : a ≠ p := fun z => by
        rw [z, hp] at e
        cases e
      exact .exc (by rw [Gs.del_ne na]; exact e)
theorem RepL.unlend {g : Gs} (out : ∀ a ∈ g.wadr, g.F a = none) {p : Addr} {vs : List V} {xs : List D} (hp : g.F p = some (.lst vs)) (hx : RepL c g vs xs) : ∀ {ds : List D} {us : List V}, RepL c g us ds → sizeL ds ≤ sizeL xs → RepL c (g.del p) us ds
  | [], us, h, _ => by cases h; exact .nil
  | d :: ds, us, h, s => by
    simp only [sizeL] at s
    cases h with
    | cons a l => exact .cons (Rep.unlend out hp hx a (by omega)) (RepL.unlend out hp hx l (by omega))
end
theorem WOk.lend {g : Gs} {H : Hp} {w : Wd} {p : Addr} {vs : List V} (k : WOk c g H w) (hF : g.F p = none) (hW : p ∉ g.wadr) (hv : H p = some (.lst vs)) : WOk c (g.lay p (.lst vs)) H w ∧ Gle g (g.lay p (.lst vs)) := by
  have L : Gle g (g.lay p (.lst vs)) := ⟨fun b u e => by
    show upd g.F p _ b = some u
    rw [upd_ne (ne_of_none e hF)]; exact e, fun _ q => q, fun _ _ q => q⟩
  refine ⟨⟨fun b u e => ?_, k.dr, k.dr0, fun i sz ln e => ?_, k.tbl, k.nd, fun b hb => ?_⟩, L⟩
  · have e : upd g.F p _ b = some u := e
    by_cases q : b = p
    · subst q
      rw [upd_same] at e
      rw [hv]; exact e
    · rw [upd_ne q] at e
      exact k.sub _ _ e
  · obtain ⟨t, dx, l, vs', e1, e2, e3, r⟩ := k.tb i sz ln e
    exact ⟨t, dx, l, vs', e1, e2, e3, r.mono L⟩
  · show upd g.F p _ b = none
    rw [upd_ne (fun q : b = p => hW (by rw [← q]; exact hb))]
    exact k.out b hb
/-- the lent list comes back -/
theorem unlend {g g2 : Gs} {H H2 : Hp} {w : Wd} {p : Addr} {vs : List V} (x : Ext (g.lay p (.lst vs)) H g2 H2) (hF : g.F p = none) (k : WOk c g2 H2 w) (ht : w.tb = []) : Ext g H (g2.del p) H2 ∧ WOk c (g2.del p) H2 w := by
  refine ⟨⟨⟨fun b u e => ?_, x.dr, x.tb⟩, x.keep, x.dom, fun b e n => ?_, x.frW⟩, ⟨fun b u e => ?_, k.dr, k.dr0, fun i sz ln e => ?_, k.tbl, k.nd, fun b hb => ?_⟩⟩
  · have nb : b ≠ p := ne_of_none e hF
    rw [Gs.del_ne nb]
    exact x.sF b u (by show upd g.F p _ b = some u; rw [upd_ne nb]; exact e)
  · by_cases q : b = p
    · rw [q]; exact Gs.del_at
    · rw [Gs.del_ne q]
      exact x.frF b (by show upd g.F p _ b = none; rw [upd_ne q]; exact e) n
  · by_cases q : b = p
    · rw [q, Gs.del_at] at e; cases e
    · rw [Gs.del_ne q] at e
      exact k.sub b u e
  · rw [ht] at e
    simp at e
  · by_cases q : b = p
    · rw [q]; exact Gs.del_at
    · rw [Gs.del_ne q]
      exact k.out b hb
theorem callO_core {X : Cx} {W : WX} {i : Nat} {f : MF} {fst : Bool} {m : ME} {σ : St} {H : Hp} {Q : VK} {E' : XK} (h : rd c W (mCallO f fst i m) σ H Q) :
    ∃ a, σ[i]? = some (some (.ref a)) ∧ rd c W m σ H fun v H1 => spOf c 2 f (if fst then [.ref a, v] else [v, .ref a]) H1 Q E' := by
  obtain ⟨B, g, ρ, w, E, kk, p⟩ := h
  unfold mCallO at p
  split at p
  · rename_i xs ex
    obtain ⟨a, vs, b1, b2, b3, _⟩ := own_at E ex
    refine ⟨a, b1, B, g, ρ, w, E, kk, bnd p fun g1 H1 v d w1 _ e1 k1 r1 p1 => ⟨by cases fst <;> rfl, ?_⟩⟩
    obtain ⟨a', vs', c1, c2, c3, c4, c5, _⟩ := own_at (E.ext e1) ex
    obtain rfl : a = a' := by
      rw [b1] at c1
      cases c1; rfl
    obtain ⟨k2, L⟩ := k1.lend c4 c5 c2
    have ra : Rep c (g1.lay a (.lst vs')) (.ref a) (.lst xs) := .lst upd_same (c3.mono L)
    have rv := r1.mono L
    refine ⟨g1.lay a (.lst vs'), if fst then [.lst xs, d] else [d, .lst xs], w1, ?_, k2, ?_⟩
    · cases fst
      · exact .cons rv (.cons ra .nil)
      · exact .cons ra (.cons rv .nil)
    · revert p1
      cases f (if fst then [.lst xs, d] else [d, .lst xs]) w1 with
      | bad => exact fun p1 => p1
      | exc j w2 => exact fun p1 => False.elim p1
      | ok y w2 =>
        intro p1 g2 H2 u x2 k3 r2
        have p1 : post c (Rep c) g1 H1 Q (WE W σ) (if decide (sizeD y < sizeD (.lst xs)) && w2.tb.isEmpty then .ok y w2 else .bad) := p1
        split at p1
        · rename_i hs
          simp only [Bool.and_eq_true, decide_eq_true_eq, List.isEmpty_iff] at hs
          obtain ⟨x4, k4⟩ := unlend x2 c4 k3 hs.2
          refine p1 _ _ _ x4 k4 (Rep.unlend k3.out (x2.sF a _ upd_same) ((c3.mono L).mono x2.toGle) r2 ?_)
          have := hs.1
          simp only [sizeD] at this
          omega
        · exact False.elim p1
  · exact False.elim p
theorem callO_ok {X : Cx} {W : WX} {i : Nat} {f : MF} {fst : Bool} {m : ME} {x n : Str} {b : Expr} {p p' pos : Pos} (tk : Takes X W) (F : FOk c X x 2 f) (hg : Gl X x) (hN : X.N[i]? = some n) (hv : Vis X.env.scope n) (hd : (n == ("__debug__" : Str)) = false) (hcd : (n == ("__classdict__" : Str)) = false)
    (hb : PE X b (rd c W m)) (hs : isStar b = false) (hdb : (x == ("__debug__" : Str)) = false) :
    PE X (.Call (.Name x p) (if fst then [.Name n p', b] else [b, .Name n p']) [] pos) (rd c W (mCallO f fst i m)) := by
  obtain ⟨k, fa, fd, ps, F, hr, hm, hk, hbd⟩ := F.ex
  cases fst with
  | true =>
    refine (pe_callSD (E := fun σ => WE W σ) F hr hg hm hk hbd .nil (fun σ => passAt tk σ) (pa_cons (pe_var hN hv hd hcd) (pa_cons hb pa_nil (star_cons hs)) rfl) hdb rfl (by rw [star_cons hs]; rfl)).mono fun σ H Q h => ?_
    obtain ⟨a, h1, h2⟩ := callO_core (X := X) (E' := WE W σ) h
    exact ⟨_, h1, h2⟩
  | false =>
    refine (pe_callSD (E := fun σ => WE W σ) F hr hg hm hk hbd .nil (fun σ => passAt tk σ) (pa_cons hb (pa_cons (pe_var hN hv hd hcd) pa_nil rfl) (star_cons hs)) hdb (star_cons hs) rfl).mono fun σ H Q h => ?_
    obtain ⟨a, h1, B, g, ρ, w, E, kk, h2⟩ := callO_core (X := X) (E' := WE W σ) h
    exact ⟨B, g, ρ, w, E, kk, h2.mono fun v H1 z => ⟨_, h1, z⟩⟩
end
end RL

namespace RL
open PySem L2
section
variable {c : Cn} {P : Program} {w : World} {K : PySem.W.Frag} {mg : Str → Option Value} {base : Heap} {k : Nat} {T : Tab}
theorem BOk.hu {X : Cx} (b : BOk P w K mg base k X) : X.A.units + 65 < cLine := by have := b.room.un; omega
/-- within a comprehension -/
theorem BOk.blk {X : Cx} (b : BOk P w K mg base k X) {s : Shared} {H : Hp} {scope : Scope} {cenv : PySem.Env} {fp : List Addr} : BOk P w K mg base k (X.blk s H scope cenv fp) := ⟨b.prog, b.w, b.K, b.mg, b.base, b.calm, b.room⟩
theorem XOk.blk {κ : Ck} {X : Cx} {W : WX} (h : XOk κ X W) {s : Shared} {H : Hp} {scope : Scope} {cl : List (Str × Addr)} {C : Addr} {fp : List Addr} : XOk ⟨κ.N, relS scope κ.sc, fun x => scope.names.lookup x == some .cell⟩ (X.blk s H scope (compEnvC scope cl C X.env) fp) WF :=
  ⟨h.N, h.nd, by rw [← h.sc]; rfl, rfl, takes0⟩
theorem star_any {env : PySem.Env} {pos : Pos} : ∀ {xs : List Expr}, (∀ x ∈ xs, isStar x = false) → (backTo pos (starEach xs env)).any (·.1) = false
  | [], _ => rfl
  | x :: xs, h => by
    rw [star_cons (h x List.mem_cons_self)]
    show (false || (backTo pos (starEach xs env)).any (·.1)) = false
    rw [star_any fun y hy => h y (List.mem_cons_of_mem _ hy)]
    rfl
theorem star_all {env : PySem.Env} {pos : Pos} : ∀ {xs : List Expr}, (∀ x ∈ xs, isStar x = false) → (backTo pos (starEach xs env)).all (fun x => !x.1) = true
  | [], _ => rfl
  | x :: xs, h => by
    rw [star_cons (h x List.mem_cons_self)]
    show (!false && (backTo pos (starEach xs env)).all (fun x => !x.1)) = true
    rw [star_all fun y hy => h y (List.mem_cons_of_mem _ hy)]
    rfl
/-- an argument list -/
structure AOkP (c : Cn) (X : Cx) (W : WX) (xs : List Expr) (m : MA) : Prop where
  pa : PA X xs (rdA c W m)
  st : ∀ x ∈ xs, isStar x = false
theorem chk_not_star {κ : Ck} {e : E} {x : Expr} (q : chkE T κ e x = true) : isStar x = false := by
  cases x with
  | Starred y p =>
    exfalso
    cases e <;> first | (simp [chkE] at q; done) | skip
    · rename_i l
      cases l <;> simp [chkE, chkL] at q
  | _ => rfl
theorem attr_base {κ : Ck} {e : E} {x : Expr} (q : chkE T κ e x = true) {nm : Str} {env : PySem.Env} : attributeBase x nm env (eval x env) = eval x env := by
  cases x with
  | Call f args kws pos =>
    cases f with
    | Name id p =>
      cases args with
      | nil =>
        exfalso
        cases e <;> first | (simp [chkE] at q; done) | skip
        · rename_i l
          cases l <;> simp [chkE, chkL] at q
      | cons a as => rfl
    | _ => rfl
  | _ => rfl
theorem chk_rev {κ : Ck} {a : E} {x : Expr} (q : chkE T κ (.rev a) x = true) : ∃ y j p1 p2 p3 pos, x = .Subscript y (.Slice none none (some (.UnaryOp .USub (.Constant (.int 1) j p1) p2)) p3) pos ∧ chkE T κ a y = true := by
  unfold chkE at q
  split at q <;> first | contradiction | skip
  all_goals first
    | (have e := ‹E.rev a = E.rev _›
       cases e
       exact ⟨_, _, _, _, _, _, rfl, q⟩)
    | cases q
theorem chk_isi {κ : Ck} {a : E} {t : String} {x : Expr} (q : chkE T κ (.isi a t) x = true) : ∃ y p p' pos, x = .Call (.Name "isinstance" p) [y, .Name (Str.ofString t) p'] [] pos ∧ tyOk t = true ∧ glB κ.sc "isinstance" = true ∧ glB κ.sc (Str.ofString t) = true ∧ chkE T κ a y = true := by
  unfold chkE at q
  split at q <;> first | contradiction | skip
  all_goals first
    | (have e := ‹E.isi a t = E.isi _ _›
       cases e
       simp only [Bool.and_eq_true, decide_eq_true_eq] at q
       obtain ⟨⟨⟨⟨⟨q1, q2⟩, q3⟩, q4⟩, q5⟩, q6⟩ := q
       subst q1; subst q2
       exact ⟨_, _, _, _, rfl, q3, q4, q5, q6⟩)
    | cases q
theorem chk_isx {κ : Ck} {a : E} {j : Nat} {x : Expr} (q : chkE T κ (.isx a j) x = true) : ∃ y z p p' pos pp, x = .Call (.Name "isinstance" p) [y, .Name z p'] [] pos ∧ T.cls[j]? = some pp ∧ pp.1 = z ∧ glB κ.sc "isinstance" = true ∧ glB κ.sc z = true ∧ plainN z = true ∧ chkE T κ a y = true := by
  unfold chkE at q
  split at q <;> first | contradiction | skip
  all_goals first
    | (have e := ‹E.isx a j = E.isx _ _›
       cases e
       simp only [Bool.and_eq_true, decide_eq_true_eq] at q
       obtain ⟨⟨⟨⟨⟨q1, q2⟩, q3⟩, q4⟩, q5⟩, q6⟩ := q
       subst q1
       split at q2
       · rename_i pp hp
         exact ⟨_, _, _, _, _, pp, rfl, hp, of_decide_eq_true q2, q3, q4, q5, q6⟩
       · cases q2)
    | cases q
theorem chk_lrg {κ : Ck} {a : E} {x : Expr} (q : chkL T κ (.lrg a) x = true) : ∃ z p p2 pos pos2, x = .Call (.Name "list" p) [.Call (.Name "range" p2) [z] [] pos2] [] pos ∧ glB κ.sc "list" = true ∧ glB κ.sc "range" = true ∧ chkE T κ a z = true := by
  unfold chkL at q
  split at q <;> first | contradiction | skip
  all_goals first
    | (have e := ‹L.lrg a = L.lrg _›
       cases e
       simp only [Bool.and_eq_true, decide_eq_true_eq] at q
       obtain ⟨⟨⟨⟨q1, q2⟩, q3⟩, q4⟩, q5⟩ := q
       subst q1; subst q2
       exact ⟨_, _, _, _, _, rfl, q3, q4, q5⟩)
    | cases q
theorem chk_callO {κ : Ck} {f i : Nat} {fst : Bool} {a : E} {x : Expr} (q : chkE T κ (.callO f fst i a) x = true) : ∃ nm p n p' y pos pp, x = .Call (.Name nm p) (if fst then [.Name n p', y] else [y, .Name n p']) [] pos ∧ T.fns[f]? = some pp ∧ pp.1 = nm ∧ pp.2.1 = 2 ∧ glB κ.sc nm = true ∧ plainN nm = true ∧
    isStar y = false ∧ slotB κ i n = true ∧ chkE T κ a y = true := by
  unfold chkE at q
  split at q <;> first | contradiction | skip
  all_goals first
    | (have e := ‹E.callO f fst i a = E.callO _ _ _ _›
       cases e
       simp only [Bool.and_eq_true, Bool.not_eq_true'] at q
       obtain ⟨⟨⟨⟨⟨q1, q2⟩, q3⟩, q4⟩, q5⟩, q6⟩ := q
       split at q1
       · rename_i pp hp
         simp only [Bool.and_eq_true, decide_eq_true_eq] at q1
         split at q6
         · simp only [Bool.and_eq_true] at q6
           exact ⟨_, _, _, _, _, _, pp, rfl, hp, q1.1, q1.2, q2, q3, q5, q6.1, q6.2⟩
         · simp only [Bool.and_eq_true] at q6
           exact ⟨_, _, _, _, _, _, pp, rfl, hp, q1.1, q1.2, q2, q3, q4, q6.1, q6.2⟩
         · cases q6
       · cases q1)
    | cases q
theorem chk_of {κ : Ck} {es : Es} {x : Expr} (q : chkL T κ (.of es) x = true) : ∃ y ys p pos, x = .Call (.Name "list" p) (y :: ys) [] pos ∧ glB κ.sc "list" = true ∧ chkEs T κ es (y :: ys) = true := by
  unfold chkL at q
  split at q <;> first | contradiction | skip
  all_goals first
    | (have e := ‹L.of es = L.of _›
       cases e
       simp only [Bool.and_eq_true, decide_eq_true_eq] at q
       obtain ⟨⟨q1, q2⟩, q3⟩ := q
       subst q1
       exact ⟨_, _, _, _, rfl, q2, q3⟩)
    | cases q
theorem chk_rng {κ : Ck} {es : Es} {x tg : Expr} (q : chkI T κ (.rng es) x tg = true) : (∃ y p pos, x = .Call (.Name "range" p) [y] [] pos ∧ glB κ.sc "range" = true ∧ chkEs T κ es [y] = true) ∨ ∃ y z p pos, x = .Call (.Name "range" p) [y, z] [] pos ∧ glB κ.sc "range" = true ∧ chkEs T κ es [y, z] = true := by
  unfold chkI at q
  split at q <;> first | contradiction | skip
  all_goals first
    | (have e := ‹I.rng es = I.rng _›
       cases e
       simp only [Bool.and_eq_true, decide_eq_true_eq] at q
       obtain ⟨⟨q1, q2⟩, q3⟩ := q
       subst q1
       first
         | exact .inl ⟨_, _, _, rfl, q2, q3⟩
         | exact .inr ⟨_, _, _, _, rfl, q2, q3⟩)
    | cases q
theorem chk_enm {κ : Ck} {es : Es} {x tg : Expr} (q : chkI T κ (.enm es) x tg = true) : ∃ y p pos ts j tp, x = .Call (.Name "enumerate" p) [y] [] pos ∧ tg = .Tuple ts j tp ∧ glB κ.sc "enumerate" = true ∧ chkEs T κ es [y] = true := by
  unfold chkI at q
  split at q <;> first | contradiction | skip
  all_goals first
    | (have e := ‹I.enm es = I.enm _›
       cases e
       simp only [Bool.and_eq_true, decide_eq_true_eq] at q
       obtain ⟨⟨q1, q2⟩, q3⟩ := q
       subst q1
       exact ⟨_, _, _, _, _, _, rfl, rfl, q2, q3⟩)
    | cases q
theorem chk_zip {κ : Ck} {es : Es} {x tg : Expr} (q : chkI T κ (.zip es) x tg = true) : ∃ y z p pos ts j tp, x = .Call (.Name "zip" p) [y, z] [] pos ∧ tg = .Tuple ts j tp ∧ glB κ.sc "zip" = true ∧ chkEs T κ es [y, z] = true := by
  unfold chkI at q
  split at q <;> first | contradiction | skip
  all_goals first
    | (have e := ‹I.zip es = I.zip _›
       cases e
       simp only [Bool.and_eq_true, decide_eq_true_eq] at q
       obtain ⟨⟨q1, q2⟩, q3⟩ := q
       subst q1
       exact ⟨_, _, _, _, _, _, _, rfl, rfl, q2, q3⟩)
    | cases q
theorem chk_ownE {κ : Ck} {i : Nat} {x tg : Expr} (q : chkI T κ (.ownE i) x tg = true) : ∃ y p' p pos ts j tp, x = .Call (.Name "enumerate" p) [.Name y p'] [] pos ∧ tg = .Tuple ts j tp ∧ glB κ.sc "enumerate" = true ∧ slotB κ i y = true := by
  unfold chkI at q
  split at q <;> first | contradiction | skip
  all_goals first
    | (have e := ‹I.ownE i = I.ownE _›
       cases e
       simp only [Bool.and_eq_true, decide_eq_true_eq] at q
       obtain ⟨⟨q1, q2⟩, q3⟩ := q
       subst q1
       exact ⟨_, _, _, _, _, _, _, rfl, rfl, q2, q3⟩)
    | cases q
theorem chk_comp {κ : Ck} {elt : E} {t : Tg} {vs : List Nat} {it : I} {cond : Oe} {x : Expr} (q : chkL T κ (.comp elt t vs it cond) x = true) : ∃ y tg iter ifs scope pos, x = .ListComp y [⟨tg, iter, ifs, 0⟩] scope pos ∧ ∃ own : List (Str × Nat), BlkOk κ.N κ.sc scope own ∧ own.map (·.2) = vs ∧ (∀ i ∈ slotsT t, i ∈ vs) ∧
    chkI T κ it iter tg = true ∧ isSet iter = false ∧ chkT ⟨κ.N, relS scope κ.sc, fun x => scope.names.lookup x == some .cell⟩ t tg = true ∧ chkC T ⟨κ.N, relS scope κ.sc, fun x => scope.names.lookup x == some .cell⟩ cond ifs = true ∧ chkE T ⟨κ.N, relS scope κ.sc, fun x => scope.names.lookup x == some .cell⟩ elt y = true := by
  unfold chkL at q
  split at q <;> first | contradiction | skip
  all_goals first
    | (have e := ‹L.comp elt t vs it cond = L.comp _ _ _ _ _›
       cases e
       simp only [Bool.and_eq_true, decide_eq_true_eq, Bool.not_eq_true', List.all_eq_true] at q
       obtain ⟨⟨⟨⟨⟨⟨⟨q1, q2⟩, q3⟩, q4⟩, q5⟩, q6⟩, q7⟩, q8⟩ := q
       exact ⟨_, _, _, _, _, _, rfl, _, blkOk_by q1, q2, fun i hi => by simpa using q3 i hi, q4, q5, q6, q7, q8⟩)
    | cases q
/-- the parts of a comprehension -/
structure LcOk (c : Cn) (X : Cx) (W : WX) (y tg iter : Expr) (ifs : List Expr) (scope : Scope) (m : MA) : Prop where
  ex : ∃ (own : List (Str × Nat)) (wi : TI) (g : TG) (tt : TT) (te : TE), PI X tg iter wi ∧ BlkOk X.N X.env.scope scope own ∧ (∀ (s : Shared) (H : Hp) (C : Addr) (cl : List (Str × Addr)) (fp : List Addr), PG (X.blk s H scope (compEnvC scope cl C X.env) fp) tg g) ∧
    (∀ (s : Shared) (H : Hp) (C : Addr) (cl : List (Str × Addr)) (fp : List Addr), PTs (X.blk s H scope (compEnvC scope cl C X.env) fp) ifs tt) ∧ (∀ (s : Shared) (H : Hp) (C : Addr) (cl : List (Str × Addr)) (fp : List Addr), PE (X.blk s H scope (compEnvC scope cl C X.env) fp) y te) ∧
    (∀ v, foldedSetIterable iter X.env v = pure v) ∧ ∀ (σ : St) (H : Hp) (Q : VK), rdL c W m σ H Q → tLc wi g tt te (own.map (·.2)) σ H Q
structure LOkP (c : Cn) (X : Cx) (W : WX) (x : Expr) (m : MA) : Prop where
  pe : PE X x (rdL c W m)
  lc : ∀ y tg iter ifs scope pos, x = .ListComp y [⟨tg, iter, ifs, 0⟩] scope pos → LcOk c X W y tg iter ifs scope m
def isOwnI : I → Bool
  | .own _ => true
  | .ownE _ => true
  | _ => false
structure IOkP (c : Cn) (X : Cx) (W : WX) (tg x : Expr) (it : I) (m : MI) : Prop where
  pe : PI X tg x (rdIE c W m)
  pf : isOwnI it = false → PI X tg x (rdI c W m)
theorem chkEs_len {κ : Ck} : ∀ (es : Es) (xs : List Expr), chkEs T κ es xs = true → xs.length = lenEs es
  | .nil, [], _ => rfl
  | .nil, _ :: _, q => by simp [chkEs] at q
  | .cons _ _, [], q => by simp [chkEs] at q
  | .cons e es, x :: xs, q => by
    simp only [chkEs, Bool.and_eq_true] at q
    simp only [List.length_cons, lenEs, chkEs_len es xs q.2]
mutual
theorem sndE (HT : TOk c P w K mg base k T) : ∀ (e : E) (κ : Ck) (X : Cx) (W : WX) (x : Expr), BOk P w K mg base k X → XOk κ X W → chkE T κ e x = true → EOkP c X W x (ev T e)
  | .var i, κ, X, W, x, b, h, q => by
    cases x with
    | Name x pos =>
      simp only [chkE] at q
      obtain ⟨q1, q2, q3, q4⟩ := h.slot q
      exact .plain (by simp only [ev]; exact s_var q1 q2 q3 q4) (fun _ => rfl) (fun _ _ _ e => nomatch e)
    | _ => simp [chkE] at q
  | .cst d, κ, X, W, x, b, h, q => by
    cases x with
    | Constant v j pos =>
      cases d with
      | int i =>
        cases v with
        | int i' =>
          simp only [chkE, decide_eq_true_eq] at q
          subst q
          exact .plain (by simp only [ev]; exact s_int) (fun _ => rfl) (fun _ _ _ e => nomatch e)
        | _ => simp [chkE] at q
      | bl i =>
        cases v with
        | bool i' =>
          simp only [chkE, decide_eq_true_eq] at q
          subst q
          exact .plain (by simp only [ev]; exact s_bl) (fun _ => rfl) (fun _ _ _ e => nomatch e)
        | _ => simp [chkE] at q
      | non =>
        cases v with
        | none => exact .plain (by simp only [ev]; exact s_non) (fun _ => rfl) (fun _ _ _ e => nomatch e)
        | _ => simp [chkE] at q
      | str i =>
        cases v with
        | str i' =>
          simp only [chkE, decide_eq_true_eq] at q
          subst q
          exact .plain (by simp only [ev]; exact s_str) (fun _ => rfl) (fun _ _ _ e => nomatch e)
        | _ => simp [chkE] at q
      | _ => simp [chkE] at q
    | _ => cases d <;> simp [chkE] at q
  | .gl j, κ, X, W, x, b, h, q => by
    cases x with
    | Name x pos =>
      simp only [chkE, Bool.and_eq_true] at q
      obtain ⟨⟨q1, q2⟩, q3⟩ := q
      split at q1
      · rename_i p hp
        have q1 := of_decide_eq_true q1
        subst q1
        obtain ⟨v, u, h1, h2, h3⟩ := HT.cs j p hp
        have e : T.cs.getD j (Str.empty, .non) = p := by simp [hp]
        refine .plain ?_ (fun _ => rfl) (fun _ _ _ e => nomatch e)
        simp only [ev]
        rw [e]
        exact s_glob (h.gl q2) (by rw [b.mg]; exact h1) h2 h3 (plainN_ok q3).1
      · cases q1
    | _ => simp [chkE] at q
  | .bin o a d, κ, X, W, x, b, h, q => by
    cases x with
    | BinOp l op r pos =>
      simp only [chkE, Bool.and_eq_true, decide_eq_true_eq] at q
      obtain ⟨⟨q1, q2⟩, q3⟩ := q
      exact .plain (by simp only [ev]; exact s_bin q1 (sndE HT a κ X W l b h q2).pe (sndE HT d κ X W r b h q3).pe) (fun _ => rfl) (fun _ _ _ e => nomatch e)
    | Compare l ops rs pos =>
      match ops, rs, q with
      | [op], [r], q =>
        simp only [chkE, Bool.and_eq_true, decide_eq_true_eq, Bool.not_eq_true'] at q
        obtain ⟨⟨⟨q1, q2⟩, q3⟩, q4⟩ := q
        refine ⟨?_, fun _ => ?_, fun _ _ _ e => nomatch e⟩
        · simp only [ev]; exact s_cmp b.hu q1 (sndE HT a κ X W l b h q2).pe (sndE HT d κ X W r b h q3).pe (set_marks q4)
        · simp only [ev]; exact t_cmp b.hu q1 (sndE HT a κ X W l b h q2).pe (sndE HT d κ X W r b h q3).pe (set_marks q4)
      | [], _, q => simp [chkE] at q
      | [_], [], q => simp [chkE] at q
      | [_], _ :: _ :: _, q => simp [chkE] at q
      | _ :: _ :: _, _, q => simp [chkE] at q
    | _ => simp [chkE] at q
  | .chn o o' a d f, κ, X, W, x, b, h, q => by
    cases x with
    | Compare l ops rs pos =>
      match ops, rs, q with
      | [op, op'], [r, r'], q =>
        simp only [chkE, Bool.and_eq_true, decide_eq_true_eq, Bool.not_eq_true'] at q
        obtain ⟨⟨⟨⟨⟨q1, q2⟩, q3⟩, q4⟩, q5⟩, q6⟩ := q
        have hm : lastMarks [op, op'] [r, r'] = false := set_marks q6
        refine ⟨?_, fun _ => ?_, fun _ _ _ e => nomatch e⟩
        · simp only [ev]; exact s_chn b.hu q1 q2 (sndE HT a κ X W l b h q3).pe (sndE HT d κ X W r b h q4).pe (sndE HT f κ X W r' b h q5).pe hm
        · simp only [ev]; exact t_chn b.hu q1 q2 (sndE HT a κ X W l b h q3).pe (sndE HT d κ X W r b h q4).pe (sndE HT f κ X W r' b h q5).pe hm
      | [], _, q => simp [chkE] at q
      | [_], _, q => simp [chkE] at q
      | [_, _], [], q => simp [chkE] at q
      | [_, _], [_], q => simp [chkE] at q
      | [_, _], _ :: _ :: _ :: _, q => simp [chkE] at q
      | _ :: _ :: _ :: _, _, q => simp [chkE] at q
    | _ => simp [chkE] at q
  | .neg a, κ, X, W, x, b, h, q => by
    cases x with
    | UnaryOp op y pos =>
      cases op with
      | USub =>
        simp only [chkE] at q
        exact .plain (by simp only [ev]; exact s_neg (sndE HT a κ X W y b h q).pe) (fun _ => rfl) (fun _ _ _ e => nomatch e)
      | _ => simp [chkE] at q
    | _ => simp [chkE] at q
  | .not a, κ, X, W, x, b, h, q => by
    cases x with
    | UnaryOp op y pos =>
      cases op with
      | Not =>
        simp only [chkE, Bool.and_eq_true, Bool.not_eq_true'] at q
        have r := sndE HT a κ X W y b h q.1
        exact ⟨by simp only [ev]; exact s_not r.pe, fun _ => by simp only [ev]; exact t_not (r.pt q.2), fun _ _ _ e => nomatch e⟩
      | _ => simp [chkE] at q
    | _ => simp [chkE] at q
  | .and a d, κ, X, W, x, b, h, q => by
    cases x with
    | BoolOp op xs pos =>
      cases op with
      | And =>
        match xs, q with
        | [y, z], q =>
          simp only [chkE, Bool.and_eq_true, Bool.not_eq_true'] at q
          obtain ⟨⟨⟨q1, q2⟩, q3⟩, q4⟩ := q
          have r1 := sndE HT a κ X W y b h q1
          have r2 := sndE HT d κ X W z b h q2
          have hw : PW X (.BoolOp .And [y, z] pos) (rdT c W (ev T (.and a d))) := by simp only [ev]; exact w_and (r1.pt q3) (pw_and1 (r2.pt q4))
          exact ⟨by simp only [ev]; exact s_and r1.pe (pe_one r2.pe), fun _ => hw.pt, fun _ _ _ _ => hw⟩
        | y :: z :: u :: xs, q =>
          simp only [chkE, Bool.and_eq_true, Bool.not_eq_true'] at q
          obtain ⟨⟨q1, q2⟩, q3⟩ := q
          have r1 := sndE HT a κ X W y b h q1
          have r2 := sndE HT d κ X W _ b h q2
          have hw : PW X (.BoolOp .And (y :: z :: u :: xs) pos) (rdT c W (ev T (.and a d))) := by simp only [ev]; exact w_and (r1.pt q3) (r2.pw _ _ _ rfl)
          exact ⟨by simp only [ev]; exact s_and r1.pe r2.pe, fun _ => hw.pt, fun _ _ _ _ => hw⟩
        | [], q => simp [chkE] at q
        | [_], q => simp [chkE] at q
      | Or => simp [chkE] at q
    | _ => simp [chkE] at q
  | .or a d, κ, X, W, x, b, h, q => by
    cases x with
    | BoolOp op xs pos =>
      cases op with
      | Or =>
        match xs, q with
        | [y, z], q =>
          simp only [chkE, Bool.and_eq_true, Bool.not_eq_true'] at q
          obtain ⟨⟨⟨q1, q2⟩, q3⟩, q4⟩ := q
          have r1 := sndE HT a κ X W y b h q1
          have r2 := sndE HT d κ X W z b h q2
          have hw : PW X (.BoolOp .Or [y, z] pos) (rdT c W (ev T (.or a d))) := by simp only [ev]; exact w_or (r1.pt q3) (pw_or1 (r2.pt q4))
          exact ⟨by simp only [ev]; exact s_or r1.pe (pe_one r2.pe), fun _ => hw.pt, fun _ _ _ _ => hw⟩
        | y :: z :: u :: xs, q =>
          simp only [chkE, Bool.and_eq_true, Bool.not_eq_true'] at q
          obtain ⟨⟨q1, q2⟩, q3⟩ := q
          have r1 := sndE HT a κ X W y b h q1
          have r2 := sndE HT d κ X W _ b h q2
          have hw : PW X (.BoolOp .Or (y :: z :: u :: xs) pos) (rdT c W (ev T (.or a d))) := by simp only [ev]; exact w_or (r1.pt q3) (r2.pw _ _ _ rfl)
          exact ⟨by simp only [ev]; exact s_or r1.pe r2.pe, fun _ => hw.pt, fun _ _ _ _ => hw⟩
        | [], q => simp [chkE] at q
        | [_], q => simp [chkE] at q
      | And => simp [chkE] at q
    | _ => simp [chkE] at q
  | .ite t a d, κ, X, W, x, b, h, q => by
    cases x with
    | IfExp y z u pos =>
      simp only [chkE, Bool.and_eq_true, Bool.not_eq_true'] at q
      obtain ⟨⟨⟨q1, q2⟩, q3⟩, q4⟩ := q
      exact ⟨by simp only [ev]; exact s_ite ((sndE HT t κ X W y b h q1).pt q4) (sndE HT a κ X W z b h q2).pe (sndE HT d κ X W u b h q3).pe, fun e => by simp [isIfE] at e, fun _ _ _ e => nomatch e⟩
    | _ => simp [chkE] at q
  | .tup es, κ, X, W, x, b, h, q => by
    cases x with
    | Tuple xs j pos =>
      simp only [chkE] at q
      exact .plain (by simp only [ev]; exact s_tup (sndEs HT es κ X W xs b h q).pa) (fun _ => rfl) (fun _ _ _ e => nomatch e)
    | _ => simp [chkE] at q
  | .lm l, κ, X, W, x, b, h, q => by
    have q : chkL T κ l x = true := by simpa [chkE] using q
    have hp := (sndL HT l κ X W x b h q).pe
    have hs : PE X x (rd c W (ev T (.lm l))) := by simp only [ev]; exact s_of_l hp
    have hk : (∃ xs pos, x = .List xs pos) ∨ (∃ f as ks pos, x = .Call f as ks pos) ∨ ∃ y gs s pos, x = .ListComp y gs s pos := by
      cases l with
      | disp es => cases x <;> first | exact .inl ⟨_, _, rfl⟩ | simp [chkL] at q
      | of es => cases x <;> first | exact .inr (.inl ⟨_, _, _, _, rfl⟩) | simp [chkL] at q
      | lrg a => cases x <;> first | exact .inr (.inl ⟨_, _, _, _, rfl⟩) | simp [chkL] at q
      | comp a t v i d => cases x <;> first | exact .inr (.inr ⟨_, _, _, _, rfl⟩) | simp [chkL] at q
    rcases hk with ⟨_, _, rfl⟩ | ⟨_, _, _, _, rfl⟩ | ⟨_, _, _, _, rfl⟩ <;> exact .plain hs (fun _ => rfl) (fun _ _ _ e => nomatch e)
  | .ix a d, κ, X, W, x, b, h, q => by
    cases x with
    | Subscript y z pos =>
      simp only [chkE, Bool.and_eq_true, Bool.not_eq_true'] at q
      obtain ⟨⟨q1, q2⟩, q3⟩ := q
      exact .plain (by simp only [ev]; exact s_ix (sndE HT a κ X W y b h q1).pe (sndE HT d κ X W z b h q2).pe (plain_ix q3)) (fun _ => rfl) (fun _ _ _ e => nomatch e)
    | _ => simp [chkE] at q
  | .oix i d, κ, X, W, x, b, h, q => by
    cases x with
    | Subscript y z pos =>
      cases y with
      | Name y p =>
        simp only [chkE, Bool.and_eq_true, Bool.not_eq_true'] at q
        obtain ⟨⟨q1, q2⟩, q3⟩ := q
        obtain ⟨r1, r2, r3, r4⟩ := h.slot q1
        exact .plain (by simp only [ev]; exact oix_ok r1 r2 r3 r4 (sndE HT d κ X W z b h q2).pe (plain_ix q3)) (fun _ => rfl) (fun _ _ _ e => nomatch e)
      | _ => simp [chkE] at q
    | _ => simp [chkE] at q
  | .sl a lo hi, κ, X, W, x, b, h, q => by
    cases x with
    | Subscript y z pos =>
      cases z with
      | Slice l u st p =>
        cases st with
        | none =>
          simp only [chkE, Bool.and_eq_true] at q
          obtain ⟨⟨q1, q2⟩, q3⟩ := q
          exact .plain (by simp only [ev]; exact s_sl (sndE HT a κ X W y b h q1).pe (sndO HT lo κ X W l b h q2) (sndO HT hi κ X W u b h q3)) (fun _ => rfl) (fun _ _ _ e => nomatch e)
        | some _ => simp [chkE] at q
      | _ => simp [chkE] at q
    | _ => simp [chkE] at q
  | .rev a, κ, X, W, x, b, h, q => by
    obtain ⟨y, j, p1, p2, p3, pos, rfl, q⟩ := chk_rev q
    exact .plain (by simp only [ev]; exact s_rev (sndE HT a κ X W y b h q).pe) (fun _ => rfl) (fun _ _ _ e => nomatch e)
  | .call f es, κ, X, W, x, b, h, q => by
    cases x with
    | Call g as ks pos =>
      cases g with
      | Name y p =>
        cases as with
        | nil => cases ks <;> simp [chkE] at q
        | cons z zs =>
          cases ks with
          | cons _ _ => simp [chkE] at q
          | nil =>
            simp only [chkE, Bool.and_eq_true] at q
            obtain ⟨⟨⟨q1, q2⟩, q3⟩, q4⟩ := q
            have ra := sndEs HT es κ X W (z :: zs) b h q4
            split at q1
            · rename_i pp hp
              simp only [Bool.and_eq_true, decide_eq_true_eq] at q1
              obtain ⟨rfl, e2⟩ := q1
              have F := HT.fns X b f pp hp
              have e : T.fns.getD f noF = pp := by simp [hp]
              refine .plain ?_ (fun _ => rfl) (fun _ _ _ e => nomatch e)
              simp only [ev]
              rw [e]
              refine s_call h.tk F (h.gl q2) ra.pa ?_ (fun r w ds w' e => by rw [e2]; exact evs_len T es r w w' ds e) (plainN_ok q3).1 (star_cons (ra.st z List.mem_cons_self)) (star_any fun x hx => ra.st x (List.mem_cons_of_mem _ hx))
              rw [e2]
              exact chkEs_len es (z :: zs) q4
            · cases q1
      | _ => simp [chkE] at q
    | _ => simp [chkE] at q
  | .pri f es, κ, X, W, x, b, h, q => by
    cases x with
    | Call g as ks pos =>
      cases g with
      | Name y p =>
        cases as with
        | nil => cases ks <;> simp [chkE] at q
        | cons z zs =>
          cases ks with
          | cons _ _ => simp [chkE] at q
          | nil =>
            simp only [chkE, Bool.and_eq_true] at q
            obtain ⟨⟨⟨q1, q2⟩, q3⟩, q4⟩ := q
            have ra := sndEs HT es κ X W (z :: zs) b h q4
            split at q1
            · rename_i pp hp
              have q1 := of_decide_eq_true q1
              subst q1
              have F := HT.pri X W b h.tk f pp hp
              have e : T.pri.getD f (Str.empty, fun _ => none) = pp := by simp [hp]
              refine .plain ?_ (fun _ => rfl) (fun _ _ _ e => nomatch e)
              simp only [ev]
              rw [e]
              exact F z zs _ p pos (h.gl q2) ra.pa (star_cons (ra.st z List.mem_cons_self)) (star_any fun x hx => ra.st x (List.mem_cons_of_mem _ hx))
            · cases q1
      | _ => simp [chkE] at q
    | _ => simp [chkE] at q
  | .bmt f o es, κ, X, W, x, b, h, q => by
    cases x with
    | Call g as ks pos =>
      cases g with
      | Attribute y nm p =>
        cases as with
        | nil => cases ks <;> simp [chkE] at q
        | cons z zs =>
          cases ks with
          | cons _ _ => simp [chkE] at q
          | nil =>
            simp only [chkE, Bool.and_eq_true, decide_eq_true_eq] at q
            obtain ⟨⟨⟨⟨q1, q2⟩, q3⟩, q4⟩, q5⟩ := q
            have ra := sndEs HT es κ X W (z :: zs) b h q3
            split at q1
            · rename_i pp hp
              have q1 := of_decide_eq_true q1
              subst q1
              have F := HT.bmt X W b h.tk f pp hp
              have e : T.bmt.getD f (Str.empty, fun _ _ => none) = pp := by simp [hp]
              refine .plain ?_ (fun _ => rfl) (fun _ _ _ e => nomatch e)
              simp only [ev]
              rw [e]
              exact F y z zs _ _ p pos (sndE HT o κ X W y b h q2).pe ra.pa (star_cons (ra.st z List.mem_cons_self)) (star_any fun x hx => ra.st x (List.mem_cons_of_mem _ hx)) (star_all ra.st) (by rw [chkEs_len es (z :: zs) q3]; exact q5) q4 (attr_base q2)
            · cases q1
      | _ => simp [chkE] at q
    | _ => simp [chkE] at q
  | .isi a t, κ, X, W, x, b, h, q => by
    obtain ⟨y, p, p', pos, rfl, q3, q4, q5, q6⟩ := chk_isi q
    have hmt : X.mg (Str.ofString t) = none := by
      rw [b.mg]
      unfold tyOk at q3
      split at q3 <;> first | exact HT.int | exact HT.bool | exact HT.str | exact HT.list | exact HT.tuple | cases q3
    exact .plain (by simp only [ev]; exact isi_ok q3 (h.gl q4) (by rw [b.mg]; exact HT.isinstance) (h.gl q5) hmt (sndE HT a κ X W y b h q6).pe (chk_not_star q6)) (fun _ => rfl) (fun _ _ _ e => nomatch e)
  | .isx a j, κ, X, W, x, b, h, q => by
    obtain ⟨y, z, p, p', pos, pp, rfl, q1, q2, q3, q4, q5, q6⟩ := chk_isx q
    obtain ⟨v, cv, c1, c2⟩ := HT.cls j pp q1
    have e : T.cls.getD j noC = pp := by simp [q1]
    refine .plain ?_ (fun _ => rfl) (fun _ _ _ e => nomatch e)
    simp only [ev]
    rw [e]
    exact isx_ok (h.gl q3) (by rw [b.mg]; exact HT.isinstance) (h.gl q4) (by rw [b.mg, ← q2]; exact c1) (plainN_ok q5).1 (by rw [b.K]; exact c2) (sndE HT a κ X W y b h q6).pe (chk_not_star q6)
  | .ocmp o i d, κ, X, W, x, b, h, q => by
    cases x with
    | Compare l ops rs pos =>
      cases l with
      | Name y p =>
        match ops, rs, q with
        | [op], [r], q =>
          simp only [chkE, Bool.and_eq_true, decide_eq_true_eq, Bool.not_eq_true', Bool.or_eq_true] at q
          obtain ⟨⟨⟨⟨q1, q2⟩, q3⟩, q4⟩, q5⟩ := q
          obtain ⟨r1, r2, r3, r4⟩ := h.slot q3
          have rd' := (sndE HT d κ X W r b h q4).pe
          have hu := b.hu
          rcases q2 with rfl | rfl
          · cases op <;> simp [cmpOf] at q1
            refine ⟨?_, fun _ => ?_, fun _ _ _ e => nomatch e⟩
            · simp only [ev]; exact (pe_cmpR (op_eqD (by omega)) (pe_var r1 r2 r3 r4) rd' (set_marks q5)).mono fun _ _ _ z => ocmp_core (.inl ⟨rfl, rfl⟩) z
            · simp only [ev]; exact (pt_cmpR (op_eqD (by omega)) (pe_var r1 r2 r3 r4) rd' (set_marks q5)).mono fun _ _ _ z => ocmp_core (.inl ⟨rfl, rfl⟩) (rd_test z)
          · cases op <;> simp [cmpOf] at q1
            refine ⟨?_, fun _ => ?_, fun _ _ _ e => nomatch e⟩
            · simp only [ev]; exact (pe_cmpR (op_neD (by omega)) (pe_var r1 r2 r3 r4) rd' (set_marks q5)).mono fun _ _ _ z => ocmp_core (.inr ⟨rfl, rfl⟩) z
            · simp only [ev]; exact (pt_cmpR (op_neD (by omega)) (pe_var r1 r2 r3 r4) rd' (set_marks q5)).mono fun _ _ _ z => ocmp_core (.inr ⟨rfl, rfl⟩) (rd_test z)
        | [], _, q => simp [chkE] at q
        | [_], [], q => simp [chkE] at q
        | [_], _ :: _ :: _, q => simp [chkE] at q
        | _ :: _ :: _, _, q => simp [chkE] at q
      | _ => simp [chkE] at q
    | _ => simp [chkE] at q
  | .callO f fst i d, κ, X, W, x, b, h, q => by
    obtain ⟨nm, p, n, p', y, pos, pp, rfl, q1, q2, q3, q4, q5, q6, q7, q8⟩ := chk_callO q
    obtain ⟨r1, r2, r3, r4⟩ := h.slot q7
    have F := HT.fns X b f pp q1
    rw [q2, q3] at F
    have e : T.fns.getD f noF = pp := by simp [q1]
    refine .plain ?_ (fun _ => rfl) (fun _ _ _ e => nomatch e)
    simp only [ev]
    rw [e]
    exact callO_ok h.tk F (h.gl q4) r1 r2 r3 r4 (sndE HT d κ X W y b h q8).pe q6 (plainN_ok q5).1
theorem sndEs (HT : TOk c P w K mg base k T) : ∀ (es : Es) (κ : Ck) (X : Cx) (W : WX) (xs : List Expr), BOk P w K mg base k X → XOk κ X W → chkEs T κ es xs = true → AOkP c X W xs (evs T es)
  | .nil, κ, X, W, xs, b, h, q => by
    cases xs with
    | nil => exact ⟨by simp only [evs]; exact a_nil, fun x hx => by cases hx⟩
    | cons x xs => simp [chkEs] at q
  | .cons e es, κ, X, W, xs, b, h, q => by
    cases xs with
    | nil => simp [chkEs] at q
    | cons x xs =>
      simp only [chkEs, Bool.and_eq_true, Bool.not_eq_true'] at q
      obtain ⟨⟨q1, q2⟩, q3⟩ := q
      have r := sndEs HT es κ X W xs b h q3
      refine ⟨by simp only [evs]; exact a_cons (sndE HT e κ X W x b h q2).pe r.pa (star_cons q1), fun y hy => ?_⟩
      rcases List.mem_cons.mp hy with rfl | hy
      · exact q1
      · exact r.st y hy
theorem sndO (HT : TOk c P w K mg base k T) : ∀ (o : Oe) (κ : Ck) (X : Cx) (W : WX) (x : Option Expr), BOk P w K mg base k X → XOk κ X W → chkO T κ o x = true → PO X x (rdP c W (evo T o))
  | .no, κ, X, W, x, b, h, q => by
    cases x with
    | none => simp only [evo]; exact o_none
    | some x => simp [chkO] at q
  | .so e, κ, X, W, x, b, h, q => by
    cases x with
    | none => simp [chkO] at q
    | some x =>
      simp only [chkO] at q
      simp only [evo]
      exact o_some (sndE HT e κ X W x b h q).pe
theorem sndC (HT : TOk c P w K mg base k T) : ∀ (o : Oe) (κ : Ck) (X : Cx) (W : WX) (xs : List Expr), BOk P w K mg base k X → XOk κ X W → chkC T κ o xs = true → PTs X xs (rdT c W (evc T o))
  | .no, κ, X, W, xs, b, h, q => by
    cases xs with
    | nil =>
      simp only [evc]
      refine ⟨fun pins s σ H Q I hw => pts_nil.run pins s σ H Q I ?_⟩
      obtain ⟨B, g, r, w, E, kk, p⟩ := hw
      exact p g H true (Ext.refl _ _) kk rfl
    | cons x xs => simp [chkC] at q
  | .so e, κ, X, W, xs, b, h, q => by
    match xs, q with
    | [x], q =>
      simp only [chkC, Bool.and_eq_true, Bool.not_eq_true'] at q
      simp only [evc]
      exact pts_one ((sndE HT e κ X W x b h q.1).pt q.2)
    | [], q => simp [chkC] at q
    | _ :: _ :: _, q => simp [chkC] at q
theorem sndL (HT : TOk c P w K mg base k T) : ∀ (l : L) (κ : Ck) (X : Cx) (W : WX) (x : Expr), BOk P w K mg base k X → XOk κ X W → chkL T κ l x = true → LOkP c X W x (evl T l)
  | .disp es, κ, X, W, x, b, h, q => by
    cases x with
    | List xs pos =>
      simp only [chkL] at q
      simp only [evl]
      exact ⟨l_disp (sndEs HT es κ X W xs b h q).pa, fun _ _ _ _ _ _ e => nomatch e⟩
    | _ => simp [chkL] at q
  | .of es, κ, X, W, x, b, h, q => by
    obtain ⟨y, ys, p, pos, rfl, q2, q3⟩ := chk_of q
    have ra := sndEs HT es κ X W _ b h q3
    simp only [evl]
    exact ⟨l_of (h.gl q2) (by rw [b.mg]; exact HT.list) ra.pa (star_cons (ra.st _ List.mem_cons_self)) (star_any fun x hx => ra.st x (List.mem_cons_of_mem _ hx)), fun _ _ _ _ _ _ e => nomatch e⟩
  | .lrg a, κ, X, W, x, b, h, q => by
    obtain ⟨z, p, p2, pos, pos2, rfl, q2, q3, q4⟩ := chk_lrg q
    simp only [evl]
    exact ⟨l_lrg b.calm (h.gl q2) (by rw [b.mg]; exact HT.list) (h.gl q3) (by rw [b.mg]; exact HT.range) (sndE HT a κ X W z b h q4).pe (chk_not_star q4), fun _ _ _ _ _ _ e => nomatch e⟩
  | .comp elt t vs it cond, κ, X, W, x, b, h, q => by
    obtain ⟨y, tg, iter, ifs, scope, pos, rfl, own, h1, h2, h3, h4, h5, h6, h7, h8⟩ := chk_comp q
    have pi := (sndI HT it κ X W iter tg b h h4).pe
    have hl : LcOk c X W y tg iter ifs scope (evl T (.comp elt t vs it cond)) := by
      refine ⟨own, _, rdG c t, _, _, pi, by rw [h.N, h.sc]; exact h1, fun s H C cl fp => sndT (κ := ⟨κ.N, relS scope κ.sc, fun x => scope.names.lookup x == some .cell⟩) h.blk b.blk.calm t tg h6,
        fun s H C cl fp => sndC HT cond _ _ WF ifs b.blk h.blk h7, fun s H C cl fp => (sndE HT elt _ _ WF y b.blk h.blk h8).pe, set_fold h5, ?_⟩
      simp only [evl]
      rw [← h2]
      exact l_comp b.calm h.nodup pi (by rw [h.N, h.sc]; exact h1) (fun s H C cl fp => sndT (κ := ⟨κ.N, relS scope κ.sc, fun x => scope.names.lookup x == some .cell⟩) h.blk b.blk.calm t tg h6)
        (fun s H C cl fp => sndC HT cond _ _ WF ifs b.blk h.blk h7) (fun s H C cl fp => (sndE HT elt _ _ WF y b.blk h.blk h8).pe) (fun i hi => by rw [h2]; exact h3 i hi) (set_fold h5)
    refine ⟨?_, fun y' tg' iter' ifs' scope' pos' e => by cases e; exact hl⟩
    obtain ⟨own, wi, g, tt, te, r1, r2, r3, r4, r5, r6, r7⟩ := hl.ex
    exact (pe_lc b.calm h.nodup r1 r2 r3 r4 r5 r6).mono r7
theorem sndI (HT : TOk c P w K mg base k T) : ∀ (it : I) (κ : Ck) (X : Cx) (W : WX) (x tg : Expr), BOk P w K mg base k X → XOk κ X W → chkI T κ it x tg = true → IOkP c X W tg x it (evi T it)
  | .seq e, κ, X, W, x, tg, b, h, q => by
    simp only [chkI] at q
    have r : PI X tg x (rdI c W (evi T (.seq e))) := by simp only [evi]; exact i_seq (sndE HT e κ X W x b h q).pe
    exact ⟨i_weak r, fun _ => r⟩
  | .rng es, κ, X, W, x, tg, b, h, q => by
    have r : PI X tg x (rdI c W (evi T (.rng es))) := by
      simp only [evi]
      rcases chk_rng q with ⟨y, p, pos, rfl, q1, q2⟩ | ⟨y, z, p, pos, rfl, q1, q2⟩
      · have ra := sndEs HT es κ X W _ b h q2
        exact i_rng1 (h.gl q1) (by rw [b.mg]; exact HT.range) ra.pa (star_cons (ra.st _ List.mem_cons_self)) fun r w ds w' e => by rw [evs_len T es r w w' ds e, ← chkEs_len es _ q2]; rfl
      · have ra := sndEs HT es κ X W _ b h q2
        have s2 : isStar z = false := ra.st z (by simp)
        exact i_rng2 (h.gl q1) (by rw [b.mg]; exact HT.range) ra.pa (by rw [star_cons (ra.st _ List.mem_cons_self), star_cons s2]; rfl) (star_cons s2) fun r w ds w' e => by rw [evs_len T es r w w' ds e, ← chkEs_len es _ q2]; rfl
    exact ⟨i_weak r, fun _ => r⟩
  | .enm es, κ, X, W, x, tg, b, h, q => by
    have r : PI X tg x (rdI c W (evi T (.enm es))) := by
      simp only [evi]
      obtain ⟨y, p, pos, ts, j, tp, rfl, rfl, q1, q2⟩ := chk_enm q
      have ra := sndEs HT es κ X W _ b h q2
      exact i_enum (h.gl q1) (by rw [b.mg]; exact HT.enumerate) ra.pa (star_cons (ra.st _ List.mem_cons_self))
    exact ⟨i_weak r, fun _ => r⟩
  | .zip es, κ, X, W, x, tg, b, h, q => by
    have r : PI X tg x (rdI c W (evi T (.zip es))) := by
      simp only [evi]
      obtain ⟨y, z, p, pos, ts, j, tp, rfl, rfl, q1, q2⟩ := chk_zip q
      have ra := sndEs HT es κ X W _ b h q2
      have s2 : isStar z = false := ra.st z (by simp)
      exact i_zip (h.gl q1) (by rw [b.mg]; exact HT.zip) ra.pa (by rw [star_cons (ra.st _ List.mem_cons_self), star_cons s2]; rfl) (star_cons s2)
    exact ⟨i_weak r, fun _ => r⟩
  | .own i, κ, X, W, x, tg, b, h, q => by
    refine ⟨?_, fun e => by cases e⟩
    cases x with
    | Name x p =>
      simp only [chkI] at q
      simp only [evi]
      obtain ⟨r1, r2, r3, r4⟩ := h.slot q
      exact i_own r1 r2 r3 r4
    | _ => simp [chkI] at q
  | .ownE i, κ, X, W, x, tg, b, h, q => by
    refine ⟨?_, fun e => by cases e⟩
    obtain ⟨y, p', p, pos, ts, j, tp, rfl, rfl, q1, q2⟩ := chk_ownE q
    simp only [evi]
    obtain ⟨r1, r2, r3, r4⟩ := h.slot q2
    exact i_ownE (h.gl q1) (by rw [b.mg]; exact HT.enumerate) r1 r2 r3 r4
end
end
end RL

namespace RL
open PySem L2

/-- *= of ints -/
def bIMul : D → D → Option D
  | .int a, .int b => if sm a && sm b then some (.int (a * b)) else none
  | _, _ => none
mutual
inductive S where
  | ret (e : E) | exp (e : E) | asg (t : Tg) (e : E) | own (i : Nat) (l : L) | iff (t : E) (a b : Ss) | for' (t : Tg) (it : I) (b : Ss) | whl (μ : Rho → Nat) (t : E) (b : Ss) | rais (k : Nat)
  | imul (i : Nat) (e : E) | app (i : Nat) (e : E) | ext (i : Nat) (e : E) | set (i : Nat) (j e : E) | set2 (i : Nat) (a b e : E) | frz (i : Nat) (s : S) | tryK (b : Ss) (i j t : Nat) | pass | nev
inductive Ss where
  | nil | cons (s : S) (ss : Ss)
end
/-- try, except .. as e: caught = e -/
def sTry (ks : List Nat) (i j : Nat) (m : MS) : MS := fun r w => match m r w with
  | .exc k r' w' => if ks.contains k then .next (((r'.set i .emp).set j (.dat (.exc k))).set i .emp) w' else .bad
  | x => x
mutual
def es (T : Tab) : S → MS
  | .ret e => sRet (ev T e)
  | .exp e => sExp (ev T e)
  | .asg t e => sAsg t (ev T e)
  | .own i l => sOwn i (evl T l)
  | .iff t a b => sIf (ev T t) (ess T a) (ess T b)
  | .for' t it b => sFor (evi T it) t (ess T b)
  | .whl μ t b => sWh μ (ev T t) (ess T b)
  | .rais k => sRaise k
  | .imul i e => sAug bIMul i (ev T e)
  | .app i e => sMut i fApp (ev T e)
  | .ext i e => sMut i fExt (ev T e)
  | .set i j e => sSet i (ev T j) (ev T e)
  | .set2 i a b e => sSet2 i (ev T a) (ev T b) (ev T e)
  | .frz i s => sFrz i (es T s)
  | .tryK b i j t => sTry (T.trs.getD t (Str.empty, [])).2 i j (ess T b)
  | .pass => sNil
  | .nev => fun _ _ => .bad
def ess (T : Tab) : Ss → MS
  | .nil => sNil
  | .cons s ss => sSeq (es T s) (ess T ss)
end
def isLC : Expr → Bool
  | .ListComp .. => true
  | .SetComp .. => true
  | .DictComp .. => true
  | _ => false
def isTupE : Expr → Bool
  | .Tuple .. => true
  | _ => false
def isLocal (sc : Scope) (x : Str) : Bool := match sc.names.lookup x with
  | some .local => true
  | _ => false
/-- name = [..] on one line: the name is stored within the comprehension's frame -/
def lcSw (sc : Scope) (y : Str) (py : Pos) : Expr → Bool
  | .ListComp _ _ scope pos => isLocal sc y && (py.line == pos.line) && !(scope.names.any fun (n, k) => n == y && (k == .local || k == .cell))
  | _ => false
def lcNo (sc : Scope) (y : Str) (py : Pos) : Expr → Bool
  | .ListComp _ _ scope pos => !isLocal sc y
  | x => !isLC x
/-- a, b = x, y: stored from the right -/
def sw2 (sc : Scope) : List Expr → List Expr → Bool
  | [.Name a pa, .Name b pb], [x, y] => isLocal sc a && isLocal sc b && (pb.line == pa.line) && !(a == b) && !(foldedForSure 8 x && foldedForSure 8 y) && !(constantsAlone 8 x && constantsAlone 8 y)
  | _, _ => false
def no2 (sc : Scope) : List Expr → List Expr → Bool
  | [.Name a pa, .Name b pb], [x, y] => !isLocal sc a || !isLocal sc b
  | _, _ => false
def twoT : Tg → E → Option (Nat × Nat × E × E)
  | .tp (.cons (.nm i) (.cons (.nm j) .nil)), .tup (.cons a (.cons b .nil)) => some (i, j, a, b)
  | _, _ => none
mutual
def chkS (T : Tab) (κ : Ck) : S → Stmt → Bool
  | .ret e, .Return (some x) _ => chkE T κ e x
  | .exp e, .Expr x _ => chkE T κ e x && !isLC x
  | .asg (.nm i) e, .Assign [.Name y py] x _ => storB κ i y && chkE T κ e x && (lcSw κ.sc y py x || lcNo κ.sc y py x)
  | .asg (.tp ts) e, .Assign [.Tuple ys j p] x _ => chkT κ (.tp ts) (.Tuple ys j p) && chkE T κ e x && !isLC x && (match x with
    | .Tuple xs _ _ => no2 κ.sc ys xs || (sw2 κ.sc ys xs && (twoT (.tp ts) e).isSome)
    | _ => true)
  | .own i l, .Assign [.Name y py] x _ => storB κ i y && chkL T κ l x && (lcSw κ.sc y py x || lcNo κ.sc y py x)
  | .iff t a b, .If x xs ys _ => chkE T κ t x && !isIfE x && chkSs T κ a xs && chkSs T κ b ys
  | .for' t it b, .For tg x xs [] _ => chkT κ t tg && chkI T κ it x tg && !isSet x && !isOwnI it && chkSs T κ b xs
  | .whl _ t b, .While x xs [] _ => chkE T κ t x && !isIfE x && chkSs T κ b xs
  | .rais k, .Raise (some (.Call (.Name x _) [.Constant (.str _) _ _] [] _)) none _ => decide (T.exs[k]? = some x) && glB κ.sc x && plainN x
  | .imul i e, .AugAssign (.Name y _) .Mult x _ => storB κ i y && chkE T κ e x
  | .ext i e, .AugAssign (.Name y _) .Add x _ => storB κ i y && chkE T κ e x
  | .app i e, .Expr (.Call (.Attribute (.Name y _) nm apos) [x] [] cpos) _ => decide (nm = "append") && slotB κ i y && chkE T κ e x && (apos.endLine == cpos.line)
  | .set i j e, .Assign [.Subscript (.Name y _) z _] x _ => slotB κ i y && chkE T κ j z && chkE T κ e x && !isSlice z && !isLC x
  | .set2 i a b e, .Assign [.Tuple [.Subscript (.Name y _) z _, .Subscript (.Name y' _) z' _] _ _] x _ => slotB κ i y && decide (y' = y) && chkE T κ a z && chkE T κ b z' && chkE T κ e x && !isSlice z && !isSlice z' && !isLC x
  | .frz _ s, st => chkS T κ s st
  | .tryK b i j t, .Try xs [.ExceptHandler (some (.Name x _)) (some n) [.Assign [.Name y py] (.Name z _) _] _] [] [] _ => (match T.trs[t]? with | some p => decide (p.1 = x) | none => false) && glB κ.sc x && plainN x && storB κ i n && isLocal κ.sc n && slotB κ i z && storB κ j y && isLocal κ.sc y && chkSs T κ b xs
  | .pass, .Pass _ => true
  | .nev, _ => true
  | _, _ => false
def chkSs (T : Tab) (κ : Ck) : Ss → List Stmt → Bool
  | .nil, [] => true
  | .cons s ss, st :: sts => chkS T κ s st && chkSs T κ ss sts
  | _, _ => false
end
theorem isLocal_ok {sc : Scope} {x : Str} (h : isLocal sc x = true) : sc.names.lookup x = some .local := by
  unfold isLocal at h
  split at h
  · assumption
  · cases h
theorem isLocal_no {sc : Scope} {x : Str} (h : isLocal sc x = false) : sc.names.lookup x ≠ some .local := by
  intro e
  unfold isLocal at h
  rw [e] at h
  cases h
theorem lc_false {x : Expr} {tg : Option Expr} {l : Nat} {env : PySem.Env} (h : isLC x = false) : swapsWith x tg l env = pure false := by
  cases x <;> first | rfl | cases h
theorem lcNo_ok {x : Expr} {y : Str} {py : Pos} {l : Nat} {env : PySem.Env} (h : lcNo env.scope y py x = true) : swapsWith x (some (.Name y py)) l env = pure false := by
  cases x with
  | ListComp a b scope pos =>
    simp only [lcNo, Bool.not_eq_true'] at h
    have e : (env.kindOf y == some NameKind.local) = false := by
      have := isLocal_no h
      exact beq_eq_false_iff_ne.mpr this
    unfold swapsWith
    simp only [e, Bool.and_false, Bool.false_and]
  | _ => first | rfl | (simp [lcNo, isLC] at h)
theorem stores_none {x tg : Expr} {env : PySem.Env} (h : isTupE x = false) : swappedStores [tg] x env = pure none := by
  cases x <;> first | (cases tg <;> rfl) | cases h
theorem stores_sub {x o i : Expr} {p : Pos} {env : PySem.Env} : swappedStores [.Subscript o i p] x env = pure none := by cases x <;> rfl
theorem sw2_none {a b : Str} {pa pb p p' : Pos} {j j' : Nat} {x y : Expr} {env : PySem.Env} (h : no2 env.scope [.Name a pa, .Name b pb] [x, y] = true) :
    swappedStores [.Tuple [.Name a pa, .Name b pb] j p] (.Tuple [x, y] j' p') env = pure none := by
  have h : (env.kindOf a == some NameKind.local) = false ∨ (env.kindOf b == some NameKind.local) = false := by
    simp only [no2, Bool.or_eq_true, Bool.not_eq_true'] at h
    rcases h with h | h
    · exact .inl (beq_eq_false_iff_ne.mpr (isLocal_no h))
    · exact .inr (beq_eq_false_iff_ne.mpr (isLocal_no h))
  unfold swappedStores
  simp only [List.length_cons, List.length_nil, List.any_cons, List.any_nil, List.filterMap_cons, List.filterMap_nil]
  rcases h with h | h
  · simp only [h]
    simp only [Bool.false_and, Bool.false_eq_true, if_false]
    cases hb : (env.kindOf b == some NameKind.local) <;> cases hl : (pb.line == (Option.map (fun x => x.pos.line) [Expr.Name a pa, Expr.Name b pb].head?).getD 0) <;> simp
  · simp only [h]
    simp only [Bool.false_and, Bool.false_eq_true, if_false]
    cases hb : (env.kindOf a == some NameKind.local) <;> cases hl : (pa.line == (Option.map (fun x => x.pos.line) [Expr.Name a pa, Expr.Name b pb].head?).getD 0) <;> simp
theorem stores_sub2 {x o i o' i' : Expr} {p p' tp : Pos} {kt : Nat} {env : PySem.Env} : swappedStores [.Tuple [.Subscript o i p, .Subscript o' i' p'] kt tp] x env = pure none := by
  cases x with
  | Tuple vs j q =>
    unfold swappedStores
    simp only [List.length_cons, List.length_nil, List.filterMap_cons, List.filterMap_nil]
    split
    · rfl
    · split
      · rfl
      · rfl
  | _ => rfl
theorem sw2_some {a b : Str} {pa pb p p' : Pos} {j j' : Nat} {x y : Expr} {env : PySem.Env} (hk : env.scope.kind = .function) (sx : isStar x = false) (sy : isStar y = false) (h : sw2 env.scope [.Name a pa, .Name b pb] [x, y] = true) :
    swappedStores [.Tuple [.Name a pa, .Name b pb] j p] (.Tuple [x, y] j' p') env = pure (some [a, b]) := by
  simp only [sw2, Bool.and_eq_true, Bool.not_eq_true'] at h
  obtain ⟨⟨⟨⟨⟨g1, g2⟩, hl⟩, hab⟩, hf⟩, hc⟩ := h
  have h1 : (env.kindOf a == some NameKind.local) = true := beq_iff_eq.mpr (isLocal_ok g1)
  have h2 : (env.kindOf b == some NameKind.local) = true := beq_iff_eq.mpr (isLocal_ok g2)
  have hb : env.blockKind = .function := by unfold Env.blockKind; rw [hk]; rfl
  unfold swappedStores
  have hab' : (b == a) = false := by rw [BEq.comm]; exact hab
  simp only [List.length_cons, List.length_nil, List.any_cons, List.any_nil, List.filterMap_cons, List.filterMap_nil, hb, h1, h2, List.head?_cons, Option.map_some, Option.getD_some, Expr.pos, hl, beq_self_eq_true, Bool.and_self, Bool.and_true, if_true, List.all_cons, List.all_nil]
  rw [if_neg (by decide)]
  refine (if_neg (fun q => ?_)).trans ?_
  · have q : (isStar x || (isStar y || false)) = true := q
    rw [sx, sy] at q
    cases q
  simp only [List.length_cons, List.length_nil, List.eraseDups_cons, List.filter_cons, hab', hab, Bool.not_false, if_true, List.filter_nil, List.eraseDups_nil, hf, hc, Bool.and_true, Bool.false_eq_true, if_false]
  rw [if_neg (by decide)]
section
variable {c : Cn} {P : Program} {w : World} {K : PySem.W.Frag} {mg : Str → Option Value} {base : Heap} {k : Nat} {T : Tab}
theorem iop_mulW {X : Cx} : OpR X (inplaceOp .Mult) (rI CMulW fun i j => .int (i * j)) := opI fun _ _ _ _ _ _ _ hc q => PyProof.Rows.imul_int q hc.ok
theorem opS_imul : OpS c bIMul (rI CMulW fun i j => .int (i * j)) := by
  intro g H w x y dx dy d Q k rx ry e q
  unfold bIMul at e
  split at e
  · split at e <;> cases e
    rename_i hs
    rw [Bool.and_eq_true] at hs
    cases rx; cases ry
    exact ⟨_, _, rfl, rfl, sm_mul hs.1 hs.2, q.at k (.int _)⟩
  · cases e
theorem ps_name {X : Cx} {i : Nat} {y : Str} {py : Pos} {x : Expr} {t : TE} {pos : Pos} (hN : X.N.Nodup) (hi : X.N[i]? = some y) (hx : Loc X.env.scope y) (hf : X.fn y = true ∨ X.env.scope.names.lookup y = some .local) (he : PE X x t) (h : lcNo X.env.scope y py x = true) :
    PS X (.Assign [.Name y py] x pos) (tAsg t (gName i)) := ps_set hN hi hx he (lcNo_ok h) hf
/-- name = [..] either way -/
theorem ps_lc {X : Cx} {W : WX} {i : Nat} {y : Str} {py : Pos} {x : Expr} {m : MA} {pos : Pos} (hc : X.calm = true) (hN : X.N.Nodup) (hi : X.N[i]? = some y) (hx : Loc X.env.scope y) (hf : X.fn y = true ∨ X.env.scope.names.lookup y = some .local) (hk : X.env.scope.kind = .function)
    (he : LOkP c X W x m) (hg : ∀ a gs s p, x = .ListComp a gs s p → ∃ tg iter ifs, gs = [⟨tg, iter, ifs, 0⟩]) (h : (lcSw X.env.scope y py x || lcNo X.env.scope y py x) = true) : PS X (.Assign [.Name y py] x pos) (tAsg (rdL c W m) (gName i)) := by
  rw [Bool.or_eq_true] at h
  rcases h with h | h
  · cases x with
    | ListComp a gs s p =>
      obtain ⟨tg, iter, ifs, rfl⟩ := hg a gs s p rfl
      simp only [lcSw, Bool.and_eq_true, Bool.not_eq_true'] at h
      obtain ⟨⟨h1, h2⟩, h3⟩ := h
      obtain ⟨own, wi, g, tt, te, r1, r2, r3, r4, r5, r6, r7⟩ := (he.lc a tg iter ifs s p rfl).ex
      exact (ps_setLc hc hN hi (isLocal_ok h1) (sw_true hk (isLocal_ok h1) h2 h3) r1 r2 r3 r4 r5 r6).mono fun Dn σ H z => r7 σ H _ z
    | _ => simp [lcSw] at h
  · exact ps_name hN hi hx hf he.pe h
theorem chkL_gens {κ : Ck} {l : L} {x : Expr} (q : chkL T κ l x = true) : ∀ a gs s p, x = .ListComp a gs s p → ∃ tg iter ifs, gs = [⟨tg, iter, ifs, 0⟩] := by
  rintro a gs s p rfl
  cases l with
  | disp es => simp [chkL] at q
  | of es => simp [chkL] at q
  | lrg a => simp [chkL] at q
  | comp elt t vs it cond =>
    obtain ⟨y, tg, iter, ifs, scope, pos, e, _⟩ := chk_comp q
    cases e
    exact ⟨_, _, _, rfl⟩
theorem chkE_lc {κ : Ck} {e : E} {x : Expr} (q : chkE T κ e x = true) (h : isLC x = true) : ∃ l, e = .lm l ∧ chkL T κ l x = true := by
  cases x <;> first | (simp [isLC] at h; done) | skip
  all_goals
    cases e <;> first | (simp [chkE] at q; done) | exact ⟨_, rfl, by simpa [chkE] using q⟩
/-- a value of any kind is stored at a name -/
theorem ps_any (HT : TOk c P w K mg base k T) {κ : Ck} {X : Cx} {W : WX} {i : Nat} {y : Str} {py : Pos} {x : Expr} {e : E} {pos : Pos} (b : BOk P w K mg base k X) (h : XOk κ X W) (hk : X.env.scope.kind = .function) (hs : storB κ i y = true) (q : chkE T κ e x = true)
    (hl : (lcSw κ.sc y py x || lcNo κ.sc y py x) = true) : PS X (.Assign [.Name y py] x pos) (tAsg (rd c W (ev T e)) (gName i)) := by
  obtain ⟨s1, s2, s3⟩ := h.stor hs
  rw [← h.sc] at hl
  cases hx : isLC x with
  | true =>
    obtain ⟨l, rfl, ql⟩ := chkE_lc q hx
    have r := sndL HT l κ X W x b h ql
    refine (ps_lc (pos := pos) b.calm h.nodup s1 s2 s3 hk r (chkL_gens ql) hl).mono fun Dn σ H z => ?_
    simp only [ev] at z
    exact rdL_of z
  | false =>
    have h2 : lcNo X.env.scope y py x = true := by
      rw [Bool.or_eq_true] at hl
      rcases hl with z | z
      · cases x <;> first | (simp [lcSw] at z; done) | (simp [isLC] at hx)
      · exact z
    exact ps_name h.nodup s1 s2 s3 (sndE HT e κ X W x b h q).pe h2
theorem par_rs {W : WX} {i j : Nat} {a b : E} {Dn : Ends} {σ : St} {H : Hp} (hij : i ≠ j) (h : rs c W (es T (.asg (.tp (.cons (.nm i) (.cons (.nm j) .nil))) (.tup (.cons a (.cons b .nil))))) Dn σ H) : tPar i j (rdA c W (evs T (.cons a (.cons b .nil)))) Dn σ H := by
  obtain ⟨g0, B, g, r, w, E, kk, x0, p⟩ := h
  have e : es T (.asg (.tp (.cons (.nm i) (.cons (.nm j) .nil))) (.tup (.cons a (.cons b .nil)))) r w = (evs T (.cons a (.cons b .nil)) r w).toS r fun ds w => match ds with
      | [x, y] => .next ((r.set i (.dat x)).set j (.dat y)) w
      | _ => .bad := by
    simp only [es, sAsg, ev, mSeq]
    cases hm : evs T (.cons a (.cons b .nil)) r w with
    | bad => rfl
    | exc l w' => rfl
    | ok ds w' =>
      have hl := evs_len T _ r w w' ds hm
      match ds, hl with
      | [x, y], _ => rfl
  rw [e] at p
  refine ⟨B, g, r, w, E, kk, bndS p E x0 fun g1 H1 vs ds w1 e1 x1 k1 r1 E1 y1 p1 => ?_⟩
  have hl := evs_len T _ r w w1 ds e1
  match ds, hl, r1, p1 with
  | [x, y], _, .cons q1 (.cons q2 .nil), p1 => exact ⟨_, _, rfl, p1 g1 H1 _ (Gle.refl _) y1 ((E1.setD i q1).setD j q2) k1⟩
end
end RL

namespace RL
open PySem L2
section
variable {c : Cn} {P : Program} {w : World} {K : PySem.W.Frag} {mg : Str → Option Value} {base : Heap} {k : Nat} {T : Tab}
theorem chk_asgN {κ : Ck} {i : Nat} {e : E} {st : Stmt} (q : chkS T κ (.asg (.nm i) e) st = true) : ∃ y py x pos, st = .Assign [.Name y py] x pos ∧ storB κ i y = true ∧ chkE T κ e x = true ∧ (lcSw κ.sc y py x || lcNo κ.sc y py x) = true := by
  unfold chkS at q
  split at q <;> first | contradiction | skip
  all_goals first
    | (have e := ‹S.asg (.nm i) e = S.asg (.nm _) _›
       cases e
       simp only [Bool.and_eq_true] at q
       exact ⟨_, _, _, _, rfl, q.1.1, q.1.2, q.2⟩)
    | (have e := ‹S.asg (.nm i) e = S.asg (.tp _) _›
       cases e)
    | cases q
theorem chk_own {κ : Ck} {i : Nat} {l : L} {st : Stmt} (q : chkS T κ (.own i l) st = true) : ∃ y py x pos, st = .Assign [.Name y py] x pos ∧ storB κ i y = true ∧ chkL T κ l x = true ∧ (lcSw κ.sc y py x || lcNo κ.sc y py x) = true := by
  unfold chkS at q
  split at q <;> first | contradiction | skip
  all_goals first
    | (have e := ‹S.own i l = S.own _ _›
       cases e
       simp only [Bool.and_eq_true] at q
       exact ⟨_, _, _, _, rfl, q.1.1, q.1.2, q.2⟩)
    | cases q
theorem chk_asgT {κ : Ck} {ts : Tgs} {e : E} {st : Stmt} (q : chkS T κ (.asg (.tp ts) e) st = true) : ∃ ys j p x pos, st = .Assign [.Tuple ys j p] x pos ∧ chkT κ (.tp ts) (.Tuple ys j p) = true ∧ chkE T κ e x = true ∧ isLC x = false ∧ (match x with
    | .Tuple xs _ _ => no2 κ.sc ys xs || (sw2 κ.sc ys xs && (twoT (.tp ts) e).isSome)
    | _ => true) = true := by
  unfold chkS at q
  split at q <;> first | contradiction | skip
  all_goals first
    | (have e := ‹S.asg (.tp ts) e = S.asg (.tp _) _›
       cases e
       simp only [Bool.and_eq_true, Bool.not_eq_true'] at q
       exact ⟨_, _, _, _, _, rfl, q.1.1.1, q.1.1.2, q.1.2, q.2⟩)
    | (have e := ‹S.asg (.tp ts) e = S.asg (.nm _) _›
       cases e)
    | cases q
theorem chk_rais {κ : Ck} {j : Nat} {st : Stmt} (q : chkS T κ (.rais j) st = true) : ∃ x p m l p2 pos pos', st = .Raise (some (.Call (.Name x p) [.Constant (.str m) l p2] [] pos)) none pos' ∧ T.exs[j]? = some x ∧ glB κ.sc x = true ∧ plainN x = true := by
  unfold chkS at q
  split at q <;> first | contradiction | skip
  all_goals first
    | (have e := ‹S.rais j = S.rais _›
       cases e
       simp only [Bool.and_eq_true, decide_eq_true_eq] at q
       exact ⟨_, _, _, _, _, _, _, rfl, q.1.1, q.1.2, q.2⟩)
    | cases q
theorem chk_app {κ : Ck} {i : Nat} {e : E} {st : Stmt} (q : chkS T κ (.app i e) st = true) : ∃ y p apos x cpos pos, st = .Expr (.Call (.Attribute (.Name y p) "append" apos) [x] [] cpos) pos ∧ slotB κ i y = true ∧ chkE T κ e x = true ∧ (apos.endLine == cpos.line) = true := by
  unfold chkS at q
  split at q <;> first | contradiction | skip
  all_goals first
    | (have e := ‹S.app i e = S.app _ _›
       cases e
       simp only [Bool.and_eq_true, decide_eq_true_eq] at q
       obtain ⟨⟨⟨rfl, q2⟩, q3⟩, q4⟩ := q
       exact ⟨_, _, _, _, _, _, rfl, q2, q3, q4⟩)
    | cases q
theorem chk_set {κ : Ck} {i : Nat} {j e : E} {st : Stmt} (q : chkS T κ (.set i j e) st = true) : ∃ y p z sp x pos, st = .Assign [.Subscript (.Name y p) z sp] x pos ∧ slotB κ i y = true ∧ chkE T κ j z = true ∧ chkE T κ e x = true ∧ isSlice z = false ∧ isLC x = false := by
  unfold chkS at q
  split at q <;> first | contradiction | skip
  all_goals first
    | (have e := ‹S.set i j e = S.set _ _ _›
       cases e
       simp only [Bool.and_eq_true, Bool.not_eq_true'] at q
       obtain ⟨⟨⟨⟨q1, q2⟩, q3⟩, q4⟩, q5⟩ := q
       exact ⟨_, _, _, _, _, _, rfl, q1, q2, q3, q4, q5⟩)
    | cases q
theorem chk_two {t : Tg} {e : E} {z : Nat × Nat × E × E} (h : twoT t e = some z) : t = .tp (.cons (.nm z.1) (.cons (.nm z.2.1) .nil)) ∧ e = .tup (.cons z.2.2.1 (.cons z.2.2.2 .nil)) := by
  unfold twoT at h
  split at h
  · cases h; exact ⟨rfl, rfl⟩
  · cases h
theorem sole_false {x tg : Expr} {l : Nat} {env : PySem.Env} (h : isLC x = false) : swapsWithSole [tg] x l env = pure false := by
  rw [swapsWithSole]
  exact lc_false h
/-- what a body is run in -/
theorem chk_set2 {κ : Ck} {i : Nat} {a b e : E} {st : Stmt} (q : chkS T κ (.set2 i a b e) st = true) : ∃ y p z sp p' z' sp' kt tp x pos, st = .Assign [.Tuple [.Subscript (.Name y p) z sp, .Subscript (.Name y p') z' sp'] kt tp] x pos ∧ slotB κ i y = true ∧ chkE T κ a z = true ∧ chkE T κ b z' = true ∧ chkE T κ e x = true ∧ isSlice z = false ∧ isSlice z' = false ∧ isLC x = false := by
  unfold chkS at q
  split at q <;> first | contradiction | skip
  all_goals first
    | (have e := ‹S.set2 i a b e = S.set2 _ _ _ _›
       cases e
       simp only [Bool.and_eq_true, decide_eq_true_eq, Bool.not_eq_true'] at q
       obtain ⟨⟨⟨⟨⟨⟨⟨q1, q2⟩, q3⟩, q4⟩, q5⟩, q6⟩, q7⟩, q8⟩ := q
       subst q2
       exact ⟨_, _, _, _, _, _, _, _, _, _, _, rfl, q1, q3, q4, q5, q6, q7, q8⟩)
    | cases q
structure RunOk (X : Cx) : Prop where
  kind : X.env.scope.kind = .function
  pass : PassesOwn (model X.prog X.w) X.A X.env X.xe
  stk : X.stack = X.env :: X.outer
  frm : X.env.frame = some X.env.locals
theorem chk_try {κ : Ck} {bb : Ss} {i j l : Nat} {st : Stmt} (q : chkS T κ (.tryK bb i j l) st = true) : ∃ xs x p n y py z p2 p3 p4 pos pp, st = .Try xs [.ExceptHandler (some (.Name x p)) (some n) [.Assign [.Name y py] (.Name z p2) p3] p4] [] [] pos ∧ T.trs[l]? = some pp ∧ pp.1 = x ∧ glB κ.sc x = true ∧ plainN x = true ∧ storB κ i n = true ∧ isLocal κ.sc n = true ∧ slotB κ i z = true ∧ storB κ j y = true ∧ isLocal κ.sc y = true ∧ chkSs T κ bb xs = true := by
  unfold chkS at q
  split at q <;> first | contradiction | skip
  all_goals first
    | (have e := ‹S.tryK bb i j l = S.tryK _ _ _ _›
       cases e
       simp only [Bool.and_eq_true] at q
       obtain ⟨⟨⟨⟨⟨⟨⟨⟨q1, q2⟩, q3⟩, q4⟩, q5⟩, q6⟩, q7⟩, q8⟩, q9⟩ := q
       split at q1
       · rename_i pp hp
         exact ⟨_, _, _, _, _, _, _, _, _, _, _, pp, rfl, hp, of_decide_eq_true q1, q2, q3, q4, q5, q6, q7, q8, q9⟩
       · cases q1)
    | cases q
theorem try_rs {X : Cx} {W : WX} {Dn : Ends} {σ : St} {H : Hp} {ks : List Nat} {i j : Nat} {m : MS} {cv : Value} {ts : Addr → TS} (hk : ∀ e ∈ ks, PySem.W.exmOne X.K (.ref (c.ec e)) cv = some true)
    (hts : ∀ (a : Addr) (D1 : Ends) (σ1 : St) (H1 : Hp), i < σ1.length → D1.nx ((σ1.set i (some (.ref a))).set j (some (.ref a))) H1 → ts a D1 (σ1.set i (some (.ref a))) H1) {n : Nat} (hi : i < n) (h : rs c W (sTry ks i j m) Dn σ H) : rs c (wKeep X.K n cv i ts Dn) m Dn σ H := by
  obtain ⟨g0, B, g, r, w, E, k, x0, p⟩ := h
  refine ⟨g0, B, g, r, w, E, k, x0, ?_⟩
  unfold sTry at p
  revert p
  cases m r w with
  | next r' w' => exact fun p => p
  | ret d w' => exact fun p => p
  | bad => exact fun p => p
  | exc e r' w' =>
    intro p g' H' σ' l x1 E1 k1
    simp only at p
    split at p
    · rename_i he
      refine ⟨hk e (by simpa using he), fun a hl ha => hts a _ σ' H' ?_ ?_⟩
      · omega
      · have xl := Ext.laid (o := exT (.ref (c.ec e)) none a) k1 ha
        have rp : Rep c (g'.lay a (exT (.ref (c.ec e)) none a)) (.ref a) (.exc e) := .exc upd_same
        exact p _ _ _ (l.trans xl.toGle) (x1.trans xl) ((((E1.ext xl).drop i (some (.ref a))).setD j rp).drop i none) (k1.laid ha)
    · exact False.elim p
mutual
theorem sndS (HT : TOk c P w K mg base k T) {X : Cx} (b : BOk P w K mg base k X) (R : RunOk X) {κ : Ck} {W : WX} (h : XOk κ X W) : ∀ (s : S) (st : Stmt), chkS T κ s st = true → PS X st (rs c W (es T s))
  | .ret e, st, q => by
    cases st with
    | Return x pos =>
      cases x with
      | none => simp [chkS] at q
      | some x =>
        simp only [chkS] at q
        simp only [es]
        exact st_ret (sndE HT e κ X W x b h q).pe
    | _ => simp [chkS] at q
  | .exp e, st, q => by
    cases st with
    | Expr x pos =>
      simp only [chkS, Bool.and_eq_true, Bool.not_eq_true'] at q
      simp only [es]
      exact st_exp (sndE HT e κ X W x b h q.1).pe (lc_false q.2)
    | _ => simp [chkS] at q
  | .asg (.nm i) e, st, q => by
    obtain ⟨y, py, x, pos, rfl, q1, q2, q3⟩ := chk_asgN q
    simp only [es]
    exact st_asgN (ps_any HT b h R.kind q1 q2 q3)
  | .asg (.tp ts) e, st, q => by
    obtain ⟨ys, j, p, x, pos, rfl, q1, q2, q3, q4⟩ := chk_asgT q
    have gen : swappedStores [.Tuple ys j p] x X.env = pure none → PS X (.Assign [.Tuple ys j p] x pos) (rs c W (es T (.asg (.tp ts) e))) := fun hw => by
      simp only [es]
      exact st_asg (ps_asg (sndE HT e κ X W x b h q2).pe (sndT h b.calm (.tp ts) _ q1) (sole_false q3) hw rfl)
    cases hx : isTupE x with
    | false => exact gen (stores_none hx)
    | true =>
      cases x with
      | Tuple xs j' p' =>
        simp only [Bool.or_eq_true, Bool.and_eq_true] at q4
        rw [← h.sc] at q4
        rcases q4 with q4 | ⟨q4, q5⟩
        · have hp : ∃ a pa b' pb u v, ys = [.Name a pa, .Name b' pb] ∧ xs = [u, v] := by
            unfold no2 at q4
            split at q4
            · exact ⟨_, _, _, _, _, _, rfl, rfl⟩
            · cases q4
          obtain ⟨a, pa, b', pb, u, v, rfl, rfl⟩ := hp
          exact gen (sw2_none q4)
        · have hp : ∃ a pa b' pb u v, ys = [.Name a pa, .Name b' pb] ∧ xs = [u, v] := by
            unfold sw2 at q4
            split at q4
            · exact ⟨_, _, _, _, _, _, rfl, rfl⟩
            · cases q4
          obtain ⟨a, pa, b', pb, u, v, rfl, rfl⟩ := hp
          obtain ⟨z, hz⟩ := Option.isSome_iff_exists.mp q5
          obtain ⟨e1, e2⟩ := chk_two hz
          obtain ⟨i, l, ea, eb⟩ := z
          cases e1
          subst e2
          simp only [chkT, chkTs, Bool.and_eq_true] at q1
          obtain ⟨⟨_, q6⟩, ⟨_, q7⟩, _⟩ := q1
          have q2' : chkEs T κ (.cons ea (.cons eb .nil)) [u, v] = true := by simpa [chkE] using q2
          have ra := sndEs HT (.cons ea (.cons eb .nil)) κ X W [u, v] b h q2'
          have su : isStar u = false := ra.st u (by simp)
          have sv : isStar v = false := ra.st v (by simp)
          obtain ⟨s1, s2, s3⟩ := h.stor q6
          obtain ⟨s1', s2', s3'⟩ := h.stor q7
          have q8 := q4
          simp only [sw2, Bool.and_eq_true, Bool.not_eq_true'] at q8
          obtain ⟨⟨⟨⟨⟨g1, g2⟩, _⟩, hab⟩, _⟩, _⟩ := q8
          have hil : i ≠ l := fun z => by
            subst z
            rw [s1] at s1'
            cases s1'
            simp at hab
          exact (ps_par b.calm h.nodup s1 s1' hil (isLocal_ok g1) (isLocal_ok g2) ra.pa (sw2_some R.kind su sv q4) rfl).mono fun Dn σ H z => par_rs hil z
      | _ => simp [isTupE] at hx
  | .own i l, st, q => by
    obtain ⟨y, py, x, pos, rfl, q1, q2, q3⟩ := chk_own q
    obtain ⟨s1, s2, s3⟩ := h.stor q1
    simp only [es]
    exact st_own (ps_lc b.calm h.nodup s1 s2 s3 R.kind (sndL HT l κ X W x b h q2) (chkL_gens q2) (by rw [h.sc]; exact q3))
  | .iff t a d, st, q => by
    cases st with
    | If x xs ys pos =>
      simp only [chkS, Bool.and_eq_true, Bool.not_eq_true'] at q
      obtain ⟨⟨⟨q1, q2⟩, q3⟩, q4⟩ := q
      simp only [es]
      exact st_if ((sndE HT t κ X W x b h q1).pt q2) (sndSs HT b R h a xs q3) (sndSs HT b R h d ys q4)
    | _ => simp [chkS] at q
  | .for' t it d, st, q => by
    cases st with
    | For tg x xs ys pos =>
      cases ys with
      | cons _ _ => simp [chkS] at q
      | nil =>
        simp only [chkS, Bool.and_eq_true, Bool.not_eq_true'] at q
        obtain ⟨⟨⟨⟨q1, q2⟩, q3⟩, q4⟩, q5⟩ := q
        simp only [es]
        exact st_for R.pass b.calm ((sndI HT it κ X W x tg b h q2).pf q4) (sndT h b.calm t tg q1) (sndSs HT b R h d xs q5) (set_fold q3)
    | _ => simp [chkS] at q
  | .whl μ t d, st, q => by
    cases st with
    | While x xs ys pos =>
      cases ys with
      | cons _ _ => simp [chkS] at q
      | nil =>
        simp only [chkS, Bool.and_eq_true, Bool.not_eq_true'] at q
        obtain ⟨⟨q1, q2⟩, q3⟩ := q
        simp only [es]
        exact st_wh R.pass ((sndE HT t κ X W x b h q1).pt q2) (sndSs HT b R h d xs q3)
    | _ => simp [chkS] at q
  | .rais j, st, q => by
    obtain ⟨x, p, m, l, p2, pos, pos', rfl, q1, q2, q3⟩ := chk_rais q
    simp only [es]
    exact st_raise h.tk b.calm (HT.exs X b j x q1 m l p p2 pos (h.gl q2) (plainN_ok q3).1)
  | .imul i e, st, q => by
    cases st with
    | AugAssign tg op x pos =>
      cases tg with
      | Name y p =>
        cases op with
        | Mult =>
          simp only [chkS, Bool.and_eq_true] at q
          obtain ⟨s1, s2, s3⟩ := h.stor q.1
          simp only [es]
          exact st_aug h.nodup s1 s2 (sndE HT e κ X W x b h q.2).pe iop_mulW opS_imul s3
        | _ => simp [chkS] at q
      | _ => simp [chkS] at q
    | _ => simp [chkS] at q
  | .ext i e, st, q => by
    cases st with
    | AugAssign tg op x pos =>
      cases tg with
      | Name y p =>
        cases op with
        | Add =>
          simp only [chkS, Bool.and_eq_true] at q
          obtain ⟨s1, s2, s3⟩ := h.stor q.1
          simp only [es]
          exact st_ext h.nodup s1 s2 (sndE HT e κ X W x b h q.2).pe s3
        | _ => simp [chkS] at q
      | _ => simp [chkS] at q
    | _ => simp [chkS] at q
  | .app i e, st, q => by
    obtain ⟨y, p, apos, x, cpos, pos, rfl, q1, q2, q3⟩ := chk_app q
    obtain ⟨s1, s2, s3, s4⟩ := h.slot q1
    simp only [es]
    exact st_app s1 s2 s3 s4 (sndE HT e κ X W x b h q2).pe q3 (star_cons (chk_not_star q2))
  | .set i j e, st, q => by
    obtain ⟨y, p, z, sp, x, pos, rfl, q1, q2, q3, q4, q5⟩ := chk_set q
    obtain ⟨s1, s2, s3, s4⟩ := h.slot q1
    simp only [es]
    refine st_set s1 s2 s3 s4 (sndE HT j κ X W z b h q2).pe (sndE HT e κ X W x b h q3).pe (fun v => ?_) (sole_false q5) stores_sub
    cases z <;> first | rfl | cases q4
  | .set2 i a d e, st, q => by
    obtain ⟨y, p, z, sp, p', z', sp', kt, tp, x, pos, rfl, q1, q2, q3, q4, q5, q6, q7⟩ := chk_set2 q
    obtain ⟨s1, s2, s3, s4⟩ := h.slot q1
    simp only [es]
    refine st_set2 b.calm s1 s2 s3 s4 (sndE HT a κ X W z b h q2).pe (sndE HT d κ X W z' b h q3).pe (sndE HT e κ X W x b h q4).pe (fun v => ?_) (fun v => ?_) (sole_false q7) stores_sub2
    · cases z <;> first | rfl | cases q5
    · cases z' <;> first | rfl | cases q6
  | .frz i s, st, q => by
    have q : chkS T κ s st = true := by simpa [chkS] using q
    simp only [es]
    exact st_frz (sndS HT b R h s st q)
  | .tryK bb i j l, st, q => by
    obtain ⟨xs, x, p, n, y, py, z, p2, p3, p4, pos, pp, rfl, q1, q2, q3, q4, q5, q6, q7, q8, q9, q10⟩ := chk_try q
    obtain ⟨cv, h1, h2⟩ := HT.trs l pp q1
    obtain ⟨s1, s2, s3⟩ := h.stor q5
    obtain ⟨u1, u2, u3⟩ := h.stor q8
    obtain ⟨v1, v2, v3, v4⟩ := h.slot q7
    have e : T.trs.getD l (Str.empty, []) = pp := by simp [q1]
    simp only [es]
    rw [e]
    have nl : X.env.kindOf n = some .local := by
      have := isLocal_ok q6
      rw [← h.sc] at this
      exact this
    refine (ps_try_keep (cv := cv) (i := i) (tb := fun W' => rs c W' (ess T bb)) R.stk R.frm h.nodup s1 nl ⟨h.gl q3, (plainN_ok q4).1, .inl (by rw [b.mg, ← q2]; exact h1)⟩ (fun W' pn xe tk ps => ?_) (fun a pn => pss_one (ps_set (X := X.suite a pn) (i := j) h.nodup u1 u2 (pe_var (X := X.suite a pn) v1 v2 v3 v4) rfl u3))).mono fun Dn σ H z => ?_
    · exact sndSs HT (X := X.tr pn xe) ⟨b.prog, b.w, b.K, b.mg, b.base, b.calm, b.room⟩ ⟨R.kind, ps, R.stk, R.frm⟩ (κ := κ) ⟨h.N, h.nd, h.sc, h.fn, tk⟩ bb xs q10
    · refine try_rs (X := X) (by rw [b.K]; exact h2) (fun a D1 σ1 H1 hl z => ?_) ?_ z
      · exact ⟨.ref a, by rw [List.getElem?_set_self hl], z⟩
      · exact (List.getElem?_eq_some_iff.1 s1).1
  | .pass, st, q => by
    cases st with
    | Pass pos =>
      simp only [es]
      exact ps_pass.mono fun Dn σ H z => by
        obtain ⟨g0, B, g, r, w, E, kk, x0, p⟩ := z
        exact p g H σ (Gle.refl _) x0 E kk
    | _ => simp [chkS] at q
  | .nev, st, q => by
    simp only [es]
    exact ps_never.mono fun Dn σ H z => by
      obtain ⟨g0, B, g, r, w, E, kk, x0, p⟩ := z
      exact p
theorem sndSs (HT : TOk c P w K mg base k T) {X : Cx} (b : BOk P w K mg base k X) (R : RunOk X) {κ : Ck} {W : WX} (h : XOk κ X W) : ∀ (ss : Ss) (sts : List Stmt), chkSs T κ ss sts = true → PSs X sts (rs c W (ess T ss))
  | .nil, sts, q => by
    cases sts with
    | nil => simp only [ess]; exact ss_nil
    | cons x xs => simp [chkSs] at q
  | .cons s ss, sts, q => by
    cases sts with
    | nil => simp [chkSs] at q
    | cons x xs =>
      simp only [chkSs, Bool.and_eq_true] at q
      simp only [ess]
      exact ss_cons (sndS HT b R h s x q.1) (sndSs HT b R h ss xs q.2)
end
/-- a def of the text means its data -/
theorem def_ok (HT : TOk c P w K mg base k T) {x qual : Str} {st : Stmt} {f : Addr} {fd : FuncData} {N ps : List Str} {ss : Ss} (F : Fun K x qual st f fd) (SC : FnScope N ps (defScope st)) (q : chkSs T ⟨N, defScope st, fun _ => true⟩ ss (defBody st) = true) :
    FnOk P w K mg base (L2.CX P w) (k + 1) f fd ps (spOf c ps.length (mFun N.length (ess T ss))) :=
  fun_ok F SC fun X W e1 e2 e3 e4 e5 e6 e7 e8 e9 tk pass room e10 e11 =>
    sndSs HT (X := X) ⟨e1, e2, e3, e4, e5, e8, room⟩ ⟨by rw [e7]; exact SC.kind, pass, e10, e11⟩ (κ := ⟨N, defScope st, fun _ => true⟩) ⟨e6, SC.nd, e7, funext e9, tk⟩ ss (defBody st) q
end
end RL

namespace RL
open PySem L2
/-! ### built-ins -/
def asInts : List D → Option (List Int)
  | [] => some []
  | .int i :: xs => (asInts xs).map (i :: ·)
  | _ => none
def asBls : List D → Option (List Bool)
  | [] => some []
  | .bl i :: xs => (asBls xs).map (i :: ·)
  | _ => none
theorem asInts_rep {c : Cn} {g : Gs} : ∀ {ds : List D} {vs : List V} {ns : List Int}, RepL c g vs ds → asInts ds = some ns → vs = ns.map V.int
  | [], vs, ns, h, e => by
    cases h
    simp only [asInts] at e
    cases e; rfl
  | d :: ds, vs, ns, h, e => by
    cases h with
    | cons a l =>
      cases a with
      | int i =>
        simp only [asInts] at e
        cases q : asInts ds with
        | none => rw [q] at e; cases e
        | some ms =>
          rw [q] at e
          cases e
          simp [asInts_rep l q]
      | _ => simp [asInts] at e
theorem asBls_rep {c : Cn} {g : Gs} : ∀ {ds : List D} {vs : List V} {ns : List Bool}, RepL c g vs ds → asBls ds = some ns → vs = ns.map V.bl
  | [], vs, ns, h, e => by
    cases h
    simp only [asBls] at e
    cases e; rfl
  | d :: ds, vs, ns, h, e => by
    cases h with
    | cons a l =>
      cases a with
      | bl i =>
        simp only [asBls] at e
        cases q : asBls ds with
        | none => rw [q] at e; cases e
        | some ms =>
          rw [q] at e
          cases e
          simp [asBls_rep l q]
      | _ => simp [asBls] at e
def dLen : List D → Option D
  | [.lst xs] => some (.int xs.length)
  | [.tup xs] => some (.int xs.length)
  | [.str z] => if z.length ≤ big then some (.int z.length) else none
  | _ => none
def dAbs : List D → Option D
  | [.int i] => some (.int (if i < 0 then -i else i))
  | _ => none
def dAll : List D → Option D
  | [.lst xs] => (asBls xs).map fun bs => .bl (bs.all id)
  | _ => none
def dSum : List D → Option D
  | [.lst xs] => (asInts xs).map fun ns => .int ns.sum
  | _ => none
def maxI : List Int → Int
  | [] => 0
  | [x] => x
  | x :: xs => if x ≤ maxI xs then maxI xs else x
def minI : List Int → Int
  | [] => 0
  | [x] => x
  | x :: xs => if minI xs ≤ x then minI xs else x
theorem maxI_mem : ∀ {xs : List Int}, xs ≠ [] → maxI xs ∈ xs ∧ ∀ y ∈ xs, y ≤ maxI xs
  | [], h => (h rfl).elim
  | [x], _ => by simp [maxI]
  | x :: y :: xs, _ => by
    obtain ⟨h1, h2⟩ := maxI_mem (xs := y :: xs) (by simp)
    simp only [maxI]
    split
    · rename_i q
      refine ⟨List.mem_cons_of_mem _ h1, fun z hz => ?_⟩
      rcases List.mem_cons.mp hz with rfl | hz
      · exact q
      · exact h2 z hz
    · rename_i q
      refine ⟨List.mem_cons_self, fun z hz => ?_⟩
      rcases List.mem_cons.mp hz with rfl | hz
      · exact Int.le_refl _
      · have := h2 z hz
        omega
theorem minI_mem : ∀ {xs : List Int}, xs ≠ [] → minI xs ∈ xs ∧ ∀ y ∈ xs, minI xs ≤ y
  | [], h => (h rfl).elim
  | [x], _ => by simp [minI]
  | x :: y :: xs, _ => by
    obtain ⟨h1, h2⟩ := minI_mem (xs := y :: xs) (by simp)
    simp only [minI]
    split
    · rename_i q
      refine ⟨List.mem_cons_of_mem _ h1, fun z hz => ?_⟩
      rcases List.mem_cons.mp hz with rfl | hz
      · exact q
      · exact h2 z hz
    · rename_i q
      refine ⟨List.mem_cons_self, fun z hz => ?_⟩
      rcases List.mem_cons.mp hz with rfl | hz
      · exact Int.le_refl _
      · have := h2 z hz
        omega
def dMax : List D → Option D
  | [.lst xs] => (asInts xs).bind fun ns => if ns.isEmpty then none else some (.int (maxI ns))
  | _ => none
def dMin : List D → Option D
  | [.lst xs] => (asInts xs).bind fun ns => if ns.isEmpty then none else some (.int (minI ns))
  | _ => none
def dTup : List D → Option D
  | [.lst xs] => some (.tup xs)
  | [.tup xs] => some (.tup xs)
  | _ => none
section
variable {c : Cn} {X : Cx} {W : WX}
theorem prS_len {K : PySem.W.Frag} : PrS c dLen (fun xs H Q => ∃ x n, xs = [x] ∧ LenV K x H n ∧ Q (.int n) H) := by
  intro g H w vs ds d Q k r e q
  unfold dLen at e
  split at e
  · cases e
    cases r with
    | cons a l =>
      cases l
      cases a with
      | lst hx lx => exact ⟨_, _, rfl, .inl ⟨_, SqL.of (k.sub _ _ hx), rfl⟩, by rw [lx.length]; exact q.at k (.int _)⟩
  · cases e
    cases r with
    | cons a l =>
      cases l
      cases a with
      | tup hx lx => exact ⟨_, _, rfl, .inr ⟨_, SqT.of (k.sub _ _ hx), rfl⟩, by rw [lx.length]; exact q.at k (.int _)⟩
  · split at e <;> cases e
    rename_i hl
    cases r with
    | cons a l =>
      cases l
      cases a
      exact ⟨_, _, rfl, ⟨Nat.le_trans hl big_le, rfl⟩, q.at k (.int _)⟩
  · cases e
theorem prS_abs : PrS c dAbs (fun xs H Q => ∃ i, xs = [.int i] ∧ Q (.int (if i < 0 then -i else i)) H) := by
  intro g H w vs ds d Q k r e q
  unfold dAbs at e
  split at e
  · cases e
    cases r with
    | cons a l =>
      cases l
      cases a
      exact ⟨_, rfl, q.at k (.int _)⟩
  · cases e
theorem prS_all {K : PySem.W.Frag} : PrS c dAll (rAll K) := by
  intro g H w vs ds d Q k r e q
  unfold dAll at e
  split at e
  · rename_i xs
    cases r with
    | cons a l =>
      cases l
      cases a with
      | lst hx lx =>
        cases hb : asBls xs with
        | none => rw [hb] at e; cases e
        | some bs =>
          rw [hb] at e
          cases e
          have := asBls_rep lx hb
          subst this
          exact ⟨_, bs, rfl, SqL.of (k.sub _ _ hx), q.at k (.bl _)⟩
  · cases e
theorem prS_sum {K : PySem.W.Frag} : PrS c dSum (rSum K) := by
  intro g H w vs ds d Q k r e q
  unfold dSum at e
  split at e
  · rename_i xs
    cases r with
    | cons a l =>
      cases l
      cases a with
      | lst hx lx =>
        cases hb : asInts xs with
        | none => rw [hb] at e; cases e
        | some bs =>
          rw [hb] at e
          cases e
          have := asInts_rep lx hb
          subst this
          exact ⟨_, bs, rfl, SqL.of (k.sub _ _ hx), q.at k (.int _)⟩
  · cases e
theorem prS_max {K : PySem.W.Frag} : PrS c dMax (rMax K) := by
  intro g H w vs ds d Q k r e q
  unfold dMax at e
  split at e
  · rename_i xs
    cases r with
    | cons a l =>
      cases l
      cases a with
      | lst hx lx =>
        cases hb : asInts xs with
        | none => rw [hb] at e; cases e
        | some bs =>
          rw [hb] at e
          simp only [Option.bind_some] at e
          split at e <;> cases e
          rename_i hne
          have := asInts_rep lx hb
          subst this
          have hne : bs ≠ [] := by simpa using hne
          refine ⟨_, bs, rfl, SqL.of (k.sub _ _ hx), List.length_pos_iff.mpr hne, fun m hm hy => ?_⟩
          have e : m = maxI bs := by
            obtain ⟨h1, h2⟩ := maxI_mem hne
            have := h2 m hm
            have := hy _ h1
            omega
          rw [e]
          exact q.at k (.int _)
  · cases e
theorem prS_min {K : PySem.W.Frag} : PrS c dMin (rMin K) := by
  intro g H w vs ds d Q k r e q
  unfold dMin at e
  split at e
  · rename_i xs
    cases r with
    | cons a l =>
      cases l
      cases a with
      | lst hx lx =>
        cases hb : asInts xs with
        | none => rw [hb] at e; cases e
        | some bs =>
          rw [hb] at e
          simp only [Option.bind_some] at e
          split at e <;> cases e
          rename_i hne
          have := asInts_rep lx hb
          subst this
          have hne : bs ≠ [] := by simpa using hne
          refine ⟨_, bs, rfl, SqL.of (k.sub _ _ hx), List.length_pos_iff.mpr hne, fun m hm hy => ?_⟩
          have e : m = minI bs := by
            obtain ⟨h1, h2⟩ := minI_mem hne
            have := h2 m hm
            have := hy _ h1
            omega
          rw [e]
          exact q.at k (.int _)
  · cases e
theorem prS_tup {K : PySem.W.Frag} : PrS c dTup (fun xs H Q => ∃ p ys, xs = [.ref p] ∧ ((SqL K H p ys ∧ ∀ l, H l = none → Q (.ref l) (upd H l (.tup ys))) ∨ (SqT K H p ys ∧ Q (.ref p) H))) := by
  intro g H w vs ds d Q k r e q
  unfold dTup at e
  split at e
  · cases e
    cases r with
    | cons a l =>
      cases l
      cases a with
      | lst hx lx => exact ⟨_, _, rfl, .inl ⟨SqL.of (k.sub _ _ hx), q.tup k lx⟩⟩
  · cases e
    cases r with
    | cons a l =>
      cases l
      cases a with
      | tup hx lx => exact ⟨_, _, rfl, .inr ⟨SqT.of (k.sub _ _ hx), q.at k (.tup hx lx)⟩⟩
  · cases e
theorem pri_len (hm : X.mg "len" = none) : PriOk c X W "len" dLen := fun e es ms p pos hg ha he hpl => s_bi call_len prS_len hg hm PySem.boot_len ha (by decide) (by decide) he hpl
theorem pri_abs (hm : X.mg "abs" = none) : PriOk c X W "abs" dAbs := fun e es ms p pos hg ha he hpl => s_bi call_abs prS_abs hg hm (by decide +kernel) ha (by decide) (by decide) he hpl
theorem pri_all (hc : X.calm = true) (hm : X.mg "all" = none) : PriOk c X W "all" dAll := fun e es ms p pos hg ha he hpl => s_bi (cr_all hc) prS_all hg hm (by decide +kernel) ha (by decide) (by decide) he hpl
theorem pri_sum (hc : X.calm = true) (hm : X.mg "sum" = none) : PriOk c X W "sum" dSum := fun e es ms p pos hg ha he hpl => s_bi (cr_sum hc) prS_sum hg hm (by decide +kernel) ha (by decide) (by decide) he hpl
theorem pri_max (hc : X.calm = true) (hm : X.mg "max" = none) : PriOk c X W "max" dMax := fun e es ms p pos hg ha he hpl => s_bi (cr_max hc) prS_max hg hm (by decide +kernel) ha (by decide) (by decide) he hpl
theorem pri_min (hc : X.calm = true) (hm : X.mg "min" = none) : PriOk c X W "min" dMin := fun e es ms p pos hg ha he hpl => s_bi (cr_min hc) prS_min hg hm (by decide +kernel) ha (by decide) (by decide) he hpl
theorem pri_tup (hm : X.mg "tuple" = none) : PriOk c X W "tuple" dTup := fun e es ms p pos hg ha he hpl => s_ty call_tuple_of prS_tup hg hm (by decide +kernel) ha (by decide) (by decide) he hpl
end
end RL

namespace RL
open PySem PySem.Spec L2
/-! list.count, list.index of data -/
def rCountD (K : PySem.W.Frag) : V → List V → Hp → VK → Prop := fun x xs H Q => ∃ (a : Addr) (y : V) (d : PyData) (ds : List PyData), x = V.ref a ∧ xs = [y] ∧ Dp K H (V.ref a) (.list ds) ∧ Dp K H y d ∧ SeqAt.shaped (.list ds) = true ∧ SeqAt.shaped d = true ∧ Q (.int (ds.countP fun z => PyData.eqv z d : Nat)) H
theorem mt_countD {X : Cx} (hu : X.A.units + 65 < cLine) : MtR X "list.count" (rCountD X.K) := by
  intro pins s σ H x xs v us Q I rx rxs h
  obtain ⟨a, y, d, ds, rfl, rfl, hl, hy, sl, sd, q⟩ := h
  cases rx
  cases rxs with
  | cons ry rt =>
    rename_i uy ut
    cases rt
    obtain ⟨bs, r1⟩ := Dp.reads I d y uy hy ry
    have lay : PyData.canLayAll0 ds = true := SeqAt.canLay_of_shaped sl
    have room : X.A.units + 1 + min (PyData.depthAll ds) d.depth < cLine := PyProof.Rows.room_in_shaped sd hu
    cases hl with
    | lst hs ha =>
      obtain ⟨its, rv, ⟨⟨o1, o2, o3, o4⟩, n, ho, hc, hdn, hdt⟩, hlen⟩ := I.list hs
      simp only at hc hdt
      subst hc hdt
      obtain ⟨as, h4⟩ := Dp.readsAll I ds _ its ha rv
      have hmap : its.map (SeqAt.readOf s.heap) = ds := SeqAt.readsAll_map ds its as lay h4
      refine call_meets PySem.F.slot_list_count ⟨_, ho, rfl⟩ PySem.F.entry_list_count (PySem.F.args_list_count_2 _ _) (SeqAt.list_countAt a its.toArray n o2 o4 uy (fun u => PyData.eqv (SeqAt.readOf s.heap u) d))
        ⟨ho, SeqAt.items_eqAt (vs := its.toArray) (by simpa using h4) r1 lay (SeqAt.canLay_of_shaped sd) room, ?_⟩
      have e : its.toArray.toList.countP (fun u => PyData.eqv (SeqAt.readOf s.heap u) d) = ds.countP fun z => PyData.eqv z d := by
        rw [← hmap, List.countP_map]
        rfl
      refine ⟨.int (ds.countP fun z => PyData.eqv z d : Nat), H, I.tok _, ⟨s.toks, ?_⟩, q⟩
      show Value.int ((its.toArray.toList.countP (fun u => PyData.eqv (SeqAt.readOf s.heap u) d) : Nat) : Int) s.toks = _
      rw [e]
def dCount : D → List D → Option D
  | .lst xs, [y] => if okD 11 y && xs.all (okD 11) then some (.int (xs.countP fun z => eqN 11 z y : Nat)) else none
  | _, _ => none
def dIndex : D → List D → Option D
  | .lst xs, [y] => if okD 11 y && xs.all (okD 11) then (xs.findIdx? fun z => eqN 11 z y).map fun j => .int (j : Nat) else none
  | _, _ => none
theorem count_py (d : D) (hd : okD 11 d = true) : ∀ xs : List D, xs.all (okD 11) = true → ((toPyL xs).countP fun z => PyData.eqv z (toPy d)) = xs.countP fun z => eqN 11 z d
  | [], _ => rfl
  | x :: xs, h => by
    simp only [List.all_cons, Bool.and_eq_true] at h
    simp only [toPyL, List.countP_cons, eq_py 11 x d h.1 hd, count_py d hd xs h.2]
theorem toPyL_get : ∀ (xs : List D) (j : Nat), (toPyL xs)[j]? = xs[j]?.map toPy
  | [], j => by simp [toPyL]
  | x :: xs, 0 => by simp [toPyL]
  | x :: xs, j + 1 => by simp [toPyL, toPyL_get xs j]
section
variable {c : Cn} {X : Cx} {W : WX}
theorem bmt_of {x : Str} {id : String} {r : V → List V → Hp → VK → Prop} {f : D → List D → Option D} (slot : Slot "list" x id) (hty : typeOf (.builtin id) = pure (.type "method_descriptor")) (hm : MtR X id r) (hl : ∀ d ds e, f d ds = some e → ∃ xs, d = .lst xs)
    (hs : ∀ g H w vs ds v xs d Q, WOk c g H w → Rep c g v (.lst xs) → RepL c g vs ds → f (.lst xs) ds = some d → Wants c g H w d Q → r v vs H Q) : BmtOk c X W x f := by
  intro o e es mo ms apos cpos ho ha h1 h2 h3 h4 h5 h6
  refine (pe_bm PySem.F.plainAttrs_list slot hty hm ho ha h6 ?_ h5 h1 h2).mono fun σ H Q h => ?_
  · rw [h3]
    have e : (backToKw cpos (keywordEach [] X.env)).all (fun x => x.1.isSome) = true := rfl
    rw [e]
    simpa using h4
  · obtain ⟨B, g, ρ, w, E, k, p⟩ := h
    unfold mBmt at p
    refine ⟨B, g, ρ, w, E, k, bnd p fun g1 H1 x dx w1 _ e1 k1 r1 p1 => ?_⟩
    cases hb : ms ρ w1 with
    | bad => rw [hb] at p1; exact False.elim p1
    | exc j w2 => rw [hb] at p1; exact False.elim p1
    | ok ds w2 =>
      have p1' := p1
      rw [hb] at p1'
      obtain ⟨d, ed, _⟩ := post_lift p1'
      obtain ⟨xs, rfl⟩ := hl _ _ _ ed
      refine ⟨?_, B, g1, ρ, w1, E.ext e1, k1, ?_⟩
      · cases r1 with
        | lst hx lx => exact .inl ⟨rfl, _, SqL.of (k1.sub _ _ hx)⟩
      · have p2 : post c (Rep c) g1 H1 Q (WE W σ) ((ms ρ w1).bind fun xs' w' => lift (f (.lst xs) xs') w') := by
          rw [hb]
          exact p1'
        refine bnd p2 fun g2 H2 vs ds' w3 _ e2 k2 r2 p3 => ?_
        obtain ⟨d', ed', q⟩ := post_lift p3
        exact hs g2 H2 w3 vs ds' _ xs d' Q k2 (r1.mono e2.toGle) r2 ed' q
theorem bmt_count (hu : X.A.units + 65 < cLine) : BmtOk c X W "count" dCount := bmt_of PySem.F.slot_list_count PySem.F.type_list_count (mt_countD hu) (fun d ds e h => by
  unfold dCount at h
  split at h
  · exact ⟨_, rfl⟩
  · cases h) fun g H w vs ds v xs d Q k rv rs e q => by
  cases ds with
  | nil => cases e
  | cons y ys =>
    cases ys with
    | cons _ _ => cases e
    | nil =>
      simp only [dCount] at e
      split at e
      · rename_i hok
        cases e
        rw [Bool.and_eq_true] at hok
        cases rs with
        | cons ry rr =>
          cases rr
          have hl : okD 12 (.lst xs) = true := hok.2
          have dv := rv.dp (K := X.K) k.sub hl
          cases rv with
          | lst ha la => exact ⟨_, _, _, _, rfl, rfl, dv, ry.dp k.sub hok.1, ok_shaped (by decide) hl, ok_shaped (by decide) hok.1, by rw [count_py _ hok.1 _ hok.2]; exact q.at k (.int _)⟩
      · cases e
theorem bmt_index (hu : X.A.units + 65 < cLine) : BmtOk c X W "index" dIndex := bmt_of PySem.F.slot_list_index PySem.F.type_list_index (mt_indexD hu) (fun d ds e h => by
  unfold dIndex at h
  split at h
  · exact ⟨_, rfl⟩
  · cases h) fun g H w vs ds v xs d Q k rv rs e q => by
  cases ds with
  | nil => cases e
  | cons y ys =>
    cases ys with
    | cons _ _ => cases e
    | nil =>
      simp only [dIndex] at e
      split at e
      · rename_i hok
        rw [Bool.and_eq_true] at hok
        cases hf : xs.findIdx? (fun z => eqN 11 z y) with
        | none => rw [hf] at e; cases e
        | some j =>
          rw [hf] at e
          cases e
          obtain ⟨hj, hj1, hj2⟩ := List.findIdx?_eq_some_iff_getElem.1 hf
          cases rs with
          | cons ry rr =>
            cases rr
            have hl : okD 12 (.lst xs) = true := hok.2
            have okx : ∀ (m : Nat) (hm : m < xs.length), okD 11 (xs[m]) = true := fun m hm => List.all_eq_true.1 hok.2 _ (List.getElem_mem hm)
            have dv := rv.dp (K := X.K) k.sub hl
            cases rv with
            | lst ha la => exact ⟨_, _, _, _, j, _, rfl, rfl, dv, ry.dp k.sub hok.1, ok_shaped (by decide) hl, ok_shaped (by decide) hok.1, by rw [toPyL_get, List.getElem?_eq_getElem hj]; rfl, by rw [eq_py 11 _ _ (okx j hj) hok.1]; exact hj1, fun m z' hm hz' => by
                rw [toPyL_get, List.getElem?_eq_getElem (show m < xs.length by omega)] at hz'
                cases hz'
                rw [eq_py 11 _ _ (okx m (by omega)) hok.1]
                simpa using hj2 m hm, q.at k (.int _)⟩
      · cases e
end
end RL

namespace RL
open PySem L2
/-! sorted of ints -/
def insI (x : Int) : List Int → List Int
  | [] => [x]
  | y :: ys => if x ≤ y then x :: y :: ys else y :: insI x ys
def sortI : List Int → List Int
  | [] => []
  | x :: xs => insI x (sortI xs)
theorem insI_perm (x : Int) : ∀ ys : List Int, (insI x ys).Perm (x :: ys)
  | [] => .refl _
  | y :: ys => by
    unfold insI
    split
    · exact .refl _
    · exact ((insI_perm x ys).cons y).trans (.swap x y ys)
theorem sortI_perm : ∀ xs : List Int, (sortI xs).Perm xs
  | [] => .refl _
  | x :: xs => (insI_perm x (sortI xs)).trans ((sortI_perm xs).cons x)
theorem insI_sorted (x : Int) : ∀ {ys : List Int}, ys.Pairwise (· ≤ ·) → (insI x ys).Pairwise (· ≤ ·)
  | [], _ => by simp [insI]
  | y :: ys, h => by
    unfold insI
    rw [List.pairwise_cons] at h
    split
    · rename_i hxy
      rw [List.pairwise_cons, List.pairwise_cons]
      exact ⟨fun z hz => by
        rcases List.mem_cons.1 hz with rfl | hz
        · exact hxy
        · have := h.1 z hz
          omega, h⟩
    · rename_i hxy
      rw [List.pairwise_cons]
      refine ⟨fun z hz => ?_, insI_sorted x h.2⟩
      rcases List.mem_cons.1 ((insI_perm x ys).mem_iff.1 hz) with rfl | hz
      · omega
      · exact h.1 z hz
theorem sortI_sorted : ∀ xs : List Int, (sortI xs).Pairwise (· ≤ ·)
  | [] => .nil
  | x :: xs => insI_sorted x (sortI_sorted xs)
theorem sorted_unique : ∀ {xs ys : List Int}, xs.Perm ys → xs.Pairwise (· ≤ ·) → ys.Pairwise (· ≤ ·) → xs = ys
  | [], ys, p, _, _ => by simp [p.symm.eq_nil]
  | x :: xs, [], p, _, _ => by simp at p
  | x :: xs, y :: ys, p, h1, h2 => by
    rw [List.pairwise_cons] at h1 h2
    have e : x = y := by
      have a1 : x ∈ y :: ys := p.mem_iff.1 List.mem_cons_self
      have a2 : y ∈ x :: xs := p.mem_iff.2 List.mem_cons_self
      rcases List.mem_cons.1 a1 with e | a1
      · exact e
      · rcases List.mem_cons.1 a2 with e | a2
        · exact e.symm
        · have := h1.1 y a2
          have := h2.1 x a1
          omega
    subst e
    rw [sorted_unique (List.perm_cons x |>.1 p) h1.2 h2.2]
def dSort : List D → Option D
  | [.lst xs] => (asInts xs).map fun ns => .lst ((sortI ns).map .int)
  | _ => none
section
variable {c : Cn} {X : Cx} {W : WX}
theorem repL_ints {g : Gs} : ∀ ns : List Int, RepL c g (ns.map V.int) (ns.map D.int)
  | [] => .nil
  | n :: ns => .cons (.int n) (repL_ints ns)
theorem prS_sort {K : PySem.W.Frag} : PrS c dSort (rSortedI K) := by
  intro g H w vs ds d Q k r e q
  unfold dSort at e
  split at e
  · cases r with
    | cons a l =>
      cases l
      cases a with
      | lst hx lx =>
        rename_i xs _ _
        cases hi : asInts xs with
        | none => rw [hi] at e; cases e
        | some ns =>
          rw [hi] at e
          cases e
          have hv := asInts_rep lx hi
          subst hv
          refine ⟨_, ns, rfl, SqL.of (k.sub _ _ hx), fun ns' p hp hs hn => ?_⟩
          rw [sorted_unique (hp.trans (sortI_perm ns).symm) hs (sortI_sorted ns)]
          exact q.lst k (repL_ints _) p hn
  · cases e
theorem pri_sort (hm : X.mg "sorted" = none) : PriOk c X W "sorted" dSort := fun e es ms p pos hg ha he hpl => s_bi cr_sortedI prS_sort hg hm (by decide +kernel) ha (by decide) (by decide) he hpl
end
end RL

namespace RL
open PySem L2
/-- measures of the loops -/
def muI (i : Nat) (r : Rho) : Nat := match r[i]? with
  | some (.dat (.int o)) => o.toNat + 1
  | _ => 0
def muD (i j : Nat) (r : Rho) : Nat := match r[i]?, r[j]? with
  | some (.dat (.int l)), some (.dat (.int h)) => (h - l).toNat + 1
  | _, _ => 0
def Tab.add (T : Tab) (x : Str) (n : Nat) (f : MF) : Tab := { T with fns := T.fns ++ [(x, n, f)] }
section
variable {c : Cn} {P : Program} {w : World} {K : PySem.W.Frag} {mg : Str → Option Value} {base : Heap} {k : Nat} {T : Tab}
theorem BOk.down {X : Cx} (b : BOk P w K mg base (k + 1) X) : BOk P w K mg base k X := ⟨b.prog, b.w, b.K, b.mg, b.base, b.calm, b.room.mono (Nat.le_succ k)⟩
/-- one more def, by its promise -/
theorem tok_hand (HT : TOk c P w K mg base k T) {x : Str} {f : Addr} {fd : FuncData} {ps : List Str} {n : Nat} {φ : MF} (F : FnOk P w K mg base (L2.CX P w) (k + 1) f fd ps (spOf c n φ)) (hm : mg x = some (.ref f)) (hk : PySem.W.keepIn K (.ref f) = true) (hb : Binds K fd ps []) : TOk c P w K mg base (k + 1) (T.add x n φ) := by
  refine ⟨fun X b i p e => ?_, fun X W b => HT.pri X W b.down, fun X W b => HT.bmt X W b.down, HT.cs, fun X b => HT.exs X b.down, HT.range, HT.list, HT.enumerate, HT.zip, HT.isinstance, HT.int, HT.bool, HT.str, HT.tuple, HT.trs, HT.cls⟩
  have e : (T.fns ++ [(x, n, φ)])[i]? = some p := e
  by_cases hi : i < T.fns.length
  · rw [List.getElem?_append_left hi] at e
    exact HT.fns X b.down i p e
  · rw [List.getElem?_append_right (by omega)] at e
    cases q : i - T.fns.length with
    | succ j => rw [q] at e; simp at e
    | zero =>
      rw [q] at e
      simp at e
      subst e
      obtain ⟨b1, b2, b3, b4, b5, b6, b7⟩ := b
      exact ⟨k + 1, f, fd, ps, by rw [b1, b2, b3, b4, b5]; exact F, b7, by rw [b4]; exact hm, by rw [b3]; exact hk, by rw [b3]; exact hb⟩
/-- one more def, by its data -/
theorem tok_step (HT : TOk c P w K mg base k T) {x qual : Str} {st : Stmt} {f : Addr} {fd : FuncData} {N ps : List Str} {ss : Ss} {φ : MF} (F : Fun K x qual st f fd) (SC : FnScope N ps (defScope st)) (q : chkSs T ⟨N, defScope st, fun _ => true⟩ ss (defBody st) = true) (hr : Ref (mFun N.length (ess T ss)) φ)
    (hm : mg x = some (.ref f)) (hb : Binds K fd ps []) : TOk c P w K mg base (k + 1) (T.add x ps.length φ) :=
  tok_hand HT ((def_ok HT F SC q).imp (spOf_ref hr)) hm F.kp hb
end

/-! ### the draws -/
def drawAt (ns : List Int) (n : Int) : Nat := ((n + 1) % (ns.length : Int)).toNat
def drawV (ns : List Int) (n l : Int) : Int := match ns[drawAt ns n]? with
  | none => 0
  | some cell => if 1000000000000000000 ≤ cell then cell % l else
    let m := (cell + 104729 * (n + 1)) % 4294967291
    let m := m ^ 5 % 4294967279
    (m / 64 * 69621 + m) % 4294967231 / 8 % l
def drawN (ns : List Int) (n l : Int) : List Int := match ns[drawAt ns n]? with
  | none => ns
  | some cell => if 1000000000000000000 ≤ cell then ns.set (drawAt ns n) (cell / l) else ns
def mDraw : MF := fun ds w => match ds, w.dr with
  | [.drw, .int l], some (ns, n) => if decide (0 < l) && decide (l ≤ 1000000) && !ns.isEmpty then .ok (.int (drawV ns n l)) { w with dr := some (drawN ns n l, n + 1) } else .bad
  | _, _ => .bad
/-- the world behind a draw -/
theorem WOk.drawn {c : Cn} {g : Gs} {H : Hp} {w : Wd} {a b : Addr} {ns ns' : List Int} {n n' : Int} (k : WOk c g H w) (hd : g.dr = some (a, b)) (hw : w.dr = some (ns, n)) :
    WOk c g (upd (upd H a (.lst [.ref b, .int n'])) b (.lst (ns'.map V.int))) { w with dr := some (ns', n') } ∧ Ext g H g (upd (upd H a (.lst [.ref b, .int n'])) b (.lst (ns'.map V.int))) := by
  have ma : a ∈ g.wadr := by simp [Gs.wadr, hd, wdr]
  have mb : b ∈ g.wadr := by simp [Gs.wadr, hd, wdr]
  have nab : a ≠ b := by
    have := k.nd
    unfold Gs.wadr at this
    rw [hd] at this
    simp only [wdr, List.cons_append, List.nil_append, List.nodup_cons, List.mem_cons, not_or] at this
    exact this.1.1
  have other : ∀ q, q ≠ a → q ≠ b → upd (upd H a (.lst [.ref b, .int n'])) b (.lst (ns'.map V.int)) q = H q := fun q h1 h2 => by rw [upd_ne h2, upd_ne h1]
  refine ⟨⟨fun q o e => ?_, fun ms m e => ?_, (fun e => by cases e), fun i sz ln e => ?_, k.tbl, k.nd, k.out⟩, ⟨Gle.refl g, fun q o e nq => ?_, fun q e => ?_, fun q e _ => e, fun q e => .inl e⟩⟩
  · have n1 : q ≠ a := fun z => by rw [z, k.out a ma] at e; cases e
    have n2 : q ≠ b := fun z => by rw [z, k.out b mb] at e; cases e
    rw [other q n1 n2]
    exact k.sub q o e
  · cases e
    exact ⟨a, b, hd, by rw [upd_ne nab, upd_same], upd_same⟩
  · obtain ⟨t, dx, l, vs, e1, e2, e3, r⟩ := k.tb i sz ln e
    obtain ⟨m1, m2⟩ := wtb_mem e1
    have nd := k.nd
    unfold Gs.wadr at nd
    rw [hd] at nd
    simp only [wdr, List.cons_append, List.nil_append, List.nodup_cons, List.mem_cons, not_or] at nd
    have ne : ∀ q, q ∈ wtb g.tb → q ≠ a ∧ q ≠ b := fun q hq => ⟨fun z => nd.1.2 (z ▸ hq), fun z => nd.2.1 (z ▸ hq)⟩
    refine ⟨t, dx, l, vs, e1, ?_, ?_, r⟩
    · rw [other t (ne t m1).1 (ne t m1).2]; exact e2
    · rw [other l (ne l m2).1 (ne l m2).2]; exact e3
  · rw [other q (fun z => nq (z ▸ ma)) (fun z => nq (z ▸ mb))]
    exact e
  · by_cases n2 : q = b
    · rw [n2, upd_same] at e; cases e
    · rw [upd_ne n2] at e
      by_cases n1 : q = a
      · rw [n1, upd_same] at e; cases e
      · rw [upd_ne n1] at e; exact e
theorem drawAt_lt {ns : List Int} {n : Int} (h : ns ≠ []) : drawAt ns n < ns.length := by
  unfold drawAt
  have h1 : 0 < ns.length := List.length_pos_iff.mpr h
  have h2 := Int.emod_lt_of_pos (n + 1) (show (0 : Int) < ns.length by omega)
  have h3 := Int.emod_nonneg (n + 1) (show (ns.length : Int) ≠ 0 by omega)
  omega
theorem drawV_range {ns : List Int} {n l : Int} (h : 0 < l) : 0 ≤ drawV ns n l ∧ drawV ns n l < l := by
  unfold drawV
  split
  · exact ⟨Int.le_refl _, h⟩
  · split
    · exact ⟨Int.emod_nonneg _ (by omega), Int.emod_lt_of_pos _ h⟩
    · exact ⟨Int.emod_nonneg _ (by omega), Int.emod_lt_of_pos _ h⟩
theorem drawN_length {ns : List Int} {n l : Int} : (drawN ns n l).length = ns.length := by
  unfold drawN
  split
  · rfl
  · split <;> simp
end RL

namespace RL
open PySem L2
section
variable {c : Cn} {P : Program} {w : World} {K : PySem.W.Frag} {mg : Str → Option Value} {base : Heap} {k : Nat} {T : Tab}
/-- names of built-ins that no def of the text hides -/
structure Free (mg : Str → Option Value) : Prop where
  range : mg "range" = none
  list : mg "list" = none
  enumerate : mg "enumerate" = none
  zip : mg "zip" = none
  isinstance : mg "isinstance" = none
  int : mg "int" = none
  bool : mg "bool" = none
  str : mg "str" = none
  tuple : mg "tuple" = none
  len : mg "len" = none
  abs : mg "abs" = none
  all : mg "all" = none
  sum : mg "sum" = none
  max : mg "max" = none
  min : mg "min" = none
  sorted : mg "sorted" = none
def priTab : List (Str × (List D → Option D)) := [("len", dLen), ("abs", dAbs), ("all", dAll), ("sum", dSum), ("max", dMax), ("min", dMin), ("tuple", dTup), ("sorted", dSort)]
def bmtTab : List (Str × (D → List D → Option D)) := [("count", dCount), ("index", dIndex)]
theorem priTab_ok (fr : Free mg) : ∀ X W, BOk P w K mg base 0 X → Takes X W → ∀ (i : Nat) p, priTab[i]? = some p → PriOk c X W p.1 p.2 := by
  intro X W b tk i p e
  have m := List.mem_of_getElem? e
  simp only [priTab, List.mem_cons, List.not_mem_nil, or_false] at m
  rcases m with rfl | rfl | rfl | rfl | rfl | rfl | rfl | rfl
  · exact pri_len (by rw [b.mg]; exact fr.len)
  · exact pri_abs (by rw [b.mg]; exact fr.abs)
  · exact pri_all b.calm (by rw [b.mg]; exact fr.all)
  · exact pri_sum b.calm (by rw [b.mg]; exact fr.sum)
  · exact pri_max b.calm (by rw [b.mg]; exact fr.max)
  · exact pri_min b.calm (by rw [b.mg]; exact fr.min)
  · exact pri_tup (by rw [b.mg]; exact fr.tuple)
  · exact pri_sort (by rw [b.mg]; exact fr.sorted)
theorem bmtTab_ok : ∀ X W, BOk P w K mg base 0 X → Takes X W → ∀ (i : Nat) p, bmtTab[i]? = some p → BmtOk c X W p.1 p.2 := by
  intro X W b tk i p e
  have m := List.mem_of_getElem? e
  simp only [bmtTab, List.mem_cons, List.not_mem_nil, or_false] at m
  rcases m with rfl | rfl
  · exact bmt_count b.hu
  · exact bmt_index b.hu
/-! ### the law -/
def scriptOf (ns : List Int) : List Int := if ns.isEmpty then [0] else ns
theorem scriptOf_ne (ns : List Int) : scriptOf ns ≠ [] := by
  unfold scriptOf
  split
  · simp
  · rename_i h
    intro e
    rw [e] at h
    simp at h
def spStart (K : PySem.W.Frag) : Sp := fun vs H Q _ => ∃ (a : Addr) (ns : List Int), vs = [.ref a] ∧ SqL K H a (ns.map V.int) ∧ ∀ H' p q, Same H H' → H p = none → H q = none → p ≠ q → H' p = some (.lst [.ref q, .int 0]) → H' q = some (.lst ((scriptOf ns).map V.int)) → Q (.ref p) H'
def spLaw (K : PySem.W.Frag) : Sp := fun vs H Q _ => ∃ (a : Addr) (ns : List Int), vs = [.ref a] ∧ SqL K H a (ns.map V.int) ∧ ns.length ≤ 63 ∧ ∀ H', Q (.bl true) H'
def lawR (n : Nat) : Rho := .emp :: .dat .drw :: List.replicate (n - 2) .emp
theorem law_entry (HT : TOk c P w K mg base k T) {qual : Str} {st : Stmt} {f fs : Addr} {fd fds : FuncData} {N : List Str} {ss : Ss} (F : Fun K "law" qual st f fd) (SC : FnScope ("script" :: "draws" :: N) ["script"] (defScope st))
    (hd : ∃ p1 p2 p3 p4 p5, defBody st = .Assign [.Name "draws" p1] (.Call (.Name "_law_start" p2) [.Name "script" p3] [] p4) p5 :: (defBody st).tail)
    (hg : glB (defScope st) "_law_start" = true) (hs : storB ⟨"script" :: "draws" :: N, defScope st, fun _ => true⟩ 1 "draws" = true) (hv : slotB ⟨"script" :: "draws" :: N, defScope st, fun _ => true⟩ 0 "script" = true)
    (q : chkSs T ⟨"script" :: "draws" :: N, defScope st, fun _ => true⟩ ss (defBody st).tail = true) (S : FnOk P w K mg base (L2.CX P w) 1 fs fds ["script"] (spStart K)) (hm : mg "_law_start" = some (.ref fs)) (hk : PySem.W.keepIn K (.ref fs) = true) (hb : Binds K fds ["script"] [])
    (law : ∀ ns : List Int, ns.length ≤ 63 → ∃ w, ess T ss (lawR (N.length + 2)) ⟨some (scriptOf ns, 0), []⟩ = .ret (.bl true) w) : FnOk P w K mg base (L2.CX P w) (k + 2) f fd ["script"] (spLaw K) := by
  refine F.okX SC (fun vs H Q E h => by obtain ⟨a, ns, rfl, _⟩ := h; rfl) fun cdv A outer s H vs Q E hr h => ?_
  obtain ⟨a, ns, rfl, hS, hlen, kq⟩ := h
  obtain ⟨w', hl⟩ := law ns hlen
  obtain ⟨p1, p2, p3, p4, p5, e⟩ := hd
  have xo : XOk ⟨"script" :: "draws" :: N, defScope st, fun _ => true⟩ (cxOf (L2.CX P w) P w K mg base ("script" :: "draws" :: N) qual (defScope st) f cdv A outer s H E) (fun cls d _ H => E cls d H) := ⟨rfl, SC.nd, rfl, rfl, takes_of rfl rfl rfl rfl⟩
  have bo : BOk P w K mg base k (cxOf (L2.CX P w) P w K mg base ("script" :: "draws" :: N) qual (defScope st) f cdv A outer s H E) := ⟨rfl, rfl, rfl, rfl, rfl, rfl, hr.mono (Nat.le_succ k)⟩
  obtain ⟨s1, s2, s3⟩ := xo.stor hs
  obtain ⟨v1, v2, v3, v4⟩ := xo.slot hv
  have rest := sndSs HT bo ⟨SC.kind, passes_of rfl, rfl, rfl⟩ xo ss (defBody st).tail q
  rw [e]
  refine ⟨_, pss_cons (ps_set (i := 1) SC.nd s1 s2 (pe_call (E := fun cls d H => E cls d H) S (hr.mono (by omega)) (xo.gl hg) hm hk hb .nil (passes_call xo.tk fun cls d σ H z => z) (pa_cons (pe_var v1 v2 v3 v4) pa_nil rfl) (by decide) rfl rfl) rfl s3) rest, ?_⟩
  refine ⟨_, rfl, a, ns, rfl, hS, fun H' p r sm hp hq npq h1 h2 => ?_⟩
  have g : Gs := ⟨fun _ => none, some (p, r), []⟩
  refine ⟨⟨fun _ => none, some (p, r), []⟩, H', ⟨fun _ => none, some (p, r), []⟩, lawR (N.length + 2), ⟨some (scriptOf ns, 0), []⟩, ?_, ?_, Ext.refl _ _, ?_⟩
  · refine ⟨by simp [lawR, L2.start], fun i d ei => ?_, fun _ => 0, fun i xs ei => ?_, fun i j xs ys ei => ?_⟩
    · match i, ei with
      | 0, ei => simp [lawR] at ei
      | 1, ei =>
        simp [lawR] at ei
        subst ei
        exact ⟨.ref p, rfl, .drw rfl⟩
      | i + 2, ei =>
        simp [lawR, List.getElem?_replicate] at ei
    · match i, ei with
      | 0, ei => simp [lawR] at ei
      | 1, ei => simp [lawR] at ei
      | i + 2, ei => simp [lawR, List.getElem?_replicate] at ei
    · match i, ei with
      | 0, ei => simp [lawR] at ei
      | 1, ei => simp [lawR] at ei
      | i + 2, ei => simp [lawR, List.getElem?_replicate] at ei
  · refine ⟨(fun b o e => by cases e), (fun ms m e => ?_), (fun e => by cases e), (fun i sz ln e => by simp at e), rfl, ?_, fun _ _ => rfl⟩
    · cases e
      exact ⟨p, r, rfl, h1, h2⟩
    · simp [Gs.wadr, wdr, wtb, npq]
  · rw [hl]
    intro g' H2 v _ _ _ rv
    cases rv
    exact kq H2
/-- the end of a law -/
theorem walk {l : PySem.W.OpenLaw} {q : Program} {loose : List Str} {XP : (Str → Option Value) → Heap → Prop} {YP : World → Heap → Prop} {d : DefRec} {K : Params → PySem.W.Frag} {k : Nat} (hk : k ≤ 200) (hn : l.most = some 63) (hdf : d.params.defaults = [])
    (hY : ∀ (w : World) (h : Heap), YP w h → (K w.params).In h)
    (F : ∀ (w : World) (mg : Str → Option Value) (fa : Addr) (h : Heap), (K w.params).In h → h.Ns mainGlobals mg → mg d.name = some (.ref fa) →
      ∃ fd : FuncData, (∀ (s : Shared) (u : Value), BindsTo s fd ⟨[u], []⟩ [("script", u)]) ∧ ∀ base : Heap, (K w.params).In base → base.Ns mainGlobals mg → FnOk l.prog w (K w.params) mg base (L2.CX l.prog w) k fa fd ["script"] (spLaw (K w.params))) :
    PySem.W.WalkO q loose XP YP l.row.toRowW d [] (fun f vs => PySem.call f vs) :=
  L2.walk_of (n := 63) (k := k) (x := "script") (CX := fun w => L2.CX l.prog w) (sp := fun w => spLaw (K w.params)) hn (by decide) hdf (Room.mono (k := 200) ⟨rfl, by decide, by decide⟩ hk) hY F (fun _ _ a ns hl _ hS => ⟨a, ns, rfl, hS, hl, fun _ => rfl⟩) fun w H s e s' z => by
    obtain ⟨_, _, _, _, _, _, _, _, _, _, _, _, z⟩ := z
    exact z
end
end RL

namespace RL
open PySem L2
/-- the def named x stands behind the top -/
structure DefIn (K : PySem.W.Frag) (x : Str) (st : Stmt) (f : Addr) : Prop where
  a : PySem.W.nsIn K mainGlobals x = some (some (.ref f))
  ex : ∃ (oc : Value) (od : Option Addr) (kV doc pm : Value) (an : Option Addr) (cdv ct : Value) (osl : Array (Option Value)), K.lookup f = some ⟨oc, od, .func (PySem.W.fnOf x x (defArgs st) (defBody st) (defScope st) .none kV doc pm an cdv ct), osl⟩ ∧ PySem.W.codeIn K cdv x = true
  k : PySem.W.keepIn K (.ref f) = true
theorem DefIn.of {K : PySem.W.Frag} {x : Str} {st : Stmt} {f : Addr} {oc : Value} {od : Option Addr} {kV doc pm : Value} {an : Option Addr} {cdv ct : Value} {osl : Array (Option Value)} (a : PySem.W.nsIn K mainGlobals x = some (some (.ref f)))
    (l : K.lookup f = some ⟨oc, od, .func (PySem.W.fnOf x x (defArgs st) (defBody st) (defScope st) .none kV doc pm an cdv ct), osl⟩) (c : PySem.W.codeIn K cdv x = true) (k : PySem.W.keepIn K (.ref f) = true) : DefIn K x st f := ⟨a, ⟨oc, od, kV, doc, pm, an, cdv, ct, osl, l, c⟩, k⟩
/-- a class of exceptions over ValueError -/
structure ExIn (K : PySem.W.Frag) (x : Str) (C : Addr) : Prop where
  a : PySem.W.nsIn K mainGlobals x = some (some (.ref C))
  e : PySem.W.excIn K C [.type "ValueError", .type "Exception", .type "BaseException", .type "object"] "ValueError.__new__" = true
  k : PySem.W.keepIn K (.ref C) = true
  b : PySem.W.subIn K (.ref C) (.type "BaseException") = some true
  t : PySem.W.typeIn K (.ref C) = some (.type "type")
section
variable {c : Cn} {P : Program} {w : World} {K : PySem.W.Frag} {mg : Str → Option Value} {base h : Heap}
/-- a def, its facts for tok_step -/
theorem DefIn.get {x : Str} {st : Stmt} {f : Addr} (d : DefIn K x st f) (X : K.In h) (G : h.Ns mainGlobals mg) {ps : List Str} (hb : ∀ (kV doc pm : Value) (an : Option Addr) (cdv ct : Value) (us : List Value), us.length = ps.length → bindArgs (PySem.W.fnOf x x (defArgs st) (defBody st) (defScope st) .none kV doc pm an cdv ct) ⟨us, []⟩ = pure (ps.zip us)) :
    mg x = some (.ref f) ∧ ∃ fd, Fun K x x st f fd ∧ ∀ us : List Value, us.length = ps.length → bindArgs fd ⟨us, []⟩ = pure (ps.zip us) := by
  obtain ⟨oc, od, kV, doc, pm, an, cdv, ct, osl, l, e⟩ := d.ex
  exact ⟨PySem.W.mg_of X G d.a, _, ⟨⟨oc, od, kV, doc, pm, an, cdv, ct, osl, rfl, l, e⟩, d.k⟩, hb kV doc pm an cdv ct⟩
/-- one def more -/
theorem tok_def {k : Nat} {T : Tab} (HT : TOk c P w K mg base k T) {x : Str} {st : Stmt} {f : Addr} (d : DefIn K x st f) (X : K.In h) (G : h.Ns mainGlobals mg) {N ps : List Str} {ss : Ss} (hb : ∀ (kV doc pm : Value) (an : Option Addr) (cdv ct : Value) (us : List Value), us.length = ps.length → bindArgs (PySem.W.fnOf x x (defArgs st) (defBody st) (defScope st) .none kV doc pm an cdv ct) ⟨us, []⟩ = pure (ps.zip us))
    (SC : FnScope N ps (defScope st)) (q : chkSs T ⟨N, defScope st, fun _ => true⟩ ss (defBody st) = true) : TOk c P w K mg base (k + 1) (T.add x ps.length (mFun N.length (ess T ss))) := by
  obtain ⟨hm, fd, F, hB⟩ := d.get X G hb
  exact tok_step HT F SC q (fun ds w => .inr rfl) hm (.all hB)
theorem tok_exs {cs : List (Str × D)} {exs : List Str} (fr : Free mg) (X : K.In h) (G : h.Ns mainGlobals mg) (hcs : ∀ (i : Nat) p, cs[i]? = some p → ∃ v u, mg p.1 = some u ∧ RelV v u ∧ ∀ g, Rep c g v p.2)
    (hx : ∀ (i : Nat) x, exs[i]? = some x → x = ("__debug__" : Str) ∨ ExIn K x (c.ec i)) {trs : List (Str × List Nat)} (ht : ∀ (i : Nat) p, trs[i]? = some p → ∃ cv, mg p.1 = some cv ∧ ∀ j ∈ p.2, PySem.W.exmOne K (.ref (c.ec j)) cv = some true)
    {cls : List (Str × (Nat → Option Bool))} (hc : ∀ (i : Nat) p, cls[i]? = some p → ∃ v cv, ClsAt mg p.1 v cv ∧ ∀ j b, p.2 j = some b → ExcC K (c.ec j) ∧ PySem.W.kitOne K (.ref (c.ec j)) cv = some b) : TOk c P w K mg base 0 ⟨[], priTab, bmtTab, cs, exs, trs, cls⟩ :=
  ⟨fun X b i p e => by simp at e, priTab_ok fr, bmtTab_ok, hcs, fun Y b i x e m j p p2 pos hg hdb => by
    rcases hx i x e with rfl | z
    · exact absurd hdb (by decide)
    · exact pmk_own PySem.F.excBase_ValueError (by rw [b.K]; exact z.e) (by rw [b.mg]; exact PySem.W.mg_of X G z.a) (by rw [b.K]; exact z.k) (raises_own (by rw [b.K]; exact z.b) (by rw [b.K]; exact z.t)) hg hdb, fr.range, fr.list, fr.enumerate, fr.zip, fr.isinstance, fr.int, fr.bool, fr.str, fr.tuple, ht, hc⟩
theorem cs_one (X : K.In h) (G : h.Ns mainGlobals mg) {t : Tok} (mp : PySem.W.nsIn K mainGlobals "MOST_POWER" = some (some (.int 3 t))) : ∀ (i : Nat) p, [(("MOST_POWER" : Str), D.int 3)][i]? = some p → ∃ v u, mg p.1 = some u ∧ RelV v u ∧ ∀ g, Rep c g v p.2 := by
  intro i p e
  match i, e with
  | 0, e =>
    simp at e
    subst e
    exact ⟨.int 3, .int 3 t, PySem.W.mg_of X G mp, ⟨t, rfl⟩, fun g => .int _⟩
end
/-! exceptions: the classes of the package, in the order of EXS -/
def clsF (i j : Nat) : Option Bool := if j < 6 then some (j == i) else none
def clsT (j : Nat) : Option Bool := if j < 6 then some true else none
def clsTab : List (Str × (Nat → Option Bool)) := [("BadRule", clsF 0), ("BadTrials", clsF 1), ("BadAmounts", clsF 2), ("BadNumber", clsF 3), ("BadText", clsF 4), ("NotFound", clsF 5), ("RateError", clsT), ("ValueError", clsT)]
def trsTab : List (Str × List Nat) := [("RateError", [0, 1, 2, 3, 4, 5])]
/-- what all tables have, where exceptions are caught -/
structure TX (T : Tab) : Prop where
  t : T.trs = trsTab
  c : T.cls = clsTab
theorem clsF_ge {i n : Nat} {b : Bool} (h : clsF i (n + 6) = some b) : False := by
  unfold clsF at h
  rw [if_neg (by omega)] at h
  cases h
theorem clsT_ge {n : Nat} {b : Bool} (h : clsT (n + 6) = some b) : False := by
  unfold clsT at h
  rw [if_neg (by omega)] at h
  cases h
section
variable {K : PySem.W.Frag} {a b : Addr} {v : Bool}
theorem kit_ref (hc : (PySem.W.clsIn K b).isSome = true) (ht : PySem.W.typeIn K (.ref b) = some (.type "type")) (ss : PySem.W.subIn K (.ref a) (.ref a) = some true) (hs : PySem.W.subIn K (.ref a) (.ref b) = some v) : PySem.W.kitOne K (.ref a) (.ref b) = some v := by
  unfold PySem.W.kitOne
  by_cases h : a = b
  · subst h
    rw [ss] at hs
    cases hs
    simp
  · have h' : (Value.ref a == Value.ref b) = false := by simp [h]
    rw [h']
    simp only [PySem.W.kitCls, hc, ht, Bool.true_and, beq_self_eq_true, if_true, Bool.false_eq_true, if_false]
    exact hs
theorem kit_val (hs : PySem.W.subIn K (.ref a) (.type "ValueError") = some true) : PySem.W.kitOne K (.ref a) (.type "ValueError") = some true := by
  have hm : PySem.W.kitMeta "ValueError" = true := by decide +kernel
  have h' : (Value.ref a == Value.type "ValueError") = false := rfl
  unfold PySem.W.kitOne
  rw [h']
  simp only [PySem.W.kitCls, hm, if_true, Bool.false_eq_true, if_false]
  exact hs
theorem exm_ref (hb : PySem.W.subIn K (.ref b) (.type "BaseException") = some true) (hc : (PySem.W.clsIn K b).isSome = true) (ht : PySem.W.typeIn K (.ref b) = some (.type "type")) (hs : PySem.W.subIn K (.ref a) (.ref b) = some true) : PySem.W.exmOne K (.ref a) (.ref b) = some true := by
  unfold PySem.W.exmOne
  rw [hb]
  simp only [PySem.W.kitCls, hc, ht, Bool.true_and, beq_self_eq_true, if_true]
  exact hs
theorem cls_some {α : Type} {o : Option α} {x : α} (h : o = some x) : o.isSome = true := by rw [h]; rfl
end
end RL

namespace RL
open PySem L2
/-! the defs as data (printed) -/
def b_is_int : Ss := (.cons (.ret (.and (.isi (.var 0) "int") (.and (.not (.isi (.var 0) "bool")) (.chn .le .le (.var 1) (.var 0) (.var 2))))) .nil)
def b_common : Ss := (.cons (.whl (muI 1) (.bin .ne (.var 1) (.cst (.int 0))) (.cons (.asg (.tp (.cons (.nm 0) (.cons (.nm 1) .nil))) (.tup (.cons (.var 1) (.cons (.bin .mod (.var 0) (.var 1)) .nil)))) .nil)) (.cons (.ret (.var 0)) .nil))
def b_is_amount (i_common : Nat) : Ss := (.cons (.iff (.or (.not (.isi (.var 0) "tuple")) (.bin .ne (.pri 0 (.cons (.var 0) .nil)) (.cst (.int 2)))) (.cons (.ret (.cst (.bl false))) .nil) .nil) (.cons (.iff (.not (.pri 2 (.cons (.lm (.comp (.and (.isi (.var 1) "int") (.and (.not (.isi (.var 1) "bool")) (.bin .gt (.var 1) (.cst (.int 0))))) (.nm 1) [1] (.seq (.var 0)) .no)) .nil))) (.cons (.ret (.cst (.bl false))) .nil) .nil) (.cons (.ret (.bin .eq (.call i_common (.cons (.ix (.var 0) (.cst (.int 0))) (.cons (.ix (.var 0) (.cst (.int 1))) .nil))) (.cst (.int 1)))) .nil)))
def b_is_rule (i_is_int i_is_amount : Nat) : Ss := (.cons (.iff (.or (.not (.isi (.var 0) "tuple")) (.or (.bin .ne (.pri 0 (.cons (.var 0) .nil)) (.cst (.int 2))) (.not (.call i_is_amount (.cons (.ix (.var 0) (.cst (.int 0))) .nil))))) (.cons (.ret (.cst (.bl false))) .nil) .nil) (.cons (.iff (.or (.not (.isi (.ix (.var 0) (.cst (.int 1))) "list")) (.not (.chn .le .le (.cst (.int 1)) (.pri 0 (.cons (.ix (.var 0) (.cst (.int 1))) .nil)) (.cst (.int 3))))) (.cons (.ret (.cst (.bl false))) .nil) .nil) (.cons (.ret (.pri 2 (.cons (.lm (.comp (.call i_is_int (.cons (.var 1) (.cons (.neg (.gl 0)) (.cons (.gl 0) .nil)))) (.nm 1) [1] (.seq (.ix (.var 0) (.cst (.int 1)))) .no)) .nil))) .nil)))
def b_is_amounts (i_is_amount : Nat) : Ss := (.cons (.ret (.and (.isi (.var 0) "list") (.and (.bin .eq (.pri 0 (.cons (.var 0) .nil)) (.var 1)) (.pri 2 (.cons (.lm (.comp (.call i_is_amount (.cons (.var 2) .nil)) (.nm 2) [2] (.seq (.var 0)) .no)) .nil))))) .nil)
def b_is_trials (i_is_amounts i_is_amount : Nat) : Ss := (.cons (.iff (.or (.not (.isi (.var 0) "list")) (.not (.chn .le .le (.cst (.int 1)) (.pri 0 (.cons (.var 0) .nil)) (.cst (.int 8))))) (.cons (.ret (.cst (.bl false))) .nil) .nil) (.cons (.for' (.nm 1) (.seq (.var 0)) (.cons (.iff (.or (.not (.isi (.var 1) "tuple")) (.or (.bin .ne (.pri 0 (.cons (.var 1) .nil)) (.cst (.int 2))) (.or (.not (.isi (.ix (.var 1) (.cst (.int 0))) "list")) (.not (.call i_is_amount (.cons (.ix (.var 1) (.cst (.int 1))) .nil)))))) (.cons (.ret (.cst (.bl false))) .nil) .nil) (.cons (.iff (.or (.not (.chn .le .le (.cst (.int 1)) (.pri 0 (.cons (.ix (.var 1) (.cst (.int 0))) .nil)) (.cst (.int 3)))) (.not (.call i_is_amounts (.cons (.ix (.var 1) (.cst (.int 0))) (.cons (.pri 0 (.cons (.ix (.ix (.var 0) (.cst (.int 0))) (.cst (.int 0))) .nil)) .nil))))) (.cons (.ret (.cst (.bl false))) .nil) .nil) .nil))) (.cons (.ret (.cst (.bl true))) .nil)))
def b_check_rule (i_is_rule : Nat) : Ss := (.cons (.iff (.not (.call i_is_rule (.cons (.var 0) .nil))) (.cons (.rais 0) .nil) .nil) .nil)
def b_check_trials (i_is_trials : Nat) : Ss := (.cons (.iff (.not (.call i_is_trials (.cons (.var 0) .nil))) (.cons (.rais 1) .nil) .nil) .nil)
def b_check_amounts (i_is_amounts : Nat) : Ss := (.cons (.iff (.not (.call i_is_amounts (.cons (.var 0) (.cons (.var 1) .nil)))) (.cons (.rais 2) .nil) .nil) .nil)
def b_check_amount (i_is_amount : Nat) : Ss := (.cons (.iff (.not (.call i_is_amount (.cons (.var 0) .nil))) (.cons (.rais 2) .nil) .nil) .nil)
def b_check_quantity (i_is_int : Nat) : Ss := (.cons (.iff (.not (.call i_is_int (.cons (.var 1) (.cons (.cst (.int 0)) (.cons (.bin .sub (.var 0) (.cst (.int 1))) .nil))))) (.cons (.rais 3) .nil) .nil) .nil)
def b_lowest (i_common : Nat) : Ss := (.cons (.asg (.nm 2) (.call i_common (.cons (.var 0) (.cons (.var 1) .nil)))) (.cons (.ret (.tup (.cons (.bin .fdiv (.var 0) (.var 2)) (.cons (.bin .fdiv (.var 1) (.var 2)) .nil)))) .nil))
def b_product (i_lowest : Nat) : Ss := (.cons (.ret (.call i_lowest (.cons (.bin .mul (.ix (.var 0) (.cst (.int 0))) (.ix (.var 1) (.cst (.int 0)))) (.cons (.bin .mul (.ix (.var 0) (.cst (.int 1))) (.ix (.var 1) (.cst (.int 1)))) .nil)))) .nil)
def b_power (i_product : Nat) : Ss := (.cons (.asg (.nm 2) (.tup (.cons (.cst (.int 1)) (.cons (.cst (.int 1)) .nil)))) (.cons (.for' (.nm 3) (.rng (.cons (.pri 1 (.cons (.var 1) .nil)) .nil)) (.cons (.asg (.nm 2) (.call i_product (.cons (.var 2) (.cons (.var 0) .nil)))) .nil)) (.cons (.ret (.ite (.bin .ge (.var 1) (.cst (.int 0))) (.var 2) (.tup (.cons (.ix (.var 2) (.cst (.int 1))) (.cons (.ix (.var 2) (.cst (.int 0))) .nil))))) .nil)))
def b_products_of (i_product i_power : Nat) : Ss := (.cons (.asg (.nm 2) (.tup (.cons (.cst (.int 1)) (.cons (.cst (.int 1)) .nil)))) (.cons (.for' (.tp (.cons (.nm 3) (.cons (.nm 4) .nil))) (.zip (.cons (.var 0) (.cons (.var 1) .nil))) (.cons (.asg (.nm 2) (.call i_product (.cons (.var 2) (.cons (.call i_power (.cons (.var 4) (.cons (.var 3) .nil))) .nil)))) .nil)) (.cons (.ret (.var 2)) .nil)))
def b_rate_of (i_product i_products_of : Nat) : Ss := (.cons (.ret (.call i_product (.cons (.ix (.var 0) (.cst (.int 0))) (.cons (.call i_products_of (.cons (.ix (.var 0) (.cst (.int 1))) (.cons (.var 1) .nil))) .nil)))) .nil)
def b_rate (i_rate_of i_check_amounts i_check_rule : Nat) : Ss := (.cons (.exp (.call i_check_rule (.cons (.var 0) .nil))) (.cons (.exp (.call i_check_amounts (.cons (.var 1) (.cons (.pri 0 (.cons (.ix (.var 0) (.cst (.int 1))) .nil)) .nil)))) (.cons (.ret (.call i_rate_of (.cons (.var 0) (.cons (.var 1) .nil)))) .nil)))
def b_trial (i_rate_of i_check_amounts i_check_rule : Nat) : Ss := (.cons (.exp (.call i_check_rule (.cons (.var 0) .nil))) (.cons (.exp (.call i_check_amounts (.cons (.var 1) (.cons (.pri 0 (.cons (.ix (.var 0) (.cst (.int 1))) .nil)) .nil)))) (.cons (.ret (.tup (.cons (.lm (.of (.cons (.var 1) .nil))) (.cons (.call i_rate_of (.cons (.var 0) (.cons (.var 1) .nil))) .nil)))) .nil)))
def b_fits_of (i_rate_of : Nat) : Ss := (.cons (.ret (.pri 2 (.cons (.lm (.comp (.bin .eq (.call i_rate_of (.cons (.var 0) (.cons (.var 2) .nil))) (.var 3)) (.tp (.cons (.nm 2) (.cons (.nm 3) .nil))) [2, 3] (.seq (.var 1)) .no)) .nil))) .nil)
def b_fits (i_fits_of i_check_trials i_check_rule : Nat) : Ss := (.cons (.exp (.call i_check_rule (.cons (.var 0) .nil))) (.cons (.exp (.call i_check_trials (.cons (.var 1) .nil))) (.cons (.ret (.and (.bin .eq (.pri 0 (.cons (.ix (.ix (.var 1) (.cst (.int 0))) (.cst (.int 0))) .nil)) (.pri 0 (.cons (.ix (.var 0) (.cst (.int 1))) .nil))) (.call i_fits_of (.cons (.var 0) (.cons (.var 1) .nil))))) .nil)))
def b_first_miss (i_rate_of i_check_trials i_check_rule : Nat) : Ss := (.cons (.exp (.call i_check_rule (.cons (.var 0) .nil))) (.cons (.exp (.call i_check_trials (.cons (.var 1) .nil))) (.cons (.iff (.bin .ne (.pri 0 (.cons (.ix (.ix (.var 1) (.cst (.int 0))) (.cst (.int 0))) .nil)) (.pri 0 (.cons (.ix (.var 0) (.cst (.int 1))) .nil))) (.cons (.ret (.cst (.int 0))) .nil) .nil) (.cons (.asg (.nm 2) (.lm (.comp (.var 3) (.tp (.cons (.nm 3) (.cons (.tp (.cons (.nm 4) (.cons (.nm 5) .nil))) .nil))) [3, 4, 5] (.enm (.cons (.var 1) .nil)) (.so (.bin .ne (.call i_rate_of (.cons (.var 0) (.cons (.var 4) .nil))) (.var 5)))))) (.cons (.ret (.ite (.bin .ne (.var 2) (.lm (.disp .nil))) (.ix (.var 2) (.cst (.int 0))) (.cst .non))) .nil)))))
def b_growth (i_power i_check_amount i_check_quantity i_check_rule : Nat) : Ss := (.cons (.exp (.call i_check_rule (.cons (.var 0) .nil))) (.cons (.exp (.call i_check_quantity (.cons (.pri 0 (.cons (.ix (.var 0) (.cst (.int 1))) .nil)) (.cons (.var 1) .nil)))) (.cons (.exp (.call i_check_amount (.cons (.var 2) .nil))) (.cons (.ret (.call i_power (.cons (.var 2) (.cons (.ix (.ix (.var 0) (.cst (.int 1))) (.var 1)) .nil)))) .nil))))
def b_order (i_check_rule : Nat) : Ss := (.cons (.exp (.call i_check_rule (.cons (.var 0) .nil))) (.cons (.ret (.pri 3 (.cons (.ix (.var 0) (.cst (.int 1))) .nil))) .nil))
def b_unit_power (i_check_rule : Nat) : Ss := (.cons (.exp (.call i_check_rule (.cons (.var 0) .nil))) (.cons (.ret (.neg (.pri 3 (.cons (.ix (.var 0) (.cst (.int 1))) .nil)))) .nil))
def b__law_pick (i__law_draw : Nat) : Ss := (.cons (.ret (.ix (.var 1) (.call i__law_draw (.cons (.var 0) (.cons (.pri 0 (.cons (.var 1) .nil)) .nil))))) .nil)
def b__law_true : Ss := (.cons (.ret (.and (.isi (.var 0) "bool") (.bin .eq (.var 0) (.var 1)))) .nil)
def b__law_low : Ss := (.cons (.asg (.tp (.cons (.nm 2) (.cons (.nm 3) .nil))) (.tup (.cons (.var 0) (.cons (.var 1) .nil)))) (.cons (.whl (muI 3) (.bin .ne (.var 3) (.cst (.int 0))) (.cons (.asg (.tp (.cons (.nm 2) (.cons (.nm 3) .nil))) (.tup (.cons (.var 3) (.cons (.bin .mod (.var 2) (.var 3)) .nil)))) .nil)) (.cons (.ret (.tup (.cons (.bin .fdiv (.var 0) (.var 2)) (.cons (.bin .fdiv (.var 1) (.var 2)) .nil)))) .nil)))
def b__law_amount (i__law_pick i__law_low i__law_draw : Nat) : Ss := (.cons (.ret (.call i__law_pick (.cons (.var 0) (.cons (.lm (.disp (.cons (.tup (.cons (.cst (.int 1)) (.cons (.cst (.int 1)) .nil))) (.cons (.tup (.cons (.cst (.int 2)) (.cons (.cst (.int 1)) .nil))) (.cons (.tup (.cons (.cst (.int 1)) (.cons (.cst (.int 2)) .nil))) (.cons (.tup (.cons (.cst (.int 3)) (.cons (.cst (.int 1)) .nil))) (.cons (.tup (.cons (.cst (.int 4)) (.cons (.cst (.int 1)) .nil))) (.cons (.tup (.cons (.cst (.int 2)) (.cons (.cst (.int 3)) .nil))) (.cons (.call i__law_low (.cons (.bin .add (.cst (.int 1)) (.call i__law_draw (.cons (.var 0) (.cons (.cst (.int 9)) .nil)))) (.cons (.bin .add (.cst (.int 1)) (.call i__law_draw (.cons (.var 0) (.cons (.cst (.int 5)) .nil)))) .nil))) .nil))))))))) .nil)))) .nil)
def b__law_new (i__law_draw i__law_amount : Nat) : Ss := (.cons (.ret (.tup (.cons (.call i__law_amount (.cons (.var 0) .nil)) (.cons (.lm (.comp (.bin .sub (.call i__law_draw (.cons (.var 0) (.cons (.cst (.int 7)) .nil))) (.cst (.int 3))) (.nm 2) [2] (.rng (.cons (.var 1) .nil)) .no)) .nil)))) .nil)
def b__law_rate (i__law_low : Nat) : Ss := (.cons (.asg (.tp (.cons (.nm 2) (.cons (.nm 3) .nil))) (.ix (.var 0) (.cst (.int 0)))) (.cons (.for' (.tp (.cons (.nm 4) (.cons (.nm 5) .nil))) (.zip (.cons (.ix (.var 0) (.cst (.int 1))) (.cons (.var 1) .nil))) (.cons (.for' (.nm 6) (.rng (.cons (.pri 1 (.cons (.var 4) .nil)) .nil)) (.cons (.asg (.nm 2) (.bin .mul (.var 2) (.ite (.bin .gt (.var 4) (.cst (.int 0))) (.ix (.var 5) (.cst (.int 0))) (.ix (.var 5) (.cst (.int 1)))))) (.cons (.asg (.nm 3) (.bin .mul (.var 3) (.ite (.bin .gt (.var 4) (.cst (.int 0))) (.ix (.var 5) (.cst (.int 1))) (.ix (.var 5) (.cst (.int 0)))))) .nil))) .nil)) (.cons (.ret (.call i__law_low (.cons (.var 2) (.cons (.var 3) .nil)))) .nil)))
def b__law_trials (i__law_draw i__law_low i__law_rate i__law_amount i__law_pick i__law_new : Nat) : Ss := (.cons (.asg (.nm 3) (.call i__law_new (.cons (.var 0) (.cons (.var 1) .nil)))) (.cons (.own 4 (.disp .nil)) (.cons (.for' (.nm 5) (.rng (.cons (.bin .add (.cst (.int 1)) (.call i__law_draw (.cons (.var 0) (.cons (.var 2) .nil)))) .nil)) (.cons (.own 6 (.comp (.call i__law_amount (.cons (.var 0) .nil)) (.nm 7) [7] (.rng (.cons (.var 1) .nil)) .no)) (.cons (.iff (.and (.ocmp .ne 4 (.lm (.disp .nil))) (.bin .eq (.call i__law_draw (.cons (.var 0) (.cons (.cst (.int 2)) .nil))) (.cst (.int 0)))) (.cons (.own 6 (.of (.cons (.ix (.callO i__law_pick false 4 (.var 0)) (.cst (.int 0))) .nil))) (.cons (.set 6 (.call i__law_draw (.cons (.var 0) (.cons (.var 1) .nil))) (.call i__law_amount (.cons (.var 0) .nil))) .nil)) .nil) (.cons (.frz 6 (.asg (.nm 8) (.call i__law_rate (.cons (.var 3) (.cons (.var 6) .nil))))) (.cons (.frz 6 (.app 4 (.tup (.cons (.var 6) (.cons (.ite (.bin .eq (.call i__law_draw (.cons (.var 0) (.cons (.cst (.int 12)) .nil))) (.cst (.int 0))) (.call i__law_low (.cons (.bin .mul (.ix (.var 8) (.cst (.int 0))) (.cst (.int 2))) (.cons (.ix (.var 8) (.cst (.int 1))) .nil))) (.var 8)) .nil))))) .nil))))) (.cons (.frz 4 (.ret (.var 4))) .nil))))
def b_quotient (i_lowest : Nat) : Ss := (.cons (.ret (.call i_lowest (.cons (.bin .mul (.ix (.var 0) (.cst (.int 0))) (.ix (.var 1) (.cst (.int 1)))) (.cons (.bin .mul (.ix (.var 0) (.cst (.int 1))) (.ix (.var 1) (.cst (.int 0)))) .nil)))) .nil)
def b_all_powers : Ss := (.cons (.asg (.nm 1) (.lm (.disp (.cons (.lm (.disp .nil)) .nil)))) (.cons (.for' (.nm 2) (.rng (.cons (.var 0) .nil)) (.cons (.own 3 (.disp .nil)) (.cons (.for' (.nm 4) (.seq (.var 1)) (.cons (.ext 3 (.lm (.comp (.bin .add (.var 4) (.lm (.disp (.cons (.var 5) .nil)))) (.nm 5) [5] (.rng (.cons (.neg (.gl 0)) (.cons (.bin .add (.gl 0) (.cst (.int 1))) .nil))) .no))) .nil)) (.cons (.frz 3 (.asg (.nm 1) (.var 3))) .nil)))) (.cons (.ret (.var 1)) .nil)))
def b_table_of (i_power : Nat) : Ss := (.cons (.ret (.lm (.comp (.lm (.comp (.call i_power (.cons (.var 2) (.cons (.var 1) .nil))) (.nm 1) [1] (.rng (.cons (.neg (.gl 0)) (.cons (.bin .add (.gl 0) (.cst (.int 1))) .nil))) .no)) (.nm 2) [2] (.seq (.var 0)) .no))) .nil)
def b_agrees : Ss := (.cons (.for' (.tp (.cons (.nm 2) (.cons (.nm 3) .nil))) (.seq (.var 0)) (.cons (.asg (.tp (.cons (.nm 4) (.cons (.nm 5) .nil))) (.tup (.cons (.ix (.var 3) (.cst (.int 1))) (.cons (.ix (.var 3) (.cst (.int 0))) .nil)))) (.cons (.for' (.tp (.cons (.nm 6) (.cons (.nm 7) .nil))) (.enm (.cons (.var 1) .nil)) (.cons (.imul 4 (.ix (.ix (.ix (.var 2) (.var 6)) (.bin .add (.var 7) (.gl 0))) (.cst (.int 0)))) (.cons (.imul 5 (.ix (.ix (.ix (.var 2) (.var 6)) (.bin .add (.var 7) (.gl 0))) (.cst (.int 1)))) .nil))) (.cons (.iff (.bin .ne (.var 4) (.var 5)) (.cons (.ret (.cst (.bl false))) .nil) .nil) .nil)))) (.cons (.ret (.cst (.bl true))) .nil))
def b_fitting_of (i_all_powers i_agrees i_quotient i_products_of i_table_of : Nat) : Ss := (.cons (.asg (.tp (.cons (.nm 1) (.cons (.nm 2) .nil))) (.ix (.var 0) (.cst (.int 0)))) (.cons (.own 3 (.disp .nil)) (.cons (.for' (.tp (.cons (.nm 4) (.cons (.nm 5) .nil))) (.seq (.sl (.var 0) (.so (.cst (.int 1))) .no)) (.cons (.app 3 (.tup (.cons (.call i_table_of (.cons (.lm (.comp (.call i_quotient (.cons (.var 6) (.cons (.var 7) .nil))) (.tp (.cons (.nm 6) (.cons (.nm 7) .nil))) [6, 7] (.zip (.cons (.var 4) (.cons (.var 1) .nil))) .no)) .nil)) (.cons (.call i_quotient (.cons (.var 5) (.cons (.var 2) .nil))) .nil)))) .nil)) (.cons (.own 8 (.disp .nil)) (.cons (.for' (.nm 9) (.seq (.call i_all_powers (.cons (.pri 0 (.cons (.var 1) .nil)) .nil))) (.cons (.frz 3 (.iff (.call i_agrees (.cons (.var 3) (.cons (.var 9) .nil))) (.cons (.app 8 (.tup (.cons (.call i_quotient (.cons (.var 2) (.cons (.call i_products_of (.cons (.var 9) (.cons (.var 1) .nil))) .nil))) (.cons (.var 9) .nil)))) .nil) .nil)) .nil)) (.cons (.frz 8 (.ret (.var 8))) .nil))))))
def b_fitting (i_fitting_of i_check_trials : Nat) : Ss := (.cons (.exp (.call i_check_trials (.cons (.var 0) .nil))) (.cons (.ret (.call i_fitting_of (.cons (.var 0) .nil))) .nil))
def b_count_fitting (i_fitting_of i_check_trials : Nat) : Ss := (.cons (.exp (.call i_check_trials (.cons (.var 0) .nil))) (.cons (.ret (.pri 0 (.cons (.call i_fitting_of (.cons (.var 0) .nil)) .nil))) .nil))
def b_only_rule (i_fitting_of i_check_trials : Nat) : Ss := (.cons (.exp (.call i_check_trials (.cons (.var 0) .nil))) (.cons (.asg (.nm 1) (.call i_fitting_of (.cons (.var 0) .nil))) (.cons (.iff (.bin .ne (.pri 0 (.cons (.var 1) .nil)) (.cst (.int 1))) (.cons (.rais 5) .nil) .nil) (.cons (.ret (.ix (.var 1) (.cst (.int 0)))) .nil))))
def b__law_error : Ss := (.cons (.asg (.nm 1) (.lm (.disp (.cons (.isx (.var 0) 0) (.cons (.isx (.var 0) 1) (.cons (.isx (.var 0) 2) .nil)))))) (.cons (.asg (.nm 1) (.bin .add (.var 1) (.lm (.disp (.cons (.isx (.var 0) 3) (.cons (.isx (.var 0) 4) (.cons (.isx (.var 0) 5) .nil))))))) (.cons (.iff (.or (.bin .ne (.bmt 0 (.var 1) (.cons (.cst (.bl true)) .nil)) (.cst (.int 1))) (.or (.not (.isx (.var 0) 6)) (.not (.isx (.var 0) 7)))) (.cons (.ret (.cst (.str "odd"))) .nil) .nil) (.cons (.ret (.ix (.lm (.disp (.cons (.cst (.str "rule")) (.cons (.cst (.str "trials")) (.cons (.cst (.str "amounts")) (.cons (.cst (.str "number")) (.cons (.cst (.str "text")) (.cons (.cst (.str "none")) .nil)))))))) (.bmt 1 (.var 1) (.cons (.cst (.bl true)) .nil)))) .nil))))
def b__law_powers : Ss := (.cons (.asg (.nm 1) (.lm (.disp (.cons (.lm (.disp .nil)) .nil)))) (.cons (.for' (.nm 2) (.rng (.cons (.var 0) .nil)) (.cons (.asg (.nm 3) (.lm (.disp .nil))) (.cons (.for' (.nm 4) (.seq (.var 1)) (.cons (.asg (.nm 3) (.bin .add (.var 3) (.lm (.comp (.bin .add (.var 4) (.lm (.disp (.cons (.var 5) .nil)))) (.nm 5) [5] (.rng (.cons (.bin .sub (.cst (.int 0)) (.cst (.int 3))) (.cons (.cst (.int 4)) .nil))) .no)))) .nil)) (.cons (.asg (.nm 1) (.var 3)) .nil)))) (.cons (.ret (.var 1)) .nil)))
def b__law_fitting (i__law_rate i__law_powers i__law_low : Nat) : Ss := (.cons (.asg (.tp (.cons (.nm 1) (.cons (.nm 2) .nil))) (.ix (.var 0) (.cst (.int 0)))) (.cons (.own 3 (.disp .nil)) (.cons (.for' (.nm 4) (.seq (.call i__law_powers (.cons (.pri 0 (.cons (.var 1) .nil)) .nil))) (.cons (.asg (.nm 5) (.call i__law_rate (.cons (.tup (.cons (.tup (.cons (.cst (.int 1)) (.cons (.cst (.int 1)) .nil))) (.cons (.var 4) .nil))) (.cons (.var 1) .nil)))) (.cons (.app 3 (.tup (.cons (.call i__law_low (.cons (.bin .mul (.ix (.var 2) (.cst (.int 0))) (.ix (.var 5) (.cst (.int 1)))) (.cons (.bin .mul (.ix (.var 2) (.cst (.int 1))) (.ix (.var 5) (.cst (.int 0)))) .nil))) (.cons (.var 4) .nil)))) .nil))) (.cons (.for' (.tp (.cons (.nm 6) (.cons (.nm 7) .nil))) (.seq (.sl (.var 0) (.so (.cst (.int 1))) .no)) (.cons (.own 3 (.comp (.var 8) (.nm 8) [8] (.own 3) (.so (.bin .eq (.call i__law_rate (.cons (.var 8) (.cons (.var 6) .nil))) (.var 7))))) .nil)) (.cons (.frz 3 (.ret (.var 3))) .nil)))))
def b__law_only (i__law_error i_only_rule : Nat) : Ss := (.cons (.asg (.nm 1) (.cst .non)) (.cons (.asg (.nm 2) (.cst .non)) (.cons (.tryK (.cons (.asg (.nm 1) (.call i_only_rule (.cons (.var 0) .nil))) .nil) 3 2 0) (.cons (.ret (.ite (.bin .is (.var 2) (.cst .non)) (.var 1) (.call i__law_error (.cons (.var 2) .nil)))) .nil))))
def b_parts_of : Ss := (.cons (.own 1 (.disp (.cons (.lm (.disp .nil)) .nil))) (.cons (.for' (.nm 2) (.rng (.cons (.var 0) .nil)) (.cons (.ext 1 (.lm (.comp (.bin .add (.var 3) (.lm (.disp (.cons (.var 2) .nil)))) (.nm 3) [3] (.own 1) .no))) .nil)) (.cons (.ret (.lm (.comp (.ix (.var 3) (.cst (.int 1))) (.nm 3) [3] (.seq (.pri 7 (.cons (.lm (.comp (.tup (.cons (.pri 0 (.cons (.var 3) .nil)) (.cons (.var 3) .nil))) (.nm 3) [3] (.own 1) .no)) .nil))) .no))) .nil)))
def b_smallest_bar (i_parts_of i_fitting_of i_check_trials : Nat) : Ss := (.cons (.exp (.call i_check_trials (.cons (.var 0) .nil))) (.cons (.iff (.bin .ne (.call i_fitting_of (.cons (.var 0) .nil)) (.lm (.disp .nil))) (.cons (.rais 5) .nil) .nil) (.cons (.for' (.nm 1) (.seq (.call i_parts_of (.cons (.pri 0 (.cons (.var 0) .nil)) .nil))) (.cons (.iff (.and (.bin .gt (.pri 0 (.cons (.var 1) .nil)) (.cst (.int 1))) (.bin .eq (.call i_fitting_of (.cons (.lm (.comp (.ix (.var 0) (.var 2)) (.nm 2) [2] (.seq (.var 1)) .no)) .nil)) (.lm (.disp .nil)))) (.cons (.ret (.var 1)) .nil) .nil) .nil)) (.cons (.ret (.lm (.lrg (.pri 0 (.cons (.var 0) .nil))))) .nil))))
def b_first_barred (i_fitting_of i_check_trials : Nat) : Ss := (.cons (.exp (.call i_check_trials (.cons (.var 0) .nil))) (.cons (.for' (.nm 1) (.rng (.cons (.pri 0 (.cons (.var 0) .nil)) .nil)) (.cons (.iff (.bin .eq (.call i_fitting_of (.cons (.sl (.var 0) .no (.so (.bin .add (.var 1) (.cst (.int 1))))) .nil)) (.lm (.disp .nil))) (.cons (.ret (.var 1)) .nil) .nil) .nil)) (.cons (.ret (.cst .non)) .nil)))
def b_needless (i_fitting_of i_check_trials : Nat) : Ss := (.cons (.exp (.call i_check_trials (.cons (.var 0) .nil))) (.cons (.iff (.bin .eq (.pri 0 (.cons (.var 0) .nil)) (.cst (.int 1))) (.cons (.ret (.lm (.disp .nil))) .nil) .nil) (.cons (.asg (.nm 1) (.call i_fitting_of (.cons (.var 0) .nil))) (.cons (.ret (.lm (.comp (.var 2) (.nm 2) [2] (.rng (.cons (.pri 0 (.cons (.var 0) .nil)) .nil)) (.so (.bin .eq (.call i_fitting_of (.cons (.bin .add (.sl (.var 0) .no (.so (.var 2))) (.sl (.var 0) (.so (.bin .add (.var 2) (.cst (.int 1)))) .no)) .nil)) (.var 1)))))) .nil))))
def b__law_bar (i__law_error i_smallest_bar : Nat) : Ss := (.cons (.asg (.nm 1) (.cst .non)) (.cons (.asg (.nm 2) (.cst .non)) (.cons (.tryK (.cons (.asg (.nm 1) (.call i_smallest_bar (.cons (.var 0) .nil))) .nil) 3 2 0) (.cons (.ret (.ite (.bin .is (.var 2) (.cst .non)) (.var 1) (.call i__law_error (.cons (.var 2) .nil)))) .nil))))
def b__law_parts : Ss := (.cons (.asg (.nm 1) (.lm (.disp (.cons (.lm (.disp .nil)) .nil)))) (.cons (.for' (.nm 2) (.rng (.cons (.var 0) .nil)) (.cons (.asg (.nm 1) (.bin .add (.var 1) (.lm (.comp (.bin .add (.var 3) (.lm (.disp (.cons (.var 2) .nil)))) (.nm 3) [3] (.seq (.var 1)) .no)))) .nil)) (.cons (.asg (.nm 4) (.lm (.disp .nil))) (.cons (.for' (.nm 5) (.rng (.cons (.cst (.int 1)) (.cons (.bin .add (.var 0) (.cst (.int 1))) .nil))) (.cons (.asg (.nm 4) (.bin .add (.var 4) (.pri 7 (.cons (.lm (.comp (.var 3) (.nm 3) [3] (.seq (.var 1)) (.so (.bin .eq (.pri 0 (.cons (.var 3) .nil)) (.var 5))))) .nil)))) .nil)) (.cons (.ret (.var 4)) .nil)))))
def b_differing : Ss := (.cons (.ret (.lm (.comp (.var 2) (.nm 2) [2] (.rng (.cons (.pri 0 (.cons (.ix (.var 0) (.cst (.int 0))) .nil)) .nil)) (.so (.bin .ne (.ix (.ix (.var 0) (.cst (.int 0))) (.var 2)) (.ix (.ix (.var 1) (.cst (.int 0))) (.var 2))))))) .nil)
def b_single_pairs (i_differing i_check_quantity i_check_trials : Nat) : Ss := (.cons (.exp (.call i_check_trials (.cons (.var 0) .nil))) (.cons (.exp (.call i_check_quantity (.cons (.pri 0 (.cons (.ix (.ix (.var 0) (.cst (.int 0))) (.cst (.int 0))) .nil)) (.cons (.var 1) .nil)))) (.cons (.own 2 (.disp .nil)) (.cons (.for' (.nm 3) (.rng (.cons (.pri 0 (.cons (.var 0) .nil)) .nil)) (.cons (.ext 2 (.lm (.comp (.tup (.cons (.var 3) (.cons (.var 4) .nil))) (.nm 4) [4] (.rng (.cons (.bin .add (.var 3) (.cst (.int 1))) (.cons (.pri 0 (.cons (.var 0) .nil)) .nil))) (.so (.bin .eq (.call i_differing (.cons (.ix (.var 0) (.var 3)) (.cons (.ix (.var 0) (.var 4)) .nil))) (.lm (.disp (.cons (.var 1) .nil)))))))) .nil)) (.cons (.frz 2 (.ret (.var 2))) .nil)))))
def b_power_of_pair (i_power i_quotient : Nat) : Ss := (.cons (.asg (.nm 3) (.call i_quotient (.cons (.ix (.ix (.var 0) (.cst (.int 0))) (.var 2)) (.cons (.ix (.ix (.var 1) (.cst (.int 0))) (.var 2)) .nil)))) (.cons (.asg (.nm 4) (.call i_quotient (.cons (.ix (.var 0) (.cst (.int 1))) (.cons (.ix (.var 1) (.cst (.int 1))) .nil)))) (.cons (.asg (.nm 5) (.lm (.comp (.var 6) (.nm 6) [6] (.rng (.cons (.neg (.gl 0)) (.cons (.bin .add (.gl 0) (.cst (.int 1))) .nil))) (.so (.bin .eq (.call i_power (.cons (.var 3) (.cons (.var 6) .nil))) (.var 4)))))) (.cons (.ret (.ite (.bin .ne (.var 5) (.lm (.disp .nil))) (.ix (.var 5) (.cst (.int 0))) (.cst .non))) .nil))))
def b_told_powers (i_single_pairs i_power_of_pair i_check_quantity i_check_trials : Nat) : Ss := (.cons (.exp (.call i_check_trials (.cons (.var 0) .nil))) (.cons (.exp (.call i_check_quantity (.cons (.pri 0 (.cons (.ix (.ix (.var 0) (.cst (.int 0))) (.cst (.int 0))) .nil)) (.cons (.var 1) .nil)))) (.cons (.own 2 (.disp .nil)) (.cons (.for' (.tp (.cons (.nm 3) (.cons (.nm 4) .nil))) (.seq (.call i_single_pairs (.cons (.var 0) (.cons (.var 1) .nil)))) (.cons (.app 2 (.tup (.cons (.var 3) (.cons (.var 4) (.cons (.call i_power_of_pair (.cons (.ix (.var 0) (.var 3)) (.cons (.ix (.var 0) (.var 4)) (.cons (.var 1) .nil)))) .nil))))) .nil)) (.cons (.frz 2 (.ret (.var 2))) .nil)))))
def b_same_amounts (i_differing i_check_trials : Nat) : Ss := (.cons (.exp (.call i_check_trials (.cons (.var 0) .nil))) (.cons (.own 1 (.disp .nil)) (.cons (.for' (.nm 2) (.rng (.cons (.pri 0 (.cons (.var 0) .nil)) .nil)) (.cons (.ext 1 (.lm (.comp (.tup (.cons (.var 2) (.cons (.var 3) .nil))) (.nm 3) [3] (.rng (.cons (.bin .add (.var 2) (.cst (.int 1))) (.cons (.pri 0 (.cons (.var 0) .nil)) .nil))) (.so (.bin .eq (.call i_differing (.cons (.ix (.var 0) (.var 2)) (.cons (.ix (.var 0) (.var 3)) .nil))) (.lm (.disp .nil))))))) .nil)) (.cons (.frz 1 (.ret (.var 1))) .nil))))
def b_contradictions (i_same_amounts i_check_trials : Nat) : Ss := (.cons (.exp (.call i_check_trials (.cons (.var 0) .nil))) (.cons (.ret (.lm (.comp (.tup (.cons (.var 1) (.cons (.var 2) .nil))) (.tp (.cons (.nm 1) (.cons (.nm 2) .nil))) [1, 2] (.seq (.call i_same_amounts (.cons (.var 0) .nil))) (.so (.bin .ne (.ix (.ix (.var 0) (.var 1)) (.cst (.int 1))) (.ix (.ix (.var 0) (.var 2)) (.cst (.int 1)))))))) .nil))
def b__law_agreed (i__law_error i_agreed_power : Nat) : Ss := (.cons (.asg (.nm 2) (.cst .non)) (.cons (.asg (.nm 3) (.cst .non)) (.cons (.tryK (.cons (.asg (.nm 2) (.call i_agreed_power (.cons (.var 0) (.cons (.var 1) .nil)))) .nil) 4 3 0) (.cons (.ret (.ite (.bin .is (.var 3) (.cst .non)) (.var 2) (.call i__law_error (.cons (.var 3) .nil)))) .nil))))
def b__law_told (i__law_low i__law_rate : Nat) : Ss := (.cons (.own 3 (.disp .nil)) (.cons (.for' (.nm 4) (.rng (.cons (.bin .sub (.cst (.int 0)) (.cst (.int 3))) (.cons (.cst (.int 4)) .nil))) (.cons (.asg (.tp (.cons (.nm 5) (.cons (.nm 6) .nil))) (.lm (.comp (.call i__law_rate (.cons (.tup (.cons (.tup (.cons (.cst (.int 1)) (.cons (.cst (.int 1)) .nil))) (.cons (.lm (.disp (.cons (.var 4) .nil))) .nil))) (.cons (.lm (.disp (.cons (.ix (.ix (.var 7) (.cst (.int 0))) (.var 2)) .nil))) .nil))) (.nm 7) [7] (.seq (.tup (.cons (.var 0) (.cons (.var 1) .nil)))) .no))) (.cons (.iff (.bin .eq (.call i__law_low (.cons (.bin .mul (.ix (.var 5) (.cst (.int 0))) (.ix (.var 6) (.cst (.int 1)))) (.cons (.bin .mul (.ix (.var 5) (.cst (.int 1))) (.ix (.var 6) (.cst (.int 0)))) .nil))) (.call i__law_low (.cons (.bin .mul (.ix (.ix (.var 0) (.cst (.int 1))) (.cst (.int 0))) (.ix (.ix (.var 1) (.cst (.int 1))) (.cst (.int 1)))) (.cons (.bin .mul (.ix (.ix (.var 0) (.cst (.int 1))) (.cst (.int 1))) (.ix (.ix (.var 1) (.cst (.int 1))) (.cst (.int 0)))) .nil)))) (.cons (.app 3 (.var 4)) .nil) .nil) .nil))) (.cons (.ret (.ite (.ocmp .ne 3 (.lm (.disp .nil))) (.oix 3 (.cst (.int 0))) (.cst .non))) .nil)))
def b_counts_of (i_fitting_of i_rate_of : Nat) : Ss := (.cons (.own 2 (.disp .nil)) (.cons (.for' (.nm 3) (.seq (.call i_fitting_of (.cons (.var 0) .nil))) (.cons (.asg (.nm 4) (.call i_rate_of (.cons (.var 3) (.cons (.var 1) .nil)))) (.cons (.asg (.nm 5) (.lm (.comp (.var 6) (.tp (.cons (.nm 6) (.cons (.nm 7) .nil))) [6, 7] (.ownE 2) (.so (.bin .eq (.ix (.var 7) (.cst (.int 0))) (.var 4)))))) (.cons (.iff (.bin .eq (.var 5) (.lm (.disp .nil))) (.cons (.app 2 (.tup (.cons (.var 4) (.cons (.cst (.int 1)) .nil)))) .nil) (.cons (.set 2 (.ix (.var 5) (.cst (.int 0))) (.tup (.cons (.var 4) (.cons (.bin .add (.ix (.oix 2 (.ix (.var 5) (.cst (.int 0)))) (.cst (.int 1))) (.cst (.int 1))) .nil)))) .nil)) .nil)))) (.cons (.asg (.nm 8) (.lm (.disp .nil))) (.cons (.frz 2 (.for' (.nm 7) (.seq (.var 2)) (.cons (.asg (.nm 9) (.lm (.comp (.var 10) (.nm 10) [10] (.seq (.var 8)) (.so (.bin .lt (.bin .mul (.ix (.ix (.var 10) (.cst (.int 0))) (.cst (.int 0))) (.ix (.ix (.var 7) (.cst (.int 0))) (.cst (.int 1)))) (.bin .mul (.ix (.ix (.var 7) (.cst (.int 0))) (.cst (.int 0))) (.ix (.ix (.var 10) (.cst (.int 0))) (.cst (.int 1))))))))) (.cons (.asg (.nm 8) (.bin .add (.bin .add (.var 9) (.lm (.disp (.cons (.var 7) .nil)))) (.sl (.var 8) (.so (.pri 0 (.cons (.var 9) .nil))) .no))) .nil)))) (.cons (.ret (.var 8)) .nil)))))
def b_rates_for (i_counts_of i_check_amounts i_check_trials : Nat) : Ss := (.cons (.exp (.call i_check_trials (.cons (.var 0) .nil))) (.cons (.exp (.call i_check_amounts (.cons (.var 1) (.cons (.pri 0 (.cons (.ix (.ix (.var 0) (.cst (.int 0))) (.cst (.int 0))) .nil)) .nil)))) (.cons (.ret (.call i_counts_of (.cons (.var 0) (.cons (.var 1) .nil)))) .nil)))
def b_tells_all (i_counts_of i_check_amounts i_check_trials : Nat) : Ss := (.cons (.exp (.call i_check_trials (.cons (.var 0) .nil))) (.cons (.exp (.call i_check_amounts (.cons (.var 1) (.cons (.pri 0 (.cons (.ix (.ix (.var 0) (.cst (.int 0))) (.cst (.int 0))) .nil)) .nil)))) (.cons (.ret (.pri 2 (.cons (.lm (.comp (.bin .eq (.var 3) (.cst (.int 1))) (.tp (.cons (.nm 2) (.cons (.nm 3) .nil))) [2, 3] (.seq (.call i_counts_of (.cons (.var 0) (.cons (.var 1) .nil)))) .no)) .nil))) .nil)))
def b_tells_nothing (i_counts_of i_check_amounts i_check_trials : Nat) : Ss := (.cons (.exp (.call i_check_trials (.cons (.var 0) .nil))) (.cons (.exp (.call i_check_amounts (.cons (.var 1) (.cons (.pri 0 (.cons (.ix (.ix (.var 0) (.cst (.int 0))) (.cst (.int 0))) .nil)) .nil)))) (.cons (.ret (.bin .le (.pri 0 (.cons (.call i_counts_of (.cons (.var 0) (.cons (.var 1) .nil))) .nil)) (.cst (.int 1)))) .nil)))
def b_worst_left (i_counts_of i_check_amounts i_check_trials : Nat) : Ss := (.cons (.exp (.call i_check_trials (.cons (.var 0) .nil))) (.cons (.exp (.call i_check_amounts (.cons (.var 1) (.cons (.pri 0 (.cons (.ix (.ix (.var 0) (.cst (.int 0))) (.cst (.int 0))) .nil)) .nil)))) (.cons (.ret (.pri 4 (.cons (.bin .add (.lm (.disp (.cons (.cst (.int 0)) .nil))) (.lm (.comp (.var 3) (.tp (.cons (.nm 2) (.cons (.nm 3) .nil))) [2, 3] (.seq (.call i_counts_of (.cons (.var 0) (.cons (.var 1) .nil)))) .no))) .nil))) .nil)))
def b_best_amounts (i_counts_of i_check_amounts i_check_trials : Nat) : Ss := (.cons (.exp (.call i_check_trials (.cons (.var 0) .nil))) (.cons (.iff (.or (.not (.isi (.var 1) "list")) (.bin .eq (.var 1) (.lm (.disp .nil)))) (.cons (.rais 2) .nil) .nil) (.cons (.for' (.nm 2) (.seq (.var 1)) (.cons (.exp (.call i_check_amounts (.cons (.var 2) (.cons (.pri 0 (.cons (.ix (.ix (.var 0) (.cst (.int 0))) (.cst (.int 0))) .nil)) .nil)))) .nil)) (.cons (.asg (.nm 3) (.lm (.comp (.pri 4 (.cons (.bin .add (.lm (.disp (.cons (.cst (.int 0)) .nil))) (.lm (.comp (.var 5) (.tp (.cons (.nm 4) (.cons (.nm 5) .nil))) [4, 5] (.seq (.call i_counts_of (.cons (.var 0) (.cons (.var 2) .nil)))) .no))) .nil)) (.nm 2) [2] (.seq (.var 1)) .no))) (.cons (.ret (.bmt 1 (.var 3) (.cons (.pri 5 (.cons (.var 3) .nil)) .nil))) .nil)))))
def b_same_rates (i_rate_of i_check_trials i_check_rule : Nat) : Ss := (.cons (.exp (.call i_check_rule (.cons (.var 0) .nil))) (.cons (.exp (.call i_check_rule (.cons (.var 1) .nil))) (.cons (.exp (.call i_check_trials (.cons (.var 2) .nil))) (.cons (.asg (.nm 3) (.pri 0 (.cons (.ix (.ix (.var 2) (.cst (.int 0))) (.cst (.int 0))) .nil))) (.cons (.iff (.or (.bin .ne (.pri 0 (.cons (.ix (.var 0) (.cst (.int 1))) .nil)) (.var 3)) (.bin .ne (.pri 0 (.cons (.ix (.var 1) (.cst (.int 1))) .nil)) (.var 3))) (.cons (.rais 2) .nil) .nil) (.cons (.ret (.lm (.comp (.var 4) (.tp (.cons (.nm 4) (.cons (.tp (.cons (.nm 5) (.cons (.nm 6) .nil))) .nil))) [4, 5, 6] (.enm (.cons (.var 2) .nil)) (.so (.bin .eq (.call i_rate_of (.cons (.var 0) (.cons (.var 5) .nil))) (.call i_rate_of (.cons (.var 1) (.cons (.var 5) .nil)))))))) .nil))))))
def b__law_less : Ss := (.cons (.ret (.bin .lt (.bin .mul (.ix (.var 0) (.cst (.int 0))) (.ix (.var 1) (.cst (.int 1)))) (.bin .mul (.ix (.var 1) (.cst (.int 0))) (.ix (.var 0) (.cst (.int 1)))))) .nil)
def b_less : Ss := (.cons (.ret (.bin .lt (.bin .mul (.ix (.var 0) (.cst (.int 0))) (.ix (.var 1) (.cst (.int 1)))) (.bin .mul (.ix (.var 1) (.cst (.int 0))) (.ix (.var 0) (.cst (.int 1)))))) .nil)
def b_root_of : Ss := (.cons (.asg (.tp (.cons (.nm 2) (.cons (.nm 3) .nil))) (.tup (.cons (.cst (.int 1)) (.cons (.var 0) .nil)))) (.cons (.whl (muD 2 3) (.bin .lt (.var 2) (.var 3)) (.cons (.asg (.nm 4) (.bin .fdiv (.bin .add (.var 2) (.var 3)) (.cst (.int 2)))) (.cons (.asg (.nm 5) (.cst (.int 1))) (.cons (.for' (.nm 6) (.rng (.cons (.var 1) .nil)) (.cons (.imul 5 (.var 4)) .nil)) (.cons (.iff (.bin .lt (.var 5) (.var 0)) (.cons (.asg (.nm 2) (.bin .add (.var 4) (.cst (.int 1)))) .nil) (.cons (.asg (.nm 3) (.var 4)) .nil)) .nil))))) (.cons (.asg (.nm 5) (.cst (.int 1))) (.cons (.for' (.nm 6) (.rng (.cons (.var 1) .nil)) (.cons (.imul 5 (.var 2)) .nil)) (.cons (.ret (.ite (.bin .eq (.var 5) (.var 0)) (.var 2) (.cst .non))) .nil)))))
def b_amount_for (i_root_of i_quotient i_rate_of i_check_amount i_check_quantity i_check_amounts i_check_rule : Nat) : Ss := (.cons (.exp (.call i_check_rule (.cons (.var 0) .nil))) (.cons (.exp (.call i_check_amounts (.cons (.var 1) (.cons (.pri 0 (.cons (.ix (.var 0) (.cst (.int 1))) .nil)) .nil)))) (.cons (.exp (.call i_check_quantity (.cons (.pri 0 (.cons (.ix (.var 0) (.cst (.int 1))) .nil)) (.cons (.var 2) .nil)))) (.cons (.exp (.call i_check_amount (.cons (.var 3) .nil))) (.cons (.asg (.nm 4) (.ix (.ix (.var 0) (.cst (.int 1))) (.var 2))) (.cons (.iff (.bin .eq (.var 4) (.cst (.int 0))) (.cons (.rais 5) .nil) .nil) (.cons (.own 5 (.of (.cons (.var 1) .nil))) (.cons (.set 5 (.var 2) (.tup (.cons (.cst (.int 1)) (.cons (.cst (.int 1)) .nil)))) (.cons (.frz 5 (.asg (.nm 6) (.call i_quotient (.cons (.var 3) (.cons (.call i_rate_of (.cons (.var 0) (.cons (.var 5) .nil))) .nil))))) (.cons (.iff (.bin .lt (.var 4) (.cst (.int 0))) (.cons (.asg (.nm 6) (.tup (.cons (.ix (.var 6) (.cst (.int 1))) (.cons (.ix (.var 6) (.cst (.int 0))) .nil)))) .nil) .nil) (.cons (.asg (.tp (.cons (.nm 7) (.cons (.nm 8) .nil))) (.tup (.cons (.call i_root_of (.cons (.ix (.var 6) (.cst (.int 0))) (.cons (.pri 1 (.cons (.var 4) .nil)) .nil))) (.cons (.call i_root_of (.cons (.ix (.var 6) (.cst (.int 1))) (.cons (.pri 1 (.cons (.var 4) .nil)) .nil))) .nil)))) (.cons (.iff (.or (.bin .is (.var 7) (.cst .non)) (.bin .is (.var 8) (.cst .non))) (.cons (.rais 5) .nil) .nil) (.cons (.ret (.tup (.cons (.var 7) (.cons (.var 8) .nil)))) .nil)))))))))))))
def b_is_faster (i_less i_rate_of i_check_amounts i_check_rule : Nat) : Ss := (.cons (.exp (.call i_check_rule (.cons (.var 0) .nil))) (.cons (.exp (.call i_check_amounts (.cons (.var 1) (.cons (.pri 0 (.cons (.ix (.var 0) (.cst (.int 1))) .nil)) .nil)))) (.cons (.exp (.call i_check_amounts (.cons (.var 2) (.cons (.pri 0 (.cons (.ix (.var 0) (.cst (.int 1))) .nil)) .nil)))) (.cons (.ret (.call i_less (.cons (.call i_rate_of (.cons (.var 0) (.cons (.var 2) .nil))) (.cons (.call i_rate_of (.cons (.var 0) (.cons (.var 1) .nil))) .nil)))) .nil))))
def b_order_of_rates (i_less i_rate_of i_check_amounts i_check_rule : Nat) : Ss := (.cons (.exp (.call i_check_rule (.cons (.var 0) .nil))) (.cons (.iff (.not (.isi (.var 1) "list")) (.cons (.rais 2) .nil) .nil) (.cons (.for' (.nm 2) (.seq (.var 1)) (.cons (.exp (.call i_check_amounts (.cons (.var 2) (.cons (.pri 0 (.cons (.ix (.var 0) (.cst (.int 1))) .nil)) .nil)))) .nil)) (.cons (.asg (.nm 3) (.lm (.disp .nil))) (.cons (.for' (.tp (.cons (.nm 4) (.cons (.nm 2) .nil))) (.enm (.cons (.var 1) .nil)) (.cons (.asg (.nm 5) (.call i_rate_of (.cons (.var 0) (.cons (.var 2) .nil)))) (.cons (.asg (.nm 6) (.pri 0 (.cons (.lm (.comp (.var 7) (.nm 7) [7] (.seq (.var 3)) (.so (.not (.call i_less (.cons (.var 5) (.cons (.call i_rate_of (.cons (.var 0) (.cons (.ix (.var 1) (.var 7)) .nil))) .nil))))))) .nil))) (.cons (.asg (.nm 3) (.bin .add (.bin .add (.sl (.var 3) .no (.so (.var 6))) (.lm (.disp (.cons (.var 4) .nil)))) (.sl (.var 3) (.so (.var 6)) .no))) .nil)))) (.cons (.ret (.var 3)) .nil))))))
def b_crossing (i_root_of i_quotient i_rate_of i_check_quantity i_check_amounts i_check_rule : Nat) : Ss := (.cons (.exp (.call i_check_rule (.cons (.var 0) .nil))) (.cons (.exp (.call i_check_rule (.cons (.var 1) .nil))) (.cons (.exp (.call i_check_amounts (.cons (.var 2) (.cons (.pri 0 (.cons (.ix (.var 0) (.cst (.int 1))) .nil)) .nil)))) (.cons (.exp (.call i_check_amounts (.cons (.var 2) (.cons (.pri 0 (.cons (.ix (.var 1) (.cst (.int 1))) .nil)) .nil)))) (.cons (.exp (.call i_check_quantity (.cons (.pri 0 (.cons (.ix (.var 0) (.cst (.int 1))) .nil)) (.cons (.var 3) .nil)))) (.cons (.asg (.nm 4) (.bin .sub (.ix (.ix (.var 0) (.cst (.int 1))) (.var 3)) (.ix (.ix (.var 1) (.cst (.int 1))) (.var 3)))) (.cons (.iff (.bin .eq (.var 4) (.cst (.int 0))) (.cons (.rais 5) .nil) .nil) (.cons (.own 5 (.of (.cons (.var 2) .nil))) (.cons (.set 5 (.var 3) (.tup (.cons (.cst (.int 1)) (.cons (.cst (.int 1)) .nil)))) (.cons (.frz 5 (.asg (.nm 6) (.call i_quotient (.cons (.call i_rate_of (.cons (.var 1) (.cons (.var 5) .nil))) (.cons (.call i_rate_of (.cons (.var 0) (.cons (.var 5) .nil))) .nil))))) (.cons (.iff (.bin .lt (.var 4) (.cst (.int 0))) (.cons (.asg (.nm 6) (.tup (.cons (.ix (.var 6) (.cst (.int 1))) (.cons (.ix (.var 6) (.cst (.int 0))) .nil)))) .nil) .nil) (.cons (.asg (.tp (.cons (.nm 7) (.cons (.nm 8) .nil))) (.tup (.cons (.call i_root_of (.cons (.ix (.var 6) (.cst (.int 0))) (.cons (.pri 1 (.cons (.var 4) .nil)) .nil))) (.cons (.call i_root_of (.cons (.ix (.var 6) (.cst (.int 1))) (.cons (.pri 1 (.cons (.var 4) .nil)) .nil))) .nil)))) (.cons (.iff (.or (.bin .is (.var 7) (.cst .non)) (.bin .is (.var 8) (.cst .non))) (.cons (.rais 5) .nil) .nil) (.cons (.ret (.tup (.cons (.var 7) (.cons (.var 8) .nil)))) .nil))))))))))))))
def b__law_put : Ss := (.cons (.ret (.bin .add (.bin .add (.sl (.var 0) .no (.so (.var 1))) (.lm (.disp (.cons (.var 2) .nil)))) (.sl (.var 0) (.so (.bin .add (.var 1) (.cst (.int 1)))) .no))) .nil)
def b__law_ordered (i_is_faster i__law_true i__law_less i__law_rate i__law_amount i_order_of_rates i__law_draw : Nat) : Ss := (.cons (.asg (.nm 4) (.lm (.comp (.lm (.comp (.call i__law_amount (.cons (.var 0) .nil)) (.nm 5) [5] (.rng (.cons (.var 3) .nil)) .no)) (.nm 6) [6] (.rng (.cons (.call i__law_draw (.cons (.var 0) (.cons (.cst (.int 6)) .nil))) .nil)) .no))) (.cons (.asg (.nm 7) (.lm (.comp (.call i__law_rate (.cons (.var 1) (.cons (.var 8) .nil))) (.nm 8) [8] (.seq (.var 4)) .no))) (.cons (.own 9 (.disp .nil)) (.cons (.for' (.nm 5) (.rng (.cons (.pri 0 (.cons (.var 4) .nil)) .nil)) (.cons (.app 9 (.pri 0 (.cons (.lm (.comp (.var 6) (.nm 6) [6] (.rng (.cons (.pri 0 (.cons (.var 4) .nil)) .nil)) (.so (.or (.call i__law_less (.cons (.ix (.var 7) (.var 6)) (.cons (.ix (.var 7) (.var 5)) .nil))) (.and (.bin .eq (.ix (.var 7) (.var 6)) (.ix (.var 7) (.var 5))) (.bin .lt (.var 6) (.var 5))))))) .nil))) .nil)) (.cons (.asg (.nm 10) (.call i_order_of_rates (.cons (.var 1) (.cons (.var 4) .nil)))) (.cons (.iff (.or (.bin .ne (.pri 7 (.cons (.var 10) .nil)) (.lm (.lrg (.pri 0 (.cons (.var 4) .nil))))) (.bin .ne (.lm (.comp (.oix 9 (.var 5)) (.nm 5) [5] (.seq (.var 10)) .no)) (.lm (.lrg (.pri 0 (.cons (.var 4) .nil)))))) (.cons (.ret (.cst (.bl false))) .nil) .nil) (.cons (.asg (.nm 11) (.lm (.comp (.call i__law_amount (.cons (.var 0) .nil)) (.nm 5) [5] (.rng (.cons (.var 3) .nil)) .no))) (.cons (.ret (.and (.call i__law_true (.cons (.call i_is_faster (.cons (.var 1) (.cons (.var 2) (.cons (.var 11) .nil)))) (.cons (.call i__law_less (.cons (.call i__law_rate (.cons (.var 1) (.cons (.var 11) .nil))) (.cons (.call i__law_rate (.cons (.var 1) (.cons (.var 2) .nil))) .nil))) .nil))) (.bin .is (.call i_is_faster (.cons (.var 1) (.cons (.var 11) (.cons (.var 11) .nil)))) (.cst (.bl false))))) .nil))))))))
def b_checked (i_is_rule : Nat) : Ss := (.cons (.iff (.not (.call i_is_rule (.cons (.var 0) .nil))) (.cons (.rais 0) .nil) .nil) (.cons (.ret (.var 0)) .nil))
def b_in_units (i_quotient i_product i_power i_check_amount i_check_amounts i_check_rule : Nat) : Ss := (.cons (.exp (.call i_check_rule (.cons (.var 0) .nil))) (.cons (.exp (.call i_check_amounts (.cons (.var 1) (.cons (.pri 0 (.cons (.ix (.var 0) (.cst (.int 1))) .nil)) .nil)))) (.cons (.exp (.call i_check_amount (.cons (.var 2) .nil))) (.cons (.asg (.nm 3) (.ix (.var 0) (.cst (.int 0)))) (.cons (.for' (.tp (.cons (.nm 4) (.cons (.nm 5) .nil))) (.zip (.cons (.ix (.var 0) (.cst (.int 1))) (.cons (.var 1) .nil))) (.cons (.asg (.nm 3) (.call i_product (.cons (.var 3) (.cons (.call i_power (.cons (.var 5) (.cons (.var 4) .nil))) .nil)))) .nil)) (.cons (.ret (.tup (.cons (.call i_quotient (.cons (.var 3) (.cons (.var 2) .nil))) (.cons (.lm (.of (.cons (.ix (.var 0) (.cst (.int 1))) .nil))) .nil)))) .nil))))))
def b_scaled (i_product i_check_amount i_check_rule : Nat) : Ss := (.cons (.exp (.call i_check_rule (.cons (.var 0) .nil))) (.cons (.exp (.call i_check_amount (.cons (.var 1) .nil))) (.cons (.ret (.tup (.cons (.call i_product (.cons (.ix (.var 0) (.cst (.int 0))) (.cons (.var 1) .nil))) (.cons (.lm (.of (.cons (.ix (.var 0) (.cst (.int 1))) .nil))) .nil)))) .nil)))
def b_multiplied (i_checked i_product i_check_rule : Nat) : Ss := (.cons (.exp (.call i_check_rule (.cons (.var 0) .nil))) (.cons (.exp (.call i_check_rule (.cons (.var 1) .nil))) (.cons (.iff (.bin .ne (.pri 0 (.cons (.ix (.var 0) (.cst (.int 1))) .nil)) (.pri 0 (.cons (.ix (.var 1) (.cst (.int 1))) .nil))) (.cons (.rais 0) .nil) .nil) (.cons (.ret (.call i_checked (.cons (.tup (.cons (.call i_product (.cons (.ix (.var 0) (.cst (.int 0))) (.cons (.ix (.var 1) (.cst (.int 0))) .nil))) (.cons (.lm (.comp (.bin .add (.var 2) (.var 3)) (.tp (.cons (.nm 2) (.cons (.nm 3) .nil))) [2, 3] (.zip (.cons (.ix (.var 0) (.cst (.int 1))) (.cons (.ix (.var 1) (.cst (.int 1))) .nil))) .no)) .nil))) .nil))) .nil))))
def b_turned_over (i_check_rule : Nat) : Ss := (.cons (.exp (.call i_check_rule (.cons (.var 0) .nil))) (.cons (.ret (.tup (.cons (.tup (.cons (.ix (.ix (.var 0) (.cst (.int 0))) (.cst (.int 1))) (.cons (.ix (.ix (.var 0) (.cst (.int 0))) (.cst (.int 0))) .nil))) (.cons (.lm (.comp (.neg (.var 1)) (.nm 1) [1] (.seq (.ix (.var 0) (.cst (.int 1)))) .no)) .nil)))) .nil))
def b_with_fixed (i_product i_power i_check_amount i_check_quantity i_check_rule : Nat) : Ss := (.cons (.exp (.call i_check_rule (.cons (.var 0) .nil))) (.cons (.exp (.call i_check_quantity (.cons (.pri 0 (.cons (.ix (.var 0) (.cst (.int 1))) .nil)) (.cons (.var 1) .nil)))) (.cons (.exp (.call i_check_amount (.cons (.var 2) .nil))) (.cons (.iff (.bin .eq (.pri 0 (.cons (.ix (.var 0) (.cst (.int 1))) .nil)) (.cst (.int 1))) (.cons (.rais 0) .nil) .nil) (.cons (.ret (.tup (.cons (.call i_product (.cons (.ix (.var 0) (.cst (.int 0))) (.cons (.call i_power (.cons (.var 2) (.cons (.ix (.ix (.var 0) (.cst (.int 1))) (.var 1)) .nil))) .nil))) (.cons (.bin .add (.sl (.ix (.var 0) (.cst (.int 1))) .no (.so (.var 1))) (.sl (.ix (.var 0) (.cst (.int 1))) (.so (.bin .add (.var 1) (.cst (.int 1)))) .no)) .nil)))) .nil)))))
def b_without_power (i_check_quantity i_check_rule : Nat) : Ss := (.cons (.exp (.call i_check_rule (.cons (.var 0) .nil))) (.cons (.exp (.call i_check_quantity (.cons (.pri 0 (.cons (.ix (.var 0) (.cst (.int 1))) .nil)) (.cons (.var 1) .nil)))) (.cons (.ret (.tup (.cons (.ix (.var 0) (.cst (.int 0))) (.cons (.bin .add (.bin .add (.sl (.ix (.var 0) (.cst (.int 1))) .no (.so (.var 1))) (.lm (.disp (.cons (.cst (.int 0)) .nil)))) (.sl (.ix (.var 0) (.cst (.int 1))) (.so (.bin .add (.var 1) (.cst (.int 1)))) .no)) .nil)))) .nil)))
def b_swapped (i_check_quantity i_check_rule : Nat) : Ss := (.cons (.exp (.call i_check_rule (.cons (.var 0) .nil))) (.cons (.exp (.call i_check_quantity (.cons (.pri 0 (.cons (.ix (.var 0) (.cst (.int 1))) .nil)) (.cons (.var 1) .nil)))) (.cons (.exp (.call i_check_quantity (.cons (.pri 0 (.cons (.ix (.var 0) (.cst (.int 1))) .nil)) (.cons (.var 2) .nil)))) (.cons (.own 3 (.of (.cons (.ix (.var 0) (.cst (.int 1))) .nil))) (.cons (.set2 3 (.var 1) (.var 2) (.tup (.cons (.oix 3 (.var 2)) (.cons (.oix 3 (.var 1)) .nil)))) (.cons (.frz 3 (.ret (.tup (.cons (.ix (.var 0) (.cst (.int 0))) (.cons (.var 3) .nil))))) .nil))))))
def b__law_times (i__law_low : Nat) : Ss := (.cons (.ret (.call i__law_low (.cons (.bin .mul (.ix (.var 0) (.cst (.int 0))) (.ix (.var 1) (.cst (.int 0)))) (.cons (.bin .mul (.ix (.var 0) (.cst (.int 1))) (.ix (.var 1) (.cst (.int 1)))) .nil)))) .nil)
def b__law_turned (i_swapped i_turned_over i_rate i__law_rate i_without_power i__law_call i__law_draw i__law_times : Nat) : Ss := (.cons (.asg (.nm 4) (.call i_turned_over (.cons (.var 1) .nil))) (.cons (.iff (.or (.bin .ne (.var 4) (.tup (.cons (.tup (.cons (.ix (.ix (.var 1) (.cst (.int 0))) (.cst (.int 1))) (.cons (.ix (.ix (.var 1) (.cst (.int 0))) (.cst (.int 0))) .nil))) (.cons (.lm (.comp (.bin .sub (.cst (.int 0)) (.var 5)) (.nm 5) [5] (.seq (.ix (.var 1) (.cst (.int 1)))) .no)) .nil)))) (.bin .ne (.call i__law_times (.cons (.call i_rate (.cons (.var 4) (.cons (.var 2) .nil))) (.cons (.call i__law_rate (.cons (.var 1) (.cons (.var 2) .nil))) .nil))) (.tup (.cons (.cst (.int 1)) (.cons (.cst (.int 1)) .nil))))) (.cons (.ret (.cst (.bl false))) .nil) .nil) (.cons (.asg (.tp (.cons (.nm 6) (.cons (.nm 7) .nil))) (.tup (.cons (.call i__law_draw (.cons (.var 0) (.cons (.var 3) .nil))) (.cons (.call i__law_draw (.cons (.var 0) (.cons (.var 3) .nil))) .nil)))) (.cons (.asg (.nm 8) (.call i__law_call (.cons (.cst (.int 1)) (.cons (.var 1) (.cons (.var 6) (.cons (.ix (.var 2) (.var 6)) .nil)))))) (.cons (.iff (.bin .eq (.var 3) (.cst (.int 1))) (.cons (.iff (.bin .ne (.var 8) (.cst (.str "rule"))) (.cons (.ret (.cst (.bl false))) .nil) .nil) .nil) (.cons (.iff (.bin .ne (.call i_rate (.cons (.var 8) (.cons (.bin .add (.sl (.var 2) .no (.so (.var 6))) (.sl (.var 2) (.so (.bin .add (.var 6) (.cst (.int 1)))) .no)) .nil))) (.call i__law_rate (.cons (.var 1) (.cons (.var 2) .nil)))) (.cons (.ret (.cst (.bl false))) .nil) .nil) .nil)) (.cons (.iff (.bin .ne (.call i_without_power (.cons (.var 1) (.cons (.var 6) .nil))) (.tup (.cons (.ix (.var 1) (.cst (.int 0))) (.cons (.bin .add (.bin .add (.sl (.ix (.var 1) (.cst (.int 1))) .no (.so (.var 6))) (.lm (.disp (.cons (.cst (.int 0)) .nil)))) (.sl (.ix (.var 1) (.cst (.int 1))) (.so (.bin .add (.var 6) (.cst (.int 1)))) .no)) .nil)))) (.cons (.ret (.cst (.bl false))) .nil) .nil) (.cons (.own 9 (.of (.cons (.var 2) .nil))) (.cons (.set2 9 (.var 6) (.var 7) (.tup (.cons (.ix (.var 2) (.var 7)) (.cons (.ix (.var 2) (.var 6)) .nil)))) (.cons (.frz 9 (.ret (.and (.bin .eq (.call i_rate (.cons (.call i_swapped (.cons (.var 1) (.cons (.var 6) (.cons (.var 7) .nil)))) (.cons (.var 9) .nil))) (.call i__law_rate (.cons (.var 1) (.cons (.var 2) .nil)))) (.and (.bin .eq (.call i_turned_over (.cons (.var 4) .nil)) (.var 1)) (.bin .eq (.call i_swapped (.cons (.var 1) (.cons (.var 7) (.cons (.var 7) .nil)))) (.var 1)))))) .nil)))))))))
def b_format_rule (i_text_of i_check_rule : Nat) : Ss := (.cons (.exp (.call i_check_rule (.cons (.var 0) .nil))) (.cons (.ret (.call i_text_of (.cons (.var 0) .nil))) .nil))
def b__law_parsed (i__law_error i_parse_rule : Nat) : Ss := (.cons (.asg (.nm 1) (.cst .non)) (.cons (.asg (.nm 2) (.cst .non)) (.cons (.tryK (.cons (.asg (.nm 1) (.call i_parse_rule (.cons (.var 0) .nil))) .nil) 3 2 0) (.cons (.ret (.ite (.bin .is (.var 2) (.cst .non)) (.var 1) (.call i__law_error (.cons (.var 2) .nil)))) .nil))))
def b__law_plain (i_crossing i_same_rates i_first_miss i_fits i_multiplied i_scaled i_format_rule i_turned_over i_unit_power i_order : Nat) : Ss := (.cons (.iff (.bin .eq (.var 0) (.cst (.int 13))) (.cons (.ret (.call i_order (.cons (.var 1) .nil))) .nil) .nil) (.cons (.iff (.bin .eq (.var 0) (.cst (.int 14))) (.cons (.ret (.call i_unit_power (.cons (.var 1) .nil))) .nil) .nil) (.cons (.iff (.bin .eq (.var 0) (.cst (.int 15))) (.cons (.ret (.call i_turned_over (.cons (.var 1) .nil))) .nil) .nil) (.cons (.iff (.bin .eq (.var 0) (.cst (.int 16))) (.cons (.ret (.call i_format_rule (.cons (.var 1) .nil))) .nil) .nil) (.cons (.iff (.bin .eq (.var 0) (.cst (.int 17))) (.cons (.ret (.call i_scaled (.cons (.var 1) (.cons (.tup (.cons (.cst (.int 1)) (.cons (.cst (.int 1)) .nil))) .nil)))) .nil) .nil) (.cons (.iff (.bin .eq (.var 0) (.cst (.int 18))) (.cons (.ret (.call i_multiplied (.cons (.var 1) (.cons (.tup (.cons (.tup (.cons (.cst (.int 1)) (.cons (.cst (.int 1)) .nil))) (.cons (.lm (.disp (.cons (.cst (.int 0)) (.cons (.cst (.int 0)) .nil)))) .nil))) .nil)))) .nil) .nil) (.cons (.iff (.bin .eq (.var 0) (.cst (.int 19))) (.cons (.ret (.call i_multiplied (.cons (.tup (.cons (.tup (.cons (.cst (.int 1)) (.cons (.cst (.int 1)) .nil))) (.cons (.lm (.disp (.cons (.cst (.int 0)) (.cons (.cst (.int 0)) .nil)))) .nil))) (.cons (.var 1) .nil)))) .nil) .nil) (.cons (.iff (.bin .eq (.var 0) (.cst (.int 20))) (.cons (.ret (.call i_fits (.cons (.var 1) (.cons (.lm (.disp (.cons (.tup (.cons (.bin .mul (.lm (.disp (.cons (.tup (.cons (.cst (.int 1)) (.cons (.cst (.int 1)) .nil))) .nil))) (.cst (.int 2))) (.cons (.tup (.cons (.cst (.int 1)) (.cons (.cst (.int 1)) .nil))) .nil))) .nil))) .nil)))) .nil) .nil) (.cons (.iff (.bin .eq (.var 0) (.cst (.int 21))) (.cons (.ret (.call i_first_miss (.cons (.var 1) (.cons (.lm (.disp (.cons (.tup (.cons (.bin .mul (.lm (.disp (.cons (.tup (.cons (.cst (.int 1)) (.cons (.cst (.int 1)) .nil))) .nil))) (.cst (.int 2))) (.cons (.tup (.cons (.cst (.int 1)) (.cons (.cst (.int 1)) .nil))) .nil))) .nil))) .nil)))) .nil) .nil) (.cons (.iff (.bin .eq (.var 0) (.cst (.int 22))) (.cons (.ret (.call i_same_rates (.cons (.var 1) (.cons (.tup (.cons (.tup (.cons (.cst (.int 1)) (.cons (.cst (.int 1)) .nil))) (.cons (.lm (.disp (.cons (.cst (.int 0)) (.cons (.cst (.int 0)) .nil)))) .nil))) (.cons (.lm (.disp (.cons (.tup (.cons (.bin .mul (.lm (.disp (.cons (.tup (.cons (.cst (.int 1)) (.cons (.cst (.int 1)) .nil))) .nil))) (.cst (.int 2))) (.cons (.tup (.cons (.cst (.int 1)) (.cons (.cst (.int 1)) .nil))) .nil))) .nil))) .nil))))) .nil) .nil) (.cons (.iff (.bin .eq (.var 0) (.cst (.int 23))) (.cons (.ret (.call i_same_rates (.cons (.tup (.cons (.tup (.cons (.cst (.int 1)) (.cons (.cst (.int 1)) .nil))) (.cons (.lm (.disp (.cons (.cst (.int 0)) (.cons (.cst (.int 0)) .nil)))) .nil))) (.cons (.var 1) (.cons (.lm (.disp (.cons (.tup (.cons (.bin .mul (.lm (.disp (.cons (.tup (.cons (.cst (.int 1)) (.cons (.cst (.int 1)) .nil))) .nil))) (.cst (.int 2))) (.cons (.tup (.cons (.cst (.int 1)) (.cons (.cst (.int 1)) .nil))) .nil))) .nil))) .nil))))) .nil) .nil) (.cons (.ret (.call i_crossing (.cons (.tup (.cons (.tup (.cons (.cst (.int 1)) (.cons (.cst (.int 1)) .nil))) (.cons (.lm (.disp (.cons (.cst (.int 1)) (.cons (.cst (.int 1)) .nil)))) .nil))) (.cons (.var 1) (.cons (.bin .mul (.lm (.disp (.cons (.tup (.cons (.cst (.int 1)) (.cons (.cst (.int 1)) .nil))) .nil))) (.cst (.int 2))) (.cons (.cst (.int 0)) .nil)))))) .nil))))))))))))
def b__law_on_law (i__law_plain i_swapped i_without_power i_with_fixed i_growth i_crossing i_amount_for i_order_of_rates i_is_faster i_in_units i_trial i_rate : Nat) : Ss := (.cons (.iff (.bin .eq (.var 0) (.cst (.int 0))) (.cons (.ret (.call i_rate (.cons (.var 1) (.cons (.var 2) .nil)))) .nil) .nil) (.cons (.iff (.bin .eq (.var 0) (.cst (.int 1))) (.cons (.ret (.call i_trial (.cons (.var 1) (.cons (.var 2) .nil)))) .nil) .nil) (.cons (.iff (.bin .eq (.var 0) (.cst (.int 2))) (.cons (.ret (.call i_in_units (.cons (.var 1) (.cons (.var 2) (.cons (.tup (.cons (.cst (.int 1)) (.cons (.cst (.int 1)) .nil))) .nil))))) .nil) .nil) (.cons (.iff (.bin .eq (.var 0) (.cst (.int 3))) (.cons (.ret (.call i_is_faster (.cons (.var 1) (.cons (.var 2) (.cons (.bin .mul (.lm (.disp (.cons (.tup (.cons (.cst (.int 1)) (.cons (.cst (.int 1)) .nil))) .nil))) (.cst (.int 2))) .nil))))) .nil) .nil) (.cons (.iff (.bin .eq (.var 0) (.cst (.int 4))) (.cons (.ret (.call i_is_faster (.cons (.var 1) (.cons (.bin .mul (.lm (.disp (.cons (.tup (.cons (.cst (.int 1)) (.cons (.cst (.int 1)) .nil))) .nil))) (.cst (.int 2))) (.cons (.var 2) .nil))))) .nil) .nil) (.cons (.iff (.bin .eq (.var 0) (.cst (.int 5))) (.cons (.ret (.call i_order_of_rates (.cons (.var 1) (.cons (.lm (.disp (.cons (.bin .mul (.lm (.disp (.cons (.tup (.cons (.cst (.int 1)) (.cons (.cst (.int 1)) .nil))) .nil))) (.cst (.int 2))) (.cons (.var 2) .nil)))) .nil)))) .nil) .nil) (.cons (.iff (.bin .eq (.var 0) (.cst (.int 6))) (.cons (.ret (.call i_amount_for (.cons (.var 1) (.cons (.var 2) (.cons (.var 3) (.cons (.tup (.cons (.cst (.int 1)) (.cons (.cst (.int 1)) .nil))) .nil)))))) .nil) .nil) (.cons (.iff (.bin .eq (.var 0) (.cst (.int 7))) (.cons (.ret (.call i_crossing (.cons (.var 1) (.cons (.tup (.cons (.tup (.cons (.cst (.int 1)) (.cons (.cst (.int 1)) .nil))) (.cons (.lm (.disp (.cons (.cst (.int 0)) (.cons (.cst (.int 0)) .nil)))) .nil))) (.cons (.var 2) (.cons (.var 3) .nil)))))) .nil) .nil) (.cons (.iff (.bin .eq (.var 0) (.cst (.int 8))) (.cons (.ret (.call i_growth (.cons (.var 1) (.cons (.var 3) (.cons (.tup (.cons (.cst (.int 1)) (.cons (.cst (.int 1)) .nil))) .nil))))) .nil) .nil) (.cons (.iff (.bin .eq (.var 0) (.cst (.int 9))) (.cons (.ret (.call i_with_fixed (.cons (.var 1) (.cons (.var 3) (.cons (.tup (.cons (.cst (.int 1)) (.cons (.cst (.int 1)) .nil))) .nil))))) .nil) .nil) (.cons (.iff (.bin .eq (.var 0) (.cst (.int 10))) (.cons (.ret (.call i_without_power (.cons (.var 1) (.cons (.var 3) .nil)))) .nil) .nil) (.cons (.iff (.bin .eq (.var 0) (.cst (.int 11))) (.cons (.ret (.call i_swapped (.cons (.var 1) (.cons (.var 3) (.cons (.cst (.int 0)) .nil))))) .nil) .nil) (.cons (.iff (.bin .eq (.var 0) (.cst (.int 12))) (.cons (.ret (.call i_swapped (.cons (.var 1) (.cons (.cst (.int 0)) (.cons (.var 3) .nil))))) .nil) .nil) (.cons (.ret (.call i__law_plain (.cons (.var 0) (.cons (.var 1) .nil)))) .nil))))))))))))))
def b__law_on_trials (i_best_amounts i_same_rates i_worst_left i_tells_nothing i_tells_all i_rates_for i_agreed_power i_told_powers i_single_pairs i_powers_for i_first_miss i_fits i_contradictions i_same_amounts i_needless i_first_barred i_count_fitting i_fitting : Nat) : Ss := (.cons (.iff (.bin .eq (.var 0) (.cst (.int 0))) (.cons (.ret (.call i_fitting (.cons (.var 1) .nil))) .nil) .nil) (.cons (.iff (.bin .eq (.var 0) (.cst (.int 1))) (.cons (.ret (.call i_count_fitting (.cons (.var 1) .nil))) .nil) .nil) (.cons (.iff (.bin .eq (.var 0) (.cst (.int 2))) (.cons (.ret (.call i_first_barred (.cons (.var 1) .nil))) .nil) .nil) (.cons (.iff (.bin .eq (.var 0) (.cst (.int 3))) (.cons (.ret (.call i_needless (.cons (.var 1) .nil))) .nil) .nil) (.cons (.iff (.bin .eq (.var 0) (.cst (.int 4))) (.cons (.ret (.call i_same_amounts (.cons (.var 1) .nil))) .nil) .nil) (.cons (.iff (.bin .eq (.var 0) (.cst (.int 5))) (.cons (.ret (.call i_contradictions (.cons (.var 1) .nil))) .nil) .nil) (.cons (.iff (.bin .eq (.var 0) (.cst (.int 6))) (.cons (.ret (.call i_fits (.cons (.tup (.cons (.tup (.cons (.cst (.int 1)) (.cons (.cst (.int 1)) .nil))) (.cons (.lm (.disp (.cons (.cst (.int 0)) (.cons (.cst (.int 0)) .nil)))) .nil))) (.cons (.var 1) .nil)))) .nil) .nil) (.cons (.iff (.bin .eq (.var 0) (.cst (.int 7))) (.cons (.ret (.call i_first_miss (.cons (.tup (.cons (.tup (.cons (.cst (.int 1)) (.cons (.cst (.int 1)) .nil))) (.cons (.lm (.disp (.cons (.cst (.int 0)) (.cons (.cst (.int 0)) .nil)))) .nil))) (.cons (.var 1) .nil)))) .nil) .nil) (.cons (.iff (.bin .eq (.var 0) (.cst (.int 8))) (.cons (.ret (.call i_powers_for (.cons (.var 1) (.cons (.var 2) .nil)))) .nil) .nil) (.cons (.iff (.bin .eq (.var 0) (.cst (.int 9))) (.cons (.ret (.call i_single_pairs (.cons (.var 1) (.cons (.var 2) .nil)))) .nil) .nil) (.cons (.iff (.bin .eq (.var 0) (.cst (.int 10))) (.cons (.ret (.call i_told_powers (.cons (.var 1) (.cons (.var 2) .nil)))) .nil) .nil) (.cons (.iff (.bin .eq (.var 0) (.cst (.int 11))) (.cons (.ret (.call i_agreed_power (.cons (.var 1) (.cons (.var 2) .nil)))) .nil) .nil) (.cons (.iff (.bin .eq (.var 0) (.cst (.int 12))) (.cons (.ret (.call i_rates_for (.cons (.var 1) (.cons (.var 2) .nil)))) .nil) .nil) (.cons (.iff (.bin .eq (.var 0) (.cst (.int 13))) (.cons (.ret (.call i_tells_all (.cons (.var 1) (.cons (.var 2) .nil)))) .nil) .nil) (.cons (.iff (.bin .eq (.var 0) (.cst (.int 14))) (.cons (.ret (.call i_tells_nothing (.cons (.var 1) (.cons (.var 2) .nil)))) .nil) .nil) (.cons (.iff (.bin .eq (.var 0) (.cst (.int 15))) (.cons (.ret (.call i_worst_left (.cons (.var 1) (.cons (.var 2) .nil)))) .nil) .nil) (.cons (.ret (.ite (.bin .eq (.var 0) (.cst (.int 16))) (.call i_best_amounts (.cons (.var 1) (.cons (.lm (.disp (.cons (.bin .mul (.lm (.disp (.cons (.tup (.cons (.cst (.int 1)) (.cons (.cst (.int 1)) .nil))) .nil))) (.cst (.int 2))) (.cons (.var 2) .nil)))) .nil))) (.call i_same_rates (.cons (.tup (.cons (.tup (.cons (.cst (.int 1)) (.cons (.cst (.int 1)) .nil))) (.cons (.lm (.disp (.cons (.cst (.int 0)) (.cons (.cst (.int 0)) .nil)))) .nil))) (.cons (.tup (.cons (.tup (.cons (.cst (.int 1)) (.cons (.cst (.int 1)) .nil))) (.cons (.lm (.disp (.cons (.cst (.int 0)) (.cons (.cst (.int 0)) .nil)))) .nil))) (.cons (.var 1) .nil)))))) .nil)))))))))))))))))
def b__law_trialed (i_is_amount i_is_rule i_is_trials i__law_asked : Nat) : Ss := (.cons (.asg (.nm 1) (.lm (.disp (.cons (.tup (.cons (.var 0) (.cons (.tup (.cons (.cst (.int 1)) (.cons (.cst (.int 1)) .nil))) .nil))) (.cons (.tup (.cons (.bin .mul (.lm (.disp (.cons (.tup (.cons (.cst (.int 1)) (.cons (.cst (.int 1)) .nil))) .nil))) (.cst (.int 2))) (.cons (.tup (.cons (.cst (.int 3)) (.cons (.cst (.int 1)) .nil))) .nil))) .nil))))) (.cons (.asg (.nm 2) (.lm (.disp (.cons (.cst .non) (.cons (.cst (.int 5)) (.cons (.tup .nil) (.cons (.lm (.disp .nil)) (.cons (.bin .mul (.var 1) (.cst (.int 5))) (.cons (.pri 6 (.cons (.var 1) .nil)) (.cons (.lm (.disp (.cons (.cst .non) .nil))) (.cons (.lm (.disp (.cons (.tup (.cons (.var 0) .nil)) .nil))) (.cons (.lm (.disp (.cons (.lm (.disp (.cons (.var 0) (.cons (.tup (.cons (.cst (.int 1)) (.cons (.cst (.int 1)) .nil))) .nil)))) .nil))) (.cons (.lm (.disp (.cons (.tup (.cons (.pri 6 (.cons (.var 0) .nil)) (.cons (.tup (.cons (.cst (.int 1)) (.cons (.cst (.int 1)) .nil))) .nil))) .nil))) (.cons (.lm (.disp (.cons (.tup (.cons (.var 0) (.cons (.tup (.cons (.cst (.int 0)) (.cons (.cst (.int 1)) .nil))) .nil))) .nil))) (.cons (.lm (.disp (.cons (.tup (.cons (.var 0) (.cons (.tup (.cons (.cst (.int 2)) (.cons (.cst (.int 4)) .nil))) .nil))) .nil))) (.cons (.lm (.disp (.cons (.tup (.cons (.var 0) (.cons (.cst (.int 1)) .nil))) .nil))) (.cons (.lm (.disp (.cons (.tup (.cons (.var 0) (.cons (.tup (.cons (.cst (.int 1)) (.cons (.cst (.int 1)) .nil))) .nil))) (.cons (.tup (.cons (.lm (.disp (.cons (.tup (.cons (.cst (.int 1)) (.cons (.cst (.int 1)) .nil))) .nil))) (.cons (.tup (.cons (.cst (.int 1)) (.cons (.cst (.int 1)) .nil))) .nil))) .nil)))) (.cons (.lm (.disp (.cons (.tup (.cons (.lm (.disp .nil)) (.cons (.tup (.cons (.cst (.int 1)) (.cons (.cst (.int 1)) .nil))) .nil))) .nil))) (.cons (.lm (.disp (.cons (.tup (.cons (.bin .mul (.lm (.disp (.cons (.tup (.cons (.cst (.int 1)) (.cons (.cst (.int 1)) .nil))) .nil))) (.cst (.int 4))) (.cons (.tup (.cons (.cst (.int 1)) (.cons (.cst (.int 1)) .nil))) .nil))) .nil))) (.cons (.lm (.disp (.cons (.tup (.cons (.lm (.disp (.cons (.tup (.cons (.cst (.int 1)) (.cons (.cst (.int 1)) .nil))) (.cons (.tup (.cons (.cst (.int 0)) (.cons (.cst (.int 1)) .nil))) .nil)))) (.cons (.tup (.cons (.cst (.int 1)) (.cons (.cst (.int 1)) .nil))) .nil))) .nil))) (.cons (.lm (.disp (.cons (.tup (.cons (.var 0) (.cons (.tup (.cons (.cst (.int 1)) (.cons (.cst (.int 1)) .nil))) (.cons (.cst (.int 0)) .nil)))) .nil))) .nil))))))))))))))))))))) (.cons (.for' (.nm 3) (.seq (.var 2)) (.cons (.iff (.or (.bin .isn (.call i_is_trials (.cons (.var 3) .nil)) (.cst (.bl false))) (.bin .ne (.lm (.comp (.call i__law_asked (.cons (.cst (.int 2)) (.cons (.var 4) (.cons (.var 3) (.cons (.cst .non) (.cons (.cst (.int 0)) .nil)))))) (.nm 4) [4] (.rng (.cons (.cst (.int 18)) .nil)) .no)) (.bin .mul (.lm (.disp (.cons (.cst (.str "trials")) .nil))) (.cst (.int 18))))) (.cons (.ret (.cst (.bl false))) .nil) .nil) .nil)) (.cons (.for' (.nm 3) (.seq (.lm (.disp (.cons (.cst .non) (.cons (.cst (.int 2)) (.cons (.bin .sub (.cst (.int 0)) (.cst (.int 1))) (.cons (.cst (.bl true)) (.cons (.cst (.str "0")) .nil)))))))) (.cons (.iff (.bin .ne (.lm (.comp (.call i__law_asked (.cons (.cst (.int 2)) (.cons (.var 4) (.cons (.var 1) (.cons (.var 3) (.cons (.cst (.int 0)) .nil)))))) (.nm 4) [4] (.rng (.cons (.cst (.int 8)) (.cons (.cst (.int 12)) .nil))) .no)) (.bin .mul (.lm (.disp (.cons (.cst (.str "number")) .nil))) (.cst (.int 4)))) (.cons (.ret (.cst (.bl false))) .nil) .nil) .nil)) (.cons (.for' (.nm 3) (.seq (.lm (.disp (.cons (.cst .non) (.cons (.lm (.disp .nil)) (.cons (.sl (.var 0) .no (.so (.cst (.int 1)))) (.cons (.bin .add (.var 0) (.var 0)) (.cons (.pri 6 (.cons (.var 0) .nil)) (.cons (.lm (.disp (.cons (.tup (.cons (.cst (.int 1)) (.cons (.cst (.int 1)) .nil))) (.cons (.tup (.cons (.cst (.int 2)) (.cons (.cst (.int 4)) .nil))) .nil)))) (.cons (.lm (.disp (.cons (.tup (.cons (.cst (.int 1)) (.cons (.cst (.int 1)) .nil))) (.cons (.tup (.cons (.cst (.int 0)) (.cons (.cst (.int 1)) .nil))) .nil)))) .nil)))))))))) (.cons (.iff (.bin .ne (.lm (.comp (.call i__law_asked (.cons (.cst (.int 2)) (.cons (.var 4) (.cons (.var 1) (.cons (.var 3) (.cons (.cst (.int 0)) .nil)))))) (.nm 4) [4] (.rng (.cons (.cst (.int 12)) (.cons (.cst (.int 17)) .nil))) .no)) (.bin .mul (.lm (.disp (.cons (.cst (.str "amounts")) .nil))) (.cst (.int 5)))) (.cons (.ret (.cst (.bl false))) .nil) .nil) .nil)) (.cons (.iff (.or (.bin .ne (.lm (.comp (.call i__law_asked (.cons (.cst (.int 2)) (.cons (.var 4) (.cons (.var 1) (.cons (.cst (.int 0)) (.cons (.cst (.int 0)) .nil)))))) (.nm 4) [4] (.rng (.cons (.cst (.int 11)) .nil)) .no)) (.bin .mul (.lm (.disp (.cons (.cst (.str "done")) .nil))) (.cst (.int 11)))) (.bin .ne (.lm (.comp (.call i__law_asked (.cons (.cst (.int 2)) (.cons (.var 4) (.cons (.var 1) (.cons (.var 0) (.cons (.cst (.int 0)) .nil)))))) (.nm 4) [4] (.rng (.cons (.cst (.int 12)) (.cons (.cst (.int 18)) .nil))) .no)) (.bin .mul (.lm (.disp (.cons (.cst (.str "done")) .nil))) (.cst (.int 6))))) (.cons (.ret (.cst (.bl false))) .nil) .nil) (.cons (.ret (.and (.bin .is (.call i_is_trials (.cons (.bin .mul (.var 1) (.cst (.int 4))) .nil)) (.cst (.bl true))) (.and (.bin .is (.call i_is_rule (.cons (.tup (.cons (.tup (.cons (.cst (.int 1)) (.cons (.cst (.int 1)) .nil))) (.cons (.lm (.disp (.cons (.cst (.int 3)) (.cons (.bin .sub (.cst (.int 0)) (.cst (.int 3))) (.cons (.cst (.int 0)) .nil))))) .nil))) .nil)) (.cst (.bl true))) (.and (.bin .is (.call i_is_amount (.cons (.tup (.cons (.cst (.int 7)) (.cons (.cst (.int 3)) .nil))) .nil)) (.cst (.bl true))) (.bin .is (.call i_is_amount (.cons (.tup (.cons (.cst (.int 0)) (.cons (.cst (.int 1)) .nil))) .nil)) (.cst (.bl false))))))) .nil)))))))
def b__law_none (i_crossing i_amount_for i_agreed_power i_smallest_bar i_only_rule : Nat) : Ss := (.cons (.iff (.bin .eq (.var 0) (.cst (.int 12))) (.cons (.ret (.call i_only_rule (.cons (.var 1) .nil))) .nil) .nil) (.cons (.iff (.bin .eq (.var 0) (.cst (.int 13))) (.cons (.ret (.call i_smallest_bar (.cons (.var 1) .nil))) .nil) .nil) (.cons (.iff (.bin .eq (.var 0) (.cst (.int 14))) (.cons (.ret (.call i_agreed_power (.cons (.var 1) (.cons (.var 2) .nil)))) .nil) .nil) (.cons (.iff (.bin .eq (.var 0) (.cst (.int 15))) (.cons (.ret (.call i_amount_for (.cons (.var 1) (.cons (.var 4) (.cons (.var 2) (.cons (.tup (.cons (.cst (.int 5)) (.cons (.cst (.int 1)) .nil))) .nil)))))) .nil) .nil) (.cons (.iff (.bin .eq (.var 0) (.cst (.int 16))) (.cons (.ret (.call i_crossing (.cons (.var 3) (.cons (.var 1) (.cons (.var 4) (.cons (.var 2) .nil)))))) .nil) .nil) (.cons (.ret (.ite (.bin .eq (.var 0) (.cst (.int 17))) (.call i_crossing (.cons (.var 1) (.cons (.var 3) (.cons (.sl (.var 4) .no (.so (.cst (.int 1)))) (.cons (.var 2) .nil))))) (.call i_crossing (.cons (.var 1) (.cons (.var 1) (.cons (.sl (.var 4) .no (.so (.cst (.int 1)))) (.cons (.var 2) .nil))))))) .nil))))))
def b__law_found (i__law_table i__law_asked i_smallest_bar i_crossing i_tells_nothing i_tells_all i_best_amounts i_rates_for i_worst_left : Nat) : Ss := (.cons (.asg (.nm 1) (.lm (.disp (.cons (.tup (.cons (.lm (.disp (.cons (.tup (.cons (.cst (.int 1)) (.cons (.cst (.int 1)) .nil))) (.cons (.tup (.cons (.cst (.int 1)) (.cons (.cst (.int 1)) .nil))) .nil)))) (.cons (.tup (.cons (.cst (.int 1)) (.cons (.cst (.int 1)) .nil))) .nil))) (.cons (.tup (.cons (.lm (.disp (.cons (.tup (.cons (.cst (.int 2)) (.cons (.cst (.int 1)) .nil))) (.cons (.tup (.cons (.cst (.int 1)) (.cons (.cst (.int 1)) .nil))) .nil)))) (.cons (.tup (.cons (.cst (.int 4)) (.cons (.cst (.int 1)) .nil))) .nil))) (.cons (.tup (.cons (.lm (.disp (.cons (.tup (.cons (.cst (.int 1)) (.cons (.cst (.int 1)) .nil))) (.cons (.tup (.cons (.cst (.int 2)) (.cons (.cst (.int 1)) .nil))) .nil)))) (.cons (.tup (.cons (.cst (.int 2)) (.cons (.cst (.int 1)) .nil))) .nil))) .nil)))))) (.cons (.iff (.bin .ne (.lm (.comp (.call i__law_asked (.cons (.cst (.int 12)) (.cons (.var 2) (.cons (.cst (.int 0)) .nil)))) (.nm 2) [2] (.seq (.tup (.cons (.sl (.var 1) .no (.so (.cst (.int 2)))) (.cons (.var 1) (.cons (.bin .add (.var 1) (.lm (.disp (.cons (.tup (.cons (.ix (.ix (.var 1) (.cst (.int 0))) (.cst (.int 0))) (.cons (.tup (.cons (.cst (.int 5)) (.cons (.cst (.int 1)) .nil))) .nil))) .nil)))) .nil))))) .no)) (.lm (.disp (.cons (.cst (.str "none")) (.cons (.cst (.str "done")) (.cons (.cst (.str "none")) .nil)))))) (.cons (.ret (.cst (.bl false))) .nil) .nil) (.cons (.asg (.nm 3) (.bin .add (.var 1) (.lm (.disp (.cons (.tup (.cons (.ix (.ix (.var 1) (.cst (.int 0))) (.cst (.int 0))) (.cons (.tup (.cons (.cst (.int 5)) (.cons (.cst (.int 1)) .nil))) .nil))) .nil))))) (.cons (.iff (.or (.bin .ne (.call i_worst_left (.cons (.var 3) (.cons (.ix (.ix (.var 1) (.cst (.int 0))) (.cst (.int 0))) .nil))) (.cst (.int 0))) (.or (.bin .ne (.call i_rates_for (.cons (.var 3) (.cons (.ix (.ix (.var 1) (.cst (.int 0))) (.cst (.int 0))) .nil))) (.lm (.disp .nil))) (.bin .ne (.call i_best_amounts (.cons (.var 3) (.cons (.lm (.disp (.cons (.ix (.ix (.var 1) (.cst (.int 0))) (.cst (.int 0))) .nil))) .nil))) (.cst (.int 0))))) (.cons (.ret (.cst (.bl false))) .nil) .nil) (.cons (.iff (.or (.bin .isn (.call i_tells_all (.cons (.var 3) (.cons (.ix (.ix (.var 1) (.cst (.int 0))) (.cst (.int 0))) .nil))) (.cst (.bl true))) (.bin .isn (.call i_tells_nothing (.cons (.var 3) (.cons (.ix (.ix (.var 1) (.cst (.int 0))) (.cst (.int 0))) .nil))) (.cst (.bl true)))) (.cons (.ret (.cst (.bl false))) .nil) .nil) (.cons (.iff (.bin .ne (.call i__law_asked (.cons (.cst (.int 14)) (.cons (.lm (.disp (.cons (.ix (.var 1) (.cst (.int 0))) (.cons (.tup (.cons (.lm (.disp (.cons (.tup (.cons (.cst (.int 2)) (.cons (.cst (.int 1)) .nil))) (.cons (.tup (.cons (.cst (.int 1)) (.cons (.cst (.int 1)) .nil))) .nil)))) (.cons (.tup (.cons (.cst (.int 16)) (.cons (.cst (.int 1)) .nil))) .nil))) .nil)))) (.cons (.cst (.int 0)) .nil)))) (.cst (.str "none"))) (.cons (.ret (.cst (.bl false))) .nil) .nil) (.cons (.asg (.tp (.cons (.nm 4) (.cons (.nm 5) .nil))) (.tup (.cons (.tup (.cons (.tup (.cons (.cst (.int 1)) (.cons (.cst (.int 1)) .nil))) (.cons (.lm (.disp (.cons (.cst (.int 1)) (.cons (.cst (.int 1)) (.cons (.cst (.int 2)) .nil))))) .nil))) (.cons (.tup (.cons (.tup (.cons (.cst (.int 2)) (.cons (.cst (.int 1)) .nil))) (.cons (.lm (.disp (.cons (.cst (.int 1)) (.cons (.cst (.int 1)) (.cons (.cst (.int 1)) .nil))))) .nil))) .nil)))) (.cons (.iff (.bin .ne (.call i_crossing (.cons (.var 4) (.cons (.var 5) (.cons (.bin .mul (.lm (.disp (.cons (.tup (.cons (.cst (.int 1)) (.cons (.cst (.int 1)) .nil))) .nil))) (.cst (.int 3))) (.cons (.cst (.int 2)) .nil))))) (.tup (.cons (.cst (.int 2)) (.cons (.cst (.int 1)) .nil)))) (.cons (.ret (.cst (.bl false))) .nil) .nil) (.cons (.iff (.or (.bin .ne (.lm (.comp (.call i__law_asked (.cons (.cst (.int 13)) (.cons (.var 2) (.cons (.cst (.int 0)) .nil)))) (.nm 2) [2] (.seq (.tup (.cons (.var 1) (.cons (.var 3) .nil)))) .no)) (.lm (.disp (.cons (.cst (.str "none")) (.cons (.cst (.str "done")) .nil))))) (.bin .ne (.call i_smallest_bar (.cons (.var 3) .nil)) (.lm (.disp (.cons (.cst (.int 0)) (.cons (.cst (.int 3)) .nil)))))) (.cons (.ret (.cst (.bl false))) .nil) .nil) (.cons (.asg (.nm 6) (.lm (.disp (.cons (.tup (.cons (.sl (.var 1) .no (.so (.cst (.int 1)))) (.cons (.cst (.int 0)) .nil))) (.cons (.tup (.cons (.var 1) (.cons (.cst (.int 0)) .nil))) (.cons (.tup (.cons (.var 1) (.cons (.cst (.int 1)) .nil))) .nil)))))) (.cons (.asg (.nm 6) (.bin .add (.var 6) (.lm (.comp (.tup (.cons (.bin .add (.var 1) (.lm (.disp (.cons (.tup (.cons (.lm (.disp (.cons (.tup (.cons (.var 7) (.cons (.cst (.int 1)) .nil))) (.cons (.tup (.cons (.cst (.int 1)) (.cons (.cst (.int 1)) .nil))) .nil)))) (.cons (.tup (.cons (.cst (.int 4)) (.cons (.cst (.int 1)) .nil))) .nil))) .nil)))) (.cons (.cst (.int 0)) .nil))) (.nm 7) [7] (.seq (.tup (.cons (.cst (.int 3)) (.cons (.cst (.int 4)) .nil)))) .no)))) (.cons (.iff (.bin .ne (.lm (.comp (.call i__law_asked (.cons (.cst (.int 14)) (.cons (.var 2) (.cons (.var 7) .nil)))) (.tp (.cons (.nm 2) (.cons (.nm 7) .nil))) [2, 7] (.seq (.var 6)) .no)) (.lm (.disp (.cons (.cst (.str "none")) (.cons (.cst (.str "done")) (.cons (.cst (.str "done")) (.cons (.cst (.str "none")) (.cons (.cst (.str "none")) .nil)))))))) (.cons (.ret (.cst (.bl false))) .nil) .nil) (.cons (.iff (.bin .ne (.lm (.comp (.call i__law_asked (.cons (.cst (.int 15)) (.cons (.tup (.cons (.tup (.cons (.cst (.int 1)) (.cons (.cst (.int 1)) .nil))) (.cons (.lm (.disp (.cons (.var 7) (.cons (.cst (.int 1)) .nil)))) .nil))) (.cons (.cst (.int 0)) .nil)))) (.nm 7) [7] (.seq (.tup (.cons (.cst (.int 0)) (.cons (.cst (.int 1)) (.cons (.cst (.int 2)) .nil))))) .no)) (.lm (.disp (.cons (.cst (.str "none")) (.cons (.cst (.str "done")) (.cons (.cst (.str "none")) .nil)))))) (.cons (.ret (.cst (.bl false))) .nil) .nil) (.cons (.asg (.nm 8) (.lm (.disp (.cons (.tup (.cons (.tup (.cons (.cst (.int 2)) (.cons (.cst (.int 1)) .nil))) (.cons (.lm (.disp (.cons (.cst (.int 2)) (.cons (.cst (.int 1)) .nil)))) .nil))) (.cons (.tup (.cons (.tup (.cons (.cst (.int 4)) (.cons (.cst (.int 1)) .nil))) (.cons (.lm (.disp (.cons (.cst (.int 0)) (.cons (.bin .sub (.cst (.int 0)) (.cst (.int 1))) .nil)))) .nil))) (.cons (.tup (.cons (.tup (.cons (.cst (.int 8)) (.cons (.cst (.int 1)) .nil))) (.cons (.lm (.disp (.cons (.cst (.int 0)) (.cons (.bin .sub (.cst (.int 0)) (.cst (.int 1))) .nil)))) .nil))) .nil)))))) (.cons (.iff (.bin .ne (.lm (.comp (.call i__law_asked (.cons (.cst (.int 16)) (.cons (.var 2) (.cons (.cst (.int 0)) .nil)))) (.nm 2) [2] (.seq (.var 8)) .no)) (.lm (.disp (.cons (.cst (.str "none")) (.cons (.cst (.str "none")) (.cons (.cst (.str "done")) .nil)))))) (.cons (.ret (.cst (.bl false))) .nil) .nil) (.cons (.ret (.and (.bin .eq (.call i__law_asked (.cons (.cst (.int 17)) (.cons (.var 0) (.cons (.cst (.int 0)) .nil)))) (.cst (.str "amounts"))) (.and (.bin .eq (.call i__law_asked (.cons (.cst (.int 18)) (.cons (.var 0) (.cons (.cst (.int 1)) .nil)))) (.cst (.str "number"))) (.and (.bin .eq (.call i__law_asked (.cons (.cst (.int 16)) (.cons (.var 0) (.cons (.cst (.int 0)) .nil)))) (.cst (.str "amounts"))) (.call i__law_table .nil))))) .nil))))))))))))))))
def b__law_first (i_worst_left i_told_powers i_count_fitting i_rate : Nat) : Ss := (.cons (.iff (.or (.bin .ne (.call i_rate (.cons (.var 0) (.cons (.lm (.disp (.cons (.tup (.cons (.cst (.int 3)) (.cons (.cst (.int 1)) .nil))) (.cons (.tup (.cons (.cst (.int 2)) (.cons (.cst (.int 1)) .nil))) .nil)))) .nil))) (.tup (.cons (.cst (.int 9)) (.cons (.cst (.int 1)) .nil)))) (.or (.bin .ne (.call i_count_fitting (.cons (.var 1) .nil)) (.cst (.int 7))) (.bin .ne (.call i_told_powers (.cons (.var 1) (.cons (.cst (.int 0)) .nil))) (.lm (.disp (.cons (.tup (.cons (.cst (.int 0)) (.cons (.cst (.int 1)) (.cons (.cst (.int 2)) .nil)))) .nil)))))) (.cons (.ret (.cst (.bl false))) .nil) .nil) (.cons (.ret (.bin .eq (.call i_worst_left (.cons (.var 1) (.cons (.lm (.disp (.cons (.tup (.cons (.cst (.int 1)) (.cons (.cst (.int 1)) .nil))) (.cons (.tup (.cons (.cst (.int 2)) (.cons (.cst (.int 1)) .nil))) .nil)))) .nil))) (.cst (.int 1)))) .nil))
def b__law_second (i_format_rule i_in_units i_amount_for : Nat) : Ss := (.cons (.iff (.or (.bin .ne (.call i_amount_for (.cons (.var 0) (.cons (.lm (.disp (.cons (.tup (.cons (.cst (.int 1)) (.cons (.cst (.int 1)) .nil))) (.cons (.tup (.cons (.cst (.int 2)) (.cons (.cst (.int 1)) .nil))) .nil)))) (.cons (.cst (.int 0)) (.cons (.tup (.cons (.cst (.int 4)) (.cons (.cst (.int 1)) .nil))) .nil))))) (.tup (.cons (.cst (.int 2)) (.cons (.cst (.int 1)) .nil)))) (.bin .ne (.call i_in_units (.cons (.var 0) (.cons (.lm (.disp (.cons (.tup (.cons (.cst (.int 10)) (.cons (.cst (.int 1)) .nil))) (.cons (.tup (.cons (.cst (.int 1)) (.cons (.cst (.int 1)) .nil))) .nil)))) (.cons (.tup (.cons (.cst (.int 1)) (.cons (.cst (.int 1)) .nil))) .nil)))) (.tup (.cons (.tup (.cons (.cst (.int 200)) (.cons (.cst (.int 1)) .nil))) (.cons (.lm (.disp (.cons (.cst (.int 2)) (.cons (.bin .sub (.cst (.int 0)) (.cst (.int 1))) .nil)))) .nil))))) (.cons (.ret (.cst (.bl false))) .nil) .nil) (.cons (.ret (.bin .eq (.call i_format_rule (.cons (.var 0) .nil)) (.cst (.str "2 A^2 B^-1")))) .nil))
def b__law_product (i__law_error i_multiplied : Nat) : Ss := (.cons (.asg (.nm 2) (.cst .non)) (.cons (.asg (.nm 3) (.cst .non)) (.cons (.tryK (.cons (.asg (.nm 2) (.call i_multiplied (.cons (.var 0) (.cons (.var 1) .nil)))) .nil) 4 3 0) (.cons (.ret (.ite (.bin .is (.var 3) (.cst .non)) (.var 2) (.call i__law_error (.cons (.var 3) .nil)))) .nil))))
def b__law_tests (i_worst_left i_best_amounts i_tells_nothing i_tells_all i_count_fitting i_needless i_powers_for i_only_rule i_fitting i_single_pairs i_agreed_power i_trial : Nat) : Ss := (.cons (.asg (.nm 2) (.bin .mul (.lm (.disp (.cons (.tup (.cons (.cst (.int 1)) (.cons (.cst (.int 1)) .nil))) .nil))) (.var 1))) (.cons (.own 3 (.disp (.cons (.call i_trial (.cons (.var 0) (.cons (.var 2) .nil))) .nil))) (.cons (.for' (.nm 4) (.rng (.cons (.var 1) .nil)) (.cons (.app 3 (.call i_trial (.cons (.var 0) (.cons (.bin .add (.bin .add (.sl (.var 2) .no (.so (.var 4))) (.lm (.disp (.cons (.tup (.cons (.cst (.int 2)) (.cons (.cst (.int 1)) .nil))) .nil)))) (.sl (.var 2) (.so (.bin .add (.var 4) (.cst (.int 1)))) .no)) .nil)))) (.cons (.iff (.or (.bin .ne (.callO i_agreed_power true 3 (.var 4)) (.ix (.ix (.var 0) (.cst (.int 1))) (.var 4))) (.bin .ne (.callO i_single_pairs true 3 (.var 4)) (.lm (.disp (.cons (.tup (.cons (.cst (.int 0)) (.cons (.bin .add (.var 4) (.cst (.int 1))) .nil))) .nil))))) (.cons (.ret (.cst (.bl false))) .nil) .nil) .nil))) (.cons (.frz 3 (.iff (.or (.bin .ne (.call i_fitting (.cons (.var 3) .nil)) (.lm (.disp (.cons (.var 0) .nil)))) (.or (.bin .ne (.call i_only_rule (.cons (.var 3) .nil)) (.var 0)) (.bin .ne (.lm (.comp (.call i_powers_for (.cons (.var 3) (.cons (.var 5) .nil))) (.nm 5) [5] (.rng (.cons (.var 1) .nil)) .no)) (.lm (.comp (.lm (.disp (.cons (.var 6) .nil))) (.nm 6) [6] (.seq (.ix (.var 0) (.cst (.int 1)))) .no))))) (.cons (.ret (.cst (.bl false))) .nil) .nil)) (.cons (.frz 3 (.iff (.or (.bin .ne (.lm (.comp (.var 5) (.nm 5) [5] (.seq (.call i_needless (.cons (.var 3) .nil))) (.so (.bin .gt (.var 5) (.cst (.int 0)))))) (.lm (.disp .nil))) (.or (.bin .isn (.call i_tells_nothing (.cons (.var 3) (.cons (.var 2) .nil))) (.cst (.bl true))) (.bin .isn (.call i_tells_all (.cons (.var 3) (.cons (.var 2) .nil))) (.cst (.bl true))))) (.cons (.ret (.cst (.bl false))) .nil) .nil)) (.cons (.frz 3 (.asg (.nm 7) (.sl (.var 3) .no (.so (.neg (.cst (.int 1))))))) (.cons (.iff (.or (.bin .ne (.call i_count_fitting (.cons (.var 7) .nil)) (.cst (.int 7))) (.or (.bin .isn (.call i_tells_all (.cons (.var 7) (.cons (.ix (.oix 3 (.neg (.cst (.int 1)))) (.cst (.int 0))) .nil))) (.cst (.bl true))) (.bin .isn (.call i_tells_nothing (.cons (.var 7) (.cons (.var 2) .nil))) (.cst (.bl true))))) (.cons (.ret (.cst (.bl false))) .nil) .nil) (.cons (.ret (.and (.bin .eq (.call i_best_amounts (.cons (.var 7) (.cons (.lm (.disp (.cons (.var 2) (.cons (.ix (.oix 3 (.neg (.cst (.int 1)))) (.cst (.int 0))) .nil)))) .nil))) (.cst (.int 1))) (.bin .eq (.call i_worst_left (.cons (.var 7) (.cons (.var 2) .nil))) (.cst (.int 7))))) .nil))))))))
def b__law_cross (i__law_error i_crossing : Nat) : Ss := (.cons (.asg (.nm 4) (.cst .non)) (.cons (.asg (.nm 5) (.cst .non)) (.cons (.tryK (.cons (.asg (.nm 4) (.call i_crossing (.cons (.var 0) (.cons (.var 1) (.cons (.var 2) (.cons (.var 3) .nil)))))) .nil) 6 5 0) (.cons (.ret (.ite (.bin .is (.var 5) (.cst .non)) (.var 4) (.call i__law_error (.cons (.var 5) .nil)))) .nil))))
def b__law_alone (i_order i_swapped i_rate i__law_draw i__law_low i_growth i_is_faster i_amount_for : Nat) : Ss := (.cons (.iff (.bin .ne (.ix (.ix (.var 1) (.cst (.int 1))) (.var 4)) (.cst (.int 0))) (.cons (.iff (.or (.bin .ne (.call i_amount_for (.cons (.var 1) (.cons (.var 3) (.cons (.var 4) (.cons (.var 6) .nil))))) (.var 5)) (.bin .isn (.call i_is_faster (.cons (.var 1) (.cons (.var 2) (.cons (.var 2) .nil)))) (.cst (.bl false)))) (.cons (.ret (.cst (.bl false))) .nil) .nil) (.cons (.asg (.nm 8) (.bin .add (.bin .add (.sl (.var 3) .no (.so (.var 4))) (.lm (.disp (.cons (.call i__law_low (.cons (.bin .mul (.ix (.var 5) (.cst (.int 0))) (.cst (.int 3))) (.cons (.ix (.var 5) (.cst (.int 1))) .nil))) .nil)))) (.sl (.var 3) (.so (.bin .add (.var 4) (.cst (.int 1)))) .no))) (.cons (.iff (.or (.bin .ne (.call i_is_faster (.cons (.var 1) (.cons (.var 8) (.cons (.var 2) .nil)))) (.bin .gt (.ix (.ix (.var 1) (.cst (.int 1))) (.var 4)) (.cst (.int 0)))) (.bin .ne (.call i_is_faster (.cons (.var 1) (.cons (.var 2) (.cons (.var 8) .nil)))) (.bin .lt (.ix (.ix (.var 1) (.cst (.int 1))) (.var 4)) (.cst (.int 0))))) (.cons (.ret (.cst (.bl false))) .nil) .nil) (.cons (.asg (.nm 9) (.call i_growth (.cons (.var 1) (.cons (.var 4) (.cons (.tup (.cons (.cst (.int 3)) (.cons (.cst (.int 1)) .nil))) .nil))))) (.cons (.iff (.bin .ne (.call i_rate (.cons (.var 1) (.cons (.var 8) .nil))) (.call i__law_low (.cons (.bin .mul (.ix (.var 6) (.cst (.int 0))) (.ix (.var 9) (.cst (.int 0)))) (.cons (.bin .mul (.ix (.var 6) (.cst (.int 1))) (.ix (.var 9) (.cst (.int 1)))) .nil)))) (.cons (.ret (.cst (.bl false))) .nil) .nil) .nil))))) .nil) (.cons (.asg (.nm 10) (.call i__law_draw (.cons (.var 0) (.cons (.var 7) .nil)))) (.cons (.own 11 (.of (.cons (.var 2) .nil))) (.cons (.set2 11 (.var 4) (.var 10) (.tup (.cons (.ix (.var 2) (.var 10)) (.cons (.ix (.var 2) (.var 4)) .nil)))) (.cons (.frz 11 (.ret (.and (.bin .eq (.call i_rate (.cons (.call i_swapped (.cons (.var 1) (.cons (.var 10) (.cons (.var 4) .nil)))) (.cons (.var 11) .nil))) (.var 6)) (.and (.bin .eq (.call i_swapped (.cons (.call i_swapped (.cons (.var 1) (.cons (.var 4) (.cons (.var 10) .nil)))) (.cons (.var 4) (.cons (.var 10) .nil)))) (.var 1)) (.bin .eq (.call i_order (.cons (.call i_swapped (.cons (.var 1) (.cons (.var 4) (.cons (.var 10) .nil)))) .nil)) (.call i_order (.cons (.var 1) .nil))))))) .nil)))))
def b__law_for (i__law_error i_amount_for : Nat) : Ss := (.cons (.asg (.nm 4) (.cst .non)) (.cons (.asg (.nm 5) (.cst .non)) (.cons (.tryK (.cons (.asg (.nm 4) (.call i_amount_for (.cons (.var 0) (.cons (.var 1) (.cons (.var 2) (.cons (.var 3) .nil)))))) .nil) 6 5 0) (.cons (.ret (.ite (.bin .is (.var 5) (.cst .non)) (.var 4) (.call i__law_error (.cons (.var 5) .nil)))) .nil))))
end RL

/-! plain mathematics of fractions: no program in sight -/
namespace RL
/-- in lowest terms -/
def low (a b : Int) : Int × Int := (a / (Int.gcd a b : Int), b / (Int.gcd a b : Int))
/-- an amount: positive, in lowest terms -/
def Am (x : Int × Int) : Prop := 0 < x.1 ∧ 0 < x.2 ∧ Int.gcd x.1 x.2 = 1
theorem natLow {a b c d : Nat} (ha : 0 < a) (hb : 0 < b) (hc : 0 < c) (hd : 0 < d) (h : a * d = c * b) : a / Nat.gcd a b = c / Nat.gcd c d ∧ b / Nat.gcd a b = d / Nat.gcd c d := by
  have g1 : 0 < Nat.gcd a b := Nat.gcd_pos_of_pos_left _ ha
  have g2 : 0 < Nat.gcd c d := Nat.gcd_pos_of_pos_left _ hc
  obtain ⟨a', ea⟩ := Nat.gcd_dvd_left a b
  obtain ⟨b', eb⟩ := Nat.gcd_dvd_right a b
  obtain ⟨c', ec⟩ := Nat.gcd_dvd_left c d
  obtain ⟨d', ed⟩ := Nat.gcd_dvd_right c d
  have e1 : a / Nat.gcd a b = a' := Nat.div_eq_of_eq_mul_right g1 ea
  have e2 : b / Nat.gcd a b = b' := Nat.div_eq_of_eq_mul_right g1 eb
  have e3 : c / Nat.gcd c d = c' := Nat.div_eq_of_eq_mul_right g2 ec
  have e4 : d / Nat.gcd c d = d' := Nat.div_eq_of_eq_mul_right g2 ed
  have k1 : Nat.Coprime a' b' := by rw [← e1, ← e2]; exact Nat.coprime_div_gcd_div_gcd g1
  have k2 : Nat.Coprime c' d' := by rw [← e3, ← e4]; exact Nat.coprime_div_gcd_div_gcd g2
  have h2 : a' * d' = c' * b' := by
    have : (Nat.gcd a b * Nat.gcd c d) * (a' * d') = (Nat.gcd a b * Nat.gcd c d) * (c' * b') := by
      have q : (Nat.gcd a b * a') * (Nat.gcd c d * d') = (Nat.gcd c d * c') * (Nat.gcd a b * b') := by rw [← ea, ← eb, ← ec, ← ed]; exact h
      simpa only [Nat.mul_comm, Nat.mul_assoc, Nat.mul_left_comm] using q
    exact Nat.eq_of_mul_eq_mul_left (Nat.mul_pos g1 g2) this
  have d1 : a' ∣ c' := k1.dvd_of_dvd_mul_right (by rw [← h2]; exact Nat.dvd_mul_right _ _)
  have d2 : c' ∣ a' := k2.dvd_of_dvd_mul_right (by rw [h2]; exact Nat.dvd_mul_right _ _)
  have e5 : a' = c' := Nat.dvd_antisymm d1 d2
  have pa : 0 < a' := by rw [← e1]; exact Nat.div_pos (Nat.gcd_le_left _ ha) g1
  have e6 : b' = d' := by
    rw [← e5] at h2
    exact (Nat.eq_of_mul_eq_mul_left pa h2).symm
  rw [e1, e2, e3, e4]
  exact ⟨e5, e6⟩
theorem low_eq {a b c d : Int} (ha : 0 < a) (hb : 0 < b) (hc : 0 < c) (hd : 0 < d) (h : a * d = c * b) : low a b = low c d := by
  obtain ⟨a, rfl⟩ := Int.eq_ofNat_of_zero_le (Int.le_of_lt ha)
  obtain ⟨b, rfl⟩ := Int.eq_ofNat_of_zero_le (Int.le_of_lt hb)
  obtain ⟨c, rfl⟩ := Int.eq_ofNat_of_zero_le (Int.le_of_lt hc)
  obtain ⟨d, rfl⟩ := Int.eq_ofNat_of_zero_le (Int.le_of_lt hd)
  obtain ⟨e1, e2⟩ := natLow (a := a) (b := b) (c := c) (d := d) (by omega) (by omega) (by omega) (by omega) (by exact_mod_cast h)
  unfold low
  simp only [Int.gcd_natCast_natCast]
  have f1 : ((a / Nat.gcd a b : Nat) : Int) = ((c / Nat.gcd c d : Nat) : Int) := by rw [e1]
  have f2 : ((b / Nat.gcd a b : Nat) : Int) = ((d / Nat.gcd c d : Nat) : Int) := by rw [e2]
  simp only [Int.natCast_ediv] at f1 f2
  rw [f1, f2]
theorem gcd_pos {a b : Int} (ha : 0 < a) : (0 : Int) < (Int.gcd a b : Int) := by
  have : 0 < Int.gcd a b := Int.gcd_pos_of_ne_zero_left b (by omega)
  omega
theorem low_mul {a b : Int} (ha : 0 < a) : a = (Int.gcd a b : Int) * (low a b).1 ∧ b = (Int.gcd a b : Int) * (low a b).2 := by
  unfold low
  exact ⟨(Int.mul_ediv_cancel' (Int.gcd_dvd_left a b)).symm, (Int.mul_ediv_cancel' (Int.gcd_dvd_right a b)).symm⟩
theorem low_am {a b : Int} (ha : 0 < a) (hb : 0 < b) : Am (low a b) := by
  obtain ⟨e1, e2⟩ := low_mul (b := b) ha
  have g := gcd_pos (b := b) ha
  refine ⟨?_, ?_, ?_⟩
  · exact Int.ediv_pos_of_pos_of_dvd ha (Int.le_of_lt g) (Int.gcd_dvd_left a b)
  · exact Int.ediv_pos_of_pos_of_dvd hb (Int.le_of_lt g) (Int.gcd_dvd_right a b)
  · have : 0 < Int.gcd a b := by omega
    exact Int.gcd_ediv_gcd_ediv_gcd this
theorem low_id {x : Int × Int} (h : Am x) : low x.1 x.2 = x := by
  unfold low
  rw [h.2.2]
  simp
/-- x is the fraction a / b in lowest terms -/
def Is (x : Int × Int) (a b : Int) : Prop := 0 < a ∧ 0 < b ∧ x = low a b
theorem Is.am {x : Int × Int} {a b : Int} (h : Is x a b) : Am x := by rw [h.2.2]; exact low_am h.1 h.2.1
theorem Am.is {x : Int × Int} (h : Am x) : Is x x.1 x.2 := ⟨h.1, h.2.1, (low_id h).symm⟩
theorem Is.cross {x : Int × Int} {a b : Int} (h : Is x a b) : x.1 * b = a * x.2 := by
  obtain ⟨ha, hb, rfl⟩ := h
  obtain ⟨e1, e2⟩ := low_mul (b := b) ha
  generalize hx : low a b = x at *
  generalize (Int.gcd a b : Int) = g at *
  subst e1
  rw [e2]
  ac_rfl
theorem is_of {x : Int × Int} {a b : Int} (h : Am x) (ha : 0 < a) (hb : 0 < b) (e : x.1 * b = a * x.2) : Is x a b := ⟨ha, hb, by rw [← low_id h]; exact low_eq h.1 h.2.1 ha hb e⟩
theorem Is.eq {x y : Int × Int} {a b c d : Int} (h : Is x a b) (k : Is y c d) (e : a * d = c * b) : x = y := by
  rw [h.2.2, k.2.2]
  exact low_eq h.1 h.2.1 k.1 k.2.1 e
end RL

namespace RL
open PySem L2
/-! ### what the defs answer -/
section
variable {α β : Type}
theorem bind_ok {a : α} {w : Wd} {f : α → Wd → Res β} : (Res.ok a w).bind f = f a w := rfl
theorem bind_exc {k : Nat} {w : Wd} {f : α → Wd → Res β} : (Res.exc k w).bind f = .exc k w := rfl
theorem bind_bad {f : α → Wd → Res β} : Res.bad.bind f = .bad := rfl
theorem toS_ok {a : α} {w : Wd} {r : Rho} {f : α → Wd → RS} : (Res.ok a w).toS r f = f a w := rfl
theorem toS_exc {k : Nat} {w : Wd} {r : Rho} {f : α → Wd → RS} : (Res.exc k w).toS r f = .exc k r w := rfl
theorem toS_bad {r : Rho} {f : α → Wd → RS} : Res.bad.toS r f = .bad := rfl
theorem nx_ok {a : α} {w : Wd} : (Res.ok a w).nx = .ok a w := rfl
theorem lift_some {a : α} {w : Wd} : lift (some a) w = .ok a w := rfl
theorem lift_none {w : Wd} : lift (none : Option α) w = .bad := rfl
end
theorem bindT_nm {i : Nat} {d : D} {r : Rho} : bindT (.nm i) d r = some (r.set i (.dat d)) := by simp [bindT]
theorem bindT_tp {ts : Tgs} {ds : List D} {r : Rho} : bindT (.tp ts) (.tup ds) r = bindTs ts ds r := by simp [bindT]
theorem bindTs_nil {r : Rho} : bindTs .nil [] r = some r := by simp [bindTs]
theorem bindTs_cons {t : Tg} {ts : Tgs} {d : D} {ds : List D} {r : Rho} : bindTs (.cons t ts) (d :: ds) r = (bindT t d r).bind fun r1 => bindTs ts ds r1 := by simp [bindTs]
theorem ofB_bl {b : Bool} {w : Wd} : ofB (.ok (.bl b) w) = .ok b w := rfl
theorem bEq_int (a b : Int) : bEq (.int a) (.int b) = some (.bl (a == b)) := rfl
theorem bNe_int (a b : Int) : bNe (.int a) (.int b) = some (.bl (!(a == b))) := rfl
theorem bMod_int {a b : Int} (h : 0 < b) : bMod (.int a) (.int b) = some (.int (a % b)) := if_pos h
theorem bDiv_int {a b : Int} (h : 0 < b) (k : sm b = true) : bDiv (.int a) (.int b) = some (.int (a / b)) := by
  show (if (decide (0 < b) && sm b) = true then _ else _) = _
  rw [decide_eq_true h, k]
  rfl
theorem bMul_int {a b : Int} (h : sm a = true) (k : sm b = true) : bMul (.int a) (.int b) = some (.int (a * b)) := by
  show (if (sm a && sm b) = true then _ else _) = _
  rw [h, k]
  rfl
theorem seq_ok {k : List D → D} {xs : List D} {w : Wd} (h : xs.length ≤ big) : lift (if xs.length ≤ big then some (k xs) else none) w = .ok (k xs) w := by rw [if_pos h]; rfl
theorem big_0 : (0 ≤ big) = True := by decide
theorem big_1 : (0 + 1 ≤ big) = True := by decide
theorem big_2 : (0 + 1 + 1 ≤ big) = True := by decide
theorem big_3 : (0 + 1 + 1 + 1 ≤ big) = True := by decide

abbrev Tab.f (T : Tab) (i : Nat) : MF := (T.fns.getD i noF).2.2
def amt (x : Int × Int) : D := .tup [.int x.1, .int x.2]
abbrev amts (xs : List (Int × Int)) : D := .lst (xs.map amt)
abbrev Rule := (Int × Int) × List Int
def ruleD (r : Rule) : D := .tup [amt r.1, .lst (r.2.map .int)]
abbrev Trial := List (Int × Int) × (Int × Int)
def trialD (t : Trial) : D := .tup [amts t.1, amt t.2]
abbrev trialsD (ts : List Trial) : D := .lst (ts.map trialD)

def SpCommon (φ : MF) : Prop := ∀ (a b : Nat) w, φ [.int a, .int b] w = .ok (.int (Nat.gcd a b : Nat)) w
theorem wh_t {t : ME} {b : MS} {n : Nat} {r : Rho} {w w1 : Wd} (h : t r w = .ok (.bl true) w1) : whGo t b (n + 1) r w = (match b r w1 with
    | .next r2 w2 => whGo t b n r2 w2
    | y => y) := by
  rw [whGo, h]
  rfl
theorem wh_f {t : ME} {b : MS} {n : Nat} {r : Rho} {w w1 : Wd} (h : t r w = .ok (.bl false) w1) : whGo t b (n + 1) r w = .next r w1 := by
  rw [whGo, h]
  rfl
theorem wh_go {t : ME} {b : MS} {n : Nat} {r r2 : Rho} {w w1 w2 : Wd} (h : t r w = .ok (.bl true) w1) (k : b r w1 = .next r2 w2) : whGo t b (n + 1) r w = whGo t b n r2 w2 := by
  rw [wh_t h, k]
theorem for_nil {t : Tg} {b : MS} {r : Rho} {w : Wd} : forGo t b [] r w = .next r w := rfl
theorem for_go {t : Tg} {b : MS} {x : D} {xs : List D} {r r1 r2 : Rho} {w w2 : Wd} (h : bindT t x r = some r1) (k : b r1 w = .next r2 w2) : forGo t b (x :: xs) r w = forGo t b xs r2 w2 := by
  rw [forGo, h]
  simp only [k]
theorem common_go (T : Tab) (n : Nat) : ∀ (b a : Nat) (w : Wd), b < n → whGo (ev T (.bin .ne (.var 1) (.cst (.int 0)))) (ess T (.cons (.asg (.tp (.cons (.nm 0) (.cons (.nm 1) .nil))) (.tup (.cons (.var 1) (.cons (.bin .mod (.var 0) (.var 1)) .nil)))) .nil)) n [.dat (.int a), .dat (.int b)] w =
    .next [.dat (.int (Nat.gcd a b : Nat)), .dat (.int 0)] w := by
  induction n with
  | zero => intro b a w h; omega
  | succ n ih =>
    intro b a w h
    cases b with
    | zero =>
      refine (wh_f (w1 := w) rfl).trans ?_
      rw [Nat.gcd_zero_right]
      rfl
    | succ b =>
      have ih := ih (a % (b + 1)) (b + 1) w (by have := Nat.mod_lt a (show 0 < b + 1 by omega); omega)
      have e : Nat.gcd (b + 1) (a % (b + 1)) = Nat.gcd a (b + 1) := by rw [Nat.gcd_comm a (b + 1), Nat.gcd_rec (b + 1) a, Nat.gcd_comm]
      rw [e] at ih
      have h1 : (0 : Int) < ((b + 1 : Nat) : Int) := by omega
      have h2 : ((a : Int) % ((b + 1 : Nat) : Int)) = ((a % (b + 1) : Nat) : Int) := by omega
      have h3 : (((b + 1 : Nat) : Int) == (0 : Int)) = false := by simp; omega
      refine (wh_go (w1 := w) (w2 := w) (r2 := [.dat (.int ((b + 1 : Nat) : Int)), .dat (.int ((a % (b + 1) : Nat) : Int))]) ?_ ?_).trans ih
      · simp only [mFun, startR, ess, es, ev, evs, evo, evc, evl, evi, sSeq, sNil, sRet, sExp, sAsg, sOwn, sIf, sFor, sRaise, sAug, sMut, sSet, sFrz, frzR, mVar, mCst, mBin, mUn, mAnd, mOr, mIf, mChn, mNil, mCons, mSeq, mLst, mLen, mOf, mSl, mNo, mPt, mCall, mPri, mBmt, mOix, mOcmp, mISeq, mIBi, bind_ok, bind_exc, bind_bad, toS_ok, toS_exc, toS_bad, nx_ok, ofB_bl, lift_some, lift_none, bindT_nm, bindT_tp, bindTs_nil, bindTs_cons, bop, bIMul, bAdd, bSub, dNeg, dNot, bLt, bLe, bGt, bGe, bIs, bIsn, isNon, dIx, dSl, dIsi, tyName, dItems, List.map_cons, List.map_nil, List.length_cons, List.length_nil, List.cons_append, List.nil_append, Nat.sub_self, List.replicate_zero, List.replicate_succ, List.getElem?_cons_succ, List.getElem?_cons_zero, List.set_cons_zero, List.set_cons_succ, Option.bind_some, Option.map_some, if_true, Bool.true_and, Bool.and_true, Bool.and_self, Bool.not_true, Bool.not_false, Bool.false_eq_true, if_false, ite_true, ite_false, reduceCtorEq, bNe_int, h3]
      · simp only [mFun, startR, ess, es, ev, evs, evo, evc, evl, evi, sSeq, sNil, sRet, sExp, sAsg, sOwn, sIf, sFor, sRaise, sAug, sMut, sSet, sFrz, frzR, mVar, mCst, mBin, mUn, mAnd, mOr, mIf, mChn, mNil, mCons, mSeq, mLst, mLen, mOf, mSl, mNo, mPt, mCall, mPri, mBmt, mOix, mOcmp, mISeq, mIBi, bind_ok, bind_exc, bind_bad, toS_ok, toS_exc, toS_bad, nx_ok, ofB_bl, lift_some, lift_none, bindT_nm, bindT_tp, bindTs_nil, bindTs_cons, bop, bIMul, bAdd, bSub, dNeg, dNot, bLt, bLe, bGt, bGe, bIs, bIsn, isNon, dIx, dSl, dIsi, tyName, dItems, List.map_cons, List.map_nil, List.length_cons, List.length_nil, List.cons_append, List.nil_append, Nat.sub_self, List.replicate_zero, List.replicate_succ, List.getElem?_cons_succ, List.getElem?_cons_zero, List.set_cons_zero, List.set_cons_succ, Option.bind_some, Option.map_some, if_true, Bool.true_and, Bool.and_true, Bool.and_self, Bool.not_true, Bool.not_false, Bool.false_eq_true, if_false, ite_true, ite_false, reduceCtorEq, bMod_int h1, h2, big_2]
theorem fun_ret {n : Nat} {m : MS} {ds : List D} {w w' : Wd} {d : D} (h : m (startR n ds) w = .ret d w') : mFun n m ds w = .ok d w' := by
  unfold mFun
  rw [h]
theorem fun_next {n : Nat} {m : MS} {ds : List D} {w w' : Wd} {r : Rho} (h : m (startR n ds) w = .next r w') : mFun n m ds w = .ok .non w' := by
  unfold mFun
  rw [h]
theorem fun_exc {n : Nat} {m : MS} {ds : List D} {w w' : Wd} {r : Rho} {k : Nat} (h : m (startR n ds) w = .exc k r w') : mFun n m ds w = .exc k w' := by
  unfold mFun
  rw [h]
theorem sp_common (T : Tab) : SpCommon (mFun 2 (ess T b_common)) := by
  intro a b w
  have h := common_go T (b + 1) b a w (Nat.lt_succ_self b)
  refine fun_ret ?_
  show ess T b_common [.dat (.int a), .dat (.int b)] w = _
  rw [b_common, ess, sSeq, es, sWh]
  rw [show muI 1 [.dat (.int a), .dat (.int b)] = b + 1 from rfl, h]
  rfl
def SpLowest (φ : MF) : Prop := ∀ (a b : Int) w, 0 < a → 0 < b → sm a = true → φ [.int a, .int b] w = .ok (amt (low a b)) w
theorem sm_le {a b : Int} (h0 : 0 ≤ a) (h : a ≤ b) (k : sm b = true) : sm a = true := by
  unfold sm at k ⊢
  have k := of_decide_eq_true k
  refine decide_eq_true ?_
  by_cases hz : a = 0
  · subst hz; decide
  · have : a.natAbs.log2 ≤ b.natAbs.log2 := by
      rw [Nat.le_log2 (by omega)]
      have := Nat.log2_self_le (n := a.natAbs) (by omega)
      omega
    omega
theorem gcd_le {a b : Int} (h : 0 < a) : (Int.gcd a b : Int) ≤ a := by
  have := Int.gcd_le_natAbs_left (a := a) b (by omega)
  omega
theorem sp_lowest (T : Tab) (i : Nat) (h : SpCommon (T.f i)) : SpLowest (mFun 3 (ess T (b_lowest i))) := by
  intro a b w ha hb hs
  obtain ⟨m, rfl⟩ := Int.eq_ofNat_of_zero_le (Int.le_of_lt ha)
  obtain ⟨n, rfl⟩ := Int.eq_ofNat_of_zero_le (Int.le_of_lt hb)
  have h := h m n w
  have hg : (0 : Int) < ((Nat.gcd m n : Nat) : Int) := by
    have := Nat.gcd_pos_of_pos_left n (show 0 < m by omega)
    omega
  have hgs : sm ((Nat.gcd m n : Nat) : Int) = true := sm_le (by omega) (by have := Nat.gcd_le_left n (show 0 < m by omega); omega) hs
  refine fun_ret ?_
  simp only [b_lowest, mFun, startR, ess, es, ev, evs, evo, evc, evl, evi, sSeq, sNil, sRet, sExp, sAsg, sOwn, sIf, sFor, sRaise, sAug, sMut, sSet, sFrz, frzR, mVar, mCst, mBin, mUn, mAnd, mOr, mIf, mChn, mNil, mCons, mSeq, mLst, mLen, mOf, mSl, mNo, mPt, mCall, mPri, mBmt, mOix, mOcmp, mISeq, mIBi, bind_ok, bind_exc, bind_bad, toS_ok, toS_exc, toS_bad, nx_ok, ofB_bl, lift_some, lift_none, bindT_nm, bindT_tp, bindTs_nil, bindTs_cons, bop, bIMul, bAdd, bSub, dNeg, dNot, bLt, bLe, bGt, bGe, bIs, bIsn, isNon, dIx, dSl, dIsi, tyName, dItems, List.map_cons, List.map_nil, List.length_cons, List.length_nil, List.cons_append, List.nil_append, Nat.sub_self, List.replicate_zero, List.replicate_succ, List.getElem?_cons_succ, List.getElem?_cons_zero, List.set_cons_zero, List.set_cons_succ, Option.bind_some, Option.map_some, if_true, Bool.true_and, Bool.and_true, Bool.and_self, Bool.not_true, Bool.not_false, Bool.false_eq_true, if_false, ite_true, ite_false, reduceCtorEq, h, bDiv_int hg hgs, big_2]
  rfl
/-! ### bounds -/
def Bd (n : Nat) (x : Int × Int) : Prop := x.1 < 2 ^ n ∧ x.2 < 2 ^ n
theorem sm_lt {i : Int} {n : Nat} (h0 : 0 ≤ i) (h : i < 2 ^ n) (hn : 0 < n) (k : n ≤ 8000) : sm i = true := by
  unfold sm
  refine decide_eq_true ?_
  have h2 : i.natAbs < 2 ^ n := by
    have e : ((2 ^ n : Nat) : Int) = 2 ^ n := by simp
    omega
  have := PySem.Flt.log2_lt_of hn h2
  omega
theorem mul_lt {a b : Int} {n m : Nat} (ha : 0 < a) (hb : 0 < b) (h : a < 2 ^ n) (k : b < 2 ^ m) : a * b < 2 ^ (n + m) := by
  have e : (2 : Int) ^ (n + m) = 2 ^ n * 2 ^ m := Int.pow_add ..
  rw [e]
  exact Int.mul_lt_mul h (Int.le_of_lt k) hb (by have : (0 : Int) < 2 ^ n := by omega
                                                 omega)
/-- product and quotient of fractions -/
def mulQ (x y : Int × Int) : Int × Int := low (x.1 * y.1) (x.2 * y.2)
def divQ (x y : Int × Int) : Int × Int := low (x.1 * y.2) (x.2 * y.1)
theorem low_bd {a b : Int} {n : Nat} (ha : 0 < a) (hb : 0 < b) (h : a < 2 ^ n) (k : b < 2 ^ n) : Bd n (low a b) := by
  have g := gcd_pos (b := b) ha
  have h1 : a / (Int.gcd a b : Int) ≤ a := Int.ediv_le_self _ (Int.le_of_lt ha)
  have h2 : b / (Int.gcd a b : Int) ≤ b := Int.ediv_le_self _ (Int.le_of_lt hb)
  exact ⟨Int.lt_of_le_of_lt h1 h, Int.lt_of_le_of_lt h2 k⟩
theorem mulQ_am {x y : Int × Int} (hx : Am x) (hy : Am y) : Am (mulQ x y) := low_am (Int.mul_pos hx.1 hy.1) (Int.mul_pos hx.2.1 hy.2.1)
theorem divQ_am {x y : Int × Int} (hx : Am x) (hy : Am y) : Am (divQ x y) := low_am (Int.mul_pos hx.1 hy.2.1) (Int.mul_pos hx.2.1 hy.1)
theorem mulQ_bd {x y : Int × Int} {n m : Nat} (hx : Am x) (hy : Am y) (bx : Bd n x) (by_ : Bd m y) : Bd (n + m) (mulQ x y) := low_bd (Int.mul_pos hx.1 hy.1) (Int.mul_pos hx.2.1 hy.2.1) (mul_lt hx.1 hy.1 bx.1 by_.1) (mul_lt hx.2.1 hy.2.1 bx.2 by_.2)
theorem divQ_bd {x y : Int × Int} {n m : Nat} (hx : Am x) (hy : Am y) (bx : Bd n x) (by_ : Bd m y) : Bd (n + m) (divQ x y) := low_bd (Int.mul_pos hx.1 hy.2.1) (Int.mul_pos hx.2.1 hy.1) (mul_lt hx.1 hy.2.1 bx.1 by_.2) (mul_lt hx.2.1 hy.1 bx.2 by_.1)
/-- fit to be multiplied -/
structure Ok (n : Nat) (x : Int × Int) : Prop where
  am : Am x
  bd : Bd n x
theorem Ok.pos {n : Nat} {x : Int × Int} (h : Ok n x) : 0 < n := by
  rcases Nat.eq_zero_or_pos n with e | e
  · subst e
    have := h.bd.1
    have := h.am.1
    simp at *
    omega
  · exact e
theorem Ok.mono {n m : Nat} {x : Int × Int} (h : Ok n x) (k : n ≤ m) : Ok m x := by
  have e : (2 : Int) ^ n ≤ 2 ^ m := by
    have := Nat.pow_le_pow_right (show 0 < 2 by decide) k
    have e1 : ((2 ^ n : Nat) : Int) = 2 ^ n := by simp
    have e2 : ((2 ^ m : Nat) : Int) = 2 ^ m := by simp
    omega
  exact ⟨h.am, Int.lt_of_lt_of_le h.bd.1 e, Int.lt_of_lt_of_le h.bd.2 e⟩
theorem Ok.mul {n m : Nat} {x y : Int × Int} (h : Ok n x) (k : Ok m y) : Ok (n + m) (mulQ x y) := ⟨mulQ_am h.am k.am, mulQ_bd h.am k.am h.bd k.bd⟩
theorem Ok.div {n m : Nat} {x y : Int × Int} (h : Ok n x) (k : Ok m y) : Ok (n + m) (divQ x y) := ⟨divQ_am h.am k.am, divQ_bd h.am k.am h.bd k.bd⟩
theorem Ok.sm1 {n : Nat} {x : Int × Int} (h : Ok n x) (k : n ≤ 8000) : sm x.1 = true := sm_lt (Int.le_of_lt h.am.1) h.bd.1 h.pos k
theorem Ok.sm2 {n : Nat} {x : Int × Int} (h : Ok n x) (k : n ≤ 8000) : sm x.2 = true := sm_lt (Int.le_of_lt h.am.2.1) h.bd.2 h.pos k
def SpProduct (φ : MF) : Prop := ∀ x y n m w, Ok n x → Ok m y → n + m ≤ 8000 → φ [amt x, amt y] w = .ok (amt (mulQ x y)) w
def SpQuotient (φ : MF) : Prop := ∀ x y n m w, Ok n x → Ok m y → n + m ≤ 8000 → φ [amt x, amt y] w = .ok (amt (divQ x y)) w
theorem ix0 {a : D} {xs : List D} : atI (a :: xs) 0 = some a := by
  unfold atI ixN
  simp
theorem ix1 {a b : D} {xs : List D} : atI (a :: b :: xs) 1 = some b := by
  unfold atI ixN
  rw [if_pos (by decide), if_pos (by simp; omega)]
  rfl
theorem ix2 {a b c : D} {xs : List D} : atI (a :: b :: c :: xs) 2 = some c := by
  unfold atI ixN
  rw [if_pos (by decide), if_pos (by simp; omega)]
  rfl
theorem sp_product (T : Tab) (i : Nat) (h : SpLowest (T.f i)) : SpProduct (mFun 2 (ess T (b_product i))) := by
  intro x y n m w hx hy hb
  have h := h (x.1 * y.1) (x.2 * y.2) w (Int.mul_pos hx.am.1 hy.am.1) (Int.mul_pos hx.am.2.1 hy.am.2.1) (sm_lt (Int.le_of_lt (Int.mul_pos hx.am.1 hy.am.1)) (mul_lt hx.am.1 hy.am.1 hx.bd.1 hy.bd.1) (by have := hx.pos; omega) hb)
  refine fun_ret ?_
  simp only [b_product, amt, mFun, startR, ess, es, ev, evs, evo, evc, evl, evi, sSeq, sNil, sRet, sExp, sAsg, sOwn, sIf, sFor, sRaise, sAug, sMut, sSet, sFrz, frzR, mVar, mCst, mBin, mUn, mAnd, mOr, mIf, mChn, mNil, mCons, mSeq, mLst, mLen, mOf, mSl, mNo, mPt, mCall, mPri, mBmt, mOix, mOcmp, mISeq, mIBi, bind_ok, bind_exc, bind_bad, toS_ok, toS_exc, toS_bad, nx_ok, ofB_bl, lift_some, lift_none, bindT_nm, bindT_tp, bindTs_nil, bindTs_cons, bop, bIMul, bAdd, bSub, dNeg, dNot, bLt, bLe, bGt, bGe, bIs, bIsn, isNon, dIx, dSl, dIsi, tyName, dItems, List.map_cons, List.map_nil, List.length_cons, List.length_nil, List.cons_append, List.nil_append, Nat.sub_self, List.replicate_zero, List.replicate_succ, List.getElem?_cons_succ, List.getElem?_cons_zero, List.set_cons_zero, List.set_cons_succ, Option.bind_some, Option.map_some, if_true, Bool.true_and, Bool.and_true, Bool.and_self, Bool.not_true, Bool.not_false, Bool.false_eq_true, if_false, ite_true, ite_false, reduceCtorEq, ix0, ix1, bMul_int (hx.sm1 (by omega)) (hy.sm1 (by omega)), bMul_int (hx.sm2 (by omega)) (hy.sm2 (by omega)), h]
  rfl
theorem sp_quotient (T : Tab) (i : Nat) (h : SpLowest (T.f i)) : SpQuotient (mFun 2 (ess T (b_quotient i))) := by
  intro x y n m w hx hy hb
  have h := h (x.1 * y.2) (x.2 * y.1) w (Int.mul_pos hx.am.1 hy.am.2.1) (Int.mul_pos hx.am.2.1 hy.am.1) (sm_lt (Int.le_of_lt (Int.mul_pos hx.am.1 hy.am.2.1)) (mul_lt hx.am.1 hy.am.2.1 hx.bd.1 hy.bd.2) (by have := hx.pos; omega) hb)
  refine fun_ret ?_
  simp only [b_quotient, amt, mFun, startR, ess, es, ev, evs, evo, evc, evl, evi, sSeq, sNil, sRet, sExp, sAsg, sOwn, sIf, sFor, sRaise, sAug, sMut, sSet, sFrz, frzR, mVar, mCst, mBin, mUn, mAnd, mOr, mIf, mChn, mNil, mCons, mSeq, mLst, mLen, mOf, mSl, mNo, mPt, mCall, mPri, mBmt, mOix, mOcmp, mISeq, mIBi, bind_ok, bind_exc, bind_bad, toS_ok, toS_exc, toS_bad, nx_ok, ofB_bl, lift_some, lift_none, bindT_nm, bindT_tp, bindTs_nil, bindTs_cons, bop, bIMul, bAdd, bSub, dNeg, dNot, bLt, bLe, bGt, bGe, bIs, bIsn, isNon, dIx, dSl, dIsi, tyName, dItems, List.map_cons, List.map_nil, List.length_cons, List.length_nil, List.cons_append, List.nil_append, Nat.sub_self, List.replicate_zero, List.replicate_succ, List.getElem?_cons_succ, List.getElem?_cons_zero, List.set_cons_zero, List.set_cons_succ, Option.bind_some, Option.map_some, if_true, Bool.true_and, Bool.and_true, Bool.and_self, Bool.not_true, Bool.not_false, Bool.false_eq_true, if_false, ite_true, ite_false, reduceCtorEq, ix0, ix1, bMul_int (hx.sm1 (by omega)) (hy.sm2 (by omega)), bMul_int (hx.sm2 (by omega)) (hy.sm1 (by omega)), h]
  rfl
end RL

namespace RL
open PySem L2
/-! ### powers, rates -/
def powN (x : Int × Int) (k : Nat) : Int × Int := (x.1 ^ k, x.2 ^ k)
def invQ (x : Int × Int) : Int × Int := (x.2, x.1)
def powQ (x : Int × Int) (e : Int) : Int × Int := if 0 ≤ e then powN x e.toNat else invQ (powN x (-e).toNat)
theorem invQ_am {x : Int × Int} (h : Am x) : Am (invQ x) := ⟨h.2.1, h.1, by show Int.gcd x.2 x.1 = 1; rw [Int.gcd_comm]; exact h.2.2⟩
theorem Ok.inv {n : Nat} {x : Int × Int} (h : Ok n x) : Ok n (invQ x) := ⟨invQ_am h.am, h.bd.2, h.bd.1⟩
theorem one_am : Am (1, 1) := ⟨by decide, by decide, by decide⟩
theorem one_ok : Ok 1 (1, 1) := ⟨one_am, by decide, by decide⟩
theorem powN_am {x : Int × Int} (h : Am x) (k : Nat) : Am (powN x k) := by
  refine ⟨Int.pow_pos h.1, Int.pow_pos h.2.1, ?_⟩
  have e := h.2.2
  rw [Int.gcd] at e
  show Int.gcd (x.1 ^ k) (x.2 ^ k) = 1
  rw [Int.gcd, Int.natAbs_pow, Int.natAbs_pow]
  exact Nat.Coprime.pow k k e
theorem powN_succ {x : Int × Int} (h : Am x) (k : Nat) : mulQ (powN x k) x = powN x (k + 1) := by
  have e : (x.1 ^ k * x.1, x.2 ^ k * x.2) = powN x (k + 1) := by simp [powN, Int.pow_succ]
  have := low_id (powN_am h (k + 1))
  rw [← e] at this
  rw [← e]
  exact this
theorem powN_ok {n : Nat} {x : Int × Int} (h : Ok n x) : ∀ k, Ok (n * k + 1) (powN x k)
  | 0 => by
    have e : powN x 0 = (1, 1) := by simp [powN]
    rw [e]
    exact one_ok.mono (by omega)
  | k + 1 => by
    rw [← powN_succ h.am k]
    refine ((powN_ok h k).mul h).mono ?_
    rw [Nat.mul_succ]
    omega
theorem powQ_ok {n : Nat} {x : Int × Int} {e : Int} (h : Ok n x) (h1 : -3 ≤ e) (h2 : e ≤ 3) : Ok (n * 3 + 1) (powQ x e) := by
  have mono : ∀ k : Nat, k ≤ 3 → n * k + 1 ≤ n * 3 + 1 := fun k hk => by
    have := Nat.mul_le_mul_left n hk
    omega
  unfold powQ
  split
  · exact (powN_ok h _).mono (mono _ (by omega))
  · exact ((powN_ok h _).mono (mono _ (by omega))).inv
def SpPower (φ : MF) : Prop := ∀ x e n w, Ok n x → -3 ≤ e → e ≤ 3 → n ≤ 1000 → φ [amt x, .int e] w = .ok (amt (powQ x e)) w
theorem power_go (T : Tab) (i : Nat) (h : SpProduct (T.f i)) {x : Int × Int} {n : Nat} (hx : Ok n x) (hn : n ≤ 1000) (e : Int) (w : Wd) : ∀ (m : Nat) (a : Int) (k : Nat) (s : Sl), k + m ≤ 3 → ∃ s', forGo (.nm 3) (ess T (.cons (.asg (.nm 2) (.call i (.cons (.var 2) (.cons (.var 0) .nil)))) .nil)) (iota a m)
    [.dat (amt x), .dat (.int e), .dat (amt (powN x k)), s] w = .next [.dat (amt x), .dat (.int e), .dat (amt (powN x (k + m))), s'] w := by
  intro m
  induction m with
  | zero => intro a k s _; exact ⟨s, rfl⟩
  | succ m ih =>
    intro a k s hk
    obtain ⟨s', hs⟩ := ih (a + 1) (k + 1) (.dat (.int a)) (by omega)
    refine ⟨s', ?_⟩
    rw [iota]
    have hle : n * k + 1 + n ≤ 8000 := by
      have := Nat.mul_le_mul_left n (show k ≤ 3 by omega)
      omega
    refine (for_go (r1 := [.dat (amt x), .dat (.int e), .dat (amt (powN x k)), .dat (.int a)]) (r2 := [.dat (amt x), .dat (.int e), .dat (amt (powN x (k + 1))), .dat (.int a)]) (w2 := w) (by simp only [mFun, startR, ess, es, ev, evs, evo, evc, evl, evi, sSeq, sNil, sRet, sExp, sAsg, sOwn, sIf, sFor, sRaise, sAug, sMut, sSet, sFrz, frzR, mVar, mCst, mBin, mUn, mAnd, mOr, mIf, mChn, mNil, mCons, mSeq, mLst, mLen, mOf, mSl, mNo, mPt, mCall, mPri, mBmt, mOix, mOcmp, mISeq, mIBi, bind_ok, bind_exc, bind_bad, toS_ok, toS_exc, toS_bad, nx_ok, ofB_bl, lift_some, lift_none, bindT_nm, bindT_tp, bindTs_nil, bindTs_cons, bop, bIMul, bAdd, bSub, dNeg, dNot, bLt, bLe, bGt, bGe, bIs, bIsn, isNon, dIx, dSl, dIsi, tyName, dItems, List.map_cons, List.map_nil, List.length_cons, List.length_nil, List.cons_append, List.nil_append, Nat.sub_self, List.replicate_zero, List.replicate_succ, List.getElem?_cons_succ, List.getElem?_cons_zero, List.set_cons_zero, List.set_cons_succ, Option.bind_some, Option.map_some, if_true, Bool.true_and, Bool.and_true, Bool.and_self, Bool.not_true, Bool.not_false, Bool.false_eq_true, if_false, ite_true, ite_false, reduceCtorEq]) ?_).trans ?_
    · simp only [mFun, startR, ess, es, ev, evs, evo, evc, evl, evi, sSeq, sNil, sRet, sExp, sAsg, sOwn, sIf, sFor, sRaise, sAug, sMut, sSet, sFrz, frzR, mVar, mCst, mBin, mUn, mAnd, mOr, mIf, mChn, mNil, mCons, mSeq, mLst, mLen, mOf, mSl, mNo, mPt, mCall, mPri, mBmt, mOix, mOcmp, mISeq, mIBi, bind_ok, bind_exc, bind_bad, toS_ok, toS_exc, toS_bad, nx_ok, ofB_bl, lift_some, lift_none, bindT_nm, bindT_tp, bindTs_nil, bindTs_cons, bop, bIMul, bAdd, bSub, dNeg, dNot, bLt, bLe, bGt, bGe, bIs, bIsn, isNon, dIx, dSl, dIsi, tyName, dItems, List.map_cons, List.map_nil, List.length_cons, List.length_nil, List.cons_append, List.nil_append, Nat.sub_self, List.replicate_zero, List.replicate_succ, List.getElem?_cons_succ, List.getElem?_cons_zero, List.set_cons_zero, List.set_cons_succ, Option.bind_some, Option.map_some, if_true, Bool.true_and, Bool.and_true, Bool.and_self, Bool.not_true, Bool.not_false, Bool.false_eq_true, if_false, ite_true, ite_false, reduceCtorEq, h _ _ _ _ w (powN_ok hx k) hx hle, powN_succ hx.am]
    · rw [hs, show k + 1 + m = k + (m + 1) by omega]
theorem rng_ok {n : Int} (h1 : -1000000 ≤ n) (h2 : n ≤ 1000000) : dRng [.int n] = some (iota 0 n.toNat) := by
  unfold dRng
  simp only [decide_eq_true h1, decide_eq_true h2, Bool.and_self, if_true]
theorem rng2_ok {a b : Int} (h1 : -1000000 ≤ a) (h2 : a ≤ 1000000) (h3 : -1000000 ≤ b) (h4 : b ≤ 1000000) : dRng [.int a, .int b] = some (iota a (b - a).toNat) := by
  unfold dRng
  simp only [decide_eq_true h1, decide_eq_true h2, decide_eq_true h3, decide_eq_true h4, Bool.and_self, if_true]
theorem sp_power (T : Tab) (i : Nat) (hp : T.pri = priTab) (h : SpProduct (T.f i)) : SpPower (mFun 4 (ess T (b_power i))) := by
  intro x e n w hx h1 h2 hn
  refine fun_ret ?_
  have hr : dRng [.int (if e < 0 then -e else e)] = some (iota 0 (if e < 0 then -e else e).toNat) := rng_ok (by split <;> omega) (by split <;> omega)
  obtain ⟨s', hs⟩ := power_go T i h hx hn e w (if e < 0 then -e else e).toNat 0 0 .emp (by split <;> omega)
  have e1 : powN x 0 = (1, 1) := by simp [powN]
  rw [e1] at hs
  have hp1 : (T.pri.getD 1 (Str.empty, fun _ => none)).2 = dAbs := by rw [hp]; rfl
  rw [b_power, ess]
  have q1 : es T (.asg (.nm 2) (.tup (.cons (.cst (.int 1)) (.cons (.cst (.int 1)) .nil)))) (startR 4 [amt x, .int e]) w = .next [.dat (amt x), .dat (.int e), .dat (amt (1, 1)), .emp] w := by
    simp only [mFun, startR, ess, es, ev, evs, evo, evc, evl, evi, sSeq, sNil, sRet, sExp, sAsg, sOwn, sIf, sFor, sRaise, sAug, sMut, sSet, sFrz, frzR, mVar, mCst, mBin, mUn, mAnd, mOr, mIf, mChn, mNil, mCons, mSeq, mLst, mLen, mOf, mSl, mNo, mPt, mCall, mPri, mBmt, mOix, mOcmp, mISeq, mIBi, bind_ok, bind_exc, bind_bad, toS_ok, toS_exc, toS_bad, nx_ok, ofB_bl, lift_some, lift_none, bindT_nm, bindT_tp, bindTs_nil, bindTs_cons, bop, bIMul, bAdd, bSub, dNeg, dNot, bLt, bLe, bGt, bGe, bIs, bIsn, isNon, dIx, dSl, dIsi, tyName, dItems, List.map_cons, List.map_nil, List.length_cons, List.length_nil, List.cons_append, List.nil_append, Nat.sub_self, List.replicate_zero, List.replicate_succ, List.getElem?_cons_succ, List.getElem?_cons_zero, List.set_cons_zero, List.set_cons_succ, Option.bind_some, Option.map_some, if_true, Bool.true_and, Bool.and_true, Bool.and_self, Bool.not_true, Bool.not_false, Bool.false_eq_true, if_false, ite_true, ite_false, reduceCtorEq, big_2, amt]
  simp only [sSeq, q1]
  rw [ess]
  have q2 : es T (.for' (.nm 3) (.rng (.cons (.pri 1 (.cons (.var 1) .nil)) .nil)) (.cons (.asg (.nm 2) (.call i (.cons (.var 2) (.cons (.var 0) .nil)))) .nil)) [.dat (amt x), .dat (.int e), .dat (amt (1, 1)), .emp] w = .next [.dat (amt x), .dat (.int e), .dat (amt (powN x (if e < 0 then -e else e).toNat)), s'] w := by
    rw [es, sFor, evi, mIBi]
    simp only [mFun, startR, ess, es, ev, evs, evo, evc, evl, evi, sSeq, sNil, sRet, sExp, sAsg, sOwn, sIf, sFor, sRaise, sAug, sMut, sSet, sFrz, frzR, mVar, mCst, mBin, mUn, mAnd, mOr, mIf, mChn, mNil, mCons, mSeq, mLst, mLen, mOf, mSl, mNo, mPt, mCall, mPri, mBmt, mOix, mOcmp, mISeq, mIBi, bind_ok, bind_exc, bind_bad, toS_ok, toS_exc, toS_bad, nx_ok, ofB_bl, lift_some, lift_none, bindT_nm, bindT_tp, bindTs_nil, bindTs_cons, bop, bIMul, bAdd, bSub, dNeg, dNot, bLt, bLe, bGt, bGe, bIs, bIsn, isNon, dIx, dSl, dIsi, tyName, dItems, List.map_cons, List.map_nil, List.length_cons, List.length_nil, List.cons_append, List.nil_append, Nat.sub_self, List.replicate_zero, List.replicate_succ, List.getElem?_cons_succ, List.getElem?_cons_zero, List.set_cons_zero, List.set_cons_succ, Option.bind_some, Option.map_some, if_true, Bool.true_and, Bool.and_true, Bool.and_self, Bool.not_true, Bool.not_false, Bool.false_eq_true, if_false, ite_true, ite_false, reduceCtorEq, hp1, dAbs, hr]
    simp only [Nat.zero_add] at hs
    simp only [mFun, startR, ess, es, ev, evs, evo, evc, evl, evi, sSeq, sNil, sRet, sExp, sAsg, sOwn, sIf, sFor, sRaise, sAug, sMut, sSet, sFrz, frzR, mVar, mCst, mBin, mUn, mAnd, mOr, mIf, mChn, mNil, mCons, mSeq, mLst, mLen, mOf, mSl, mNo, mPt, mCall, mPri, mBmt, mOix, mOcmp, mISeq, mIBi, bind_ok, bind_exc, bind_bad, toS_ok, toS_exc, toS_bad, nx_ok, ofB_bl, lift_some, lift_none, bindT_nm, bindT_tp, bindTs_nil, bindTs_cons, bop, bIMul, bAdd, bSub, dNeg, dNot, bLt, bLe, bGt, bGe, bIs, bIsn, isNon, dIx, dSl, dIsi, tyName, dItems, List.map_cons, List.map_nil, List.length_cons, List.length_nil, List.cons_append, List.nil_append, Nat.sub_self, List.replicate_zero, List.replicate_succ, List.getElem?_cons_succ, List.getElem?_cons_zero, List.set_cons_zero, List.set_cons_succ, Option.bind_some, Option.map_some, if_true, Bool.true_and, Bool.and_true, Bool.and_self, Bool.not_true, Bool.not_false, Bool.false_eq_true, if_false, ite_true, ite_false, reduceCtorEq] at hs
    exact hs
  simp only [sSeq, q2]
  unfold powQ
  by_cases he : 0 ≤ e
  · have e2 : ¬ e < 0 := by omega
    simp only [mFun, startR, ess, es, ev, evs, evo, evc, evl, evi, sSeq, sNil, sRet, sExp, sAsg, sOwn, sIf, sFor, sRaise, sAug, sMut, sSet, sFrz, frzR, mVar, mCst, mBin, mUn, mAnd, mOr, mIf, mChn, mNil, mCons, mSeq, mLst, mLen, mOf, mSl, mNo, mPt, mCall, mPri, mBmt, mOix, mOcmp, mISeq, mIBi, bind_ok, bind_exc, bind_bad, toS_ok, toS_exc, toS_bad, nx_ok, ofB_bl, lift_some, lift_none, bindT_nm, bindT_tp, bindTs_nil, bindTs_cons, bop, bIMul, bAdd, bSub, dNeg, dNot, bLt, bLe, bGt, bGe, bIs, bIsn, isNon, dIx, dSl, dIsi, tyName, dItems, List.map_cons, List.map_nil, List.length_cons, List.length_nil, List.cons_append, List.nil_append, Nat.sub_self, List.replicate_zero, List.replicate_succ, List.getElem?_cons_succ, List.getElem?_cons_zero, List.set_cons_zero, List.set_cons_succ, Option.bind_some, Option.map_some, if_true, Bool.true_and, Bool.and_true, Bool.and_self, Bool.not_true, Bool.not_false, Bool.false_eq_true, if_false, ite_true, ite_false, reduceCtorEq, he, decide_true, if_true, if_neg e2]
  · have e2 : e < 0 := by omega
    simp only [mFun, startR, ess, es, ev, evs, evo, evc, evl, evi, sSeq, sNil, sRet, sExp, sAsg, sOwn, sIf, sFor, sRaise, sAug, sMut, sSet, sFrz, frzR, mVar, mCst, mBin, mUn, mAnd, mOr, mIf, mChn, mNil, mCons, mSeq, mLst, mLen, mOf, mSl, mNo, mPt, mCall, mPri, mBmt, mOix, mOcmp, mISeq, mIBi, bind_ok, bind_exc, bind_bad, toS_ok, toS_exc, toS_bad, nx_ok, ofB_bl, lift_some, lift_none, bindT_nm, bindT_tp, bindTs_nil, bindTs_cons, bop, bIMul, bAdd, bSub, dNeg, dNot, bLt, bLe, bGt, bGe, bIs, bIsn, isNon, dIx, dSl, dIsi, tyName, dItems, List.map_cons, List.map_nil, List.length_cons, List.length_nil, List.cons_append, List.nil_append, Nat.sub_self, List.replicate_zero, List.replicate_succ, List.getElem?_cons_succ, List.getElem?_cons_zero, List.set_cons_zero, List.set_cons_succ, Option.bind_some, Option.map_some, if_true, Bool.true_and, Bool.and_true, Bool.and_self, Bool.not_true, Bool.not_false, Bool.false_eq_true, if_false, ite_true, ite_false, reduceCtorEq, he, decide_false, if_pos e2, amt, ix0, ix1, big_2, if_false, invQ]
def prodGo (acc : Int × Int) : List Int → List (Int × Int) → Int × Int
  | e :: ps, a :: as => prodGo (mulQ acc (powQ a e)) ps as
  | _, _ => acc
def prodQ (ps : List Int) (as : List (Int × Int)) : Int × Int := prodGo (1, 1) ps as
/-- powers as they may be -/
def Pw (ps : List Int) : Prop := ps.length ≤ 3 ∧ ∀ e ∈ ps, -3 ≤ e ∧ e ≤ 3
def Oks (n : Nat) (as : List (Int × Int)) : Prop := ∀ a ∈ as, Ok n a
theorem prodGo_ok {n : Nat} : ∀ {ps : List Int} {as : List (Int × Int)} {acc : Int × Int} {m : Nat}, Ok m acc → (∀ e ∈ ps, -3 ≤ e ∧ e ≤ 3) → Oks n as → Ok (m + ps.length * (n * 3 + 1)) (prodGo acc ps as)
  | [], as, acc, m, h, _, _ => by
    unfold prodGo
    exact h.mono (by simp)
  | e :: ps, [], acc, m, h, _, _ => by
    unfold prodGo
    exact h.mono (by omega)
  | e :: ps, a :: as, acc, m, h, h1, h2 => by
    rw [prodGo]
    have he := h1 e List.mem_cons_self
    refine (prodGo_ok (h.mul (powQ_ok (h2 a List.mem_cons_self) he.1 he.2)) (fun e' q => h1 e' (List.mem_cons_of_mem _ q)) fun a' q => h2 a' (List.mem_cons_of_mem _ q)).mono ?_
    rw [List.length_cons, Nat.add_mul]
    omega
theorem prodQ_ok {n : Nat} {ps : List Int} {as : List (Int × Int)} (h1 : Pw ps) (h2 : Oks n as) : Ok (9 * n + 4) (prodQ ps as) := by
  refine (prodGo_ok one_ok h1.2 h2).mono ?_
  have := Nat.mul_le_mul_right (n * 3 + 1) h1.1
  omega
def SpProducts (φ : MF) : Prop := ∀ ps as n w, Pw ps → Oks n as → n ≤ 500 → φ [.lst (ps.map .int), amts as] w = .ok (amt (prodQ ps as)) w
theorem products_go (T : Tab) (i j : Nat) (h : SpProduct (T.f i)) (hp : SpPower (T.f j)) {n : Nat} (hn : n ≤ 500) (x0 x1 : Sl) (w : Wd) : ∀ (ps : List Int) (as : List (Int × Int)) (acc : Int × Int) (m : Nat) (s s' : Sl), Ok m acc → (∀ e ∈ ps, -3 ≤ e ∧ e ≤ 3) → Oks n as → m + ps.length * (n * 3 + 1) ≤ 6000 →
    ∃ u u', forGo (.tp (.cons (.nm 3) (.cons (.nm 4) .nil))) (ess T (.cons (.asg (.nm 2) (.call i (.cons (.var 2) (.cons (.call j (.cons (.var 4) (.cons (.var 3) .nil))) .nil)))) .nil)) (zipD (ps.map .int) (as.map amt)) [x0, x1, .dat (amt acc), s, s'] w = .next [x0, x1, .dat (amt (prodGo acc ps as)), u, u'] w := by
  intro ps
  induction ps with
  | nil => intro as acc m s s' _ _ _ _; exact ⟨s, s', by simp [zipD, forGo, prodGo]⟩
  | cons e ps ih =>
    intro as acc m s s' h0 h1 h2 hb
    cases as with
    | nil => exact ⟨s, s', by simp [zipD, forGo, prodGo]⟩
    | cons a as =>
      have he := h1 e List.mem_cons_self
      have ha := h2 a List.mem_cons_self
      have hq := powQ_ok ha he.1 he.2
      rw [List.length_cons, Nat.add_mul] at hb
      obtain ⟨u, u', hs⟩ := ih as (mulQ acc (powQ a e)) (m + (n * 3 + 1)) (.dat (.int e)) (.dat (amt a)) (h0.mul hq) (fun e' q => h1 e' (List.mem_cons_of_mem _ q)) (fun a' q => h2 a' (List.mem_cons_of_mem _ q)) (by omega)
      refine ⟨u, u', ?_⟩
      rw [List.map_cons, List.map_cons, zipD]
      refine (for_go (r1 := [x0, x1, .dat (amt acc), .dat (.int e), .dat (amt a)]) (r2 := [x0, x1, .dat (amt (mulQ acc (powQ a e))), .dat (.int e), .dat (amt a)]) (w2 := w) (by simp only [mFun, startR, ess, es, ev, evs, evo, evc, evl, evi, sSeq, sNil, sRet, sExp, sAsg, sOwn, sIf, sFor, sRaise, sAug, sMut, sSet, sFrz, frzR, mVar, mCst, mBin, mUn, mAnd, mOr, mIf, mChn, mNil, mCons, mSeq, mLst, mLen, mOf, mSl, mNo, mPt, mCall, mPri, mBmt, mOix, mOcmp, mISeq, mIBi, bind_ok, bind_exc, bind_bad, toS_ok, toS_exc, toS_bad, nx_ok, ofB_bl, lift_some, lift_none, bindT_nm, bindT_tp, bindTs_nil, bindTs_cons, bop, bIMul, bAdd, bSub, dNeg, dNot, bLt, bLe, bGt, bGe, bIs, bIsn, isNon, dIx, dSl, dIsi, tyName, dItems, List.map_cons, List.map_nil, List.length_cons, List.length_nil, List.cons_append, List.nil_append, Nat.sub_self, List.replicate_zero, List.replicate_succ, List.getElem?_cons_succ, List.getElem?_cons_zero, List.set_cons_zero, List.set_cons_succ, Option.bind_some, Option.map_some, if_true, Bool.true_and, Bool.and_true, Bool.and_self, Bool.not_true, Bool.not_false, Bool.false_eq_true, if_false, ite_true, ite_false, reduceCtorEq]) ?_).trans ?_
      · simp only [mFun, startR, ess, es, ev, evs, evo, evc, evl, evi, sSeq, sNil, sRet, sExp, sAsg, sOwn, sIf, sFor, sRaise, sAug, sMut, sSet, sFrz, frzR, mVar, mCst, mBin, mUn, mAnd, mOr, mIf, mChn, mNil, mCons, mSeq, mLst, mLen, mOf, mSl, mNo, mPt, mCall, mPri, mBmt, mOix, mOcmp, mISeq, mIBi, bind_ok, bind_exc, bind_bad, toS_ok, toS_exc, toS_bad, nx_ok, ofB_bl, lift_some, lift_none, bindT_nm, bindT_tp, bindTs_nil, bindTs_cons, bop, bIMul, bAdd, bSub, dNeg, dNot, bLt, bLe, bGt, bGe, bIs, bIsn, isNon, dIx, dSl, dIsi, tyName, dItems, List.map_cons, List.map_nil, List.length_cons, List.length_nil, List.cons_append, List.nil_append, Nat.sub_self, List.replicate_zero, List.replicate_succ, List.getElem?_cons_succ, List.getElem?_cons_zero, List.set_cons_zero, List.set_cons_succ, Option.bind_some, Option.map_some, if_true, Bool.true_and, Bool.and_true, Bool.and_self, Bool.not_true, Bool.not_false, Bool.false_eq_true, if_false, ite_true, ite_false, reduceCtorEq, hp _ _ _ w ha he.1 he.2 (by omega), h _ _ _ _ w h0 hq (by omega)]
      · rw [hs, prodGo]
theorem sp_products_of (T : Tab) (i j : Nat) (h : SpProduct (T.f i)) (hp : SpPower (T.f j)) : SpProducts (mFun 5 (ess T (b_products_of i j))) := by
  intro ps as n w h1 h2 hn
  refine fun_ret ?_
  have hb : 1 + ps.length * (n * 3 + 1) ≤ 6000 := by
    have := Nat.mul_le_mul_right (n * 3 + 1) h1.1
    omega
  obtain ⟨u, u', hs⟩ := products_go T i j h hp hn (.dat (.lst (ps.map .int))) (.dat (amts as)) w ps as (1, 1) 1 .emp .emp one_ok h1.2 h2 hb
  rw [b_products_of, ess]
  have q1 : es T (.asg (.nm 2) (.tup (.cons (.cst (.int 1)) (.cons (.cst (.int 1)) .nil)))) (startR 5 [.lst (ps.map .int), amts as]) w = .next [.dat (.lst (ps.map .int)), .dat (amts as), .dat (amt (1, 1)), .emp, .emp] w := by
    simp only [mFun, startR, ess, es, ev, evs, evo, evc, evl, evi, sSeq, sNil, sRet, sExp, sAsg, sOwn, sIf, sFor, sRaise, sAug, sMut, sSet, sFrz, frzR, mVar, mCst, mBin, mUn, mAnd, mOr, mIf, mChn, mNil, mCons, mSeq, mLst, mLen, mOf, mSl, mNo, mPt, mCall, mPri, mBmt, mOix, mOcmp, mISeq, mIBi, bind_ok, bind_exc, bind_bad, toS_ok, toS_exc, toS_bad, nx_ok, ofB_bl, lift_some, lift_none, bindT_nm, bindT_tp, bindTs_nil, bindTs_cons, bop, bIMul, bAdd, bSub, dNeg, dNot, bLt, bLe, bGt, bGe, bIs, bIsn, isNon, dIx, dSl, dIsi, tyName, dItems, List.map_cons, List.map_nil, List.length_cons, List.length_nil, List.cons_append, List.nil_append, Nat.sub_self, List.replicate_zero, List.replicate_succ, List.getElem?_cons_succ, List.getElem?_cons_zero, List.set_cons_zero, List.set_cons_succ, Option.bind_some, Option.map_some, if_true, Bool.true_and, Bool.and_true, Bool.and_self, Bool.not_true, Bool.not_false, Bool.false_eq_true, if_false, ite_true, ite_false, reduceCtorEq, big_2, amt]
  simp only [sSeq, q1]
  rw [ess]
  have q2 : es T (.for' (.tp (.cons (.nm 3) (.cons (.nm 4) .nil))) (.zip (.cons (.var 0) (.cons (.var 1) .nil))) (.cons (.asg (.nm 2) (.call i (.cons (.var 2) (.cons (.call j (.cons (.var 4) (.cons (.var 3) .nil))) .nil)))) .nil)) [.dat (.lst (ps.map .int)), .dat (amts as), .dat (amt (1, 1)), .emp, .emp] w = .next [.dat (.lst (ps.map .int)), .dat (amts as), .dat (amt (prodQ ps as)), u, u'] w := by
    rw [es, sFor, evi, mIBi]
    simp only [mFun, startR, ess, es, ev, evs, evo, evc, evl, evi, sSeq, sNil, sRet, sExp, sAsg, sOwn, sIf, sFor, sRaise, sAug, sMut, sSet, sFrz, frzR, mVar, mCst, mBin, mUn, mAnd, mOr, mIf, mChn, mNil, mCons, mSeq, mLst, mLen, mOf, mSl, mNo, mPt, mCall, mPri, mBmt, mOix, mOcmp, mISeq, mIBi, bind_ok, bind_exc, bind_bad, toS_ok, toS_exc, toS_bad, nx_ok, ofB_bl, lift_some, lift_none, bindT_nm, bindT_tp, bindTs_nil, bindTs_cons, bop, bIMul, bAdd, bSub, dNeg, dNot, bLt, bLe, bGt, bGe, bIs, bIsn, isNon, dIx, dSl, dIsi, tyName, dItems, List.map_cons, List.map_nil, List.length_cons, List.length_nil, List.cons_append, List.nil_append, Nat.sub_self, List.replicate_zero, List.replicate_succ, List.getElem?_cons_succ, List.getElem?_cons_zero, List.set_cons_zero, List.set_cons_succ, Option.bind_some, Option.map_some, if_true, Bool.true_and, Bool.and_true, Bool.and_self, Bool.not_true, Bool.not_false, Bool.false_eq_true, if_false, ite_true, ite_false, reduceCtorEq, amts, dZip]
    simp only [mFun, startR, ess, es, ev, evs, evo, evc, evl, evi, sSeq, sNil, sRet, sExp, sAsg, sOwn, sIf, sFor, sRaise, sAug, sMut, sSet, sFrz, frzR, mVar, mCst, mBin, mUn, mAnd, mOr, mIf, mChn, mNil, mCons, mSeq, mLst, mLen, mOf, mSl, mNo, mPt, mCall, mPri, mBmt, mOix, mOcmp, mISeq, mIBi, bind_ok, bind_exc, bind_bad, toS_ok, toS_exc, toS_bad, nx_ok, ofB_bl, lift_some, lift_none, bindT_nm, bindT_tp, bindTs_nil, bindTs_cons, bop, bIMul, bAdd, bSub, dNeg, dNot, bLt, bLe, bGt, bGe, bIs, bIsn, isNon, dIx, dSl, dIsi, tyName, dItems, List.map_cons, List.map_nil, List.length_cons, List.length_nil, List.cons_append, List.nil_append, Nat.sub_self, List.replicate_zero, List.replicate_succ, List.getElem?_cons_succ, List.getElem?_cons_zero, List.set_cons_zero, List.set_cons_succ, Option.bind_some, Option.map_some, if_true, Bool.true_and, Bool.and_true, Bool.and_self, Bool.not_true, Bool.not_false, Bool.false_eq_true, if_false, ite_true, ite_false, reduceCtorEq, amts] at hs
    exact hs
  simp only [sSeq, q2]
  simp only [mFun, startR, ess, es, ev, evs, evo, evc, evl, evi, sSeq, sNil, sRet, sExp, sAsg, sOwn, sIf, sFor, sRaise, sAug, sMut, sSet, sFrz, frzR, mVar, mCst, mBin, mUn, mAnd, mOr, mIf, mChn, mNil, mCons, mSeq, mLst, mLen, mOf, mSl, mNo, mPt, mCall, mPri, mBmt, mOix, mOcmp, mISeq, mIBi, bind_ok, bind_exc, bind_bad, toS_ok, toS_exc, toS_bad, nx_ok, ofB_bl, lift_some, lift_none, bindT_nm, bindT_tp, bindTs_nil, bindTs_cons, bop, bIMul, bAdd, bSub, dNeg, dNot, bLt, bLe, bGt, bGe, bIs, bIsn, isNon, dIx, dSl, dIsi, tyName, dItems, List.map_cons, List.map_nil, List.length_cons, List.length_nil, List.cons_append, List.nil_append, Nat.sub_self, List.replicate_zero, List.replicate_succ, List.getElem?_cons_succ, List.getElem?_cons_zero, List.set_cons_zero, List.set_cons_succ, Option.bind_some, Option.map_some, if_true, Bool.true_and, Bool.and_true, Bool.and_self, Bool.not_true, Bool.not_false, Bool.false_eq_true, if_false, ite_true, ite_false, reduceCtorEq]
def rateQ (r : Rule) (as : List (Int × Int)) : Int × Int := mulQ r.1 (prodQ r.2 as)
/-- a rule as it may be -/
structure RuleOk (n : Nat) (r : Rule) : Prop where
  f : Ok n r.1
  p : Pw r.2
  l : 1 ≤ r.2.length
def SpRateOf (φ : MF) : Prop := ∀ r as n m w, Ok m r.1 → Pw r.2 → Oks n as → n ≤ 500 → m ≤ 2000 → φ [ruleD r, amts as] w = .ok (amt (rateQ r as)) w
theorem sp_rate_of (T : Tab) (i j : Nat) (h : SpProduct (T.f i)) (hp : SpProducts (T.f j)) : SpRateOf (mFun 2 (ess T (b_rate_of i j))) := by
  intro r as n m w h1 h2 h3 hn hm
  refine fun_ret ?_
  simp only [b_rate_of, ruleD, mFun, startR, ess, es, ev, evs, evo, evc, evl, evi, sSeq, sNil, sRet, sExp, sAsg, sOwn, sIf, sFor, sRaise, sAug, sMut, sSet, sFrz, frzR, mVar, mCst, mBin, mUn, mAnd, mOr, mIf, mChn, mNil, mCons, mSeq, mLst, mLen, mOf, mSl, mNo, mPt, mCall, mPri, mBmt, mOix, mOcmp, mISeq, mIBi, bind_ok, bind_exc, bind_bad, toS_ok, toS_exc, toS_bad, nx_ok, ofB_bl, lift_some, lift_none, bindT_nm, bindT_tp, bindTs_nil, bindTs_cons, bop, bIMul, bAdd, bSub, dNeg, dNot, bLt, bLe, bGt, bGe, bIs, bIsn, isNon, dIx, dSl, dIsi, tyName, dItems, List.map_cons, List.map_nil, List.length_cons, List.length_nil, List.cons_append, List.nil_append, Nat.sub_self, List.replicate_zero, List.replicate_succ, List.getElem?_cons_succ, List.getElem?_cons_zero, List.set_cons_zero, List.set_cons_succ, Option.bind_some, Option.map_some, if_true, Bool.true_and, Bool.and_true, Bool.and_self, Bool.not_true, Bool.not_false, Bool.false_eq_true, if_false, ite_true, ite_false, reduceCtorEq, ix0, ix1, hp _ _ _ w h2 h3 hn, h _ _ _ _ w h1 (prodQ_ok h2 h3) (by omega)]
  rfl
end RL

namespace RL
open PySem L2
/-! ### equality of what is meant -/
structure En {α : Type} [DecidableEq α] (n : Nat) (f : α → D) : Prop where
  ok : ∀ a, okD n (f a) = true
  eq : ∀ a b, eqN n (f a) (f b) = decide (a = b)
section
variable {α β : Type} [DecidableEq α] [DecidableEq β] {n : Nat} {f : α → D} {g : β → D}
theorem En.int (n : Nat) : En n D.int := ⟨fun a => by cases n <;> rfl, fun a b => by cases n <;> rfl⟩
theorem En.bl (n : Nat) : En n D.bl := ⟨fun a => by cases n <;> rfl, fun a b => by cases n <;> cases a <;> cases b <;> rfl⟩
theorem En.eqL (h : En n f) : ∀ xs ys : List α, RL.eqL (eqN n) (xs.map f) (ys.map f) = decide (xs = ys)
  | [], [] => by simp [RL.eqL]
  | [], y :: ys => by simp [RL.eqL]
  | x :: xs, [] => by simp [RL.eqL]
  | x :: xs, y :: ys => by
    simp only [List.map_cons, RL.eqL, h.eq, En.eqL h xs ys]
    simp
theorem En.lst (h : En n f) : En (n + 1) fun xs : List α => .lst (xs.map f) := ⟨fun xs => by simp only [okD, List.all_map, Function.comp_def, h.ok]; simp, fun xs ys => by rw [eqN]; exact h.eqL xs ys⟩
theorem En.two (h : En n f) (k : En n g) : En (n + 1) fun p : α × β => .tup [f p.1, g p.2] := ⟨fun p => by simp [okD, h.ok, k.ok], fun p q => by
  simp only [eqN, RL.eqL, h.eq, k.eq, Bool.and_true]
  cases p; cases q
  simp⟩
theorem En.beq (h : En 12 f) (a b : α) : bEq (f a) (f b) = some (.bl (decide (a = b))) := by simp only [bEq, h.ok, h.eq, Bool.and_self, if_true]
theorem En.bne (h : En 12 f) (a b : α) : bNe (f a) (f b) = some (.bl (!decide (a = b))) := by simp only [bNe, h.ok, h.eq, Bool.and_self, if_true]
end
/-- nothing or a number -/
def optI : Option Int → D
  | none => .non
  | some i => .int i
theorem En.opt (n : Nat) : En n optI := ⟨fun a => by cases n <;> cases a <;> rfl, fun a b => by cases n <;> cases a <;> cases b <;> first | rfl | (simp [optI, eqN]; try rfl)⟩
theorem en_amt (n : Nat) : En (n + 1) amt := (En.int n).two (En.int n)
theorem en_amts (n : Nat) : En (n + 2) amts := (en_amt n).lst
theorem en_rule (n : Nat) : En (n + 2) ruleD := (en_amt n).two (En.int n).lst
theorem en_trial (n : Nat) : En (n + 3) trialD := (en_amts n).two (en_amt (n + 1))
theorem en_trials (n : Nat) : En (n + 4) trialsD := (en_trial n).lst
theorem bEq_amt (a b : Int × Int) : bEq (amt a) (amt b) = some (.bl (decide (a = b))) := (en_amt 11).beq a b
theorem bNe_amt (a b : Int × Int) : bNe (amt a) (amt b) = some (.bl (!decide (a = b))) := (en_amt 11).bne a b
theorem bNe_trial (a b : Trial) : bNe (trialD a) (trialD b) = some (.bl (!decide (a = b))) := (en_trial 9).bne a b
theorem bEq_ints (a b : List Int) : bEq (.lst (a.map .int)) (.lst (b.map .int)) = some (.bl (decide (a = b))) := (En.int 11).lst.beq a b
theorem bNe_ints (a b : List Int) : bNe (.lst (a.map .int)) (.lst (b.map .int)) = some (.bl (!decide (a = b))) := (En.int 11).lst.bne a b
theorem bNe_opt (a b : Option Int) : bNe (optI a) (optI b) = some (.bl (!decide (a = b))) := (En.opt 12).bne a b
theorem bEq_bl (a b : Bool) : bEq (.bl a) (.bl b) = some (.bl (decide (a = b))) := (En.bl 12).beq a b
/-! ### comprehensions -/
section
variable {α : Type} {f : D → Wd → Res (Option D)} {e : α → D}
theorem comp_map {g : α → D} {w : Wd} : ∀ {xs : List α}, (∀ x ∈ xs, f (e x) w = .ok (some (g x)) w) → compGo f (xs.map e) w = .ok (xs.map g) w
  | [], _ => rfl
  | x :: xs, h => by
    rw [List.map_cons, compGo, h x List.mem_cons_self]
    simp only [Res.bind, comp_map fun y q => h y (List.mem_cons_of_mem _ q)]
    rfl
theorem comp_filter {p : α → Bool} {g : α → D} {w : Wd} : ∀ {xs : List α}, (∀ x ∈ xs, f (e x) w = .ok (if p x then some (g x) else none) w) → compGo f (xs.map e) w = .ok ((xs.filter p).map g) w
  | [], _ => rfl
  | x :: xs, h => by
    rw [List.map_cons, compGo, h x List.mem_cons_self]
    simp only [Res.bind, comp_filter fun y q => h y (List.mem_cons_of_mem _ q)]
    rw [List.filter_cons]
    cases p x <;> rfl
/-- a comprehension that goes on with the world -/
theorem comp_draw {β : Type} {g : β → D} {P : β → Prop} {Q : Wd → Prop} : ∀ {xs : List D} {w : Wd}, Q w → (∀ x ∈ xs, ∀ w, Q w → ∃ y w', f x w = .ok (some (g y)) w' ∧ P y ∧ Q w') → ∃ (ys : List β) (w' : Wd), compGo f xs w = .ok (ys.map g) w' ∧ ys.length = xs.length ∧ (∀ y ∈ ys, P y) ∧ Q w'
  | [], w, q, _ => ⟨[], w, rfl, rfl, fun _ h => (List.not_mem_nil h).elim, q⟩
  | x :: xs, w, q, h => by
    obtain ⟨y, w1, e1, p1, q1⟩ := h x List.mem_cons_self w q
    obtain ⟨ys, w2, e2, l2, p2, q2⟩ := comp_draw q1 fun y m => h y (List.mem_cons_of_mem _ m)
    refine ⟨y :: ys, w2, ?_, by simp [l2], fun z m => ?_, q2⟩
    · rw [compGo, e1]
      simp only [Res.bind, e2]
      rfl
    · rcases List.mem_cons.1 m with rfl | m
      · exact p1
      · exact p2 z m
end
theorem asBls_map {α : Type} {p : α → Bool} : ∀ xs : List α, asBls (xs.map fun x => .bl (p x)) = some (xs.map p)
  | [] => rfl
  | x :: xs => by simp only [List.map_cons, asBls, asBls_map xs, Option.map_some]
theorem dAll_map {α : Type} {p : α → Bool} (xs : List α) : dAll [.lst (xs.map fun x => .bl (p x))] = some (.bl (xs.all p)) := by
  simp only [dAll, asBls_map, Option.map_some]
  simp [List.all_map, Function.comp_def]
theorem asInts_map : ∀ xs : List Int, asInts (xs.map .int) = some xs
  | [] => rfl
  | x :: xs => by simp only [List.map_cons, asInts, asInts_map xs, Option.map_some]
theorem dSum_map (xs : List Int) : dSum [.lst (xs.map .int)] = some (.int xs.sum) := by simp only [dSum, asInts_map, Option.map_some]
theorem len_lst {xs : List D} : dLen [.lst xs] = some (.int xs.length) := rfl
theorem len_tup {xs : List D} : dLen [.tup xs] = some (.int xs.length) := rfl
theorem p0 : (priTab.getD 0 (Str.empty, fun _ => none)).2 = dLen := rfl
theorem p1 : (priTab.getD 1 (Str.empty, fun _ => none)).2 = dAbs := rfl
theorem p2 : (priTab.getD 2 (Str.empty, fun _ => none)).2 = dAll := rfl
theorem p3 : (priTab.getD 3 (Str.empty, fun _ => none)).2 = dSum := rfl
theorem p4 : (priTab.getD 4 (Str.empty, fun _ => none)).2 = dMax := rfl
theorem p5 : (priTab.getD 5 (Str.empty, fun _ => none)).2 = dMin := rfl
theorem p6 : (priTab.getD 6 (Str.empty, fun _ => none)).2 = dTup := rfl
/-- what all tables have -/
structure TB (T : Tab) : Prop where
  p : T.pri = priTab
  c : (T.cs.getD 0 (Str.empty, .non)).2 = .int 3
  b : T.bmt = bmtTab
/-! ### the checks -/
def SpIsInt (φ : MF) : Prop := ∀ (v lo hi : Int) w, φ [.int v, .int lo, .int hi] w = .ok (.bl (decide (lo ≤ v) && decide (v ≤ hi))) w
theorem chn_ok {f g : D → D → Option D} {a b d : ME} {r : Rho} {w : Wd} {x y z : D} {k l : Bool} (h1 : a r w = .ok x w) (h2 : b r w = .ok y w) (h3 : d r w = .ok z w) (e1 : f x y = some (.bl k)) (e2 : g y z = some (.bl l)) : mChn f g a b d r w = .ok (.bl (k && l)) w := by
  unfold mChn
  simp only [h1, h2, h3, Res.bind, lift, e1, e2, ofB]
  cases k <;> rfl
theorem isi_ii {i : Int} : dIsi "int" (.int i) = some (.bl true) := by simp [dIsi, tyName]
theorem isi_bi {i : Int} : dIsi "bool" (.int i) = some (.bl false) := by simp [dIsi, tyName]
theorem isi_bb {i : Bool} : dIsi "bool" (.bl i) = some (.bl true) := by simp [dIsi, tyName]
theorem isi_tt {xs : List D} : dIsi "tuple" (.tup xs) = some (.bl true) := by simp [dIsi, tyName]
theorem isi_ll {xs : List D} : dIsi "list" (.lst xs) = some (.bl true) := by simp [dIsi, tyName]
theorem n1 : ((0 + 1 : Nat) : Int) = 1 := rfl
theorem n2 : ((0 + 1 + 1 : Nat) : Int) = 2 := rfl
theorem sp_is_int (T : Tab) : SpIsInt (mFun 3 (ess T b_is_int)) := by
  intro v lo hi w
  refine fun_ret ?_
  by_cases hl : lo ≤ v
  · simp only [b_is_int, mFun, startR, ess, es, ev, evs, evo, evc, evl, evi, sSeq, sNil, sRet, sExp, sAsg, sOwn, sIf, sFor, sRaise, sAug, sMut, sSet, sFrz, frzR, mVar, mCst, mBin, mUn, mAnd, mOr, mIf, mChn, mNil, mCons, mSeq, mLst, mLen, mOf, mSl, mNo, mPt, mCall, mPri, mBmt, mOix, mOcmp, mISeq, mIBi, bind_ok, bind_exc, bind_bad, toS_ok, toS_exc, toS_bad, nx_ok, ofB_bl, lift_some, lift_none, bindT_nm, bindT_tp, bindTs_nil, bindTs_cons, bop, bIMul, bAdd, bSub, dNeg, dNot, bLt, bLe, bGt, bGe, bIs, bIsn, isNon, dIx, dSl, isi_ii, isi_bi, isi_bb, isi_tt, isi_ll, dItems, List.map_cons, List.map_nil, List.length_cons, List.length_nil, List.cons_append, List.nil_append, Nat.sub_self, List.replicate_zero, List.replicate_succ, List.getElem?_cons_succ, List.getElem?_cons_zero, List.set_cons_zero, List.set_cons_succ, Option.bind_some, Option.map_some, if_true, Bool.true_and, Bool.and_true, Bool.and_self, Bool.not_true, Bool.not_false, Bool.false_eq_true, if_false, ite_true, ite_false, reduceCtorEq, n1, n2, beq_self_eq_true, hl, decide_true]
  · simp only [b_is_int, mFun, startR, ess, es, ev, evs, evo, evc, evl, evi, sSeq, sNil, sRet, sExp, sAsg, sOwn, sIf, sFor, sRaise, sAug, sMut, sSet, sFrz, frzR, mVar, mCst, mBin, mUn, mAnd, mOr, mIf, mChn, mNil, mCons, mSeq, mLst, mLen, mOf, mSl, mNo, mPt, mCall, mPri, mBmt, mOix, mOcmp, mISeq, mIBi, bind_ok, bind_exc, bind_bad, toS_ok, toS_exc, toS_bad, nx_ok, ofB_bl, lift_some, lift_none, bindT_nm, bindT_tp, bindTs_nil, bindTs_cons, bop, bIMul, bAdd, bSub, dNeg, dNot, bLt, bLe, bGt, bGe, bIs, bIsn, isNon, dIx, dSl, isi_ii, isi_bi, isi_bb, isi_tt, isi_ll, dItems, List.map_cons, List.map_nil, List.length_cons, List.length_nil, List.cons_append, List.nil_append, Nat.sub_self, List.replicate_zero, List.replicate_succ, List.getElem?_cons_succ, List.getElem?_cons_zero, List.set_cons_zero, List.set_cons_succ, Option.bind_some, Option.map_some, if_true, Bool.true_and, Bool.and_true, Bool.and_self, Bool.not_true, Bool.not_false, Bool.false_eq_true, if_false, ite_true, ite_false, reduceCtorEq, n1, n2, beq_self_eq_true, hl, decide_false, Bool.false_and]
def SpIsAmount (φ : MF) : Prop := ∀ x w, Am x → φ [amt x] w = .ok (.bl true) w
theorem sp_is_amount (T : Tab) (i : Nat) (B : TB T) (h : SpCommon (T.f i)) : SpIsAmount (mFun 2 (ess T (b_is_amount i))) := by
  intro x w hx
  refine fun_ret ?_
  obtain ⟨a, b⟩ := x
  obtain ⟨h1, h2, h3⟩ := hx
  have h1 : 0 < a := h1
  have h2 : 0 < b := h2
  have h3 : Int.gcd a b = 1 := h3
  obtain ⟨m, rfl⟩ := Int.eq_ofNat_of_zero_le (Int.le_of_lt h1)
  obtain ⟨n, rfl⟩ := Int.eq_ofNat_of_zero_le (Int.le_of_lt h2)
  have h3 : Nat.gcd m n = 1 := h3
  have h := h m n w
  rw [h3] at h
  simp only [b_is_amount, mFun, startR, ess, es, ev, evs, evo, evc, evl, evi, sSeq, sNil, sRet, sExp, sAsg, sOwn, sIf, sFor, sRaise, sAug, sMut, sSet, sFrz, frzR, mVar, mCst, mBin, mUn, mAnd, mOr, mIf, mChn, mNil, mCons, mSeq, mLst, mLen, mOf, mSl, mNo, mPt, mCall, mPri, mBmt, mOix, mOcmp, mISeq, mIBi, bind_ok, bind_exc, bind_bad, toS_ok, toS_exc, toS_bad, nx_ok, ofB_bl, lift_some, lift_none, bindT_nm, bindT_tp, bindTs_nil, bindTs_cons, bop, bIMul, bAdd, bSub, dNeg, dNot, bLt, bLe, bGt, bGe, bIs, bIsn, isNon, dIx, dSl, isi_ii, isi_bi, isi_bb, isi_tt, isi_ll, dItems, List.map_cons, List.map_nil, List.length_cons, List.length_nil, List.cons_append, List.nil_append, Nat.sub_self, List.replicate_zero, List.replicate_succ, List.getElem?_cons_succ, List.getElem?_cons_zero, List.set_cons_zero, List.set_cons_succ, Option.bind_some, Option.map_some, if_true, Bool.true_and, Bool.and_true, Bool.and_self, Bool.not_true, Bool.not_false, Bool.false_eq_true, if_false, ite_true, ite_false, reduceCtorEq, n1, n2, beq_self_eq_true, amt, B.p, p0, p2, len_tup, mComp, wipeR, compF, compGo, h1, h2, ix0, ix1, h, bEq_int, bNe_int, dAll, asBls, decide_true, n1, n2, beq_self_eq_true, big_2, List.all_cons, List.all_nil, id]
end RL

namespace RL
open PySem L2
/-- a rule as it may be, its amounts of any size -/
def RuleA (r : Rule) : Prop := Am r.1 ∧ Pw r.2 ∧ 1 ≤ r.2.length
def pwB (e : Int) : Bool := decide (-3 ≤ e) && decide (e ≤ 3)
def SpIsRule (φ : MF) : Prop := ∀ r w, Am r.1 → 1 ≤ r.2.length → r.2.length ≤ 3 → φ [ruleD r] w = .ok (.bl (r.2.all pwB)) w
theorem pw_all {ps : List Int} : ps.all pwB = true ↔ ∀ e ∈ ps, -3 ≤ e ∧ e ≤ 3 := by
  rw [List.all_eq_true]
  unfold pwB
  simp
theorem SpIsRule.a {φ : MF} (h : SpIsRule φ) {r : Rule} {w : Wd} (hr : RuleA r) : φ [ruleD r] w = .ok (.bl true) w := by
  rw [h r w hr.1 hr.2.2 hr.2.1.1, pw_all.2 hr.2.1.2]
theorem len_big3 {α : Type} {xs : List α} (h : xs.length ≤ 3) : xs.length ≤ big := Nat.le_trans h (by decide)
theorem sp_is_rule (T : Tab) (i j : Nat) (B : TB T) (hi : SpIsInt (T.f i)) (hj : SpIsAmount (T.f j)) : SpIsRule (mFun 2 (ess T (b_is_rule i j))) := by
  intro r w h1 h3 h2
  refine fun_ret ?_
  have hc : compGo (compF (.nm 1) [.dat (ruleD r), .emp] (ev T (.cst (.bl true))) (ev T (.call i (.cons (.var 1) (.cons (.neg (.gl 0)) (.cons (.gl 0) .nil)))))) (r.2.map .int) w = .ok (r.2.map fun x => .bl (pwB x)) w := by
    refine comp_map fun x hx => ?_
    simp only [compF, mFun, startR, ess, es, ev, evs, evo, evc, evl, evi, sSeq, sNil, sRet, sExp, sAsg, sOwn, sIf, sFor, sRaise, sAug, sMut, sSet, sFrz, frzR, mVar, mCst, mBin, mUn, mAnd, mOr, mIf, mChn, mNil, mCons, mSeq, mLst, mLen, mOf, mSl, mNo, mPt, mCall, mPri, mBmt, mOix, mOcmp, mISeq, mIBi, bind_ok, bind_exc, bind_bad, toS_ok, toS_exc, toS_bad, nx_ok, ofB_bl, lift_some, lift_none, bindT_nm, bindT_tp, bindTs_nil, bindTs_cons, bop, bIMul, bAdd, bSub, dNeg, dNot, bLt, bLe, bGt, bGe, bIs, bIsn, isNon, dIx, dSl, isi_ii, isi_bi, isi_bb, isi_tt, isi_ll, dItems, List.map_cons, List.map_nil, List.length_cons, List.length_nil, List.cons_append, List.nil_append, Nat.sub_self, List.replicate_zero, List.replicate_succ, List.getElem?_cons_succ, List.getElem?_cons_zero, List.set_cons_zero, List.set_cons_succ, Option.bind_some, Option.map_some, if_true, Bool.true_and, Bool.and_true, Bool.and_self, Bool.not_true, Bool.not_false, Bool.false_eq_true, if_false, ite_true, ite_false, reduceCtorEq, n1, n2, beq_self_eq_true, B.c, hi _ _ _ w, pwB]
  simp only [mFun, startR, ess, es, ev, evs, evo, evc, evl, evi, sSeq, sNil, sRet, sExp, sAsg, sOwn, sIf, sFor, sRaise, sAug, sMut, sSet, sFrz, frzR, mVar, mCst, mBin, mUn, mAnd, mOr, mIf, mChn, mNil, mCons, mSeq, mLst, mLen, mOf, mSl, mNo, mPt, mCall, mPri, mBmt, mOix, mOcmp, mISeq, mIBi, bind_ok, bind_exc, bind_bad, toS_ok, toS_exc, toS_bad, nx_ok, ofB_bl, lift_some, lift_none, bindT_nm, bindT_tp, bindTs_nil, bindTs_cons, bop, bIMul, bAdd, bSub, dNeg, dNot, bLt, bLe, bGt, bGe, bIs, bIsn, isNon, dIx, dSl, isi_ii, isi_bi, isi_bb, isi_tt, isi_ll, dItems, List.map_cons, List.map_nil, List.length_cons, List.length_nil, List.cons_append, List.nil_append, Nat.sub_self, List.replicate_zero, List.replicate_succ, List.getElem?_cons_succ, List.getElem?_cons_zero, List.set_cons_zero, List.set_cons_succ, Option.bind_some, Option.map_some, if_true, Bool.true_and, Bool.and_true, Bool.and_self, Bool.not_true, Bool.not_false, Bool.false_eq_true, if_false, ite_true, ite_false, reduceCtorEq, n1, n2, beq_self_eq_true, ruleD] at hc
  have e1 : (1 : Int) ≤ (r.2.length : Int) := by omega
  have e2 : (r.2.length : Int) ≤ 3 := by omega
  simp only [b_is_rule, ruleD, mFun, startR, ess, es, ev, evs, evo, evc, evl, evi, sSeq, sNil, sRet, sExp, sAsg, sOwn, sIf, sFor, sRaise, sAug, sMut, sSet, sFrz, frzR, mVar, mCst, mBin, mUn, mAnd, mOr, mIf, mChn, mNil, mCons, mSeq, mLst, mLen, mOf, mSl, mNo, mPt, mCall, mPri, mBmt, mOix, mOcmp, mISeq, mIBi, bind_ok, bind_exc, bind_bad, toS_ok, toS_exc, toS_bad, nx_ok, ofB_bl, lift_some, lift_none, bindT_nm, bindT_tp, bindTs_nil, bindTs_cons, bop, bIMul, bAdd, bSub, dNeg, dNot, bLt, bLe, bGt, bGe, bIs, bIsn, isNon, dIx, dSl, isi_ii, isi_bi, isi_bb, isi_tt, isi_ll, dItems, List.map_cons, List.map_nil, List.length_cons, List.length_nil, List.cons_append, List.nil_append, Nat.sub_self, List.replicate_zero, List.replicate_succ, List.getElem?_cons_succ, List.getElem?_cons_zero, List.set_cons_zero, List.set_cons_succ, Option.bind_some, Option.map_some, if_true, Bool.true_and, Bool.and_true, Bool.and_self, Bool.not_true, Bool.not_false, Bool.false_eq_true, if_false, ite_true, ite_false, reduceCtorEq, n1, n2, beq_self_eq_true, B.p, p0, p2, len_tup, len_lst, hj _ w h1, ix0, ix1, bNe_int, List.length_map, e1, e2, decide_true, mComp, wipeR, len_big3 h2, hc, dAll_map (p := pwB)]
def Ams (xs : List (Int × Int)) : Prop := ∀ x ∈ xs, Am x
def SpIsAmounts (φ : MF) : Prop := ∀ xs (n : Int) w, Ams xs → n = xs.length → xs.length ≤ 3 → φ [amts xs, .int n] w = .ok (.bl true) w
theorem sp_is_amounts (T : Tab) (i : Nat) (B : TB T) (hi : SpIsAmount (T.f i)) : SpIsAmounts (mFun 3 (ess T (b_is_amounts i))) := by
  intro xs n w h1 h2 h3
  subst h2
  refine fun_ret ?_
  have hc : compGo (compF (.nm 2) [.dat (amts xs), .dat (.int xs.length), .emp] (ev T (.cst (.bl true))) (ev T (.call i (.cons (.var 2) .nil)))) (xs.map amt) w = .ok (xs.map fun x => .bl true) w := by
    refine comp_map fun x hx => ?_
    simp only [compF, mFun, startR, ess, es, ev, evs, evo, evc, evl, evi, sSeq, sNil, sRet, sExp, sAsg, sOwn, sIf, sFor, sRaise, sAug, sMut, sSet, sFrz, frzR, mVar, mCst, mBin, mUn, mAnd, mOr, mIf, mChn, mNil, mCons, mSeq, mLst, mLen, mOf, mSl, mNo, mPt, mCall, mPri, mBmt, mOix, mOcmp, mISeq, mIBi, bind_ok, bind_exc, bind_bad, toS_ok, toS_exc, toS_bad, nx_ok, ofB_bl, lift_some, lift_none, bindT_nm, bindT_tp, bindTs_nil, bindTs_cons, bop, bIMul, bAdd, bSub, dNeg, dNot, bLt, bLe, bGt, bGe, bIs, bIsn, isNon, dIx, dSl, isi_ii, isi_bi, isi_bb, isi_tt, isi_ll, dItems, List.map_cons, List.map_nil, List.length_cons, List.length_nil, List.cons_append, List.nil_append, Nat.sub_self, List.replicate_zero, List.replicate_succ, List.getElem?_cons_succ, List.getElem?_cons_zero, List.set_cons_zero, List.set_cons_succ, Option.bind_some, Option.map_some, if_true, Bool.true_and, Bool.and_true, Bool.and_self, Bool.not_true, Bool.not_false, Bool.false_eq_true, if_false, ite_true, ite_false, reduceCtorEq, n1, n2, beq_self_eq_true, hi _ w (h1 x hx)]
  simp only [mFun, startR, ess, es, ev, evs, evo, evc, evl, evi, sSeq, sNil, sRet, sExp, sAsg, sOwn, sIf, sFor, sRaise, sAug, sMut, sSet, sFrz, frzR, mVar, mCst, mBin, mUn, mAnd, mOr, mIf, mChn, mNil, mCons, mSeq, mLst, mLen, mOf, mSl, mNo, mPt, mCall, mPri, mBmt, mOix, mOcmp, mISeq, mIBi, bind_ok, bind_exc, bind_bad, toS_ok, toS_exc, toS_bad, nx_ok, ofB_bl, lift_some, lift_none, bindT_nm, bindT_tp, bindTs_nil, bindTs_cons, bop, bIMul, bAdd, bSub, dNeg, dNot, bLt, bLe, bGt, bGe, bIs, bIsn, isNon, dIx, dSl, isi_ii, isi_bi, isi_bb, isi_tt, isi_ll, dItems, List.map_cons, List.map_nil, List.length_cons, List.length_nil, List.cons_append, List.nil_append, Nat.sub_self, List.replicate_zero, List.replicate_succ, List.getElem?_cons_succ, List.getElem?_cons_zero, List.set_cons_zero, List.set_cons_succ, Option.bind_some, Option.map_some, if_true, Bool.true_and, Bool.and_true, Bool.and_self, Bool.not_true, Bool.not_false, Bool.false_eq_true, if_false, ite_true, ite_false, reduceCtorEq, n1, n2, beq_self_eq_true, amts] at hc
  simp only [b_is_amounts, amts, mFun, startR, ess, es, ev, evs, evo, evc, evl, evi, sSeq, sNil, sRet, sExp, sAsg, sOwn, sIf, sFor, sRaise, sAug, sMut, sSet, sFrz, frzR, mVar, mCst, mBin, mUn, mAnd, mOr, mIf, mChn, mNil, mCons, mSeq, mLst, mLen, mOf, mSl, mNo, mPt, mCall, mPri, mBmt, mOix, mOcmp, mISeq, mIBi, bind_ok, bind_exc, bind_bad, toS_ok, toS_exc, toS_bad, nx_ok, ofB_bl, lift_some, lift_none, bindT_nm, bindT_tp, bindTs_nil, bindTs_cons, bop, bIMul, bAdd, bSub, dNeg, dNot, bLt, bLe, bGt, bGe, bIs, bIsn, isNon, dIx, dSl, isi_ii, isi_bi, isi_bb, isi_tt, isi_ll, dItems, List.map_cons, List.map_nil, List.length_cons, List.length_nil, List.cons_append, List.nil_append, Nat.sub_self, List.replicate_zero, List.replicate_succ, List.getElem?_cons_succ, List.getElem?_cons_zero, List.set_cons_zero, List.set_cons_succ, Option.bind_some, Option.map_some, if_true, Bool.true_and, Bool.and_true, Bool.and_self, Bool.not_true, Bool.not_false, Bool.false_eq_true, if_false, ite_true, ite_false, reduceCtorEq, n1, n2, beq_self_eq_true, B.p, p0, p2, len_lst, List.length_map, bEq_int, mComp, wipeR, len_big3 h3, hc, dAll_map (p := fun _ => true)]
  simp
/-- trials as they may be, of k quantities -/
structure TrialsA (k : Nat) (ts : List Trial) : Prop where
  l1 : 1 ≤ ts.length
  l2 : ts.length ≤ 8
  k1 : 1 ≤ k
  k2 : k ≤ 3
  len : ∀ t ∈ ts, t.1.length = k
  am : ∀ t ∈ ts, Ams t.1 ∧ Am t.2
def SpIsTrials (φ : MF) : Prop := ∀ k ts w, TrialsA k ts → φ [trialsD ts] w = .ok (.bl true) w
theorem trials_go (T : Tab) (i j : Nat) (B : TB T) (hi : SpIsAmounts (T.f i)) (hj : SpIsAmount (T.f j)) (k : Nat) (k1 : 1 ≤ k) (k2 : k ≤ 3) (t0 : Trial) (t0s : List D) (hk : t0.1.length = k) (w : Wd) : ∀ (ts : List Trial) (s : Sl), (∀ t ∈ ts, t.1.length = k) → (∀ t ∈ ts, Ams t.1 ∧ Am t.2) → 
    ∃ s', forGo (.nm 1) (ess T (.cons (.iff (.or (.not (.isi (.var 1) "tuple")) (.or (.bin .ne (.pri 0 (.cons (.var 1) .nil)) (.cst (.int 2))) (.or (.not (.isi (.ix (.var 1) (.cst (.int 0))) "list")) (.not (.call j (.cons (.ix (.var 1) (.cst (.int 1))) .nil)))))) (.cons (.ret (.cst (.bl false))) .nil) .nil) (.cons (.iff (.or (.not (.chn .le .le (.cst (.int 1)) (.pri 0 (.cons (.ix (.var 1) (.cst (.int 0))) .nil)) (.cst (.int 3)))) (.not (.call i (.cons (.ix (.var 1) (.cst (.int 0))) (.cons (.pri 0 (.cons (.ix (.ix (.var 0) (.cst (.int 0))) (.cst (.int 0))) .nil)) .nil))))) (.cons (.ret (.cst (.bl false))) .nil) .nil) .nil)))
      (ts.map trialD) [.dat (.lst (trialD t0 :: t0s)), s] w = .next [.dat (.lst (trialD t0 :: t0s)), s'] w := by
  intro ts
  induction ts with
  | nil => intro s _ _; exact ⟨s, rfl⟩
  | cons t ts ih =>
    intro s h1 h2
    obtain ⟨s', hs⟩ := ih (.dat (trialD t)) (fun t' m => h1 t' (List.mem_cons_of_mem _ m)) (fun t' m => h2 t' (List.mem_cons_of_mem _ m))
    refine ⟨s', ?_⟩
    rw [List.map_cons]
    refine (for_go (r1 := [.dat (.lst (trialD t0 :: t0s)), .dat (trialD t)]) (r2 := [.dat (.lst (trialD t0 :: t0s)), .dat (trialD t)]) (w2 := w) (by simp only [mFun, startR, ess, es, ev, evs, evo, evc, evl, evi, sSeq, sNil, sRet, sExp, sAsg, sOwn, sIf, sFor, sRaise, sAug, sMut, sSet, sFrz, frzR, mVar, mCst, mBin, mUn, mAnd, mOr, mIf, mChn, mNil, mCons, mSeq, mLst, mLen, mOf, mSl, mNo, mPt, mCall, mPri, mBmt, mOix, mOcmp, mISeq, mIBi, bind_ok, bind_exc, bind_bad, toS_ok, toS_exc, toS_bad, nx_ok, ofB_bl, lift_some, lift_none, bindT_nm, bindT_tp, bindTs_nil, bindTs_cons, bop, bIMul, bAdd, bSub, dNeg, dNot, bLt, bLe, bGt, bGe, bIs, bIsn, isNon, dIx, dSl, isi_ii, isi_bi, isi_bb, isi_tt, isi_ll, dItems, List.map_cons, List.map_nil, List.length_cons, List.length_nil, List.cons_append, List.nil_append, Nat.sub_self, List.replicate_zero, List.replicate_succ, List.getElem?_cons_succ, List.getElem?_cons_zero, List.set_cons_zero, List.set_cons_succ, Option.bind_some, Option.map_some, if_true, Bool.true_and, Bool.and_true, Bool.and_self, Bool.not_true, Bool.not_false, Bool.false_eq_true, if_false, ite_true, ite_false, reduceCtorEq, n1, n2, beq_self_eq_true]) ?_).trans hs
    have ht := h2 t List.mem_cons_self
    have hl := h1 t List.mem_cons_self
    have e1 : (1 : Int) ≤ (t.1.length : Int) := by omega
    have e2 : (t.1.length : Int) ≤ 3 := by omega
    have e3 := hi t.1 (t0.1.length : Int) w ht.1 (by omega) (by omega)
    simp only [amts] at e3
    simp only [mFun, startR, ess, es, ev, evs, evo, evc, evl, evi, sSeq, sNil, sRet, sExp, sAsg, sOwn, sIf, sFor, sRaise, sAug, sMut, sSet, sFrz, frzR, mVar, mCst, mBin, mUn, mAnd, mOr, mIf, mChn, mNil, mCons, mSeq, mLst, mLen, mOf, mSl, mNo, mPt, mCall, mPri, mBmt, mOix, mOcmp, mISeq, mIBi, bind_ok, bind_exc, bind_bad, toS_ok, toS_exc, toS_bad, nx_ok, ofB_bl, lift_some, lift_none, bindT_nm, bindT_tp, bindTs_nil, bindTs_cons, bop, bIMul, bAdd, bSub, dNeg, dNot, bLt, bLe, bGt, bGe, bIs, bIsn, isNon, dIx, dSl, isi_ii, isi_bi, isi_bb, isi_tt, isi_ll, dItems, List.map_cons, List.map_nil, List.length_cons, List.length_nil, List.cons_append, List.nil_append, Nat.sub_self, List.replicate_zero, List.replicate_succ, List.getElem?_cons_succ, List.getElem?_cons_zero, List.set_cons_zero, List.set_cons_succ, Option.bind_some, Option.map_some, if_true, Bool.true_and, Bool.and_true, Bool.and_self, Bool.not_true, Bool.not_false, Bool.false_eq_true, if_false, ite_true, ite_false, reduceCtorEq, n1, n2, beq_self_eq_true, trialD, amts, B.p, p0, len_tup, len_lst, ix0, ix1, bNe_int, hj _ w ht.2, List.length_map, e1, e2, decide_true, e3]
theorem sp_is_trials (T : Tab) (i j : Nat) (B : TB T) (hi : SpIsAmounts (T.f i)) (hj : SpIsAmount (T.f j)) : SpIsTrials (mFun 2 (ess T (b_is_trials i j))) := by
  intro k ts w h
  refine fun_ret ?_
  have l1 := h.l1
  have l2 := h.l2
  cases ts with
  | nil => simp at l1
  | cons t ts =>
    obtain ⟨s', hs⟩ := trials_go T i j B hi hj k h.k1 h.k2 t (ts.map trialD) (h.len t List.mem_cons_self) w (t :: ts) .emp h.len h.am
    simp only [mFun, startR, ess, es, ev, evs, evo, evc, evl, evi, sSeq, sNil, sRet, sExp, sAsg, sOwn, sIf, sFor, sRaise, sAug, sMut, sSet, sFrz, frzR, mVar, mCst, mBin, mUn, mAnd, mOr, mIf, mChn, mNil, mCons, mSeq, mLst, mLen, mOf, mSl, mNo, mPt, mCall, mPri, mBmt, mOix, mOcmp, mISeq, mIBi, bind_ok, bind_exc, bind_bad, toS_ok, toS_exc, toS_bad, nx_ok, ofB_bl, lift_some, lift_none, bindT_nm, bindT_tp, bindTs_nil, bindTs_cons, bop, bIMul, bAdd, bSub, dNeg, dNot, bLt, bLe, bGt, bGe, bIs, bIsn, isNon, dIx, dSl, isi_ii, isi_bi, isi_bb, isi_tt, isi_ll, dItems, List.map_cons, List.map_nil, List.length_cons, List.length_nil, List.cons_append, List.nil_append, Nat.sub_self, List.replicate_zero, List.replicate_succ, List.getElem?_cons_succ, List.getElem?_cons_zero, List.set_cons_zero, List.set_cons_succ, Option.bind_some, Option.map_some, if_true, Bool.true_and, Bool.and_true, Bool.and_self, Bool.not_true, Bool.not_false, Bool.false_eq_true, if_false, ite_true, ite_false, reduceCtorEq, n1, n2, beq_self_eq_true, B.p, p0] at hs
    have e1 : (1 : Int) ≤ ((ts.length + 1 : Nat) : Int) := by omega
    have e2 : ((ts.length + 1 : Nat) : Int) ≤ 8 := by
      rw [List.length_cons] at l2
      omega
    simp only [b_is_trials, trialsD, mFun, startR, ess, es, ev, evs, evo, evc, evl, evi, sSeq, sNil, sRet, sExp, sAsg, sOwn, sIf, sFor, sRaise, sAug, sMut, sSet, sFrz, frzR, mVar, mCst, mBin, mUn, mAnd, mOr, mIf, mChn, mNil, mCons, mSeq, mLst, mLen, mOf, mSl, mNo, mPt, mCall, mPri, mBmt, mOix, mOcmp, mISeq, mIBi, bind_ok, bind_exc, bind_bad, toS_ok, toS_exc, toS_bad, nx_ok, ofB_bl, lift_some, lift_none, bindT_nm, bindT_tp, bindTs_nil, bindTs_cons, bop, bIMul, bAdd, bSub, dNeg, dNot, bLt, bLe, bGt, bGe, bIs, bIsn, isNon, dIx, dSl, isi_ii, isi_bi, isi_bb, isi_tt, isi_ll, dItems, List.map_cons, List.map_nil, List.length_cons, List.length_nil, List.cons_append, List.nil_append, Nat.sub_self, List.replicate_zero, List.replicate_succ, List.getElem?_cons_succ, List.getElem?_cons_zero, List.set_cons_zero, List.set_cons_succ, Option.bind_some, Option.map_some, if_true, Bool.true_and, Bool.and_true, Bool.and_self, Bool.not_true, Bool.not_false, Bool.false_eq_true, if_false, ite_true, ite_false, reduceCtorEq, n1, n2, beq_self_eq_true, B.p, p0, len_lst, List.length_map, e1, e2, decide_true, hs]
def SpCkRule (φ : MF) : Prop := ∀ r w, RuleA r → φ [ruleD r] w = .ok .non w
def SpCkTrials (φ : MF) : Prop := ∀ k ts w, TrialsA k ts → φ [trialsD ts] w = .ok .non w
def SpCkAmounts (φ : MF) : Prop := ∀ xs (n : Int) w, Ams xs → n = xs.length → xs.length ≤ 3 → φ [amts xs, .int n] w = .ok .non w
def SpCkAmount (φ : MF) : Prop := ∀ x w, Am x → φ [amt x] w = .ok .non w
def SpCkQuantity (φ : MF) : Prop := ∀ (n q : Int) w, 0 ≤ q → q < n → φ [.int n, .int q] w = .ok .non w
theorem sp_check_rule (T : Tab) (i : Nat) (h : SpIsRule (T.f i)) : SpCkRule (mFun 1 (ess T (b_check_rule i))) := by
  intro r w hr
  refine fun_next (r := [.dat (ruleD r)]) ?_
  simp only [b_check_rule, mFun, startR, ess, es, ev, evs, evo, evc, evl, evi, sSeq, sNil, sRet, sExp, sAsg, sOwn, sIf, sFor, sRaise, sAug, sMut, sSet, sFrz, frzR, mVar, mCst, mBin, mUn, mAnd, mOr, mIf, mChn, mNil, mCons, mSeq, mLst, mLen, mOf, mSl, mNo, mPt, mCall, mPri, mBmt, mOix, mOcmp, mISeq, mIBi, bind_ok, bind_exc, bind_bad, toS_ok, toS_exc, toS_bad, nx_ok, ofB_bl, lift_some, lift_none, bindT_nm, bindT_tp, bindTs_nil, bindTs_cons, bop, bIMul, bAdd, bSub, dNeg, dNot, bLt, bLe, bGt, bGe, bIs, bIsn, isNon, dIx, dSl, isi_ii, isi_bi, isi_bb, isi_tt, isi_ll, dItems, List.map_cons, List.map_nil, List.length_cons, List.length_nil, List.cons_append, List.nil_append, Nat.sub_self, List.replicate_zero, List.replicate_succ, List.getElem?_cons_succ, List.getElem?_cons_zero, List.set_cons_zero, List.set_cons_succ, Option.bind_some, Option.map_some, if_true, Bool.true_and, Bool.and_true, Bool.and_self, Bool.not_true, Bool.not_false, Bool.false_eq_true, if_false, ite_true, ite_false, reduceCtorEq, n1, n2, beq_self_eq_true, h.a hr]
theorem sp_check_trials (T : Tab) (i : Nat) (h : SpIsTrials (T.f i)) : SpCkTrials (mFun 1 (ess T (b_check_trials i))) := by
  intro k r w hr
  refine fun_next (r := [.dat (trialsD r)]) ?_
  simp only [b_check_trials, mFun, startR, ess, es, ev, evs, evo, evc, evl, evi, sSeq, sNil, sRet, sExp, sAsg, sOwn, sIf, sFor, sRaise, sAug, sMut, sSet, sFrz, frzR, mVar, mCst, mBin, mUn, mAnd, mOr, mIf, mChn, mNil, mCons, mSeq, mLst, mLen, mOf, mSl, mNo, mPt, mCall, mPri, mBmt, mOix, mOcmp, mISeq, mIBi, bind_ok, bind_exc, bind_bad, toS_ok, toS_exc, toS_bad, nx_ok, ofB_bl, lift_some, lift_none, bindT_nm, bindT_tp, bindTs_nil, bindTs_cons, bop, bIMul, bAdd, bSub, dNeg, dNot, bLt, bLe, bGt, bGe, bIs, bIsn, isNon, dIx, dSl, isi_ii, isi_bi, isi_bb, isi_tt, isi_ll, dItems, List.map_cons, List.map_nil, List.length_cons, List.length_nil, List.cons_append, List.nil_append, Nat.sub_self, List.replicate_zero, List.replicate_succ, List.getElem?_cons_succ, List.getElem?_cons_zero, List.set_cons_zero, List.set_cons_succ, Option.bind_some, Option.map_some, if_true, Bool.true_and, Bool.and_true, Bool.and_self, Bool.not_true, Bool.not_false, Bool.false_eq_true, if_false, ite_true, ite_false, reduceCtorEq, n1, n2, beq_self_eq_true, h k r w hr]
theorem sp_check_amounts (T : Tab) (i : Nat) (h : SpIsAmounts (T.f i)) : SpCkAmounts (mFun 2 (ess T (b_check_amounts i))) := by
  intro xs n w h1 h2 h3
  refine fun_next (r := [.dat (amts xs), .dat (.int n)]) ?_
  simp only [b_check_amounts, mFun, startR, ess, es, ev, evs, evo, evc, evl, evi, sSeq, sNil, sRet, sExp, sAsg, sOwn, sIf, sFor, sRaise, sAug, sMut, sSet, sFrz, frzR, mVar, mCst, mBin, mUn, mAnd, mOr, mIf, mChn, mNil, mCons, mSeq, mLst, mLen, mOf, mSl, mNo, mPt, mCall, mPri, mBmt, mOix, mOcmp, mISeq, mIBi, bind_ok, bind_exc, bind_bad, toS_ok, toS_exc, toS_bad, nx_ok, ofB_bl, lift_some, lift_none, bindT_nm, bindT_tp, bindTs_nil, bindTs_cons, bop, bIMul, bAdd, bSub, dNeg, dNot, bLt, bLe, bGt, bGe, bIs, bIsn, isNon, dIx, dSl, isi_ii, isi_bi, isi_bb, isi_tt, isi_ll, dItems, List.map_cons, List.map_nil, List.length_cons, List.length_nil, List.cons_append, List.nil_append, Nat.sub_self, List.replicate_zero, List.replicate_succ, List.getElem?_cons_succ, List.getElem?_cons_zero, List.set_cons_zero, List.set_cons_succ, Option.bind_some, Option.map_some, if_true, Bool.true_and, Bool.and_true, Bool.and_self, Bool.not_true, Bool.not_false, Bool.false_eq_true, if_false, ite_true, ite_false, reduceCtorEq, n1, n2, beq_self_eq_true, h xs n w h1 h2 h3]
theorem sp_check_amount (T : Tab) (i : Nat) (h : SpIsAmount (T.f i)) : SpCkAmount (mFun 1 (ess T (b_check_amount i))) := by
  intro x w h1
  refine fun_next (r := [.dat (amt x)]) ?_
  simp only [b_check_amount, mFun, startR, ess, es, ev, evs, evo, evc, evl, evi, sSeq, sNil, sRet, sExp, sAsg, sOwn, sIf, sFor, sRaise, sAug, sMut, sSet, sFrz, frzR, mVar, mCst, mBin, mUn, mAnd, mOr, mIf, mChn, mNil, mCons, mSeq, mLst, mLen, mOf, mSl, mNo, mPt, mCall, mPri, mBmt, mOix, mOcmp, mISeq, mIBi, bind_ok, bind_exc, bind_bad, toS_ok, toS_exc, toS_bad, nx_ok, ofB_bl, lift_some, lift_none, bindT_nm, bindT_tp, bindTs_nil, bindTs_cons, bop, bIMul, bAdd, bSub, dNeg, dNot, bLt, bLe, bGt, bGe, bIs, bIsn, isNon, dIx, dSl, isi_ii, isi_bi, isi_bb, isi_tt, isi_ll, dItems, List.map_cons, List.map_nil, List.length_cons, List.length_nil, List.cons_append, List.nil_append, Nat.sub_self, List.replicate_zero, List.replicate_succ, List.getElem?_cons_succ, List.getElem?_cons_zero, List.set_cons_zero, List.set_cons_succ, Option.bind_some, Option.map_some, if_true, Bool.true_and, Bool.and_true, Bool.and_self, Bool.not_true, Bool.not_false, Bool.false_eq_true, if_false, ite_true, ite_false, reduceCtorEq, n1, n2, beq_self_eq_true, h x w h1]
theorem sp_check_quantity (T : Tab) (i : Nat) (h : SpIsInt (T.f i)) : SpCkQuantity (mFun 2 (ess T (b_check_quantity i))) := by
  intro n q w h1 h2
  refine fun_next (r := [.dat (.int n), .dat (.int q)]) ?_
  have h3 : q ≤ n - 1 := by omega
  simp only [b_check_quantity, mFun, startR, ess, es, ev, evs, evo, evc, evl, evi, sSeq, sNil, sRet, sExp, sAsg, sOwn, sIf, sFor, sRaise, sAug, sMut, sSet, sFrz, frzR, mVar, mCst, mBin, mUn, mAnd, mOr, mIf, mChn, mNil, mCons, mSeq, mLst, mLen, mOf, mSl, mNo, mPt, mCall, mPri, mBmt, mOix, mOcmp, mISeq, mIBi, bind_ok, bind_exc, bind_bad, toS_ok, toS_exc, toS_bad, nx_ok, ofB_bl, lift_some, lift_none, bindT_nm, bindT_tp, bindTs_nil, bindTs_cons, bop, bIMul, bAdd, bSub, dNeg, dNot, bLt, bLe, bGt, bGe, bIs, bIsn, isNon, dIx, dSl, isi_ii, isi_bi, isi_bb, isi_tt, isi_ll, dItems, List.map_cons, List.map_nil, List.length_cons, List.length_nil, List.cons_append, List.nil_append, Nat.sub_self, List.replicate_zero, List.replicate_succ, List.getElem?_cons_succ, List.getElem?_cons_zero, List.set_cons_zero, List.set_cons_succ, Option.bind_some, Option.map_some, if_true, Bool.true_and, Bool.and_true, Bool.and_self, Bool.not_true, Bool.not_false, Bool.false_eq_true, if_false, ite_true, ite_false, reduceCtorEq, n1, n2, beq_self_eq_true, h _ _ _ w, h1, h3, decide_true]
end RL

namespace RL
open PySem L2
theorem atI_nat {α : Type} {xs : List α} {k : Nat} (h : k < xs.length) : atI xs (k : Int) = some xs[k] := by
  unfold atI ixN
  rw [if_pos (by omega), if_pos (by omega)]
  simp [h]
theorem atI_map {α : Type} {f : α → D} {xs : List α} {k : Nat} {d : α} (h : k < xs.length) : atI (xs.map f) (k : Int) = some (f (xs.getD k d)) := by
  rw [atI_nat (by simpa using h)]
  simp [List.getD, h]
theorem iota_range : ∀ (n : Nat) (a : Int), iota a n = (List.range n).map fun k : Nat => D.int (a + (k : Int))
  | 0, _ => rfl
  | n + 1, a => by
    rw [iota, iota_range n (a + 1), List.range_succ_eq_map, List.map_cons, List.map_map]
    simp only [Function.comp_def]
    congr 1
    · simp
    · refine List.map_congr_left fun k _ => ?_
      congr 1
      simp
      omega
theorem iota0 (n : Nat) : iota 0 n = (List.range n).map fun k : Nat => D.int (k : Int) := by
  rw [iota_range]
  simp
theorem enum_range {α : Type} {f : α → D} {d : α} : ∀ (xs : List α) (a : Int), enumD a (xs.map f) = (List.range xs.length).map fun k : Nat => D.tup [.int (a + (k : Int)), f (xs.getD k d)]
  | [], _ => rfl
  | x :: xs, a => by
    rw [List.map_cons, enumD, enum_range (d := d) xs (a + 1), List.length_cons, List.range_succ_eq_map, List.map_cons, List.map_map]
    simp only [Function.comp_def]
    congr 1
    · simp
    · refine List.map_congr_left fun k _ => ?_
      have e : a + 1 + (k : Int) = a + ((k + 1 : Nat) : Int) := by omega
      simp [e]
/-- a rule and trials within bounds -/
structure RuleB (n : Nat) (r : Rule) : Prop where
  f : Ok n r.1
  p : Pw r.2
  l : 1 ≤ r.2.length
theorem RuleB.a {n : Nat} {r : Rule} (h : RuleB n r) : RuleA r := ⟨h.f.am, h.p, h.l⟩
theorem Oks.am {n : Nat} {xs : List (Int × Int)} (h : Oks n xs) : Ams xs := fun x m => (h x m).am
structure TrialsB (k n : Nat) (ts : List Trial) : Prop where
  a : TrialsA k ts
  b : ∀ t ∈ ts, Oks n t.1 ∧ Ok n t.2
def SpRate (φ : MF) : Prop := ∀ r as w, RuleB 2000 r → Oks 500 as → as.length = r.2.length → φ [ruleD r, amts as] w = .ok (amt (rateQ r as)) w
def SpTrial (φ : MF) : Prop := ∀ r as w, RuleB 2000 r → Oks 500 as → as.length = r.2.length → φ [ruleD r, amts as] w = .ok (trialD (as, rateQ r as)) w
theorem sp_rate (T : Tab) (i j k : Nat) (B : TB T) (hi : SpRateOf (T.f i)) (hj : SpCkAmounts (T.f j)) (hk : SpCkRule (T.f k)) : SpRate (mFun 2 (ess T (b_rate i j k))) := by
  intro r as w h1 h2 h3
  refine fun_ret ?_
  have e1 := hk r w h1.a
  have e2 := hj as (r.2.length : Int) w h2.am (by rw [h3]) (by rw [h3]; exact h1.p.1)
  have e3 := hi r as 500 2000 w h1.f h1.p h2 (by omega) (by omega)
  simp only [ruleD, amts] at e1 e2 e3
  simp only [b_rate, ruleD, amts, mFun, startR, ess, es, ev, evs, evo, evc, evl, evi, sSeq, sNil, sRet, sExp, sAsg, sOwn, sIf, sFor, sRaise, sAug, sMut, sSet, sFrz, frzR, mVar, mCst, mBin, mUn, mAnd, mOr, mIf, mChn, mNil, mCons, mSeq, mLst, mLen, mOf, mSl, mNo, mPt, mCall, mPri, mBmt, mOix, mOcmp, mISeq, mIBi, bind_ok, bind_exc, bind_bad, toS_ok, toS_exc, toS_bad, nx_ok, ofB_bl, lift_some, lift_none, bindT_nm, bindT_tp, bindTs_nil, bindTs_cons, bop, bIMul, bAdd, bSub, dNeg, dNot, bLt, bLe, bGt, bGe, bIs, bIsn, isNon, dIx, dSl, isi_ii, isi_bi, isi_bb, isi_tt, isi_ll, dItems, List.map_cons, List.map_nil, List.length_cons, List.length_nil, List.cons_append, List.nil_append, Nat.sub_self, List.replicate_zero, List.replicate_succ, List.getElem?_cons_succ, List.getElem?_cons_zero, List.set_cons_zero, List.set_cons_succ, Option.bind_some, Option.map_some, if_true, Bool.true_and, Bool.and_true, Bool.and_self, Bool.not_true, Bool.not_false, Bool.false_eq_true, if_false, ite_true, ite_false, reduceCtorEq, n1, n2, beq_self_eq_true, B.p, p0, len_lst, ix1, List.length_map, e1, e2, e3]
theorem sp_trial (T : Tab) (i j k : Nat) (B : TB T) (hi : SpRateOf (T.f i)) (hj : SpCkAmounts (T.f j)) (hk : SpCkRule (T.f k)) : SpTrial (mFun 2 (ess T (b_trial i j k))) := by
  intro r as w h1 h2 h3
  refine fun_ret ?_
  have e1 := hk r w h1.a
  have e2 := hj as (r.2.length : Int) w h2.am (by rw [h3]) (by rw [h3]; exact h1.p.1)
  have e3 := hi r as 500 2000 w h1.f h1.p h2 (by omega) (by omega)
  simp only [ruleD, amts] at e1 e2 e3
  simp only [b_trial, ruleD, amts, mFun, startR, ess, es, ev, evs, evo, evc, evl, evi, sSeq, sNil, sRet, sExp, sAsg, sOwn, sIf, sFor, sRaise, sAug, sMut, sSet, sFrz, frzR, mVar, mCst, mBin, mUn, mAnd, mOr, mIf, mChn, mNil, mCons, mSeq, mLst, mLen, mOf, mSl, mNo, mPt, mCall, mPri, mBmt, mOix, mOcmp, mISeq, mIBi, bind_ok, bind_exc, bind_bad, toS_ok, toS_exc, toS_bad, nx_ok, ofB_bl, lift_some, lift_none, bindT_nm, bindT_tp, bindTs_nil, bindTs_cons, bop, bIMul, bAdd, bSub, dNeg, dNot, bLt, bLe, bGt, bGe, bIs, bIsn, isNon, dIx, dSl, isi_ii, isi_bi, isi_bb, isi_tt, isi_ll, dItems, List.map_cons, List.map_nil, List.length_cons, List.length_nil, List.cons_append, List.nil_append, Nat.sub_self, List.replicate_zero, List.replicate_succ, List.getElem?_cons_succ, List.getElem?_cons_zero, List.set_cons_zero, List.set_cons_succ, Option.bind_some, Option.map_some, if_true, Bool.true_and, Bool.and_true, Bool.and_self, Bool.not_true, Bool.not_false, Bool.false_eq_true, if_false, ite_true, ite_false, reduceCtorEq, n1, n2, beq_self_eq_true, B.p, p0, len_lst, ix1, List.length_map, e1, e2, e3, dOf, big_2, trialD]
/-- the trial that a rule keeps -/
def keeps (r : Rule) (t : Trial) : Bool := decide (rateQ r t.1 = t.2)
def SpFitsOf (φ : MF) : Prop := ∀ r ts w, RuleB 2000 r → (∀ t ∈ ts, Oks 500 t.1) → ts.length ≤ big → φ [ruleD r, trialsD ts] w = .ok (.bl (ts.all (keeps r))) w
theorem sp_fits_of (T : Tab) (i : Nat) (B : TB T) (hi : SpRateOf (T.f i)) : SpFitsOf (mFun 4 (ess T (b_fits_of i))) := by
  intro r ts w h1 h2 h3
  refine fun_ret ?_
  have hc : compGo (compF (.tp (.cons (.nm 2) (.cons (.nm 3) .nil))) [.dat (ruleD r), .dat (trialsD ts), .emp, .emp] (ev T (.cst (.bl true))) (ev T (.bin .eq (.call i (.cons (.var 0) (.cons (.var 2) .nil))) (.var 3)))) (ts.map trialD) w = .ok (ts.map fun x => .bl (keeps r x)) w := by
    refine comp_map fun t ht => ?_
    have e3 := hi r t.1 500 2000 w h1.f h1.p (h2 t ht) (by omega) (by omega)
    simp only [compF, mFun, startR, ess, es, ev, evs, evo, evc, evl, evi, sSeq, sNil, sRet, sExp, sAsg, sOwn, sIf, sFor, sRaise, sAug, sMut, sSet, sFrz, frzR, mVar, mCst, mBin, mUn, mAnd, mOr, mIf, mChn, mNil, mCons, mSeq, mLst, mLen, mOf, mSl, mNo, mPt, mCall, mPri, mBmt, mOix, mOcmp, mISeq, mIBi, bind_ok, bind_exc, bind_bad, toS_ok, toS_exc, toS_bad, nx_ok, ofB_bl, lift_some, lift_none, bindT_nm, bindT_tp, bindTs_nil, bindTs_cons, bop, bIMul, bAdd, bSub, dNeg, dNot, bLt, bLe, bGt, bGe, bIs, bIsn, isNon, dIx, dSl, isi_ii, isi_bi, isi_bb, isi_tt, isi_ll, dItems, List.map_cons, List.map_nil, List.length_cons, List.length_nil, List.cons_append, List.nil_append, Nat.sub_self, List.replicate_zero, List.replicate_succ, List.getElem?_cons_succ, List.getElem?_cons_zero, List.set_cons_zero, List.set_cons_succ, Option.bind_some, Option.map_some, if_true, Bool.true_and, Bool.and_true, Bool.and_self, Bool.not_true, Bool.not_false, Bool.false_eq_true, if_false, ite_true, ite_false, reduceCtorEq, n1, n2, beq_self_eq_true, trialD, e3, bEq_amt]
    rfl
  simp only [mFun, startR, ess, es, ev, evs, evo, evc, evl, evi, sSeq, sNil, sRet, sExp, sAsg, sOwn, sIf, sFor, sRaise, sAug, sMut, sSet, sFrz, frzR, mVar, mCst, mBin, mUn, mAnd, mOr, mIf, mChn, mNil, mCons, mSeq, mLst, mLen, mOf, mSl, mNo, mPt, mCall, mPri, mBmt, mOix, mOcmp, mISeq, mIBi, bind_ok, bind_exc, bind_bad, toS_ok, toS_exc, toS_bad, nx_ok, ofB_bl, lift_some, lift_none, bindT_nm, bindT_tp, bindTs_nil, bindTs_cons, bop, bIMul, bAdd, bSub, dNeg, dNot, bLt, bLe, bGt, bGe, bIs, bIsn, isNon, dIx, dSl, isi_ii, isi_bi, isi_bb, isi_tt, isi_ll, dItems, List.map_cons, List.map_nil, List.length_cons, List.length_nil, List.cons_append, List.nil_append, Nat.sub_self, List.replicate_zero, List.replicate_succ, List.getElem?_cons_succ, List.getElem?_cons_zero, List.set_cons_zero, List.set_cons_succ, Option.bind_some, Option.map_some, if_true, Bool.true_and, Bool.and_true, Bool.and_self, Bool.not_true, Bool.not_false, Bool.false_eq_true, if_false, ite_true, ite_false, reduceCtorEq, n1, n2, beq_self_eq_true, trialsD] at hc
  simp only [b_fits_of, trialsD, mFun, startR, ess, es, ev, evs, evo, evc, evl, evi, sSeq, sNil, sRet, sExp, sAsg, sOwn, sIf, sFor, sRaise, sAug, sMut, sSet, sFrz, frzR, mVar, mCst, mBin, mUn, mAnd, mOr, mIf, mChn, mNil, mCons, mSeq, mLst, mLen, mOf, mSl, mNo, mPt, mCall, mPri, mBmt, mOix, mOcmp, mISeq, mIBi, bind_ok, bind_exc, bind_bad, toS_ok, toS_exc, toS_bad, nx_ok, ofB_bl, lift_some, lift_none, bindT_nm, bindT_tp, bindTs_nil, bindTs_cons, bop, bIMul, bAdd, bSub, dNeg, dNot, bLt, bLe, bGt, bGe, bIs, bIsn, isNon, dIx, dSl, isi_ii, isi_bi, isi_bb, isi_tt, isi_ll, dItems, List.map_cons, List.map_nil, List.length_cons, List.length_nil, List.cons_append, List.nil_append, Nat.sub_self, List.replicate_zero, List.replicate_succ, List.getElem?_cons_succ, List.getElem?_cons_zero, List.set_cons_zero, List.set_cons_succ, Option.bind_some, Option.map_some, if_true, Bool.true_and, Bool.and_true, Bool.and_self, Bool.not_true, Bool.not_false, Bool.false_eq_true, if_false, ite_true, ite_false, reduceCtorEq, n1, n2, beq_self_eq_true, B.p, p2, mComp, wipeR, List.length_map, h3, hc, dAll_map]
def SpFits (φ : MF) : Prop := ∀ r k ts w, RuleB 2000 r → TrialsB k 500 ts → φ [ruleD r, trialsD ts] w = .ok (.bl (decide (k = r.2.length) && ts.all (keeps r))) w
theorem TrialsB.len0 {k n : Nat} {ts : List Trial} (h : TrialsB k n ts) : ∃ t ts', ts = t :: ts' ∧ t.1.length = k := by
  have l1 := h.a.l1
  cases ts with
  | nil => simp at l1
  | cons t ts => exact ⟨t, ts, rfl, h.a.len t List.mem_cons_self⟩
theorem TrialsB.big {k n : Nat} {ts : List Trial} (h : TrialsB k n ts) : ts.length ≤ big := Nat.le_trans h.a.l2 (by decide)
theorem sp_fits (T : Tab) (i j k : Nat) (B : TB T) (hi : SpFitsOf (T.f i)) (hj : SpCkTrials (T.f j)) (hk : SpCkRule (T.f k)) : SpFits (mFun 2 (ess T (b_fits i j k))) := by
  intro r q ts w h1 h2
  refine fun_ret ?_
  have e1 := hk r w h1.a
  have e2 := hj q ts w h2.a
  have e3 := hi r ts w h1 (fun t m => (h2.b t m).1) h2.big
  obtain ⟨t, ts, rfl, hl⟩ := h2.len0
  have e4 : (((t.1.length : Nat) : Int) == ((r.2.length : Nat) : Int)) = decide (q = r.2.length) := by
    rw [hl]
    by_cases e : q = r.2.length
    · simp [e]
    · simp [e]
      omega
  simp only [ruleD, trialsD, trialD, amts, List.map_cons] at e1 e2 e3
  simp only [b_fits, ruleD, trialsD, trialD, amts, mFun, startR, ess, es, ev, evs, evo, evc, evl, evi, sSeq, sNil, sRet, sExp, sAsg, sOwn, sIf, sFor, sRaise, sAug, sMut, sSet, sFrz, frzR, mVar, mCst, mBin, mUn, mAnd, mOr, mIf, mChn, mNil, mCons, mSeq, mLst, mLen, mOf, mSl, mNo, mPt, mCall, mPri, mBmt, mOix, mOcmp, mISeq, mIBi, bind_ok, bind_exc, bind_bad, toS_ok, toS_exc, toS_bad, nx_ok, ofB_bl, lift_some, lift_none, bindT_nm, bindT_tp, bindTs_nil, bindTs_cons, bop, bIMul, bAdd, bSub, dNeg, dNot, bLt, bLe, bGt, bGe, bIs, bIsn, isNon, dIx, dSl, isi_ii, isi_bi, isi_bb, isi_tt, isi_ll, dItems, List.map_cons, List.map_nil, List.length_cons, List.length_nil, List.cons_append, List.nil_append, Nat.sub_self, List.replicate_zero, List.replicate_succ, List.getElem?_cons_succ, List.getElem?_cons_zero, List.set_cons_zero, List.set_cons_succ, Option.bind_some, Option.map_some, if_true, Bool.true_and, Bool.and_true, Bool.and_self, Bool.not_true, Bool.not_false, Bool.false_eq_true, if_false, ite_true, ite_false, reduceCtorEq, n1, n2, beq_self_eq_true, B.p, p0, len_lst, ix0, ix1, List.length_map, e1, e2, e3, bEq_int, e4]
  cases decide (q = r.2.length) <;> rfl
/-- the numbers of the trials that a rule misses -/
def bads (r : Rule) (ts : List Trial) : List Int := ((List.range ts.length).filter fun k : Nat => !keeps r (ts.getD k default)).map fun k : Nat => (k : Int)
def hd : List Int → Option Int
  | [] => none
  | x :: _ => some x
def SpFirstMiss (φ : MF) : Prop := ∀ r k ts w, RuleB 2000 r → TrialsB k 500 ts → φ [ruleD r, trialsD ts] w = .ok (optI (if k = r.2.length then hd (bads r ts) else some 0)) w
theorem getD_mem {α : Type} [Inhabited α] {xs : List α} {k : Nat} (h : k < xs.length) : xs.getD k default ∈ xs := by
  simp [List.getD, h]
theorem sp_first_miss (T : Tab) (i j k : Nat) (B : TB T) (hi : SpRateOf (T.f i)) (hj : SpCkTrials (T.f j)) (hk : SpCkRule (T.f k)) : SpFirstMiss (mFun 6 (ess T (b_first_miss i j k))) := by
  intro r q ts w h1 h2
  refine fun_ret ?_
  have e1 := hk r w h1.a
  have e2 := hj q ts w h2.a
  have hc : compGo (compF (.tp (.cons (.nm 3) (.cons (.tp (.cons (.nm 4) (.cons (.nm 5) .nil))) .nil))) [.dat (ruleD r), .dat (trialsD ts), .emp, .emp, .emp, .emp] (ev T (.bin .ne (.call i (.cons (.var 0) (.cons (.var 4) .nil))) (.var 5))) (ev T (.var 3))) (enumD 0 (ts.map trialD)) w = .ok ((bads r ts).map .int) w := by
    rw [enum_range (d := default), bads, List.map_map]
    refine comp_filter fun n hn => ?_
    have hn := List.mem_range.1 hn
    have e3 := hi r (ts.getD n default).1 500 2000 w h1.f h1.p (h2.b _ (getD_mem hn)).1 (by omega) (by omega)
    simp only [compF, mFun, startR, ess, es, ev, evs, evo, evc, evl, evi, sSeq, sNil, sRet, sExp, sAsg, sOwn, sIf, sFor, sRaise, sAug, sMut, sSet, sFrz, frzR, mVar, mCst, mBin, mUn, mAnd, mOr, mIf, mChn, mNil, mCons, mSeq, mLst, mLen, mOf, mSl, mNo, mPt, mCall, mPri, mBmt, mOix, mOcmp, mISeq, mIBi, bind_ok, bind_exc, bind_bad, toS_ok, toS_exc, toS_bad, nx_ok, ofB_bl, lift_some, lift_none, bindT_nm, bindT_tp, bindTs_nil, bindTs_cons, bop, bIMul, bAdd, bSub, dNeg, dNot, bLt, bLe, bGt, bGe, bIs, bIsn, isNon, dIx, dSl, isi_ii, isi_bi, isi_bb, isi_tt, isi_ll, dItems, List.map_cons, List.map_nil, List.length_cons, List.length_nil, List.cons_append, List.nil_append, Nat.sub_self, List.replicate_zero, List.replicate_succ, List.getElem?_cons_succ, List.getElem?_cons_zero, List.set_cons_zero, List.set_cons_succ, Option.bind_some, Option.map_some, if_true, Bool.true_and, Bool.and_true, Bool.and_self, Bool.not_true, Bool.not_false, Bool.false_eq_true, if_false, ite_true, ite_false, reduceCtorEq, n1, n2, beq_self_eq_true, trialD, e3, bNe_amt, Function.comp_def, Int.zero_add]
    cases hq : keeps r (ts.getD n default) <;> (unfold keeps at hq; simp only [hq, mFun, startR, ess, es, ev, evs, evo, evc, evl, evi, sSeq, sNil, sRet, sExp, sAsg, sOwn, sIf, sFor, sRaise, sAug, sMut, sSet, sFrz, frzR, mVar, mCst, mBin, mUn, mAnd, mOr, mIf, mChn, mNil, mCons, mSeq, mLst, mLen, mOf, mSl, mNo, mPt, mCall, mPri, mBmt, mOix, mOcmp, mISeq, mIBi, bind_ok, bind_exc, bind_bad, toS_ok, toS_exc, toS_bad, nx_ok, ofB_bl, lift_some, lift_none, bindT_nm, bindT_tp, bindTs_nil, bindTs_cons, bop, bIMul, bAdd, bSub, dNeg, dNot, bLt, bLe, bGt, bGe, bIs, bIsn, isNon, dIx, dSl, isi_ii, isi_bi, isi_bb, isi_tt, isi_ll, dItems, List.map_cons, List.map_nil, List.length_cons, List.length_nil, List.cons_append, List.nil_append, Nat.sub_self, List.replicate_zero, List.replicate_succ, List.getElem?_cons_succ, List.getElem?_cons_zero, List.set_cons_zero, List.set_cons_succ, Option.bind_some, Option.map_some, if_true, Bool.true_and, Bool.and_true, Bool.and_self, Bool.not_true, Bool.not_false, Bool.false_eq_true, if_false, ite_true, ite_false, reduceCtorEq, n1, n2, beq_self_eq_true])
  have hlen : (enumD 0 (ts.map trialD)).length ≤ big := by
    rw [enumD_length, List.length_map]
    exact h2.big
  obtain ⟨t, ts', e, hl⟩ := h2.len0
  have e4 : (((t.1.length : Nat) : Int) == ((r.2.length : Nat) : Int)) = decide (q = r.2.length) := by
    rw [hl]
    by_cases e : q = r.2.length
    · simp [e]
    · simp [e]
      omega
  generalize bads r ts = bs at hc ⊢
  have hne : bNe (.lst (bs.map .int)) (.lst []) = some (.bl (!decide (bs = []))) := bNe_ints bs []
  subst e
  simp only [ruleD, trialsD, trialD, amts, List.map_cons] at e1 e2 hlen
  simp only [mFun, startR, ess, es, ev, evs, evo, evc, evl, evi, sSeq, sNil, sRet, sExp, sAsg, sOwn, sIf, sFor, sRaise, sAug, sMut, sSet, sFrz, frzR, mVar, mCst, mBin, mUn, mAnd, mOr, mIf, mChn, mNil, mCons, mSeq, mLst, mLen, mOf, mSl, mNo, mPt, mCall, mPri, mBmt, mOix, mOcmp, mISeq, mIBi, bind_ok, bind_exc, bind_bad, toS_ok, toS_exc, toS_bad, nx_ok, ofB_bl, lift_some, lift_none, bindT_nm, bindT_tp, bindTs_nil, bindTs_cons, bop, bIMul, bAdd, bSub, dNeg, dNot, bLt, bLe, bGt, bGe, bIs, bIsn, isNon, dIx, dSl, isi_ii, isi_bi, isi_bb, isi_tt, isi_ll, dItems, List.map_cons, List.map_nil, List.length_cons, List.length_nil, List.cons_append, List.nil_append, Nat.sub_self, List.replicate_zero, List.replicate_succ, List.getElem?_cons_succ, List.getElem?_cons_zero, List.set_cons_zero, List.set_cons_succ, Option.bind_some, Option.map_some, if_true, Bool.true_and, Bool.and_true, Bool.and_self, Bool.not_true, Bool.not_false, Bool.false_eq_true, if_false, ite_true, ite_false, reduceCtorEq, n1, n2, beq_self_eq_true, ruleD, trialsD, trialD, amts, List.map_cons] at hc
  by_cases eq : q = r.2.length
  · cases bs with
    | nil =>
      simp only [List.map_nil] at hne hc
      simp only [b_first_miss, ruleD, trialsD, trialD, amts, mFun, startR, ess, es, ev, evs, evo, evc, evl, evi, sSeq, sNil, sRet, sExp, sAsg, sOwn, sIf, sFor, sRaise, sAug, sMut, sSet, sFrz, frzR, mVar, mCst, mBin, mUn, mAnd, mOr, mIf, mChn, mNil, mCons, mSeq, mLst, mLen, mOf, mSl, mNo, mPt, mCall, mPri, mBmt, mOix, mOcmp, mISeq, mIBi, bind_ok, bind_exc, bind_bad, toS_ok, toS_exc, toS_bad, nx_ok, ofB_bl, lift_some, lift_none, bindT_nm, bindT_tp, bindTs_nil, bindTs_cons, bop, bIMul, bAdd, bSub, dNeg, dNot, bLt, bLe, bGt, bGe, bIs, bIsn, isNon, dIx, dSl, isi_ii, isi_bi, isi_bb, isi_tt, isi_ll, dItems, List.map_cons, List.map_nil, List.length_cons, List.length_nil, List.cons_append, List.nil_append, Nat.sub_self, List.replicate_zero, List.replicate_succ, List.getElem?_cons_succ, List.getElem?_cons_zero, List.set_cons_zero, List.set_cons_succ, Option.bind_some, Option.map_some, if_true, Bool.true_and, Bool.and_true, Bool.and_self, Bool.not_true, Bool.not_false, Bool.false_eq_true, if_false, ite_true, ite_false, reduceCtorEq, n1, n2, beq_self_eq_true, B.p, p0, len_lst, ix0, ix1, List.length_map, e1, e2, bNe_int, e4, decide_eq_true eq, mComp, dEnum, hlen, wipeR, hc, big_0, hne, if_pos eq, decide_true, hd, optI]
    | cons b bs =>
      have hne' : decide (b :: bs = []) = false := by simp
      simp only [List.map_cons] at hne hc
      simp only [b_first_miss, ruleD, trialsD, trialD, amts, mFun, startR, ess, es, ev, evs, evo, evc, evl, evi, sSeq, sNil, sRet, sExp, sAsg, sOwn, sIf, sFor, sRaise, sAug, sMut, sSet, sFrz, frzR, mVar, mCst, mBin, mUn, mAnd, mOr, mIf, mChn, mNil, mCons, mSeq, mLst, mLen, mOf, mSl, mNo, mPt, mCall, mPri, mBmt, mOix, mOcmp, mISeq, mIBi, bind_ok, bind_exc, bind_bad, toS_ok, toS_exc, toS_bad, nx_ok, ofB_bl, lift_some, lift_none, bindT_nm, bindT_tp, bindTs_nil, bindTs_cons, bop, bIMul, bAdd, bSub, dNeg, dNot, bLt, bLe, bGt, bGe, bIs, bIsn, isNon, dIx, dSl, isi_ii, isi_bi, isi_bb, isi_tt, isi_ll, dItems, List.map_cons, List.map_nil, List.length_cons, List.length_nil, List.cons_append, List.nil_append, Nat.sub_self, List.replicate_zero, List.replicate_succ, List.getElem?_cons_succ, List.getElem?_cons_zero, List.set_cons_zero, List.set_cons_succ, Option.bind_some, Option.map_some, if_true, Bool.true_and, Bool.and_true, Bool.and_self, Bool.not_true, Bool.not_false, Bool.false_eq_true, if_false, ite_true, ite_false, reduceCtorEq, n1, n2, beq_self_eq_true, B.p, p0, len_lst, ix0, ix1, List.length_map, e1, e2, bNe_int, e4, decide_eq_true eq, mComp, dEnum, hlen, wipeR, hc, big_0, hne, if_pos eq, hne', decide_false, hd, optI]
  · simp only [b_first_miss, ruleD, trialsD, trialD, amts, mFun, startR, ess, es, ev, evs, evo, evc, evl, evi, sSeq, sNil, sRet, sExp, sAsg, sOwn, sIf, sFor, sRaise, sAug, sMut, sSet, sFrz, frzR, mVar, mCst, mBin, mUn, mAnd, mOr, mIf, mChn, mNil, mCons, mSeq, mLst, mLen, mOf, mSl, mNo, mPt, mCall, mPri, mBmt, mOix, mOcmp, mISeq, mIBi, bind_ok, bind_exc, bind_bad, toS_ok, toS_exc, toS_bad, nx_ok, ofB_bl, lift_some, lift_none, bindT_nm, bindT_tp, bindTs_nil, bindTs_cons, bop, bIMul, bAdd, bSub, dNeg, dNot, bLt, bLe, bGt, bGe, bIs, bIsn, isNon, dIx, dSl, isi_ii, isi_bi, isi_bb, isi_tt, isi_ll, dItems, List.map_cons, List.map_nil, List.length_cons, List.length_nil, List.cons_append, List.nil_append, Nat.sub_self, List.replicate_zero, List.replicate_succ, List.getElem?_cons_succ, List.getElem?_cons_zero, List.set_cons_zero, List.set_cons_succ, Option.bind_some, Option.map_some, if_true, Bool.true_and, Bool.and_true, Bool.and_self, Bool.not_true, Bool.not_false, Bool.false_eq_true, if_false, ite_true, ite_false, reduceCtorEq, n1, n2, beq_self_eq_true, B.p, p0, len_lst, ix0, ix1, List.length_map, e1, e2, bNe_int, e4, decide_eq_false eq, if_neg eq, optI]
def SpGrowth (φ : MF) : Prop := ∀ r (q : Nat) x w, RuleA r → q < r.2.length → Ok 1000 x → φ [ruleD r, .int q, amt x] w = .ok (amt (powQ x (r.2.getD q 0))) w
theorem sp_growth (T : Tab) (i j k l : Nat) (B : TB T) (hi : SpPower (T.f i)) (hj : SpCkAmount (T.f j)) (hk : SpCkQuantity (T.f k)) (hl : SpCkRule (T.f l)) : SpGrowth (mFun 3 (ess T (b_growth i j k l))) := by
  intro r q x w h1 h2 h3
  refine fun_ret ?_
  have e1 := hl r w h1
  have e2 := hk (r.2.length : Int) (q : Int) w (by omega) (by omega)
  have e3 := hj x w h3.am
  have hm : r.2.getD q 0 ∈ r.2 := by simp [List.getD, h2]
  have e4 := hi x (r.2.getD q 0) 1000 w h3 (h1.2.1.2 _ hm).1 (h1.2.1.2 _ hm).2 (by omega)
  have e5 : atI (r.2.map D.int) (q : Int) = some (.int (r.2.getD q 0)) := atI_map h2
  simp only [ruleD] at e1
  simp only [b_growth, ruleD, mFun, startR, ess, es, ev, evs, evo, evc, evl, evi, sSeq, sNil, sRet, sExp, sAsg, sOwn, sIf, sFor, sRaise, sAug, sMut, sSet, sFrz, frzR, mVar, mCst, mBin, mUn, mAnd, mOr, mIf, mChn, mNil, mCons, mSeq, mLst, mLen, mOf, mSl, mNo, mPt, mCall, mPri, mBmt, mOix, mOcmp, mISeq, mIBi, bind_ok, bind_exc, bind_bad, toS_ok, toS_exc, toS_bad, nx_ok, ofB_bl, lift_some, lift_none, bindT_nm, bindT_tp, bindTs_nil, bindTs_cons, bop, bIMul, bAdd, bSub, dNeg, dNot, bLt, bLe, bGt, bGe, bIs, bIsn, isNon, dIx, dSl, isi_ii, isi_bi, isi_bb, isi_tt, isi_ll, dItems, List.map_cons, List.map_nil, List.length_cons, List.length_nil, List.cons_append, List.nil_append, Nat.sub_self, List.replicate_zero, List.replicate_succ, List.getElem?_cons_succ, List.getElem?_cons_zero, List.set_cons_zero, List.set_cons_succ, Option.bind_some, Option.map_some, if_true, Bool.true_and, Bool.and_true, Bool.and_self, Bool.not_true, Bool.not_false, Bool.false_eq_true, if_false, ite_true, ite_false, reduceCtorEq, n1, n2, beq_self_eq_true, B.p, p0, len_lst, ix1, List.length_map, e1, e2, e3, e4, e5]
def SpOrder (φ : MF) : Prop := ∀ r w, RuleA r → φ [ruleD r] w = .ok (.int r.2.sum) w
def SpUnitPower (φ : MF) : Prop := ∀ r w, RuleA r → φ [ruleD r] w = .ok (.int (-r.2.sum)) w
theorem sp_order (T : Tab) (i : Nat) (B : TB T) (hi : SpCkRule (T.f i)) : SpOrder (mFun 1 (ess T (b_order i))) := by
  intro r w h1
  refine fun_ret ?_
  have e1 := hi r w h1
  simp only [ruleD] at e1
  simp only [b_order, ruleD, mFun, startR, ess, es, ev, evs, evo, evc, evl, evi, sSeq, sNil, sRet, sExp, sAsg, sOwn, sIf, sFor, sRaise, sAug, sMut, sSet, sFrz, frzR, mVar, mCst, mBin, mUn, mAnd, mOr, mIf, mChn, mNil, mCons, mSeq, mLst, mLen, mOf, mSl, mNo, mPt, mCall, mPri, mBmt, mOix, mOcmp, mISeq, mIBi, bind_ok, bind_exc, bind_bad, toS_ok, toS_exc, toS_bad, nx_ok, ofB_bl, lift_some, lift_none, bindT_nm, bindT_tp, bindTs_nil, bindTs_cons, bop, bIMul, bAdd, bSub, dNeg, dNot, bLt, bLe, bGt, bGe, bIs, bIsn, isNon, dIx, dSl, isi_ii, isi_bi, isi_bb, isi_tt, isi_ll, dItems, List.map_cons, List.map_nil, List.length_cons, List.length_nil, List.cons_append, List.nil_append, Nat.sub_self, List.replicate_zero, List.replicate_succ, List.getElem?_cons_succ, List.getElem?_cons_zero, List.set_cons_zero, List.set_cons_succ, Option.bind_some, Option.map_some, if_true, Bool.true_and, Bool.and_true, Bool.and_self, Bool.not_true, Bool.not_false, Bool.false_eq_true, if_false, ite_true, ite_false, reduceCtorEq, n1, n2, beq_self_eq_true, B.p, p3, ix1, e1, dSum_map]
theorem sp_unit_power (T : Tab) (i : Nat) (B : TB T) (hi : SpCkRule (T.f i)) : SpUnitPower (mFun 1 (ess T (b_unit_power i))) := by
  intro r w h1
  refine fun_ret ?_
  have e1 := hi r w h1
  simp only [ruleD] at e1
  simp only [b_unit_power, ruleD, mFun, startR, ess, es, ev, evs, evo, evc, evl, evi, sSeq, sNil, sRet, sExp, sAsg, sOwn, sIf, sFor, sRaise, sAug, sMut, sSet, sFrz, frzR, mVar, mCst, mBin, mUn, mAnd, mOr, mIf, mChn, mNil, mCons, mSeq, mLst, mLen, mOf, mSl, mNo, mPt, mCall, mPri, mBmt, mOix, mOcmp, mISeq, mIBi, bind_ok, bind_exc, bind_bad, toS_ok, toS_exc, toS_bad, nx_ok, ofB_bl, lift_some, lift_none, bindT_nm, bindT_tp, bindTs_nil, bindTs_cons, bop, bIMul, bAdd, bSub, dNeg, dNot, bLt, bLe, bGt, bGe, bIs, bIsn, isNon, dIx, dSl, isi_ii, isi_bi, isi_bb, isi_tt, isi_ll, dItems, List.map_cons, List.map_nil, List.length_cons, List.length_nil, List.cons_append, List.nil_append, Nat.sub_self, List.replicate_zero, List.replicate_succ, List.getElem?_cons_succ, List.getElem?_cons_zero, List.set_cons_zero, List.set_cons_succ, Option.bind_some, Option.map_some, if_true, Bool.true_and, Bool.and_true, Bool.and_self, Bool.not_true, Bool.not_false, Bool.false_eq_true, if_false, ite_true, ite_false, reduceCtorEq, n1, n2, beq_self_eq_true, B.p, p3, ix1, e1, dSum_map]
end RL

namespace RL
open PySem L2
/-! ### the law's own defs -/
/-- a world in which draws go on -/
def DW (tb : List (Int × List D)) (w : Wd) : Prop := w.tb = tb ∧ ∃ ns n, w.dr = some (ns, n) ∧ ns ≠ []
def SpDraw (φ : MF) : Prop := ∀ tb (l : Int) w, DW tb w → 0 < l → l ≤ 1000000 → ∃ (v : Nat) (w' : Wd), φ [.drw, .int l] w = .ok (.int v) w' ∧ (v : Int) < l ∧ DW tb w'
theorem sp_draw : SpDraw mDraw := by
  intro tb l w h h1 h2
  obtain ⟨ht, ns, n, hd, hn⟩ := h
  have hr := drawV_range (ns := ns) (n := n) h1
  obtain ⟨v, hv⟩ := Int.eq_ofNat_of_zero_le hr.1
  refine ⟨v, { w with dr := some (drawN ns n l, n + 1) }, ?_, by rw [← hv]; exact hr.2, ht, _, _, rfl, ?_⟩
  · have e : ns.isEmpty = false := by cases ns with
      | nil => exact absurd rfl hn
      | cons => rfl
    unfold mDraw
    simp only [hd, decide_eq_true h1, decide_eq_true h2, e, Bool.not_false, Bool.and_self, if_true, hv]
  · intro e
    have := drawN_length (ns := ns) (n := n) (l := l)
    rw [e] at this
    cases ns with
    | nil => exact hn rfl
    | cons => simp at this
def SpPick (φ : MF) : Prop := ∀ tb xs w, DW tb w → xs ≠ [] → xs.length ≤ 1000000 → ∃ (x : D) (w' : Wd), φ [.drw, .lst xs] w = .ok x w' ∧ x ∈ xs ∧ DW tb w'
theorem sp_pick (T : Tab) (i : Nat) (B : TB T) (hi : SpDraw (T.f i)) : SpPick (mFun 2 (ess T (b__law_pick i))) := by
  intro tb xs w h h1 h2
  have hl : 0 < xs.length := List.length_pos_iff.2 h1
  obtain ⟨v, w', e, hv, h'⟩ := hi tb (xs.length : Int) w h (by omega) (by omega)
  have hv : v < xs.length := by omega
  refine ⟨xs[v], w', fun_ret ?_, List.getElem_mem hv, h'⟩
  simp only [b__law_pick, mFun, startR, ess, es, ev, evs, evo, evc, evl, evi, sSeq, sNil, sRet, sExp, sAsg, sOwn, sIf, sFor, sRaise, sAug, sMut, sSet, sFrz, frzR, mVar, mCst, mBin, mUn, mAnd, mOr, mIf, mChn, mNil, mCons, mSeq, mLst, mLen, mOf, mSl, mNo, mPt, mCall, mPri, mBmt, mOix, mOcmp, mISeq, mIBi, bind_ok, bind_exc, bind_bad, toS_ok, toS_exc, toS_bad, nx_ok, ofB_bl, lift_some, lift_none, bindT_nm, bindT_tp, bindTs_nil, bindTs_cons, bop, bIMul, bAdd, bSub, dNeg, dNot, bLt, bLe, bGt, bGe, bIs, bIsn, isNon, dIx, dSl, isi_ii, isi_bi, isi_bb, isi_tt, isi_ll, dItems, List.map_cons, List.map_nil, List.length_cons, List.length_nil, List.cons_append, List.nil_append, Nat.sub_self, List.replicate_zero, List.replicate_succ, List.getElem?_cons_succ, List.getElem?_cons_zero, List.set_cons_zero, List.set_cons_succ, Option.bind_some, Option.map_some, if_true, Bool.true_and, Bool.and_true, Bool.and_self, Bool.not_true, Bool.not_false, Bool.false_eq_true, if_false, ite_true, ite_false, reduceCtorEq, n1, n2, beq_self_eq_true, B.p, p0, len_lst, e, atI_nat hv]
def SpTrue (φ : MF) : Prop := ∀ a b w, φ [.bl a, .bl b] w = .ok (.bl (decide (a = b))) w
theorem sp_true (T : Tab) : SpTrue (mFun 2 (ess T b__law_true)) := by
  intro a b w
  refine fun_ret ?_
  simp only [b__law_true, mFun, startR, ess, es, ev, evs, evo, evc, evl, evi, sSeq, sNil, sRet, sExp, sAsg, sOwn, sIf, sFor, sRaise, sAug, sMut, sSet, sFrz, frzR, mVar, mCst, mBin, mUn, mAnd, mOr, mIf, mChn, mNil, mCons, mSeq, mLst, mLen, mOf, mSl, mNo, mPt, mCall, mPri, mBmt, mOix, mOcmp, mISeq, mIBi, bind_ok, bind_exc, bind_bad, toS_ok, toS_exc, toS_bad, nx_ok, ofB_bl, lift_some, lift_none, bindT_nm, bindT_tp, bindTs_nil, bindTs_cons, bop, bIMul, bAdd, bSub, dNeg, dNot, bLt, bLe, bGt, bGe, bIs, bIsn, isNon, dIx, dSl, isi_ii, isi_bi, isi_bb, isi_tt, isi_ll, dItems, List.map_cons, List.map_nil, List.length_cons, List.length_nil, List.cons_append, List.nil_append, Nat.sub_self, List.replicate_zero, List.replicate_succ, List.getElem?_cons_succ, List.getElem?_cons_zero, List.set_cons_zero, List.set_cons_succ, Option.bind_some, Option.map_some, if_true, Bool.true_and, Bool.and_true, Bool.and_self, Bool.not_true, Bool.not_false, Bool.false_eq_true, if_false, ite_true, ite_false, reduceCtorEq, n1, n2, beq_self_eq_true, bEq_bl]
theorem low_go (T : Tab) (x0 x1 : Sl) (n : Nat) : ∀ (b a : Nat) (w : Wd), b < n → whGo (ev T (.bin .ne (.var 3) (.cst (.int 0)))) (ess T (.cons (.asg (.tp (.cons (.nm 2) (.cons (.nm 3) .nil))) (.tup (.cons (.var 3) (.cons (.bin .mod (.var 2) (.var 3)) .nil)))) .nil)) n [x0, x1, .dat (.int a), .dat (.int b)] w =
    .next [x0, x1, .dat (.int (Nat.gcd a b : Nat)), .dat (.int 0)] w := by
  induction n with
  | zero => intro b a w h; omega
  | succ n ih =>
    intro b a w h
    cases b with
    | zero =>
      refine (wh_f (w1 := w) rfl).trans ?_
      rw [Nat.gcd_zero_right]
      rfl
    | succ b =>
      have ih := ih (a % (b + 1)) (b + 1) w (by have := Nat.mod_lt a (show 0 < b + 1 by omega); omega)
      have e : Nat.gcd (b + 1) (a % (b + 1)) = Nat.gcd a (b + 1) := by rw [Nat.gcd_comm a (b + 1), Nat.gcd_rec (b + 1) a, Nat.gcd_comm]
      rw [e] at ih
      have h1 : (0 : Int) < ((b + 1 : Nat) : Int) := by omega
      have h2 : ((a : Int) % ((b + 1 : Nat) : Int)) = ((a % (b + 1) : Nat) : Int) := by omega
      have h3 : (((b + 1 : Nat) : Int) == (0 : Int)) = false := by simp; omega
      refine (wh_go (w1 := w) (w2 := w) (r2 := [x0, x1, .dat (.int ((b + 1 : Nat) : Int)), .dat (.int ((a % (b + 1) : Nat) : Int))]) ?_ ?_).trans ih
      · simp only [mFun, startR, ess, es, ev, evs, evo, evc, evl, evi, sSeq, sNil, sRet, sExp, sAsg, sOwn, sIf, sFor, sRaise, sAug, sMut, sSet, sFrz, frzR, mVar, mCst, mBin, mUn, mAnd, mOr, mIf, mChn, mNil, mCons, mSeq, mLst, mLen, mOf, mSl, mNo, mPt, mCall, mPri, mBmt, mOix, mOcmp, mISeq, mIBi, bind_ok, bind_exc, bind_bad, toS_ok, toS_exc, toS_bad, nx_ok, ofB_bl, lift_some, lift_none, bindT_nm, bindT_tp, bindTs_nil, bindTs_cons, bop, bIMul, bAdd, bSub, dNeg, dNot, bLt, bLe, bGt, bGe, bIs, bIsn, isNon, dIx, dSl, isi_ii, isi_bi, isi_bb, isi_tt, isi_ll, dItems, List.map_cons, List.map_nil, List.length_cons, List.length_nil, List.cons_append, List.nil_append, Nat.sub_self, List.replicate_zero, List.replicate_succ, List.getElem?_cons_succ, List.getElem?_cons_zero, List.set_cons_zero, List.set_cons_succ, Option.bind_some, Option.map_some, if_true, Bool.true_and, Bool.and_true, Bool.and_self, Bool.not_true, Bool.not_false, Bool.false_eq_true, if_false, ite_true, ite_false, reduceCtorEq, n1, n2, beq_self_eq_true, bNe_int, h3]
      · simp only [mFun, startR, ess, es, ev, evs, evo, evc, evl, evi, sSeq, sNil, sRet, sExp, sAsg, sOwn, sIf, sFor, sRaise, sAug, sMut, sSet, sFrz, frzR, mVar, mCst, mBin, mUn, mAnd, mOr, mIf, mChn, mNil, mCons, mSeq, mLst, mLen, mOf, mSl, mNo, mPt, mCall, mPri, mBmt, mOix, mOcmp, mISeq, mIBi, bind_ok, bind_exc, bind_bad, toS_ok, toS_exc, toS_bad, nx_ok, ofB_bl, lift_some, lift_none, bindT_nm, bindT_tp, bindTs_nil, bindTs_cons, bop, bIMul, bAdd, bSub, dNeg, dNot, bLt, bLe, bGt, bGe, bIs, bIsn, isNon, dIx, dSl, isi_ii, isi_bi, isi_bb, isi_tt, isi_ll, dItems, List.map_cons, List.map_nil, List.length_cons, List.length_nil, List.cons_append, List.nil_append, Nat.sub_self, List.replicate_zero, List.replicate_succ, List.getElem?_cons_succ, List.getElem?_cons_zero, List.set_cons_zero, List.set_cons_succ, Option.bind_some, Option.map_some, if_true, Bool.true_and, Bool.and_true, Bool.and_self, Bool.not_true, Bool.not_false, Bool.false_eq_true, if_false, ite_true, ite_false, reduceCtorEq, n1, n2, beq_self_eq_true, bMod_int h1, h2, big_2]
theorem sp_low (T : Tab) : SpLowest (mFun 4 (ess T b__law_low)) := by
  intro a b w ha hb hs
  obtain ⟨m, rfl⟩ := Int.eq_ofNat_of_zero_le (Int.le_of_lt ha)
  obtain ⟨n, rfl⟩ := Int.eq_ofNat_of_zero_le (Int.le_of_lt hb)
  have h := low_go T (.dat (.int m)) (.dat (.int n)) (n + 1) n m w (Nat.lt_succ_self n)
  have hg : (0 : Int) < ((Nat.gcd m n : Nat) : Int) := by
    have := Nat.gcd_pos_of_pos_left n (show 0 < m by omega)
    omega
  have hgs : sm ((Nat.gcd m n : Nat) : Int) = true := sm_le (by omega) (by have := Nat.gcd_le_left n (show 0 < m by omega); omega) hs
  refine fun_ret ?_
  rw [b__law_low, ess]
  have q1 : es T (.asg (.tp (.cons (.nm 2) (.cons (.nm 3) .nil))) (.tup (.cons (.var 0) (.cons (.var 1) .nil)))) (startR 4 [.int m, .int n]) w = .next [.dat (.int m), .dat (.int n), .dat (.int m), .dat (.int n)] w := by
    simp only [mFun, startR, ess, es, ev, evs, evo, evc, evl, evi, sSeq, sNil, sRet, sExp, sAsg, sOwn, sIf, sFor, sRaise, sAug, sMut, sSet, sFrz, frzR, mVar, mCst, mBin, mUn, mAnd, mOr, mIf, mChn, mNil, mCons, mSeq, mLst, mLen, mOf, mSl, mNo, mPt, mCall, mPri, mBmt, mOix, mOcmp, mISeq, mIBi, bind_ok, bind_exc, bind_bad, toS_ok, toS_exc, toS_bad, nx_ok, ofB_bl, lift_some, lift_none, bindT_nm, bindT_tp, bindTs_nil, bindTs_cons, bop, bIMul, bAdd, bSub, dNeg, dNot, bLt, bLe, bGt, bGe, bIs, bIsn, isNon, dIx, dSl, isi_ii, isi_bi, isi_bb, isi_tt, isi_ll, dItems, List.map_cons, List.map_nil, List.length_cons, List.length_nil, List.cons_append, List.nil_append, Nat.sub_self, List.replicate_zero, List.replicate_succ, List.getElem?_cons_succ, List.getElem?_cons_zero, List.set_cons_zero, List.set_cons_succ, Option.bind_some, Option.map_some, if_true, Bool.true_and, Bool.and_true, Bool.and_self, Bool.not_true, Bool.not_false, Bool.false_eq_true, if_false, ite_true, ite_false, reduceCtorEq, n1, n2, beq_self_eq_true, big_2]
  simp only [sSeq, q1]
  rw [ess]
  have q2 : es T (.whl (muI 3) (.bin .ne (.var 3) (.cst (.int 0))) (.cons (.asg (.tp (.cons (.nm 2) (.cons (.nm 3) .nil))) (.tup (.cons (.var 3) (.cons (.bin .mod (.var 2) (.var 3)) .nil)))) .nil)) [.dat (.int m), .dat (.int n), .dat (.int m), .dat (.int n)] w = .next [.dat (.int m), .dat (.int n), .dat (.int (Nat.gcd m n : Nat)), .dat (.int 0)] w := by
    rw [es, sWh, show muI 3 [.dat (.int m), .dat (.int n), .dat (.int m), .dat (.int n)] = n + 1 from rfl]
    exact h
  simp only [sSeq, q2]
  simp only [mFun, startR, ess, es, ev, evs, evo, evc, evl, evi, sSeq, sNil, sRet, sExp, sAsg, sOwn, sIf, sFor, sRaise, sAug, sMut, sSet, sFrz, frzR, mVar, mCst, mBin, mUn, mAnd, mOr, mIf, mChn, mNil, mCons, mSeq, mLst, mLen, mOf, mSl, mNo, mPt, mCall, mPri, mBmt, mOix, mOcmp, mISeq, mIBi, bind_ok, bind_exc, bind_bad, toS_ok, toS_exc, toS_bad, nx_ok, ofB_bl, lift_some, lift_none, bindT_nm, bindT_tp, bindTs_nil, bindTs_cons, bop, bIMul, bAdd, bSub, dNeg, dNot, bLt, bLe, bGt, bGe, bIs, bIsn, isNon, dIx, dSl, isi_ii, isi_bi, isi_bb, isi_tt, isi_ll, dItems, List.map_cons, List.map_nil, List.length_cons, List.length_nil, List.cons_append, List.nil_append, Nat.sub_self, List.replicate_zero, List.replicate_succ, List.getElem?_cons_succ, List.getElem?_cons_zero, List.set_cons_zero, List.set_cons_succ, Option.bind_some, Option.map_some, if_true, Bool.true_and, Bool.and_true, Bool.and_self, Bool.not_true, Bool.not_false, Bool.false_eq_true, if_false, ite_true, ite_false, reduceCtorEq, n1, n2, beq_self_eq_true, bDiv_int hg hgs, big_2]
  rfl
def SpAmount (φ : MF) : Prop := ∀ tb w, DW tb w → ∃ (x : Int × Int) (w' : Wd), φ [.drw] w = .ok (amt x) w' ∧ Ok 4 x ∧ DW tb w'
theorem ok4 {a b : Int} (h1 : 0 < a) (h2 : a < 16) (h3 : 0 < b) (h4 : b < 16) : Ok 4 (low a b) := ⟨low_am h1 h3, low_bd h1 h3 (by omega) (by omega)⟩
theorem sp_amount (T : Tab) (i j k : Nat) (hi : SpPick (T.f i)) (hj : SpLowest (T.f j)) (hk : SpDraw (T.f k)) : SpAmount (mFun 1 (ess T (b__law_amount i j k))) := by
  intro tb w h
  obtain ⟨u, w1, e1, h1, d1⟩ := hk tb 9 w h (by omega) (by omega)
  obtain ⟨v, w2, e2, h2, d2⟩ := hk tb 5 w1 d1 (by omega) (by omega)
  have p1 : (0 : Int) < 1 + (u : Int) := by omega
  have p2 : (0 : Int) < 1 + (v : Int) := by omega
  have e3 := hj (1 + (u : Int)) (1 + (v : Int)) w2 p1 p2 (sm_lt (n := 4) (by omega) (by omega) (by omega) (by omega))
  obtain ⟨x, w3, e4, h4, d4⟩ := hi tb ([(1, 1), (2, 1), (1, 2), (3, 1), (4, 1), (2, 3), low (1 + (u : Int)) (1 + (v : Int))].map amt) w2 d2 (by simp) (by simp)
  have hx : ∃ y, x = amt y ∧ Ok 4 y := by
    obtain ⟨y, hy, rfl⟩ := List.mem_map.1 h4
    refine ⟨y, rfl, ?_⟩
    simp only [List.mem_cons, List.not_mem_nil, or_false] at hy
    rcases hy with rfl | rfl | rfl | rfl | rfl | rfl | rfl
    iterate 6 exact ⟨⟨by decide, by decide, by decide⟩, by decide, by decide⟩
    exact ok4 p1 (by omega) p2 (by omega)
  obtain ⟨y, rfl, hy⟩ := hx
  refine ⟨y, w3, fun_ret ?_, hy, d4⟩
  simp only [amt, List.map_cons, List.map_nil] at e3 e4
  have b7 : (0 + 1 + 1 + 1 + 1 + 1 + 1 + 1 ≤ big) = True := by decide
  simp only [b__law_amount, amt, mFun, startR, ess, es, ev, evs, evo, evc, evl, evi, sSeq, sNil, sRet, sExp, sAsg, sOwn, sIf, sFor, sRaise, sAug, sMut, sSet, sFrz, frzR, mVar, mCst, mBin, mUn, mAnd, mOr, mIf, mChn, mNil, mCons, mSeq, mLst, mLen, mOf, mSl, mNo, mPt, mCall, mPri, mBmt, mOix, mOcmp, mISeq, mIBi, bind_ok, bind_exc, bind_bad, toS_ok, toS_exc, toS_bad, nx_ok, ofB_bl, lift_some, lift_none, bindT_nm, bindT_tp, bindTs_nil, bindTs_cons, bop, bIMul, bAdd, bSub, dNeg, dNot, bLt, bLe, bGt, bGe, bIs, bIsn, isNon, dIx, dSl, isi_ii, isi_bi, isi_bb, isi_tt, isi_ll, dItems, List.map_cons, List.map_nil, List.length_cons, List.length_nil, List.cons_append, List.nil_append, Nat.sub_self, List.replicate_zero, List.replicate_succ, List.getElem?_cons_succ, List.getElem?_cons_zero, List.set_cons_zero, List.set_cons_succ, Option.bind_some, Option.map_some, if_true, Bool.true_and, Bool.and_true, Bool.and_self, Bool.not_true, Bool.not_false, Bool.false_eq_true, if_false, ite_true, ite_false, reduceCtorEq, n1, n2, beq_self_eq_true, e1, e2, e3, e4, big_2, b7]
def SpNew (φ : MF) : Prop := ∀ tb (n : Nat) w, DW tb w → 1 ≤ n → n ≤ 3 → ∃ (r : Rule) (w' : Wd), φ [.drw, .int n] w = .ok (ruleD r) w' ∧ RuleB 4 r ∧ r.2.length = n ∧ DW tb w'
theorem sp_new (T : Tab) (i j : Nat) (hi : SpDraw (T.f i)) (hj : SpAmount (T.f j)) : SpNew (mFun 3 (ess T (b__law_new i j))) := by
  intro tb n w h h1 h2
  obtain ⟨x, w1, e1, hx, d1⟩ := hj tb w h
  have hc := comp_draw (f := compF (.nm 2) [.dat .drw, .dat (.int n), .emp] (ev T (.cst (.bl true))) (ev T (.bin .sub (.call i (.cons (.var 0) (.cons (.cst (.int 7)) .nil))) (.cst (.int 3))))) (g := D.int) (P := fun y => -3 ≤ y ∧ y ≤ 3) (Q := DW tb) (xs := iota 0 n) d1 (by
    intro x hx w hw
    obtain ⟨v, w', e, hv, d⟩ := hi tb 7 w hw (by omega) (by omega)
    refine ⟨(v : Int) - 3, w', ?_, ⟨by omega, by omega⟩, d⟩
    simp only [compF, mFun, startR, ess, es, ev, evs, evo, evc, evl, evi, sSeq, sNil, sRet, sExp, sAsg, sOwn, sIf, sFor, sRaise, sAug, sMut, sSet, sFrz, frzR, mVar, mCst, mBin, mUn, mAnd, mOr, mIf, mChn, mNil, mCons, mSeq, mLst, mLen, mOf, mSl, mNo, mPt, mCall, mPri, mBmt, mOix, mOcmp, mISeq, mIBi, bind_ok, bind_exc, bind_bad, toS_ok, toS_exc, toS_bad, nx_ok, ofB_bl, lift_some, lift_none, bindT_nm, bindT_tp, bindTs_nil, bindTs_cons, bop, bIMul, bAdd, bSub, dNeg, dNot, bLt, bLe, bGt, bGe, bIs, bIsn, isNon, dIx, dSl, isi_ii, isi_bi, isi_bb, isi_tt, isi_ll, dItems, List.map_cons, List.map_nil, List.length_cons, List.length_nil, List.cons_append, List.nil_append, Nat.sub_self, List.replicate_zero, List.replicate_succ, List.getElem?_cons_succ, List.getElem?_cons_zero, List.set_cons_zero, List.set_cons_succ, Option.bind_some, Option.map_some, if_true, Bool.true_and, Bool.and_true, Bool.and_self, Bool.not_true, Bool.not_false, Bool.false_eq_true, if_false, ite_true, ite_false, reduceCtorEq, n1, n2, beq_self_eq_true, e])
  obtain ⟨ps, w2, e2, l2, q2, d2⟩ := hc
  rw [iota_length] at l2
  refine ⟨(x, ps), w2, fun_ret ?_, ⟨hx, ⟨by show ps.length ≤ 3; omega, q2⟩, by show 1 ≤ ps.length; omega⟩, l2, d2⟩
  have hl : (iota 0 n).length ≤ big := by
    rw [iota_length]
    exact Nat.le_trans h2 (by decide)
  have hr : dRng [.int (n : Int)] = some (iota 0 n) := by
    rw [rng_ok (by omega) (by omega)]
    rfl
  simp only [mFun, startR, ess, es, ev, evs, evo, evc, evl, evi, sSeq, sNil, sRet, sExp, sAsg, sOwn, sIf, sFor, sRaise, sAug, sMut, sSet, sFrz, frzR, mVar, mCst, mBin, mUn, mAnd, mOr, mIf, mChn, mNil, mCons, mSeq, mLst, mLen, mOf, mSl, mNo, mPt, mCall, mPri, mBmt, mOix, mOcmp, mISeq, mIBi, bind_ok, bind_exc, bind_bad, toS_ok, toS_exc, toS_bad, nx_ok, ofB_bl, lift_some, lift_none, bindT_nm, bindT_tp, bindTs_nil, bindTs_cons, bop, bIMul, bAdd, bSub, dNeg, dNot, bLt, bLe, bGt, bGe, bIs, bIsn, isNon, dIx, dSl, isi_ii, isi_bi, isi_bb, isi_tt, isi_ll, dItems, List.map_cons, List.map_nil, List.length_cons, List.length_nil, List.cons_append, List.nil_append, Nat.sub_self, List.replicate_zero, List.replicate_succ, List.getElem?_cons_succ, List.getElem?_cons_zero, List.set_cons_zero, List.set_cons_succ, Option.bind_some, Option.map_some, if_true, Bool.true_and, Bool.and_true, Bool.and_self, Bool.not_true, Bool.not_false, Bool.false_eq_true, if_false, ite_true, ite_false, reduceCtorEq, n1, n2, beq_self_eq_true] at e2
  simp only [b__law_new, ruleD, mFun, startR, ess, es, ev, evs, evo, evc, evl, evi, sSeq, sNil, sRet, sExp, sAsg, sOwn, sIf, sFor, sRaise, sAug, sMut, sSet, sFrz, frzR, mVar, mCst, mBin, mUn, mAnd, mOr, mIf, mChn, mNil, mCons, mSeq, mLst, mLen, mOf, mSl, mNo, mPt, mCall, mPri, mBmt, mOix, mOcmp, mISeq, mIBi, bind_ok, bind_exc, bind_bad, toS_ok, toS_exc, toS_bad, nx_ok, ofB_bl, lift_some, lift_none, bindT_nm, bindT_tp, bindTs_nil, bindTs_cons, bop, bIMul, bAdd, bSub, dNeg, dNot, bLt, bLe, bGt, bGe, bIs, bIsn, isNon, dIx, dSl, isi_ii, isi_bi, isi_bb, isi_tt, isi_ll, dItems, List.map_cons, List.map_nil, List.length_cons, List.length_nil, List.cons_append, List.nil_append, Nat.sub_self, List.replicate_zero, List.replicate_succ, List.getElem?_cons_succ, List.getElem?_cons_zero, List.set_cons_zero, List.set_cons_succ, Option.bind_some, Option.map_some, if_true, Bool.true_and, Bool.and_true, Bool.and_self, Bool.not_true, Bool.not_false, Bool.false_eq_true, if_false, ite_true, ite_false, reduceCtorEq, n1, n2, beq_self_eq_true, e1, mComp, hr, hl, wipeR, e2, big_2]
end RL

namespace RL
open PySem L2
/-! ### fractions: laws of products -/
theorem Is.mul {x y : Int × Int} {a b c d : Int} (h : Is x a b) (k : Is y c d) : Is (mulQ x y) (a * c) (b * d) := by
  have hx := h.am
  have hy := k.am
  have e1 := h.cross
  have e2 := k.cross
  refine ⟨Int.mul_pos h.1 k.1, Int.mul_pos h.2.1 k.2.1, ?_⟩
  refine low_eq (Int.mul_pos hx.1 hy.1) (Int.mul_pos hx.2.1 hy.2.1) (Int.mul_pos h.1 k.1) (Int.mul_pos h.2.1 k.2.1) ?_
  calc x.1 * y.1 * (b * d) = (x.1 * b) * (y.1 * d) := by ac_rfl
    _ = (a * x.2) * (c * y.2) := by rw [e1, e2]
    _ = a * c * (x.2 * y.2) := by ac_rfl
theorem Is.inv {x : Int × Int} {a b : Int} (h : Is x a b) : Is (invQ x) b a := is_of (invQ_am h.am) h.2.1 h.1 (by
  have e := h.cross
  show x.2 * a = b * x.1
  rw [Int.mul_comm x.2, Int.mul_comm b]
  exact e.symm)
theorem Is.div {x y : Int × Int} {a b c d : Int} (h : Is x a b) (k : Is y c d) : Is (divQ x y) (a * d) (b * c) := h.mul k.inv
theorem mulQ_comm (x y : Int × Int) : mulQ x y = mulQ y x := by
  unfold mulQ
  rw [Int.mul_comm x.1, Int.mul_comm x.2]
theorem mulQ_assoc {x y z : Int × Int} (hx : Am x) (hy : Am y) (hz : Am z) : mulQ (mulQ x y) z = mulQ x (mulQ y z) :=
  ((hx.is.mul hy.is).mul hz.is).eq (hx.is.mul (hy.is.mul hz.is)) (by ac_rfl)
theorem one_mulQ {x : Int × Int} (hx : Am x) : mulQ (1, 1) x = x := by
  have := low_id hx
  unfold mulQ
  simpa using this
theorem mulQ_one {x : Int × Int} (hx : Am x) : mulQ x (1, 1) = x := by rw [mulQ_comm, one_mulQ hx]
theorem powQ_am {x : Int × Int} (h : Am x) (e : Int) : Am (powQ x e) := by
  unfold powQ
  split
  · exact powN_am h _
  · exact invQ_am (powN_am h _)
theorem prodGo_am : ∀ (ps : List Int) {as : List (Int × Int)} {acc : Int × Int}, Am acc → Ams as → Am (prodGo acc ps as)
  | [], as, acc, h, _ => by unfold prodGo; exact h
  | p :: ps, [], acc, h, _ => by unfold prodGo; exact h
  | p :: ps, a :: as, acc, h, k => by
    rw [prodGo]
    exact prodGo_am ps (mulQ_am h (powQ_am (k a List.mem_cons_self) p)) fun x m => k x (List.mem_cons_of_mem _ m)
theorem prodGo_acc : ∀ (ps : List Int) {as : List (Int × Int)} {acc : Int × Int}, Am acc → Ams as → prodGo acc ps as = mulQ acc (prodGo (1, 1) ps as)
  | [], as, acc, h, _ => by unfold prodGo; exact (mulQ_one h).symm
  | p :: ps, [], acc, h, _ => by unfold prodGo; exact (mulQ_one h).symm
  | p :: ps, a :: as, acc, h, k => by
    have ha := powQ_am (k a List.mem_cons_self) p
    have k' : Ams as := fun x m => k x (List.mem_cons_of_mem _ m)
    rw [prodGo, prodGo, prodGo_acc ps (mulQ_am h ha) k', prodGo_acc ps (mulQ_am one_am ha) k', one_mulQ ha, mulQ_assoc h ha (prodGo_am ps one_am k')]
theorem rateQ_go {r : Rule} {as : List (Int × Int)} (h : Am r.1) (k : Ams as) : rateQ r as = prodGo r.1 r.2 as := (prodGo_acc r.2 h k).symm
theorem rateQ_am {r : Rule} {as : List (Int × Int)} (h : Am r.1) (k : Ams as) : Am (rateQ r as) := by
  rw [rateQ_go h k]
  exact prodGo_am r.2 h k
theorem rateQ_ok {r : Rule} {as : List (Int × Int)} {n m : Nat} (h : Ok m r.1) (hp : Pw r.2) (k : Oks n as) : Ok (m + (9 * n + 4)) (rateQ r as) := h.mul (prodQ_ok hp k)
/-! ### the law's rate -/
def sel (e : Int) (a : Int × Int) : Int × Int := if e > 0 then a else (a.2, a.1)
theorem powQ_sel (a : Int × Int) (e : Int) : powQ a e = powN (sel e a) (if e < 0 then -e else e).toNat := by
  unfold powQ sel
  by_cases h : 0 ≤ e
  · rw [if_pos h, if_neg (show ¬ e < 0 by omega)]
    by_cases h0 : e > 0
    · rw [if_pos h0]
    · have : e = 0 := by omega
      subst this
      simp [powN]
  · rw [if_neg h, if_pos (show e < 0 by omega), if_neg (show ¬ e > 0 by omega)]
    rfl
theorem pow_lt {a : Int} {n : Nat} (h0 : 0 < a) (h : a < 2 ^ n) (hn : 0 < n) : ∀ k, a ^ k < 2 ^ (n * k + 1)
  | 0 => by simp
  | k + 1 => by
    have e : n * (k + 1) + 1 = n * k + 1 + n := by rw [Nat.mul_succ]; omega
    rw [Int.pow_succ, e]
    exact mul_lt (Int.pow_pos h0) h0 (pow_lt h0 h hn k) h
theorem law_rate_in (T : Tab) (x0 x1 : Sl) (e : Int) {a : Int × Int} {n : Nat} (ha : Ok n a) (w : Wd) : ∀ (m : Nat) (z : Int) (top und : Int) (t : Nat) (s : Sl), 0 < top → 0 < und → top < 2 ^ t → und < 2 ^ t → 0 < t → t + m * n ≤ 8000 →
    ∃ s', forGo (.nm 6) (ess T (.cons (.asg (.nm 2) (.bin .mul (.var 2) (.ite (.bin .gt (.var 4) (.cst (.int 0))) (.ix (.var 5) (.cst (.int 0))) (.ix (.var 5) (.cst (.int 1)))))) (.cons (.asg (.nm 3) (.bin .mul (.var 3) (.ite (.bin .gt (.var 4) (.cst (.int 0))) (.ix (.var 5) (.cst (.int 1))) (.ix (.var 5) (.cst (.int 0)))))) .nil))) (iota z m)
      [x0, x1, .dat (.int top), .dat (.int und), .dat (.int e), .dat (amt a), s] w = .next [x0, x1, .dat (.int (top * (sel e a).1 ^ m)), .dat (.int (und * (sel e a).2 ^ m)), .dat (.int e), .dat (amt a), s'] w := by
  intro m
  induction m with
  | zero => intro z top und t s _ _ _ _ _ _; exact ⟨s, by simp [iota, forGo]⟩
  | succ m ih =>
    intro z top und t s h1 h2 h3 h4 ht hb
    have hsel : Ok n (sel e a) := by
      unfold sel
      split
      · exact ha
      · exact ha.inv
    have hb' : t + n + m * n ≤ 8000 := by
      rw [Nat.succ_mul] at hb
      omega
    obtain ⟨s', hs⟩ := ih (z + 1) (top * (sel e a).1) (und * (sel e a).2) (t + n) (.dat (.int z)) (Int.mul_pos h1 hsel.am.1) (Int.mul_pos h2 hsel.am.2.1) (mul_lt h1 hsel.am.1 h3 hsel.bd.1) (mul_lt h2 hsel.am.2.1 h4 hsel.bd.2) (by omega) hb'
    refine ⟨s', ?_⟩
    rw [iota]
    have m1 : sm top = true := sm_lt (Int.le_of_lt h1) h3 ht (by omega)
    have m2 : sm und = true := sm_lt (Int.le_of_lt h2) h4 ht (by omega)
    have a1 : sm a.1 = true := ha.sm1 (by omega)
    have a2 : sm a.2 = true := ha.sm2 (by omega)
    refine (for_go (r1 := [x0, x1, .dat (.int top), .dat (.int und), .dat (.int e), .dat (amt a), .dat (.int z)]) (r2 := [x0, x1, .dat (.int (top * (sel e a).1)), .dat (.int (und * (sel e a).2)), .dat (.int e), .dat (amt a), .dat (.int z)]) (w2 := w) (by simp only [mFun, startR, ess, es, ev, evs, evo, evc, evl, evi, sSeq, sNil, sRet, sExp, sAsg, sOwn, sIf, sFor, sRaise, sAug, sMut, sSet, sFrz, frzR, mVar, mCst, mBin, mUn, mAnd, mOr, mIf, mChn, mNil, mCons, mSeq, mLst, mLen, mOf, mSl, mNo, mPt, mCall, mPri, mBmt, mOix, mOcmp, mISeq, mIBi, bind_ok, bind_exc, bind_bad, toS_ok, toS_exc, toS_bad, nx_ok, ofB_bl, lift_some, lift_none, bindT_nm, bindT_tp, bindTs_nil, bindTs_cons, bop, bIMul, bAdd, bSub, dNeg, dNot, bLt, bLe, bGt, bGe, bIs, bIsn, isNon, dIx, dSl, isi_ii, isi_bi, isi_bb, isi_tt, isi_ll, dItems, List.map_cons, List.map_nil, List.length_cons, List.length_nil, List.cons_append, List.nil_append, Nat.sub_self, List.replicate_zero, List.replicate_succ, List.getElem?_cons_succ, List.getElem?_cons_zero, List.set_cons_zero, List.set_cons_succ, Option.bind_some, Option.map_some, if_true, Bool.true_and, Bool.and_true, Bool.and_self, Bool.not_true, Bool.not_false, Bool.false_eq_true, if_false, ite_true, ite_false, reduceCtorEq, n1, n2, beq_self_eq_true]) ?_).trans ?_
    · unfold sel
      by_cases he : e > 0
      · have he' : 0 < e := he
        simp only [mFun, startR, ess, es, ev, evs, evo, evc, evl, evi, sSeq, sNil, sRet, sExp, sAsg, sOwn, sIf, sFor, sRaise, sAug, sMut, sSet, sFrz, frzR, mVar, mCst, mBin, mUn, mAnd, mOr, mIf, mChn, mNil, mCons, mSeq, mLst, mLen, mOf, mSl, mNo, mPt, mCall, mPri, mBmt, mOix, mOcmp, mISeq, mIBi, bind_ok, bind_exc, bind_bad, toS_ok, toS_exc, toS_bad, nx_ok, ofB_bl, lift_some, lift_none, bindT_nm, bindT_tp, bindTs_nil, bindTs_cons, bop, bIMul, bAdd, bSub, dNeg, dNot, bLt, bLe, bGt, bGe, bIs, bIsn, isNon, dIx, dSl, isi_ii, isi_bi, isi_bb, isi_tt, isi_ll, dItems, List.map_cons, List.map_nil, List.length_cons, List.length_nil, List.cons_append, List.nil_append, Nat.sub_self, List.replicate_zero, List.replicate_succ, List.getElem?_cons_succ, List.getElem?_cons_zero, List.set_cons_zero, List.set_cons_succ, Option.bind_some, Option.map_some, if_true, Bool.true_and, Bool.and_true, Bool.and_self, Bool.not_true, Bool.not_false, Bool.false_eq_true, if_false, ite_true, ite_false, reduceCtorEq, n1, n2, beq_self_eq_true, amt, ix0, ix1, he, he', decide_true, bMul_int m1 a1, bMul_int m2 a2]
      · have he' : ¬ 0 < e := he
        simp only [mFun, startR, ess, es, ev, evs, evo, evc, evl, evi, sSeq, sNil, sRet, sExp, sAsg, sOwn, sIf, sFor, sRaise, sAug, sMut, sSet, sFrz, frzR, mVar, mCst, mBin, mUn, mAnd, mOr, mIf, mChn, mNil, mCons, mSeq, mLst, mLen, mOf, mSl, mNo, mPt, mCall, mPri, mBmt, mOix, mOcmp, mISeq, mIBi, bind_ok, bind_exc, bind_bad, toS_ok, toS_exc, toS_bad, nx_ok, ofB_bl, lift_some, lift_none, bindT_nm, bindT_tp, bindTs_nil, bindTs_cons, bop, bIMul, bAdd, bSub, dNeg, dNot, bLt, bLe, bGt, bGe, bIs, bIsn, isNon, dIx, dSl, isi_ii, isi_bi, isi_bb, isi_tt, isi_ll, dItems, List.map_cons, List.map_nil, List.length_cons, List.length_nil, List.cons_append, List.nil_append, Nat.sub_self, List.replicate_zero, List.replicate_succ, List.getElem?_cons_succ, List.getElem?_cons_zero, List.set_cons_zero, List.set_cons_succ, Option.bind_some, Option.map_some, if_true, Bool.true_and, Bool.and_true, Bool.and_self, Bool.not_true, Bool.not_false, Bool.false_eq_true, if_false, ite_true, ite_false, reduceCtorEq, n1, n2, beq_self_eq_true, amt, ix0, ix1, he, he', decide_false, bMul_int m1 a2, bMul_int m2 a1]
    · rw [hs, Int.mul_assoc, Int.mul_assoc, ← Int.pow_succ', ← Int.pow_succ']
theorem law_rate_out (T : Tab) (x0 x1 : Sl) (hp : T.pri = priTab) {n : Nat} (w : Wd) : ∀ (ps : List Int) (as : List (Int × Int)) (q : Int × Int) (top und : Int) (t : Nat) (s1 s2 s3 : Sl), Is q top und → top < 2 ^ t → und < 2 ^ t → 0 < t → (∀ e ∈ ps, -3 ≤ e ∧ e ≤ 3) → Oks n as → t + ps.length * (n * 3 + 1) ≤ 8000 →
    ∃ top' und' u1 u2 u3, forGo (.tp (.cons (.nm 4) (.cons (.nm 5) .nil))) (ess T (.cons (.for' (.nm 6) (.rng (.cons (.pri 1 (.cons (.var 4) .nil)) .nil)) (.cons (.asg (.nm 2) (.bin .mul (.var 2) (.ite (.bin .gt (.var 4) (.cst (.int 0))) (.ix (.var 5) (.cst (.int 0))) (.ix (.var 5) (.cst (.int 1)))))) (.cons (.asg (.nm 3) (.bin .mul (.var 3) (.ite (.bin .gt (.var 4) (.cst (.int 0))) (.ix (.var 5) (.cst (.int 1))) (.ix (.var 5) (.cst (.int 0)))))) .nil))) .nil)) (zipD (ps.map .int) (as.map amt))
      [x0, x1, .dat (.int top), .dat (.int und), s1, s2, s3] w = .next [x0, x1, .dat (.int top'), .dat (.int und'), u1, u2, u3] w ∧ Is (prodGo q ps as) top' und' ∧ top' < 2 ^ (t + ps.length * (n * 3 + 1)) ∧ und' < 2 ^ (t + ps.length * (n * 3 + 1)) := by
  intro ps
  induction ps with
  | nil => intro as q top und t s1 s2 s3 h0 h1 h2 ht h3 h4 h5; exact ⟨top, und, s1, s2, s3, by simp [zipD, forGo], by unfold prodGo; exact h0, by simpa using h1, by simpa using h2⟩
  | cons e ps ih =>
    intro as q top und t s1 s2 s3 h0 h1 h2 ht h3 h4 h5
    cases as with
    | nil =>
      have hm : (2 : Int) ^ t ≤ 2 ^ (t + (e :: ps).length * (n * 3 + 1)) := by
        have := Nat.pow_le_pow_right (show 0 < 2 by omega) (Nat.le_add_right t ((e :: ps).length * (n * 3 + 1)))
        exact_mod_cast this
      exact ⟨top, und, s1, s2, s3, by simp [zipD, forGo], by unfold prodGo; exact h0, by omega, by omega⟩
    | cons a as =>
      have he := h3 e List.mem_cons_self
      have ha := h4 a List.mem_cons_self
      have hsel : Ok n (sel e a) := by
        unfold sel
        split
        · exact ha
        · exact ha.inv
      rw [List.length_cons, Nat.add_mul, Nat.one_mul] at h5 ⊢
      have hm : (if e < 0 then -e else e).toNat ≤ 3 := by split <;> omega
      have hm2 := Nat.mul_le_mul_right n hm
      obtain ⟨s', hs⟩ := law_rate_in T x0 x1 e ha w (if e < 0 then -e else e).toNat 0 top und t s3 h0.1 h0.2.1 h1 h2 ht (by omega)
      have hw := powQ_ok ha he.1 he.2
      have hw2 : powN (sel e a) (if e < 0 then -e else e).toNat = powQ a e := (powQ_sel a e).symm
      have i1 : Is (powQ a e) ((sel e a).1 ^ (if e < 0 then -e else e).toNat) ((sel e a).2 ^ (if e < 0 then -e else e).toNat) := by
        have := (powQ_am ha.am e).is
        rw [← hw2] at this ⊢
        exact this
      rw [← hw2] at hw
      obtain ⟨top', und', u1, u2, u3, hg, hI, hb1, hb2⟩ := ih as (mulQ q (powQ a e)) _ _ (t + (n * 3 + 1)) (.dat (.int e)) (.dat (amt a)) s' (h0.mul i1) (mul_lt h0.1 i1.1 h1 hw.bd.1) (mul_lt h0.2.1 i1.2.1 h2 hw.bd.2) (by omega) (fun e' m => h3 e' (List.mem_cons_of_mem _ m)) (fun a' m => h4 a' (List.mem_cons_of_mem _ m)) (by omega)
      refine ⟨top', und', u1, u2, u3, ?_, by rw [prodGo]; exact hI, ?_, ?_⟩
      · rw [List.map_cons, List.map_cons, zipD]
        refine (for_go (r1 := [x0, x1, .dat (.int top), .dat (.int und), .dat (.int e), .dat (amt a), s3]) (r2 := [x0, x1, .dat (.int (top * (sel e a).1 ^ (if e < 0 then -e else e).toNat)), .dat (.int (und * (sel e a).2 ^ (if e < 0 then -e else e).toNat)), .dat (.int e), .dat (amt a), s']) (w2 := w) (by simp only [mFun, startR, ess, es, ev, evs, evo, evc, evl, evi, sSeq, sNil, sRet, sExp, sAsg, sOwn, sIf, sFor, sRaise, sAug, sMut, sSet, sFrz, frzR, mVar, mCst, mBin, mUn, mAnd, mOr, mIf, mChn, mNil, mCons, mSeq, mLst, mLen, mOf, mSl, mNo, mPt, mCall, mPri, mBmt, mOix, mOcmp, mISeq, mIBi, bind_ok, bind_exc, bind_bad, toS_ok, toS_exc, toS_bad, nx_ok, ofB_bl, lift_some, lift_none, bindT_nm, bindT_tp, bindTs_nil, bindTs_cons, bop, bIMul, bAdd, bSub, dNeg, dNot, bLt, bLe, bGt, bGe, bIs, bIsn, isNon, dIx, dSl, isi_ii, isi_bi, isi_bb, isi_tt, isi_ll, dItems, List.map_cons, List.map_nil, List.length_cons, List.length_nil, List.cons_append, List.nil_append, Nat.sub_self, List.replicate_zero, List.replicate_succ, List.getElem?_cons_succ, List.getElem?_cons_zero, List.set_cons_zero, List.set_cons_succ, Option.bind_some, Option.map_some, if_true, Bool.true_and, Bool.and_true, Bool.and_self, Bool.not_true, Bool.not_false, Bool.false_eq_true, if_false, ite_true, ite_false, reduceCtorEq, n1, n2, beq_self_eq_true]) ?_).trans hg
        have hr : dRng [.int (if e < 0 then -e else e)] = some (iota 0 (if e < 0 then -e else e).toNat) := rng_ok (by split <;> omega) (by split <;> omega)
        rw [ess]
        have q2 : es T (.for' (.nm 6) (.rng (.cons (.pri 1 (.cons (.var 4) .nil)) .nil)) (.cons (.asg (.nm 2) (.bin .mul (.var 2) (.ite (.bin .gt (.var 4) (.cst (.int 0))) (.ix (.var 5) (.cst (.int 0))) (.ix (.var 5) (.cst (.int 1)))))) (.cons (.asg (.nm 3) (.bin .mul (.var 3) (.ite (.bin .gt (.var 4) (.cst (.int 0))) (.ix (.var 5) (.cst (.int 1))) (.ix (.var 5) (.cst (.int 0)))))) .nil))) [x0, x1, .dat (.int top), .dat (.int und), .dat (.int e), .dat (amt a), s3] w = .next [x0, x1, .dat (.int (top * (sel e a).1 ^ (if e < 0 then -e else e).toNat)), .dat (.int (und * (sel e a).2 ^ (if e < 0 then -e else e).toNat)), .dat (.int e), .dat (amt a), s'] w := by
          rw [es, sFor, evi, mIBi]
          simp only [mFun, startR, ess, es, ev, evs, evo, evc, evl, evi, sSeq, sNil, sRet, sExp, sAsg, sOwn, sIf, sFor, sRaise, sAug, sMut, sSet, sFrz, frzR, mVar, mCst, mBin, mUn, mAnd, mOr, mIf, mChn, mNil, mCons, mSeq, mLst, mLen, mOf, mSl, mNo, mPt, mCall, mPri, mBmt, mOix, mOcmp, mISeq, mIBi, bind_ok, bind_exc, bind_bad, toS_ok, toS_exc, toS_bad, nx_ok, ofB_bl, lift_some, lift_none, bindT_nm, bindT_tp, bindTs_nil, bindTs_cons, bop, bIMul, bAdd, bSub, dNeg, dNot, bLt, bLe, bGt, bGe, bIs, bIsn, isNon, dIx, dSl, isi_ii, isi_bi, isi_bb, isi_tt, isi_ll, dItems, List.map_cons, List.map_nil, List.length_cons, List.length_nil, List.cons_append, List.nil_append, Nat.sub_self, List.replicate_zero, List.replicate_succ, List.getElem?_cons_succ, List.getElem?_cons_zero, List.set_cons_zero, List.set_cons_succ, Option.bind_some, Option.map_some, if_true, Bool.true_and, Bool.and_true, Bool.and_self, Bool.not_true, Bool.not_false, Bool.false_eq_true, if_false, ite_true, ite_false, reduceCtorEq, n1, n2, beq_self_eq_true, hp, p1, dAbs, hr]
          simp only [mFun, startR, ess, es, ev, evs, evo, evc, evl, evi, sSeq, sNil, sRet, sExp, sAsg, sOwn, sIf, sFor, sRaise, sAug, sMut, sSet, sFrz, frzR, mVar, mCst, mBin, mUn, mAnd, mOr, mIf, mChn, mNil, mCons, mSeq, mLst, mLen, mOf, mSl, mNo, mPt, mCall, mPri, mBmt, mOix, mOcmp, mISeq, mIBi, bind_ok, bind_exc, bind_bad, toS_ok, toS_exc, toS_bad, nx_ok, ofB_bl, lift_some, lift_none, bindT_nm, bindT_tp, bindTs_nil, bindTs_cons, bop, bIMul, bAdd, bSub, dNeg, dNot, bLt, bLe, bGt, bGe, bIs, bIsn, isNon, dIx, dSl, isi_ii, isi_bi, isi_bb, isi_tt, isi_ll, dItems, List.map_cons, List.map_nil, List.length_cons, List.length_nil, List.cons_append, List.nil_append, Nat.sub_self, List.replicate_zero, List.replicate_succ, List.getElem?_cons_succ, List.getElem?_cons_zero, List.set_cons_zero, List.set_cons_succ, Option.bind_some, Option.map_some, if_true, Bool.true_and, Bool.and_true, Bool.and_self, Bool.not_true, Bool.not_false, Bool.false_eq_true, if_false, ite_true, ite_false, reduceCtorEq, n1, n2, beq_self_eq_true] at hs
          exact hs
        simp only [sSeq, q2]
        rfl
      · rw [show t + (ps.length * (n * 3 + 1) + (n * 3 + 1)) = t + (n * 3 + 1) + ps.length * (n * 3 + 1) by omega]
        exact hb1
      · rw [show t + (ps.length * (n * 3 + 1) + (n * 3 + 1)) = t + (n * 3 + 1) + ps.length * (n * 3 + 1) by omega]
        exact hb2
theorem sp_law_rate (T : Tab) (i : Nat) (B : TB T) (hi : SpLowest (T.f i)) : SpRateOf (mFun 7 (ess T (b__law_rate i))) := by
  intro r as n m w h1 h2 h3 hn hm
  refine fun_ret ?_
  have hb := Nat.mul_le_mul_right (n * 3 + 1) h2.1
  obtain ⟨top, und, u1, u2, u3, hg, hI, b1, b2⟩ := law_rate_out T (.dat (ruleD r)) (.dat (amts as)) B.p w r.2 as r.1 r.1.1 r.1.2 m .emp .emp .emp h1.am.is h1.bd.1 h1.bd.2 h1.pos h2.2 h3 (by omega)
  rw [b__law_rate, ess]
  have q1 : es T (.asg (.tp (.cons (.nm 2) (.cons (.nm 3) .nil))) (.ix (.var 0) (.cst (.int 0)))) (startR 7 [ruleD r, amts as]) w = .next [.dat (ruleD r), .dat (amts as), .dat (.int r.1.1), .dat (.int r.1.2), .emp, .emp, .emp] w := by
    simp only [mFun, startR, ess, es, ev, evs, evo, evc, evl, evi, sSeq, sNil, sRet, sExp, sAsg, sOwn, sIf, sFor, sRaise, sAug, sMut, sSet, sFrz, frzR, mVar, mCst, mBin, mUn, mAnd, mOr, mIf, mChn, mNil, mCons, mSeq, mLst, mLen, mOf, mSl, mNo, mPt, mCall, mPri, mBmt, mOix, mOcmp, mISeq, mIBi, bind_ok, bind_exc, bind_bad, toS_ok, toS_exc, toS_bad, nx_ok, ofB_bl, lift_some, lift_none, bindT_nm, bindT_tp, bindTs_nil, bindTs_cons, bop, bIMul, bAdd, bSub, dNeg, dNot, bLt, bLe, bGt, bGe, bIs, bIsn, isNon, dIx, dSl, isi_ii, isi_bi, isi_bb, isi_tt, isi_ll, dItems, List.map_cons, List.map_nil, List.length_cons, List.length_nil, List.cons_append, List.nil_append, Nat.sub_self, List.replicate_zero, List.replicate_succ, List.getElem?_cons_succ, List.getElem?_cons_zero, List.set_cons_zero, List.set_cons_succ, Option.bind_some, Option.map_some, if_true, Bool.true_and, Bool.and_true, Bool.and_self, Bool.not_true, Bool.not_false, Bool.false_eq_true, if_false, ite_true, ite_false, reduceCtorEq, n1, n2, beq_self_eq_true, ruleD, amt, ix0]
  simp only [sSeq, q1]
  rw [ess]
  have q2 : es T (.for' (.tp (.cons (.nm 4) (.cons (.nm 5) .nil))) (.zip (.cons (.ix (.var 0) (.cst (.int 1))) (.cons (.var 1) .nil))) (.cons (.for' (.nm 6) (.rng (.cons (.pri 1 (.cons (.var 4) .nil)) .nil)) (.cons (.asg (.nm 2) (.bin .mul (.var 2) (.ite (.bin .gt (.var 4) (.cst (.int 0))) (.ix (.var 5) (.cst (.int 0))) (.ix (.var 5) (.cst (.int 1)))))) (.cons (.asg (.nm 3) (.bin .mul (.var 3) (.ite (.bin .gt (.var 4) (.cst (.int 0))) (.ix (.var 5) (.cst (.int 1))) (.ix (.var 5) (.cst (.int 0)))))) .nil))) .nil)) [.dat (ruleD r), .dat (amts as), .dat (.int r.1.1), .dat (.int r.1.2), .emp, .emp, .emp] w = .next [.dat (ruleD r), .dat (amts as), .dat (.int top), .dat (.int und), u1, u2, u3] w := by
    rw [es, sFor, evi, mIBi]
    simp only [mFun, startR, ess, es, ev, evs, evo, evc, evl, evi, sSeq, sNil, sRet, sExp, sAsg, sOwn, sIf, sFor, sRaise, sAug, sMut, sSet, sFrz, frzR, mVar, mCst, mBin, mUn, mAnd, mOr, mIf, mChn, mNil, mCons, mSeq, mLst, mLen, mOf, mSl, mNo, mPt, mCall, mPri, mBmt, mOix, mOcmp, mISeq, mIBi, bind_ok, bind_exc, bind_bad, toS_ok, toS_exc, toS_bad, nx_ok, ofB_bl, lift_some, lift_none, bindT_nm, bindT_tp, bindTs_nil, bindTs_cons, bop, bIMul, bAdd, bSub, dNeg, dNot, bLt, bLe, bGt, bGe, bIs, bIsn, isNon, dIx, dSl, isi_ii, isi_bi, isi_bb, isi_tt, isi_ll, dItems, List.map_cons, List.map_nil, List.length_cons, List.length_nil, List.cons_append, List.nil_append, Nat.sub_self, List.replicate_zero, List.replicate_succ, List.getElem?_cons_succ, List.getElem?_cons_zero, List.set_cons_zero, List.set_cons_succ, Option.bind_some, Option.map_some, if_true, Bool.true_and, Bool.and_true, Bool.and_self, Bool.not_true, Bool.not_false, Bool.false_eq_true, if_false, ite_true, ite_false, reduceCtorEq, n1, n2, beq_self_eq_true, amts, ruleD, ix1, dZip]
    simp only [mFun, startR, ess, es, ev, evs, evo, evc, evl, evi, sSeq, sNil, sRet, sExp, sAsg, sOwn, sIf, sFor, sRaise, sAug, sMut, sSet, sFrz, frzR, mVar, mCst, mBin, mUn, mAnd, mOr, mIf, mChn, mNil, mCons, mSeq, mLst, mLen, mOf, mSl, mNo, mPt, mCall, mPri, mBmt, mOix, mOcmp, mISeq, mIBi, bind_ok, bind_exc, bind_bad, toS_ok, toS_exc, toS_bad, nx_ok, ofB_bl, lift_some, lift_none, bindT_nm, bindT_tp, bindTs_nil, bindTs_cons, bop, bIMul, bAdd, bSub, dNeg, dNot, bLt, bLe, bGt, bGe, bIs, bIsn, isNon, dIx, dSl, isi_ii, isi_bi, isi_bb, isi_tt, isi_ll, dItems, List.map_cons, List.map_nil, List.length_cons, List.length_nil, List.cons_append, List.nil_append, Nat.sub_self, List.replicate_zero, List.replicate_succ, List.getElem?_cons_succ, List.getElem?_cons_zero, List.set_cons_zero, List.set_cons_succ, Option.bind_some, Option.map_some, if_true, Bool.true_and, Bool.and_true, Bool.and_self, Bool.not_true, Bool.not_false, Bool.false_eq_true, if_false, ite_true, ite_false, reduceCtorEq, n1, n2, beq_self_eq_true, amts, ruleD] at hg
    exact hg
  simp only [sSeq, q2]
  have e := hi top und w hI.1 hI.2.1 (sm_lt (Int.le_of_lt hI.1) b1 (by have := h1.pos; omega) (by omega))
  rw [← hI.2.2, ← rateQ_go h1.am h3.am] at e
  simp only [mFun, startR, ess, es, ev, evs, evo, evc, evl, evi, sSeq, sNil, sRet, sExp, sAsg, sOwn, sIf, sFor, sRaise, sAug, sMut, sSet, sFrz, frzR, mVar, mCst, mBin, mUn, mAnd, mOr, mIf, mChn, mNil, mCons, mSeq, mLst, mLen, mOf, mSl, mNo, mPt, mCall, mPri, mBmt, mOix, mOcmp, mISeq, mIBi, bind_ok, bind_exc, bind_bad, toS_ok, toS_exc, toS_bad, nx_ok, ofB_bl, lift_some, lift_none, bindT_nm, bindT_tp, bindTs_nil, bindTs_cons, bop, bIMul, bAdd, bSub, dNeg, dNot, bLt, bLe, bGt, bGe, bIs, bIsn, isNon, dIx, dSl, isi_ii, isi_bi, isi_bb, isi_tt, isi_ll, dItems, List.map_cons, List.map_nil, List.length_cons, List.length_nil, List.cons_append, List.nil_append, Nat.sub_self, List.replicate_zero, List.replicate_succ, List.getElem?_cons_succ, List.getElem?_cons_zero, List.set_cons_zero, List.set_cons_succ, Option.bind_some, Option.map_some, if_true, Bool.true_and, Bool.and_true, Bool.and_self, Bool.not_true, Bool.not_false, Bool.false_eq_true, if_false, ite_true, ite_false, reduceCtorEq, n1, n2, beq_self_eq_true, e]
end RL

namespace RL
open PySem L2
theorem size_mem {x : D} : ∀ {xs : List D}, x ∈ xs → sizeD x < sizeD (.lst xs)
  | y :: ys, h => by
    rcases List.mem_cons.1 h with rfl | h
    · simp only [sizeD, sizeL]
      omega
    · have := size_mem h
      simp only [sizeD, sizeL] at this ⊢
      omega
theorem bNe_ts (ts : List Trial) : bNe (.lst (ts.map trialD)) (.lst []) = some (.bl (!decide (ts = []))) := (en_trials 8).bne ts []
/-- trials as they are drawn -/
def TI (k : Nat) (ts : List Trial) : Prop := ∀ t ∈ ts, t.1.length = k ∧ Oks 4 t.1 ∧ Ok 48 t.2
theorem Oks.set {n : Nat} {xs : List (Int × Int)} (h : Oks n xs) {x : Int × Int} (hx : Ok n x) (j : Nat) : Oks n (xs.set j x) := fun y m => by
  rcases List.mem_or_eq_of_mem_set m with m | rfl
  · exact h y m
  · exact hx
theorem ixN_nat {n k : Nat} (h : k < n) : ixN n (k : Int) = some k := by
  unfold ixN
  rw [if_pos (by omega), if_pos (by omega)]
  simp
section
variable (T : Tab) (i j l m p q : Nat) (B : TB T) (hi : SpDraw (T.f i)) (hj : SpLowest (T.f j)) (hl : SpRateOf (T.f l)) (hm : SpAmount (T.f m)) (hp : SpPick (T.f p)) (hq : SpNew (T.f q))
include B hi hm in
theorem trials_own {k : Nat} (k2 : k ≤ 3) (x2 x3 x4 x5 x6 x7 x8 : Sl) (w : Wd) (hw : DW [] w) : ∃ (as : List (Int × Int)) (w' : Wd), es T (.own 6 (.comp (.call m (.cons (.var 0) .nil)) (.nm 7) [7] (.rng (.cons (.var 1) .nil)) .no)) [.dat .drw, .dat (.int k), x2, x3, x4, x5, x6, x7, x8] w = .next [.dat .drw, .dat (.int k), x2, x3, x4, x5, .own (as.map amt), x7, x8] w' ∧ as.length = k ∧ Oks 4 as ∧ DW [] w' := by
  have hc := comp_draw (f := compF (.nm 7) [.dat .drw, .dat (.int k), x2, x3, x4, x5, x6, .emp, x8] (ev T (.cst (.bl true))) (ev T (.call m (.cons (.var 0) .nil)))) (g := amt) (P := fun y => Ok 4 y) (Q := DW []) (xs := iota 0 k) hw (by
    intro x hx w hw
    obtain ⟨v, w', e, hv, d⟩ := hm [] w hw
    refine ⟨v, w', ?_, hv, d⟩
    simp only [compF, mFun, startR, ess, es, ev, evs, evo, evc, evl, evi, sSeq, sNil, sRet, sExp, sAsg, sOwn, sIf, sFor, sRaise, sAug, sMut, sSet, sFrz, frzR, mVar, mCst, mBin, mUn, mAnd, mOr, mIf, mChn, mNil, mCons, mSeq, mLst, mLen, mOf, mSl, mNo, mPt, mCall, mPri, mBmt, mOix, mOcmp, mISeq, mIBi, bind_ok, bind_exc, bind_bad, toS_ok, toS_exc, toS_bad, nx_ok, ofB_bl, lift_some, lift_none, bindT_nm, bindT_tp, bindTs_nil, bindTs_cons, bop, bIMul, bAdd, bSub, dNeg, dNot, bLt, bLe, bGt, bGe, bIs, bIsn, isNon, dIx, dSl, isi_ii, isi_bi, isi_bb, isi_tt, isi_ll, dItems, List.map_cons, List.map_nil, List.length_cons, List.length_nil, List.cons_append, List.nil_append, Nat.sub_self, List.replicate_zero, List.replicate_succ, List.getElem?_cons_succ, List.getElem?_cons_zero, List.set_cons_zero, List.set_cons_succ, Option.bind_some, Option.map_some, if_true, Bool.true_and, Bool.and_true, Bool.and_self, Bool.not_true, Bool.not_false, Bool.false_eq_true, if_false, ite_true, ite_false, reduceCtorEq, n1, n2, beq_self_eq_true, e])
  obtain ⟨ps, w2, e2, l2, q2, d2⟩ := hc
  rw [iota_length] at l2
  have hlen : (iota 0 k).length ≤ big := by
    rw [iota_length]
    exact Nat.le_trans k2 (by decide)
  have hr : dRng [.int (k : Int)] = some (iota 0 k) := by
    rw [rng_ok (by omega) (by omega)]
    rfl
  refine ⟨ps, w2, ?_, l2, q2, d2⟩
  simp only [mFun, startR, ess, es, ev, evs, evo, evc, evl, evi, sSeq, sNil, sRet, sExp, sAsg, sOwn, sIf, sFor, sRaise, sAug, sMut, sSet, sFrz, frzR, mVar, mCst, mBin, mUn, mAnd, mOr, mIf, mChn, mNil, mCons, mSeq, mLst, mLen, mOf, mSl, mNo, mPt, mCall, mPri, mBmt, mOix, mOcmp, mISeq, mIBi, bind_ok, bind_exc, bind_bad, toS_ok, toS_exc, toS_bad, nx_ok, ofB_bl, lift_some, lift_none, bindT_nm, bindT_tp, bindTs_nil, bindTs_cons, bop, bIMul, bAdd, bSub, dNeg, dNot, bLt, bLe, bGt, bGe, bIs, bIsn, isNon, dIx, dSl, isi_ii, isi_bi, isi_bb, isi_tt, isi_ll, dItems, List.map_cons, List.map_nil, List.length_cons, List.length_nil, List.cons_append, List.nil_append, Nat.sub_self, List.replicate_zero, List.replicate_succ, List.getElem?_cons_succ, List.getElem?_cons_zero, List.set_cons_zero, List.set_cons_succ, Option.bind_some, Option.map_some, if_true, Bool.true_and, Bool.and_true, Bool.and_self, Bool.not_true, Bool.not_false, Bool.false_eq_true, if_false, ite_true, ite_false, reduceCtorEq, n1, n2, beq_self_eq_true] at e2
  simp only [mFun, startR, ess, es, ev, evs, evo, evc, evl, evi, sSeq, sNil, sRet, sExp, sAsg, sOwn, sIf, sFor, sRaise, sAug, sMut, sSet, sFrz, frzR, mVar, mCst, mBin, mUn, mAnd, mOr, mIf, mChn, mNil, mCons, mSeq, mLst, mLen, mOf, mSl, mNo, mPt, mCall, mPri, mBmt, mOix, mOcmp, mISeq, mIBi, bind_ok, bind_exc, bind_bad, toS_ok, toS_exc, toS_bad, nx_ok, ofB_bl, lift_some, lift_none, bindT_nm, bindT_tp, bindTs_nil, bindTs_cons, bop, bIMul, bAdd, bSub, dNeg, dNot, bLt, bLe, bGt, bGe, bIs, bIsn, isNon, dIx, dSl, isi_ii, isi_bi, isi_bb, isi_tt, isi_ll, dItems, List.map_cons, List.map_nil, List.length_cons, List.length_nil, List.cons_append, List.nil_append, Nat.sub_self, List.replicate_zero, List.replicate_succ, List.getElem?_cons_succ, List.getElem?_cons_zero, List.set_cons_zero, List.set_cons_succ, Option.bind_some, Option.map_some, if_true, Bool.true_and, Bool.and_true, Bool.and_self, Bool.not_true, Bool.not_false, Bool.false_eq_true, if_false, ite_true, ite_false, reduceCtorEq, n1, n2, beq_self_eq_true, mComp, hr, hlen, wipeR, e2]
include B hi hm hp in
theorem trials_mid {k : Nat} (k1 : 1 ≤ k) (k2 : k ≤ 3) (x2 x3 x5 x7 x8 : Sl) (w : Wd) (hw : DW [] w) (ts : List Trial) (ht : TI k ts) (hl8 : ts.length ≤ 8) (as : List (Int × Int)) (ha : as.length = k) (hb : Oks 4 as) : ∃ (bs : List (Int × Int)) (w' : Wd), es T (.iff (.and (.ocmp .ne 4 (.lm (.disp .nil))) (.bin .eq (.call i (.cons (.var 0) (.cons (.cst (.int 2)) .nil))) (.cst (.int 0)))) (.cons (.own 6 (.of (.cons (.ix (.callO p false 4 (.var 0)) (.cst (.int 0))) .nil))) (.cons (.set 6 (.call i (.cons (.var 0) (.cons (.var 1) .nil))) (.call m (.cons (.var 0) .nil))) .nil)) .nil) [.dat .drw, .dat (.int k), x2, x3, .own (ts.map trialD), x5, .own (as.map amt), x7, x8] w = .next [.dat .drw, .dat (.int k), x2, x3, .own (ts.map trialD), x5, .own (bs.map amt), x7, x8] w' ∧ bs.length = k ∧ Oks 4 bs ∧ DW [] w' := by
  by_cases h0 : ts = []
  · have e := bNe_ts ts
    simp only [h0, decide_true, List.map_nil] at e
    refine ⟨as, w, ?_, ha, hb, hw⟩
    simp only [mFun, startR, ess, es, ev, evs, evo, evc, evl, evi, sSeq, sNil, sRet, sExp, sAsg, sOwn, sIf, sFor, sRaise, sAug, sMut, sSet, sFrz, frzR, mVar, mCst, mBin, mUn, mAnd, mOr, mIf, mChn, mNil, mCons, mSeq, mLst, mLen, mOf, mSl, mNo, mPt, mCall, mPri, mBmt, mOix, mOcmp, mISeq, mIBi, bind_ok, bind_exc, bind_bad, toS_ok, toS_exc, toS_bad, nx_ok, ofB_bl, lift_some, lift_none, bindT_nm, bindT_tp, bindTs_nil, bindTs_cons, bop, bIMul, bAdd, bSub, dNeg, dNot, bLt, bLe, bGt, bGe, bIs, bIsn, isNon, dIx, dSl, isi_ii, isi_bi, isi_bb, isi_tt, isi_ll, dItems, List.map_cons, List.map_nil, List.length_cons, List.length_nil, List.cons_append, List.nil_append, Nat.sub_self, List.replicate_zero, List.replicate_succ, List.getElem?_cons_succ, List.getElem?_cons_zero, List.set_cons_zero, List.set_cons_succ, Option.bind_some, Option.map_some, if_true, Bool.true_and, Bool.and_true, Bool.and_self, Bool.not_true, Bool.not_false, Bool.false_eq_true, if_false, ite_true, ite_false, reduceCtorEq, n1, n2, beq_self_eq_true, h0, big_0, e]
  · have e := bNe_ts ts
    simp only [h0, decide_false] at e
    obtain ⟨v, w1, e1, hv, d1⟩ := hi [] 2 w hw (by omega) (by omega)
    by_cases hv0 : v = 0
    · subst hv0
      obtain ⟨x, w2, e2, hx, d2⟩ := hp [] (ts.map trialD) w1 d1 (by simpa using h0) (by rw [List.length_map]; omega)
      obtain ⟨t, mt, rfl⟩ := List.mem_map.1 hx
      obtain ⟨a, w3, e3, h3, d3⟩ := hm [] w2 d2
      obtain ⟨u, w4, e4, h4, d4⟩ := hi [] k w3 d3 (by omega) (by omega)
      have htt := ht t mt
      have hs := size_mem hx
      have hix : ixN (t.1.map amt).length (u : Int) = some u := ixN_nat (by rw [List.length_map, htt.1]; omega)
      have htb : w2.tb.isEmpty = true := by rw [d2.1]; rfl
      have hz : (((0 : Nat) : Int) == 0) = true := rfl
      refine ⟨t.1.set u a, w4, ?_, by rw [List.length_set]; exact htt.1, htt.2.1.set h3 u, d4⟩
      rw [List.map_set]
      simp only [trialD, amts] at e2 hs
      rw [List.length_map] at hix
      simp only [mFun, startR, ess, es, ev, evs, evo, evc, evl, evi, sSeq, sNil, sRet, sExp, sAsg, sOwn, sIf, sFor, sRaise, sAug, sMut, sSet, sFrz, frzR, mVar, mCst, mBin, mUn, mAnd, mOr, mIf, mChn, mNil, mCons, mSeq, mLst, mLen, mOf, mSl, mNo, mPt, mCall, mPri, mBmt, mOix, mOcmp, mISeq, mIBi, bind_ok, bind_exc, bind_bad, toS_ok, toS_exc, toS_bad, nx_ok, ofB_bl, lift_some, lift_none, bindT_nm, bindT_tp, bindTs_nil, bindTs_cons, bop, bIMul, bAdd, bSub, dNeg, dNot, bLt, bLe, bGt, bGe, bIs, bIsn, isNon, dIx, dSl, isi_ii, isi_bi, isi_bb, isi_tt, isi_ll, dItems, List.map_cons, List.map_nil, List.length_cons, List.length_nil, List.cons_append, List.nil_append, Nat.sub_self, List.replicate_zero, List.replicate_succ, List.getElem?_cons_succ, List.getElem?_cons_zero, List.set_cons_zero, List.set_cons_succ, Option.bind_some, Option.map_some, if_true, Bool.true_and, Bool.and_true, Bool.and_self, Bool.not_true, Bool.not_false, Bool.false_eq_true, if_false, ite_true, ite_false, reduceCtorEq, n1, n2, beq_self_eq_true, e, big_0, e1, bEq_int, mCallO, e2, hs, decide_true, htb, trialD, amts, ix0, dOf, e3, e4, List.length_map, hix, hz]
    · have hz : ((v : Int) == 0) = false := by simp; omega
      refine ⟨as, w1, ?_, ha, hb, d1⟩
      simp only [mFun, startR, ess, es, ev, evs, evo, evc, evl, evi, sSeq, sNil, sRet, sExp, sAsg, sOwn, sIf, sFor, sRaise, sAug, sMut, sSet, sFrz, frzR, mVar, mCst, mBin, mUn, mAnd, mOr, mIf, mChn, mNil, mCons, mSeq, mLst, mLen, mOf, mSl, mNo, mPt, mCall, mPri, mBmt, mOix, mOcmp, mISeq, mIBi, bind_ok, bind_exc, bind_bad, toS_ok, toS_exc, toS_bad, nx_ok, ofB_bl, lift_some, lift_none, bindT_nm, bindT_tp, bindTs_nil, bindTs_cons, bop, bIMul, bAdd, bSub, dNeg, dNot, bLt, bLe, bGt, bGe, bIs, bIsn, isNon, dIx, dSl, isi_ii, isi_bi, isi_bb, isi_tt, isi_ll, dItems, List.map_cons, List.map_nil, List.length_cons, List.length_nil, List.cons_append, List.nil_append, Nat.sub_self, List.replicate_zero, List.replicate_succ, List.getElem?_cons_succ, List.getElem?_cons_zero, List.set_cons_zero, List.set_cons_succ, Option.bind_some, Option.map_some, if_true, Bool.true_and, Bool.and_true, Bool.and_self, Bool.not_true, Bool.not_false, Bool.false_eq_true, if_false, ite_true, ite_false, reduceCtorEq, n1, n2, beq_self_eq_true, e, big_0, e1, bEq_int, hz]
theorem ok_two {n : Nat} {x : Int × Int} (h : Ok n x) : Ok (n + 2) (low (x.1 * 2) x.2) := by
  have h2 : Ok 2 ((2 : Int), (1 : Int)) := ⟨⟨by decide, by decide, by decide⟩, by decide, by decide⟩
  have := h.mul h2
  simpa [mulQ] using this
include B hi hj hl hm hp in
theorem trials_loop {k : Nat} (k1 : 1 ≤ k) (k2 : k ≤ 3) (x2 : Sl) {r : Rule} (hr : RuleB 4 r) : ∀ (n : Nat) (z : Int) (ts : List Trial) (x5 x6 x7 x8 : Sl) (w : Wd), DW [] w → TI k ts → ts.length + n ≤ 8 → ∃ (ts' : List Trial) (w' : Wd) (y5 y6 y7 y8 : Sl), forGo (.nm 5) (ess T (.cons (.own 6 (.comp (.call m (.cons (.var 0) .nil)) (.nm 7) [7] (.rng (.cons (.var 1) .nil)) .no)) (.cons (.iff (.and (.ocmp .ne 4 (.lm (.disp .nil))) (.bin .eq (.call i (.cons (.var 0) (.cons (.cst (.int 2)) .nil))) (.cst (.int 0)))) (.cons (.own 6 (.of (.cons (.ix (.callO p false 4 (.var 0)) (.cst (.int 0))) .nil))) (.cons (.set 6 (.call i (.cons (.var 0) (.cons (.var 1) .nil))) (.call m (.cons (.var 0) .nil))) .nil)) .nil) (.cons (.frz 6 (.asg (.nm 8) (.call l (.cons (.var 3) (.cons (.var 6) .nil))))) (.cons (.frz 6 (.app 4 (.tup (.cons (.var 6) (.cons (.ite (.bin .eq (.call i (.cons (.var 0) (.cons (.cst (.int 12)) .nil))) (.cst (.int 0))) (.call j (.cons (.bin .mul (.ix (.var 8) (.cst (.int 0))) (.cst (.int 2))) (.cons (.ix (.var 8) (.cst (.int 1))) .nil))) (.var 8)) .nil))))) .nil))))) (iota z n) [.dat .drw, .dat (.int k), x2, .dat (ruleD r), .own (ts.map trialD), x5, x6, x7, x8] w = .next [.dat .drw, .dat (.int k), x2, .dat (ruleD r), .own (ts'.map trialD), y5, y6, y7, y8] w' ∧ TI k ts' ∧ ts'.length = ts.length + n ∧ DW [] w' := by
  intro n
  induction n with
  | zero => intro z ts x5 x6 x7 x8 w hw ht _; exact ⟨ts, w, x5, x6, x7, x8, rfl, ht, rfl, hw⟩
  | succ n ih =>
    intro z ts x5 x6 x7 x8 w hw ht hn
    obtain ⟨as, w1, e1, a1, a2, d1⟩ := trials_own T i m B hi hm k2 x2 (.dat (ruleD r)) (.own (ts.map trialD)) (.dat (.int z)) x6 x7 x8 w hw
    obtain ⟨bs, w2, e2, b1, b2, d2⟩ := trials_mid T i m p B hi hm hp k1 k2 x2 (.dat (ruleD r)) (.dat (.int z)) x7 x8 w1 d1 ts ht (by omega) as a1 a2
    have e3 := hl r bs 4 4 w2 hr.f hr.p b2 (by omega) (by omega)
    have hq := rateQ_ok hr.f hr.p b2
    obtain ⟨v, w3, e4, hv, d3⟩ := hi [] 12 w2 d2 (by omega) (by omega)
    have hlow := hj ((rateQ r bs).1 * 2) (rateQ r bs).2 w3 (by have := hq.am.1; omega) hq.am.2.1 (sm_lt (n := 50) (by have := hq.am.1; omega) (by have := hq.bd.1; simp at this ⊢; omega) (by omega) (by omega))
    have hstep : ∃ (s : Int × Int), Ok 48 s ∧ ess T (.cons (.frz 6 (.app 4 (.tup (.cons (.var 6) (.cons (.ite (.bin .eq (.call i (.cons (.var 0) (.cons (.cst (.int 12)) .nil))) (.cst (.int 0))) (.call j (.cons (.bin .mul (.ix (.var 8) (.cst (.int 0))) (.cst (.int 2))) (.cons (.ix (.var 8) (.cst (.int 1))) .nil))) (.var 8)) .nil))))) .nil) [.dat .drw, .dat (.int k), x2, .dat (ruleD r), .own (ts.map trialD), .dat (.int z), .dat (amts bs), x7, .dat (amt (rateQ r bs))] w2 = .next [.dat .drw, .dat (.int k), x2, .dat (ruleD r), .own ((ts ++ [(bs, s)]).map trialD), .dat (.int z), .dat (amts bs), x7, .dat (amt (rateQ r bs))] w3 := by
      have hlb : ts.length ≤ big := Nat.le_trans (show ts.length ≤ 8 by omega) (by decide)
      by_cases hv0 : v = 0
      · subst hv0
        have hz : (((0 : Nat) : Int) == 0) = true := rfl
        have m1 := hq.sm1 (by omega)
        have m2 : sm 2 = true := by decide
        simp only [amt] at hlow
        refine ⟨low ((rateQ r bs).1 * 2) (rateQ r bs).2, (ok_two hq).mono (by omega), ?_⟩
        simp only [mFun, startR, ess, es, ev, evs, evo, evc, evl, evi, sSeq, sNil, sRet, sExp, sAsg, sOwn, sIf, sFor, sRaise, sAug, sMut, sSet, sFrz, frzR, mVar, mCst, mBin, mUn, mAnd, mOr, mIf, mChn, mNil, mCons, mSeq, mLst, mLen, mOf, mSl, mNo, mPt, mCall, mPri, mBmt, mOix, mOcmp, mISeq, mIBi, bind_ok, bind_exc, bind_bad, toS_ok, toS_exc, toS_bad, nx_ok, ofB_bl, lift_some, lift_none, bindT_nm, bindT_tp, bindTs_nil, bindTs_cons, bop, bIMul, bAdd, bSub, dNeg, dNot, bLt, bLe, bGt, bGe, bIs, bIsn, isNon, dIx, dSl, isi_ii, isi_bi, isi_bb, isi_tt, isi_ll, dItems, List.map_cons, List.map_nil, List.length_cons, List.length_nil, List.cons_append, List.nil_append, Nat.sub_self, List.replicate_zero, List.replicate_succ, List.getElem?_cons_succ, List.getElem?_cons_zero, List.set_cons_zero, List.set_cons_succ, Option.bind_some, Option.map_some, if_true, Bool.true_and, Bool.and_true, Bool.and_self, Bool.not_true, Bool.not_false, Bool.false_eq_true, if_false, ite_true, ite_false, reduceCtorEq, n1, n2, beq_self_eq_true, e4, bEq_int, hz, amt, ix0, ix1, bMul_int m1 m2, hlow, big_2, fApp, List.length_map, hlb, List.map_append, trialD]
      · have hz : ((v : Int) == 0) = false := by simp; omega
        refine ⟨rateQ r bs, hq.mono (by omega), ?_⟩
        simp only [mFun, startR, ess, es, ev, evs, evo, evc, evl, evi, sSeq, sNil, sRet, sExp, sAsg, sOwn, sIf, sFor, sRaise, sAug, sMut, sSet, sFrz, frzR, mVar, mCst, mBin, mUn, mAnd, mOr, mIf, mChn, mNil, mCons, mSeq, mLst, mLen, mOf, mSl, mNo, mPt, mCall, mPri, mBmt, mOix, mOcmp, mISeq, mIBi, bind_ok, bind_exc, bind_bad, toS_ok, toS_exc, toS_bad, nx_ok, ofB_bl, lift_some, lift_none, bindT_nm, bindT_tp, bindTs_nil, bindTs_cons, bop, bIMul, bAdd, bSub, dNeg, dNot, bLt, bLe, bGt, bGe, bIs, bIsn, isNon, dIx, dSl, isi_ii, isi_bi, isi_bb, isi_tt, isi_ll, dItems, List.map_cons, List.map_nil, List.length_cons, List.length_nil, List.cons_append, List.nil_append, Nat.sub_self, List.replicate_zero, List.replicate_succ, List.getElem?_cons_succ, List.getElem?_cons_zero, List.set_cons_zero, List.set_cons_succ, Option.bind_some, Option.map_some, if_true, Bool.true_and, Bool.and_true, Bool.and_self, Bool.not_true, Bool.not_false, Bool.false_eq_true, if_false, ite_true, ite_false, reduceCtorEq, n1, n2, beq_self_eq_true, e4, bEq_int, hz, big_2, fApp, List.length_map, hlb, List.map_append, trialD]
    obtain ⟨s, hs, e5⟩ := hstep
    have ht' : TI k (ts ++ [(bs, s)]) := fun t mt => by
      rcases List.mem_append.1 mt with mt | mt
      · exact ht t mt
      · rw [List.mem_singleton.1 mt]
        exact ⟨b1, b2, hs⟩
    obtain ⟨ts', w', y5, y6, y7, y8, e6, h6, l6, d6⟩ := ih (z + 1) (ts ++ [(bs, s)]) (.dat (.int z)) (.dat (amts bs)) x7 (.dat (amt (rateQ r bs))) w3 d3 ht' (by simp; omega)
    refine ⟨ts', w', y5, y6, y7, y8, ?_, h6, by rw [l6]; simp; omega, d6⟩
    rw [iota]
    refine (for_go (r1 := [.dat .drw, .dat (.int k), x2, .dat (ruleD r), .own (ts.map trialD), .dat (.int z), x6, x7, x8]) (w2 := w3) (by simp only [mFun, startR, ess, es, ev, evs, evo, evc, evl, evi, sSeq, sNil, sRet, sExp, sAsg, sOwn, sIf, sFor, sRaise, sAug, sMut, sSet, sFrz, frzR, mVar, mCst, mBin, mUn, mAnd, mOr, mIf, mChn, mNil, mCons, mSeq, mLst, mLen, mOf, mSl, mNo, mPt, mCall, mPri, mBmt, mOix, mOcmp, mISeq, mIBi, bind_ok, bind_exc, bind_bad, toS_ok, toS_exc, toS_bad, nx_ok, ofB_bl, lift_some, lift_none, bindT_nm, bindT_tp, bindTs_nil, bindTs_cons, bop, bIMul, bAdd, bSub, dNeg, dNot, bLt, bLe, bGt, bGe, bIs, bIsn, isNon, dIx, dSl, isi_ii, isi_bi, isi_bb, isi_tt, isi_ll, dItems, List.map_cons, List.map_nil, List.length_cons, List.length_nil, List.cons_append, List.nil_append, Nat.sub_self, List.replicate_zero, List.replicate_succ, List.getElem?_cons_succ, List.getElem?_cons_zero, List.set_cons_zero, List.set_cons_succ, Option.bind_some, Option.map_some, if_true, Bool.true_and, Bool.and_true, Bool.and_self, Bool.not_true, Bool.not_false, Bool.false_eq_true, if_false, ite_true, ite_false, reduceCtorEq, n1, n2, beq_self_eq_true]) ?_).trans e6
    rw [ess]
    simp only [sSeq, e1]
    rw [ess]
    simp only [sSeq, e2]
    rw [ess]
    have q3 : es T (.frz 6 (.asg (.nm 8) (.call l (.cons (.var 3) (.cons (.var 6) .nil))))) [.dat .drw, .dat (.int k), x2, .dat (ruleD r), .own (ts.map trialD), .dat (.int z), .own (bs.map amt), x7, x8] w2 = .next [.dat .drw, .dat (.int k), x2, .dat (ruleD r), .own (ts.map trialD), .dat (.int z), .dat (amts bs), x7, .dat (amt (rateQ r bs))] w2 := by
      simp only [amts] at e3
      simp only [mFun, startR, ess, es, ev, evs, evo, evc, evl, evi, sSeq, sNil, sRet, sExp, sAsg, sOwn, sIf, sFor, sRaise, sAug, sMut, sSet, sFrz, frzR, mVar, mCst, mBin, mUn, mAnd, mOr, mIf, mChn, mNil, mCons, mSeq, mLst, mLen, mOf, mSl, mNo, mPt, mCall, mPri, mBmt, mOix, mOcmp, mISeq, mIBi, bind_ok, bind_exc, bind_bad, toS_ok, toS_exc, toS_bad, nx_ok, ofB_bl, lift_some, lift_none, bindT_nm, bindT_tp, bindTs_nil, bindTs_cons, bop, bIMul, bAdd, bSub, dNeg, dNot, bLt, bLe, bGt, bGe, bIs, bIsn, isNon, dIx, dSl, isi_ii, isi_bi, isi_bb, isi_tt, isi_ll, dItems, List.map_cons, List.map_nil, List.length_cons, List.length_nil, List.cons_append, List.nil_append, Nat.sub_self, List.replicate_zero, List.replicate_succ, List.getElem?_cons_succ, List.getElem?_cons_zero, List.set_cons_zero, List.set_cons_succ, Option.bind_some, Option.map_some, if_true, Bool.true_and, Bool.and_true, Bool.and_self, Bool.not_true, Bool.not_false, Bool.false_eq_true, if_false, ite_true, ite_false, reduceCtorEq, n1, n2, beq_self_eq_true, e3, amts]
    simp only [sSeq, q3]
    exact e5
end
def SpTrials (φ : MF) : Prop := ∀ (k most : Nat) w, DW [] w → 1 ≤ k → k ≤ 3 → 1 ≤ most → most ≤ 8 → ∃ (ts : List Trial) (w' : Wd), φ [.drw, .int k, .int most] w = .ok (trialsD ts) w' ∧ TI k ts ∧ 1 ≤ ts.length ∧ ts.length ≤ most ∧ DW [] w'
theorem sp_law_trials (T : Tab) (i j l m p q : Nat) (B : TB T) (hi : SpDraw (T.f i)) (hj : SpLowest (T.f j)) (hl : SpRateOf (T.f l)) (hm : SpAmount (T.f m)) (hp : SpPick (T.f p)) (hq : SpNew (T.f q)) : SpTrials (mFun 9 (ess T (b__law_trials i j l m p q))) := by
  intro k most w hw k1 k2 m1 m2
  obtain ⟨r, w1, e1, hr, hrl, d1⟩ := hq [] k w hw k1 k2
  obtain ⟨v, w2, e2, hv, d2⟩ := hi [] most w1 d1 (by omega) (by omega)
  obtain ⟨ts, w3, y5, y6, y7, y8, e3, h3, l3, d3⟩ := trials_loop T i j l m p B hi hj hl hm hp k1 k2 (.dat (.int most)) hr (1 + v) 0 [] .emp .emp .emp .emp w2 d2 (fun t mt => (List.not_mem_nil mt).elim) (by simp; omega)
  simp only [List.length_nil, Nat.zero_add] at l3
  refine ⟨ts, w3, fun_ret ?_, h3, by omega, by omega, d3⟩
  rw [b__law_trials, ess]
  have q1 : es T (.asg (.nm 3) (.call q (.cons (.var 0) (.cons (.var 1) .nil)))) (startR 9 [.drw, .int k, .int most]) w = .next [.dat .drw, .dat (.int k), .dat (.int most), .dat (ruleD r), .emp, .emp, .emp, .emp, .emp] w1 := by
    simp only [mFun, startR, ess, es, ev, evs, evo, evc, evl, evi, sSeq, sNil, sRet, sExp, sAsg, sOwn, sIf, sFor, sRaise, sAug, sMut, sSet, sFrz, frzR, mVar, mCst, mBin, mUn, mAnd, mOr, mIf, mChn, mNil, mCons, mSeq, mLst, mLen, mOf, mSl, mNo, mPt, mCall, mPri, mBmt, mOix, mOcmp, mISeq, mIBi, bind_ok, bind_exc, bind_bad, toS_ok, toS_exc, toS_bad, nx_ok, ofB_bl, lift_some, lift_none, bindT_nm, bindT_tp, bindTs_nil, bindTs_cons, bop, bIMul, bAdd, bSub, dNeg, dNot, bLt, bLe, bGt, bGe, bIs, bIsn, isNon, dIx, dSl, isi_ii, isi_bi, isi_bb, isi_tt, isi_ll, dItems, List.map_cons, List.map_nil, List.length_cons, List.length_nil, List.cons_append, List.nil_append, Nat.sub_self, List.replicate_zero, List.replicate_succ, List.getElem?_cons_succ, List.getElem?_cons_zero, List.set_cons_zero, List.set_cons_succ, Option.bind_some, Option.map_some, if_true, Bool.true_and, Bool.and_true, Bool.and_self, Bool.not_true, Bool.not_false, Bool.false_eq_true, if_false, ite_true, ite_false, reduceCtorEq, n1, n2, beq_self_eq_true, e1]
  simp only [sSeq, q1]
  rw [ess]
  have q2 : es T (.own 4 (.disp .nil)) [.dat .drw, .dat (.int k), .dat (.int most), .dat (ruleD r), .emp, .emp, .emp, .emp, .emp] w1 = .next [.dat .drw, .dat (.int k), .dat (.int most), .dat (ruleD r), .own [], .emp, .emp, .emp, .emp] w1 := by
    simp only [mFun, startR, ess, es, ev, evs, evo, evc, evl, evi, sSeq, sNil, sRet, sExp, sAsg, sOwn, sIf, sFor, sRaise, sAug, sMut, sSet, sFrz, frzR, mVar, mCst, mBin, mUn, mAnd, mOr, mIf, mChn, mNil, mCons, mSeq, mLst, mLen, mOf, mSl, mNo, mPt, mCall, mPri, mBmt, mOix, mOcmp, mISeq, mIBi, bind_ok, bind_exc, bind_bad, toS_ok, toS_exc, toS_bad, nx_ok, ofB_bl, lift_some, lift_none, bindT_nm, bindT_tp, bindTs_nil, bindTs_cons, bop, bIMul, bAdd, bSub, dNeg, dNot, bLt, bLe, bGt, bGe, bIs, bIsn, isNon, dIx, dSl, isi_ii, isi_bi, isi_bb, isi_tt, isi_ll, dItems, List.map_cons, List.map_nil, List.length_cons, List.length_nil, List.cons_append, List.nil_append, Nat.sub_self, List.replicate_zero, List.replicate_succ, List.getElem?_cons_succ, List.getElem?_cons_zero, List.set_cons_zero, List.set_cons_succ, Option.bind_some, Option.map_some, if_true, Bool.true_and, Bool.and_true, Bool.and_self, Bool.not_true, Bool.not_false, Bool.false_eq_true, if_false, ite_true, ite_false, reduceCtorEq, n1, n2, beq_self_eq_true, big_0]
  simp only [sSeq, q2]
  rw [ess]
  have hr : dRng [.int (1 + (v : Int))] = some (iota 0 (1 + v)) := by
    rw [rng_ok (by omega) (by omega), show (1 + (v : Int)).toNat = 1 + v by omega]
  rw [sSeq, es, sFor, evi, mIBi]
  have q3 : evs T (.cons (.bin .add (.cst (.int 1)) (.call i (.cons (.var 0) (.cons (.var 2) .nil)))) .nil) [.dat .drw, .dat (.int k), .dat (.int most), .dat (ruleD r), .own [], .emp, .emp, .emp, .emp] w1 = .ok [.int (1 + v)] w2 := by
    simp only [mFun, startR, ess, es, ev, evs, evo, evc, evl, evi, sSeq, sNil, sRet, sExp, sAsg, sOwn, sIf, sFor, sRaise, sAug, sMut, sSet, sFrz, frzR, mVar, mCst, mBin, mUn, mAnd, mOr, mIf, mChn, mNil, mCons, mSeq, mLst, mLen, mOf, mSl, mNo, mPt, mCall, mPri, mBmt, mOix, mOcmp, mISeq, mIBi, bind_ok, bind_exc, bind_bad, toS_ok, toS_exc, toS_bad, nx_ok, ofB_bl, lift_some, lift_none, bindT_nm, bindT_tp, bindTs_nil, bindTs_cons, bop, bIMul, bAdd, bSub, dNeg, dNot, bLt, bLe, bGt, bGe, bIs, bIsn, isNon, dIx, dSl, isi_ii, isi_bi, isi_bb, isi_tt, isi_ll, dItems, List.map_cons, List.map_nil, List.length_cons, List.length_nil, List.cons_append, List.nil_append, Nat.sub_self, List.replicate_zero, List.replicate_succ, List.getElem?_cons_succ, List.getElem?_cons_zero, List.set_cons_zero, List.set_cons_succ, Option.bind_some, Option.map_some, if_true, Bool.true_and, Bool.and_true, Bool.and_self, Bool.not_true, Bool.not_false, Bool.false_eq_true, if_false, ite_true, ite_false, reduceCtorEq, n1, n2, beq_self_eq_true, e2]
  rw [List.map_nil] at e3
  simp only [sSeq, q3, bind_ok, hr, lift_some, toS_ok, e3]
  simp only [mFun, startR, ess, es, ev, evs, evo, evc, evl, evi, sSeq, sNil, sRet, sExp, sAsg, sOwn, sIf, sFor, sRaise, sAug, sMut, sSet, sFrz, frzR, mVar, mCst, mBin, mUn, mAnd, mOr, mIf, mChn, mNil, mCons, mSeq, mLst, mLen, mOf, mSl, mNo, mPt, mCall, mPri, mBmt, mOix, mOcmp, mISeq, mIBi, bind_ok, bind_exc, bind_bad, toS_ok, toS_exc, toS_bad, nx_ok, ofB_bl, lift_some, lift_none, bindT_nm, bindT_tp, bindTs_nil, bindTs_cons, bop, bIMul, bAdd, bSub, dNeg, dNot, bLt, bLe, bGt, bGe, bIs, bIsn, isNon, dIx, dSl, isi_ii, isi_bi, isi_bb, isi_tt, isi_ll, dItems, List.map_cons, List.map_nil, List.length_cons, List.length_nil, List.cons_append, List.nil_append, Nat.sub_self, List.replicate_zero, List.replicate_succ, List.getElem?_cons_succ, List.getElem?_cons_zero, List.set_cons_zero, List.set_cons_succ, Option.bind_some, Option.map_some, if_true, Bool.true_and, Bool.and_true, Bool.and_self, Bool.not_true, Bool.not_false, Bool.false_eq_true, if_false, ite_true, ite_false, reduceCtorEq, n1, n2, beq_self_eq_true, trialsD]
end RL

namespace RL
open PySem L2
def Wins (T : Tab) (ss : Ss) (r : Rho) (w : Wd) : Prop := ∃ w', ess T ss r w = .ret (.bl true) w'
theorem step {T : Tab} {s : S} {ss : Ss} {r r' : Rho} {w w' : Wd} (h : es T s r w = .next r' w') (k : Wins T ss r' w') : Wins T (.cons s ss) r w := by
  obtain ⟨u, k⟩ := k
  refine ⟨u, ?_⟩
  rw [ess, sSeq, h]
  exact k
theorem stay {T : Tab} {s : S} {ss : Ss} {r : Rho} {w : Wd} (h : es T s r w = .next r w) (k : Wins T ss r w) : Wins T (.cons s ss) r w := step h k
theorem last {T : Tab} {s : S} {r : Rho} {w w' : Wd} (h : es T s r w = .ret (.bl true) w') : Wins T (.cons s .nil) r w := by
  refine ⟨w', ?_⟩
  rw [ess, sSeq, h]
/-! ### parts of lists -/
theorem cut_init (xs : List D) : cutD xs none (some (-1)) = xs.take (xs.length - 1) := by
  unfold cutD HT.sIx
  simp
  congr 1
  omega
theorem cut_last (xs : List D) : cutD xs (some (-1)) none = xs.drop (xs.length - 1) := by
  unfold cutD HT.sIx
  simp
  rw [List.take_of_length_le]
  · congr 1
    omega
  · rw [List.length_drop]
    omega
theorem bads_nil (r : Rule) (ts : List Trial) : decide (bads r ts = []) = ts.all (keeps r) := by
  by_cases h : ts.all (keeps r) = true
  · rw [h]
    refine decide_eq_true ?_
    unfold bads
    rw [List.map_eq_nil_iff, List.filter_eq_nil_iff]
    intro k hk
    have hk := List.mem_range.1 hk
    rw [List.all_eq_true.1 h _ (getD_mem hk)]
    simp
  · have h' : ts.all (keeps r) = false := by simpa using h
    rw [h']
    refine decide_eq_false fun e => h (List.all_eq_true.2 fun t mt => ?_)
    unfold bads at e
    rw [List.map_eq_nil_iff, List.filter_eq_nil_iff] at e
    obtain ⟨k, hk, rfl⟩ := List.getElem_of_mem mt
    have := e k (List.mem_range.2 hk)
    simpa [List.getD, hk] using this
/-! ### powers of products -/
theorem sel_am {e : Int} {a : Int × Int} (h : Am a) : Am (sel e a) := by
  unfold sel
  split
  · exact h
  · exact invQ_am h
theorem sel_mulQ {e : Int} {a x : Int × Int} (ha : Am a) (hx : Am x) : sel e (mulQ a x) = mulQ (sel e a) (sel e x) := by
  unfold sel
  split
  · rfl
  · have h1 := (ha.is.mul hx.is).inv
    have h2 := ha.is.inv.mul hx.is.inv
    exact h1.eq h2 rfl
theorem powN_mulQ {a x : Int × Int} (ha : Am a) (hx : Am x) : ∀ k, powN (mulQ a x) k = mulQ (powN a k) (powN x k)
  | 0 => by
    have e : ∀ y : Int × Int, powN y 0 = (1, 1) := fun y => by simp [powN]
    rw [e, e, e, one_mulQ one_am]
  | k + 1 => by
    have hax := mulQ_am ha hx
    rw [← powN_succ hax, ← powN_succ ha, ← powN_succ hx, powN_mulQ ha hx k]
    have h1 := powN_am ha k
    have h2 := powN_am hx k
    exact ((h1.is.mul h2.is).mul (ha.is.mul hx.is)).eq ((h1.is.mul ha.is).mul (h2.is.mul hx.is)) (by ac_rfl)
theorem powQ_mulQ {a x : Int × Int} (ha : Am a) (hx : Am x) (e : Int) : powQ (mulQ a x) e = mulQ (powQ a e) (powQ x e) := by
  rw [powQ_sel, powQ_sel, powQ_sel, sel_mulQ ha hx, powN_mulQ (sel_am ha) (sel_am hx)]
theorem powQ_one (e : Int) : powQ (1, 1) e = (1, 1) := by
  rw [powQ_sel]
  have : sel e (1, 1) = (1, 1) := by unfold sel; split <;> rfl
  rw [this]
  simp [powN, Int.one_pow]
theorem powQ_zero (a : Int × Int) : powQ a 0 = (1, 1) := by simp [powQ, powN]
theorem prodGo_zero : ∀ (k : Nat) (as : List (Int × Int)) {acc : Int × Int}, Am acc → prodGo acc (List.replicate k 0) as = acc
  | 0, as, acc, h => by simp [prodGo]
  | k + 1, [], acc, h => by simp [List.replicate_succ, prodGo]
  | k + 1, a :: as, acc, h => by rw [List.replicate_succ, prodGo, powQ_zero, mulQ_one h, prodGo_zero k as h]
theorem rateQ_zero {r : Int × Int} (h : Am r) (k : Nat) (as : List (Int × Int)) : rateQ (r, List.replicate k 0) as = r := by
  unfold rateQ prodQ
  rw [prodGo_zero k as one_am, mulQ_one h]
theorem prodGo_set : ∀ (q : Nat) (ps : List Int) (as : List (Int × Int)) (x acc : Int × Int), Am acc → Ams as → Am x → q < as.length → q < ps.length → prodGo acc ps (as.set q (mulQ (as.getD q default) x)) = mulQ (prodGo acc ps as) (powQ x (ps.getD q 0))
  | _, [], as, x, acc, _, _, _, _, h => by simp at h
  | _, p :: ps, [], x, acc, _, _, _, h, _ => by simp at h
  | 0, p :: ps, a :: as, x, acc, hc, h, hx, _, _ => by
    have ha := h a List.mem_cons_self
    have h' : Ams as := fun y m => h y (List.mem_cons_of_mem _ m)
    have h1 := powQ_am ha p
    have h2 := powQ_am hx p
    have h3 := prodGo_am ps one_am h'
    simp only [List.set_cons_zero, List.getD_cons_zero, prodGo]
    rw [powQ_mulQ ha hx, prodGo_acc ps (mulQ_am hc (mulQ_am h1 h2)) h', prodGo_acc ps (mulQ_am hc h1) h']
    exact ((hc.is.mul (h1.is.mul h2.is)).mul h3.is).eq (((hc.is.mul h1.is).mul h3.is).mul h2.is) (by ac_rfl)
  | q + 1, p :: ps, a :: as, x, acc, hc, h, hx, l1, l2 => by
    have ha := h a List.mem_cons_self
    simp only [List.set_cons_succ, List.getD_cons_succ, prodGo]
    exact prodGo_set q ps as x _ (mulQ_am hc (powQ_am ha p)) (fun y m => h y (List.mem_cons_of_mem _ m)) hx (by simpa using l1) (by simpa using l2)
theorem Ams.set {xs : List (Int × Int)} (h : Ams xs) {x : Int × Int} (hx : Am x) (j : Nat) : Ams (xs.set j x) := fun y m => by
  rcases List.mem_or_eq_of_mem_set m with m | rfl
  · exact h y m
  · exact hx
theorem getD_am {xs : List (Int × Int)} (h : Ams xs) {q : Nat} (hq : q < xs.length) : Am (xs.getD q default) := h _ (getD_mem hq)
theorem rateQ_set {r : Rule} {as : List (Int × Int)} {x : Int × Int} {q : Nat} (hr : Am r.1) (ha : Ams as) (hx : Am x) (h1 : q < as.length) (h2 : q < r.2.length) : rateQ r (as.set q (mulQ (as.getD q default) x)) = mulQ (rateQ r as) (powQ x (r.2.getD q 0)) := by
  rw [rateQ_go hr (ha.set (mulQ_am (getD_am ha h1) hx) q), rateQ_go hr ha]
  exact prodGo_set q r.2 as x r.1 hr ha hx h1 h2
theorem TI.b {k : Nat} {ts : List Trial} (h : TI k ts) (k1 : 1 ≤ k) (k2 : k ≤ 3) (l1 : 1 ≤ ts.length) (l2 : ts.length ≤ 8) : TrialsB k 500 ts :=
  ⟨⟨l1, l2, k1, k2, fun t m => (h t m).1, fun t m => ⟨(h t m).2.1.am, (h t m).2.2.am⟩⟩, fun t m => ⟨fun x mx => ((h t m).2.1 x mx).mono (by omega), (h t m).2.2.mono (by omega)⟩⟩
theorem Oks.mono {n m : Nat} {xs : List (Int × Int)} (h : Oks n xs) (k : n ≤ m) : Oks m xs := fun x q => (h x q).mono k
theorem RuleB.mono {n m : Nat} {r : Rule} (h : RuleB n r) (k : n ≤ m) : RuleB m r := ⟨h.f.mono k, h.p, h.l⟩
end RL

namespace RL
open PySem L2
/-! ### what is meant stays folded -/
theorem fold_amt (a b : Int) : D.tup [.int a, .int b] = amt (a, b) := rfl
theorem fold_rule (a : Int × Int) (ps : List Int) : D.tup [amt a, .lst (ps.map .int)] = ruleD (a, ps) := rfl
theorem fold_trial (a : List (Int × Int)) (b : Int × Int) : D.tup [.lst (a.map amt), amt b] = trialD (a, b) := rfl
theorem ix_amt0 (x : Int × Int) : dIx (amt x) (.int 0) = some (.int x.1) := rfl
theorem ix_amt1 (x : Int × Int) : dIx (amt x) (.int 1) = some (.int x.2) := rfl
theorem ix_rule0 (r : Rule) : dIx (ruleD r) (.int 0) = some (amt r.1) := rfl
theorem ix_rule1 (r : Rule) : dIx (ruleD r) (.int 1) = some (.lst (r.2.map .int)) := rfl
theorem ix_trial0 (t : Trial) : dIx (trialD t) (.int 0) = some (.lst (t.1.map amt)) := rfl
theorem ix_trial1 (t : Trial) : dIx (trialD t) (.int 1) = some (amt t.2) := rfl
theorem bindT_amt (a b : Tg) (x : Int × Int) (r : Rho) : bindT (.tp (.cons a (.cons b .nil))) (amt x) r = (bindT a (.int x.1) r).bind fun r1 => bindT b (.int x.2) r1 := by
  simp only [amt, bindT_tp, bindTs_cons, bindTs_nil, Option.bind_some]
  cases bindT a (.int x.1) r with
  | none => rfl
  | some r1 =>
    simp only [Option.bind_some]
    cases bindT b (.int x.2) r1 <;> rfl
theorem bindT_pair (a b : Tg) (x y : D) (r : Rho) : bindT (.tp (.cons a (.cons b .nil))) (.tup [x, y]) r = (bindT a x r).bind fun r1 => bindT b y r1 := by
  simp only [bindT_tp, bindTs_cons, bindTs_nil, Option.bind_some]
  cases bindT a x r with
  | none => rfl
  | some r1 =>
    simp only [Option.bind_some]
    cases bindT b y r1 <;> rfl
theorem bindT_rule (a b : Tg) (x : Rule) (r : Rho) : bindT (.tp (.cons a (.cons b .nil))) (ruleD x) r = (bindT a (amt x.1) r).bind fun r1 => bindT b (.lst (x.2.map .int)) r1 := bindT_pair a b _ _ r
theorem bindT_trial (a b : Tg) (x : Trial) (r : Rho) : bindT (.tp (.cons a (.cons b .nil))) (trialD x) r = (bindT a (.lst (x.1.map amt)) r).bind fun r1 => bindT b (amt x.2) r1 := bindT_pair a b _ _ r
theorem dIx_l (xs : List D) (i : Int) : dIx (.lst xs) (.int i) = atI xs i := rfl
theorem dIx_t (xs : List D) (i : Int) : dIx (.tup xs) (.int i) = atI xs i := rfl
theorem bAdd_int (a b : Int) : bAdd (.int a) (.int b) = some (.int (a + b)) := rfl
theorem bSub_int (a b : Int) : bSub (.int a) (.int b) = some (.int (a - b)) := rfl
theorem dNeg_int (a : Int) : dNeg (.int a) = some (.int (-a)) := rfl
theorem dNot_bl (a : Bool) : dNot (.bl a) = some (.bl (!a)) := rfl
theorem bLt_int (a b : Int) : bLt (.int a) (.int b) = some (.bl (decide (a < b))) := rfl
theorem bLe_int (a b : Int) : bLe (.int a) (.int b) = some (.bl (decide (a ≤ b))) := rfl
theorem bGt_int (a b : Int) : bGt (.int a) (.int b) = some (.bl (decide (b < a))) := rfl
theorem bGe_int (a b : Int) : bGe (.int a) (.int b) = some (.bl (decide (b ≤ a))) := rfl
theorem bIs_non (d : D) : bIs d .non = some (.bl (isNon d)) := by cases d <;> rfl
theorem bIsn_non (d : D) : bIsn d .non = some (.bl (!isNon d)) := by cases d <;> rfl
theorem bIs_bl (a b : Bool) : bIs (.bl a) (.bl b) = some (.bl (decide (a = b))) := rfl
theorem bIsn_bl (a b : Bool) : bIsn (.bl a) (.bl b) = some (.bl (!decide (a = b))) := rfl
theorem non_non : isNon .non = true := rfl
theorem non_int (a : Int) : isNon (.int a) = false := rfl
theorem non_str (a : Str) : isNon (.str a) = false := rfl
theorem non_lst (a : List D) : isNon (.lst a) = false := rfl
theorem non_exc (a : Nat) : isNon (.exc a) = false := rfl
theorem non_amt (a : Int × Int) : isNon (amt a) = false := rfl
theorem non_rule (a : Rule) : isNon (ruleD a) = false := rfl
theorem non_trial (a : Trial) : isNon (trialD a) = false := rfl
theorem items_l (xs : List D) : dItems (.lst xs) = some xs := rfl
theorem items_t (xs : List D) : dItems (.tup xs) = some xs := rfl
theorem dSl_l (xs : List D) (a b : Option Int) : dSl (.lst xs) a b = some (.lst (cutD xs a b)) := rfl
theorem dOf_1 (d : D) : dOf [d] = dItems d := rfl
theorem bIMul_int {a b : Int} (h : sm a = true) (k : sm b = true) : bIMul (.int a) (.int b) = some (.int (a * b)) := by
  show (if (sm a && sm b) = true then _ else _) = _
  rw [h, k]
  rfl
theorem zip_l (xs ys : List D) : dZip [.lst xs, .lst ys] = some (zipD xs ys) := rfl
theorem enm_l (xs : List D) : dEnum [.lst xs] = some (enumD 0 xs) := rfl
theorem len_lst' {xs : List D} : dLen [.lst xs] = some (.int xs.length) := rfl
theorem bEq_rule (a b : Rule) : bEq (ruleD a) (ruleD b) = some (.bl (decide (a = b))) := (en_rule 10).beq a b
theorem bNe_rule (a b : Rule) : bNe (ruleD a) (ruleD b) = some (.bl (!decide (a = b))) := (en_rule 10).bne a b
theorem bEq_trial (a b : Trial) : bEq (trialD a) (trialD b) = some (.bl (decide (a = b))) := (en_trial 9).beq a b
theorem bEq_amts (a b : List (Int × Int)) : bEq (.lst (a.map amt)) (.lst (b.map amt)) = some (.bl (decide (a = b))) := (en_amts 10).beq a b
theorem bNe_amts (a b : List (Int × Int)) : bNe (.lst (a.map amt)) (.lst (b.map amt)) = some (.bl (!decide (a = b))) := (en_amts 10).bne a b
theorem bEq_trials (a b : List Trial) : bEq (.lst (a.map trialD)) (.lst (b.map trialD)) = some (.bl (decide (a = b))) := (en_trials 8).beq a b
theorem bNe_trials (a b : List Trial) : bNe (.lst (a.map trialD)) (.lst (b.map trialD)) = some (.bl (!decide (a = b))) := (en_trials 8).bne a b
theorem atI_ints {xs : List Int} {k : Nat} (h : k < xs.length) : atI (xs.map D.int) (k : Int) = some (.int (xs.getD k 0)) := atI_map h
theorem atI_amts {xs : List (Int × Int)} {k : Nat} (h : k < xs.length) : atI (xs.map amt) (k : Int) = some (amt (xs.getD k default)) := atI_map h
theorem atI_trials {xs : List Trial} {k : Nat} (h : k < xs.length) : atI (xs.map trialD) (k : Int) = some (trialD (xs.getD k default)) := atI_map h
theorem zip_map {α β : Type} {f : α → D} {g : β → D} : ∀ (xs : List α) (ys : List β), zipD (xs.map f) (ys.map g) = (xs.zip ys).map fun p => D.tup [f p.1, g p.2]
  | [], _ => by simp [zipD]
  | _ :: _, [] => by simp [zipD]
  | x :: xs, y :: ys => by
    rw [List.map_cons, List.map_cons, zipD, zip_map xs ys, List.zip_cons_cons, List.map_cons]
theorem cut_take {α : Type} {f : α → D} (xs : List α) {k : Nat} (h : k ≤ xs.length) : cutD (xs.map f) none (some (k : Int)) = (xs.take k).map f := by
  have e : HT.sIx (xs.map f).length (xs.map f).length (some (k : Int)) = k := by
    unfold HT.sIx
    simp only [List.length_map]
    rw [if_neg (by omega)]
    simp
    omega
  have e0 : HT.sIx (xs.map f).length 0 none = 0 := rfl
  unfold cutD
  rw [e, e0, List.map_take, List.drop_zero, Nat.sub_zero]
theorem cut_drop {α : Type} {f : α → D} (xs : List α) {k : Nat} (h : k ≤ xs.length) : cutD (xs.map f) (some (k : Int)) none = (xs.drop k).map f := by
  have e : HT.sIx (xs.map f).length 0 (some (k : Int)) = k := by
    unfold HT.sIx
    simp only [List.length_map]
    rw [if_neg (by omega)]
    simp
    omega
  have e0 : HT.sIx (xs.map f).length (xs.map f).length none = (xs.map f).length := rfl
  unfold cutD
  rw [e, e0, List.map_drop, List.take_of_length_le (by simp)]
theorem cut_drop1 {α : Type} {f : α → D} (xs : List α) {k : Nat} (h : k < xs.length) : cutD (xs.map f) (some ((k : Int) + 1)) none = (xs.drop (k + 1)).map f := by
  have := cut_drop (f := f) xs (k := k + 1) h
  exact_mod_cast this
theorem bAdd_map {α : Type} {f : α → D} (xs ys : List α) (h : xs.length + ys.length ≤ big) : bAdd (.lst (xs.map f)) (.lst (ys.map f)) = some (.lst ((xs ++ ys).map f)) := by
  show (if (xs.map f).length + (ys.map f).length ≤ big then some (D.lst (xs.map f ++ ys.map f)) else none) = _
  rw [List.length_map, List.length_map, if_pos h, List.map_append]
theorem rep_map {α : Type} {f : α → D} (a : α) (n : Nat) (h : n ≤ big) : bMul (.lst [f a]) (.int (n : Int)) = some (.lst ((List.replicate n a).map f)) := by
  have h1 : (0 : Int) ≤ (n : Int) := by omega
  have h2 : (n : Int) ≤ (big : Int) := by omega
  have h3 : [f a].length * (n : Int).toNat ≤ big := by simp; exact h
  show (if (decide (0 ≤ (n : Int)) && decide ((n : Int) ≤ big) && decide ([f a].length * (n : Int).toNat ≤ big)) = true then some (D.lst (List.replicate (n : Int).toNat [f a]).flatten) else none) = _
  rw [decide_eq_true h1, decide_eq_true h2, decide_eq_true h3]
  simp
theorem rng_n {n : Nat} (h : n ≤ 1000000) : dRng [.int (n : Int)] = some (iota 0 n) := by
  rw [rng_ok (by omega) (by omega)]
  rfl
theorem bMul_ok {a b : Int} (h : sm a = true) (k : sm b = true) : bMul (.int a) (.int b) = some (.int (a * b)) := bMul_int h k
/-! ### statements one by one -/
def Wp (T : Tab) (ss : Ss) (r : Rho) (w : Wd) (P : RS → Prop) : Prop := P (ess T ss r w)
/-- what is wanted behind a part -/
def Thn (T : Tab) (ss : Ss) (P : RS → Prop) : RS → Prop
  | .next r w => Wp T ss r w P
  | x => P x
section
variable {T : Tab} {s : S} {a b ss : Ss} {r r' : Rho} {w w' : Wd} {P : RS → Prop}
theorem Wp.nil (h : P (.next r w)) : Wp T .nil r w P := by
  unfold Wp
  rw [ess]
  exact h
theorem Wp.thn (h : Thn T ss P (es T s r w)) : Wp T (.cons s ss) r w P := by
  unfold Wp
  rw [ess, sSeq]
  revert h
  cases es T s r w <;> exact fun h => h
theorem Wp.step (h : es T s r w = .next r' w') (k : Wp T ss r' w' P) : Wp T (.cons s ss) r w P := Wp.thn (by rw [h]; exact k)
theorem Wp.stay (h : es T s r w = .next r w) (k : Wp T ss r w P) : Wp T (.cons s ss) r w P := Wp.step h k
theorem Wp.ret {d : D} (h : es T s r w = .ret d w') (k : P (.ret d w')) : Wp T (.cons s ss) r w P := Wp.thn (by rw [h]; exact k)
theorem Wp.exc {j : Nat} (h : es T s r w = .exc j r' w') (k : P (.exc j r' w')) : Wp T (.cons s ss) r w P := Wp.thn (by rw [h]; exact k)
theorem Wp.app (h : Wp T a r w (Thn T ss P)) : Thn T ss P (ess T a r w) := h
theorem Wp.iff {t : E} {c : Bool} (h : ev T t r w = .ok (.bl c) w') (k1 : c = true → Wp T a r w' (Thn T ss P)) (k2 : c = false → Wp T b r w' (Thn T ss P)) : Wp T (.cons (.iff t a b) ss) r w P := by
  refine Wp.thn ?_
  rw [es, sIf, h]
  simp only [ofB_bl, toS_ok]
  cases c with
  | true => exact k1 rfl
  | false => exact k2 rfl
theorem es_iff {t : E} {c : Bool} {R : RS} (h : ev T t r w = .ok (.bl c) w') (k1 : c = true → ess T a r w' = R) (k2 : c = false → ess T b r w' = R) : es T (.iff t a b) r w = R := by
  rw [es, sIf, h]
  simp only [ofB_bl, toS_ok]
  cases c with
  | true => exact k1 rfl
  | false => exact k2 rfl
/-- the test fails, there is nothing else -/
theorem Wp.iff0 {t : E} (h : ev T t r w = .ok (.bl false) w') (k : Wp T ss r w' P) : Wp T (.cons (.iff t a .nil) ss) r w P :=
  Wp.iff h (fun e => by cases e) fun _ => Wp.nil k
theorem Wp.for' {A : Type} {enc : A → D} {xs : List A} {t : Tg} {it : I} (J : List A → Rho → Wd → Prop) (hi : evi T it r w = .ok (xs.map enc) w') (h0 : J xs r w')
    (hb : ∀ x xs r w, J (x :: xs) r w → ∃ r1 r2 w2, bindT t (enc x) r = some r1 ∧ ess T b r1 w = .next r2 w2 ∧ J xs r2 w2) (k : ∀ r w, J [] r w → Wp T ss r w P) : Wp T (.cons (.for' t it b) ss) r w P := by
  refine Wp.thn ?_
  rw [es, sFor, hi, toS_ok]
  have go : ∀ (xs : List A) (r : Rho) (w : Wd), J xs r w → ∃ r' w', forGo t (ess T b) (xs.map enc) r w = .next r' w' ∧ J [] r' w' := by
    intro xs
    induction xs with
    | nil => exact fun r w h => ⟨r, w, rfl, h⟩
    | cons x xs ih =>
      intro r w h
      obtain ⟨r1, r2, w2, e1, e2, h2⟩ := hb x xs r w h
      obtain ⟨r3, w3, e3, h3⟩ := ih r2 w2 h2
      refine ⟨r3, w3, ?_, h3⟩
      rw [List.map_cons]
      exact (for_go e1 e2).trans e3
  obtain ⟨r3, w3, e3, h3⟩ := go xs r w' h0
  rw [e3]
  exact k r3 w3 h3
theorem set2_ok {i k' l' : Nat} {a b e : E} {xs : List D} {u v : D} {k l : Int} (hr : r[i]? = some (.own xs)) (he : ev T e r w = .ok (.tup [u, v]) w) (ha : ev T a r w = .ok (.int k) w) (hk : ixN xs.length k = some k') (hb : ev T b (r.set i (.own (xs.set k' u))) w = .ok (.int l) w) (hl : ixN xs.length l = some l') :
    es T (.set2 i a b e) r w = .next ((r.set i (.own (xs.set k' u))).set i (.own ((xs.set k' u).set l' v))) w := by
  rw [es, sSet2, hr]
  simp only [he, toS_ok, ha, hk, hb, hl]
theorem fun_wp {n : Nat} {ds : List D} {d : D} (h : Wp T ss (startR n ds) w (· = .ret d w')) : mFun n (ess T ss) ds w = .ok d w' := fun_ret h
theorem fun_wx {n : Nat} {ds : List D} {j : Nat} (h : Wp T ss (startR n ds) w fun x => ∃ r, x = .exc j r w') : mFun n (ess T ss) ds w = .exc j w' := by
  obtain ⟨r, h⟩ := h
  exact fun_exc h
theorem wins_wp (h : Wp T ss r w fun x => ∃ w', x = .ret (.bl true) w') : Wins T ss r w := h
theorem wp_wins (h : Wins T ss r w) : Wp T ss r w fun x => ∃ w', x = .ret (.bl true) w' := h
end
end RL

namespace RL
open PySem L2
/-! ### rules changed -/
def dropAt {α : Type} (k : Nat) (xs : List α) : List α := xs.take k ++ xs.drop (k + 1)
def swapL {α : Type} (d : α) (a b : Nat) (xs : List α) : List α := (xs.set a (xs.getD b d)).set b (xs.getD a d)
def addP (ps qs : List Int) : List Int := List.zipWith (· + ·) ps qs
theorem put_set {α : Type} {xs : List α} {k : Nat} (x : α) (h : k < xs.length) : xs.take k ++ [x] ++ xs.drop (k + 1) = xs.set k x := by
  rw [List.set_eq_take_append_cons_drop, if_pos h]
  simp
theorem prodGo_fold : ∀ (ps : List Int) (as : List (Int × Int)) (acc : Int × Int), prodGo acc ps as = (ps.zip as).foldl (fun a p => mulQ a (powQ p.2 p.1)) acc
  | [], as, acc => by simp [prodGo]
  | p :: ps, [], acc => by simp [prodGo]
  | p :: ps, a :: as, acc => by rw [prodGo, prodGo_fold ps as, List.zip_cons_cons, List.foldl_cons]
def SpChecked (φ : MF) : Prop := ∀ r w, Am r.1 → 1 ≤ r.2.length → r.2.length ≤ 3 → φ [ruleD r] w = if r.2.all pwB then .ok (ruleD r) w else .exc 0 w
theorem sp_checked (T : Tab) (i : Nat) (hi : SpIsRule (T.f i)) : SpChecked (mFun 1 (ess T (b_checked i))) := by
  intro r w h1 h2 h3
  have e := hi r w h1 h2 h3
  cases hq : r.2.all pwB with
  | true =>
    rw [hq] at e
    refine fun_ret ?_
    simp only [b_checked, mFun, startR, ess, es, ev, evs, evo, evc, evl, evi, sSeq, sNil, sRet, sExp, sAsg, sOwn, sIf, sFor, sRaise, sAug, sMut, sSet, sFrz, frzR, mVar, mCst, mBin, mUn, mAnd, mOr, mIf, mChn, mNil, mCons, mSeq, mLst, mLen, mOf, mSl, mNo, mPt, mCall, mPri, mBmt, mOix, mOcmp, mISeq, mIBi, bind_ok, bind_exc, bind_bad, toS_ok, toS_exc, toS_bad, nx_ok, ofB_bl, lift_some, lift_none, bindT_nm, bindT_tp, bindTs_nil, bindTs_cons, bop, isi_ii, isi_bi, isi_bb, isi_tt, isi_ll, List.map_cons, List.map_nil, List.length_cons, List.length_nil, List.cons_append, List.nil_append, Nat.sub_self, List.replicate_zero, List.replicate_succ, List.getElem?_cons_succ, List.getElem?_cons_zero, List.set_cons_zero, List.set_cons_succ, Option.bind_some, Option.map_some, if_true, Bool.true_and, Bool.and_true, Bool.and_self, Bool.not_true, Bool.not_false, Bool.false_eq_true, if_false, ite_true, ite_false, reduceCtorEq, n1, n2, beq_self_eq_true, dIx_l, dIx_t, bAdd_int, bSub_int, dNeg_int, dNot_bl, bLt_int, bLe_int, bGt_int, bGe_int, bIs_non, bIsn_non, bIs_bl, bIsn_bl, non_non, non_int, non_str, non_lst, non_exc, non_amt, non_rule, non_trial, items_l, items_t, dSl_l, dOf_1, zip_l, enm_l, bEq_int, bNe_int, fold_amt, fold_rule, fold_trial, ix_amt0, ix_amt1, ix_rule0, ix_rule1, ix_trial0, ix_trial1, bindT_amt, bindT_rule, bindT_trial, List.length_map, big_0, big_1, big_2, big_3, e]
  | false =>
    rw [hq] at e
    refine fun_exc (r := [.dat (ruleD r)]) ?_
    simp only [b_checked, mFun, startR, ess, es, ev, evs, evo, evc, evl, evi, sSeq, sNil, sRet, sExp, sAsg, sOwn, sIf, sFor, sRaise, sAug, sMut, sSet, sFrz, frzR, mVar, mCst, mBin, mUn, mAnd, mOr, mIf, mChn, mNil, mCons, mSeq, mLst, mLen, mOf, mSl, mNo, mPt, mCall, mPri, mBmt, mOix, mOcmp, mISeq, mIBi, bind_ok, bind_exc, bind_bad, toS_ok, toS_exc, toS_bad, nx_ok, ofB_bl, lift_some, lift_none, bindT_nm, bindT_tp, bindTs_nil, bindTs_cons, bop, isi_ii, isi_bi, isi_bb, isi_tt, isi_ll, List.map_cons, List.map_nil, List.length_cons, List.length_nil, List.cons_append, List.nil_append, Nat.sub_self, List.replicate_zero, List.replicate_succ, List.getElem?_cons_succ, List.getElem?_cons_zero, List.set_cons_zero, List.set_cons_succ, Option.bind_some, Option.map_some, if_true, Bool.true_and, Bool.and_true, Bool.and_self, Bool.not_true, Bool.not_false, Bool.false_eq_true, if_false, ite_true, ite_false, reduceCtorEq, n1, n2, beq_self_eq_true, dIx_l, dIx_t, bAdd_int, bSub_int, dNeg_int, dNot_bl, bLt_int, bLe_int, bGt_int, bGe_int, bIs_non, bIsn_non, bIs_bl, bIsn_bl, non_non, non_int, non_str, non_lst, non_exc, non_amt, non_rule, non_trial, items_l, items_t, dSl_l, dOf_1, zip_l, enm_l, bEq_int, bNe_int, fold_amt, fold_rule, fold_trial, ix_amt0, ix_amt1, ix_rule0, ix_rule1, ix_trial0, ix_trial1, bindT_amt, bindT_rule, bindT_trial, List.length_map, big_0, big_1, big_2, big_3, e]
def SpScaled (φ : MF) : Prop := ∀ r x w, RuleB 2000 r → Ok 1000 x → φ [ruleD r, amt x] w = .ok (ruleD (mulQ r.1 x, r.2)) w
theorem sp_scaled (T : Tab) (i j k : Nat) (hi : SpProduct (T.f i)) (hj : SpCkAmount (T.f j)) (hk : SpCkRule (T.f k)) : SpScaled (mFun 2 (ess T (b_scaled i j k))) := by
  intro r x w hr hx
  refine fun_ret ?_
  simp only [b_scaled, mFun, startR, ess, es, ev, evs, evo, evc, evl, evi, sSeq, sNil, sRet, sExp, sAsg, sOwn, sIf, sFor, sRaise, sAug, sMut, sSet, sFrz, frzR, mVar, mCst, mBin, mUn, mAnd, mOr, mIf, mChn, mNil, mCons, mSeq, mLst, mLen, mOf, mSl, mNo, mPt, mCall, mPri, mBmt, mOix, mOcmp, mISeq, mIBi, bind_ok, bind_exc, bind_bad, toS_ok, toS_exc, toS_bad, nx_ok, ofB_bl, lift_some, lift_none, bindT_nm, bindT_tp, bindTs_nil, bindTs_cons, bop, isi_ii, isi_bi, isi_bb, isi_tt, isi_ll, List.map_cons, List.map_nil, List.length_cons, List.length_nil, List.cons_append, List.nil_append, Nat.sub_self, List.replicate_zero, List.replicate_succ, List.getElem?_cons_succ, List.getElem?_cons_zero, List.set_cons_zero, List.set_cons_succ, Option.bind_some, Option.map_some, if_true, Bool.true_and, Bool.and_true, Bool.and_self, Bool.not_true, Bool.not_false, Bool.false_eq_true, if_false, ite_true, ite_false, reduceCtorEq, n1, n2, beq_self_eq_true, dIx_l, dIx_t, bAdd_int, bSub_int, dNeg_int, dNot_bl, bLt_int, bLe_int, bGt_int, bGe_int, bIs_non, bIsn_non, bIs_bl, bIsn_bl, non_non, non_int, non_str, non_lst, non_exc, non_amt, non_rule, non_trial, items_l, items_t, dSl_l, dOf_1, zip_l, enm_l, bEq_int, bNe_int, fold_amt, fold_rule, fold_trial, ix_amt0, ix_amt1, ix_rule0, ix_rule1, ix_trial0, ix_trial1, bindT_amt, bindT_rule, bindT_trial, List.length_map, big_0, big_1, big_2, big_3, hk r w hr.a, hj x w hx.am, hi _ _ _ _ w hr.f hx (by omega), dOf]
def SpTurned (φ : MF) : Prop := ∀ r w, RuleA r → φ [ruleD r] w = .ok (ruleD (invQ r.1, r.2.map (- ·))) w
theorem sp_turned_over (T : Tab) (i : Nat) (hi : SpCkRule (T.f i)) : SpTurned (mFun 2 (ess T (b_turned_over i))) := by
  intro r w hr
  refine fun_ret ?_
  simp only [b_turned_over, mFun, startR, ess, es, ev, evs, evo, evc, evl, evi, sSeq, sNil, sRet, sExp, sAsg, sOwn, sIf, sFor, sRaise, sAug, sMut, sSet, sFrz, frzR, mVar, mCst, mBin, mUn, mAnd, mOr, mIf, mChn, mNil, mCons, mSeq, mLst, mLen, mOf, mSl, mNo, mPt, mCall, mPri, mBmt, mOix, mOcmp, mISeq, mIBi, bind_ok, bind_exc, bind_bad, toS_ok, toS_exc, toS_bad, nx_ok, ofB_bl, lift_some, lift_none, bindT_nm, bindT_tp, bindTs_nil, bindTs_cons, bop, isi_ii, isi_bi, isi_bb, isi_tt, isi_ll, List.map_cons, List.map_nil, List.length_cons, List.length_nil, List.cons_append, List.nil_append, Nat.sub_self, List.replicate_zero, List.replicate_succ, List.getElem?_cons_succ, List.getElem?_cons_zero, List.set_cons_zero, List.set_cons_succ, Option.bind_some, Option.map_some, if_true, Bool.true_and, Bool.and_true, Bool.and_self, Bool.not_true, Bool.not_false, Bool.false_eq_true, if_false, ite_true, ite_false, reduceCtorEq, n1, n2, beq_self_eq_true, dIx_l, dIx_t, bAdd_int, bSub_int, dNeg_int, dNot_bl, bLt_int, bLe_int, bGt_int, bGe_int, bIs_non, bIsn_non, bIs_bl, bIsn_bl, non_non, non_int, non_str, non_lst, non_exc, non_amt, non_rule, non_trial, items_l, items_t, dSl_l, dOf_1, zip_l, enm_l, bEq_int, bNe_int, fold_amt, fold_rule, fold_trial, ix_amt0, ix_amt1, ix_rule0, ix_rule1, ix_trial0, ix_trial1, bindT_amt, bindT_rule, bindT_trial, List.length_map, big_0, big_1, big_2, big_3, hi r w hr, mComp, wipeR, len_big3 hr.2.1.1]
  rw [comp_map (g := fun x => D.int (-x))]
  · simp only [mFun, startR, ess, es, ev, evs, evo, evc, evl, evi, sSeq, sNil, sRet, sExp, sAsg, sOwn, sIf, sFor, sRaise, sAug, sMut, sSet, sFrz, frzR, mVar, mCst, mBin, mUn, mAnd, mOr, mIf, mChn, mNil, mCons, mSeq, mLst, mLen, mOf, mSl, mNo, mPt, mCall, mPri, mBmt, mOix, mOcmp, mISeq, mIBi, bind_ok, bind_exc, bind_bad, toS_ok, toS_exc, toS_bad, nx_ok, ofB_bl, lift_some, lift_none, bindT_nm, bindT_tp, bindTs_nil, bindTs_cons, bop, isi_ii, isi_bi, isi_bb, isi_tt, isi_ll, List.map_cons, List.map_nil, List.length_cons, List.length_nil, List.cons_append, List.nil_append, Nat.sub_self, List.replicate_zero, List.replicate_succ, List.getElem?_cons_succ, List.getElem?_cons_zero, List.set_cons_zero, List.set_cons_succ, Option.bind_some, Option.map_some, if_true, Bool.true_and, Bool.and_true, Bool.and_self, Bool.not_true, Bool.not_false, Bool.false_eq_true, if_false, ite_true, ite_false, reduceCtorEq, n1, n2, beq_self_eq_true, dIx_l, dIx_t, bAdd_int, bSub_int, dNeg_int, dNot_bl, bLt_int, bLe_int, bGt_int, bGe_int, bIs_non, bIsn_non, bIs_bl, bIsn_bl, non_non, non_int, non_str, non_lst, non_exc, non_amt, non_rule, non_trial, items_l, items_t, dSl_l, dOf_1, zip_l, enm_l, bEq_int, bNe_int, fold_amt, fold_rule, fold_trial, ix_amt0, ix_amt1, ix_rule0, ix_rule1, ix_trial0, ix_trial1, bindT_amt, bindT_rule, bindT_trial, List.length_map, big_0, big_1, big_2, big_3]
    rw [show (r.2.map fun x => D.int (-x)) = (r.2.map (- ·)).map D.int by rw [List.map_map]; rfl]
    simp only [mFun, startR, ess, es, ev, evs, evo, evc, evl, evi, sSeq, sNil, sRet, sExp, sAsg, sOwn, sIf, sFor, sRaise, sAug, sMut, sSet, sFrz, frzR, mVar, mCst, mBin, mUn, mAnd, mOr, mIf, mChn, mNil, mCons, mSeq, mLst, mLen, mOf, mSl, mNo, mPt, mCall, mPri, mBmt, mOix, mOcmp, mISeq, mIBi, bind_ok, bind_exc, bind_bad, toS_ok, toS_exc, toS_bad, nx_ok, ofB_bl, lift_some, lift_none, bindT_nm, bindT_tp, bindTs_nil, bindTs_cons, bop, isi_ii, isi_bi, isi_bb, isi_tt, isi_ll, List.map_cons, List.map_nil, List.length_cons, List.length_nil, List.cons_append, List.nil_append, Nat.sub_self, List.replicate_zero, List.replicate_succ, List.getElem?_cons_succ, List.getElem?_cons_zero, List.set_cons_zero, List.set_cons_succ, Option.bind_some, Option.map_some, if_true, Bool.true_and, Bool.and_true, Bool.and_self, Bool.not_true, Bool.not_false, Bool.false_eq_true, if_false, ite_true, ite_false, reduceCtorEq, n1, n2, beq_self_eq_true, dIx_l, dIx_t, bAdd_int, bSub_int, dNeg_int, dNot_bl, bLt_int, bLe_int, bGt_int, bGe_int, bIs_non, bIsn_non, bIs_bl, bIsn_bl, non_non, non_int, non_str, non_lst, non_exc, non_amt, non_rule, non_trial, items_l, items_t, dSl_l, dOf_1, zip_l, enm_l, bEq_int, bNe_int, fold_amt, fold_rule, fold_trial, ix_amt0, ix_amt1, ix_rule0, ix_rule1, ix_trial0, ix_trial1, bindT_amt, bindT_rule, bindT_trial, List.length_map, big_0, big_1, big_2, big_3]
    rfl
  · intro x hx
    simp only [compF, mFun, startR, ess, es, ev, evs, evo, evc, evl, evi, sSeq, sNil, sRet, sExp, sAsg, sOwn, sIf, sFor, sRaise, sAug, sMut, sSet, sFrz, frzR, mVar, mCst, mBin, mUn, mAnd, mOr, mIf, mChn, mNil, mCons, mSeq, mLst, mLen, mOf, mSl, mNo, mPt, mCall, mPri, mBmt, mOix, mOcmp, mISeq, mIBi, bind_ok, bind_exc, bind_bad, toS_ok, toS_exc, toS_bad, nx_ok, ofB_bl, lift_some, lift_none, bindT_nm, bindT_tp, bindTs_nil, bindTs_cons, bop, isi_ii, isi_bi, isi_bb, isi_tt, isi_ll, List.map_cons, List.map_nil, List.length_cons, List.length_nil, List.cons_append, List.nil_append, Nat.sub_self, List.replicate_zero, List.replicate_succ, List.getElem?_cons_succ, List.getElem?_cons_zero, List.set_cons_zero, List.set_cons_succ, Option.bind_some, Option.map_some, if_true, Bool.true_and, Bool.and_true, Bool.and_self, Bool.not_true, Bool.not_false, Bool.false_eq_true, if_false, ite_true, ite_false, reduceCtorEq, n1, n2, beq_self_eq_true, dIx_l, dIx_t, bAdd_int, bSub_int, dNeg_int, dNot_bl, bLt_int, bLe_int, bGt_int, bGe_int, bIs_non, bIsn_non, bIs_bl, bIsn_bl, non_non, non_int, non_str, non_lst, non_exc, non_amt, non_rule, non_trial, items_l, items_t, dSl_l, dOf_1, zip_l, enm_l, bEq_int, bNe_int, fold_amt, fold_rule, fold_trial, ix_amt0, ix_amt1, ix_rule0, ix_rule1, ix_trial0, ix_trial1, bindT_amt, bindT_rule, bindT_trial, List.length_map, big_0, big_1, big_2, big_3]
def SpWithout (φ : MF) : Prop := ∀ r (q : Nat) w, RuleA r → q < r.2.length → φ [ruleD r, .int q] w = .ok (ruleD (r.1, r.2.set q 0)) w
theorem bAdd_ints (xs ys : List Int) (h : xs.length + ys.length ≤ big) : bAdd (.lst (xs.map .int)) (.lst (ys.map .int)) = some (.lst ((xs ++ ys).map .int)) := bAdd_map xs ys h
theorem len_add {α : Type} {xs ys : List α} {n m : Nat} (h1 : xs.length ≤ n) (h2 : ys.length ≤ m) (h : n + m ≤ 100000) : xs.length + ys.length ≤ big := by
  have : big = 100000 := rfl
  omega
theorem lst0 : D.lst [.int 0] = .lst (([0] : List Int).map .int) := rfl
theorem sp_without_power (T : Tab) (i j : Nat) (B : TB T) (hi : SpCkQuantity (T.f i)) (hj : SpCkRule (T.f j)) : SpWithout (mFun 2 (ess T (b_without_power i j))) := by
  intro r q w hr hq
  refine fun_ret ?_
  have hl := hr.2.1.1
  have e1 : bAdd (.lst ((r.2.take q).map .int)) (.lst [.int 0]) = some (.lst ((r.2.take q ++ [0]).map .int)) := bAdd_ints _ [0] (len_add (n := 3) (m := 1) (by rw [List.length_take]; omega) (by simp) (by omega))
  have e2 := bAdd_ints (r.2.take q ++ [0]) (r.2.drop (q + 1)) (len_add (n := 4) (m := 3) (by rw [List.length_append, List.length_take]; simp; omega) (by rw [List.length_drop]; omega) (by omega))
  rw [put_set 0 hq] at e2
  have e3 := hi (r.2.length : Int) q w (by omega) (by omega)
  simp only [b_without_power, mFun, startR, ess, es, ev, evs, evo, evc, evl, evi, sSeq, sNil, sRet, sExp, sAsg, sOwn, sIf, sFor, sRaise, sAug, sMut, sSet, sFrz, frzR, mVar, mCst, mBin, mUn, mAnd, mOr, mIf, mChn, mNil, mCons, mSeq, mLst, mLen, mOf, mSl, mNo, mPt, mCall, mPri, mBmt, mOix, mOcmp, mISeq, mIBi, bind_ok, bind_exc, bind_bad, toS_ok, toS_exc, toS_bad, nx_ok, ofB_bl, lift_some, lift_none, bindT_nm, bindT_tp, bindTs_nil, bindTs_cons, bop, isi_ii, isi_bi, isi_bb, isi_tt, isi_ll, List.map_cons, List.map_nil, List.length_cons, List.length_nil, List.cons_append, List.nil_append, Nat.sub_self, List.replicate_zero, List.replicate_succ, List.getElem?_cons_succ, List.getElem?_cons_zero, List.set_cons_zero, List.set_cons_succ, Option.bind_some, Option.map_some, if_true, Bool.true_and, Bool.and_true, Bool.and_self, Bool.not_true, Bool.not_false, Bool.false_eq_true, if_false, ite_true, ite_false, reduceCtorEq, n1, n2, beq_self_eq_true, dIx_l, dIx_t, bAdd_int, bSub_int, dNeg_int, dNot_bl, bLt_int, bLe_int, bGt_int, bGe_int, bIs_non, bIsn_non, bIs_bl, bIsn_bl, non_non, non_int, non_str, non_lst, non_exc, non_amt, non_rule, non_trial, items_l, items_t, dSl_l, dOf_1, zip_l, enm_l, bEq_int, bNe_int, fold_amt, fold_rule, fold_trial, ix_amt0, ix_amt1, ix_rule0, ix_rule1, ix_trial0, ix_trial1, bindT_amt, bindT_rule, bindT_trial, List.length_map, big_0, big_1, big_2, big_3, hj r w hr, B.p, p0, len_lst, e3, cut_take _ (Nat.le_of_lt hq), cut_drop1 _ hq, e1, e2]
def SpWithFixed (φ : MF) : Prop := ∀ r (q : Nat) x w, RuleB 2000 r → q < r.2.length → Ok 1000 x → φ [ruleD r, .int q, amt x] w = if r.2.length = 1 then .exc 0 w else .ok (ruleD (mulQ r.1 (powQ x (r.2.getD q 0)), dropAt q r.2)) w
theorem sp_with_fixed (T : Tab) (i j k l m : Nat) (B : TB T) (hi : SpProduct (T.f i)) (hj : SpPower (T.f j)) (hk : SpCkAmount (T.f k)) (hl : SpCkQuantity (T.f l)) (hm : SpCkRule (T.f m)) : SpWithFixed (mFun 3 (ess T (b_with_fixed i j k l m))) := by
  intro r q x w hr hq hx
  have hlen := hr.p.1
  have e3 := hl (r.2.length : Int) q w (by omega) (by omega)
  have hmem : r.2.getD q 0 ∈ r.2 := by simp [List.getD, hq]
  have hpw := hr.p.2 _ hmem
  have e4 := hj x _ _ w hx hpw.1 hpw.2 (by omega)
  have e5 := hi _ _ _ _ w hr.f (powQ_ok hx hpw.1 hpw.2) (by omega)
  have e2 := bAdd_ints (r.2.take q) (r.2.drop (q + 1)) (len_add (n := 3) (m := 3) (by rw [List.length_take]; omega) (by rw [List.length_drop]; omega) (by omega))
  by_cases h1 : r.2.length = 1
  · rw [if_pos h1]
    refine fun_exc (r := [.dat (ruleD r), .dat (.int q), .dat (amt x)]) ?_
    have h1' : ((r.2.length : Int) == 1) = true := by rw [h1]; rfl
    simp only [b_with_fixed, mFun, startR, ess, es, ev, evs, evo, evc, evl, evi, sSeq, sNil, sRet, sExp, sAsg, sOwn, sIf, sFor, sRaise, sAug, sMut, sSet, sFrz, frzR, mVar, mCst, mBin, mUn, mAnd, mOr, mIf, mChn, mNil, mCons, mSeq, mLst, mLen, mOf, mSl, mNo, mPt, mCall, mPri, mBmt, mOix, mOcmp, mISeq, mIBi, bind_ok, bind_exc, bind_bad, toS_ok, toS_exc, toS_bad, nx_ok, ofB_bl, lift_some, lift_none, bindT_nm, bindT_tp, bindTs_nil, bindTs_cons, bop, isi_ii, isi_bi, isi_bb, isi_tt, isi_ll, List.map_cons, List.map_nil, List.length_cons, List.length_nil, List.cons_append, List.nil_append, Nat.sub_self, List.replicate_zero, List.replicate_succ, List.getElem?_cons_succ, List.getElem?_cons_zero, List.set_cons_zero, List.set_cons_succ, Option.bind_some, Option.map_some, if_true, Bool.true_and, Bool.and_true, Bool.and_self, Bool.not_true, Bool.not_false, Bool.false_eq_true, if_false, ite_true, ite_false, reduceCtorEq, n1, n2, beq_self_eq_true, dIx_l, dIx_t, bAdd_int, bSub_int, dNeg_int, dNot_bl, bLt_int, bLe_int, bGt_int, bGe_int, bIs_non, bIsn_non, bIs_bl, bIsn_bl, non_non, non_int, non_str, non_lst, non_exc, non_amt, non_rule, non_trial, items_l, items_t, dSl_l, dOf_1, zip_l, enm_l, bEq_int, bNe_int, fold_amt, fold_rule, fold_trial, ix_amt0, ix_amt1, ix_rule0, ix_rule1, ix_trial0, ix_trial1, bindT_amt, bindT_rule, bindT_trial, List.length_map, big_0, big_1, big_2, big_3, hm r w hr.a, B.p, p0, len_lst, e3, hk x w hx.am, h1']
  · rw [if_neg h1]
    refine fun_ret ?_
    have h1' : ((r.2.length : Int) == 1) = false := by simp; omega
    simp only [b_with_fixed, mFun, startR, ess, es, ev, evs, evo, evc, evl, evi, sSeq, sNil, sRet, sExp, sAsg, sOwn, sIf, sFor, sRaise, sAug, sMut, sSet, sFrz, frzR, mVar, mCst, mBin, mUn, mAnd, mOr, mIf, mChn, mNil, mCons, mSeq, mLst, mLen, mOf, mSl, mNo, mPt, mCall, mPri, mBmt, mOix, mOcmp, mISeq, mIBi, bind_ok, bind_exc, bind_bad, toS_ok, toS_exc, toS_bad, nx_ok, ofB_bl, lift_some, lift_none, bindT_nm, bindT_tp, bindTs_nil, bindTs_cons, bop, isi_ii, isi_bi, isi_bb, isi_tt, isi_ll, List.map_cons, List.map_nil, List.length_cons, List.length_nil, List.cons_append, List.nil_append, Nat.sub_self, List.replicate_zero, List.replicate_succ, List.getElem?_cons_succ, List.getElem?_cons_zero, List.set_cons_zero, List.set_cons_succ, Option.bind_some, Option.map_some, if_true, Bool.true_and, Bool.and_true, Bool.and_self, Bool.not_true, Bool.not_false, Bool.false_eq_true, if_false, ite_true, ite_false, reduceCtorEq, n1, n2, beq_self_eq_true, dIx_l, dIx_t, bAdd_int, bSub_int, dNeg_int, dNot_bl, bLt_int, bLe_int, bGt_int, bGe_int, bIs_non, bIsn_non, bIs_bl, bIsn_bl, non_non, non_int, non_str, non_lst, non_exc, non_amt, non_rule, non_trial, items_l, items_t, dSl_l, dOf_1, zip_l, enm_l, bEq_int, bNe_int, fold_amt, fold_rule, fold_trial, ix_amt0, ix_amt1, ix_rule0, ix_rule1, ix_trial0, ix_trial1, bindT_amt, bindT_rule, bindT_trial, List.length_map, big_0, big_1, big_2, big_3, hm r w hr.a, B.p, p0, len_lst, e3, hk x w hx.am, h1', atI_ints hq, e4, e5, cut_take _ (Nat.le_of_lt hq), cut_drop1 _ hq, e2]
    rfl
def SpMultiplied (φ : MF) : Prop := ∀ r s w, RuleB 2000 r → RuleB 2000 s → r.2.length = s.2.length → φ [ruleD r, ruleD s] w = if (addP r.2 s.2).all pwB then .ok (ruleD (mulQ r.1 s.1, addP r.2 s.2)) w else .exc 0 w
theorem zip_ints (xs ys : List Int) : zipD (xs.map .int) (ys.map .int) = (xs.zip ys).map amt := zip_map xs ys
theorem addP_length {ps qs : List Int} (h : ps.length = qs.length) : (addP ps qs).length = ps.length := by
  unfold addP
  rw [List.length_zipWith]
  omega
theorem zip_add : ∀ ps qs : List Int, ((ps.zip qs).map fun p => D.int (p.1 + p.2)) = (addP ps qs).map .int
  | [], _ => by simp [addP]
  | _ :: _, [] => by simp [addP]
  | p :: ps, q :: qs => by
    have := zip_add ps qs
    unfold addP at this ⊢
    rw [List.zip_cons_cons, List.map_cons, this, List.zipWith_cons_cons, List.map_cons]
theorem sp_multiplied (T : Tab) (i j k : Nat) (B : TB T) (hi : SpChecked (T.f i)) (hj : SpProduct (T.f j)) (hk : SpCkRule (T.f k)) : SpMultiplied (mFun 4 (ess T (b_multiplied i j k))) := by
  intro r s w hr hs hl
  have hlen := hr.p.1
  have hlen' := hr.l
  have e1 : ((r.2.length : Int) == (s.2.length : Int)) = true := by rw [hl]; simp
  have e2 := hj _ _ _ _ w hr.f hs.f (by omega)
  have e3 := hi (mulQ r.1 s.1, addP r.2 s.2) w (mulQ_am hr.f.am hs.f.am) (by rw [addP_length hl]; omega) (by rw [addP_length hl]; omega)
  have hb : (r.2.zip s.2).length ≤ big := by
    rw [List.length_zip]
    have : big = 100000 := rfl
    omega
  cases hq : (addP r.2 s.2).all pwB with
  | true =>
    simp only [hq, if_true] at e3
    refine fun_ret ?_
    simp only [b_multiplied, mFun, startR, ess, es, ev, evs, evo, evc, evl, evi, sSeq, sNil, sRet, sExp, sAsg, sOwn, sIf, sFor, sRaise, sAug, sMut, sSet, sFrz, frzR, mVar, mCst, mBin, mUn, mAnd, mOr, mIf, mChn, mNil, mCons, mSeq, mLst, mLen, mOf, mSl, mNo, mPt, mCall, mPri, mBmt, mOix, mOcmp, mISeq, mIBi, bind_ok, bind_exc, bind_bad, toS_ok, toS_exc, toS_bad, nx_ok, ofB_bl, lift_some, lift_none, bindT_nm, bindT_tp, bindTs_nil, bindTs_cons, bop, isi_ii, isi_bi, isi_bb, isi_tt, isi_ll, List.map_cons, List.map_nil, List.length_cons, List.length_nil, List.cons_append, List.nil_append, Nat.sub_self, List.replicate_zero, List.replicate_succ, List.getElem?_cons_succ, List.getElem?_cons_zero, List.set_cons_zero, List.set_cons_succ, Option.bind_some, Option.map_some, if_true, Bool.true_and, Bool.and_true, Bool.and_self, Bool.not_true, Bool.not_false, Bool.false_eq_true, if_false, ite_true, ite_false, reduceCtorEq, n1, n2, beq_self_eq_true, dIx_l, dIx_t, bAdd_int, bSub_int, dNeg_int, dNot_bl, bLt_int, bLe_int, bGt_int, bGe_int, bIs_non, bIsn_non, bIs_bl, bIsn_bl, non_non, non_int, non_str, non_lst, non_exc, non_amt, non_rule, non_trial, items_l, items_t, dSl_l, dOf_1, zip_l, enm_l, bEq_int, bNe_int, fold_amt, fold_rule, fold_trial, ix_amt0, ix_amt1, ix_rule0, ix_rule1, ix_trial0, ix_trial1, bindT_amt, bindT_rule, bindT_trial, List.length_map, big_0, big_1, big_2, big_3, hk r w hr.a, hk s w hs.a, B.p, p0, len_lst, e1, e2, mComp, wipeR, zip_ints, hb]
    rw [comp_map (g := fun p : Int × Int => D.int (p.1 + p.2)) (fun x hx => by simp only [compF, mFun, startR, ess, es, ev, evs, evo, evc, evl, evi, sSeq, sNil, sRet, sExp, sAsg, sOwn, sIf, sFor, sRaise, sAug, sMut, sSet, sFrz, frzR, mVar, mCst, mBin, mUn, mAnd, mOr, mIf, mChn, mNil, mCons, mSeq, mLst, mLen, mOf, mSl, mNo, mPt, mCall, mPri, mBmt, mOix, mOcmp, mISeq, mIBi, bind_ok, bind_exc, bind_bad, toS_ok, toS_exc, toS_bad, nx_ok, ofB_bl, lift_some, lift_none, bindT_nm, bindT_tp, bindTs_nil, bindTs_cons, bop, isi_ii, isi_bi, isi_bb, isi_tt, isi_ll, List.map_cons, List.map_nil, List.length_cons, List.length_nil, List.cons_append, List.nil_append, Nat.sub_self, List.replicate_zero, List.replicate_succ, List.getElem?_cons_succ, List.getElem?_cons_zero, List.set_cons_zero, List.set_cons_succ, Option.bind_some, Option.map_some, if_true, Bool.true_and, Bool.and_true, Bool.and_self, Bool.not_true, Bool.not_false, Bool.false_eq_true, if_false, ite_true, ite_false, reduceCtorEq, n1, n2, beq_self_eq_true, dIx_l, dIx_t, bAdd_int, bSub_int, dNeg_int, dNot_bl, bLt_int, bLe_int, bGt_int, bGe_int, bIs_non, bIsn_non, bIs_bl, bIsn_bl, non_non, non_int, non_str, non_lst, non_exc, non_amt, non_rule, non_trial, items_l, items_t, dSl_l, dOf_1, zip_l, enm_l, bEq_int, bNe_int, fold_amt, fold_rule, fold_trial, ix_amt0, ix_amt1, ix_rule0, ix_rule1, ix_trial0, ix_trial1, bindT_amt, bindT_rule, bindT_trial, List.length_map, big_0, big_1, big_2, big_3])]
    simp only [mFun, startR, ess, es, ev, evs, evo, evc, evl, evi, sSeq, sNil, sRet, sExp, sAsg, sOwn, sIf, sFor, sRaise, sAug, sMut, sSet, sFrz, frzR, mVar, mCst, mBin, mUn, mAnd, mOr, mIf, mChn, mNil, mCons, mSeq, mLst, mLen, mOf, mSl, mNo, mPt, mCall, mPri, mBmt, mOix, mOcmp, mISeq, mIBi, bind_ok, bind_exc, bind_bad, toS_ok, toS_exc, toS_bad, nx_ok, ofB_bl, lift_some, lift_none, bindT_nm, bindT_tp, bindTs_nil, bindTs_cons, bop, isi_ii, isi_bi, isi_bb, isi_tt, isi_ll, List.map_cons, List.map_nil, List.length_cons, List.length_nil, List.cons_append, List.nil_append, Nat.sub_self, List.replicate_zero, List.replicate_succ, List.getElem?_cons_succ, List.getElem?_cons_zero, List.set_cons_zero, List.set_cons_succ, Option.bind_some, Option.map_some, if_true, Bool.true_and, Bool.and_true, Bool.and_self, Bool.not_true, Bool.not_false, Bool.false_eq_true, if_false, ite_true, ite_false, reduceCtorEq, n1, n2, beq_self_eq_true, dIx_l, dIx_t, bAdd_int, bSub_int, dNeg_int, dNot_bl, bLt_int, bLe_int, bGt_int, bGe_int, bIs_non, bIsn_non, bIs_bl, bIsn_bl, non_non, non_int, non_str, non_lst, non_exc, non_amt, non_rule, non_trial, items_l, items_t, dSl_l, dOf_1, zip_l, enm_l, bEq_int, bNe_int, fold_amt, fold_rule, fold_trial, ix_amt0, ix_amt1, ix_rule0, ix_rule1, ix_trial0, ix_trial1, bindT_amt, bindT_rule, bindT_trial, List.length_map, big_0, big_1, big_2, big_3, zip_add, e3]
  | false =>
    simp only [hq, Bool.false_eq_true, if_false] at e3
    refine fun_exc (r := [.dat (ruleD r), .dat (ruleD s), .emp, .emp]) ?_
    simp only [b_multiplied, mFun, startR, ess, es, ev, evs, evo, evc, evl, evi, sSeq, sNil, sRet, sExp, sAsg, sOwn, sIf, sFor, sRaise, sAug, sMut, sSet, sFrz, frzR, mVar, mCst, mBin, mUn, mAnd, mOr, mIf, mChn, mNil, mCons, mSeq, mLst, mLen, mOf, mSl, mNo, mPt, mCall, mPri, mBmt, mOix, mOcmp, mISeq, mIBi, bind_ok, bind_exc, bind_bad, toS_ok, toS_exc, toS_bad, nx_ok, ofB_bl, lift_some, lift_none, bindT_nm, bindT_tp, bindTs_nil, bindTs_cons, bop, isi_ii, isi_bi, isi_bb, isi_tt, isi_ll, List.map_cons, List.map_nil, List.length_cons, List.length_nil, List.cons_append, List.nil_append, Nat.sub_self, List.replicate_zero, List.replicate_succ, List.getElem?_cons_succ, List.getElem?_cons_zero, List.set_cons_zero, List.set_cons_succ, Option.bind_some, Option.map_some, if_true, Bool.true_and, Bool.and_true, Bool.and_self, Bool.not_true, Bool.not_false, Bool.false_eq_true, if_false, ite_true, ite_false, reduceCtorEq, n1, n2, beq_self_eq_true, dIx_l, dIx_t, bAdd_int, bSub_int, dNeg_int, dNot_bl, bLt_int, bLe_int, bGt_int, bGe_int, bIs_non, bIsn_non, bIs_bl, bIsn_bl, non_non, non_int, non_str, non_lst, non_exc, non_amt, non_rule, non_trial, items_l, items_t, dSl_l, dOf_1, zip_l, enm_l, bEq_int, bNe_int, fold_amt, fold_rule, fold_trial, ix_amt0, ix_amt1, ix_rule0, ix_rule1, ix_trial0, ix_trial1, bindT_amt, bindT_rule, bindT_trial, List.length_map, big_0, big_1, big_2, big_3, hk r w hr.a, hk s w hs.a, B.p, p0, len_lst, e1, e2, mComp, wipeR, zip_ints, hb]
    rw [comp_map (g := fun p : Int × Int => D.int (p.1 + p.2)) (fun x hx => by simp only [compF, mFun, startR, ess, es, ev, evs, evo, evc, evl, evi, sSeq, sNil, sRet, sExp, sAsg, sOwn, sIf, sFor, sRaise, sAug, sMut, sSet, sFrz, frzR, mVar, mCst, mBin, mUn, mAnd, mOr, mIf, mChn, mNil, mCons, mSeq, mLst, mLen, mOf, mSl, mNo, mPt, mCall, mPri, mBmt, mOix, mOcmp, mISeq, mIBi, bind_ok, bind_exc, bind_bad, toS_ok, toS_exc, toS_bad, nx_ok, ofB_bl, lift_some, lift_none, bindT_nm, bindT_tp, bindTs_nil, bindTs_cons, bop, isi_ii, isi_bi, isi_bb, isi_tt, isi_ll, List.map_cons, List.map_nil, List.length_cons, List.length_nil, List.cons_append, List.nil_append, Nat.sub_self, List.replicate_zero, List.replicate_succ, List.getElem?_cons_succ, List.getElem?_cons_zero, List.set_cons_zero, List.set_cons_succ, Option.bind_some, Option.map_some, if_true, Bool.true_and, Bool.and_true, Bool.and_self, Bool.not_true, Bool.not_false, Bool.false_eq_true, if_false, ite_true, ite_false, reduceCtorEq, n1, n2, beq_self_eq_true, dIx_l, dIx_t, bAdd_int, bSub_int, dNeg_int, dNot_bl, bLt_int, bLe_int, bGt_int, bGe_int, bIs_non, bIsn_non, bIs_bl, bIsn_bl, non_non, non_int, non_str, non_lst, non_exc, non_amt, non_rule, non_trial, items_l, items_t, dSl_l, dOf_1, zip_l, enm_l, bEq_int, bNe_int, fold_amt, fold_rule, fold_trial, ix_amt0, ix_amt1, ix_rule0, ix_rule1, ix_trial0, ix_trial1, bindT_amt, bindT_rule, bindT_trial, List.length_map, big_0, big_1, big_2, big_3])]
    simp only [mFun, startR, ess, es, ev, evs, evo, evc, evl, evi, sSeq, sNil, sRet, sExp, sAsg, sOwn, sIf, sFor, sRaise, sAug, sMut, sSet, sFrz, frzR, mVar, mCst, mBin, mUn, mAnd, mOr, mIf, mChn, mNil, mCons, mSeq, mLst, mLen, mOf, mSl, mNo, mPt, mCall, mPri, mBmt, mOix, mOcmp, mISeq, mIBi, bind_ok, bind_exc, bind_bad, toS_ok, toS_exc, toS_bad, nx_ok, ofB_bl, lift_some, lift_none, bindT_nm, bindT_tp, bindTs_nil, bindTs_cons, bop, isi_ii, isi_bi, isi_bb, isi_tt, isi_ll, List.map_cons, List.map_nil, List.length_cons, List.length_nil, List.cons_append, List.nil_append, Nat.sub_self, List.replicate_zero, List.replicate_succ, List.getElem?_cons_succ, List.getElem?_cons_zero, List.set_cons_zero, List.set_cons_succ, Option.bind_some, Option.map_some, if_true, Bool.true_and, Bool.and_true, Bool.and_self, Bool.not_true, Bool.not_false, Bool.false_eq_true, if_false, ite_true, ite_false, reduceCtorEq, n1, n2, beq_self_eq_true, dIx_l, dIx_t, bAdd_int, bSub_int, dNeg_int, dNot_bl, bLt_int, bLe_int, bGt_int, bGe_int, bIs_non, bIsn_non, bIs_bl, bIsn_bl, non_non, non_int, non_str, non_lst, non_exc, non_amt, non_rule, non_trial, items_l, items_t, dSl_l, dOf_1, zip_l, enm_l, bEq_int, bNe_int, fold_amt, fold_rule, fold_trial, ix_amt0, ix_amt1, ix_rule0, ix_rule1, ix_trial0, ix_trial1, bindT_amt, bindT_rule, bindT_trial, List.length_map, big_0, big_1, big_2, big_3, zip_add, e3]
def SpSwapped (φ : MF) : Prop := ∀ r (a b : Nat) w, RuleA r → a < r.2.length → b < r.2.length → φ [ruleD r, .int a, .int b] w = .ok (ruleD (r.1, swapL 0 a b r.2)) w
theorem set_map {α : Type} {f : α → D} (xs : List α) (k : Nat) (x : α) : (xs.map f).set k (f x) = (xs.set k x).map f := List.map_set.symm
theorem sp_swapped (T : Tab) (i j : Nat) (B : TB T) (hi : SpCkQuantity (T.f i)) (hj : SpCkRule (T.f j)) : SpSwapped (mFun 4 (ess T (b_swapped i j))) := by
  intro r a b w hr ha hb
  refine fun_wp ?_
  have e3 := hi (r.2.length : Int) a w (by omega) (by omega)
  have e4 := hi (r.2.length : Int) b w (by omega) (by omega)
  rw [b_swapped]
  refine Wp.stay (by simp only [mFun, startR, ess, es, ev, evs, evo, evc, evl, evi, sSeq, sNil, sRet, sExp, sAsg, sOwn, sIf, sFor, sRaise, sAug, sMut, sSet, sFrz, frzR, mVar, mCst, mBin, mUn, mAnd, mOr, mIf, mChn, mNil, mCons, mSeq, mLst, mLen, mOf, mSl, mNo, mPt, mCall, mPri, mBmt, mOix, mOcmp, mISeq, mIBi, bind_ok, bind_exc, bind_bad, toS_ok, toS_exc, toS_bad, nx_ok, ofB_bl, lift_some, lift_none, bindT_nm, bindT_tp, bindTs_nil, bindTs_cons, bop, isi_ii, isi_bi, isi_bb, isi_tt, isi_ll, List.map_cons, List.map_nil, List.length_cons, List.length_nil, List.cons_append, List.nil_append, Nat.sub_self, List.replicate_zero, List.replicate_succ, List.getElem?_cons_succ, List.getElem?_cons_zero, List.set_cons_zero, List.set_cons_succ, Option.bind_some, Option.map_some, if_true, Bool.true_and, Bool.and_true, Bool.and_self, Bool.not_true, Bool.not_false, Bool.false_eq_true, if_false, ite_true, ite_false, reduceCtorEq, n1, n2, beq_self_eq_true, dIx_l, dIx_t, bAdd_int, bSub_int, dNeg_int, dNot_bl, bLt_int, bLe_int, bGt_int, bGe_int, bIs_non, bIsn_non, bIs_bl, bIsn_bl, non_non, non_int, non_str, non_lst, non_exc, non_amt, non_rule, non_trial, items_l, items_t, dSl_l, dOf_1, zip_l, enm_l, bEq_int, bNe_int, fold_amt, fold_rule, fold_trial, ix_amt0, ix_amt1, ix_rule0, ix_rule1, ix_trial0, ix_trial1, bindT_amt, bindT_rule, bindT_trial, List.length_map, big_0, big_1, big_2, big_3, hj r w hr]) ?_
  refine Wp.stay (by simp only [mFun, startR, ess, es, ev, evs, evo, evc, evl, evi, sSeq, sNil, sRet, sExp, sAsg, sOwn, sIf, sFor, sRaise, sAug, sMut, sSet, sFrz, frzR, mVar, mCst, mBin, mUn, mAnd, mOr, mIf, mChn, mNil, mCons, mSeq, mLst, mLen, mOf, mSl, mNo, mPt, mCall, mPri, mBmt, mOix, mOcmp, mISeq, mIBi, bind_ok, bind_exc, bind_bad, toS_ok, toS_exc, toS_bad, nx_ok, ofB_bl, lift_some, lift_none, bindT_nm, bindT_tp, bindTs_nil, bindTs_cons, bop, isi_ii, isi_bi, isi_bb, isi_tt, isi_ll, List.map_cons, List.map_nil, List.length_cons, List.length_nil, List.cons_append, List.nil_append, Nat.sub_self, List.replicate_zero, List.replicate_succ, List.getElem?_cons_succ, List.getElem?_cons_zero, List.set_cons_zero, List.set_cons_succ, Option.bind_some, Option.map_some, if_true, Bool.true_and, Bool.and_true, Bool.and_self, Bool.not_true, Bool.not_false, Bool.false_eq_true, if_false, ite_true, ite_false, reduceCtorEq, n1, n2, beq_self_eq_true, dIx_l, dIx_t, bAdd_int, bSub_int, dNeg_int, dNot_bl, bLt_int, bLe_int, bGt_int, bGe_int, bIs_non, bIsn_non, bIs_bl, bIsn_bl, non_non, non_int, non_str, non_lst, non_exc, non_amt, non_rule, non_trial, items_l, items_t, dSl_l, dOf_1, zip_l, enm_l, bEq_int, bNe_int, fold_amt, fold_rule, fold_trial, ix_amt0, ix_amt1, ix_rule0, ix_rule1, ix_trial0, ix_trial1, bindT_amt, bindT_rule, bindT_trial, List.length_map, big_0, big_1, big_2, big_3, B.p, p0, len_lst, e3]) ?_
  refine Wp.stay (by simp only [mFun, startR, ess, es, ev, evs, evo, evc, evl, evi, sSeq, sNil, sRet, sExp, sAsg, sOwn, sIf, sFor, sRaise, sAug, sMut, sSet, sFrz, frzR, mVar, mCst, mBin, mUn, mAnd, mOr, mIf, mChn, mNil, mCons, mSeq, mLst, mLen, mOf, mSl, mNo, mPt, mCall, mPri, mBmt, mOix, mOcmp, mISeq, mIBi, bind_ok, bind_exc, bind_bad, toS_ok, toS_exc, toS_bad, nx_ok, ofB_bl, lift_some, lift_none, bindT_nm, bindT_tp, bindTs_nil, bindTs_cons, bop, isi_ii, isi_bi, isi_bb, isi_tt, isi_ll, List.map_cons, List.map_nil, List.length_cons, List.length_nil, List.cons_append, List.nil_append, Nat.sub_self, List.replicate_zero, List.replicate_succ, List.getElem?_cons_succ, List.getElem?_cons_zero, List.set_cons_zero, List.set_cons_succ, Option.bind_some, Option.map_some, if_true, Bool.true_and, Bool.and_true, Bool.and_self, Bool.not_true, Bool.not_false, Bool.false_eq_true, if_false, ite_true, ite_false, reduceCtorEq, n1, n2, beq_self_eq_true, dIx_l, dIx_t, bAdd_int, bSub_int, dNeg_int, dNot_bl, bLt_int, bLe_int, bGt_int, bGe_int, bIs_non, bIsn_non, bIs_bl, bIsn_bl, non_non, non_int, non_str, non_lst, non_exc, non_amt, non_rule, non_trial, items_l, items_t, dSl_l, dOf_1, zip_l, enm_l, bEq_int, bNe_int, fold_amt, fold_rule, fold_trial, ix_amt0, ix_amt1, ix_rule0, ix_rule1, ix_trial0, ix_trial1, bindT_amt, bindT_rule, bindT_trial, List.length_map, big_0, big_1, big_2, big_3, B.p, p0, len_lst, e4]) ?_
  refine Wp.step (by simp only [mFun, startR, ess, es, ev, evs, evo, evc, evl, evi, sSeq, sNil, sRet, sExp, sAsg, sOwn, sIf, sFor, sRaise, sAug, sMut, sSet, sFrz, frzR, mVar, mCst, mBin, mUn, mAnd, mOr, mIf, mChn, mNil, mCons, mSeq, mLst, mLen, mOf, mSl, mNo, mPt, mCall, mPri, mBmt, mOix, mOcmp, mISeq, mIBi, bind_ok, bind_exc, bind_bad, toS_ok, toS_exc, toS_bad, nx_ok, ofB_bl, lift_some, lift_none, bindT_nm, bindT_tp, bindTs_nil, bindTs_cons, bop, isi_ii, isi_bi, isi_bb, isi_tt, isi_ll, List.map_cons, List.map_nil, List.length_cons, List.length_nil, List.cons_append, List.nil_append, Nat.sub_self, List.replicate_zero, List.replicate_succ, List.getElem?_cons_succ, List.getElem?_cons_zero, List.set_cons_zero, List.set_cons_succ, Option.bind_some, Option.map_some, if_true, Bool.true_and, Bool.and_true, Bool.and_self, Bool.not_true, Bool.not_false, Bool.false_eq_true, if_false, ite_true, ite_false, reduceCtorEq, n1, n2, beq_self_eq_true, dIx_l, dIx_t, bAdd_int, bSub_int, dNeg_int, dNot_bl, bLt_int, bLe_int, bGt_int, bGe_int, bIs_non, bIsn_non, bIs_bl, bIsn_bl, non_non, non_int, non_str, non_lst, non_exc, non_amt, non_rule, non_trial, items_l, items_t, dSl_l, dOf_1, zip_l, enm_l, bEq_int, bNe_int, fold_amt, fold_rule, fold_trial, ix_amt0, ix_amt1, ix_rule0, ix_rule1, ix_trial0, ix_trial1, bindT_amt, bindT_rule, bindT_trial, List.length_map, big_0, big_1, big_2, big_3]; rfl) ?_
  refine Wp.step (set2_ok (xs := r.2.map .int) (u := .int (r.2.getD b 0)) (v := .int (r.2.getD a 0)) (k := a) (l := b) (k' := a) (l' := b) rfl (by simp only [mFun, startR, ess, es, ev, evs, evo, evc, evl, evi, sSeq, sNil, sRet, sExp, sAsg, sOwn, sIf, sFor, sRaise, sAug, sMut, sSet, sFrz, frzR, mVar, mCst, mBin, mUn, mAnd, mOr, mIf, mChn, mNil, mCons, mSeq, mLst, mLen, mOf, mSl, mNo, mPt, mCall, mPri, mBmt, mOix, mOcmp, mISeq, mIBi, bind_ok, bind_exc, bind_bad, toS_ok, toS_exc, toS_bad, nx_ok, ofB_bl, lift_some, lift_none, bindT_nm, bindT_tp, bindTs_nil, bindTs_cons, bop, isi_ii, isi_bi, isi_bb, isi_tt, isi_ll, List.map_cons, List.map_nil, List.length_cons, List.length_nil, List.cons_append, List.nil_append, Nat.sub_self, List.replicate_zero, List.replicate_succ, List.getElem?_cons_succ, List.getElem?_cons_zero, List.set_cons_zero, List.set_cons_succ, Option.bind_some, Option.map_some, if_true, Bool.true_and, Bool.and_true, Bool.and_self, Bool.not_true, Bool.not_false, Bool.false_eq_true, if_false, ite_true, ite_false, reduceCtorEq, n1, n2, beq_self_eq_true, dIx_l, dIx_t, bAdd_int, bSub_int, dNeg_int, dNot_bl, bLt_int, bLe_int, bGt_int, bGe_int, bIs_non, bIsn_non, bIs_bl, bIsn_bl, non_non, non_int, non_str, non_lst, non_exc, non_amt, non_rule, non_trial, items_l, items_t, dSl_l, dOf_1, zip_l, enm_l, bEq_int, bNe_int, fold_amt, fold_rule, fold_trial, ix_amt0, ix_amt1, ix_rule0, ix_rule1, ix_trial0, ix_trial1, bindT_amt, bindT_rule, bindT_trial, List.length_map, big_0, big_1, big_2, big_3, atI_ints ha, atI_ints hb]) (by simp only [mFun, startR, ess, es, ev, evs, evo, evc, evl, evi, sSeq, sNil, sRet, sExp, sAsg, sOwn, sIf, sFor, sRaise, sAug, sMut, sSet, sFrz, frzR, mVar, mCst, mBin, mUn, mAnd, mOr, mIf, mChn, mNil, mCons, mSeq, mLst, mLen, mOf, mSl, mNo, mPt, mCall, mPri, mBmt, mOix, mOcmp, mISeq, mIBi, bind_ok, bind_exc, bind_bad, toS_ok, toS_exc, toS_bad, nx_ok, ofB_bl, lift_some, lift_none, bindT_nm, bindT_tp, bindTs_nil, bindTs_cons, bop, isi_ii, isi_bi, isi_bb, isi_tt, isi_ll, List.map_cons, List.map_nil, List.length_cons, List.length_nil, List.cons_append, List.nil_append, Nat.sub_self, List.replicate_zero, List.replicate_succ, List.getElem?_cons_succ, List.getElem?_cons_zero, List.set_cons_zero, List.set_cons_succ, Option.bind_some, Option.map_some, if_true, Bool.true_and, Bool.and_true, Bool.and_self, Bool.not_true, Bool.not_false, Bool.false_eq_true, if_false, ite_true, ite_false, reduceCtorEq, n1, n2, beq_self_eq_true, dIx_l, dIx_t, bAdd_int, bSub_int, dNeg_int, dNot_bl, bLt_int, bLe_int, bGt_int, bGe_int, bIs_non, bIsn_non, bIs_bl, bIsn_bl, non_non, non_int, non_str, non_lst, non_exc, non_amt, non_rule, non_trial, items_l, items_t, dSl_l, dOf_1, zip_l, enm_l, bEq_int, bNe_int, fold_amt, fold_rule, fold_trial, ix_amt0, ix_amt1, ix_rule0, ix_rule1, ix_trial0, ix_trial1, bindT_amt, bindT_rule, bindT_trial, List.length_map, big_0, big_1, big_2, big_3]) (ixN_nat (by simpa using ha)) (by simp only [mFun, startR, ess, es, ev, evs, evo, evc, evl, evi, sSeq, sNil, sRet, sExp, sAsg, sOwn, sIf, sFor, sRaise, sAug, sMut, sSet, sFrz, frzR, mVar, mCst, mBin, mUn, mAnd, mOr, mIf, mChn, mNil, mCons, mSeq, mLst, mLen, mOf, mSl, mNo, mPt, mCall, mPri, mBmt, mOix, mOcmp, mISeq, mIBi, bind_ok, bind_exc, bind_bad, toS_ok, toS_exc, toS_bad, nx_ok, ofB_bl, lift_some, lift_none, bindT_nm, bindT_tp, bindTs_nil, bindTs_cons, bop, isi_ii, isi_bi, isi_bb, isi_tt, isi_ll, List.map_cons, List.map_nil, List.length_cons, List.length_nil, List.cons_append, List.nil_append, Nat.sub_self, List.replicate_zero, List.replicate_succ, List.getElem?_cons_succ, List.getElem?_cons_zero, List.set_cons_zero, List.set_cons_succ, Option.bind_some, Option.map_some, if_true, Bool.true_and, Bool.and_true, Bool.and_self, Bool.not_true, Bool.not_false, Bool.false_eq_true, if_false, ite_true, ite_false, reduceCtorEq, n1, n2, beq_self_eq_true, dIx_l, dIx_t, bAdd_int, bSub_int, dNeg_int, dNot_bl, bLt_int, bLe_int, bGt_int, bGe_int, bIs_non, bIsn_non, bIs_bl, bIsn_bl, non_non, non_int, non_str, non_lst, non_exc, non_amt, non_rule, non_trial, items_l, items_t, dSl_l, dOf_1, zip_l, enm_l, bEq_int, bNe_int, fold_amt, fold_rule, fold_trial, ix_amt0, ix_amt1, ix_rule0, ix_rule1, ix_trial0, ix_trial1, bindT_amt, bindT_rule, bindT_trial, List.length_map, big_0, big_1, big_2, big_3]) (ixN_nat (by simpa using hb))) ?_
  refine Wp.ret (d := ruleD (r.1, swapL 0 a b r.2)) ?_ rfl
  simp only [set_map, mFun, startR, ess, es, ev, evs, evo, evc, evl, evi, sSeq, sNil, sRet, sExp, sAsg, sOwn, sIf, sFor, sRaise, sAug, sMut, sSet, sFrz, frzR, mVar, mCst, mBin, mUn, mAnd, mOr, mIf, mChn, mNil, mCons, mSeq, mLst, mLen, mOf, mSl, mNo, mPt, mCall, mPri, mBmt, mOix, mOcmp, mISeq, mIBi, bind_ok, bind_exc, bind_bad, toS_ok, toS_exc, toS_bad, nx_ok, ofB_bl, lift_some, lift_none, bindT_nm, bindT_tp, bindTs_nil, bindTs_cons, bop, isi_ii, isi_bi, isi_bb, isi_tt, isi_ll, List.map_cons, List.map_nil, List.length_cons, List.length_nil, List.cons_append, List.nil_append, Nat.sub_self, List.replicate_zero, List.replicate_succ, List.getElem?_cons_succ, List.getElem?_cons_zero, List.set_cons_zero, List.set_cons_succ, Option.bind_some, Option.map_some, if_true, Bool.true_and, Bool.and_true, Bool.and_self, Bool.not_true, Bool.not_false, Bool.false_eq_true, if_false, ite_true, ite_false, reduceCtorEq, n1, n2, beq_self_eq_true, dIx_l, dIx_t, bAdd_int, bSub_int, dNeg_int, dNot_bl, bLt_int, bLe_int, bGt_int, bGe_int, bIs_non, bIsn_non, bIs_bl, bIsn_bl, non_non, non_int, non_str, non_lst, non_exc, non_amt, non_rule, non_trial, items_l, items_t, dSl_l, dOf_1, zip_l, enm_l, bEq_int, bNe_int, fold_amt, fold_rule, fold_trial, ix_amt0, ix_amt1, ix_rule0, ix_rule1, ix_trial0, ix_trial1, bindT_amt, bindT_rule, bindT_trial, List.length_map, big_0, big_1, big_2, big_3]
  rfl
def SpInUnits (φ : MF) : Prop := ∀ r ss u w, RuleB 1000 r → Oks 400 ss → ss.length = r.2.length → Ok 400 u → φ [ruleD r, amts ss, amt u] w = .ok (ruleD (divQ (prodGo r.1 r.2 ss) u, r.2)) w
theorem sp_in_units (T : Tab) (i j k l m n : Nat) (B : TB T) (hi : SpQuotient (T.f i)) (hj : SpProduct (T.f j)) (hk : SpPower (T.f k)) (hl : SpCkAmount (T.f l)) (hm : SpCkAmounts (T.f m)) (hn : SpCkRule (T.f n)) : SpInUnits (mFun 6 (ess T (b_in_units i j k l m n))) := by
  intro r ss u w hr hs hls hu
  have h3 := hr.p.1
  have e1 := hm ss (r.2.length : Int) w hs.am (by rw [hls]) (by omega)
  refine fun_wp ?_
  rw [b_in_units]
  refine Wp.stay (by simp only [mFun, startR, ess, es, ev, evs, evo, evc, evl, evi, sSeq, sNil, sRet, sExp, sAsg, sOwn, sIf, sFor, sRaise, sAug, sMut, sSet, sFrz, frzR, mVar, mCst, mBin, mUn, mAnd, mOr, mIf, mChn, mNil, mCons, mSeq, mLst, mLen, mOf, mSl, mNo, mPt, mCall, mPri, mBmt, mOix, mOcmp, mISeq, mIBi, bind_ok, bind_exc, bind_bad, toS_ok, toS_exc, toS_bad, nx_ok, ofB_bl, lift_some, lift_none, bindT_nm, bindT_tp, bindTs_nil, bindTs_cons, bop, isi_ii, isi_bi, isi_bb, isi_tt, isi_ll, List.map_cons, List.map_nil, List.length_cons, List.length_nil, List.cons_append, List.nil_append, Nat.sub_self, List.replicate_zero, List.replicate_succ, List.getElem?_cons_succ, List.getElem?_cons_zero, List.set_cons_zero, List.set_cons_succ, Option.bind_some, Option.map_some, if_true, Bool.true_and, Bool.and_true, Bool.and_self, Bool.not_true, Bool.not_false, Bool.false_eq_true, if_false, ite_true, ite_false, reduceCtorEq, n1, n2, beq_self_eq_true, dIx_l, dIx_t, bAdd_int, bSub_int, dNeg_int, dNot_bl, bLt_int, bLe_int, bGt_int, bGe_int, bIs_non, bIsn_non, bIs_bl, bIsn_bl, non_non, non_int, non_str, non_lst, non_exc, non_amt, non_rule, non_trial, items_l, items_t, dSl_l, dOf_1, zip_l, enm_l, bEq_int, bNe_int, fold_amt, fold_rule, fold_trial, ix_amt0, ix_amt1, ix_rule0, ix_rule1, ix_trial0, ix_trial1, bindT_amt, bindT_rule, bindT_trial, List.length_map, big_0, big_1, big_2, big_3, hn r w hr.a]) ?_
  refine Wp.stay (by simp only [mFun, startR, ess, es, ev, evs, evo, evc, evl, evi, sSeq, sNil, sRet, sExp, sAsg, sOwn, sIf, sFor, sRaise, sAug, sMut, sSet, sFrz, frzR, mVar, mCst, mBin, mUn, mAnd, mOr, mIf, mChn, mNil, mCons, mSeq, mLst, mLen, mOf, mSl, mNo, mPt, mCall, mPri, mBmt, mOix, mOcmp, mISeq, mIBi, bind_ok, bind_exc, bind_bad, toS_ok, toS_exc, toS_bad, nx_ok, ofB_bl, lift_some, lift_none, bindT_nm, bindT_tp, bindTs_nil, bindTs_cons, bop, isi_ii, isi_bi, isi_bb, isi_tt, isi_ll, List.map_cons, List.map_nil, List.length_cons, List.length_nil, List.cons_append, List.nil_append, Nat.sub_self, List.replicate_zero, List.replicate_succ, List.getElem?_cons_succ, List.getElem?_cons_zero, List.set_cons_zero, List.set_cons_succ, Option.bind_some, Option.map_some, if_true, Bool.true_and, Bool.and_true, Bool.and_self, Bool.not_true, Bool.not_false, Bool.false_eq_true, if_false, ite_true, ite_false, reduceCtorEq, n1, n2, beq_self_eq_true, dIx_l, dIx_t, bAdd_int, bSub_int, dNeg_int, dNot_bl, bLt_int, bLe_int, bGt_int, bGe_int, bIs_non, bIsn_non, bIs_bl, bIsn_bl, non_non, non_int, non_str, non_lst, non_exc, non_amt, non_rule, non_trial, items_l, items_t, dSl_l, dOf_1, zip_l, enm_l, bEq_int, bNe_int, fold_amt, fold_rule, fold_trial, ix_amt0, ix_amt1, ix_rule0, ix_rule1, ix_trial0, ix_trial1, bindT_amt, bindT_rule, bindT_trial, List.length_map, big_0, big_1, big_2, big_3, e1, B.p, p0, len_lst]) ?_
  refine Wp.stay (by simp only [mFun, startR, ess, es, ev, evs, evo, evc, evl, evi, sSeq, sNil, sRet, sExp, sAsg, sOwn, sIf, sFor, sRaise, sAug, sMut, sSet, sFrz, frzR, mVar, mCst, mBin, mUn, mAnd, mOr, mIf, mChn, mNil, mCons, mSeq, mLst, mLen, mOf, mSl, mNo, mPt, mCall, mPri, mBmt, mOix, mOcmp, mISeq, mIBi, bind_ok, bind_exc, bind_bad, toS_ok, toS_exc, toS_bad, nx_ok, ofB_bl, lift_some, lift_none, bindT_nm, bindT_tp, bindTs_nil, bindTs_cons, bop, isi_ii, isi_bi, isi_bb, isi_tt, isi_ll, List.map_cons, List.map_nil, List.length_cons, List.length_nil, List.cons_append, List.nil_append, Nat.sub_self, List.replicate_zero, List.replicate_succ, List.getElem?_cons_succ, List.getElem?_cons_zero, List.set_cons_zero, List.set_cons_succ, Option.bind_some, Option.map_some, if_true, Bool.true_and, Bool.and_true, Bool.and_self, Bool.not_true, Bool.not_false, Bool.false_eq_true, if_false, ite_true, ite_false, reduceCtorEq, n1, n2, beq_self_eq_true, dIx_l, dIx_t, bAdd_int, bSub_int, dNeg_int, dNot_bl, bLt_int, bLe_int, bGt_int, bGe_int, bIs_non, bIsn_non, bIs_bl, bIsn_bl, non_non, non_int, non_str, non_lst, non_exc, non_amt, non_rule, non_trial, items_l, items_t, dSl_l, dOf_1, zip_l, enm_l, bEq_int, bNe_int, fold_amt, fold_rule, fold_trial, ix_amt0, ix_amt1, ix_rule0, ix_rule1, ix_trial0, ix_trial1, bindT_amt, bindT_rule, bindT_trial, List.length_map, big_0, big_1, big_2, big_3, hl u w hu.am]) ?_
  refine Wp.step (by simp only [mFun, startR, ess, es, ev, evs, evo, evc, evl, evi, sSeq, sNil, sRet, sExp, sAsg, sOwn, sIf, sFor, sRaise, sAug, sMut, sSet, sFrz, frzR, mVar, mCst, mBin, mUn, mAnd, mOr, mIf, mChn, mNil, mCons, mSeq, mLst, mLen, mOf, mSl, mNo, mPt, mCall, mPri, mBmt, mOix, mOcmp, mISeq, mIBi, bind_ok, bind_exc, bind_bad, toS_ok, toS_exc, toS_bad, nx_ok, ofB_bl, lift_some, lift_none, bindT_nm, bindT_tp, bindTs_nil, bindTs_cons, bop, isi_ii, isi_bi, isi_bb, isi_tt, isi_ll, List.map_cons, List.map_nil, List.length_cons, List.length_nil, List.cons_append, List.nil_append, Nat.sub_self, List.replicate_zero, List.replicate_succ, List.getElem?_cons_succ, List.getElem?_cons_zero, List.set_cons_zero, List.set_cons_succ, Option.bind_some, Option.map_some, if_true, Bool.true_and, Bool.and_true, Bool.and_self, Bool.not_true, Bool.not_false, Bool.false_eq_true, if_false, ite_true, ite_false, reduceCtorEq, n1, n2, beq_self_eq_true, dIx_l, dIx_t, bAdd_int, bSub_int, dNeg_int, dNot_bl, bLt_int, bLe_int, bGt_int, bGe_int, bIs_non, bIsn_non, bIs_bl, bIsn_bl, non_non, non_int, non_str, non_lst, non_exc, non_amt, non_rule, non_trial, items_l, items_t, dSl_l, dOf_1, zip_l, enm_l, bEq_int, bNe_int, fold_amt, fold_rule, fold_trial, ix_amt0, ix_amt1, ix_rule0, ix_rule1, ix_trial0, ix_trial1, bindT_amt, bindT_rule, bindT_trial, List.length_map, big_0, big_1, big_2, big_3]; rfl) ?_
  refine Wp.for' (enc := fun p : Int × (Int × Int) => D.tup [.int p.1, amt p.2]) (xs := r.2.zip ss) (fun xs r' w' => ∃ acc s4 s5, r' = [.dat (ruleD r), .dat (amts ss), .dat (amt u), .dat (amt acc), s4, s5] ∧ w' = w ∧ (∃ n, Ok n acc ∧ n + xs.length * 1201 ≤ 4603) ∧ (∀ p ∈ xs, -3 ≤ p.1 ∧ p.1 ≤ 3 ∧ Ok 400 p.2) ∧ xs.foldl (fun a p => mulQ a (powQ p.2 p.1)) acc = prodGo r.1 r.2 ss) ?_ ?_ ?_ ?_ (w' := w)
  · simp only [mFun, startR, ess, es, ev, evs, evo, evc, evl, evi, sSeq, sNil, sRet, sExp, sAsg, sOwn, sIf, sFor, sRaise, sAug, sMut, sSet, sFrz, frzR, mVar, mCst, mBin, mUn, mAnd, mOr, mIf, mChn, mNil, mCons, mSeq, mLst, mLen, mOf, mSl, mNo, mPt, mCall, mPri, mBmt, mOix, mOcmp, mISeq, mIBi, bind_ok, bind_exc, bind_bad, toS_ok, toS_exc, toS_bad, nx_ok, ofB_bl, lift_some, lift_none, bindT_nm, bindT_tp, bindTs_nil, bindTs_cons, bop, isi_ii, isi_bi, isi_bb, isi_tt, isi_ll, List.map_cons, List.map_nil, List.length_cons, List.length_nil, List.cons_append, List.nil_append, Nat.sub_self, List.replicate_zero, List.replicate_succ, List.getElem?_cons_succ, List.getElem?_cons_zero, List.set_cons_zero, List.set_cons_succ, Option.bind_some, Option.map_some, if_true, Bool.true_and, Bool.and_true, Bool.and_self, Bool.not_true, Bool.not_false, Bool.false_eq_true, if_false, ite_true, ite_false, reduceCtorEq, n1, n2, beq_self_eq_true, dIx_l, dIx_t, bAdd_int, bSub_int, dNeg_int, dNot_bl, bLt_int, bLe_int, bGt_int, bGe_int, bIs_non, bIsn_non, bIs_bl, bIsn_bl, non_non, non_int, non_str, non_lst, non_exc, non_amt, non_rule, non_trial, items_l, items_t, dSl_l, dOf_1, zip_l, enm_l, bEq_int, bNe_int, fold_amt, fold_rule, fold_trial, ix_amt0, ix_amt1, ix_rule0, ix_rule1, ix_trial0, ix_trial1, bindT_amt, bindT_rule, bindT_trial, List.length_map, big_0, big_1, big_2, big_3, zip_map]
  · refine ⟨r.1, _, _, rfl, rfl, ⟨1000, hr.f, ?_⟩, fun p hp => ?_, (prodGo_fold r.2 ss r.1).symm⟩
    · rw [List.length_zip]
      omega
    · obtain ⟨p1, p2⟩ := p
      obtain ⟨h1, h2⟩ := List.of_mem_zip hp
      exact ⟨(hr.p.2 _ h1).1, (hr.p.2 _ h1).2, hs _ h2⟩
  · rintro p xs r' w' ⟨acc, s4, s5, rfl, rfl, ⟨m1, ha, hb⟩, hx, hf⟩
    obtain ⟨q1, q2, q3⟩ := hx p List.mem_cons_self
    have hp := powQ_ok q3 q1 q2
    rw [List.length_cons, Nat.add_mul] at hb
    refine ⟨_, _, w', by simp only [bindT_pair, mFun, startR, ess, es, ev, evs, evo, evc, evl, evi, sSeq, sNil, sRet, sExp, sAsg, sOwn, sIf, sFor, sRaise, sAug, sMut, sSet, sFrz, frzR, mVar, mCst, mBin, mUn, mAnd, mOr, mIf, mChn, mNil, mCons, mSeq, mLst, mLen, mOf, mSl, mNo, mPt, mCall, mPri, mBmt, mOix, mOcmp, mISeq, mIBi, bind_ok, bind_exc, bind_bad, toS_ok, toS_exc, toS_bad, nx_ok, ofB_bl, lift_some, lift_none, bindT_nm, bindT_tp, bindTs_nil, bindTs_cons, bop, isi_ii, isi_bi, isi_bb, isi_tt, isi_ll, List.map_cons, List.map_nil, List.length_cons, List.length_nil, List.cons_append, List.nil_append, Nat.sub_self, List.replicate_zero, List.replicate_succ, List.getElem?_cons_succ, List.getElem?_cons_zero, List.set_cons_zero, List.set_cons_succ, Option.bind_some, Option.map_some, if_true, Bool.true_and, Bool.and_true, Bool.and_self, Bool.not_true, Bool.not_false, Bool.false_eq_true, if_false, ite_true, ite_false, reduceCtorEq, n1, n2, beq_self_eq_true, dIx_l, dIx_t, bAdd_int, bSub_int, dNeg_int, dNot_bl, bLt_int, bLe_int, bGt_int, bGe_int, bIs_non, bIsn_non, bIs_bl, bIsn_bl, non_non, non_int, non_str, non_lst, non_exc, non_amt, non_rule, non_trial, items_l, items_t, dSl_l, dOf_1, zip_l, enm_l, bEq_int, bNe_int, fold_amt, fold_rule, fold_trial, ix_amt0, ix_amt1, ix_rule0, ix_rule1, ix_trial0, ix_trial1, bindT_amt, bindT_rule, bindT_trial, List.length_map, big_0, big_1, big_2, big_3]; rfl, by simp only [mFun, startR, ess, es, ev, evs, evo, evc, evl, evi, sSeq, sNil, sRet, sExp, sAsg, sOwn, sIf, sFor, sRaise, sAug, sMut, sSet, sFrz, frzR, mVar, mCst, mBin, mUn, mAnd, mOr, mIf, mChn, mNil, mCons, mSeq, mLst, mLen, mOf, mSl, mNo, mPt, mCall, mPri, mBmt, mOix, mOcmp, mISeq, mIBi, bind_ok, bind_exc, bind_bad, toS_ok, toS_exc, toS_bad, nx_ok, ofB_bl, lift_some, lift_none, bindT_nm, bindT_tp, bindTs_nil, bindTs_cons, bop, isi_ii, isi_bi, isi_bb, isi_tt, isi_ll, List.map_cons, List.map_nil, List.length_cons, List.length_nil, List.cons_append, List.nil_append, Nat.sub_self, List.replicate_zero, List.replicate_succ, List.getElem?_cons_succ, List.getElem?_cons_zero, List.set_cons_zero, List.set_cons_succ, Option.bind_some, Option.map_some, if_true, Bool.true_and, Bool.and_true, Bool.and_self, Bool.not_true, Bool.not_false, Bool.false_eq_true, if_false, ite_true, ite_false, reduceCtorEq, n1, n2, beq_self_eq_true, dIx_l, dIx_t, bAdd_int, bSub_int, dNeg_int, dNot_bl, bLt_int, bLe_int, bGt_int, bGe_int, bIs_non, bIsn_non, bIs_bl, bIsn_bl, non_non, non_int, non_str, non_lst, non_exc, non_amt, non_rule, non_trial, items_l, items_t, dSl_l, dOf_1, zip_l, enm_l, bEq_int, bNe_int, fold_amt, fold_rule, fold_trial, ix_amt0, ix_amt1, ix_rule0, ix_rule1, ix_trial0, ix_trial1, bindT_amt, bindT_rule, bindT_trial, List.length_map, big_0, big_1, big_2, big_3, hk _ _ _ w' q3 q1 q2 (by omega), hj _ _ _ _ w' ha hp (by omega)]; rfl, mulQ acc (powQ p.2 p.1), _, _, rfl, rfl, ⟨_, ha.mul hp, by omega⟩, fun p' h' => hx p' (List.mem_cons_of_mem _ h'), ?_⟩
    rw [← hf, List.foldl_cons]
  · rintro r' w' ⟨acc, s4, s5, rfl, rfl, ⟨m1, ha, hb⟩, hx, hf⟩
    rw [List.foldl_nil] at hf
    rw [← hf]
    refine Wp.ret ?_ rfl
    simp only [mFun, startR, ess, es, ev, evs, evo, evc, evl, evi, sSeq, sNil, sRet, sExp, sAsg, sOwn, sIf, sFor, sRaise, sAug, sMut, sSet, sFrz, frzR, mVar, mCst, mBin, mUn, mAnd, mOr, mIf, mChn, mNil, mCons, mSeq, mLst, mLen, mOf, mSl, mNo, mPt, mCall, mPri, mBmt, mOix, mOcmp, mISeq, mIBi, bind_ok, bind_exc, bind_bad, toS_ok, toS_exc, toS_bad, nx_ok, ofB_bl, lift_some, lift_none, bindT_nm, bindT_tp, bindTs_nil, bindTs_cons, bop, isi_ii, isi_bi, isi_bb, isi_tt, isi_ll, List.map_cons, List.map_nil, List.length_cons, List.length_nil, List.cons_append, List.nil_append, Nat.sub_self, List.replicate_zero, List.replicate_succ, List.getElem?_cons_succ, List.getElem?_cons_zero, List.set_cons_zero, List.set_cons_succ, Option.bind_some, Option.map_some, if_true, Bool.true_and, Bool.and_true, Bool.and_self, Bool.not_true, Bool.not_false, Bool.false_eq_true, if_false, ite_true, ite_false, reduceCtorEq, n1, n2, beq_self_eq_true, dIx_l, dIx_t, bAdd_int, bSub_int, dNeg_int, dNot_bl, bLt_int, bLe_int, bGt_int, bGe_int, bIs_non, bIsn_non, bIs_bl, bIsn_bl, non_non, non_int, non_str, non_lst, non_exc, non_amt, non_rule, non_trial, items_l, items_t, dSl_l, dOf_1, zip_l, enm_l, bEq_int, bNe_int, fold_amt, fold_rule, fold_trial, ix_amt0, ix_amt1, ix_rule0, ix_rule1, ix_trial0, ix_trial1, bindT_amt, bindT_rule, bindT_trial, List.length_map, big_0, big_1, big_2, big_3, hi _ _ _ _ w' ha hu (by omega)]
theorem sp_times (T : Tab) (i : Nat) (h : SpLowest (T.f i)) : SpProduct (mFun 2 (ess T (b__law_times i))) := by
  intro x y n m w hx hy hnm
  refine fun_ret ?_
  have e := h (x.1 * y.1) (x.2 * y.2) w (Int.mul_pos hx.am.1 hy.am.1) (Int.mul_pos hx.am.2.1 hy.am.2.1) (sm_lt (Int.le_of_lt (Int.mul_pos hx.am.1 hy.am.1)) (mul_lt hx.am.1 hy.am.1 hx.bd.1 hy.bd.1) (by have := hx.pos; omega) hnm)
  simp only [b__law_times, mFun, startR, ess, es, ev, evs, evo, evc, evl, evi, sSeq, sNil, sRet, sExp, sAsg, sOwn, sIf, sFor, sRaise, sAug, sMut, sSet, sFrz, frzR, mVar, mCst, mBin, mUn, mAnd, mOr, mIf, mChn, mNil, mCons, mSeq, mLst, mLen, mOf, mSl, mNo, mPt, mCall, mPri, mBmt, mOix, mOcmp, mISeq, mIBi, bind_ok, bind_exc, bind_bad, toS_ok, toS_exc, toS_bad, nx_ok, ofB_bl, lift_some, lift_none, bindT_nm, bindT_tp, bindTs_nil, bindTs_cons, bop, isi_ii, isi_bi, isi_bb, isi_tt, isi_ll, List.map_cons, List.map_nil, List.length_cons, List.length_nil, List.cons_append, List.nil_append, Nat.sub_self, List.replicate_zero, List.replicate_succ, List.getElem?_cons_succ, List.getElem?_cons_zero, List.set_cons_zero, List.set_cons_succ, Option.bind_some, Option.map_some, if_true, Bool.true_and, Bool.and_true, Bool.and_self, Bool.not_true, Bool.not_false, Bool.false_eq_true, if_false, ite_true, ite_false, reduceCtorEq, n1, n2, beq_self_eq_true, dIx_l, dIx_t, bAdd_int, bSub_int, dNeg_int, dNot_bl, bLt_int, bLe_int, bGt_int, bGe_int, bIs_non, bIsn_non, bIs_bl, bIsn_bl, non_non, non_int, non_str, non_lst, non_exc, non_amt, non_rule, non_trial, items_l, items_t, dSl_l, dOf_1, zip_l, enm_l, bEq_int, bNe_int, fold_amt, fold_rule, fold_trial, ix_amt0, ix_amt1, ix_rule0, ix_rule1, ix_trial0, ix_trial1, bindT_amt, bindT_rule, bindT_trial, List.length_map, big_0, big_1, big_2, big_3, bMul_ok (hx.sm1 (by omega)) (hy.sm1 (by omega)), bMul_ok (hx.sm2 (by omega)) (hy.sm2 (by omega)), e]
  rfl
/-! ### the name of an exception -/
def errS : Nat → String
  | 0 => "rule" | 1 => "trials" | 2 => "amounts" | 3 => "number" | 4 => "text" | _ => "none"
def SpError (φ : MF) : Prop := ∀ (k : Nat) w, k < 6 → φ [.exc k] w = .ok (.str (errS k)) w
theorem b0 : (bmtTab.getD 0 (Str.empty, fun _ _ => none)).2 = dCount := rfl
theorem b1 : (bmtTab.getD 1 (Str.empty, fun _ _ => none)).2 = dIndex := rfl
theorem sp_error (T : Tab) (B : TB T) (hx : TX T) : SpError (mFun 2 (ess T b__law_error)) := by
  intro k w hk
  refine fun_ret ?_
  have b3 : (0 + 1 + 1 + 1 + (0 + 1 + 1 + 1) ≤ big) = True := by decide
  have b6 : (0 + 1 + 1 + 1 + 1 + 1 + 1 ≤ big) = True := by decide
  match k, hk with
  | 0, _ => simp only [b__law_error, mFun, startR, ess, es, ev, evs, evo, evc, evl, evi, sSeq, sNil, sRet, sExp, sAsg, sOwn, sIf, sFor, sRaise, sAug, sMut, sSet, sFrz, frzR, mVar, mCst, mBin, mUn, mAnd, mOr, mIf, mChn, mNil, mCons, mSeq, mLst, mLen, mOf, mSl, mNo, mPt, mCall, mPri, mBmt, mOix, mOcmp, mISeq, mIBi, bind_ok, bind_exc, bind_bad, toS_ok, toS_exc, toS_bad, nx_ok, ofB_bl, lift_some, lift_none, bindT_nm, bindT_tp, bindTs_nil, bindTs_cons, bop, bIMul, bAdd, bSub, dNeg, dNot, bLt, bLe, bGt, bGe, bIs, bIsn, isNon, dIx, dSl, isi_ii, isi_bi, isi_bb, isi_tt, isi_ll, dItems, List.map_cons, List.map_nil, List.length_cons, List.length_nil, List.cons_append, List.nil_append, Nat.sub_self, List.replicate_zero, List.replicate_succ, List.getElem?_cons_succ, List.getElem?_cons_zero, List.set_cons_zero, List.set_cons_succ, Option.bind_some, Option.map_some, if_true, Bool.true_and, Bool.and_true, Bool.and_self, Bool.not_true, Bool.not_false, Bool.false_eq_true, if_false, ite_true, ite_false, reduceCtorEq, n1, n2, beq_self_eq_true, hx.c, B.b]; rfl
  | 1, _ => simp only [b__law_error, mFun, startR, ess, es, ev, evs, evo, evc, evl, evi, sSeq, sNil, sRet, sExp, sAsg, sOwn, sIf, sFor, sRaise, sAug, sMut, sSet, sFrz, frzR, mVar, mCst, mBin, mUn, mAnd, mOr, mIf, mChn, mNil, mCons, mSeq, mLst, mLen, mOf, mSl, mNo, mPt, mCall, mPri, mBmt, mOix, mOcmp, mISeq, mIBi, bind_ok, bind_exc, bind_bad, toS_ok, toS_exc, toS_bad, nx_ok, ofB_bl, lift_some, lift_none, bindT_nm, bindT_tp, bindTs_nil, bindTs_cons, bop, bIMul, bAdd, bSub, dNeg, dNot, bLt, bLe, bGt, bGe, bIs, bIsn, isNon, dIx, dSl, isi_ii, isi_bi, isi_bb, isi_tt, isi_ll, dItems, List.map_cons, List.map_nil, List.length_cons, List.length_nil, List.cons_append, List.nil_append, Nat.sub_self, List.replicate_zero, List.replicate_succ, List.getElem?_cons_succ, List.getElem?_cons_zero, List.set_cons_zero, List.set_cons_succ, Option.bind_some, Option.map_some, if_true, Bool.true_and, Bool.and_true, Bool.and_self, Bool.not_true, Bool.not_false, Bool.false_eq_true, if_false, ite_true, ite_false, reduceCtorEq, n1, n2, beq_self_eq_true, hx.c, B.b]; rfl
  | 2, _ => simp only [b__law_error, mFun, startR, ess, es, ev, evs, evo, evc, evl, evi, sSeq, sNil, sRet, sExp, sAsg, sOwn, sIf, sFor, sRaise, sAug, sMut, sSet, sFrz, frzR, mVar, mCst, mBin, mUn, mAnd, mOr, mIf, mChn, mNil, mCons, mSeq, mLst, mLen, mOf, mSl, mNo, mPt, mCall, mPri, mBmt, mOix, mOcmp, mISeq, mIBi, bind_ok, bind_exc, bind_bad, toS_ok, toS_exc, toS_bad, nx_ok, ofB_bl, lift_some, lift_none, bindT_nm, bindT_tp, bindTs_nil, bindTs_cons, bop, bIMul, bAdd, bSub, dNeg, dNot, bLt, bLe, bGt, bGe, bIs, bIsn, isNon, dIx, dSl, isi_ii, isi_bi, isi_bb, isi_tt, isi_ll, dItems, List.map_cons, List.map_nil, List.length_cons, List.length_nil, List.cons_append, List.nil_append, Nat.sub_self, List.replicate_zero, List.replicate_succ, List.getElem?_cons_succ, List.getElem?_cons_zero, List.set_cons_zero, List.set_cons_succ, Option.bind_some, Option.map_some, if_true, Bool.true_and, Bool.and_true, Bool.and_self, Bool.not_true, Bool.not_false, Bool.false_eq_true, if_false, ite_true, ite_false, reduceCtorEq, n1, n2, beq_self_eq_true, hx.c, B.b]; rfl
  | 3, _ => simp only [b__law_error, mFun, startR, ess, es, ev, evs, evo, evc, evl, evi, sSeq, sNil, sRet, sExp, sAsg, sOwn, sIf, sFor, sRaise, sAug, sMut, sSet, sFrz, frzR, mVar, mCst, mBin, mUn, mAnd, mOr, mIf, mChn, mNil, mCons, mSeq, mLst, mLen, mOf, mSl, mNo, mPt, mCall, mPri, mBmt, mOix, mOcmp, mISeq, mIBi, bind_ok, bind_exc, bind_bad, toS_ok, toS_exc, toS_bad, nx_ok, ofB_bl, lift_some, lift_none, bindT_nm, bindT_tp, bindTs_nil, bindTs_cons, bop, bIMul, bAdd, bSub, dNeg, dNot, bLt, bLe, bGt, bGe, bIs, bIsn, isNon, dIx, dSl, isi_ii, isi_bi, isi_bb, isi_tt, isi_ll, dItems, List.map_cons, List.map_nil, List.length_cons, List.length_nil, List.cons_append, List.nil_append, Nat.sub_self, List.replicate_zero, List.replicate_succ, List.getElem?_cons_succ, List.getElem?_cons_zero, List.set_cons_zero, List.set_cons_succ, Option.bind_some, Option.map_some, if_true, Bool.true_and, Bool.and_true, Bool.and_self, Bool.not_true, Bool.not_false, Bool.false_eq_true, if_false, ite_true, ite_false, reduceCtorEq, n1, n2, beq_self_eq_true, hx.c, B.b]; rfl
  | 4, _ => simp only [b__law_error, mFun, startR, ess, es, ev, evs, evo, evc, evl, evi, sSeq, sNil, sRet, sExp, sAsg, sOwn, sIf, sFor, sRaise, sAug, sMut, sSet, sFrz, frzR, mVar, mCst, mBin, mUn, mAnd, mOr, mIf, mChn, mNil, mCons, mSeq, mLst, mLen, mOf, mSl, mNo, mPt, mCall, mPri, mBmt, mOix, mOcmp, mISeq, mIBi, bind_ok, bind_exc, bind_bad, toS_ok, toS_exc, toS_bad, nx_ok, ofB_bl, lift_some, lift_none, bindT_nm, bindT_tp, bindTs_nil, bindTs_cons, bop, bIMul, bAdd, bSub, dNeg, dNot, bLt, bLe, bGt, bGe, bIs, bIsn, isNon, dIx, dSl, isi_ii, isi_bi, isi_bb, isi_tt, isi_ll, dItems, List.map_cons, List.map_nil, List.length_cons, List.length_nil, List.cons_append, List.nil_append, Nat.sub_self, List.replicate_zero, List.replicate_succ, List.getElem?_cons_succ, List.getElem?_cons_zero, List.set_cons_zero, List.set_cons_succ, Option.bind_some, Option.map_some, if_true, Bool.true_and, Bool.and_true, Bool.and_self, Bool.not_true, Bool.not_false, Bool.false_eq_true, if_false, ite_true, ite_false, reduceCtorEq, n1, n2, beq_self_eq_true, hx.c, B.b]; rfl
  | 5, _ => simp only [b__law_error, mFun, startR, ess, es, ev, evs, evo, evc, evl, evi, sSeq, sNil, sRet, sExp, sAsg, sOwn, sIf, sFor, sRaise, sAug, sMut, sSet, sFrz, frzR, mVar, mCst, mBin, mUn, mAnd, mOr, mIf, mChn, mNil, mCons, mSeq, mLst, mLen, mOf, mSl, mNo, mPt, mCall, mPri, mBmt, mOix, mOcmp, mISeq, mIBi, bind_ok, bind_exc, bind_bad, toS_ok, toS_exc, toS_bad, nx_ok, ofB_bl, lift_some, lift_none, bindT_nm, bindT_tp, bindTs_nil, bindTs_cons, bop, bIMul, bAdd, bSub, dNeg, dNot, bLt, bLe, bGt, bGe, bIs, bIsn, isNon, dIx, dSl, isi_ii, isi_bi, isi_bb, isi_tt, isi_ll, dItems, List.map_cons, List.map_nil, List.length_cons, List.length_nil, List.cons_append, List.nil_append, Nat.sub_self, List.replicate_zero, List.replicate_succ, List.getElem?_cons_succ, List.getElem?_cons_zero, List.set_cons_zero, List.set_cons_succ, Option.bind_some, Option.map_some, if_true, Bool.true_and, Bool.and_true, Bool.and_self, Bool.not_true, Bool.not_false, Bool.false_eq_true, if_false, ite_true, ite_false, reduceCtorEq, n1, n2, beq_self_eq_true, hx.c, B.b]; rfl
end RL

/-! fractions above 0 as a group: no program in sight -/
namespace RL
abbrev Fr := {x : Int × Int // Am x}
instance : Mul Fr := ⟨fun x y => ⟨mulQ x.1 y.1, mulQ_am x.2 y.2⟩⟩
instance : OfNat Fr 1 := ⟨⟨(1, 1), one_am⟩⟩
namespace Fr
def inv (x : Fr) : Fr := ⟨invQ x.1, invQ_am x.2⟩
def npow (x : Fr) (n : Nat) : Fr := ⟨powN x.1 n, powN_am x.2 n⟩
def pow (x : Fr) (e : Int) : Fr := ⟨powQ x.1 e, powQ_am x.2 e⟩
variable (x y z : Fr)
theorem mul_val : (x * y).1 = mulQ x.1 y.1 := rfl
theorem one_val : (1 : Fr).1 = (1, 1) := rfl
theorem mul_comm : x * y = y * x := Subtype.ext (mulQ_comm _ _)
theorem mul_assoc : x * y * z = x * (y * z) := Subtype.ext (mulQ_assoc x.2 y.2 z.2)
theorem one_mul : 1 * x = x := Subtype.ext (one_mulQ x.2)
theorem mul_one : x * 1 = x := Subtype.ext (mulQ_one x.2)
instance : Std.Associative (α := Fr) (· * ·) := ⟨mul_assoc⟩
instance : Std.Commutative (α := Fr) (· * ·) := ⟨mul_comm⟩
theorem mul_inv : x * x.inv = 1 := Subtype.ext ((x.2.is.mul x.2.is.inv).eq one_am.is (by
  show x.1.1 * x.1.2 * 1 = 1 * (x.1.2 * x.1.1)
  rw [Int.mul_one, Int.one_mul, Int.mul_comm]))
theorem inv_mul : x.inv * x = 1 := by rw [mul_comm, mul_inv]
theorem inv_inv : x.inv.inv = x := Subtype.ext rfl
theorem inv_one : (1 : Fr).inv = 1 := rfl
variable {x y z}
theorem cancel (h : x * z = y * z) : x = y := by
  have e : x * z * z.inv = y * z * z.inv := by rw [h]
  rwa [mul_assoc, mul_assoc, mul_inv, mul_one, mul_one] at e
theorem cancel_left (h : z * x = z * y) : x = y := cancel (z := z) (by rw [mul_comm x, mul_comm y]; exact h)
theorem cancel_iff : x * z = y * z ↔ x = y := ⟨cancel, fun h => by rw [h]⟩
theorem inv_unique (h : x * y = 1) : y = x.inv := cancel_left (z := x) (by rw [h, mul_inv])
theorem eq_mul_inv : x = y * z.inv ↔ x * z = y := by
  constructor
  · intro h
    rw [h, mul_assoc, inv_mul, mul_one]
  · intro h
    rw [← h, mul_assoc, mul_inv, mul_one]
theorem inv_mul_dist (x y : Fr) : (x * y).inv = x.inv * y.inv := by
  symm
  refine inv_unique ?_
  have : x * y * (x.inv * y.inv) = (x * x.inv) * (y * y.inv) := by ac_rfl
  rw [this, mul_inv, mul_inv, mul_one]
theorem inv_inj (h : x.inv = y.inv) : x = y := by rw [← inv_inv x, h, inv_inv]
variable (x y z)
theorem npow_zero : x.npow 0 = 1 := Subtype.ext (by show powN x.1 0 = (1, 1); simp [powN])
theorem npow_succ (n : Nat) : x.npow (n + 1) = x.npow n * x := Subtype.ext (powN_succ x.2 n).symm
theorem npow_add (m : Nat) : ∀ n, x.npow (m + n) = x.npow m * x.npow n
  | 0 => by rw [Nat.add_zero, npow_zero, mul_one]
  | n + 1 => by rw [← Nat.add_assoc, npow_succ, npow_add m n, npow_succ, mul_assoc]
theorem npow_mul_dist : ∀ n, (x * y).npow n = x.npow n * y.npow n
  | 0 => by rw [npow_zero, npow_zero, npow_zero, mul_one]
  | n + 1 => by
    rw [npow_succ, npow_mul_dist n, npow_succ, npow_succ]
    ac_rfl
theorem pow_nat (n : Nat) : x.pow (n : Int) = x.npow n := Subtype.ext (by
  show powQ x.1 (n : Int) = powN x.1 n
  unfold powQ
  rw [if_pos (by omega)]
  rfl)
theorem pow_negnat (n : Nat) : x.pow (-(n : Int)) = (x.npow n).inv := Subtype.ext (by
  show powQ x.1 (-(n : Int)) = invQ (powN x.1 n)
  unfold powQ
  by_cases h : n = 0
  · subst h
    simp [powN, invQ]
  · rw [if_neg (by omega)]
    simp)
theorem pow_sub (m n : Nat) : x.pow ((m : Int) - (n : Int)) = x.npow m * (x.npow n).inv := by
  by_cases h : n ≤ m
  · obtain ⟨k, rfl⟩ := Nat.le.dest h
    rw [show ((n + k : Nat) : Int) - (n : Int) = (k : Int) by omega, pow_nat, npow_add]
    have : x.npow n * x.npow k * (x.npow n).inv = x.npow k * (x.npow n * (x.npow n).inv) := by ac_rfl
    rw [this, mul_inv, mul_one]
  · obtain ⟨k, rfl⟩ := Nat.le.dest (show m ≤ n by omega)
    rw [show (m : Int) - ((m + k : Nat) : Int) = -(k : Int) by omega, pow_negnat, npow_add, inv_mul_dist]
    have : x.npow m * ((x.npow m).inv * (x.npow k).inv) = (x.npow k).inv * (x.npow m * (x.npow m).inv) := by ac_rfl
    rw [this, mul_inv, mul_one]
theorem int_sub (a : Int) : ∃ m n : Nat, a = (m : Int) - (n : Int) := ⟨a.toNat, (-a).toNat, by omega⟩
theorem pow_add (a b : Int) : x.pow (a + b) = x.pow a * x.pow b := by
  obtain ⟨m, n, rfl⟩ := int_sub a
  obtain ⟨m', n', rfl⟩ := int_sub b
  rw [show (m : Int) - n + (m' - n') = ((m + m' : Nat) : Int) - ((n + n' : Nat) : Int) by omega, pow_sub, pow_sub, pow_sub, npow_add, npow_add, inv_mul_dist]
  ac_rfl
theorem pow_neg (a : Int) : x.pow (-a) = (x.pow a).inv := by
  refine inv_unique ?_
  rw [← pow_add, show a + -a = ((0 : Nat) : Int) by omega, pow_nat, npow_zero]
theorem pow_zero : x.pow 0 = 1 := by
  have := pow_nat x 0
  rw [npow_zero] at this
  exact this
theorem pow_one : x.pow 1 = x := by
  have := pow_nat x 1
  rw [npow_succ, npow_zero, one_mul] at this
  exact this
theorem one_pow (a : Int) : (1 : Fr).pow a = 1 := Subtype.ext (powQ_one a)
theorem inv_npow : ∀ n, x.inv.npow n = (x.npow n).inv
  | 0 => by rw [npow_zero, npow_zero, inv_one]
  | n + 1 => by rw [npow_succ, inv_npow n, npow_succ, inv_mul_dist]
theorem mul_pow (a : Int) : (x * y).pow a = x.pow a * y.pow a := by
  obtain ⟨m, n, rfl⟩ := int_sub a
  rw [pow_sub, pow_sub, pow_sub, npow_mul_dist, npow_mul_dist, inv_mul_dist]
  ac_rfl
theorem inv_pow (a : Int) : x.inv.pow a = (x.pow a).inv := by
  refine inv_unique ?_
  rw [← mul_pow, mul_inv, one_pow]
theorem npow_pos_inj {n : Nat} (hn : n ≠ 0) (h : x.npow n = y.npow n) : x = y := by
  have h1 : x.1.1 ^ n = y.1.1 ^ n := congrArg (fun z : Fr => z.1.1) h
  have h2 : x.1.2 ^ n = y.1.2 ^ n := congrArg (fun z : Fr => z.1.2) h
  have key : ∀ a b : Int, 0 < a → 0 < b → a ^ n = b ^ n → a = b := by
    intro a b ha hb e
    obtain ⟨a, rfl⟩ := Int.eq_ofNat_of_zero_le (Int.le_of_lt ha)
    obtain ⟨b, rfl⟩ := Int.eq_ofNat_of_zero_le (Int.le_of_lt hb)
    have e : a ^ n = b ^ n := by exact_mod_cast e
    have := (Nat.pow_left_inj hn).1 e
    rw [this]
  exact Subtype.ext (Prod.ext (key _ _ x.2.1 y.2.1 h1) (key _ _ x.2.2.1 y.2.2.1 h2))
theorem pow_inj {e : Int} (he : e ≠ 0) (h : x.pow e = y.pow e) : x = y := by
  by_cases h0 : 0 ≤ e
  · obtain ⟨n, rfl⟩ := Int.eq_ofNat_of_zero_le h0
    rw [pow_nat, pow_nat] at h
    exact npow_pos_inj x y (by omega) h
  · obtain ⟨n, hn⟩ := Int.eq_ofNat_of_zero_le (show 0 ≤ -e by omega)
    have e2 : e = -(n : Int) := by omega
    rw [e2, pow_negnat, pow_negnat] at h
    exact npow_pos_inj x y (by omega) (inv_inj h)
theorem npow_one_inj {n : Nat} (hn : n ≠ 0) (h : x.npow n = 1) : x = 1 := npow_pos_inj x 1 hn (by rw [h]; exact (Subtype.ext (by show (1, 1) = powN (1, 1) n; simp [powN, Int.one_pow])))
theorem pow_exp_inj {a b : Int} (hx : x ≠ 1) (h : x.pow a = x.pow b) : a = b := by
  have e : x.pow (a - b) = 1 := by rw [Int.sub_eq_add_neg, pow_add, pow_neg, h, mul_inv]
  by_cases hz : a - b = 0
  · omega
  · have h1 : x.pow (a - b) = (1 : Fr).pow (a - b) := by rw [e, one_pow]
    exact absurd (pow_inj x 1 hz h1) hx
end Fr
open Fr
/-! ### products of powers -/
def prodF : List Int → List Fr → Fr
  | e :: ps, a :: as => a.pow e * prodF ps as
  | _, _ => 1
def prodZ : List (Int × Fr) → Fr
  | [] => 1
  | p :: l => p.2.pow p.1 * prodZ l
theorem prodF_Z : ∀ (ps : List Int) (as : List Fr), prodF ps as = prodZ (ps.zip as)
  | [], _ => by simp [prodF, prodZ]
  | _ :: _, [] => by simp [prodF, prodZ]
  | e :: ps, a :: as => by rw [prodF, List.zip_cons_cons, prodZ, prodF_Z ps as]
theorem prodZ_perm {l m : List (Int × Fr)} (h : l.Perm m) : prodZ l = prodZ m := by
  induction h with
  | nil => rfl
  | cons x _ ih => rw [prodZ, prodZ, ih]
  | swap x y l =>
    rw [prodZ, prodZ, prodZ, prodZ]
    ac_rfl
  | trans _ _ h1 h2 => rw [h1, h2]
theorem prodF_mul : ∀ (ps : List Int) (as bs : List Fr), as.length = bs.length → prodF ps (List.zipWith (· * ·) as bs) = prodF ps as * prodF ps bs
  | [], as, bs, _ => by simp [prodF, mul_one]
  | e :: ps, [], [], _ => by simp [prodF, mul_one]
  | e :: ps, a :: as, b :: bs, h => by
    rw [List.zipWith_cons_cons, prodF, prodF, prodF, prodF_mul ps as bs (by simpa using h), mul_pow]
    ac_rfl
theorem prodF_add : ∀ (ps qs : List Int) (as : List Fr), ps.length = qs.length → prodF (addP ps qs) as = prodF ps as * prodF qs as
  | [], [], as, _ => by simp [addP, prodF, mul_one]
  | p :: ps, q :: qs, [], _ => by simp [addP, prodF, mul_one]
  | p :: ps, q :: qs, a :: as, h => by
    have ih := prodF_add ps qs as (by simpa using h)
    unfold addP at ih ⊢
    rw [List.zipWith_cons_cons, prodF, prodF, prodF, ih, pow_add]
    ac_rfl
theorem prodF_neg : ∀ (ps : List Int) (as : List Fr), prodF (ps.map (- ·)) as = (prodF ps as).inv
  | [], as => by simp [prodF, inv_one]
  | p :: ps, [] => by simp [prodF, inv_one]
  | p :: ps, a :: as => by rw [List.map_cons, prodF, prodF, prodF_neg ps as, pow_neg, inv_mul_dist]
theorem prodF_zero : ∀ (k : Nat) (as : List Fr), prodF (List.replicate k 0) as = 1
  | 0, as => by simp [prodF]
  | k + 1, [] => by simp [prodF, List.replicate_succ]
  | k + 1, a :: as => by rw [List.replicate_succ, prodF, pow_zero, prodF_zero k as, mul_one]
theorem prodF_one : ∀ (ps : List Int) (k : Nat), prodF ps (List.replicate k 1) = 1
  | [], k => by simp [prodF]
  | p :: ps, 0 => by simp [prodF]
  | p :: ps, k + 1 => by rw [List.replicate_succ, prodF, one_pow, prodF_one ps k, mul_one]
theorem prodF_inv : ∀ (ps : List Int) (as : List Fr), prodF ps (as.map inv) = (prodF ps as).inv
  | [], as => by simp [prodF, inv_one]
  | p :: ps, [] => by simp [prodF, inv_one]
  | p :: ps, a :: as => by rw [List.map_cons, prodF, prodF, prodF_inv ps as, inv_pow, inv_mul_dist]
/-- all amounts alike -/
theorem prodF_rep (x : Fr) : ∀ (ps : List Int), prodF ps (List.replicate ps.length x) = x.pow ps.sum
  | [] => by simp [prodF, pow_zero]
  | p :: ps => by rw [List.length_cons, List.replicate_succ, prodF, prodF_rep x ps, List.sum_cons, pow_add]
theorem prodF_drop : ∀ (q : Nat) (ps : List Int) (as : List Fr), q < ps.length → q < as.length → prodF ps as = (as.getD q 1).pow (ps.getD q 0) * prodF (dropAt q ps) (dropAt q as)
  | q, [], as, h, _ => by simp at h
  | q, p :: ps, [], _, h => by simp at h
  | 0, p :: ps, a :: as, _, _ => by simp [prodF, dropAt]
  | q + 1, p :: ps, a :: as, h1, h2 => by
    have ih := prodF_drop q ps as (by simpa using h1) (by simpa using h2)
    unfold dropAt at ih ⊢
    simp only [List.take_succ_cons, List.drop_succ_cons, List.cons_append, prodF, List.getD_cons_succ]
    rw [ih]
    ac_rfl
theorem prodF_set : ∀ (q : Nat) (ps : List Int) (as : List Fr) (x : Fr), q < ps.length → q < as.length → prodF ps (as.set q x) = x.pow (ps.getD q 0) * prodF (dropAt q ps) (dropAt q as)
  | q, [], as, x, h, _ => by simp at h
  | q, p :: ps, [], x, _, h => by simp at h
  | 0, p :: ps, a :: as, x, _, _ => by simp [prodF, dropAt]
  | q + 1, p :: ps, a :: as, x, h1, h2 => by
    have ih := prodF_set q ps as x (by simpa using h1) (by simpa using h2)
    unfold dropAt at ih ⊢
    simp only [List.take_succ_cons, List.drop_succ_cons, List.cons_append, prodF, List.getD_cons_succ, List.set_cons_succ]
    rw [ih]
    ac_rfl
/-! ### two exchanged -/
theorem swap_perm {α : Type} (d : α) {a b : Nat} {xs : List α} (ha : a < xs.length) (hb : b < xs.length) : (swapL d a b xs).Perm xs := by
  unfold swapL
  by_cases h : a = b
  · subst h
    simp only [List.set_set]
    rw [show xs.getD a d = xs[a] by simp [List.getD, ha], List.set_getElem_self]
  · have h1 : xs.getD b d = xs[b] := by simp [List.getD, hb]
    have h2 : xs.getD a d = xs[a] := by simp [List.getD, ha]
    rw [h1, h2]
    exact List.set_set_perm ha hb
theorem swap_zip {α β : Type} (d : α) (e : β) {a b : Nat} {xs : List α} {ys : List β} (h : xs.length = ys.length) (ha : a < xs.length) (hb : b < xs.length) : (swapL d a b xs).zip (swapL e a b ys) = swapL (d, e) a b (xs.zip ys) := by
  have ha' : a < ys.length := by omega
  have hb' : b < ys.length := by omega
  have za : a < (xs.zip ys).length := by rw [List.length_zip]; omega
  have zb : b < (xs.zip ys).length := by rw [List.length_zip]; omega
  unfold swapL
  apply List.ext_getElem
  · simp [List.length_zip]
  · intro i h1 h2
    simp only [List.getElem_zip, List.getElem_set, List.getD, List.getElem?_eq_getElem ha, List.getElem?_eq_getElem hb, List.getElem?_eq_getElem ha', List.getElem?_eq_getElem hb', List.getElem?_eq_getElem za, List.getElem?_eq_getElem zb, Option.getD_some]
    repeat (first | rfl | split)
theorem prodF_swap {a b : Nat} {ps : List Int} {as : List Fr} (h : ps.length = as.length) (ha : a < ps.length) (hb : b < ps.length) : prodF (swapL 0 a b ps) (swapL 1 a b as) = prodF ps as := by
  rw [prodF_Z, prodF_Z, swap_zip 0 1 h ha hb]
  exact prodZ_perm (swap_perm _ (by rw [List.length_zip]; omega) (by rw [List.length_zip]; omega))
/-! ### from pairs of ints to fractions and back -/
instance (x : Int × Int) : Decidable (Am x) := by unfold Am; infer_instance
def toF (x : Int × Int) : Fr := if h : Am x then ⟨x, h⟩ else 1
theorem toF_val {x : Int × Int} (h : Am x) : (toF x).1 = x := by unfold toF; rw [dif_pos h]
theorem toF_of (x : Fr) : toF x.1 = x := Subtype.ext (toF_val x.2)
theorem toF_inj {x y : Int × Int} (hx : Am x) (hy : Am y) (h : toF x = toF y) : x = y := by rw [← toF_val hx, h, toF_val hy]
theorem toF_mul {x y : Int × Int} (hx : Am x) (hy : Am y) : toF (mulQ x y) = toF x * toF y := Subtype.ext (by rw [toF_val (mulQ_am hx hy), mul_val, toF_val hx, toF_val hy])
theorem toF_inv {x : Int × Int} (hx : Am x) : toF (invQ x) = (toF x).inv := Subtype.ext (by rw [toF_val (invQ_am hx)]; show _ = invQ _; rw [toF_val hx])
theorem divQ_mul (x y : Int × Int) : divQ x y = mulQ x (invQ y) := rfl
theorem toF_div {x y : Int × Int} (hx : Am x) (hy : Am y) : toF (divQ x y) = toF x * (toF y).inv := by rw [divQ_mul, toF_mul hx (invQ_am hy), toF_inv hy]
theorem toF_pow {x : Int × Int} (hx : Am x) (e : Int) : toF (powQ x e) = (toF x).pow e := Subtype.ext (by rw [toF_val (powQ_am hx e)]; show _ = powQ _ e; rw [toF_val hx])
theorem toF_one : toF (1, 1) = 1 := toF_of 1
theorem toF_prodGo : ∀ (ps : List Int) (as : List (Int × Int)) (acc : Int × Int), Am acc → Ams as → toF (prodGo acc ps as) = toF acc * prodF ps (as.map toF)
  | [], as, acc, _, _ => by simp [prodGo, prodF, mul_one]
  | p :: ps, [], acc, _, _ => by simp [prodGo, prodF, mul_one]
  | p :: ps, a :: as, acc, h, k => by
    have ha := k a List.mem_cons_self
    rw [prodGo, toF_prodGo ps as _ (mulQ_am h (powQ_am ha p)) fun x m => k x (List.mem_cons_of_mem _ m), toF_mul h (powQ_am ha p), toF_pow ha, List.map_cons, prodF, mul_assoc]
theorem prodQ_am {ps : List Int} {as : List (Int × Int)} (k : Ams as) : Am (prodQ ps as) := prodGo_am ps one_am k
theorem toF_prod {ps : List Int} {as : List (Int × Int)} (k : Ams as) : toF (prodQ ps as) = prodF ps (as.map toF) := by
  unfold prodQ
  rw [toF_prodGo ps as _ one_am k, toF_one, one_mul]
theorem toF_rate {r : Rule} {as : List (Int × Int)} (h : Am r.1) (k : Ams as) : toF (rateQ r as) = toF r.1 * prodF r.2 (as.map toF) := by
  rw [rateQ_go h k, toF_prodGo r.2 as r.1 h k]
theorem map_dropAt {α β : Type} (f : α → β) (q : Nat) (xs : List α) : (dropAt q xs).map f = dropAt q (xs.map f) := by simp [dropAt]
theorem map_swapL {α β : Type} (f : α → β) (d : α) (e : β) {a b : Nat} {xs : List α} (ha : a < xs.length) (hb : b < xs.length) : (swapL d a b xs).map f = swapL e a b (xs.map f) := by simp [swapL, List.getD, ha, hb]
theorem getD_map {α β : Type} (f : α → β) (d : α) (e : β) {q : Nat} {xs : List α} (h : q < xs.length) : (xs.map f).getD q e = f (xs.getD q d) := by simp [List.getD, h]
theorem Ams.dropAt {q : Nat} {xs : List (Int × Int)} (h : Ams xs) : Ams (dropAt q xs) := fun x m => by
  rcases List.mem_append.1 m with m | m
  · exact h x (List.mem_of_mem_take m)
  · exact h x (List.mem_of_mem_drop m)
theorem zip_toF : ∀ (as bs : List (Int × Int)), Ams as → Ams bs → (List.zipWith mulQ as bs).map toF = List.zipWith (· * ·) (as.map toF) (bs.map toF)
  | [], _, _, _ => by simp
  | _ :: _, [], _, _ => by simp
  | a :: as, b :: bs, h, k => by
    rw [List.zipWith_cons_cons, List.map_cons, List.map_cons, List.map_cons, List.zipWith_cons_cons, zip_toF as bs (fun x m => h x (List.mem_cons_of_mem _ m)) (fun x m => k x (List.mem_cons_of_mem _ m)), toF_mul (h a List.mem_cons_self) (k b List.mem_cons_self)]
end RL

namespace RL
open PySem L2
/-! ### statements that draw -/
section
variable {T : Tab} {r r' : Rho} {w w1 w2 : Wd}
theorem asg_ok {t : Tg} {e : E} {d : D} (he : ev T e r w = .ok d w1) (hb : bindT t d r = some r') : es T (.asg t e) r w = .next r' w1 := by
  rw [es, sAsg, he, toS_ok, hb]
theorem ev_tup2 {a b : E} {x y : D} (h1 : ev T a r w = .ok x w1) (h2 : ev T b r w1 = .ok y w2) : ev T (.tup (.cons a (.cons b .nil))) r w = .ok (.tup [x, y]) w2 := by
  simp only [ev, evs, mSeq, mCons, mNil, h1, h2, bind_ok, List.length_cons, List.length_nil, big_2, if_true, lift_some]
theorem ev_var {i : Nat} {d : D} (h : r[i]? = some (.dat d)) : ev T (.var i) r w = .ok d w := by
  simp only [ev, mVar, h]
theorem ev_call1 {f : Nat} {a : E} {x y : D} (h1 : ev T a r w = .ok x w1) (h2 : T.f f [x] w1 = .ok y w2) : ev T (.call f (.cons a .nil)) r w = .ok y w2 := by
  simp only [ev, evs, mCall, mCons, mNil, h1, bind_ok]
  exact h2
theorem ev_call2 {f : Nat} {a b : E} {x y z : D} {w3 : Wd} (h1 : ev T a r w = .ok x w1) (h2 : ev T b r w1 = .ok y w2) (h3 : T.f f [x, y] w2 = .ok z w3) : ev T (.call f (.cons a (.cons b .nil))) r w = .ok z w3 := by
  simp only [ev, evs, mCall, mCons, mNil, h1, h2, bind_ok]
  exact h3
/-- [draw for z in range(n)] -/
theorem ev_draws {α : Type} {enc : α → D} {tb : List (Int × List D)} {P : α → Prop} {e a : E} {z n : Nat} (hw : DW tb w1) (ha : ev T a r w = .ok (.int n) w1) (hn : n ≤ 10000)
    (he : ∀ v w, DW tb w → ∃ x w', ev T e ((r.set z .emp).set z (.dat v)) w = .ok (enc x) w' ∧ P x ∧ DW tb w') :
    ∃ (xs : List α) (w' : Wd), ev T (.lm (.comp e (.nm z) [z] (.rng (.cons a .nil)) .no)) r w = .ok (.lst (xs.map enc)) w' ∧ xs.length = n ∧ (∀ x ∈ xs, P x) ∧ DW tb w' := by
  obtain ⟨xs, w', e1, l1, p1, d1⟩ := comp_draw (f := compF (.nm z) (r.set z .emp) (ev T (.cst (.bl true))) (ev T e)) (g := enc) (P := P) (Q := DW tb) (xs := iota 0 n) hw (by
    intro x hx w hw
    obtain ⟨y, w', e1, p1, d1⟩ := he x w hw
    refine ⟨y, w', ?_, p1, d1⟩
    simp only [compF, bindT_nm, ev, mCst, ofB_bl, nx_ok, bind_ok, if_true]
    rw [e1]
    rfl)
  refine ⟨xs, w', ?_, by rw [l1, iota_length], p1, d1⟩
  have hb : (iota 0 n).length ≤ big := by
    rw [iota_length]
    have : big = 100000 := rfl
    omega
  simp only [ev, evl, mLst, mComp, evi, mIBi, evs, mCons, mNil, ha, bind_ok, rng_n (show n ≤ 1000000 by omega), lift_some, hb, if_true, evc, wipeR]
  simp only [ev] at e1
  rw [e1]
  rfl
/-- [_law_amount(draws) for z in range(s)] -/
theorem ev_amounts {tb : List (Int × List D)} {i d s z n : Nat} (h : SpAmount (T.f i)) (hw : DW tb w) (hd : r[d]? = some (.dat .drw)) (hs : r[s]? = some (.dat (.int n))) (hn : n ≤ 10000) (hz : z ≠ d) :
    ∃ (as : List (Int × Int)) (w' : Wd), ev T (.lm (.comp (.call i (.cons (.var d) .nil)) (.nm z) [z] (.rng (.cons (.var s) .nil)) .no)) r w = .ok (amts as) w' ∧ as.length = n ∧ Oks 4 as ∧ DW tb w' :=
  ev_draws hw (ev_var hs) hn fun v w hw => by
    obtain ⟨x, w', e, hx, d'⟩ := h tb w hw
    refine ⟨x, w', ev_call1 (ev_var ?_) e, hx, d'⟩
    rw [List.getElem?_set_ne hz, List.getElem?_set_ne hz, hd]
end
section
variable {α : Type} [DecidableEq α] {f : α → D} {z : Str}
theorem bNe_D_str (h : En 12 f) (hz : PyData.strOk z = true) (a : α) (hn : ∀ a, eqN 12 (f a) (.str z) = false) : bNe (f a) (.str z) = some (.bl true) := by
  simp only [bNe, h.ok, okD, hz, Bool.and_self, if_true, hn, Bool.not_false]
theorem bEq_D_str (h : En 12 f) (hz : PyData.strOk z = true) (a : α) (hn : ∀ a, eqN 12 (f a) (.str z) = false) : bEq (f a) (.str z) = some (.bl false) := by
  simp only [bEq, h.ok, okD, hz, Bool.and_self, if_true, hn]
theorem bNe_str_D (h : En 12 f) (hz : PyData.strOk z = true) (a : α) (hn : ∀ a, eqN 12 (.str z) (f a) = false) : bNe (.str z) (f a) = some (.bl true) := by
  simp only [bNe, h.ok, okD, hz, Bool.and_self, if_true, hn, Bool.not_false]
theorem bEq_str_D (h : En 12 f) (hz : PyData.strOk z = true) (a : α) (hn : ∀ a, eqN 12 (.str z) (f a) = false) : bEq (.str z) (f a) = some (.bl false) := by
  simp only [bEq, h.ok, okD, hz, Bool.and_self, if_true, hn]
end
theorem bNe_rule_str (r : Rule) {z : Str} (hz : PyData.strOk z = true) : bNe (ruleD r) (.str z) = some (.bl true) := bNe_D_str (en_rule 10) hz r fun _ => rfl
theorem bEq_rule_str (r : Rule) {z : Str} (hz : PyData.strOk z = true) : bEq (ruleD r) (.str z) = some (.bl false) := bEq_D_str (en_rule 10) hz r fun _ => rfl
theorem bNe_str_rule (r : Rule) {z : Str} (hz : PyData.strOk z = true) : bNe (.str z) (ruleD r) = some (.bl true) := bNe_str_D (en_rule 10) hz r fun _ => rfl
theorem bNe_amt_str (r : Int × Int) {z : Str} (hz : PyData.strOk z = true) : bNe (amt r) (.str z) = some (.bl true) := bNe_D_str (en_amt 11) hz r fun _ => rfl
theorem bEq_amt_str (r : Int × Int) {z : Str} (hz : PyData.strOk z = true) : bEq (amt r) (.str z) = some (.bl false) := bEq_D_str (en_amt 11) hz r fun _ => rfl
theorem bNe_str_amt (r : Int × Int) {z : Str} (hz : PyData.strOk z = true) : bNe (.str z) (amt r) = some (.bl true) := bNe_str_D (en_amt 11) hz r fun _ => rfl
theorem bNe_str {z : Str} (hz : PyData.strOk z = true) : bNe (.str z) (.str z) = some (.bl false) := by
  have : eqN 12 (.str z) (.str z) = true := by simp [eqN]
  simp only [bNe, okD, hz, Bool.and_self, if_true, this, Bool.not_true]
theorem bEq_str {z : Str} (hz : PyData.strOk z = true) : bEq (.str z) (.str z) = some (.bl true) := by
  have : eqN 12 (.str z) (.str z) = true := by simp [eqN]
  simp only [bEq, okD, hz, Bool.and_self, if_true, this]
theorem so_rule : PyData.strOk "rule" = true := by decide +kernel
theorem so_none : PyData.strOk "none" = true := by decide +kernel
theorem so_trials : PyData.strOk "trials" = true := by decide +kernel
/-- the greatest and the least of powers -/
theorem dMax_ints {ps : List Int} (h : ps ≠ []) : dMax [.lst (ps.map .int)] = some (.int (maxI ps)) := by
  simp only [dMax, asInts_map, Option.bind_some]
  cases ps with
  | nil => exact absurd rfl h
  | cons => rfl
theorem dMin_ints {ps : List Int} (h : ps ≠ []) : dMin [.lst (ps.map .int)] = some (.int (minI ps)) := by
  simp only [dMin, asInts_map, Option.bind_some]
  cases ps with
  | nil => exact absurd rfl h
  | cons => rfl
theorem max_min_pw {ps : List Int} (h : ps ≠ []) : (decide (maxI ps ≤ 3) && decide (-3 ≤ minI ps)) = ps.all pwB := by
  obtain ⟨a1, a2⟩ := maxI_mem h
  obtain ⟨b1, b2⟩ := minI_mem h
  cases hq : ps.all pwB with
  | true =>
    rw [pw_all] at hq
    have := hq _ a1
    have := hq _ b1
    simp
    omega
  | false =>
    have : ¬ ps.all pwB = true := by rw [hq]; decide
    rw [pw_all] at this
    simp only [Bool.and_eq_false_iff, decide_eq_false_iff_not]
    by_cases h1 : maxI ps ≤ 3
    · by_cases h2 : -3 ≤ minI ps
      · exact absurd (fun e he => by
          have := a2 e he
          have := b2 e he
          omega) this
      · exact .inr h2
    · exact .inl h1
/-! ### the name of an exception that is caught -/
theorem trs0 : (trsTab.getD 0 (Str.empty, [])).2 = [0, 1, 2, 3, 4, 5] := rfl
theorem trs_has {k : Nat} (h : k < 6) : ([0, 1, 2, 3, 4, 5] : List Nat).contains k = true := by
  match k, h with
  | 0, _ => rfl
  | 1, _ => rfl
  | 2, _ => rfl
  | 3, _ => rfl
  | 4, _ => rfl
  | 5, _ => rfl
theorem try_next {T : Tab} {b : Ss} {i j t : Nat} {r r' : Rho} {w w' : Wd} (h : ess T b r w = .next r' w') : es T (.tryK b i j t) r w = .next r' w' := by
  rw [es, sTry, h]
theorem try_exc {T : Tab} {b : Ss} {i j k : Nat} {r r' : Rho} {w w' : Wd} (X : TX T) (h : ess T b r w = .exc k r' w') (hk : k < 6) : es T (.tryK b i j 0) r w = .next (((r'.set i .emp).set j (.dat (.exc k))).set i .emp) w' := by
  rw [es, sTry, h]
  simp only [X.t, trs0, trs_has hk, if_true]
end RL

/-! laws of rates: no program in sight -/
namespace RL
open Fr
section
variable {f g u x : Int × Int} {ps qs : List Int} {as ss : List (Int × Int)}
theorem toF_rate' (h : Am f) (k : Ams as) : toF (rateQ (f, ps) as) = toF f * prodF ps (as.map toF) := toF_rate (r := (f, ps)) h k
theorem zip_am : ∀ {as ss : List (Int × Int)}, Ams as → Ams ss → Ams (List.zipWith mulQ as ss)
  | [], _, _, _ => by intro x m; simp at m
  | _ :: _, [], _, _ => by intro x m; simp at m
  | a :: as, b :: bs, h, k => by
    intro x m
    rw [List.zipWith_cons_cons] at m
    rcases List.mem_cons.1 m with rfl | m
    · exact mulQ_am (h a List.mem_cons_self) (k b List.mem_cons_self)
    · exact zip_am (fun x m => h x (List.mem_cons_of_mem _ m)) (fun x m => k x (List.mem_cons_of_mem _ m)) x m
theorem law_units (hf : Am f) (ha : Ams as) (hs : Ams ss) (hu : Am u) (hl : as.length = ss.length) : mulQ (rateQ (divQ (prodGo f ps ss) u, ps) as) u = rateQ (f, ps) (List.zipWith mulQ as ss) := by
  have h1 := prodGo_am ps hf hs
  have h2 := divQ_am h1 hu
  refine toF_inj (mulQ_am (rateQ_am h2 ha) hu) (rateQ_am hf (zip_am ha hs)) ?_
  rw [toF_mul (rateQ_am h2 ha) hu, toF_rate' h2 ha, toF_div h1 hu, toF_prodGo ps ss f hf hs, toF_rate' hf (zip_am ha hs), zip_toF as ss ha hs, prodF_mul _ _ _ (by simpa using hl)]
  have : toF f * prodF ps (ss.map toF) * (toF u).inv * prodF ps (as.map toF) * toF u = toF f * (prodF ps (as.map toF) * prodF ps (ss.map toF)) * (toF u * (toF u).inv) := by ac_rfl
  rw [this, mul_inv, mul_one]
theorem law_scaled (hf : Am f) (ha : Ams as) (hx : Am x) : rateQ (mulQ f x, ps) as = mulQ (rateQ (f, ps) as) x := by
  refine toF_inj (rateQ_am (mulQ_am hf hx) ha) (mulQ_am (rateQ_am hf ha) hx) ?_
  rw [toF_rate' (mulQ_am hf hx) ha, toF_mul hf hx, toF_mul (rateQ_am hf ha) hx, toF_rate' hf ha]
  ac_rfl
theorem law_product (hf : Am f) (hg : Am g) (ha : Ams as) (hl : ps.length = qs.length) : rateQ (mulQ f g, addP ps qs) as = mulQ (rateQ (f, ps) as) (rateQ (g, qs) as) := by
  refine toF_inj (rateQ_am (mulQ_am hf hg) ha) (mulQ_am (rateQ_am hf ha) (rateQ_am hg ha)) ?_
  rw [toF_rate' (mulQ_am hf hg) ha, toF_mul hf hg, toF_mul (rateQ_am hf ha) (rateQ_am hg ha), toF_rate' hf ha, toF_rate' hg ha, prodF_add ps qs _ hl]
  ac_rfl
theorem law_over (hf : Am f) (ha : Ams as) : mulQ (rateQ (invQ f, ps.map (- ·)) as) (rateQ (f, ps) as) = (1, 1) := by
  have h1 := invQ_am hf
  refine toF_inj (mulQ_am (rateQ_am h1 ha) (rateQ_am hf ha)) one_am ?_
  rw [toF_mul (rateQ_am h1 ha) (rateQ_am hf ha), toF_rate' h1 ha, toF_rate' hf ha, toF_inv hf, prodF_neg, toF_one]
  have : (toF f).inv * (prodF ps (as.map toF)).inv * (toF f * prodF ps (as.map toF)) = (toF f * (toF f).inv) * (prodF ps (as.map toF) * (prodF ps (as.map toF)).inv) := by ac_rfl
  rw [this, mul_inv, mul_inv, mul_one]
theorem law_fixed {q : Nat} (hf : Am f) (ha : Ams as) (h1 : q < ps.length) (h2 : q < as.length) : rateQ (mulQ f (powQ (as.getD q default) (ps.getD q 0)), dropAt q ps) (dropAt q as) = rateQ (f, ps) as := by
  have ham := getD_am ha h2
  have hp := powQ_am ham (ps.getD q 0)
  refine toF_inj (rateQ_am (mulQ_am hf hp) ha.dropAt) (rateQ_am hf ha) ?_
  rw [toF_rate' (mulQ_am hf hp) ha.dropAt, toF_mul hf hp, toF_pow ham, toF_rate' hf ha, map_dropAt, prodF_drop q ps (as.map toF) h1 (by simpa using h2), getD_map toF default 1 h2]
  ac_rfl
theorem Ams.swapL {a b : Nat} (ha : Ams as) (h1 : a < as.length) (h2 : b < as.length) : Ams (swapL default a b as) := fun x m => ha x ((swap_perm default h1 h2).mem_iff.1 m)
theorem law_swapped {a b : Nat} (hf : Am f) (ha : Ams as) (hl : ps.length = as.length) (h1 : a < ps.length) (h2 : b < ps.length) : rateQ (f, swapL 0 a b ps) (swapL default a b as) = rateQ (f, ps) as := by
  have hs := ha.swapL (show a < as.length by omega) (show b < as.length by omega)
  refine toF_inj (rateQ_am hf hs) (rateQ_am hf ha) ?_
  rw [toF_rate' hf hs, toF_rate' hf ha, map_swapL toF default 1 (by omega) (by omega), prodF_swap (by simpa using hl) h1 h2]
theorem swap_same {α : Type} (d : α) {a : Nat} {xs : List α} (h : a < xs.length) : swapL d a a xs = xs := by
  unfold swapL
  rw [List.set_set, show xs.getD a d = xs[a] by simp [List.getD, h], List.set_getElem_self]
end
end RL

/-! roots of fractions: no program in sight -/
namespace RL
open Fr
theorem frac_root {v : Int × Int} (hv : Am v) {d : Nat} (hd : 1 ≤ d) {o1 o2 : Option Nat} (s1 : ∀ c, o1 = some c → 1 ≤ c ∧ ((c ^ d : Nat) : Int) = v.1) (t1 : o1 = none → ∀ c : Nat, ((c ^ d : Nat) : Int) ≠ v.1)
    (s2 : ∀ c, o2 = some c → 1 ≤ c ∧ ((c ^ d : Nat) : Int) = v.2) (t2 : o2 = none → ∀ c : Nat, ((c ^ d : Nat) : Int) ≠ v.2) :
    (∃ a b : Nat, o1 = some a ∧ o2 = some b ∧ Am ((a : Int), (b : Int)) ∧ powN ((a : Int), (b : Int)) d = v) ∨ ((o1 = none ∨ o2 = none) ∧ ∀ x, Am x → powN x d ≠ v) := by
  have no : ∀ x, Am x → powN x d = v → (∃ c : Nat, ((c ^ d : Nat) : Int) = v.1) ∧ ∃ c : Nat, ((c ^ d : Nat) : Int) = v.2 := by
    intro x hx e
    obtain ⟨a, ha⟩ := Int.eq_ofNat_of_zero_le (Int.le_of_lt hx.1)
    obtain ⟨b, hb⟩ := Int.eq_ofNat_of_zero_le (Int.le_of_lt hx.2.1)
    refine ⟨⟨a, ?_⟩, ⟨b, ?_⟩⟩
    · rw [← e]
      show _ = x.1 ^ d
      rw [ha]
      simp
    · rw [← e]
      show _ = x.2 ^ d
      rw [hb]
      simp
  cases o1 with
  | none => exact .inr ⟨.inl rfl, fun x hx e => by
      obtain ⟨⟨c, hc⟩, _⟩ := no x hx e
      exact t1 rfl c hc⟩
  | some a =>
    cases o2 with
    | none => exact .inr ⟨.inr rfl, fun x hx e => by
        obtain ⟨_, ⟨c, hc⟩⟩ := no x hx e
        exact t2 rfl c hc⟩
    | some b =>
      obtain ⟨a1, a2⟩ := s1 a rfl
      obtain ⟨b1, b2⟩ := s2 b rfl
      have e : powN ((a : Int), (b : Int)) d = v := by
        refine Prod.ext ?_ ?_
        · show (a : Int) ^ d = v.1
          rw [← a2]
          simp
        · show (b : Int) ^ d = v.2
          rw [← b2]
          simp
      refine .inl ⟨a, b, rfl, rfl, ⟨by show (0 : Int) < (a : Int); omega, by show (0 : Int) < (b : Int); omega, ?_⟩, e⟩
      show Nat.gcd a b = 1
      have g1 : Nat.gcd a b ∣ a ^ d := Nat.dvd_trans (Nat.gcd_dvd_left a b) (by
        obtain ⟨m, rfl⟩ : ∃ m, d = m + 1 := ⟨d - 1, by omega⟩
        rw [Nat.pow_succ]
        exact Nat.dvd_mul_left _ _)
      have g2 : Nat.gcd a b ∣ b ^ d := Nat.dvd_trans (Nat.gcd_dvd_right a b) (by
        obtain ⟨m, rfl⟩ : ∃ m, d = m + 1 := ⟨d - 1, by omega⟩
        rw [Nat.pow_succ]
        exact Nat.dvd_mul_left _ _)
      have g3 : Nat.gcd (a ^ d) (b ^ d) = 1 := by
        have := hv.2.2
        rw [← a2, ← b2] at this
        exact this
      have := Nat.dvd_gcd g1 g2
      rw [g3] at this
      exact Nat.dvd_one.1 this
/-- x to the power e is v -/
theorem pow_solve {x v : Int × Int} (hx : Am x) (hv : Am v) {e : Int} (he : e ≠ 0) : powN x e.natAbs = (if e < 0 then invQ v else v) ↔ powQ x e = v := by
  by_cases h : e < 0
  · rw [if_pos h]
    unfold powQ
    rw [if_neg (by omega), show (-e).toNat = e.natAbs by omega]
    constructor
    · intro q
      rw [q]
      rfl
    · intro q
      rw [← q]
      rfl
  · rw [if_neg h]
    unfold powQ
    rw [if_pos (by omega), show e.toNat = e.natAbs by omega]
section
variable {f x : Int × Int} {ps : List Int} {as : List (Int × Int)} {q : Nat}
theorem rate_set1 (hf : Am f) (ha : Ams as) (hx : Am x) (h1 : q < ps.length) (h2 : q < as.length) : rateQ (f, ps) (as.set q x) = mulQ (rateQ (f, ps) (as.set q (1, 1))) (powQ x (ps.getD q 0)) := by
  have a1 := ha.set hx q
  have a2 := ha.set one_am q
  have hp := powQ_am hx (ps.getD q 0)
  refine toF_inj (rateQ_am hf a1) (mulQ_am (rateQ_am hf a2) hp) ?_
  rw [toF_rate' hf a1, toF_mul (rateQ_am hf a2) hp, toF_rate' hf a2, toF_pow hx, List.map_set, List.map_set, prodF_set q ps _ _ h1 (by simpa using h2), prodF_set q ps _ _ h1 (by simpa using h2), toF_one, one_pow, one_mul]
  ac_rfl
theorem eq_mul_div {a b c : Int × Int} (ha : Am a) (hb : Am b) (hc : Am c) : mulQ a b = c ↔ b = divQ c a := by
  constructor
  · intro h
    refine toF_inj hb (divQ_am hc ha) ?_
    rw [toF_div hc ha, ← h, toF_mul ha hb]
    have : toF a * toF b * (toF a).inv = toF b * (toF a * (toF a).inv) := by ac_rfl
    rw [this, mul_inv, mul_one]
  · intro h
    refine toF_inj (mulQ_am ha hb) hc ?_
    rw [toF_mul ha hb, h, toF_div hc ha]
    have : toF a * (toF c * (toF a).inv) = toF c * (toF a * (toF a).inv) := by ac_rfl
    rw [this, mul_inv, mul_one]
theorem rate_solve {wanted : Int × Int} (hf : Am f) (ha : Ams as) (hx : Am x) (hw : Am wanted) (h1 : q < ps.length) (h2 : q < as.length) (he : ps.getD q 0 ≠ 0) :
    rateQ (f, ps) (as.set q x) = wanted ↔ powN x (ps.getD q 0).natAbs = (if ps.getD q 0 < 0 then invQ (divQ wanted (rateQ (f, ps) (as.set q (1, 1)))) else divQ wanted (rateQ (f, ps) (as.set q (1, 1)))) := by
  have hr := rateQ_am (r := (f, ps)) hf (ha.set one_am q)
  rw [rate_set1 hf ha hx h1 h2, eq_mul_div hr (powQ_am hx _) hw, ← pow_solve hx (divQ_am hw hr) he]
theorem cross_solve {g : Int × Int} {qs : List Int} (hf : Am f) (hg : Am g) (ha : Ams as) (hx : Am x) (h1 : q < ps.length) (h3 : q < qs.length) (h2 : q < as.length) (he : ps.getD q 0 - qs.getD q 0 ≠ 0) :
    rateQ (f, ps) (as.set q x) = rateQ (g, qs) (as.set q x) ↔ powN x (ps.getD q 0 - qs.getD q 0).natAbs = (if ps.getD q 0 - qs.getD q 0 < 0 then invQ (divQ (rateQ (g, qs) (as.set q (1, 1))) (rateQ (f, ps) (as.set q (1, 1)))) else divQ (rateQ (g, qs) (as.set q (1, 1))) (rateQ (f, ps) (as.set q (1, 1)))) := by
  have hr := rateQ_am (r := (f, ps)) hf (ha.set one_am q)
  have hs := rateQ_am (r := (g, qs)) hg (ha.set one_am q)
  rw [pow_solve hx (divQ_am hs hr) he, rate_set1 hf ha hx h1 h2, rate_set1 hg ha hx h3 h2, ← eq_mul_div hr (powQ_am hx _) hs]
  generalize rateQ (f, ps) (as.set q (1, 1)) = A at *
  generalize rateQ (g, qs) (as.set q (1, 1)) = C at *
  generalize ps.getD q 0 = a at *
  generalize qs.getD q 0 = b at *
  have e : ∀ {u v : Int × Int}, Am u → Am v → (u = v ↔ toF u = toF v) := fun hu hv => ⟨fun h => by rw [h], toF_inj hu hv⟩
  have hpa := powQ_am hx a
  have hpb := powQ_am hx b
  have hpc := powQ_am hx (a - b)
  rw [e (mulQ_am hr hpa) (mulQ_am hs hpb), e (mulQ_am hr hpc) hs, toF_mul hr hpa, toF_mul hs hpb, toF_mul hr hpc, toF_pow hx, toF_pow hx, toF_pow hx]
  have : (toF x).pow a = (toF x).pow (a - b) * (toF x).pow b := by
    rw [← pow_add]
    congr 1
    omega
  rw [this, ← mul_assoc]
  exact cancel_iff
end
/-! ### which is less -/
def ltQ (x y : Int × Int) : Bool := decide (x.1 * y.2 < y.1 * x.2)
end RL

namespace RL
open PySem L2
theorem Wp.whl {T : Tab} {ss b : Ss} {r : Rho} {w : Wd} {P : RS → Prop} {μ : Rho → Nat} {t : E} (v : Rho → Nat) (J K : Rho → Wd → Prop) (h0 : J r w) (hv : v r < μ r)
    (hs : ∀ r w, J r w → (ev T t r w = .ok (.bl false) w ∧ K r w) ∨ (ev T t r w = .ok (.bl true) w ∧ ∃ r2 w2, ess T b r w = .next r2 w2 ∧ J r2 w2 ∧ v r2 < v r)) (k : ∀ r w, K r w → Wp T ss r w P) : Wp T (.cons (.whl μ t b) ss) r w P := by
  refine Wp.thn ?_
  rw [es, sWh]
  have go : ∀ (n : Nat) (r : Rho) (w : Wd), J r w → v r < n → ∃ r' w', whGo (ev T t) (ess T b) n r w = .next r' w' ∧ K r' w' := by
    intro n
    induction n with
    | zero => intro r w _ h; omega
    | succ n ih =>
      intro r w h hn
      rcases hs r w h with ⟨e, k1⟩ | ⟨e, r2, w2, e2, j2, v2⟩
      · exact ⟨r, w, wh_f e, k1⟩
      · obtain ⟨r3, w3, e3, k3⟩ := ih r2 w2 j2 (by omega)
        exact ⟨r3, w3, (wh_go e e2).trans e3, k3⟩
  obtain ⟨r3, w3, e3, k3⟩ := go (μ r) r w h0 hv
  rw [e3]
  exact k r3 w3 k3
theorem sp_less (T : Tab) : ∀ x y n m w, Ok n x → Ok m y → n ≤ 8000 → m ≤ 8000 → mFun 2 (ess T b_less) [amt x, amt y] w = .ok (.bl (ltQ x y)) w := by
  intro x y n m w hx hy h1 h2
  refine fun_ret ?_
  simp only [b_less, mFun, startR, ess, es, ev, evs, evo, evc, evl, evi, sSeq, sNil, sRet, sExp, sAsg, sOwn, sIf, sFor, sRaise, sAug, sMut, sSet, sFrz, frzR, mVar, mCst, mBin, mUn, mAnd, mOr, mIf, mChn, mNil, mCons, mSeq, mLst, mLen, mOf, mSl, mNo, mPt, mCall, mPri, mBmt, mOix, mOcmp, mISeq, mIBi, bind_ok, bind_exc, bind_bad, toS_ok, toS_exc, toS_bad, nx_ok, ofB_bl, lift_some, lift_none, bindT_nm, bindT_tp, bindTs_nil, bindTs_cons, bop, isi_ii, isi_bi, isi_bb, isi_tt, isi_ll, List.map_cons, List.map_nil, List.length_cons, List.length_nil, List.cons_append, List.nil_append, Nat.sub_self, List.replicate_zero, List.replicate_succ, List.getElem?_cons_succ, List.getElem?_cons_zero, List.set_cons_zero, List.set_cons_succ, Option.bind_some, Option.map_some, if_true, Bool.true_and, Bool.and_true, Bool.and_self, Bool.not_true, Bool.not_false, Bool.false_eq_true, if_false, ite_true, ite_false, reduceCtorEq, n1, n2, beq_self_eq_true, dIx_l, dIx_t, bAdd_int, bSub_int, dNeg_int, dNot_bl, bLt_int, bLe_int, bGt_int, bGe_int, bIs_non, bIsn_non, bIs_bl, bIsn_bl, non_non, non_int, non_str, non_lst, non_exc, non_amt, non_rule, non_trial, items_l, items_t, dSl_l, dOf_1, zip_l, enm_l, bEq_int, bNe_int, fold_amt, fold_rule, fold_trial, ix_amt0, ix_amt1, ix_rule0, ix_rule1, ix_trial0, ix_trial1, bindT_amt, bindT_rule, bindT_trial, List.length_map, big_0, big_1, big_2, big_3, bMul_ok (hx.sm1 h1) (hy.sm2 h2), bMul_ok (hy.sm1 h2) (hx.sm2 h1)]
  rfl
def SpLess (φ : MF) : Prop := ∀ x y n m w, Ok n x → Ok m y → n ≤ 8000 → m ≤ 8000 → φ [amt x, amt y] w = .ok (.bl (ltQ x y)) w
theorem sp_less' (T : Tab) : SpLess (mFun 2 (ess T b_less)) := sp_less T
theorem sp_law_less (T : Tab) : SpLess (mFun 2 (ess T b__law_less)) := sp_less T
def SpFaster (φ : MF) : Prop := ∀ r as bs w, RuleB 2000 r → Oks 500 as → Oks 500 bs → as.length = r.2.length → bs.length = r.2.length → φ [ruleD r, amts as, amts bs] w = .ok (.bl (ltQ (rateQ r bs) (rateQ r as))) w
theorem sp_is_faster (T : Tab) (i j k l : Nat) (B : TB T) (hi : SpLess (T.f i)) (hj : SpRateOf (T.f j)) (hk : SpCkAmounts (T.f k)) (hl : SpCkRule (T.f l)) : SpFaster (mFun 3 (ess T (b_is_faster i j k l))) := by
  intro r as bs w hr ha hb la lb
  have h3 := hr.p.1
  refine fun_ret ?_
  have e1 := hk as (r.2.length : Int) w ha.am (by rw [la]) (by omega)
  have e2 := hk bs (r.2.length : Int) w hb.am (by rw [lb]) (by omega)
  have e3 := hj r as 500 2000 w hr.f hr.p ha (by omega) (by omega)
  have e4 := hj r bs 500 2000 w hr.f hr.p hb (by omega) (by omega)
  have e5 := hi _ _ _ _ w (rateQ_ok hr.f hr.p hb) (rateQ_ok hr.f hr.p ha) (by omega) (by omega)
  simp only [b_is_faster, mFun, startR, ess, es, ev, evs, evo, evc, evl, evi, sSeq, sNil, sRet, sExp, sAsg, sOwn, sIf, sFor, sRaise, sAug, sMut, sSet, sFrz, frzR, mVar, mCst, mBin, mUn, mAnd, mOr, mIf, mChn, mNil, mCons, mSeq, mLst, mLen, mOf, mSl, mNo, mPt, mCall, mPri, mBmt, mOix, mOcmp, mISeq, mIBi, bind_ok, bind_exc, bind_bad, toS_ok, toS_exc, toS_bad, nx_ok, ofB_bl, lift_some, lift_none, bindT_nm, bindT_tp, bindTs_nil, bindTs_cons, bop, isi_ii, isi_bi, isi_bb, isi_tt, isi_ll, List.map_cons, List.map_nil, List.length_cons, List.length_nil, List.cons_append, List.nil_append, Nat.sub_self, List.replicate_zero, List.replicate_succ, List.getElem?_cons_succ, List.getElem?_cons_zero, List.set_cons_zero, List.set_cons_succ, Option.bind_some, Option.map_some, if_true, Bool.true_and, Bool.and_true, Bool.and_self, Bool.not_true, Bool.not_false, Bool.false_eq_true, if_false, ite_true, ite_false, reduceCtorEq, n1, n2, beq_self_eq_true, dIx_l, dIx_t, bAdd_int, bSub_int, dNeg_int, dNot_bl, bLt_int, bLe_int, bGt_int, bGe_int, bIs_non, bIsn_non, bIs_bl, bIsn_bl, non_non, non_int, non_str, non_lst, non_exc, non_amt, non_rule, non_trial, items_l, items_t, dSl_l, dOf_1, zip_l, enm_l, bEq_int, bNe_int, fold_amt, fold_rule, fold_trial, ix_amt0, ix_amt1, ix_rule0, ix_rule1, ix_trial0, ix_trial1, bindT_amt, bindT_rule, bindT_trial, List.length_map, big_0, big_1, big_2, big_3, hl r w hr.a, B.p, p0, len_lst, e1, e2, e3, e4, e5]
/-! ### roots -/
theorem mulLoop {T : Tab} {ss : Ss} {w : Wd} {P : RS → Prop} {x0 x2 x3 x4 x6 : Sl} {b m d : Nat} {i : Nat} (hi : i = 2 ∨ i = 4) (hm : [x0, .dat (.int d), x2, x3, x4][i]? = some (.dat (.int m))) (hb : m < 2 ^ b) (h0 : 0 < b) (hd : d ≤ 6) (hbd : b * 6 ≤ 7900) (k : ∀ s, Wp T ss [x0, .dat (.int d), x2, x3, x4, .dat (.int ((m ^ d : Nat) : Int)), s] w P) :
    Wp T (.cons (.for' (.nm 6) (.rng (.cons (.var 1) .nil)) (.cons (.imul 5 (.var i)) .nil)) ss) [x0, .dat (.int d), x2, x3, x4, .dat (.int 1), x6] w P := by
  refine Wp.for' (enc := fun k : Nat => D.int (k : Int)) (xs := List.range d) (w' := w) (fun xs r w' => ∃ s, w' = w ∧ xs.length ≤ d ∧ r = [x0, .dat (.int d), x2, x3, x4, .dat (.int ((m ^ (d - xs.length) : Nat) : Int)), s]) ?_ ?_ ?_ ?_
  · simp only [mFun, startR, ess, es, ev, evs, evo, evc, evl, evi, sSeq, sNil, sRet, sExp, sAsg, sOwn, sIf, sFor, sRaise, sAug, sMut, sSet, sFrz, frzR, mVar, mCst, mBin, mUn, mAnd, mOr, mIf, mChn, mNil, mCons, mSeq, mLst, mLen, mOf, mSl, mNo, mPt, mCall, mPri, mBmt, mOix, mOcmp, mISeq, mIBi, bind_ok, bind_exc, bind_bad, toS_ok, toS_exc, toS_bad, nx_ok, ofB_bl, lift_some, lift_none, bindT_nm, bindT_tp, bindTs_nil, bindTs_cons, bop, isi_ii, isi_bi, isi_bb, isi_tt, isi_ll, List.map_cons, List.map_nil, List.length_cons, List.length_nil, List.cons_append, List.nil_append, Nat.sub_self, List.replicate_zero, List.replicate_succ, List.getElem?_cons_succ, List.getElem?_cons_zero, List.set_cons_zero, List.set_cons_succ, Option.bind_some, Option.map_some, if_true, Bool.true_and, Bool.and_true, Bool.and_self, Bool.not_true, Bool.not_false, Bool.false_eq_true, if_false, ite_true, ite_false, reduceCtorEq, n1, n2, beq_self_eq_true, dIx_l, dIx_t, bAdd_int, bSub_int, dNeg_int, dNot_bl, bLt_int, bLe_int, bGt_int, bGe_int, bIs_non, bIsn_non, bIs_bl, bIsn_bl, non_non, non_int, non_str, non_lst, non_exc, non_amt, non_rule, non_trial, items_l, items_t, dSl_l, dOf_1, zip_l, enm_l, bEq_int, bNe_int, fold_amt, fold_rule, fold_trial, ix_amt0, ix_amt1, ix_rule0, ix_rule1, ix_trial0, ix_trial1, bindT_amt, bindT_rule, bindT_trial, List.length_map, big_0, big_1, big_2, big_3, rng_n (show d ≤ 1000000 by omega), iota0]
  · refine ⟨x6, rfl, by simp, ?_⟩
    simp
  · rintro z xs r w' ⟨s, rfl, hl, rfl⟩
    have s1 : sm ((m ^ (d - (z :: xs).length) : Nat) : Int) = true := by
      refine sm_lt (n := b * 6 + 1) (by omega) ?_ (by omega) (by omega)
      have h1 : m ^ (d - (z :: xs).length) ≤ (2 ^ b) ^ (d - (z :: xs).length) := Nat.pow_le_pow_left (Nat.le_of_lt hb) _
      have h2 : (2 ^ b) ^ (d - (z :: xs).length) ≤ (2 ^ b) ^ 6 := Nat.pow_le_pow_right (Nat.pow_pos (by omega)) (by omega)
      have h5 : (2 ^ b) ^ 6 = 2 ^ (b * 6) := (Nat.pow_mul 2 b 6).symm
      have h3 : 2 ^ (b * 6) < 2 ^ (b * 6 + 1) := Nat.pow_lt_pow_right (by omega) (by omega)
      have h4 : m ^ (d - (z :: xs).length) < 2 ^ (b * 6 + 1) := by omega
      exact_mod_cast h4
    have s2 : sm (m : Int) = true := sm_lt (n := b) (by omega) (by exact_mod_cast hb) h0 (by omega)
    have e : m ^ (d - (z :: xs).length) * m = m ^ (d - xs.length) := by
      rw [← Nat.pow_succ]
      congr 1
      rw [List.length_cons] at hl ⊢
      omega
    refine ⟨[x0, .dat (.int d), x2, x3, x4, .dat (.int ((m ^ (d - (z :: xs).length) : Nat) : Int)), .dat (.int z)], [x0, .dat (.int d), x2, x3, x4, .dat (.int ((m ^ (d - xs.length) : Nat) : Int)), .dat (.int z)], w', by simp only [mFun, startR, ess, es, ev, evs, evo, evc, evl, evi, sSeq, sNil, sRet, sExp, sAsg, sOwn, sIf, sFor, sRaise, sAug, sMut, sSet, sFrz, frzR, mVar, mCst, mBin, mUn, mAnd, mOr, mIf, mChn, mNil, mCons, mSeq, mLst, mLen, mOf, mSl, mNo, mPt, mCall, mPri, mBmt, mOix, mOcmp, mISeq, mIBi, bind_ok, bind_exc, bind_bad, toS_ok, toS_exc, toS_bad, nx_ok, ofB_bl, lift_some, lift_none, bindT_nm, bindT_tp, bindTs_nil, bindTs_cons, bop, isi_ii, isi_bi, isi_bb, isi_tt, isi_ll, List.map_cons, List.map_nil, List.length_cons, List.length_nil, List.cons_append, List.nil_append, Nat.sub_self, List.replicate_zero, List.replicate_succ, List.getElem?_cons_succ, List.getElem?_cons_zero, List.set_cons_zero, List.set_cons_succ, Option.bind_some, Option.map_some, if_true, Bool.true_and, Bool.and_true, Bool.and_self, Bool.not_true, Bool.not_false, Bool.false_eq_true, if_false, ite_true, ite_false, reduceCtorEq, n1, n2, beq_self_eq_true, dIx_l, dIx_t, bAdd_int, bSub_int, dNeg_int, dNot_bl, bLt_int, bLe_int, bGt_int, bGe_int, bIs_non, bIsn_non, bIs_bl, bIsn_bl, non_non, non_int, non_str, non_lst, non_exc, non_amt, non_rule, non_trial, items_l, items_t, dSl_l, dOf_1, zip_l, enm_l, bEq_int, bNe_int, fold_amt, fold_rule, fold_trial, ix_amt0, ix_amt1, ix_rule0, ix_rule1, ix_trial0, ix_trial1, bindT_amt, bindT_rule, bindT_trial, List.length_map, big_0, big_1, big_2, big_3], ?_, .dat (.int z), rfl, by rw [List.length_cons] at hl; omega, rfl⟩
    have hz : ((m ^ (d - (z :: xs).length) : Nat) : Int) * (m : Int) = ((m ^ (d - xs.length) : Nat) : Int) := by
      rw [← e]
      simp
    simp only [List.length_cons] at s1 hz
    rcases hi with rfl | rfl
    · have hm : x2 = .dat (.int m) := by simpa using hm
      subst hm
      simp only [mFun, startR, ess, es, ev, evs, evo, evc, evl, evi, sSeq, sNil, sRet, sExp, sAsg, sOwn, sIf, sFor, sRaise, sAug, sMut, sSet, sFrz, frzR, mVar, mCst, mBin, mUn, mAnd, mOr, mIf, mChn, mNil, mCons, mSeq, mLst, mLen, mOf, mSl, mNo, mPt, mCall, mPri, mBmt, mOix, mOcmp, mISeq, mIBi, bind_ok, bind_exc, bind_bad, toS_ok, toS_exc, toS_bad, nx_ok, ofB_bl, lift_some, lift_none, bindT_nm, bindT_tp, bindTs_nil, bindTs_cons, bop, isi_ii, isi_bi, isi_bb, isi_tt, isi_ll, List.map_cons, List.map_nil, List.length_cons, List.length_nil, List.cons_append, List.nil_append, Nat.sub_self, List.replicate_zero, List.replicate_succ, List.getElem?_cons_succ, List.getElem?_cons_zero, List.set_cons_zero, List.set_cons_succ, Option.bind_some, Option.map_some, if_true, Bool.true_and, Bool.and_true, Bool.and_self, Bool.not_true, Bool.not_false, Bool.false_eq_true, if_false, ite_true, ite_false, reduceCtorEq, n1, n2, beq_self_eq_true, dIx_l, dIx_t, bAdd_int, bSub_int, dNeg_int, dNot_bl, bLt_int, bLe_int, bGt_int, bGe_int, bIs_non, bIsn_non, bIs_bl, bIsn_bl, non_non, non_int, non_str, non_lst, non_exc, non_amt, non_rule, non_trial, items_l, items_t, dSl_l, dOf_1, zip_l, enm_l, bEq_int, bNe_int, fold_amt, fold_rule, fold_trial, ix_amt0, ix_amt1, ix_rule0, ix_rule1, ix_trial0, ix_trial1, bindT_amt, bindT_rule, bindT_trial, List.length_map, big_0, big_1, big_2, big_3, bIMul_int s1 s2, hz]
    · have hm : x4 = .dat (.int m) := by simpa using hm
      subst hm
      simp only [mFun, startR, ess, es, ev, evs, evo, evc, evl, evi, sSeq, sNil, sRet, sExp, sAsg, sOwn, sIf, sFor, sRaise, sAug, sMut, sSet, sFrz, frzR, mVar, mCst, mBin, mUn, mAnd, mOr, mIf, mChn, mNil, mCons, mSeq, mLst, mLen, mOf, mSl, mNo, mPt, mCall, mPri, mBmt, mOix, mOcmp, mISeq, mIBi, bind_ok, bind_exc, bind_bad, toS_ok, toS_exc, toS_bad, nx_ok, ofB_bl, lift_some, lift_none, bindT_nm, bindT_tp, bindTs_nil, bindTs_cons, bop, isi_ii, isi_bi, isi_bb, isi_tt, isi_ll, List.map_cons, List.map_nil, List.length_cons, List.length_nil, List.cons_append, List.nil_append, Nat.sub_self, List.replicate_zero, List.replicate_succ, List.getElem?_cons_succ, List.getElem?_cons_zero, List.set_cons_zero, List.set_cons_succ, Option.bind_some, Option.map_some, if_true, Bool.true_and, Bool.and_true, Bool.and_self, Bool.not_true, Bool.not_false, Bool.false_eq_true, if_false, ite_true, ite_false, reduceCtorEq, n1, n2, beq_self_eq_true, dIx_l, dIx_t, bAdd_int, bSub_int, dNeg_int, dNot_bl, bLt_int, bLe_int, bGt_int, bGe_int, bIs_non, bIsn_non, bIs_bl, bIsn_bl, non_non, non_int, non_str, non_lst, non_exc, non_amt, non_rule, non_trial, items_l, items_t, dSl_l, dOf_1, zip_l, enm_l, bEq_int, bNe_int, fold_amt, fold_rule, fold_trial, ix_amt0, ix_amt1, ix_rule0, ix_rule1, ix_trial0, ix_trial1, bindT_amt, bindT_rule, bindT_trial, List.length_map, big_0, big_1, big_2, big_3, bIMul_int s1 s2, hz]
  · rintro r w' ⟨s, rfl, hl, rfl⟩
    exact k s
def SpRoot (φ : MF) : Prop := ∀ (N D : Nat) w, 1 ≤ N → N < 2 ^ 1300 → 1 ≤ D → D ≤ 6 → ∃ o : Option Nat, φ [.int N, .int D] w = .ok (optI (o.map fun c : Nat => (c : Int))) w ∧ (∀ c, o = some c → 1 ≤ c ∧ c ^ D = N) ∧ (o = none → ∀ c, c ^ D ≠ N)
theorem pow_lt_iff {a b D : Nat} (h : 1 ≤ D) : a ^ D < b ^ D ↔ a < b := by
  constructor
  · intro q
    by_cases hab : a < b
    · exact hab
    · have := Nat.pow_le_pow_left (show b ≤ a by omega) D
      omega
  · intro q
    exact Nat.pow_lt_pow_left q (by omega)
theorem sp_root_of (T : Tab) : SpRoot (mFun 7 (ess T b_root_of)) := by
  intro N D w hN hB hD1 hD6
  suffices h : Wp T b_root_of (startR 7 [.int N, .int D]) w (fun x => ∃ l : Nat, 1 ≤ l ∧ (∀ c, c ^ D = N → c = l) ∧ x = .ret (if l ^ D = N then .int l else .non) w) by
    obtain ⟨l, hl1, hl2, hw⟩ := h
    refine ⟨if l ^ D = N then some l else none, ?_, ?_, ?_⟩
    · rw [fun_ret hw]
      by_cases e : l ^ D = N
      · simp [e, optI]
      · simp [e, optI]
    · intro c hc
      by_cases e : l ^ D = N
      · rw [if_pos e] at hc
        cases hc
        exact ⟨hl1, e⟩
      · rw [if_neg e] at hc
        cases hc
    · intro hc c hq
      by_cases e : l ^ D = N
      · rw [if_pos e] at hc
        cases hc
      · rw [hl2 c hq] at hq
        exact e hq
  rw [b_root_of]
  refine Wp.step (by simp only [mFun, startR, ess, es, ev, evs, evo, evc, evl, evi, sSeq, sNil, sRet, sExp, sAsg, sOwn, sIf, sFor, sRaise, sAug, sMut, sSet, sFrz, frzR, mVar, mCst, mBin, mUn, mAnd, mOr, mIf, mChn, mNil, mCons, mSeq, mLst, mLen, mOf, mSl, mNo, mPt, mCall, mPri, mBmt, mOix, mOcmp, mISeq, mIBi, bind_ok, bind_exc, bind_bad, toS_ok, toS_exc, toS_bad, nx_ok, ofB_bl, lift_some, lift_none, bindT_nm, bindT_tp, bindTs_nil, bindTs_cons, bop, isi_ii, isi_bi, isi_bb, isi_tt, isi_ll, List.map_cons, List.map_nil, List.length_cons, List.length_nil, List.cons_append, List.nil_append, Nat.sub_self, List.replicate_zero, List.replicate_succ, List.getElem?_cons_succ, List.getElem?_cons_zero, List.set_cons_zero, List.set_cons_succ, Option.bind_some, Option.map_some, if_true, Bool.true_and, Bool.and_true, Bool.and_self, Bool.not_true, Bool.not_false, Bool.false_eq_true, if_false, ite_true, ite_false, reduceCtorEq, n1, n2, beq_self_eq_true, dIx_l, dIx_t, bAdd_int, bSub_int, dNeg_int, dNot_bl, bLt_int, bLe_int, bGt_int, bGe_int, bIs_non, bIsn_non, bIs_bl, bIsn_bl, non_non, non_int, non_str, non_lst, non_exc, non_amt, non_rule, non_trial, items_l, items_t, dSl_l, dOf_1, zip_l, enm_l, bEq_int, bNe_int, fold_amt, fold_rule, fold_trial, ix_amt0, ix_amt1, ix_rule0, ix_rule1, ix_trial0, ix_trial1, bindT_amt, bindT_rule, bindT_trial, List.length_map, big_0, big_1, big_2, big_3]; rfl) ?_
  refine Wp.whl (fun r => match r with | [_, _, .dat (.int l), .dat (.int h), _, _, _] => (h - l).toNat | _ => 0)
    (fun r w' => ∃ (l h : Nat) (s4 s5 s6 : Sl), r = [.dat (.int N), .dat (.int D), .dat (.int l), .dat (.int h), s4, s5, s6] ∧ w' = w ∧ 1 ≤ l ∧ l ≤ h ∧ h ≤ N ∧ ∀ c, c ^ D = N → l ≤ c ∧ c ≤ h)
    (fun r w' => ∃ (l : Nat) (s4 s5 s6 : Sl), r = [.dat (.int N), .dat (.int D), .dat (.int l), .dat (.int l), s4, s5, s6] ∧ w' = w ∧ 1 ≤ l ∧ l ≤ N ∧ ∀ c, c ^ D = N → c = l) ?_ ?_ ?_ ?_
  · refine ⟨1, N, _, _, _, rfl, rfl, Nat.le_refl _, hN, Nat.le_refl _, fun c hc => ⟨?_, ?_⟩⟩
    · rcases Nat.eq_zero_or_pos c with rfl | h
      · rw [Nat.zero_pow (by omega)] at hc
        omega
      · exact h
    · rw [← hc]
      exact Nat.le_self_pow (by omega) c
  · show ((N : Int) - 1).toNat < ((N : Int) - 1).toNat + 1
    omega
  · rintro r w' ⟨l, h, s4, s5, s6, rfl, rfl, h1, h2, h3, hc⟩
    by_cases hlt : l < h
    · refine .inr ⟨?_, ?_⟩
      · have : ((l : Int) < (h : Int)) := by omega
        simp only [mFun, startR, ess, es, ev, evs, evo, evc, evl, evi, sSeq, sNil, sRet, sExp, sAsg, sOwn, sIf, sFor, sRaise, sAug, sMut, sSet, sFrz, frzR, mVar, mCst, mBin, mUn, mAnd, mOr, mIf, mChn, mNil, mCons, mSeq, mLst, mLen, mOf, mSl, mNo, mPt, mCall, mPri, mBmt, mOix, mOcmp, mISeq, mIBi, bind_ok, bind_exc, bind_bad, toS_ok, toS_exc, toS_bad, nx_ok, ofB_bl, lift_some, lift_none, bindT_nm, bindT_tp, bindTs_nil, bindTs_cons, bop, isi_ii, isi_bi, isi_bb, isi_tt, isi_ll, List.map_cons, List.map_nil, List.length_cons, List.length_nil, List.cons_append, List.nil_append, Nat.sub_self, List.replicate_zero, List.replicate_succ, List.getElem?_cons_succ, List.getElem?_cons_zero, List.set_cons_zero, List.set_cons_succ, Option.bind_some, Option.map_some, if_true, Bool.true_and, Bool.and_true, Bool.and_self, Bool.not_true, Bool.not_false, Bool.false_eq_true, if_false, ite_true, ite_false, reduceCtorEq, n1, n2, beq_self_eq_true, dIx_l, dIx_t, bAdd_int, bSub_int, dNeg_int, dNot_bl, bLt_int, bLe_int, bGt_int, bGe_int, bIs_non, bIsn_non, bIs_bl, bIsn_bl, non_non, non_int, non_str, non_lst, non_exc, non_amt, non_rule, non_trial, items_l, items_t, dSl_l, dOf_1, zip_l, enm_l, bEq_int, bNe_int, fold_amt, fold_rule, fold_trial, ix_amt0, ix_amt1, ix_rule0, ix_rule1, ix_trial0, ix_trial1, bindT_amt, bindT_rule, bindT_trial, List.length_map, big_0, big_1, big_2, big_3, this, decide_true]
      · have hmid : (((l : Int) + (h : Int)) / 2) = (((l + h) / 2 : Nat) : Int) := by omega
        have hdiv : bDiv (.int ((l : Int) + (h : Int))) (.int 2) = some (.int (((l + h) / 2 : Nat) : Int)) := by
          rw [bDiv_int (by omega) (by decide), hmid]
        generalize hM : (l + h) / 2 = M at hdiv
        have m1 : l ≤ M := by omega
        have m2 : M < h := by omega
        suffices hq : Wp T (.cons (.asg (.nm 4) (.bin .fdiv (.bin .add (.var 2) (.var 3)) (.cst (.int 2)))) (.cons (.asg (.nm 5) (.cst (.int 1))) (.cons (.for' (.nm 6) (.rng (.cons (.var 1) .nil)) (.cons (.imul 5 (.var 4)) .nil)) (.cons (.iff (.bin .lt (.var 5) (.var 0)) (.cons (.asg (.nm 2) (.bin .add (.var 4) (.cst (.int 1)))) .nil) (.cons (.asg (.nm 3) (.var 4)) .nil)) .nil)))) [.dat (.int N), .dat (.int D), .dat (.int l), .dat (.int h), s4, s5, s6] w'
            (fun x => ∃ (l' h' : Nat) (s4 s5 s6 : Sl), x = .next [.dat (.int N), .dat (.int D), .dat (.int l'), .dat (.int h'), s4, s5, s6] w' ∧ 1 ≤ l' ∧ l' ≤ h' ∧ h' ≤ N ∧ (∀ c, c ^ D = N → l' ≤ c ∧ c ≤ h') ∧ h' - l' < h - l) by
          obtain ⟨l', h', t4, t5, t6, e, g1, g2, g3, g4, g5⟩ := hq
          refine ⟨_, _, e, ⟨l', h', t4, t5, t6, rfl, rfl, g1, g2, g3, g4⟩, ?_⟩
          show ((h' : Int) - (l' : Int)).toNat < ((h : Int) - (l : Int)).toNat
          omega
        refine Wp.step (by simp only [mFun, startR, ess, es, ev, evs, evo, evc, evl, evi, sSeq, sNil, sRet, sExp, sAsg, sOwn, sIf, sFor, sRaise, sAug, sMut, sSet, sFrz, frzR, mVar, mCst, mBin, mUn, mAnd, mOr, mIf, mChn, mNil, mCons, mSeq, mLst, mLen, mOf, mSl, mNo, mPt, mCall, mPri, mBmt, mOix, mOcmp, mISeq, mIBi, bind_ok, bind_exc, bind_bad, toS_ok, toS_exc, toS_bad, nx_ok, ofB_bl, lift_some, lift_none, bindT_nm, bindT_tp, bindTs_nil, bindTs_cons, bop, isi_ii, isi_bi, isi_bb, isi_tt, isi_ll, List.map_cons, List.map_nil, List.length_cons, List.length_nil, List.cons_append, List.nil_append, Nat.sub_self, List.replicate_zero, List.replicate_succ, List.getElem?_cons_succ, List.getElem?_cons_zero, List.set_cons_zero, List.set_cons_succ, Option.bind_some, Option.map_some, if_true, Bool.true_and, Bool.and_true, Bool.and_self, Bool.not_true, Bool.not_false, Bool.false_eq_true, if_false, ite_true, ite_false, reduceCtorEq, n1, n2, beq_self_eq_true, dIx_l, dIx_t, bAdd_int, bSub_int, dNeg_int, dNot_bl, bLt_int, bLe_int, bGt_int, bGe_int, bIs_non, bIsn_non, bIs_bl, bIsn_bl, non_non, non_int, non_str, non_lst, non_exc, non_amt, non_rule, non_trial, items_l, items_t, dSl_l, dOf_1, zip_l, enm_l, bEq_int, bNe_int, fold_amt, fold_rule, fold_trial, ix_amt0, ix_amt1, ix_rule0, ix_rule1, ix_trial0, ix_trial1, bindT_amt, bindT_rule, bindT_trial, List.length_map, big_0, big_1, big_2, big_3, hdiv]; rfl) ?_
        refine Wp.step (by simp only [mFun, startR, ess, es, ev, evs, evo, evc, evl, evi, sSeq, sNil, sRet, sExp, sAsg, sOwn, sIf, sFor, sRaise, sAug, sMut, sSet, sFrz, frzR, mVar, mCst, mBin, mUn, mAnd, mOr, mIf, mChn, mNil, mCons, mSeq, mLst, mLen, mOf, mSl, mNo, mPt, mCall, mPri, mBmt, mOix, mOcmp, mISeq, mIBi, bind_ok, bind_exc, bind_bad, toS_ok, toS_exc, toS_bad, nx_ok, ofB_bl, lift_some, lift_none, bindT_nm, bindT_tp, bindTs_nil, bindTs_cons, bop, isi_ii, isi_bi, isi_bb, isi_tt, isi_ll, List.map_cons, List.map_nil, List.length_cons, List.length_nil, List.cons_append, List.nil_append, Nat.sub_self, List.replicate_zero, List.replicate_succ, List.getElem?_cons_succ, List.getElem?_cons_zero, List.set_cons_zero, List.set_cons_succ, Option.bind_some, Option.map_some, if_true, Bool.true_and, Bool.and_true, Bool.and_self, Bool.not_true, Bool.not_false, Bool.false_eq_true, if_false, ite_true, ite_false, reduceCtorEq, n1, n2, beq_self_eq_true, dIx_l, dIx_t, bAdd_int, bSub_int, dNeg_int, dNot_bl, bLt_int, bLe_int, bGt_int, bGe_int, bIs_non, bIsn_non, bIs_bl, bIsn_bl, non_non, non_int, non_str, non_lst, non_exc, non_amt, non_rule, non_trial, items_l, items_t, dSl_l, dOf_1, zip_l, enm_l, bEq_int, bNe_int, fold_amt, fold_rule, fold_trial, ix_amt0, ix_amt1, ix_rule0, ix_rule1, ix_trial0, ix_trial1, bindT_amt, bindT_rule, bindT_trial, List.length_map, big_0, big_1, big_2, big_3]; rfl) ?_
        refine mulLoop (i := 4) (b := 1300) (.inr rfl) rfl (Nat.lt_of_le_of_lt (by omega) hB) (by omega) hD6 (by omega) fun s => ?_
        by_cases hp : M ^ D < N
        · have hp' : ((M ^ D : Nat) : Int) < (N : Int) := by omega
          refine Wp.step (r' := [.dat (.int N), .dat (.int D), .dat (.int ((M + 1 : Nat) : Int)), .dat (.int h), .dat (.int M), .dat (.int ((M ^ D : Nat) : Int)), s]) (w' := w') ?_ (Wp.nil ?_)
          · have hc1 : (M : Int) + 1 = ((M + 1 : Nat) : Int) := by omega
            simp only [mFun, startR, ess, es, ev, evs, evo, evc, evl, evi, sSeq, sNil, sRet, sExp, sAsg, sOwn, sIf, sFor, sRaise, sAug, sMut, sSet, sFrz, frzR, mVar, mCst, mBin, mUn, mAnd, mOr, mIf, mChn, mNil, mCons, mSeq, mLst, mLen, mOf, mSl, mNo, mPt, mCall, mPri, mBmt, mOix, mOcmp, mISeq, mIBi, bind_ok, bind_exc, bind_bad, toS_ok, toS_exc, toS_bad, nx_ok, ofB_bl, lift_some, lift_none, bindT_nm, bindT_tp, bindTs_nil, bindTs_cons, bop, isi_ii, isi_bi, isi_bb, isi_tt, isi_ll, List.map_cons, List.map_nil, List.length_cons, List.length_nil, List.cons_append, List.nil_append, Nat.sub_self, List.replicate_zero, List.replicate_succ, List.getElem?_cons_succ, List.getElem?_cons_zero, List.set_cons_zero, List.set_cons_succ, Option.bind_some, Option.map_some, if_true, Bool.true_and, Bool.and_true, Bool.and_self, Bool.not_true, Bool.not_false, Bool.false_eq_true, if_false, ite_true, ite_false, reduceCtorEq, n1, n2, beq_self_eq_true, dIx_l, dIx_t, bAdd_int, bSub_int, dNeg_int, dNot_bl, bLt_int, bLe_int, bGt_int, bGe_int, bIs_non, bIsn_non, bIs_bl, bIsn_bl, non_non, non_int, non_str, non_lst, non_exc, non_amt, non_rule, non_trial, items_l, items_t, dSl_l, dOf_1, zip_l, enm_l, bEq_int, bNe_int, fold_amt, fold_rule, fold_trial, ix_amt0, ix_amt1, ix_rule0, ix_rule1, ix_trial0, ix_trial1, bindT_amt, bindT_rule, bindT_trial, List.length_map, big_0, big_1, big_2, big_3, hp', decide_true, hc1]
          · refine ⟨M + 1, h, _, _, _, rfl, by omega, by omega, h3, fun c hq => ⟨?_, (hc c hq).2⟩, by omega⟩
            have := (pow_lt_iff (a := M) (b := c) hD1).1 (by rw [hq]; exact hp)
            omega
        · have hp' : ¬ ((M ^ D : Nat) : Int) < (N : Int) := by omega
          refine Wp.step (r' := [.dat (.int N), .dat (.int D), .dat (.int l), .dat (.int M), .dat (.int M), .dat (.int ((M ^ D : Nat) : Int)), s]) (w' := w') ?_ (Wp.nil ?_)
          · simp only [mFun, startR, ess, es, ev, evs, evo, evc, evl, evi, sSeq, sNil, sRet, sExp, sAsg, sOwn, sIf, sFor, sRaise, sAug, sMut, sSet, sFrz, frzR, mVar, mCst, mBin, mUn, mAnd, mOr, mIf, mChn, mNil, mCons, mSeq, mLst, mLen, mOf, mSl, mNo, mPt, mCall, mPri, mBmt, mOix, mOcmp, mISeq, mIBi, bind_ok, bind_exc, bind_bad, toS_ok, toS_exc, toS_bad, nx_ok, ofB_bl, lift_some, lift_none, bindT_nm, bindT_tp, bindTs_nil, bindTs_cons, bop, isi_ii, isi_bi, isi_bb, isi_tt, isi_ll, List.map_cons, List.map_nil, List.length_cons, List.length_nil, List.cons_append, List.nil_append, Nat.sub_self, List.replicate_zero, List.replicate_succ, List.getElem?_cons_succ, List.getElem?_cons_zero, List.set_cons_zero, List.set_cons_succ, Option.bind_some, Option.map_some, if_true, Bool.true_and, Bool.and_true, Bool.and_self, Bool.not_true, Bool.not_false, Bool.false_eq_true, if_false, ite_true, ite_false, reduceCtorEq, n1, n2, beq_self_eq_true, dIx_l, dIx_t, bAdd_int, bSub_int, dNeg_int, dNot_bl, bLt_int, bLe_int, bGt_int, bGe_int, bIs_non, bIsn_non, bIs_bl, bIsn_bl, non_non, non_int, non_str, non_lst, non_exc, non_amt, non_rule, non_trial, items_l, items_t, dSl_l, dOf_1, zip_l, enm_l, bEq_int, bNe_int, fold_amt, fold_rule, fold_trial, ix_amt0, ix_amt1, ix_rule0, ix_rule1, ix_trial0, ix_trial1, bindT_amt, bindT_rule, bindT_trial, List.length_map, big_0, big_1, big_2, big_3, hp', decide_false]
          · refine ⟨l, M, _, _, _, rfl, h1, m1, by omega, fun c hq => ⟨(hc c hq).1, ?_⟩, by omega⟩
            by_cases hcm : M < c
            · have := (pow_lt_iff (a := M) (b := c) hD1).2 hcm
              omega
            · omega
    · have hlh : l = h := by omega
      subst hlh
      refine .inl ⟨?_, l, s4, s5, s6, rfl, rfl, h1, h3, fun c hq => ?_⟩
      · have : ¬ ((l : Int) < (l : Int)) := by omega
        simp only [mFun, startR, ess, es, ev, evs, evo, evc, evl, evi, sSeq, sNil, sRet, sExp, sAsg, sOwn, sIf, sFor, sRaise, sAug, sMut, sSet, sFrz, frzR, mVar, mCst, mBin, mUn, mAnd, mOr, mIf, mChn, mNil, mCons, mSeq, mLst, mLen, mOf, mSl, mNo, mPt, mCall, mPri, mBmt, mOix, mOcmp, mISeq, mIBi, bind_ok, bind_exc, bind_bad, toS_ok, toS_exc, toS_bad, nx_ok, ofB_bl, lift_some, lift_none, bindT_nm, bindT_tp, bindTs_nil, bindTs_cons, bop, isi_ii, isi_bi, isi_bb, isi_tt, isi_ll, List.map_cons, List.map_nil, List.length_cons, List.length_nil, List.cons_append, List.nil_append, Nat.sub_self, List.replicate_zero, List.replicate_succ, List.getElem?_cons_succ, List.getElem?_cons_zero, List.set_cons_zero, List.set_cons_succ, Option.bind_some, Option.map_some, if_true, Bool.true_and, Bool.and_true, Bool.and_self, Bool.not_true, Bool.not_false, Bool.false_eq_true, if_false, ite_true, ite_false, reduceCtorEq, n1, n2, beq_self_eq_true, dIx_l, dIx_t, bAdd_int, bSub_int, dNeg_int, dNot_bl, bLt_int, bLe_int, bGt_int, bGe_int, bIs_non, bIsn_non, bIs_bl, bIsn_bl, non_non, non_int, non_str, non_lst, non_exc, non_amt, non_rule, non_trial, items_l, items_t, dSl_l, dOf_1, zip_l, enm_l, bEq_int, bNe_int, fold_amt, fold_rule, fold_trial, ix_amt0, ix_amt1, ix_rule0, ix_rule1, ix_trial0, ix_trial1, bindT_amt, bindT_rule, bindT_trial, List.length_map, big_0, big_1, big_2, big_3, this, decide_false]
      · have := hc c hq
        omega
  · rintro r w' ⟨l, s4, s5, s6, rfl, rfl, h1, h2, hc⟩
    refine Wp.step (by simp only [mFun, startR, ess, es, ev, evs, evo, evc, evl, evi, sSeq, sNil, sRet, sExp, sAsg, sOwn, sIf, sFor, sRaise, sAug, sMut, sSet, sFrz, frzR, mVar, mCst, mBin, mUn, mAnd, mOr, mIf, mChn, mNil, mCons, mSeq, mLst, mLen, mOf, mSl, mNo, mPt, mCall, mPri, mBmt, mOix, mOcmp, mISeq, mIBi, bind_ok, bind_exc, bind_bad, toS_ok, toS_exc, toS_bad, nx_ok, ofB_bl, lift_some, lift_none, bindT_nm, bindT_tp, bindTs_nil, bindTs_cons, bop, isi_ii, isi_bi, isi_bb, isi_tt, isi_ll, List.map_cons, List.map_nil, List.length_cons, List.length_nil, List.cons_append, List.nil_append, Nat.sub_self, List.replicate_zero, List.replicate_succ, List.getElem?_cons_succ, List.getElem?_cons_zero, List.set_cons_zero, List.set_cons_succ, Option.bind_some, Option.map_some, if_true, Bool.true_and, Bool.and_true, Bool.and_self, Bool.not_true, Bool.not_false, Bool.false_eq_true, if_false, ite_true, ite_false, reduceCtorEq, n1, n2, beq_self_eq_true, dIx_l, dIx_t, bAdd_int, bSub_int, dNeg_int, dNot_bl, bLt_int, bLe_int, bGt_int, bGe_int, bIs_non, bIsn_non, bIs_bl, bIsn_bl, non_non, non_int, non_str, non_lst, non_exc, non_amt, non_rule, non_trial, items_l, items_t, dSl_l, dOf_1, zip_l, enm_l, bEq_int, bNe_int, fold_amt, fold_rule, fold_trial, ix_amt0, ix_amt1, ix_rule0, ix_rule1, ix_trial0, ix_trial1, bindT_amt, bindT_rule, bindT_trial, List.length_map, big_0, big_1, big_2, big_3]; rfl) ?_
    refine mulLoop (i := 2) (b := 1300) (.inl rfl) rfl (Nat.lt_of_le_of_lt h2 hB) (by omega) hD6 (by omega) fun s => ?_
    refine Wp.ret (d := if l ^ D = N then .int l else .non) (w' := w') ?_ ⟨l, h1, hc, rfl⟩
    by_cases e : l ^ D = N
    · have e' : (((l ^ D : Nat) : Int) == (N : Int)) = true := by rw [e]; simp
      simp only [mFun, startR, ess, es, ev, evs, evo, evc, evl, evi, sSeq, sNil, sRet, sExp, sAsg, sOwn, sIf, sFor, sRaise, sAug, sMut, sSet, sFrz, frzR, mVar, mCst, mBin, mUn, mAnd, mOr, mIf, mChn, mNil, mCons, mSeq, mLst, mLen, mOf, mSl, mNo, mPt, mCall, mPri, mBmt, mOix, mOcmp, mISeq, mIBi, bind_ok, bind_exc, bind_bad, toS_ok, toS_exc, toS_bad, nx_ok, ofB_bl, lift_some, lift_none, bindT_nm, bindT_tp, bindTs_nil, bindTs_cons, bop, isi_ii, isi_bi, isi_bb, isi_tt, isi_ll, List.map_cons, List.map_nil, List.length_cons, List.length_nil, List.cons_append, List.nil_append, Nat.sub_self, List.replicate_zero, List.replicate_succ, List.getElem?_cons_succ, List.getElem?_cons_zero, List.set_cons_zero, List.set_cons_succ, Option.bind_some, Option.map_some, if_true, Bool.true_and, Bool.and_true, Bool.and_self, Bool.not_true, Bool.not_false, Bool.false_eq_true, if_false, ite_true, ite_false, reduceCtorEq, n1, n2, beq_self_eq_true, dIx_l, dIx_t, bAdd_int, bSub_int, dNeg_int, dNot_bl, bLt_int, bLe_int, bGt_int, bGe_int, bIs_non, bIsn_non, bIs_bl, bIsn_bl, non_non, non_int, non_str, non_lst, non_exc, non_amt, non_rule, non_trial, items_l, items_t, dSl_l, dOf_1, zip_l, enm_l, bEq_int, bNe_int, fold_amt, fold_rule, fold_trial, ix_amt0, ix_amt1, ix_rule0, ix_rule1, ix_trial0, ix_trial1, bindT_amt, bindT_rule, bindT_trial, List.length_map, big_0, big_1, big_2, big_3, e', if_pos e]
    · have e' : (((l ^ D : Nat) : Int) == (N : Int)) = false := by
        simp only [beq_eq_false_iff_ne, ne_eq, Int.natCast_inj]
        exact e
      simp only [mFun, startR, ess, es, ev, evs, evo, evc, evl, evi, sSeq, sNil, sRet, sExp, sAsg, sOwn, sIf, sFor, sRaise, sAug, sMut, sSet, sFrz, frzR, mVar, mCst, mBin, mUn, mAnd, mOr, mIf, mChn, mNil, mCons, mSeq, mLst, mLen, mOf, mSl, mNo, mPt, mCall, mPri, mBmt, mOix, mOcmp, mISeq, mIBi, bind_ok, bind_exc, bind_bad, toS_ok, toS_exc, toS_bad, nx_ok, ofB_bl, lift_some, lift_none, bindT_nm, bindT_tp, bindTs_nil, bindTs_cons, bop, isi_ii, isi_bi, isi_bb, isi_tt, isi_ll, List.map_cons, List.map_nil, List.length_cons, List.length_nil, List.cons_append, List.nil_append, Nat.sub_self, List.replicate_zero, List.replicate_succ, List.getElem?_cons_succ, List.getElem?_cons_zero, List.set_cons_zero, List.set_cons_succ, Option.bind_some, Option.map_some, if_true, Bool.true_and, Bool.and_true, Bool.and_self, Bool.not_true, Bool.not_false, Bool.false_eq_true, if_false, ite_true, ite_false, reduceCtorEq, n1, n2, beq_self_eq_true, dIx_l, dIx_t, bAdd_int, bSub_int, dNeg_int, dNot_bl, bLt_int, bLe_int, bGt_int, bGe_int, bIs_non, bIsn_non, bIs_bl, bIsn_bl, non_non, non_int, non_str, non_lst, non_exc, non_amt, non_rule, non_trial, items_l, items_t, dSl_l, dOf_1, zip_l, enm_l, bEq_int, bNe_int, fold_amt, fold_rule, fold_trial, ix_amt0, ix_amt1, ix_rule0, ix_rule1, ix_trial0, ix_trial1, bindT_amt, bindT_rule, bindT_trial, List.length_map, big_0, big_1, big_2, big_3, e', if_neg e]
end RL

namespace RL
open PySem L2
def tailS (i : Nat) : Ss := (.cons (.iff (.bin .lt (.var 4) (.cst (.int 0))) (.cons (.asg (.nm 6) (.tup (.cons (.ix (.var 6) (.cst (.int 1))) (.cons (.ix (.var 6) (.cst (.int 0))) .nil)))) .nil) .nil) (.cons (.asg (.tp (.cons (.nm 7) (.cons (.nm 8) .nil))) (.tup (.cons (.call i (.cons (.ix (.var 6) (.cst (.int 0))) (.cons (.pri 1 (.cons (.var 4) .nil)) .nil))) (.cons (.call i (.cons (.ix (.var 6) (.cst (.int 1))) (.cons (.pri 1 (.cons (.var 4) .nil)) .nil))) .nil)))) (.cons (.iff (.or (.bin .is (.var 7) (.cst .non)) (.bin .is (.var 8) (.cst .non))) (.cons (.rais 5) .nil) .nil) (.cons (.ret (.tup (.cons (.var 7) (.cons (.var 8) .nil)))) .nil))))
theorem Ok.root {n d : Nat} {x v : Int × Int} (hx : Am x) (hv : Ok n v) (hd : 1 ≤ d) (h : powN x d = v) : Ok n x := by
  have key : ∀ a : Int, 0 < a → a ≤ a ^ d := by
    intro a ha
    obtain ⟨m, rfl⟩ := Int.eq_ofNat_of_zero_le (Int.le_of_lt ha)
    have := Nat.le_self_pow (show d ≠ 0 by omega) m
    exact_mod_cast this
  have h1 : x.1 ^ d = v.1 := by rw [← h]; rfl
  have h2 : x.2 ^ d = v.2 := by rw [← h]; rfl
  refine ⟨hx, ?_, ?_⟩
  · have := key x.1 hx.1
    have := hv.bd.1
    omega
  · have := key x.2 hx.2.1
    have := hv.bd.2
    omega
theorem optI_s (i : Int) : optI (some i) = .int i := rfl
theorem optI_n : optI none = .non := rfl
theorem solve_tail (T : Tab) (i : Nat) (B : TB T) (hi : SpRoot (T.f i)) {x0 x1 x2 x3 x5 : Sl} {e : Int} {v : Int × Int} {n : Nat} {w : Wd} {P : RS → Prop} (hv : Ok n v) (hn : n ≤ 1300) (he : e ≠ 0) (he1 : -6 ≤ e) (he2 : e ≤ 6)
    (k1 : ∀ x, Am x → Ok n x → powN x e.natAbs = (if e < 0 then invQ v else v) → P (.ret (amt x) w)) (k2 : (∀ x, Am x → powN x e.natAbs ≠ (if e < 0 then invQ v else v)) → ∀ r, P (.exc 5 r w)) :
    Wp T (tailS i) [x0, x1, x2, x3, .dat (.int e), x5, .dat (amt v), .emp, .emp] w P := by
  have habs : (if e < 0 then -e else e) = ((e.natAbs : Nat) : Int) := by split <;> omega
  have p1' : dAbs [.int e] = some (.int (e.natAbs : Nat)) := by rw [dAbs, habs]
  have hv' : Ok n (if e < 0 then invQ v else v) := by
    split
    · exact hv.inv
    · exact hv
  rw [tailS]
  refine Wp.step (r' := [x0, x1, x2, x3, .dat (.int e), x5, .dat (amt (if e < 0 then invQ v else v)), .emp, .emp]) (w' := w) ?_ ?_
  · by_cases h : e < 0
    · simp only [mFun, startR, ess, es, ev, evs, evo, evc, evl, evi, sSeq, sNil, sRet, sExp, sAsg, sOwn, sIf, sFor, sRaise, sAug, sMut, sSet, sFrz, frzR, mVar, mCst, mBin, mUn, mAnd, mOr, mIf, mChn, mNil, mCons, mSeq, mLst, mLen, mOf, mSl, mNo, mPt, mCall, mPri, mBmt, mOix, mOcmp, mISeq, mIBi, bind_ok, bind_exc, bind_bad, toS_ok, toS_exc, toS_bad, nx_ok, ofB_bl, lift_some, lift_none, bindT_nm, bindT_tp, bindTs_nil, bindTs_cons, bop, isi_ii, isi_bi, isi_bb, isi_tt, isi_ll, List.map_cons, List.map_nil, List.length_cons, List.length_nil, List.cons_append, List.nil_append, Nat.sub_self, List.replicate_zero, List.replicate_succ, List.getElem?_cons_succ, List.getElem?_cons_zero, List.set_cons_zero, List.set_cons_succ, Option.bind_some, Option.map_some, if_true, Bool.true_and, Bool.and_true, Bool.and_self, Bool.not_true, Bool.not_false, Bool.false_eq_true, if_false, ite_true, ite_false, reduceCtorEq, n1, n2, beq_self_eq_true, dIx_l, dIx_t, bAdd_int, bSub_int, dNeg_int, dNot_bl, bLt_int, bLe_int, bGt_int, bGe_int, bIs_non, bIsn_non, bIs_bl, bIsn_bl, non_non, non_int, non_str, non_lst, non_exc, non_amt, non_rule, non_trial, items_l, items_t, dSl_l, dOf_1, zip_l, enm_l, bEq_int, bNe_int, fold_amt, fold_rule, fold_trial, ix_amt0, ix_amt1, ix_rule0, ix_rule1, ix_trial0, ix_trial1, bindT_amt, bindT_rule, bindT_trial, List.length_map, big_0, big_1, big_2, big_3, h, decide_true, if_pos h]
      rfl
    · simp only [mFun, startR, ess, es, ev, evs, evo, evc, evl, evi, sSeq, sNil, sRet, sExp, sAsg, sOwn, sIf, sFor, sRaise, sAug, sMut, sSet, sFrz, frzR, mVar, mCst, mBin, mUn, mAnd, mOr, mIf, mChn, mNil, mCons, mSeq, mLst, mLen, mOf, mSl, mNo, mPt, mCall, mPri, mBmt, mOix, mOcmp, mISeq, mIBi, bind_ok, bind_exc, bind_bad, toS_ok, toS_exc, toS_bad, nx_ok, ofB_bl, lift_some, lift_none, bindT_nm, bindT_tp, bindTs_nil, bindTs_cons, bop, isi_ii, isi_bi, isi_bb, isi_tt, isi_ll, List.map_cons, List.map_nil, List.length_cons, List.length_nil, List.cons_append, List.nil_append, Nat.sub_self, List.replicate_zero, List.replicate_succ, List.getElem?_cons_succ, List.getElem?_cons_zero, List.set_cons_zero, List.set_cons_succ, Option.bind_some, Option.map_some, if_true, Bool.true_and, Bool.and_true, Bool.and_self, Bool.not_true, Bool.not_false, Bool.false_eq_true, if_false, ite_true, ite_false, reduceCtorEq, n1, n2, beq_self_eq_true, dIx_l, dIx_t, bAdd_int, bSub_int, dNeg_int, dNot_bl, bLt_int, bLe_int, bGt_int, bGe_int, bIs_non, bIsn_non, bIs_bl, bIsn_bl, non_non, non_int, non_str, non_lst, non_exc, non_amt, non_rule, non_trial, items_l, items_t, dSl_l, dOf_1, zip_l, enm_l, bEq_int, bNe_int, fold_amt, fold_rule, fold_trial, ix_amt0, ix_amt1, ix_rule0, ix_rule1, ix_trial0, ix_trial1, bindT_amt, bindT_rule, bindT_trial, List.length_map, big_0, big_1, big_2, big_3, h, decide_false, if_neg h]
  generalize (if e < 0 then invQ v else v) = u at *
  obtain ⟨N1, hN1⟩ := Int.eq_ofNat_of_zero_le (Int.le_of_lt hv'.am.1)
  obtain ⟨N2, hN2⟩ := Int.eq_ofNat_of_zero_le (Int.le_of_lt hv'.am.2.1)
  have bd : (2 : Int) ^ n ≤ 2 ^ 1300 := by
    have := Nat.pow_le_pow_right (show 0 < 2 by omega) hn
    exact_mod_cast this
  have b1 : N1 < 2 ^ 1300 := by
    have h1 := hv'.bd.1
    have h2 : (N1 : Int) < 2 ^ 1300 := by omega
    exact_mod_cast h2
  have b2 : N2 < 2 ^ 1300 := by
    have h1 := hv'.bd.2
    have h2 : (N2 : Int) < 2 ^ 1300 := by omega
    exact_mod_cast h2
  have q1 := hv'.am.1
  have q2 := hv'.am.2.1
  obtain ⟨o1, f1, s1, t1⟩ := hi N1 e.natAbs w (by omega) b1 (by omega) (by omega)
  obtain ⟨o2, f2, s2, t2⟩ := hi N2 e.natAbs w (by omega) b2 (by omega) (by omega)
  rw [← hN1] at f1
  rw [← hN2] at f2
  have fr := frac_root hv'.am (d := e.natAbs) (by omega) (o1 := o1) (o2 := o2) (fun c h => ⟨(s1 c h).1, by rw [(s1 c h).2, hN1]⟩) (fun h c q => t1 h c (by rw [hN1] at q; exact_mod_cast q)) (fun c h => ⟨(s2 c h).1, by rw [(s2 c h).2, hN2]⟩) (fun h c q => t2 h c (by rw [hN2] at q; exact_mod_cast q))
  refine Wp.step (by simp only [mFun, startR, ess, es, ev, evs, evo, evc, evl, evi, sSeq, sNil, sRet, sExp, sAsg, sOwn, sIf, sFor, sRaise, sAug, sMut, sSet, sFrz, frzR, mVar, mCst, mBin, mUn, mAnd, mOr, mIf, mChn, mNil, mCons, mSeq, mLst, mLen, mOf, mSl, mNo, mPt, mCall, mPri, mBmt, mOix, mOcmp, mISeq, mIBi, bind_ok, bind_exc, bind_bad, toS_ok, toS_exc, toS_bad, nx_ok, ofB_bl, lift_some, lift_none, bindT_nm, bindT_tp, bindTs_nil, bindTs_cons, bop, isi_ii, isi_bi, isi_bb, isi_tt, isi_ll, List.map_cons, List.map_nil, List.length_cons, List.length_nil, List.cons_append, List.nil_append, Nat.sub_self, List.replicate_zero, List.replicate_succ, List.getElem?_cons_succ, List.getElem?_cons_zero, List.set_cons_zero, List.set_cons_succ, Option.bind_some, Option.map_some, if_true, Bool.true_and, Bool.and_true, Bool.and_self, Bool.not_true, Bool.not_false, Bool.false_eq_true, if_false, ite_true, ite_false, reduceCtorEq, n1, n2, beq_self_eq_true, dIx_l, dIx_t, bAdd_int, bSub_int, dNeg_int, dNot_bl, bLt_int, bLe_int, bGt_int, bGe_int, bIs_non, bIsn_non, bIs_bl, bIsn_bl, non_non, non_int, non_str, non_lst, non_exc, non_amt, non_rule, non_trial, items_l, items_t, dSl_l, dOf_1, zip_l, enm_l, bEq_int, bNe_int, fold_amt, fold_rule, fold_trial, ix_amt0, ix_amt1, ix_rule0, ix_rule1, ix_trial0, ix_trial1, bindT_amt, bindT_rule, bindT_trial, List.length_map, big_0, big_1, big_2, big_3, B.p, RL.p1, p1', f1, f2]; rfl) ?_
  rcases fr with ⟨a, b, rfl, rfl, ham, hpow⟩ | ⟨hno, hall⟩
  · refine Wp.iff0 (w' := w) (by simp only [mFun, startR, ess, es, ev, evs, evo, evc, evl, evi, sSeq, sNil, sRet, sExp, sAsg, sOwn, sIf, sFor, sRaise, sAug, sMut, sSet, sFrz, frzR, mVar, mCst, mBin, mUn, mAnd, mOr, mIf, mChn, mNil, mCons, mSeq, mLst, mLen, mOf, mSl, mNo, mPt, mCall, mPri, mBmt, mOix, mOcmp, mISeq, mIBi, bind_ok, bind_exc, bind_bad, toS_ok, toS_exc, toS_bad, nx_ok, ofB_bl, lift_some, lift_none, bindT_nm, bindT_tp, bindTs_nil, bindTs_cons, bop, isi_ii, isi_bi, isi_bb, isi_tt, isi_ll, List.map_cons, List.map_nil, List.length_cons, List.length_nil, List.cons_append, List.nil_append, Nat.sub_self, List.replicate_zero, List.replicate_succ, List.getElem?_cons_succ, List.getElem?_cons_zero, List.set_cons_zero, List.set_cons_succ, Option.bind_some, Option.map_some, if_true, Bool.true_and, Bool.and_true, Bool.and_self, Bool.not_true, Bool.not_false, Bool.false_eq_true, if_false, ite_true, ite_false, reduceCtorEq, n1, n2, beq_self_eq_true, dIx_l, dIx_t, bAdd_int, bSub_int, dNeg_int, dNot_bl, bLt_int, bLe_int, bGt_int, bGe_int, bIs_non, bIsn_non, bIs_bl, bIsn_bl, non_non, non_int, non_str, non_lst, non_exc, non_amt, non_rule, non_trial, items_l, items_t, dSl_l, dOf_1, zip_l, enm_l, bEq_int, bNe_int, fold_amt, fold_rule, fold_trial, ix_amt0, ix_amt1, ix_rule0, ix_rule1, ix_trial0, ix_trial1, bindT_amt, bindT_rule, bindT_trial, List.length_map, big_0, big_1, big_2, big_3, optI_s, optI_n, Option.map_none]) ?_
    refine Wp.ret (d := amt ((a : Int), (b : Int))) (w' := w) (by simp only [mFun, startR, ess, es, ev, evs, evo, evc, evl, evi, sSeq, sNil, sRet, sExp, sAsg, sOwn, sIf, sFor, sRaise, sAug, sMut, sSet, sFrz, frzR, mVar, mCst, mBin, mUn, mAnd, mOr, mIf, mChn, mNil, mCons, mSeq, mLst, mLen, mOf, mSl, mNo, mPt, mCall, mPri, mBmt, mOix, mOcmp, mISeq, mIBi, bind_ok, bind_exc, bind_bad, toS_ok, toS_exc, toS_bad, nx_ok, ofB_bl, lift_some, lift_none, bindT_nm, bindT_tp, bindTs_nil, bindTs_cons, bop, isi_ii, isi_bi, isi_bb, isi_tt, isi_ll, List.map_cons, List.map_nil, List.length_cons, List.length_nil, List.cons_append, List.nil_append, Nat.sub_self, List.replicate_zero, List.replicate_succ, List.getElem?_cons_succ, List.getElem?_cons_zero, List.set_cons_zero, List.set_cons_succ, Option.bind_some, Option.map_some, if_true, Bool.true_and, Bool.and_true, Bool.and_self, Bool.not_true, Bool.not_false, Bool.false_eq_true, if_false, ite_true, ite_false, reduceCtorEq, n1, n2, beq_self_eq_true, dIx_l, dIx_t, bAdd_int, bSub_int, dNeg_int, dNot_bl, bLt_int, bLe_int, bGt_int, bGe_int, bIs_non, bIsn_non, bIs_bl, bIsn_bl, non_non, non_int, non_str, non_lst, non_exc, non_amt, non_rule, non_trial, items_l, items_t, dSl_l, dOf_1, zip_l, enm_l, bEq_int, bNe_int, fold_amt, fold_rule, fold_trial, ix_amt0, ix_amt1, ix_rule0, ix_rule1, ix_trial0, ix_trial1, bindT_amt, bindT_rule, bindT_trial, List.length_map, big_0, big_1, big_2, big_3, optI_s, optI_n, Option.map_none]) ?_
    exact k1 _ ham (Ok.root ham hv' (by omega) hpow) hpow
  · rcases hno with rfl | rfl
    · exact Wp.exc (j := 5) (w' := w) (by simp only [mFun, startR, ess, es, ev, evs, evo, evc, evl, evi, sSeq, sNil, sRet, sExp, sAsg, sOwn, sIf, sFor, sRaise, sAug, sMut, sSet, sFrz, frzR, mVar, mCst, mBin, mUn, mAnd, mOr, mIf, mChn, mNil, mCons, mSeq, mLst, mLen, mOf, mSl, mNo, mPt, mCall, mPri, mBmt, mOix, mOcmp, mISeq, mIBi, bind_ok, bind_exc, bind_bad, toS_ok, toS_exc, toS_bad, nx_ok, ofB_bl, lift_some, lift_none, bindT_nm, bindT_tp, bindTs_nil, bindTs_cons, bop, isi_ii, isi_bi, isi_bb, isi_tt, isi_ll, List.map_cons, List.map_nil, List.length_cons, List.length_nil, List.cons_append, List.nil_append, Nat.sub_self, List.replicate_zero, List.replicate_succ, List.getElem?_cons_succ, List.getElem?_cons_zero, List.set_cons_zero, List.set_cons_succ, Option.bind_some, Option.map_some, if_true, Bool.true_and, Bool.and_true, Bool.and_self, Bool.not_true, Bool.not_false, Bool.false_eq_true, if_false, ite_true, ite_false, reduceCtorEq, n1, n2, beq_self_eq_true, dIx_l, dIx_t, bAdd_int, bSub_int, dNeg_int, dNot_bl, bLt_int, bLe_int, bGt_int, bGe_int, bIs_non, bIsn_non, bIs_bl, bIsn_bl, non_non, non_int, non_str, non_lst, non_exc, non_amt, non_rule, non_trial, items_l, items_t, dSl_l, dOf_1, zip_l, enm_l, bEq_int, bNe_int, fold_amt, fold_rule, fold_trial, ix_amt0, ix_amt1, ix_rule0, ix_rule1, ix_trial0, ix_trial1, bindT_amt, bindT_rule, bindT_trial, List.length_map, big_0, big_1, big_2, big_3, optI_s, optI_n, Option.map_none]; rfl) (k2 hall _)
    · cases o1 with
      | none => exact Wp.exc (j := 5) (w' := w) (by simp only [mFun, startR, ess, es, ev, evs, evo, evc, evl, evi, sSeq, sNil, sRet, sExp, sAsg, sOwn, sIf, sFor, sRaise, sAug, sMut, sSet, sFrz, frzR, mVar, mCst, mBin, mUn, mAnd, mOr, mIf, mChn, mNil, mCons, mSeq, mLst, mLen, mOf, mSl, mNo, mPt, mCall, mPri, mBmt, mOix, mOcmp, mISeq, mIBi, bind_ok, bind_exc, bind_bad, toS_ok, toS_exc, toS_bad, nx_ok, ofB_bl, lift_some, lift_none, bindT_nm, bindT_tp, bindTs_nil, bindTs_cons, bop, isi_ii, isi_bi, isi_bb, isi_tt, isi_ll, List.map_cons, List.map_nil, List.length_cons, List.length_nil, List.cons_append, List.nil_append, Nat.sub_self, List.replicate_zero, List.replicate_succ, List.getElem?_cons_succ, List.getElem?_cons_zero, List.set_cons_zero, List.set_cons_succ, Option.bind_some, Option.map_some, if_true, Bool.true_and, Bool.and_true, Bool.and_self, Bool.not_true, Bool.not_false, Bool.false_eq_true, if_false, ite_true, ite_false, reduceCtorEq, n1, n2, beq_self_eq_true, dIx_l, dIx_t, bAdd_int, bSub_int, dNeg_int, dNot_bl, bLt_int, bLe_int, bGt_int, bGe_int, bIs_non, bIsn_non, bIs_bl, bIsn_bl, non_non, non_int, non_str, non_lst, non_exc, non_amt, non_rule, non_trial, items_l, items_t, dSl_l, dOf_1, zip_l, enm_l, bEq_int, bNe_int, fold_amt, fold_rule, fold_trial, ix_amt0, ix_amt1, ix_rule0, ix_rule1, ix_trial0, ix_trial1, bindT_amt, bindT_rule, bindT_trial, List.length_map, big_0, big_1, big_2, big_3, optI_s, optI_n, Option.map_none]; rfl) (k2 hall _)
      | some c => exact Wp.exc (j := 5) (w' := w) (by simp only [mFun, startR, ess, es, ev, evs, evo, evc, evl, evi, sSeq, sNil, sRet, sExp, sAsg, sOwn, sIf, sFor, sRaise, sAug, sMut, sSet, sFrz, frzR, mVar, mCst, mBin, mUn, mAnd, mOr, mIf, mChn, mNil, mCons, mSeq, mLst, mLen, mOf, mSl, mNo, mPt, mCall, mPri, mBmt, mOix, mOcmp, mISeq, mIBi, bind_ok, bind_exc, bind_bad, toS_ok, toS_exc, toS_bad, nx_ok, ofB_bl, lift_some, lift_none, bindT_nm, bindT_tp, bindTs_nil, bindTs_cons, bop, isi_ii, isi_bi, isi_bb, isi_tt, isi_ll, List.map_cons, List.map_nil, List.length_cons, List.length_nil, List.cons_append, List.nil_append, Nat.sub_self, List.replicate_zero, List.replicate_succ, List.getElem?_cons_succ, List.getElem?_cons_zero, List.set_cons_zero, List.set_cons_succ, Option.bind_some, Option.map_some, if_true, Bool.true_and, Bool.and_true, Bool.and_self, Bool.not_true, Bool.not_false, Bool.false_eq_true, if_false, ite_true, ite_false, reduceCtorEq, n1, n2, beq_self_eq_true, dIx_l, dIx_t, bAdd_int, bSub_int, dNeg_int, dNot_bl, bLt_int, bLe_int, bGt_int, bGe_int, bIs_non, bIsn_non, bIs_bl, bIsn_bl, non_non, non_int, non_str, non_lst, non_exc, non_amt, non_rule, non_trial, items_l, items_t, dSl_l, dOf_1, zip_l, enm_l, bEq_int, bNe_int, fold_amt, fold_rule, fold_trial, ix_amt0, ix_amt1, ix_rule0, ix_rule1, ix_trial0, ix_trial1, bindT_amt, bindT_rule, bindT_trial, List.length_map, big_0, big_1, big_2, big_3, optI_s, optI_n, Option.map_none]; rfl) (k2 hall _)
def SpAmountFor (φ : MF) : Prop := ∀ r as (q : Nat) wanted w, RuleB 4 r → Oks 4 as → as.length = r.2.length → q < r.2.length → Ok 110 wanted →
  (r.2.getD q 0 = 0 → φ [ruleD r, amts as, .int q, amt wanted] w = .exc 5 w) ∧ (r.2.getD q 0 ≠ 0 → (∃ x, Ok 160 x ∧ rateQ r (as.set q x) = wanted ∧ φ [ruleD r, amts as, .int q, amt wanted] w = .ok (amt x) w) ∨ ((∀ x, Am x → rateQ r (as.set q x) ≠ wanted) ∧ φ [ruleD r, amts as, .int q, amt wanted] w = .exc 5 w))
theorem fold_one : amt (1, 1) = D.tup [.int 1, .int 1] := rfl
theorem sp_amount_for (T : Tab) (i j k l m p q' : Nat) (B : TB T) (hi : SpRoot (T.f i)) (hj : SpQuotient (T.f j)) (hk : SpRateOf (T.f k)) (hl : SpCkAmount (T.f l)) (hm : SpCkQuantity (T.f m)) (hp : SpCkAmounts (T.f p)) (hq' : SpCkRule (T.f q')) : SpAmountFor (mFun 9 (ess T (b_amount_for i j k l m p q'))) := by
  intro r as q wanted w hr ha hla hq hw
  have h3 := hr.p.1
  have hqa : q < as.length := by omega
  have e1 := hp as (r.2.length : Int) w ha.am (by rw [hla]) (by omega)
  have e2 := hm (r.2.length : Int) q w (by omega) (by omega)
  have pre : ∀ P, Wp T (.cons (.iff (.bin .eq (.var 4) (.cst (.int 0))) (.cons (.rais 5) .nil) .nil) (.cons (.own 5 (.of (.cons (.var 1) .nil))) (.cons (.set 5 (.var 2) (.tup (.cons (.cst (.int 1)) (.cons (.cst (.int 1)) .nil)))) (.cons (.frz 5 (.asg (.nm 6) (.call j (.cons (.var 3) (.cons (.call k (.cons (.var 0) (.cons (.var 5) .nil))) .nil))))) (tailS i))))) [.dat (ruleD r), .dat (amts as), .dat (.int q), .dat (amt wanted), .dat (.int (r.2.getD q 0)), .emp, .emp, .emp, .emp] w P → Wp T (b_amount_for i j k l m p q') (startR 9 [ruleD r, amts as, .int q, amt wanted]) w P := by
    intro P h
    rw [b_amount_for]
    refine Wp.stay (by simp only [mFun, startR, ess, es, ev, evs, evo, evc, evl, evi, sSeq, sNil, sRet, sExp, sAsg, sOwn, sIf, sFor, sRaise, sAug, sMut, sSet, sFrz, frzR, mVar, mCst, mBin, mUn, mAnd, mOr, mIf, mChn, mNil, mCons, mSeq, mLst, mLen, mOf, mSl, mNo, mPt, mCall, mPri, mBmt, mOix, mOcmp, mISeq, mIBi, bind_ok, bind_exc, bind_bad, toS_ok, toS_exc, toS_bad, nx_ok, ofB_bl, lift_some, lift_none, bindT_nm, bindT_tp, bindTs_nil, bindTs_cons, bop, isi_ii, isi_bi, isi_bb, isi_tt, isi_ll, List.map_cons, List.map_nil, List.length_cons, List.length_nil, List.cons_append, List.nil_append, Nat.sub_self, List.replicate_zero, List.replicate_succ, List.getElem?_cons_succ, List.getElem?_cons_zero, List.set_cons_zero, List.set_cons_succ, Option.bind_some, Option.map_some, if_true, Bool.true_and, Bool.and_true, Bool.and_self, Bool.not_true, Bool.not_false, Bool.false_eq_true, if_false, ite_true, ite_false, reduceCtorEq, n1, n2, beq_self_eq_true, dIx_l, dIx_t, bAdd_int, bSub_int, dNeg_int, dNot_bl, bLt_int, bLe_int, bGt_int, bGe_int, bIs_non, bIsn_non, bIs_bl, bIsn_bl, non_non, non_int, non_str, non_lst, non_exc, non_amt, non_rule, non_trial, items_l, items_t, dSl_l, dOf_1, zip_l, enm_l, bEq_int, bNe_int, fold_amt, fold_rule, fold_trial, ix_amt0, ix_amt1, ix_rule0, ix_rule1, ix_trial0, ix_trial1, bindT_amt, bindT_rule, bindT_trial, List.length_map, big_0, big_1, big_2, big_3, hq' r w hr.a]) ?_
    refine Wp.stay (by simp only [mFun, startR, ess, es, ev, evs, evo, evc, evl, evi, sSeq, sNil, sRet, sExp, sAsg, sOwn, sIf, sFor, sRaise, sAug, sMut, sSet, sFrz, frzR, mVar, mCst, mBin, mUn, mAnd, mOr, mIf, mChn, mNil, mCons, mSeq, mLst, mLen, mOf, mSl, mNo, mPt, mCall, mPri, mBmt, mOix, mOcmp, mISeq, mIBi, bind_ok, bind_exc, bind_bad, toS_ok, toS_exc, toS_bad, nx_ok, ofB_bl, lift_some, lift_none, bindT_nm, bindT_tp, bindTs_nil, bindTs_cons, bop, isi_ii, isi_bi, isi_bb, isi_tt, isi_ll, List.map_cons, List.map_nil, List.length_cons, List.length_nil, List.cons_append, List.nil_append, Nat.sub_self, List.replicate_zero, List.replicate_succ, List.getElem?_cons_succ, List.getElem?_cons_zero, List.set_cons_zero, List.set_cons_succ, Option.bind_some, Option.map_some, if_true, Bool.true_and, Bool.and_true, Bool.and_self, Bool.not_true, Bool.not_false, Bool.false_eq_true, if_false, ite_true, ite_false, reduceCtorEq, n1, n2, beq_self_eq_true, dIx_l, dIx_t, bAdd_int, bSub_int, dNeg_int, dNot_bl, bLt_int, bLe_int, bGt_int, bGe_int, bIs_non, bIsn_non, bIs_bl, bIsn_bl, non_non, non_int, non_str, non_lst, non_exc, non_amt, non_rule, non_trial, items_l, items_t, dSl_l, dOf_1, zip_l, enm_l, bEq_int, bNe_int, fold_amt, fold_rule, fold_trial, ix_amt0, ix_amt1, ix_rule0, ix_rule1, ix_trial0, ix_trial1, bindT_amt, bindT_rule, bindT_trial, List.length_map, big_0, big_1, big_2, big_3, B.p, p0, len_lst, e1]) ?_
    refine Wp.stay (by simp only [mFun, startR, ess, es, ev, evs, evo, evc, evl, evi, sSeq, sNil, sRet, sExp, sAsg, sOwn, sIf, sFor, sRaise, sAug, sMut, sSet, sFrz, frzR, mVar, mCst, mBin, mUn, mAnd, mOr, mIf, mChn, mNil, mCons, mSeq, mLst, mLen, mOf, mSl, mNo, mPt, mCall, mPri, mBmt, mOix, mOcmp, mISeq, mIBi, bind_ok, bind_exc, bind_bad, toS_ok, toS_exc, toS_bad, nx_ok, ofB_bl, lift_some, lift_none, bindT_nm, bindT_tp, bindTs_nil, bindTs_cons, bop, isi_ii, isi_bi, isi_bb, isi_tt, isi_ll, List.map_cons, List.map_nil, List.length_cons, List.length_nil, List.cons_append, List.nil_append, Nat.sub_self, List.replicate_zero, List.replicate_succ, List.getElem?_cons_succ, List.getElem?_cons_zero, List.set_cons_zero, List.set_cons_succ, Option.bind_some, Option.map_some, if_true, Bool.true_and, Bool.and_true, Bool.and_self, Bool.not_true, Bool.not_false, Bool.false_eq_true, if_false, ite_true, ite_false, reduceCtorEq, n1, n2, beq_self_eq_true, dIx_l, dIx_t, bAdd_int, bSub_int, dNeg_int, dNot_bl, bLt_int, bLe_int, bGt_int, bGe_int, bIs_non, bIsn_non, bIs_bl, bIsn_bl, non_non, non_int, non_str, non_lst, non_exc, non_amt, non_rule, non_trial, items_l, items_t, dSl_l, dOf_1, zip_l, enm_l, bEq_int, bNe_int, fold_amt, fold_rule, fold_trial, ix_amt0, ix_amt1, ix_rule0, ix_rule1, ix_trial0, ix_trial1, bindT_amt, bindT_rule, bindT_trial, List.length_map, big_0, big_1, big_2, big_3, B.p, p0, len_lst, e2]) ?_
    refine Wp.stay (by simp only [mFun, startR, ess, es, ev, evs, evo, evc, evl, evi, sSeq, sNil, sRet, sExp, sAsg, sOwn, sIf, sFor, sRaise, sAug, sMut, sSet, sFrz, frzR, mVar, mCst, mBin, mUn, mAnd, mOr, mIf, mChn, mNil, mCons, mSeq, mLst, mLen, mOf, mSl, mNo, mPt, mCall, mPri, mBmt, mOix, mOcmp, mISeq, mIBi, bind_ok, bind_exc, bind_bad, toS_ok, toS_exc, toS_bad, nx_ok, ofB_bl, lift_some, lift_none, bindT_nm, bindT_tp, bindTs_nil, bindTs_cons, bop, isi_ii, isi_bi, isi_bb, isi_tt, isi_ll, List.map_cons, List.map_nil, List.length_cons, List.length_nil, List.cons_append, List.nil_append, Nat.sub_self, List.replicate_zero, List.replicate_succ, List.getElem?_cons_succ, List.getElem?_cons_zero, List.set_cons_zero, List.set_cons_succ, Option.bind_some, Option.map_some, if_true, Bool.true_and, Bool.and_true, Bool.and_self, Bool.not_true, Bool.not_false, Bool.false_eq_true, if_false, ite_true, ite_false, reduceCtorEq, n1, n2, beq_self_eq_true, dIx_l, dIx_t, bAdd_int, bSub_int, dNeg_int, dNot_bl, bLt_int, bLe_int, bGt_int, bGe_int, bIs_non, bIsn_non, bIs_bl, bIsn_bl, non_non, non_int, non_str, non_lst, non_exc, non_amt, non_rule, non_trial, items_l, items_t, dSl_l, dOf_1, zip_l, enm_l, bEq_int, bNe_int, fold_amt, fold_rule, fold_trial, ix_amt0, ix_amt1, ix_rule0, ix_rule1, ix_trial0, ix_trial1, bindT_amt, bindT_rule, bindT_trial, List.length_map, big_0, big_1, big_2, big_3, hl wanted w hw.am]) ?_
    refine Wp.step (by simp only [mFun, startR, ess, es, ev, evs, evo, evc, evl, evi, sSeq, sNil, sRet, sExp, sAsg, sOwn, sIf, sFor, sRaise, sAug, sMut, sSet, sFrz, frzR, mVar, mCst, mBin, mUn, mAnd, mOr, mIf, mChn, mNil, mCons, mSeq, mLst, mLen, mOf, mSl, mNo, mPt, mCall, mPri, mBmt, mOix, mOcmp, mISeq, mIBi, bind_ok, bind_exc, bind_bad, toS_ok, toS_exc, toS_bad, nx_ok, ofB_bl, lift_some, lift_none, bindT_nm, bindT_tp, bindTs_nil, bindTs_cons, bop, isi_ii, isi_bi, isi_bb, isi_tt, isi_ll, List.map_cons, List.map_nil, List.length_cons, List.length_nil, List.cons_append, List.nil_append, Nat.sub_self, List.replicate_zero, List.replicate_succ, List.getElem?_cons_succ, List.getElem?_cons_zero, List.set_cons_zero, List.set_cons_succ, Option.bind_some, Option.map_some, if_true, Bool.true_and, Bool.and_true, Bool.and_self, Bool.not_true, Bool.not_false, Bool.false_eq_true, if_false, ite_true, ite_false, reduceCtorEq, n1, n2, beq_self_eq_true, dIx_l, dIx_t, bAdd_int, bSub_int, dNeg_int, dNot_bl, bLt_int, bLe_int, bGt_int, bGe_int, bIs_non, bIsn_non, bIs_bl, bIsn_bl, non_non, non_int, non_str, non_lst, non_exc, non_amt, non_rule, non_trial, items_l, items_t, dSl_l, dOf_1, zip_l, enm_l, bEq_int, bNe_int, fold_amt, fold_rule, fold_trial, ix_amt0, ix_amt1, ix_rule0, ix_rule1, ix_trial0, ix_trial1, bindT_amt, bindT_rule, bindT_trial, List.length_map, big_0, big_1, big_2, big_3, atI_ints hq]; rfl) ?_
    exact h
  have hmem : r.2.getD q 0 ∈ r.2 := by simp [List.getD, hq]
  have hpw := hr.p.2 _ hmem
  constructor
  · intro h0
    refine fun_wx (pre _ ?_)
    exact Wp.exc (w' := w) (by simp only [mFun, startR, ess, es, ev, evs, evo, evc, evl, evi, sSeq, sNil, sRet, sExp, sAsg, sOwn, sIf, sFor, sRaise, sAug, sMut, sSet, sFrz, frzR, mVar, mCst, mBin, mUn, mAnd, mOr, mIf, mChn, mNil, mCons, mSeq, mLst, mLen, mOf, mSl, mNo, mPt, mCall, mPri, mBmt, mOix, mOcmp, mISeq, mIBi, bind_ok, bind_exc, bind_bad, toS_ok, toS_exc, toS_bad, nx_ok, ofB_bl, lift_some, lift_none, bindT_nm, bindT_tp, bindTs_nil, bindTs_cons, bop, isi_ii, isi_bi, isi_bb, isi_tt, isi_ll, List.map_cons, List.map_nil, List.length_cons, List.length_nil, List.cons_append, List.nil_append, Nat.sub_self, List.replicate_zero, List.replicate_succ, List.getElem?_cons_succ, List.getElem?_cons_zero, List.set_cons_zero, List.set_cons_succ, Option.bind_some, Option.map_some, if_true, Bool.true_and, Bool.and_true, Bool.and_self, Bool.not_true, Bool.not_false, Bool.false_eq_true, if_false, ite_true, ite_false, reduceCtorEq, n1, n2, beq_self_eq_true, dIx_l, dIx_t, bAdd_int, bSub_int, dNeg_int, dNot_bl, bLt_int, bLe_int, bGt_int, bGe_int, bIs_non, bIsn_non, bIs_bl, bIsn_bl, non_non, non_int, non_str, non_lst, non_exc, non_amt, non_rule, non_trial, items_l, items_t, dSl_l, dOf_1, zip_l, enm_l, bEq_int, bNe_int, fold_amt, fold_rule, fold_trial, ix_amt0, ix_amt1, ix_rule0, ix_rule1, ix_trial0, ix_trial1, bindT_amt, bindT_rule, bindT_trial, List.length_map, big_0, big_1, big_2, big_3, h0]; rfl) ⟨_, rfl⟩
  · intro h0
    have h0' : (r.2.getD q 0 == 0) = false := by simpa using h0
    have hs1 : Oks 4 (as.set q (1, 1)) := ha.set (one_ok.mono (by omega)) q
    have e3 := hk r (as.set q (1, 1)) 4 4 w hr.f hr.p hs1 (by omega) (by omega)
    have hrt := rateQ_ok hr.f hr.p hs1
    have e4 := hj _ _ _ _ w hw hrt (by omega)
    have hval : Ok 160 (divQ wanted (rateQ r (as.set q (1, 1)))) := (hw.div hrt).mono (by omega)
    have hix : ixN (as.map amt).length (q : Int) = some q := ixN_nat (by simpa using hqa)
    have go : ∀ P, Wp T (tailS i) [.dat (ruleD r), .dat (amts as), .dat (.int q), .dat (amt wanted), .dat (.int (r.2.getD q 0)), .dat (amts (as.set q (1, 1))), .dat (amt (divQ wanted (rateQ r (as.set q (1, 1))))), .emp, .emp] w P → Wp T (b_amount_for i j k l m p q') (startR 9 [ruleD r, amts as, .int q, amt wanted]) w P := by
      intro P h
      refine pre P ?_
      refine Wp.iff0 (w' := w) (by simp only [mFun, startR, ess, es, ev, evs, evo, evc, evl, evi, sSeq, sNil, sRet, sExp, sAsg, sOwn, sIf, sFor, sRaise, sAug, sMut, sSet, sFrz, frzR, mVar, mCst, mBin, mUn, mAnd, mOr, mIf, mChn, mNil, mCons, mSeq, mLst, mLen, mOf, mSl, mNo, mPt, mCall, mPri, mBmt, mOix, mOcmp, mISeq, mIBi, bind_ok, bind_exc, bind_bad, toS_ok, toS_exc, toS_bad, nx_ok, ofB_bl, lift_some, lift_none, bindT_nm, bindT_tp, bindTs_nil, bindTs_cons, bop, isi_ii, isi_bi, isi_bb, isi_tt, isi_ll, List.map_cons, List.map_nil, List.length_cons, List.length_nil, List.cons_append, List.nil_append, Nat.sub_self, List.replicate_zero, List.replicate_succ, List.getElem?_cons_succ, List.getElem?_cons_zero, List.set_cons_zero, List.set_cons_succ, Option.bind_some, Option.map_some, if_true, Bool.true_and, Bool.and_true, Bool.and_self, Bool.not_true, Bool.not_false, Bool.false_eq_true, if_false, ite_true, ite_false, reduceCtorEq, n1, n2, beq_self_eq_true, dIx_l, dIx_t, bAdd_int, bSub_int, dNeg_int, dNot_bl, bLt_int, bLe_int, bGt_int, bGe_int, bIs_non, bIsn_non, bIs_bl, bIsn_bl, non_non, non_int, non_str, non_lst, non_exc, non_amt, non_rule, non_trial, items_l, items_t, dSl_l, dOf_1, zip_l, enm_l, bEq_int, bNe_int, fold_amt, fold_rule, fold_trial, ix_amt0, ix_amt1, ix_rule0, ix_rule1, ix_trial0, ix_trial1, bindT_amt, bindT_rule, bindT_trial, List.length_map, big_0, big_1, big_2, big_3, h0']) ?_
      refine Wp.step (by simp only [mFun, startR, ess, es, ev, evs, evo, evc, evl, evi, sSeq, sNil, sRet, sExp, sAsg, sOwn, sIf, sFor, sRaise, sAug, sMut, sSet, sFrz, frzR, mVar, mCst, mBin, mUn, mAnd, mOr, mIf, mChn, mNil, mCons, mSeq, mLst, mLen, mOf, mSl, mNo, mPt, mCall, mPri, mBmt, mOix, mOcmp, mISeq, mIBi, bind_ok, bind_exc, bind_bad, toS_ok, toS_exc, toS_bad, nx_ok, ofB_bl, lift_some, lift_none, bindT_nm, bindT_tp, bindTs_nil, bindTs_cons, bop, isi_ii, isi_bi, isi_bb, isi_tt, isi_ll, List.map_cons, List.map_nil, List.length_cons, List.length_nil, List.cons_append, List.nil_append, Nat.sub_self, List.replicate_zero, List.replicate_succ, List.getElem?_cons_succ, List.getElem?_cons_zero, List.set_cons_zero, List.set_cons_succ, Option.bind_some, Option.map_some, if_true, Bool.true_and, Bool.and_true, Bool.and_self, Bool.not_true, Bool.not_false, Bool.false_eq_true, if_false, ite_true, ite_false, reduceCtorEq, n1, n2, beq_self_eq_true, dIx_l, dIx_t, bAdd_int, bSub_int, dNeg_int, dNot_bl, bLt_int, bLe_int, bGt_int, bGe_int, bIs_non, bIsn_non, bIs_bl, bIsn_bl, non_non, non_int, non_str, non_lst, non_exc, non_amt, non_rule, non_trial, items_l, items_t, dSl_l, dOf_1, zip_l, enm_l, bEq_int, bNe_int, fold_amt, fold_rule, fold_trial, ix_amt0, ix_amt1, ix_rule0, ix_rule1, ix_trial0, ix_trial1, bindT_amt, bindT_rule, bindT_trial, List.length_map, big_0, big_1, big_2, big_3]; rfl) ?_
      rw [List.length_map] at hix
      refine Wp.step (by simp only [mFun, startR, ess, es, ev, evs, evo, evc, evl, evi, sSeq, sNil, sRet, sExp, sAsg, sOwn, sIf, sFor, sRaise, sAug, sMut, sSet, sFrz, frzR, mVar, mCst, mBin, mUn, mAnd, mOr, mIf, mChn, mNil, mCons, mSeq, mLst, mLen, mOf, mSl, mNo, mPt, mCall, mPri, mBmt, mOix, mOcmp, mISeq, mIBi, bind_ok, bind_exc, bind_bad, toS_ok, toS_exc, toS_bad, nx_ok, ofB_bl, lift_some, lift_none, bindT_nm, bindT_tp, bindTs_nil, bindTs_cons, bop, isi_ii, isi_bi, isi_bb, isi_tt, isi_ll, List.map_cons, List.map_nil, List.length_cons, List.length_nil, List.cons_append, List.nil_append, Nat.sub_self, List.replicate_zero, List.replicate_succ, List.getElem?_cons_succ, List.getElem?_cons_zero, List.set_cons_zero, List.set_cons_succ, Option.bind_some, Option.map_some, if_true, Bool.true_and, Bool.and_true, Bool.and_self, Bool.not_true, Bool.not_false, Bool.false_eq_true, if_false, ite_true, ite_false, reduceCtorEq, n1, n2, beq_self_eq_true, dIx_l, dIx_t, bAdd_int, bSub_int, dNeg_int, dNot_bl, bLt_int, bLe_int, bGt_int, bGe_int, bIs_non, bIsn_non, bIs_bl, bIsn_bl, non_non, non_int, non_str, non_lst, non_exc, non_amt, non_rule, non_trial, items_l, items_t, dSl_l, dOf_1, zip_l, enm_l, bEq_int, bNe_int, fold_amt, fold_rule, fold_trial, ix_amt0, ix_amt1, ix_rule0, ix_rule1, ix_trial0, ix_trial1, bindT_amt, bindT_rule, bindT_trial, List.length_map, big_0, big_1, big_2, big_3, hix]; rfl) ?_
      refine Wp.step (by simp only [mFun, startR, ess, es, ev, evs, evo, evc, evl, evi, sSeq, sNil, sRet, sExp, sAsg, sOwn, sIf, sFor, sRaise, sAug, sMut, sSet, sFrz, frzR, mVar, mCst, mBin, mUn, mAnd, mOr, mIf, mChn, mNil, mCons, mSeq, mLst, mLen, mOf, mSl, mNo, mPt, mCall, mPri, mBmt, mOix, mOcmp, mISeq, mIBi, bind_ok, bind_exc, bind_bad, toS_ok, toS_exc, toS_bad, nx_ok, ofB_bl, lift_some, lift_none, bindT_nm, bindT_tp, bindTs_nil, bindTs_cons, bop, isi_ii, isi_bi, isi_bb, isi_tt, isi_ll, List.map_cons, List.map_nil, List.length_cons, List.length_nil, List.cons_append, List.nil_append, Nat.sub_self, List.replicate_zero, List.replicate_succ, List.getElem?_cons_succ, List.getElem?_cons_zero, List.set_cons_zero, List.set_cons_succ, Option.bind_some, Option.map_some, if_true, Bool.true_and, Bool.and_true, Bool.and_self, Bool.not_true, Bool.not_false, Bool.false_eq_true, if_false, ite_true, ite_false, reduceCtorEq, n1, n2, beq_self_eq_true, dIx_l, dIx_t, bAdd_int, bSub_int, dNeg_int, dNot_bl, bLt_int, bLe_int, bGt_int, bGe_int, bIs_non, bIsn_non, bIs_bl, bIsn_bl, non_non, non_int, non_str, non_lst, non_exc, non_amt, non_rule, non_trial, items_l, items_t, dSl_l, dOf_1, zip_l, enm_l, bEq_int, bNe_int, fold_amt, fold_rule, fold_trial, ix_amt0, ix_amt1, ix_rule0, ix_rule1, ix_trial0, ix_trial1, bindT_amt, bindT_rule, bindT_trial, List.length_map, big_0, big_1, big_2, big_3, set_map, e3, e4]) h
    by_cases hex : ∃ x, Am x ∧ powN x (r.2.getD q 0).natAbs = (if r.2.getD q 0 < 0 then invQ (divQ wanted (rateQ r (as.set q (1, 1)))) else divQ wanted (rateQ r (as.set q (1, 1))))
    · have hw' := go _ (solve_tail T i B hi (P := fun y => ∃ x, Ok 160 x ∧ powN x (r.2.getD q 0).natAbs = (if r.2.getD q 0 < 0 then invQ (divQ wanted (rateQ r (as.set q (1, 1)))) else divQ wanted (rateQ r (as.set q (1, 1)))) ∧ y = .ret (amt x) w) hval (by omega) h0 (by omega) (by omega) (fun x _ h1 h2 => ⟨x, h1, h2, rfl⟩) (fun h => by
        obtain ⟨x, hx1, hx2⟩ := hex
        exact absurd hx2 (h x hx1)))
      obtain ⟨x, hx1, hx2, hx3⟩ := hw'
      exact .inl ⟨x, hx1, (rate_solve (f := r.1) (ps := r.2) hr.f.am ha.am hx1.am hw.am hq hqa h0).2 hx2, fun_ret hx3⟩
    · have hw' := go _ (solve_tail T i B hi (P := fun y => ∃ r', y = .exc 5 r' w) hval (by omega) h0 (by omega) (by omega) (fun x h1 _ h2 => absurd ⟨x, h1, h2⟩ hex) (fun h r' => ⟨r', rfl⟩))
      refine .inr ⟨fun x hx h => hex ⟨x, hx, (rate_solve (f := r.1) (ps := r.2) hr.f.am ha.am hx hw.am hq hqa h0).1 h⟩, fun_wx hw'⟩
def SpCrossing (φ : MF) : Prop := ∀ r s as (q : Nat) w, RuleB 100 r → RuleB 100 s → Oks 4 as → as.length = r.2.length → s.2.length = r.2.length → q < r.2.length →
  (r.2.getD q 0 = s.2.getD q 0 → φ [ruleD r, ruleD s, amts as, .int q] w = .exc 5 w) ∧ (r.2.getD q 0 ≠ s.2.getD q 0 → (∃ x, Ok 280 x ∧ rateQ r (as.set q x) = rateQ s (as.set q x) ∧ φ [ruleD r, ruleD s, amts as, .int q] w = .ok (amt x) w) ∨ ((∀ x, Am x → rateQ r (as.set q x) ≠ rateQ s (as.set q x)) ∧ φ [ruleD r, ruleD s, amts as, .int q] w = .exc 5 w))
theorem sp_crossing (T : Tab) (i j k m p q' : Nat) (B : TB T) (hi : SpRoot (T.f i)) (hj : SpQuotient (T.f j)) (hk : SpRateOf (T.f k)) (hm : SpCkQuantity (T.f m)) (hp : SpCkAmounts (T.f p)) (hq' : SpCkRule (T.f q')) : SpCrossing (mFun 9 (ess T (b_crossing i j k m p q'))) := by
  intro r s as q w hr hs ha hla hls hq
  have h3 := hr.p.1
  have hqa : q < as.length := by omega
  have hqs : q < s.2.length := by omega
  have e1 := hp as (r.2.length : Int) w ha.am (by rw [hla]) (by omega)
  have e1' := hp as (s.2.length : Int) w ha.am (by rw [hla, hls]) (by omega)
  have e2 := hm (r.2.length : Int) q w (by omega) (by omega)
  have pre : ∀ P, Wp T (.cons (.iff (.bin .eq (.var 4) (.cst (.int 0))) (.cons (.rais 5) .nil) .nil) (.cons (.own 5 (.of (.cons (.var 2) .nil))) (.cons (.set 5 (.var 3) (.tup (.cons (.cst (.int 1)) (.cons (.cst (.int 1)) .nil)))) (.cons (.frz 5 (.asg (.nm 6) (.call j (.cons (.call k (.cons (.var 1) (.cons (.var 5) .nil))) (.cons (.call k (.cons (.var 0) (.cons (.var 5) .nil))) .nil))))) (tailS i))))) [.dat (ruleD r), .dat (ruleD s), .dat (amts as), .dat (.int q), .dat (.int (r.2.getD q 0 - s.2.getD q 0)), .emp, .emp, .emp, .emp] w P → Wp T (b_crossing i j k m p q') (startR 9 [ruleD r, ruleD s, amts as, .int q]) w P := by
    intro P h
    rw [b_crossing]
    refine Wp.stay (by simp only [mFun, startR, ess, es, ev, evs, evo, evc, evl, evi, sSeq, sNil, sRet, sExp, sAsg, sOwn, sIf, sFor, sRaise, sAug, sMut, sSet, sFrz, frzR, mVar, mCst, mBin, mUn, mAnd, mOr, mIf, mChn, mNil, mCons, mSeq, mLst, mLen, mOf, mSl, mNo, mPt, mCall, mPri, mBmt, mOix, mOcmp, mISeq, mIBi, bind_ok, bind_exc, bind_bad, toS_ok, toS_exc, toS_bad, nx_ok, ofB_bl, lift_some, lift_none, bindT_nm, bindT_tp, bindTs_nil, bindTs_cons, bop, isi_ii, isi_bi, isi_bb, isi_tt, isi_ll, List.map_cons, List.map_nil, List.length_cons, List.length_nil, List.cons_append, List.nil_append, Nat.sub_self, List.replicate_zero, List.replicate_succ, List.getElem?_cons_succ, List.getElem?_cons_zero, List.set_cons_zero, List.set_cons_succ, Option.bind_some, Option.map_some, if_true, Bool.true_and, Bool.and_true, Bool.and_self, Bool.not_true, Bool.not_false, Bool.false_eq_true, if_false, ite_true, ite_false, reduceCtorEq, n1, n2, beq_self_eq_true, dIx_l, dIx_t, bAdd_int, bSub_int, dNeg_int, dNot_bl, bLt_int, bLe_int, bGt_int, bGe_int, bIs_non, bIsn_non, bIs_bl, bIsn_bl, non_non, non_int, non_str, non_lst, non_exc, non_amt, non_rule, non_trial, items_l, items_t, dSl_l, dOf_1, zip_l, enm_l, bEq_int, bNe_int, fold_amt, fold_rule, fold_trial, ix_amt0, ix_amt1, ix_rule0, ix_rule1, ix_trial0, ix_trial1, bindT_amt, bindT_rule, bindT_trial, List.length_map, big_0, big_1, big_2, big_3, hq' r w hr.a]) ?_
    refine Wp.stay (by simp only [mFun, startR, ess, es, ev, evs, evo, evc, evl, evi, sSeq, sNil, sRet, sExp, sAsg, sOwn, sIf, sFor, sRaise, sAug, sMut, sSet, sFrz, frzR, mVar, mCst, mBin, mUn, mAnd, mOr, mIf, mChn, mNil, mCons, mSeq, mLst, mLen, mOf, mSl, mNo, mPt, mCall, mPri, mBmt, mOix, mOcmp, mISeq, mIBi, bind_ok, bind_exc, bind_bad, toS_ok, toS_exc, toS_bad, nx_ok, ofB_bl, lift_some, lift_none, bindT_nm, bindT_tp, bindTs_nil, bindTs_cons, bop, isi_ii, isi_bi, isi_bb, isi_tt, isi_ll, List.map_cons, List.map_nil, List.length_cons, List.length_nil, List.cons_append, List.nil_append, Nat.sub_self, List.replicate_zero, List.replicate_succ, List.getElem?_cons_succ, List.getElem?_cons_zero, List.set_cons_zero, List.set_cons_succ, Option.bind_some, Option.map_some, if_true, Bool.true_and, Bool.and_true, Bool.and_self, Bool.not_true, Bool.not_false, Bool.false_eq_true, if_false, ite_true, ite_false, reduceCtorEq, n1, n2, beq_self_eq_true, dIx_l, dIx_t, bAdd_int, bSub_int, dNeg_int, dNot_bl, bLt_int, bLe_int, bGt_int, bGe_int, bIs_non, bIsn_non, bIs_bl, bIsn_bl, non_non, non_int, non_str, non_lst, non_exc, non_amt, non_rule, non_trial, items_l, items_t, dSl_l, dOf_1, zip_l, enm_l, bEq_int, bNe_int, fold_amt, fold_rule, fold_trial, ix_amt0, ix_amt1, ix_rule0, ix_rule1, ix_trial0, ix_trial1, bindT_amt, bindT_rule, bindT_trial, List.length_map, big_0, big_1, big_2, big_3, hq' s w hs.a]) ?_
    refine Wp.stay (by simp only [mFun, startR, ess, es, ev, evs, evo, evc, evl, evi, sSeq, sNil, sRet, sExp, sAsg, sOwn, sIf, sFor, sRaise, sAug, sMut, sSet, sFrz, frzR, mVar, mCst, mBin, mUn, mAnd, mOr, mIf, mChn, mNil, mCons, mSeq, mLst, mLen, mOf, mSl, mNo, mPt, mCall, mPri, mBmt, mOix, mOcmp, mISeq, mIBi, bind_ok, bind_exc, bind_bad, toS_ok, toS_exc, toS_bad, nx_ok, ofB_bl, lift_some, lift_none, bindT_nm, bindT_tp, bindTs_nil, bindTs_cons, bop, isi_ii, isi_bi, isi_bb, isi_tt, isi_ll, List.map_cons, List.map_nil, List.length_cons, List.length_nil, List.cons_append, List.nil_append, Nat.sub_self, List.replicate_zero, List.replicate_succ, List.getElem?_cons_succ, List.getElem?_cons_zero, List.set_cons_zero, List.set_cons_succ, Option.bind_some, Option.map_some, if_true, Bool.true_and, Bool.and_true, Bool.and_self, Bool.not_true, Bool.not_false, Bool.false_eq_true, if_false, ite_true, ite_false, reduceCtorEq, n1, n2, beq_self_eq_true, dIx_l, dIx_t, bAdd_int, bSub_int, dNeg_int, dNot_bl, bLt_int, bLe_int, bGt_int, bGe_int, bIs_non, bIsn_non, bIs_bl, bIsn_bl, non_non, non_int, non_str, non_lst, non_exc, non_amt, non_rule, non_trial, items_l, items_t, dSl_l, dOf_1, zip_l, enm_l, bEq_int, bNe_int, fold_amt, fold_rule, fold_trial, ix_amt0, ix_amt1, ix_rule0, ix_rule1, ix_trial0, ix_trial1, bindT_amt, bindT_rule, bindT_trial, List.length_map, big_0, big_1, big_2, big_3, B.p, p0, len_lst, e1]) ?_
    refine Wp.stay (by simp only [mFun, startR, ess, es, ev, evs, evo, evc, evl, evi, sSeq, sNil, sRet, sExp, sAsg, sOwn, sIf, sFor, sRaise, sAug, sMut, sSet, sFrz, frzR, mVar, mCst, mBin, mUn, mAnd, mOr, mIf, mChn, mNil, mCons, mSeq, mLst, mLen, mOf, mSl, mNo, mPt, mCall, mPri, mBmt, mOix, mOcmp, mISeq, mIBi, bind_ok, bind_exc, bind_bad, toS_ok, toS_exc, toS_bad, nx_ok, ofB_bl, lift_some, lift_none, bindT_nm, bindT_tp, bindTs_nil, bindTs_cons, bop, isi_ii, isi_bi, isi_bb, isi_tt, isi_ll, List.map_cons, List.map_nil, List.length_cons, List.length_nil, List.cons_append, List.nil_append, Nat.sub_self, List.replicate_zero, List.replicate_succ, List.getElem?_cons_succ, List.getElem?_cons_zero, List.set_cons_zero, List.set_cons_succ, Option.bind_some, Option.map_some, if_true, Bool.true_and, Bool.and_true, Bool.and_self, Bool.not_true, Bool.not_false, Bool.false_eq_true, if_false, ite_true, ite_false, reduceCtorEq, n1, n2, beq_self_eq_true, dIx_l, dIx_t, bAdd_int, bSub_int, dNeg_int, dNot_bl, bLt_int, bLe_int, bGt_int, bGe_int, bIs_non, bIsn_non, bIs_bl, bIsn_bl, non_non, non_int, non_str, non_lst, non_exc, non_amt, non_rule, non_trial, items_l, items_t, dSl_l, dOf_1, zip_l, enm_l, bEq_int, bNe_int, fold_amt, fold_rule, fold_trial, ix_amt0, ix_amt1, ix_rule0, ix_rule1, ix_trial0, ix_trial1, bindT_amt, bindT_rule, bindT_trial, List.length_map, big_0, big_1, big_2, big_3, B.p, p0, len_lst, e1']) ?_
    refine Wp.stay (by simp only [mFun, startR, ess, es, ev, evs, evo, evc, evl, evi, sSeq, sNil, sRet, sExp, sAsg, sOwn, sIf, sFor, sRaise, sAug, sMut, sSet, sFrz, frzR, mVar, mCst, mBin, mUn, mAnd, mOr, mIf, mChn, mNil, mCons, mSeq, mLst, mLen, mOf, mSl, mNo, mPt, mCall, mPri, mBmt, mOix, mOcmp, mISeq, mIBi, bind_ok, bind_exc, bind_bad, toS_ok, toS_exc, toS_bad, nx_ok, ofB_bl, lift_some, lift_none, bindT_nm, bindT_tp, bindTs_nil, bindTs_cons, bop, isi_ii, isi_bi, isi_bb, isi_tt, isi_ll, List.map_cons, List.map_nil, List.length_cons, List.length_nil, List.cons_append, List.nil_append, Nat.sub_self, List.replicate_zero, List.replicate_succ, List.getElem?_cons_succ, List.getElem?_cons_zero, List.set_cons_zero, List.set_cons_succ, Option.bind_some, Option.map_some, if_true, Bool.true_and, Bool.and_true, Bool.and_self, Bool.not_true, Bool.not_false, Bool.false_eq_true, if_false, ite_true, ite_false, reduceCtorEq, n1, n2, beq_self_eq_true, dIx_l, dIx_t, bAdd_int, bSub_int, dNeg_int, dNot_bl, bLt_int, bLe_int, bGt_int, bGe_int, bIs_non, bIsn_non, bIs_bl, bIsn_bl, non_non, non_int, non_str, non_lst, non_exc, non_amt, non_rule, non_trial, items_l, items_t, dSl_l, dOf_1, zip_l, enm_l, bEq_int, bNe_int, fold_amt, fold_rule, fold_trial, ix_amt0, ix_amt1, ix_rule0, ix_rule1, ix_trial0, ix_trial1, bindT_amt, bindT_rule, bindT_trial, List.length_map, big_0, big_1, big_2, big_3, B.p, p0, len_lst, e2]) ?_
    refine Wp.step (by simp only [mFun, startR, ess, es, ev, evs, evo, evc, evl, evi, sSeq, sNil, sRet, sExp, sAsg, sOwn, sIf, sFor, sRaise, sAug, sMut, sSet, sFrz, frzR, mVar, mCst, mBin, mUn, mAnd, mOr, mIf, mChn, mNil, mCons, mSeq, mLst, mLen, mOf, mSl, mNo, mPt, mCall, mPri, mBmt, mOix, mOcmp, mISeq, mIBi, bind_ok, bind_exc, bind_bad, toS_ok, toS_exc, toS_bad, nx_ok, ofB_bl, lift_some, lift_none, bindT_nm, bindT_tp, bindTs_nil, bindTs_cons, bop, isi_ii, isi_bi, isi_bb, isi_tt, isi_ll, List.map_cons, List.map_nil, List.length_cons, List.length_nil, List.cons_append, List.nil_append, Nat.sub_self, List.replicate_zero, List.replicate_succ, List.getElem?_cons_succ, List.getElem?_cons_zero, List.set_cons_zero, List.set_cons_succ, Option.bind_some, Option.map_some, if_true, Bool.true_and, Bool.and_true, Bool.and_self, Bool.not_true, Bool.not_false, Bool.false_eq_true, if_false, ite_true, ite_false, reduceCtorEq, n1, n2, beq_self_eq_true, dIx_l, dIx_t, bAdd_int, bSub_int, dNeg_int, dNot_bl, bLt_int, bLe_int, bGt_int, bGe_int, bIs_non, bIsn_non, bIs_bl, bIsn_bl, non_non, non_int, non_str, non_lst, non_exc, non_amt, non_rule, non_trial, items_l, items_t, dSl_l, dOf_1, zip_l, enm_l, bEq_int, bNe_int, fold_amt, fold_rule, fold_trial, ix_amt0, ix_amt1, ix_rule0, ix_rule1, ix_trial0, ix_trial1, bindT_amt, bindT_rule, bindT_trial, List.length_map, big_0, big_1, big_2, big_3, atI_ints hq, atI_ints hqs]; rfl) ?_
    exact h
  have hmem : r.2.getD q 0 ∈ r.2 := by simp [List.getD, hq]
  have hpw := hr.p.2 _ hmem
  have hmem2 : s.2.getD q 0 ∈ s.2 := by simp [List.getD, hqs]
  have hpw2 := hs.p.2 _ hmem2
  constructor
  · intro h0
    refine fun_wx (pre _ ?_)
    have h0' : (r.2.getD q 0 - s.2.getD q 0 == 0) = true := by
      rw [h0]
      simp
    exact Wp.exc (w' := w) (by simp only [mFun, startR, ess, es, ev, evs, evo, evc, evl, evi, sSeq, sNil, sRet, sExp, sAsg, sOwn, sIf, sFor, sRaise, sAug, sMut, sSet, sFrz, frzR, mVar, mCst, mBin, mUn, mAnd, mOr, mIf, mChn, mNil, mCons, mSeq, mLst, mLen, mOf, mSl, mNo, mPt, mCall, mPri, mBmt, mOix, mOcmp, mISeq, mIBi, bind_ok, bind_exc, bind_bad, toS_ok, toS_exc, toS_bad, nx_ok, ofB_bl, lift_some, lift_none, bindT_nm, bindT_tp, bindTs_nil, bindTs_cons, bop, isi_ii, isi_bi, isi_bb, isi_tt, isi_ll, List.map_cons, List.map_nil, List.length_cons, List.length_nil, List.cons_append, List.nil_append, Nat.sub_self, List.replicate_zero, List.replicate_succ, List.getElem?_cons_succ, List.getElem?_cons_zero, List.set_cons_zero, List.set_cons_succ, Option.bind_some, Option.map_some, if_true, Bool.true_and, Bool.and_true, Bool.and_self, Bool.not_true, Bool.not_false, Bool.false_eq_true, if_false, ite_true, ite_false, reduceCtorEq, n1, n2, beq_self_eq_true, dIx_l, dIx_t, bAdd_int, bSub_int, dNeg_int, dNot_bl, bLt_int, bLe_int, bGt_int, bGe_int, bIs_non, bIsn_non, bIs_bl, bIsn_bl, non_non, non_int, non_str, non_lst, non_exc, non_amt, non_rule, non_trial, items_l, items_t, dSl_l, dOf_1, zip_l, enm_l, bEq_int, bNe_int, fold_amt, fold_rule, fold_trial, ix_amt0, ix_amt1, ix_rule0, ix_rule1, ix_trial0, ix_trial1, bindT_amt, bindT_rule, bindT_trial, List.length_map, big_0, big_1, big_2, big_3, h0']; rfl) ⟨_, rfl⟩
  · intro h0
    have hne : r.2.getD q 0 - s.2.getD q 0 ≠ 0 := by omega
    have h0' : (r.2.getD q 0 - s.2.getD q 0 == 0) = false := by simpa using hne
    have hs1 : Oks 4 (as.set q (1, 1)) := ha.set (one_ok.mono (by omega)) q
    have e3 := hk r (as.set q (1, 1)) 4 100 w hr.f hr.p hs1 (by omega) (by omega)
    have e3' := hk s (as.set q (1, 1)) 4 100 w hs.f hs.p hs1 (by omega) (by omega)
    have hrt := rateQ_ok hr.f hr.p hs1
    have hst := rateQ_ok hs.f hs.p hs1
    have e4 := hj _ _ _ _ w hst hrt (by omega)
    have hval : Ok 280 (divQ (rateQ s (as.set q (1, 1))) (rateQ r (as.set q (1, 1)))) := (hst.div hrt).mono (by omega)
    have hix : ixN (as.map amt).length (q : Int) = some q := ixN_nat (by simpa using hqa)
    have go : ∀ P, Wp T (tailS i) [.dat (ruleD r), .dat (ruleD s), .dat (amts as), .dat (.int q), .dat (.int (r.2.getD q 0 - s.2.getD q 0)), .dat (amts (as.set q (1, 1))), .dat (amt (divQ (rateQ s (as.set q (1, 1))) (rateQ r (as.set q (1, 1))))), .emp, .emp] w P → Wp T (b_crossing i j k m p q') (startR 9 [ruleD r, ruleD s, amts as, .int q]) w P := by
      intro P h
      refine pre P ?_
      refine Wp.iff0 (w' := w) (by simp only [mFun, startR, ess, es, ev, evs, evo, evc, evl, evi, sSeq, sNil, sRet, sExp, sAsg, sOwn, sIf, sFor, sRaise, sAug, sMut, sSet, sFrz, frzR, mVar, mCst, mBin, mUn, mAnd, mOr, mIf, mChn, mNil, mCons, mSeq, mLst, mLen, mOf, mSl, mNo, mPt, mCall, mPri, mBmt, mOix, mOcmp, mISeq, mIBi, bind_ok, bind_exc, bind_bad, toS_ok, toS_exc, toS_bad, nx_ok, ofB_bl, lift_some, lift_none, bindT_nm, bindT_tp, bindTs_nil, bindTs_cons, bop, isi_ii, isi_bi, isi_bb, isi_tt, isi_ll, List.map_cons, List.map_nil, List.length_cons, List.length_nil, List.cons_append, List.nil_append, Nat.sub_self, List.replicate_zero, List.replicate_succ, List.getElem?_cons_succ, List.getElem?_cons_zero, List.set_cons_zero, List.set_cons_succ, Option.bind_some, Option.map_some, if_true, Bool.true_and, Bool.and_true, Bool.and_self, Bool.not_true, Bool.not_false, Bool.false_eq_true, if_false, ite_true, ite_false, reduceCtorEq, n1, n2, beq_self_eq_true, dIx_l, dIx_t, bAdd_int, bSub_int, dNeg_int, dNot_bl, bLt_int, bLe_int, bGt_int, bGe_int, bIs_non, bIsn_non, bIs_bl, bIsn_bl, non_non, non_int, non_str, non_lst, non_exc, non_amt, non_rule, non_trial, items_l, items_t, dSl_l, dOf_1, zip_l, enm_l, bEq_int, bNe_int, fold_amt, fold_rule, fold_trial, ix_amt0, ix_amt1, ix_rule0, ix_rule1, ix_trial0, ix_trial1, bindT_amt, bindT_rule, bindT_trial, List.length_map, big_0, big_1, big_2, big_3, h0']) ?_
      refine Wp.step (by simp only [mFun, startR, ess, es, ev, evs, evo, evc, evl, evi, sSeq, sNil, sRet, sExp, sAsg, sOwn, sIf, sFor, sRaise, sAug, sMut, sSet, sFrz, frzR, mVar, mCst, mBin, mUn, mAnd, mOr, mIf, mChn, mNil, mCons, mSeq, mLst, mLen, mOf, mSl, mNo, mPt, mCall, mPri, mBmt, mOix, mOcmp, mISeq, mIBi, bind_ok, bind_exc, bind_bad, toS_ok, toS_exc, toS_bad, nx_ok, ofB_bl, lift_some, lift_none, bindT_nm, bindT_tp, bindTs_nil, bindTs_cons, bop, isi_ii, isi_bi, isi_bb, isi_tt, isi_ll, List.map_cons, List.map_nil, List.length_cons, List.length_nil, List.cons_append, List.nil_append, Nat.sub_self, List.replicate_zero, List.replicate_succ, List.getElem?_cons_succ, List.getElem?_cons_zero, List.set_cons_zero, List.set_cons_succ, Option.bind_some, Option.map_some, if_true, Bool.true_and, Bool.and_true, Bool.and_self, Bool.not_true, Bool.not_false, Bool.false_eq_true, if_false, ite_true, ite_false, reduceCtorEq, n1, n2, beq_self_eq_true, dIx_l, dIx_t, bAdd_int, bSub_int, dNeg_int, dNot_bl, bLt_int, bLe_int, bGt_int, bGe_int, bIs_non, bIsn_non, bIs_bl, bIsn_bl, non_non, non_int, non_str, non_lst, non_exc, non_amt, non_rule, non_trial, items_l, items_t, dSl_l, dOf_1, zip_l, enm_l, bEq_int, bNe_int, fold_amt, fold_rule, fold_trial, ix_amt0, ix_amt1, ix_rule0, ix_rule1, ix_trial0, ix_trial1, bindT_amt, bindT_rule, bindT_trial, List.length_map, big_0, big_1, big_2, big_3]; rfl) ?_
      rw [List.length_map] at hix
      refine Wp.step (by simp only [mFun, startR, ess, es, ev, evs, evo, evc, evl, evi, sSeq, sNil, sRet, sExp, sAsg, sOwn, sIf, sFor, sRaise, sAug, sMut, sSet, sFrz, frzR, mVar, mCst, mBin, mUn, mAnd, mOr, mIf, mChn, mNil, mCons, mSeq, mLst, mLen, mOf, mSl, mNo, mPt, mCall, mPri, mBmt, mOix, mOcmp, mISeq, mIBi, bind_ok, bind_exc, bind_bad, toS_ok, toS_exc, toS_bad, nx_ok, ofB_bl, lift_some, lift_none, bindT_nm, bindT_tp, bindTs_nil, bindTs_cons, bop, isi_ii, isi_bi, isi_bb, isi_tt, isi_ll, List.map_cons, List.map_nil, List.length_cons, List.length_nil, List.cons_append, List.nil_append, Nat.sub_self, List.replicate_zero, List.replicate_succ, List.getElem?_cons_succ, List.getElem?_cons_zero, List.set_cons_zero, List.set_cons_succ, Option.bind_some, Option.map_some, if_true, Bool.true_and, Bool.and_true, Bool.and_self, Bool.not_true, Bool.not_false, Bool.false_eq_true, if_false, ite_true, ite_false, reduceCtorEq, n1, n2, beq_self_eq_true, dIx_l, dIx_t, bAdd_int, bSub_int, dNeg_int, dNot_bl, bLt_int, bLe_int, bGt_int, bGe_int, bIs_non, bIsn_non, bIs_bl, bIsn_bl, non_non, non_int, non_str, non_lst, non_exc, non_amt, non_rule, non_trial, items_l, items_t, dSl_l, dOf_1, zip_l, enm_l, bEq_int, bNe_int, fold_amt, fold_rule, fold_trial, ix_amt0, ix_amt1, ix_rule0, ix_rule1, ix_trial0, ix_trial1, bindT_amt, bindT_rule, bindT_trial, List.length_map, big_0, big_1, big_2, big_3, hix]; rfl) ?_
      refine Wp.step (by simp only [mFun, startR, ess, es, ev, evs, evo, evc, evl, evi, sSeq, sNil, sRet, sExp, sAsg, sOwn, sIf, sFor, sRaise, sAug, sMut, sSet, sFrz, frzR, mVar, mCst, mBin, mUn, mAnd, mOr, mIf, mChn, mNil, mCons, mSeq, mLst, mLen, mOf, mSl, mNo, mPt, mCall, mPri, mBmt, mOix, mOcmp, mISeq, mIBi, bind_ok, bind_exc, bind_bad, toS_ok, toS_exc, toS_bad, nx_ok, ofB_bl, lift_some, lift_none, bindT_nm, bindT_tp, bindTs_nil, bindTs_cons, bop, isi_ii, isi_bi, isi_bb, isi_tt, isi_ll, List.map_cons, List.map_nil, List.length_cons, List.length_nil, List.cons_append, List.nil_append, Nat.sub_self, List.replicate_zero, List.replicate_succ, List.getElem?_cons_succ, List.getElem?_cons_zero, List.set_cons_zero, List.set_cons_succ, Option.bind_some, Option.map_some, if_true, Bool.true_and, Bool.and_true, Bool.and_self, Bool.not_true, Bool.not_false, Bool.false_eq_true, if_false, ite_true, ite_false, reduceCtorEq, n1, n2, beq_self_eq_true, dIx_l, dIx_t, bAdd_int, bSub_int, dNeg_int, dNot_bl, bLt_int, bLe_int, bGt_int, bGe_int, bIs_non, bIsn_non, bIs_bl, bIsn_bl, non_non, non_int, non_str, non_lst, non_exc, non_amt, non_rule, non_trial, items_l, items_t, dSl_l, dOf_1, zip_l, enm_l, bEq_int, bNe_int, fold_amt, fold_rule, fold_trial, ix_amt0, ix_amt1, ix_rule0, ix_rule1, ix_trial0, ix_trial1, bindT_amt, bindT_rule, bindT_trial, List.length_map, big_0, big_1, big_2, big_3, set_map, e3, e3', e4]) h
    have solve := fun (x : Int × Int) (hx : Am x) => cross_solve (f := r.1) (ps := r.2) (g := s.1) (qs := s.2) (as := as) (q := q) (x := x) hr.f.am hs.f.am ha.am hx hq hqs hqa hne
    by_cases hex : ∃ x, Am x ∧ powN x (r.2.getD q 0 - s.2.getD q 0).natAbs = (if r.2.getD q 0 - s.2.getD q 0 < 0 then invQ (divQ (rateQ s (as.set q (1, 1))) (rateQ r (as.set q (1, 1)))) else divQ (rateQ s (as.set q (1, 1))) (rateQ r (as.set q (1, 1))))
    · have hw' := go _ (solve_tail T i B hi (P := fun y => ∃ x, Ok 280 x ∧ powN x (r.2.getD q 0 - s.2.getD q 0).natAbs = (if r.2.getD q 0 - s.2.getD q 0 < 0 then invQ (divQ (rateQ s (as.set q (1, 1))) (rateQ r (as.set q (1, 1)))) else divQ (rateQ s (as.set q (1, 1))) (rateQ r (as.set q (1, 1)))) ∧ y = .ret (amt x) w) hval (by omega) hne (by omega) (by omega) (fun x _ h1 h2 => ⟨x, h1, h2, rfl⟩) (fun h => by
        obtain ⟨x, hx1, hx2⟩ := hex
        exact absurd hx2 (h x hx1)))
      obtain ⟨x, hx1, hx2, hx3⟩ := hw'
      exact .inl ⟨x, hx1, (solve x hx1.am).2 hx2, fun_ret hx3⟩
    · have hw' := go _ (solve_tail T i B hi (P := fun y => ∃ r', y = .exc 5 r' w) hval (by omega) hne (by omega) (by omega) (fun x h1 _ h2 => absurd ⟨x, h1, h2⟩ hex) (fun h r' => ⟨r', rfl⟩))
      refine .inr ⟨fun x hx h => hex ⟨x, hx, (solve x hx).1 h⟩, fun_wx hw'⟩
end RL

/-! the order of fractions; places in order: no program in sight -/
namespace RL
theorem ltQ_iff {x y : Int × Int} : ltQ x y = true ↔ x.1 * y.2 < y.1 * x.2 := by
  unfold ltQ
  exact decide_eq_true_iff
theorem ltQ_no {x y : Int × Int} : ltQ x y = false ↔ y.1 * x.2 ≤ x.1 * y.2 := by
  unfold ltQ
  rw [decide_eq_false_iff_not]
  omega
theorem ltQ_irr (x : Int × Int) : ltQ x x = false := by
  rw [ltQ_no]
  exact Int.le_refl _
theorem ltQ_is {x y : Int × Int} {a b c d : Int} (h : Is x a b) (k : Is y c d) : ltQ x y = decide (a * d < c * b) := by
  have hx := h.am
  have hy := k.am
  have e1 := h.cross
  have e2 := k.cross
  have p1 : 0 < b * d := Int.mul_pos h.2.1 k.2.1
  have p2 : 0 < x.2 * y.2 := Int.mul_pos hx.2.1 hy.2.1
  have key : (x.1 * y.2) * (b * d) = (a * d) * (x.2 * y.2) := by
    calc (x.1 * y.2) * (b * d) = (x.1 * b) * (y.2 * d) := by ac_rfl
      _ = (a * x.2) * (y.2 * d) := by rw [e1]
      _ = (a * d) * (x.2 * y.2) := by ac_rfl
  have key2 : (y.1 * x.2) * (b * d) = (c * b) * (x.2 * y.2) := by
    calc (y.1 * x.2) * (b * d) = (y.1 * d) * (x.2 * b) := by ac_rfl
      _ = (c * y.2) * (x.2 * b) := by rw [e2]
      _ = (c * b) * (x.2 * y.2) := by ac_rfl
  unfold ltQ
  refine decide_eq_decide.2 ⟨fun q => ?_, fun q => ?_⟩
  · have := Int.mul_lt_mul_of_pos_right q p1
    rw [key, key2] at this
    exact Int.lt_of_mul_lt_mul_right this (Int.le_of_lt p2)
  · have := Int.mul_lt_mul_of_pos_right q p2
    rw [← key, ← key2] at this
    exact Int.lt_of_mul_lt_mul_right this (Int.le_of_lt p1)
theorem ltQ_trans {x y z : Int × Int} (hx : Am x) (hy : Am y) (hz : Am z) (h : ltQ y x = false) (k : ltQ z y = false) : ltQ z x = false := by
  rw [ltQ_no] at h k ⊢
  have h1 := Int.mul_le_mul_of_nonneg_right h (Int.le_of_lt hz.2.1)
  have h2 := Int.mul_le_mul_of_nonneg_right k (Int.le_of_lt hx.2.1)
  have e1 : x.1 * y.2 * z.2 = x.1 * z.2 * y.2 := by ac_rfl
  have e2 : y.1 * x.2 * z.2 = y.1 * z.2 * x.2 := by ac_rfl
  have e3 : z.1 * y.2 * x.2 = z.1 * x.2 * y.2 := by ac_rfl
  rw [e1, e2] at h1
  rw [e3] at h2
  exact Int.le_of_mul_le_mul_right (Int.le_trans h1 h2) hy.2.1
theorem ltQ_asym {x y : Int × Int} (h : ltQ x y = true) : ltQ y x = false := by
  rw [ltQ_iff] at h
  rw [ltQ_no]
  omega
theorem ltQ_total {x y : Int × Int} (hx : Am x) (hy : Am y) (h : ltQ x y = false) (k : ltQ y x = false) : x = y := by
  rw [ltQ_no] at h k
  exact hx.is.eq hy.is (by omega)
theorem ltQ_mul {x y z : Int × Int} (hx : Am x) (hy : Am y) (hz : Am z) : ltQ (mulQ x z) (mulQ y z) = ltQ x y := by
  rw [ltQ_is (hx.is.mul hz.is) (hy.is.mul hz.is)]
  unfold ltQ
  have p : 0 < z.1 * z.2 := Int.mul_pos hz.1 hz.2.1
  refine decide_eq_decide.2 ?_
  have e1 : x.1 * z.1 * (y.2 * z.2) = x.1 * y.2 * (z.1 * z.2) := by ac_rfl
  have e2 : y.1 * z.1 * (x.2 * z.2) = y.1 * x.2 * (z.1 * z.2) := by ac_rfl
  rw [e1, e2]
  exact ⟨fun q => Int.lt_of_mul_lt_mul_right q (Int.le_of_lt p), fun q => Int.mul_lt_mul_of_pos_right q p⟩
theorem ltQ_inv {x y : Int × Int} : ltQ (invQ x) (invQ y) = ltQ y x := by
  unfold ltQ invQ
  refine decide_eq_decide.2 ?_
  show x.2 * y.1 < y.2 * x.1 ↔ y.1 * x.2 < x.1 * y.2
  rw [Int.mul_comm x.2, Int.mul_comm y.2]
/-! ### places in order -/
def insP (rs : List (Int × Int)) (found : List Nat) (k : Nat) : List Nat :=
  let b := (found.filter fun far => !ltQ (rs.getD k default) (rs.getD far default)).length
  found.take b ++ [k] ++ found.drop b
def ordN (rs : List (Int × Int)) : Nat → List Nat
  | 0 => []
  | n + 1 => insP rs (ordN rs n) n
def ordQ (rs : List (Int × Int)) : List Nat := ordN rs rs.length
def ltP (rs : List (Int × Int)) (i j : Nat) : Prop := ltQ (rs.getD i default) (rs.getD j default) = true ∨ (rs.getD i default = rs.getD j default ∧ i < j)
theorem take_filter {α : Type} {R : α → α → Prop} {p : α → Bool} (h : ∀ x y, R x y → p y = true → p x = true) : ∀ {l : List α}, l.Pairwise R → l.take (l.filter p).length = l.filter p ∧ l.drop (l.filter p).length = l.filter fun x => !p x
  | [], _ => by simp
  | x :: l, hl => by
    rw [List.pairwise_cons] at hl
    obtain ⟨h1, h2⟩ := take_filter h hl.2
    cases hp : p x with
    | true =>
      simp only [List.filter_cons, hp, if_true, List.length_cons, List.take_succ_cons, List.drop_succ_cons, h1, h2, Bool.not_true, Bool.false_eq_true, if_false, true_and]
    | false =>
      have no : ∀ y ∈ l, p y = false := fun y hy => by
        cases hq : p y with
        | false => rfl
        | true => rw [h x y (hl.1 y hy) hq] at hp; cases hp
      have e : l.filter p = [] := List.filter_eq_nil_iff.2 fun y hy => by rw [no y hy]; decide
      have e2 : (l.filter fun x => !p x) = l := List.filter_eq_self.2 fun y hy => by rw [no y hy]; rfl
      simp only [List.filter_cons, hp, Bool.false_eq_true, if_false, e, List.length_nil, List.take_zero, List.drop_zero, Bool.not_false, if_true, e2, true_and]
theorem ordN_ok {rs : List (Int × Int)} (hr : Ams rs) : ∀ n, n ≤ rs.length → (ordN rs n).Perm (List.range n) ∧ (ordN rs n).Pairwise (ltP rs)
  | 0, _ => ⟨.refl _, .nil⟩
  | n + 1, hn => by
    obtain ⟨h1, h2⟩ := ordN_ok hr n (by omega)
    have am : ∀ i, i < rs.length → Am (rs.getD i default) := fun i hi => hr _ (getD_mem hi)
    have small : ∀ i ∈ ordN rs n, i < n := fun i hi => List.mem_range.1 (h1.mem_iff.1 hi)
    -- not greater is closed downwards
    have h2' : (ordN rs n).Pairwise fun i j => ltQ (rs.getD j default) (rs.getD i default) = false := h2.imp fun {i j} q => by
      rcases q with q | q
      · exact ltQ_asym q
      · rw [q.1]
        exact ltQ_irr _
    have h3 : ∀ (l : List Nat), (∀ i ∈ l, i < n) → l.Pairwise (fun i j => ltQ (rs.getD j default) (rs.getD i default) = false) → l.take (l.filter fun far => !ltQ (rs.getD n default) (rs.getD far default)).length = (l.filter fun far => !ltQ (rs.getD n default) (rs.getD far default)) ∧ l.drop (l.filter fun far => !ltQ (rs.getD n default) (rs.getD far default)).length = l.filter fun x => !(!ltQ (rs.getD n default) (rs.getD x default)) := by
      intro l hl hp
      refine take_filter (R := fun i j => i < n ∧ j < n ∧ ltQ (rs.getD j default) (rs.getD i default) = false) (p := fun far => !ltQ (rs.getD n default) (rs.getD far default)) ?_ ?_
      · rintro x y ⟨hx, hy, q⟩ hpy
        have hpy : ltQ (rs.getD n default) (rs.getD y default) = false := by simpa using hpy
        have := ltQ_trans (am x (by omega)) (am y (by omega)) (am n (by omega)) q hpy
        show (!ltQ _ _) = true
        rw [this]
        rfl
      · exact List.Pairwise.imp_of_mem (fun {a b} ha hb q => ⟨hl a ha, hl b hb, q⟩) hp
    obtain ⟨t1, t2⟩ := h3 _ small h2'
    have e : ordN rs (n + 1) = (ordN rs n).filter (fun far => !ltQ (rs.getD n default) (rs.getD far default)) ++ [n] ++ (ordN rs n).filter fun x => !(!ltQ (rs.getD n default) (rs.getD x default)) := by
      rw [ordN, insP]
      simp only [t1, t2]
    constructor
    · rw [e, List.range_succ]
      have p1 := List.filter_append_perm (fun far => !ltQ (rs.getD n default) (rs.getD far default)) (ordN rs n)
      rw [List.append_assoc]
      refine (List.perm_append_comm_assoc _ _ _).trans ?_
      refine List.Perm.trans ?_ List.perm_append_comm
      exact List.Perm.append_left _ (p1.trans h1)
    · rw [e, List.append_assoc, List.pairwise_append, List.pairwise_append]
      refine ⟨h2.sublist List.filter_sublist, ⟨List.pairwise_singleton _ _, h2.sublist List.filter_sublist, fun a ha b hb => ?_⟩, fun a ha b hb => ?_⟩
      · rw [List.mem_singleton] at ha
        subst ha
        have := (List.mem_filter.1 hb).2
        exact .inl (by simpa using this)
      · obtain ⟨a1, a2⟩ := List.mem_filter.1 ha
        have a2 : ltQ (rs.getD n default) (rs.getD a default) = false := by simpa using a2
        have an := small a a1
        rcases List.mem_append.1 hb with hb | hb
        · rw [List.mem_singleton] at hb
          subst hb
          cases q : ltQ (rs.getD a default) (rs.getD b default) with
          | true => exact .inl q
          | false => exact .inr ⟨ltQ_total (am a (by omega)) (am b (by omega)) q a2, an⟩
        · obtain ⟨b1, b2⟩ := List.mem_filter.1 hb
          have b2 : ltQ (rs.getD n default) (rs.getD b default) = true := by simpa using b2
          refine .inl ?_
          cases q : ltQ (rs.getD a default) (rs.getD b default) with
          | true => rfl
          | false =>
            have bn := small b b1
            have := ltQ_trans (am b (by omega)) (am a (by omega)) (am n (by omega)) q a2
            rw [this] at b2
            cases b2
theorem ordQ_perm {rs : List (Int × Int)} (h : Ams rs) : (ordQ rs).Perm (List.range rs.length) := (ordN_ok h _ (Nat.le_refl _)).1
theorem ordQ_sorted {rs : List (Int × Int)} (h : Ams rs) : (ordQ rs).Pairwise (ltP rs) := (ordN_ok h _ (Nat.le_refl _)).2
theorem ltP_asym {rs : List (Int × Int)} {i j : Nat} (h : ltP rs i j) (k : ltP rs j i) : False := by
  rcases h with h | h
  · rcases k with k | k
    · rw [ltQ_asym h] at k
      cases k
    · rw [k.1, ltQ_irr] at h
      cases h
  · rcases k with k | k
    · rw [h.1, ltQ_irr] at k
      cases k
    · omega
theorem ord_unique {R : Nat → Nat → Prop} (as : ∀ i j, R i j → R j i → False) : ∀ {xs ys : List Nat}, xs.Perm ys → xs.Pairwise R → ys.Pairwise R → xs = ys
  | [], ys, p, _, _ => by simp [p.symm.eq_nil]
  | x :: xs, [], p, _, _ => by simp at p
  | x :: xs, y :: ys, p, h1, h2 => by
    rw [List.pairwise_cons] at h1 h2
    have e : x = y := by
      rcases List.mem_cons.1 (p.mem_iff.1 List.mem_cons_self) with e | a1
      · exact e
      · rcases List.mem_cons.1 (p.mem_iff.2 (List.mem_cons_self (a := y) (l := ys))) with e | a2
        · exact e.symm
        · exact (as _ _ (h1.1 y a2) (h2.1 x a1)).elim
    subst e
    rw [ord_unique as (List.perm_cons x |>.1 p) h1.2 h2.2]
/-- the places are known by their order alone -/
theorem ordQ_of {rs : List (Int × Int)} (h : Ams rs) {xs : List Nat} (p : xs.Perm (List.range rs.length)) (q : xs.Pairwise (ltP rs)) : ordQ rs = xs := ord_unique (fun _ _ => ltP_asym) ((ordQ_perm h).trans p.symm) (ordQ_sorted h) q
theorem ordQ_length {rs : List (Int × Int)} (h : Ams rs) : (ordQ rs).length = rs.length := by rw [(ordQ_perm h).length_eq, List.length_range]
theorem ordQ_lt {rs : List (Int × Int)} (h : Ams rs) {i : Nat} (m : i ∈ ordQ rs) : i < rs.length := List.mem_range.1 ((ordQ_perm h).mem_iff.1 m)
end RL

namespace RL
open PySem L2
theorem Wp.forN {T : Tab} {b ss : Ss} {r : Rho} {w w' : Wd} {P : RS → Prop} {enc : Nat → D} {n : Nat} {t : Tg} {it : I} (J : Nat → Rho → Wd → Prop) (hi : evi T it r w = .ok ((List.range n).map enc) w') (h0 : J 0 r w')
    (hb : ∀ k r w, k < n → J k r w → ∃ r1 r2 w2, bindT t (enc k) r = some r1 ∧ ess T b r1 w = .next r2 w2 ∧ J (k + 1) r2 w2) (k : ∀ r w, J n r w → Wp T ss r w P) : Wp T (.cons (.for' t it b) ss) r w P := by
  refine Wp.for' (fun xs r w => ∃ k, k ≤ n ∧ xs = (List.range n).drop k ∧ J k r w) hi ⟨0, Nat.zero_le _, by simp, h0⟩ ?_ ?_
  · rintro x xs r w ⟨k, hk, e, hj⟩
    have hlt : k < n := by
      rcases Nat.lt_or_ge k n with h | h
      · exact h
      · rw [List.drop_of_length_le (by simpa using h)] at e
        cases e
    rw [List.drop_eq_getElem_cons (by simpa using hlt)] at e
    rw [List.cons.injEq] at e
    obtain ⟨e1, e2⟩ := e
    rw [List.getElem_range] at e1
    subst e1
    obtain ⟨r1, r2, w2, a1, a2, a3⟩ := hb x r w hlt hj
    exact ⟨r1, r2, w2, a1, a2, x + 1, hlt, e2, a3⟩
  · rintro r w ⟨m, hm, e, hj⟩
    have : m = n := by
      have := congrArg List.length e
      simp at this
      omega
    subst this
    exact k r w hj
theorem map_range {α : Type} {f : α → D} {d : α} (xs : List α) : xs.map f = (List.range xs.length).map fun k => f (xs.getD k d) := by
  apply List.ext_getElem
  · simp
  · intro i h1 h2
    simp at h1 h2
    simp [List.getD, h1]
abbrev choD (cs : List (List (Int × Int))) : D := .lst (cs.map amts)
abbrev natsD (ks : List Nat) : D := .lst (ks.map fun k : Nat => D.int (k : Int))
theorem atI_cho {cs : List (List (Int × Int))} {k : Nat} (h : k < cs.length) : atI (cs.map amts) (k : Int) = some (.lst ((cs.getD k default).map amt)) := atI_map h
theorem atI_nats {cs : List Nat} {k : Nat} (h : k < cs.length) : atI (cs.map fun k : Nat => D.int (k : Int)) (k : Int) = some (.int (cs.getD k default : Nat)) := atI_map h
theorem bAdd_nats (xs ys : List Nat) (h : xs.length + ys.length ≤ big) : bAdd (.lst (xs.map fun k : Nat => D.int (k : Int))) (.lst (ys.map fun k : Nat => D.int (k : Int))) = some (.lst ((xs ++ ys).map fun k : Nat => D.int (k : Int))) := bAdd_map xs ys h
def SpOrdered (φ : MF) : Prop := ∀ r cs w, RuleB 2000 r → (∀ c ∈ cs, Oks 500 c ∧ c.length = r.2.length) → cs.length ≤ 1000 → φ [ruleD r, choD cs] w = .ok (natsD (ordQ (cs.map (rateQ r)))) w
theorem ordN_len {rs : List (Int × Int)} : ∀ n, (ordN rs n).length = n
  | 0 => rfl
  | n + 1 => by
    have := ordN_len (rs := rs) n
    rw [ordN, insP]
    simp only [List.length_append, List.length_take, List.length_drop, List.length_singleton]
    have h := List.length_filter_le (fun far => !ltQ (rs.getD n default) (rs.getD far default)) (ordN rs n)
    omega
theorem sp_order_of_rates (T : Tab) (i j k l : Nat) (B : TB T) (hi : SpLess (T.f i)) (hj : SpRateOf (T.f j)) (hk : SpCkAmounts (T.f k)) (hl : SpCkRule (T.f l)) : SpOrdered (mFun 8 (ess T (b_order_of_rates i j k l))) := by
  intro r cs w hr hc hn
  have h3 := hr.p.1
  refine fun_wp ?_
  rw [b_order_of_rates]
  refine Wp.stay (by simp only [mFun, startR, ess, es, ev, evs, evo, evc, evl, evi, sSeq, sNil, sRet, sExp, sAsg, sOwn, sIf, sFor, sRaise, sAug, sMut, sSet, sFrz, frzR, mVar, mCst, mBin, mUn, mAnd, mOr, mIf, mChn, mNil, mCons, mSeq, mLst, mLen, mOf, mSl, mNo, mPt, mCall, mPri, mBmt, mOix, mOcmp, mISeq, mIBi, bind_ok, bind_exc, bind_bad, toS_ok, toS_exc, toS_bad, nx_ok, ofB_bl, lift_some, lift_none, bindT_nm, bindT_tp, bindTs_nil, bindTs_cons, bop, isi_ii, isi_bi, isi_bb, isi_tt, isi_ll, List.map_cons, List.map_nil, List.length_cons, List.length_nil, List.cons_append, List.nil_append, Nat.sub_self, List.replicate_zero, List.replicate_succ, List.getElem?_cons_succ, List.getElem?_cons_zero, List.set_cons_zero, List.set_cons_succ, Option.bind_some, Option.map_some, if_true, Bool.true_and, Bool.and_true, Bool.and_self, Bool.not_true, Bool.not_false, Bool.false_eq_true, if_false, ite_true, ite_false, reduceCtorEq, n1, n2, beq_self_eq_true, dIx_l, dIx_t, bAdd_int, bSub_int, dNeg_int, dNot_bl, bLt_int, bLe_int, bGt_int, bGe_int, bIs_non, bIsn_non, bIs_bl, bIsn_bl, non_non, non_int, non_str, non_lst, non_exc, non_amt, non_rule, non_trial, items_l, items_t, dSl_l, dOf_1, zip_l, enm_l, bEq_int, bNe_int, fold_amt, fold_rule, fold_trial, ix_amt0, ix_amt1, ix_rule0, ix_rule1, ix_trial0, ix_trial1, bindT_amt, bindT_rule, bindT_trial, List.length_map, big_0, big_1, big_2, big_3, hl r w hr.a]) ?_
  refine Wp.iff0 (w' := w) (by simp only [mFun, startR, ess, es, ev, evs, evo, evc, evl, evi, sSeq, sNil, sRet, sExp, sAsg, sOwn, sIf, sFor, sRaise, sAug, sMut, sSet, sFrz, frzR, mVar, mCst, mBin, mUn, mAnd, mOr, mIf, mChn, mNil, mCons, mSeq, mLst, mLen, mOf, mSl, mNo, mPt, mCall, mPri, mBmt, mOix, mOcmp, mISeq, mIBi, bind_ok, bind_exc, bind_bad, toS_ok, toS_exc, toS_bad, nx_ok, ofB_bl, lift_some, lift_none, bindT_nm, bindT_tp, bindTs_nil, bindTs_cons, bop, isi_ii, isi_bi, isi_bb, isi_tt, isi_ll, List.map_cons, List.map_nil, List.length_cons, List.length_nil, List.cons_append, List.nil_append, Nat.sub_self, List.replicate_zero, List.replicate_succ, List.getElem?_cons_succ, List.getElem?_cons_zero, List.set_cons_zero, List.set_cons_succ, Option.bind_some, Option.map_some, if_true, Bool.true_and, Bool.and_true, Bool.and_self, Bool.not_true, Bool.not_false, Bool.false_eq_true, if_false, ite_true, ite_false, reduceCtorEq, n1, n2, beq_self_eq_true, dIx_l, dIx_t, bAdd_int, bSub_int, dNeg_int, dNot_bl, bLt_int, bLe_int, bGt_int, bGe_int, bIs_non, bIsn_non, bIs_bl, bIsn_bl, non_non, non_int, non_str, non_lst, non_exc, non_amt, non_rule, non_trial, items_l, items_t, dSl_l, dOf_1, zip_l, enm_l, bEq_int, bNe_int, fold_amt, fold_rule, fold_trial, ix_amt0, ix_amt1, ix_rule0, ix_rule1, ix_trial0, ix_trial1, bindT_amt, bindT_rule, bindT_trial, List.length_map, big_0, big_1, big_2, big_3]) ?_
  refine Wp.for' (enc := amts) (xs := cs) (w' := w) (fun xs r' w' => ∃ s, r' = [.dat (ruleD r), .dat (choD cs), s, .emp, .emp, .emp, .emp, .emp] ∧ w' = w ∧ ∀ c ∈ xs, c ∈ cs) ?_ ?_ ?_ ?_
  · simp only [mFun, startR, ess, es, ev, evs, evo, evc, evl, evi, sSeq, sNil, sRet, sExp, sAsg, sOwn, sIf, sFor, sRaise, sAug, sMut, sSet, sFrz, frzR, mVar, mCst, mBin, mUn, mAnd, mOr, mIf, mChn, mNil, mCons, mSeq, mLst, mLen, mOf, mSl, mNo, mPt, mCall, mPri, mBmt, mOix, mOcmp, mISeq, mIBi, bind_ok, bind_exc, bind_bad, toS_ok, toS_exc, toS_bad, nx_ok, ofB_bl, lift_some, lift_none, bindT_nm, bindT_tp, bindTs_nil, bindTs_cons, bop, isi_ii, isi_bi, isi_bb, isi_tt, isi_ll, List.map_cons, List.map_nil, List.length_cons, List.length_nil, List.cons_append, List.nil_append, Nat.sub_self, List.replicate_zero, List.replicate_succ, List.getElem?_cons_succ, List.getElem?_cons_zero, List.set_cons_zero, List.set_cons_succ, Option.bind_some, Option.map_some, if_true, Bool.true_and, Bool.and_true, Bool.and_self, Bool.not_true, Bool.not_false, Bool.false_eq_true, if_false, ite_true, ite_false, reduceCtorEq, n1, n2, beq_self_eq_true, dIx_l, dIx_t, bAdd_int, bSub_int, dNeg_int, dNot_bl, bLt_int, bLe_int, bGt_int, bGe_int, bIs_non, bIsn_non, bIs_bl, bIsn_bl, non_non, non_int, non_str, non_lst, non_exc, non_amt, non_rule, non_trial, items_l, items_t, dSl_l, dOf_1, zip_l, enm_l, bEq_int, bNe_int, fold_amt, fold_rule, fold_trial, ix_amt0, ix_amt1, ix_rule0, ix_rule1, ix_trial0, ix_trial1, bindT_amt, bindT_rule, bindT_trial, List.length_map, big_0, big_1, big_2, big_3]
  · exact ⟨_, rfl, rfl, fun _ h => h⟩
  · rintro c xs r' w' ⟨s, rfl, rfl, hx⟩
    have hcc := hc c (hx c List.mem_cons_self)
    have e1 := hk c (r.2.length : Int) w' hcc.1.am (by rw [hcc.2]) (by omega)
    exact ⟨_, _, w', by simp only [mFun, startR, ess, es, ev, evs, evo, evc, evl, evi, sSeq, sNil, sRet, sExp, sAsg, sOwn, sIf, sFor, sRaise, sAug, sMut, sSet, sFrz, frzR, mVar, mCst, mBin, mUn, mAnd, mOr, mIf, mChn, mNil, mCons, mSeq, mLst, mLen, mOf, mSl, mNo, mPt, mCall, mPri, mBmt, mOix, mOcmp, mISeq, mIBi, bind_ok, bind_exc, bind_bad, toS_ok, toS_exc, toS_bad, nx_ok, ofB_bl, lift_some, lift_none, bindT_nm, bindT_tp, bindTs_nil, bindTs_cons, bop, isi_ii, isi_bi, isi_bb, isi_tt, isi_ll, List.map_cons, List.map_nil, List.length_cons, List.length_nil, List.cons_append, List.nil_append, Nat.sub_self, List.replicate_zero, List.replicate_succ, List.getElem?_cons_succ, List.getElem?_cons_zero, List.set_cons_zero, List.set_cons_succ, Option.bind_some, Option.map_some, if_true, Bool.true_and, Bool.and_true, Bool.and_self, Bool.not_true, Bool.not_false, Bool.false_eq_true, if_false, ite_true, ite_false, reduceCtorEq, n1, n2, beq_self_eq_true, dIx_l, dIx_t, bAdd_int, bSub_int, dNeg_int, dNot_bl, bLt_int, bLe_int, bGt_int, bGe_int, bIs_non, bIsn_non, bIs_bl, bIsn_bl, non_non, non_int, non_str, non_lst, non_exc, non_amt, non_rule, non_trial, items_l, items_t, dSl_l, dOf_1, zip_l, enm_l, bEq_int, bNe_int, fold_amt, fold_rule, fold_trial, ix_amt0, ix_amt1, ix_rule0, ix_rule1, ix_trial0, ix_trial1, bindT_amt, bindT_rule, bindT_trial, List.length_map, big_0, big_1, big_2, big_3]; rfl, by simp only [mFun, startR, ess, es, ev, evs, evo, evc, evl, evi, sSeq, sNil, sRet, sExp, sAsg, sOwn, sIf, sFor, sRaise, sAug, sMut, sSet, sFrz, frzR, mVar, mCst, mBin, mUn, mAnd, mOr, mIf, mChn, mNil, mCons, mSeq, mLst, mLen, mOf, mSl, mNo, mPt, mCall, mPri, mBmt, mOix, mOcmp, mISeq, mIBi, bind_ok, bind_exc, bind_bad, toS_ok, toS_exc, toS_bad, nx_ok, ofB_bl, lift_some, lift_none, bindT_nm, bindT_tp, bindTs_nil, bindTs_cons, bop, isi_ii, isi_bi, isi_bb, isi_tt, isi_ll, List.map_cons, List.map_nil, List.length_cons, List.length_nil, List.cons_append, List.nil_append, Nat.sub_self, List.replicate_zero, List.replicate_succ, List.getElem?_cons_succ, List.getElem?_cons_zero, List.set_cons_zero, List.set_cons_succ, Option.bind_some, Option.map_some, if_true, Bool.true_and, Bool.and_true, Bool.and_self, Bool.not_true, Bool.not_false, Bool.false_eq_true, if_false, ite_true, ite_false, reduceCtorEq, n1, n2, beq_self_eq_true, dIx_l, dIx_t, bAdd_int, bSub_int, dNeg_int, dNot_bl, bLt_int, bLe_int, bGt_int, bGe_int, bIs_non, bIsn_non, bIs_bl, bIsn_bl, non_non, non_int, non_str, non_lst, non_exc, non_amt, non_rule, non_trial, items_l, items_t, dSl_l, dOf_1, zip_l, enm_l, bEq_int, bNe_int, fold_amt, fold_rule, fold_trial, ix_amt0, ix_amt1, ix_rule0, ix_rule1, ix_trial0, ix_trial1, bindT_amt, bindT_rule, bindT_trial, List.length_map, big_0, big_1, big_2, big_3, B.p, p0, len_lst, e1]; rfl, _, rfl, rfl, fun c' h' => hx c' (List.mem_cons_of_mem _ h')⟩
  rintro r' w' ⟨s, rfl, rfl, _⟩
  refine Wp.step (by simp only [mFun, startR, ess, es, ev, evs, evo, evc, evl, evi, sSeq, sNil, sRet, sExp, sAsg, sOwn, sIf, sFor, sRaise, sAug, sMut, sSet, sFrz, frzR, mVar, mCst, mBin, mUn, mAnd, mOr, mIf, mChn, mNil, mCons, mSeq, mLst, mLen, mOf, mSl, mNo, mPt, mCall, mPri, mBmt, mOix, mOcmp, mISeq, mIBi, bind_ok, bind_exc, bind_bad, toS_ok, toS_exc, toS_bad, nx_ok, ofB_bl, lift_some, lift_none, bindT_nm, bindT_tp, bindTs_nil, bindTs_cons, bop, isi_ii, isi_bi, isi_bb, isi_tt, isi_ll, List.map_cons, List.map_nil, List.length_cons, List.length_nil, List.cons_append, List.nil_append, Nat.sub_self, List.replicate_zero, List.replicate_succ, List.getElem?_cons_succ, List.getElem?_cons_zero, List.set_cons_zero, List.set_cons_succ, Option.bind_some, Option.map_some, if_true, Bool.true_and, Bool.and_true, Bool.and_self, Bool.not_true, Bool.not_false, Bool.false_eq_true, if_false, ite_true, ite_false, reduceCtorEq, n1, n2, beq_self_eq_true, dIx_l, dIx_t, bAdd_int, bSub_int, dNeg_int, dNot_bl, bLt_int, bLe_int, bGt_int, bGe_int, bIs_non, bIsn_non, bIs_bl, bIsn_bl, non_non, non_int, non_str, non_lst, non_exc, non_amt, non_rule, non_trial, items_l, items_t, dSl_l, dOf_1, zip_l, enm_l, bEq_int, bNe_int, fold_amt, fold_rule, fold_trial, ix_amt0, ix_amt1, ix_rule0, ix_rule1, ix_trial0, ix_trial1, bindT_amt, bindT_rule, bindT_trial, List.length_map, big_0, big_1, big_2, big_3]; rfl) ?_
  have am : Ams (cs.map (rateQ r)) := fun x m => by
    obtain ⟨c, hcm, rfl⟩ := List.mem_map.1 m
    exact rateQ_am hr.f.am (hc c hcm).1.am
  have gd : ∀ m, m < cs.length → (cs.map (rateQ r)).getD m default = rateQ r (cs.getD m default) := fun m hm => by simp [List.getD, hm]
  have rok : ∀ m, m < cs.length → T.f j [ruleD r, amts (cs.getD m default)] w' = .ok (amt (rateQ r (cs.getD m default))) w' ∧ Ok (2000 + (9 * 500 + 4)) (rateQ r (cs.getD m default)) := fun m hm => by
    have hcc := hc _ (getD_mem hm)
    exact ⟨hj r _ 500 2000 w' hr.f hr.p hcc.1 (by omega) (by omega), rateQ_ok hr.f hr.p hcc.1⟩
  refine Wp.forN (enc := fun k : Nat => D.tup [.int (0 + (k : Int)), amts (cs.getD k default)]) (n := cs.length) (w' := w') (fun m r' w'' => ∃ s2 s4 s5 s6 s7, r' = [.dat (ruleD r), .dat (choD cs), s2, .dat (natsD (ordN (cs.map (rateQ r)) m)), s4, s5, s6, s7] ∧ w'' = w') ?_ ?_ ?_ ?_
  · simp only [mFun, startR, ess, es, ev, evs, evo, evc, evl, evi, sSeq, sNil, sRet, sExp, sAsg, sOwn, sIf, sFor, sRaise, sAug, sMut, sSet, sFrz, frzR, mVar, mCst, mBin, mUn, mAnd, mOr, mIf, mChn, mNil, mCons, mSeq, mLst, mLen, mOf, mSl, mNo, mPt, mCall, mPri, mBmt, mOix, mOcmp, mISeq, mIBi, bind_ok, bind_exc, bind_bad, toS_ok, toS_exc, toS_bad, nx_ok, ofB_bl, lift_some, lift_none, bindT_nm, bindT_tp, bindTs_nil, bindTs_cons, bop, isi_ii, isi_bi, isi_bb, isi_tt, isi_ll, List.map_cons, List.map_nil, List.length_cons, List.length_nil, List.cons_append, List.nil_append, Nat.sub_self, List.replicate_zero, List.replicate_succ, List.getElem?_cons_succ, List.getElem?_cons_zero, List.set_cons_zero, List.set_cons_succ, Option.bind_some, Option.map_some, if_true, Bool.true_and, Bool.and_true, Bool.and_self, Bool.not_true, Bool.not_false, Bool.false_eq_true, if_false, ite_true, ite_false, reduceCtorEq, n1, n2, beq_self_eq_true, dIx_l, dIx_t, bAdd_int, bSub_int, dNeg_int, dNot_bl, bLt_int, bLe_int, bGt_int, bGe_int, bIs_non, bIsn_non, bIs_bl, bIsn_bl, non_non, non_int, non_str, non_lst, non_exc, non_amt, non_rule, non_trial, items_l, items_t, dSl_l, dOf_1, zip_l, enm_l, bEq_int, bNe_int, fold_amt, fold_rule, fold_trial, ix_amt0, ix_amt1, ix_rule0, ix_rule1, ix_trial0, ix_trial1, bindT_amt, bindT_rule, bindT_trial, List.length_map, big_0, big_1, big_2, big_3]
    rw [enum_range (d := default)]
  · exact ⟨_, _, _, _, _, rfl, rfl⟩
  · rintro m r' w'' hm ⟨s2, s4, s5, s6, s7, rfl, rfl⟩
    obtain ⟨e1, ok1⟩ := rok m hm
    have small : ∀ far ∈ ordN (cs.map (rateQ r)) m, far < m := fun far hf => List.mem_range.1 ((ordN_ok am m (by simp; omega)).1.mem_iff.1 hf)
    have hlen := ordN_len (rs := cs.map (rateQ r)) m
    generalize hfd : ordN (cs.map (rateQ r)) m = fd at *
    have hbig : fd.length ≤ big := by
      have : big = 100000 := rfl
      omega
    have hb : (fd.filter fun far => !ltQ ((cs.map (rateQ r)).getD m default) ((cs.map (rateQ r)).getD far default)).length ≤ fd.length := List.length_filter_le _ _
    refine ⟨_, [.dat (ruleD r), .dat (choD cs), .dat (amts (cs.getD m default)), .dat (natsD (ordN (cs.map (rateQ r)) (m + 1))), .dat (.int m), .dat (amt (rateQ r (cs.getD m default))), .dat (.int ((fd.filter fun far => !ltQ ((cs.map (rateQ r)).getD m default) ((cs.map (rateQ r)).getD far default)).length : Nat)), s7], w'', by simp only [bindT_pair, mFun, startR, ess, es, ev, evs, evo, evc, evl, evi, sSeq, sNil, sRet, sExp, sAsg, sOwn, sIf, sFor, sRaise, sAug, sMut, sSet, sFrz, frzR, mVar, mCst, mBin, mUn, mAnd, mOr, mIf, mChn, mNil, mCons, mSeq, mLst, mLen, mOf, mSl, mNo, mPt, mCall, mPri, mBmt, mOix, mOcmp, mISeq, mIBi, bind_ok, bind_exc, bind_bad, toS_ok, toS_exc, toS_bad, nx_ok, ofB_bl, lift_some, lift_none, bindT_nm, bindT_tp, bindTs_nil, bindTs_cons, bop, isi_ii, isi_bi, isi_bb, isi_tt, isi_ll, List.map_cons, List.map_nil, List.length_cons, List.length_nil, List.cons_append, List.nil_append, Nat.sub_self, List.replicate_zero, List.replicate_succ, List.getElem?_cons_succ, List.getElem?_cons_zero, List.set_cons_zero, List.set_cons_succ, Option.bind_some, Option.map_some, if_true, Bool.true_and, Bool.and_true, Bool.and_self, Bool.not_true, Bool.not_false, Bool.false_eq_true, if_false, ite_true, ite_false, reduceCtorEq, n1, n2, beq_self_eq_true, dIx_l, dIx_t, bAdd_int, bSub_int, dNeg_int, dNot_bl, bLt_int, bLe_int, bGt_int, bGe_int, bIs_non, bIsn_non, bIs_bl, bIsn_bl, non_non, non_int, non_str, non_lst, non_exc, non_amt, non_rule, non_trial, items_l, items_t, dSl_l, dOf_1, zip_l, enm_l, bEq_int, bNe_int, fold_amt, fold_rule, fold_trial, ix_amt0, ix_amt1, ix_rule0, ix_rule1, ix_trial0, ix_trial1, bindT_amt, bindT_rule, bindT_trial, List.length_map, big_0, big_1, big_2, big_3, Int.zero_add]; rfl, ?_, _, _, _, _, _, rfl, rfl⟩
    suffices hq : Wp T (.cons (.asg (.nm 5) (.call j (.cons (.var 0) (.cons (.var 2) .nil)))) (.cons (.asg (.nm 6) (.pri 0 (.cons (.lm (.comp (.var 7) (.nm 7) [7] (.seq (.var 3)) (.so (.not (.call i (.cons (.var 5) (.cons (.call j (.cons (.var 0) (.cons (.ix (.var 1) (.var 7)) .nil))) .nil))))))) .nil))) (.cons (.asg (.nm 3) (.bin .add (.bin .add (.sl (.var 3) .no (.so (.var 6))) (.lm (.disp (.cons (.var 4) .nil)))) (.sl (.var 3) (.so (.var 6)) .no))) .nil))) [.dat (ruleD r), .dat (choD cs), .dat (amts (cs.getD m default)), .dat (natsD fd), .dat (.int m), s5, s6, s7] w'' (· = .next [.dat (ruleD r), .dat (choD cs), .dat (amts (cs.getD m default)), .dat (natsD (ordN (cs.map (rateQ r)) (m + 1))), .dat (.int m), .dat (amt (rateQ r (cs.getD m default))), .dat (.int ((fd.filter fun far => !ltQ ((cs.map (rateQ r)).getD m default) ((cs.map (rateQ r)).getD far default)).length : Nat)), s7] w'') from hq
    refine Wp.step (by simp only [mFun, startR, ess, es, ev, evs, evo, evc, evl, evi, sSeq, sNil, sRet, sExp, sAsg, sOwn, sIf, sFor, sRaise, sAug, sMut, sSet, sFrz, frzR, mVar, mCst, mBin, mUn, mAnd, mOr, mIf, mChn, mNil, mCons, mSeq, mLst, mLen, mOf, mSl, mNo, mPt, mCall, mPri, mBmt, mOix, mOcmp, mISeq, mIBi, bind_ok, bind_exc, bind_bad, toS_ok, toS_exc, toS_bad, nx_ok, ofB_bl, lift_some, lift_none, bindT_nm, bindT_tp, bindTs_nil, bindTs_cons, bop, isi_ii, isi_bi, isi_bb, isi_tt, isi_ll, List.map_cons, List.map_nil, List.length_cons, List.length_nil, List.cons_append, List.nil_append, Nat.sub_self, List.replicate_zero, List.replicate_succ, List.getElem?_cons_succ, List.getElem?_cons_zero, List.set_cons_zero, List.set_cons_succ, Option.bind_some, Option.map_some, if_true, Bool.true_and, Bool.and_true, Bool.and_self, Bool.not_true, Bool.not_false, Bool.false_eq_true, if_false, ite_true, ite_false, reduceCtorEq, n1, n2, beq_self_eq_true, dIx_l, dIx_t, bAdd_int, bSub_int, dNeg_int, dNot_bl, bLt_int, bLe_int, bGt_int, bGe_int, bIs_non, bIsn_non, bIs_bl, bIsn_bl, non_non, non_int, non_str, non_lst, non_exc, non_amt, non_rule, non_trial, items_l, items_t, dSl_l, dOf_1, zip_l, enm_l, bEq_int, bNe_int, fold_amt, fold_rule, fold_trial, ix_amt0, ix_amt1, ix_rule0, ix_rule1, ix_trial0, ix_trial1, bindT_amt, bindT_rule, bindT_trial, List.length_map, big_0, big_1, big_2, big_3, e1]; rfl) ?_
    refine Wp.step (r' := [.dat (ruleD r), .dat (choD cs), .dat (amts (cs.getD m default)), .dat (natsD fd), .dat (.int m), .dat (amt (rateQ r (cs.getD m default))), .dat (.int ((fd.filter fun far => !ltQ ((cs.map (rateQ r)).getD m default) ((cs.map (rateQ r)).getD far default)).length : Nat)), s7]) (w' := w'') ?_ ?_
    · simp only [mFun, startR, ess, es, ev, evs, evo, evc, evl, evi, sSeq, sNil, sRet, sExp, sAsg, sOwn, sIf, sFor, sRaise, sAug, sMut, sSet, sFrz, frzR, mVar, mCst, mBin, mUn, mAnd, mOr, mIf, mChn, mNil, mCons, mSeq, mLst, mLen, mOf, mSl, mNo, mPt, mCall, mPri, mBmt, mOix, mOcmp, mISeq, mIBi, bind_ok, bind_exc, bind_bad, toS_ok, toS_exc, toS_bad, nx_ok, ofB_bl, lift_some, lift_none, bindT_nm, bindT_tp, bindTs_nil, bindTs_cons, bop, isi_ii, isi_bi, isi_bb, isi_tt, isi_ll, List.map_cons, List.map_nil, List.length_cons, List.length_nil, List.cons_append, List.nil_append, Nat.sub_self, List.replicate_zero, List.replicate_succ, List.getElem?_cons_succ, List.getElem?_cons_zero, List.set_cons_zero, List.set_cons_succ, Option.bind_some, Option.map_some, if_true, Bool.true_and, Bool.and_true, Bool.and_self, Bool.not_true, Bool.not_false, Bool.false_eq_true, if_false, ite_true, ite_false, reduceCtorEq, n1, n2, beq_self_eq_true, dIx_l, dIx_t, bAdd_int, bSub_int, dNeg_int, dNot_bl, bLt_int, bLe_int, bGt_int, bGe_int, bIs_non, bIsn_non, bIs_bl, bIsn_bl, non_non, non_int, non_str, non_lst, non_exc, non_amt, non_rule, non_trial, items_l, items_t, dSl_l, dOf_1, zip_l, enm_l, bEq_int, bNe_int, fold_amt, fold_rule, fold_trial, ix_amt0, ix_amt1, ix_rule0, ix_rule1, ix_trial0, ix_trial1, bindT_amt, bindT_rule, bindT_trial, List.length_map, big_0, big_1, big_2, big_3, mComp, wipeR, hbig]
      rw [comp_filter (p := fun far => !ltQ ((cs.map (rateQ r)).getD m default) ((cs.map (rateQ r)).getD far default)) (g := fun k : Nat => D.int (k : Int))]
      · simp only [mFun, startR, ess, es, ev, evs, evo, evc, evl, evi, sSeq, sNil, sRet, sExp, sAsg, sOwn, sIf, sFor, sRaise, sAug, sMut, sSet, sFrz, frzR, mVar, mCst, mBin, mUn, mAnd, mOr, mIf, mChn, mNil, mCons, mSeq, mLst, mLen, mOf, mSl, mNo, mPt, mCall, mPri, mBmt, mOix, mOcmp, mISeq, mIBi, bind_ok, bind_exc, bind_bad, toS_ok, toS_exc, toS_bad, nx_ok, ofB_bl, lift_some, lift_none, bindT_nm, bindT_tp, bindTs_nil, bindTs_cons, bop, isi_ii, isi_bi, isi_bb, isi_tt, isi_ll, List.map_cons, List.map_nil, List.length_cons, List.length_nil, List.cons_append, List.nil_append, Nat.sub_self, List.replicate_zero, List.replicate_succ, List.getElem?_cons_succ, List.getElem?_cons_zero, List.set_cons_zero, List.set_cons_succ, Option.bind_some, Option.map_some, if_true, Bool.true_and, Bool.and_true, Bool.and_self, Bool.not_true, Bool.not_false, Bool.false_eq_true, if_false, ite_true, ite_false, reduceCtorEq, n1, n2, beq_self_eq_true, dIx_l, dIx_t, bAdd_int, bSub_int, dNeg_int, dNot_bl, bLt_int, bLe_int, bGt_int, bGe_int, bIs_non, bIsn_non, bIs_bl, bIsn_bl, non_non, non_int, non_str, non_lst, non_exc, non_amt, non_rule, non_trial, items_l, items_t, dSl_l, dOf_1, zip_l, enm_l, bEq_int, bNe_int, fold_amt, fold_rule, fold_trial, ix_amt0, ix_amt1, ix_rule0, ix_rule1, ix_trial0, ix_trial1, bindT_amt, bindT_rule, bindT_trial, List.length_map, big_0, big_1, big_2, big_3, B.p, p0, len_lst]
      · intro far hfar
        have hf := small far hfar
        obtain ⟨e2, ok2⟩ := rok far (by omega)
        have e3 := hi _ _ _ _ w'' ok1 ok2 (by omega) (by omega)
        simp only [compF, mFun, startR, ess, es, ev, evs, evo, evc, evl, evi, sSeq, sNil, sRet, sExp, sAsg, sOwn, sIf, sFor, sRaise, sAug, sMut, sSet, sFrz, frzR, mVar, mCst, mBin, mUn, mAnd, mOr, mIf, mChn, mNil, mCons, mSeq, mLst, mLen, mOf, mSl, mNo, mPt, mCall, mPri, mBmt, mOix, mOcmp, mISeq, mIBi, bind_ok, bind_exc, bind_bad, toS_ok, toS_exc, toS_bad, nx_ok, ofB_bl, lift_some, lift_none, bindT_nm, bindT_tp, bindTs_nil, bindTs_cons, bop, isi_ii, isi_bi, isi_bb, isi_tt, isi_ll, List.map_cons, List.map_nil, List.length_cons, List.length_nil, List.cons_append, List.nil_append, Nat.sub_self, List.replicate_zero, List.replicate_succ, List.getElem?_cons_succ, List.getElem?_cons_zero, List.set_cons_zero, List.set_cons_succ, Option.bind_some, Option.map_some, if_true, Bool.true_and, Bool.and_true, Bool.and_self, Bool.not_true, Bool.not_false, Bool.false_eq_true, if_false, ite_true, ite_false, reduceCtorEq, n1, n2, beq_self_eq_true, dIx_l, dIx_t, bAdd_int, bSub_int, dNeg_int, dNot_bl, bLt_int, bLe_int, bGt_int, bGe_int, bIs_non, bIsn_non, bIs_bl, bIsn_bl, non_non, non_int, non_str, non_lst, non_exc, non_amt, non_rule, non_trial, items_l, items_t, dSl_l, dOf_1, zip_l, enm_l, bEq_int, bNe_int, fold_amt, fold_rule, fold_trial, ix_amt0, ix_amt1, ix_rule0, ix_rule1, ix_trial0, ix_trial1, bindT_amt, bindT_rule, bindT_trial, List.length_map, big_0, big_1, big_2, big_3, atI_cho (show far < cs.length by omega), e2, e3, gd m hm, gd far (by omega)]
        cases ltQ (rateQ r (cs.getD m default)) (rateQ r (cs.getD far default)) <;> simp only [mFun, startR, ess, es, ev, evs, evo, evc, evl, evi, sSeq, sNil, sRet, sExp, sAsg, sOwn, sIf, sFor, sRaise, sAug, sMut, sSet, sFrz, frzR, mVar, mCst, mBin, mUn, mAnd, mOr, mIf, mChn, mNil, mCons, mSeq, mLst, mLen, mOf, mSl, mNo, mPt, mCall, mPri, mBmt, mOix, mOcmp, mISeq, mIBi, bind_ok, bind_exc, bind_bad, toS_ok, toS_exc, toS_bad, nx_ok, ofB_bl, lift_some, lift_none, bindT_nm, bindT_tp, bindTs_nil, bindTs_cons, bop, isi_ii, isi_bi, isi_bb, isi_tt, isi_ll, List.map_cons, List.map_nil, List.length_cons, List.length_nil, List.cons_append, List.nil_append, Nat.sub_self, List.replicate_zero, List.replicate_succ, List.getElem?_cons_succ, List.getElem?_cons_zero, List.set_cons_zero, List.set_cons_succ, Option.bind_some, Option.map_some, if_true, Bool.true_and, Bool.and_true, Bool.and_self, Bool.not_true, Bool.not_false, Bool.false_eq_true, if_false, ite_true, ite_false, reduceCtorEq, n1, n2, beq_self_eq_true, dIx_l, dIx_t, bAdd_int, bSub_int, dNeg_int, dNot_bl, bLt_int, bLe_int, bGt_int, bGe_int, bIs_non, bIsn_non, bIs_bl, bIsn_bl, non_non, non_int, non_str, non_lst, non_exc, non_amt, non_rule, non_trial, items_l, items_t, dSl_l, dOf_1, zip_l, enm_l, bEq_int, bNe_int, fold_amt, fold_rule, fold_trial, ix_amt0, ix_amt1, ix_rule0, ix_rule1, ix_trial0, ix_trial1, bindT_amt, bindT_rule, bindT_trial, List.length_map, big_0, big_1, big_2, big_3]
    · have ho : ordN (cs.map (rateQ r)) (m + 1) = fd.take (fd.filter fun far => !ltQ ((cs.map (rateQ r)).getD m default) ((cs.map (rateQ r)).getD far default)).length ++ [m] ++ fd.drop (fd.filter fun far => !ltQ ((cs.map (rateQ r)).getD m default) ((cs.map (rateQ r)).getD far default)).length := by rw [ordN, insP, hfd]
      rw [ho]
      generalize (fd.filter fun far => !ltQ ((cs.map (rateQ r)).getD m default) ((cs.map (rateQ r)).getD far default)).length = b at *
      have a1 : bAdd (.lst ((fd.take b).map fun k : Nat => D.int (k : Int))) (.lst [.int (m : Int)]) = some (.lst ((fd.take b ++ [m]).map fun k : Nat => D.int (k : Int))) := bAdd_nats _ [m] (len_add (n := 1000) (m := 1) (by rw [List.length_take]; omega) (by simp) (by omega))
      have a2 := bAdd_nats (fd.take b ++ [m]) (fd.drop b) (len_add (n := 1001) (m := 1000) (by rw [List.length_append, List.length_take]; simp; omega) (by rw [List.length_drop]; omega) (by omega))
      refine Wp.step ?_ (Wp.nil rfl)
      simp only [mFun, startR, ess, es, ev, evs, evo, evc, evl, evi, sSeq, sNil, sRet, sExp, sAsg, sOwn, sIf, sFor, sRaise, sAug, sMut, sSet, sFrz, frzR, mVar, mCst, mBin, mUn, mAnd, mOr, mIf, mChn, mNil, mCons, mSeq, mLst, mLen, mOf, mSl, mNo, mPt, mCall, mPri, mBmt, mOix, mOcmp, mISeq, mIBi, bind_ok, bind_exc, bind_bad, toS_ok, toS_exc, toS_bad, nx_ok, ofB_bl, lift_some, lift_none, bindT_nm, bindT_tp, bindTs_nil, bindTs_cons, bop, isi_ii, isi_bi, isi_bb, isi_tt, isi_ll, List.map_cons, List.map_nil, List.length_cons, List.length_nil, List.cons_append, List.nil_append, Nat.sub_self, List.replicate_zero, List.replicate_succ, List.getElem?_cons_succ, List.getElem?_cons_zero, List.set_cons_zero, List.set_cons_succ, Option.bind_some, Option.map_some, if_true, Bool.true_and, Bool.and_true, Bool.and_self, Bool.not_true, Bool.not_false, Bool.false_eq_true, if_false, ite_true, ite_false, reduceCtorEq, n1, n2, beq_self_eq_true, dIx_l, dIx_t, bAdd_int, bSub_int, dNeg_int, dNot_bl, bLt_int, bLe_int, bGt_int, bGe_int, bIs_non, bIsn_non, bIs_bl, bIsn_bl, non_non, non_int, non_str, non_lst, non_exc, non_amt, non_rule, non_trial, items_l, items_t, dSl_l, dOf_1, zip_l, enm_l, bEq_int, bNe_int, fold_amt, fold_rule, fold_trial, ix_amt0, ix_amt1, ix_rule0, ix_rule1, ix_trial0, ix_trial1, bindT_amt, bindT_rule, bindT_trial, List.length_map, big_0, big_1, big_2, big_3, cut_take _ hb, cut_drop _ hb, a1, a2]
  · rintro r' w'' ⟨s2, s4, s5, s6, s7, rfl, rfl⟩
    refine Wp.ret ?_ rfl
    simp only [mFun, startR, ess, es, ev, evs, evo, evc, evl, evi, sSeq, sNil, sRet, sExp, sAsg, sOwn, sIf, sFor, sRaise, sAug, sMut, sSet, sFrz, frzR, mVar, mCst, mBin, mUn, mAnd, mOr, mIf, mChn, mNil, mCons, mSeq, mLst, mLen, mOf, mSl, mNo, mPt, mCall, mPri, mBmt, mOix, mOcmp, mISeq, mIBi, bind_ok, bind_exc, bind_bad, toS_ok, toS_exc, toS_bad, nx_ok, ofB_bl, lift_some, lift_none, bindT_nm, bindT_tp, bindTs_nil, bindTs_cons, bop, isi_ii, isi_bi, isi_bb, isi_tt, isi_ll, List.map_cons, List.map_nil, List.length_cons, List.length_nil, List.cons_append, List.nil_append, Nat.sub_self, List.replicate_zero, List.replicate_succ, List.getElem?_cons_succ, List.getElem?_cons_zero, List.set_cons_zero, List.set_cons_succ, Option.bind_some, Option.map_some, if_true, Bool.true_and, Bool.and_true, Bool.and_self, Bool.not_true, Bool.not_false, Bool.false_eq_true, if_false, ite_true, ite_false, reduceCtorEq, n1, n2, beq_self_eq_true, dIx_l, dIx_t, bAdd_int, bSub_int, dNeg_int, dNot_bl, bLt_int, bLe_int, bGt_int, bGe_int, bIs_non, bIsn_non, bIs_bl, bIsn_bl, non_non, non_int, non_str, non_lst, non_exc, non_amt, non_rule, non_trial, items_l, items_t, dSl_l, dOf_1, zip_l, enm_l, bEq_int, bNe_int, fold_amt, fold_rule, fold_trial, ix_amt0, ix_amt1, ix_rule0, ix_rule1, ix_trial0, ix_trial1, bindT_amt, bindT_rule, bindT_trial, List.length_map, big_0, big_1, big_2, big_3]
    rw [ordQ, List.length_map]
def sameP (r s : Rule) (ts : List Trial) : List Nat := (List.range ts.length).filter fun i => decide (rateQ r (ts.getD i default).1 = rateQ s (ts.getD i default).1)
def SpSameRates (φ : MF) : Prop := ∀ r s k ts w, RuleB 2000 r → RuleB 2000 s → TrialsB k 500 ts → r.2.length = k → s.2.length = k → φ [ruleD r, ruleD s, trialsD ts] w = .ok (natsD (sameP r s ts)) w
theorem sp_same_rates (T : Tab) (i j l : Nat) (B : TB T) (hi : SpRateOf (T.f i)) (hj : SpCkTrials (T.f j)) (hl : SpCkRule (T.f l)) : SpSameRates (mFun 7 (ess T (b_same_rates i j l))) := by
  intro r s k ts w hr hs ht hkr hks
  have h0 : 0 < ts.length := ht.a.l1
  have hk0 : (ts.getD 0 default).1.length = k := ht.a.len _ (getD_mem h0)
  have e0 : atI (ts.map trialD) 0 = some (trialD (ts.getD 0 default)) := atI_trials h0
  refine fun_wp ?_
  rw [b_same_rates]
  refine Wp.stay (by simp only [mFun, startR, ess, es, ev, evs, evo, evc, evl, evi, sSeq, sNil, sRet, sExp, sAsg, sOwn, sIf, sFor, sRaise, sAug, sMut, sSet, sFrz, frzR, mVar, mCst, mBin, mUn, mAnd, mOr, mIf, mChn, mNil, mCons, mSeq, mLst, mLen, mOf, mSl, mNo, mPt, mCall, mPri, mBmt, mOix, mOcmp, mISeq, mIBi, bind_ok, bind_exc, bind_bad, toS_ok, toS_exc, toS_bad, nx_ok, ofB_bl, lift_some, lift_none, bindT_nm, bindT_tp, bindTs_nil, bindTs_cons, bop, isi_ii, isi_bi, isi_bb, isi_tt, isi_ll, List.map_cons, List.map_nil, List.length_cons, List.length_nil, List.cons_append, List.nil_append, Nat.sub_self, List.replicate_zero, List.replicate_succ, List.getElem?_cons_succ, List.getElem?_cons_zero, List.set_cons_zero, List.set_cons_succ, Option.bind_some, Option.map_some, if_true, Bool.true_and, Bool.and_true, Bool.and_self, Bool.not_true, Bool.not_false, Bool.false_eq_true, if_false, ite_true, ite_false, reduceCtorEq, n1, n2, beq_self_eq_true, dIx_l, dIx_t, bAdd_int, bSub_int, dNeg_int, dNot_bl, bLt_int, bLe_int, bGt_int, bGe_int, bIs_non, bIsn_non, bIs_bl, bIsn_bl, non_non, non_int, non_str, non_lst, non_exc, non_amt, non_rule, non_trial, items_l, items_t, dSl_l, dOf_1, zip_l, enm_l, bEq_int, bNe_int, fold_amt, fold_rule, fold_trial, ix_amt0, ix_amt1, ix_rule0, ix_rule1, ix_trial0, ix_trial1, bindT_amt, bindT_rule, bindT_trial, List.length_map, big_0, big_1, big_2, big_3, hl r w hr.a]) ?_
  refine Wp.stay (by simp only [mFun, startR, ess, es, ev, evs, evo, evc, evl, evi, sSeq, sNil, sRet, sExp, sAsg, sOwn, sIf, sFor, sRaise, sAug, sMut, sSet, sFrz, frzR, mVar, mCst, mBin, mUn, mAnd, mOr, mIf, mChn, mNil, mCons, mSeq, mLst, mLen, mOf, mSl, mNo, mPt, mCall, mPri, mBmt, mOix, mOcmp, mISeq, mIBi, bind_ok, bind_exc, bind_bad, toS_ok, toS_exc, toS_bad, nx_ok, ofB_bl, lift_some, lift_none, bindT_nm, bindT_tp, bindTs_nil, bindTs_cons, bop, isi_ii, isi_bi, isi_bb, isi_tt, isi_ll, List.map_cons, List.map_nil, List.length_cons, List.length_nil, List.cons_append, List.nil_append, Nat.sub_self, List.replicate_zero, List.replicate_succ, List.getElem?_cons_succ, List.getElem?_cons_zero, List.set_cons_zero, List.set_cons_succ, Option.bind_some, Option.map_some, if_true, Bool.true_and, Bool.and_true, Bool.and_self, Bool.not_true, Bool.not_false, Bool.false_eq_true, if_false, ite_true, ite_false, reduceCtorEq, n1, n2, beq_self_eq_true, dIx_l, dIx_t, bAdd_int, bSub_int, dNeg_int, dNot_bl, bLt_int, bLe_int, bGt_int, bGe_int, bIs_non, bIsn_non, bIs_bl, bIsn_bl, non_non, non_int, non_str, non_lst, non_exc, non_amt, non_rule, non_trial, items_l, items_t, dSl_l, dOf_1, zip_l, enm_l, bEq_int, bNe_int, fold_amt, fold_rule, fold_trial, ix_amt0, ix_amt1, ix_rule0, ix_rule1, ix_trial0, ix_trial1, bindT_amt, bindT_rule, bindT_trial, List.length_map, big_0, big_1, big_2, big_3, hl s w hs.a]) ?_
  refine Wp.stay (by simp only [mFun, startR, ess, es, ev, evs, evo, evc, evl, evi, sSeq, sNil, sRet, sExp, sAsg, sOwn, sIf, sFor, sRaise, sAug, sMut, sSet, sFrz, frzR, mVar, mCst, mBin, mUn, mAnd, mOr, mIf, mChn, mNil, mCons, mSeq, mLst, mLen, mOf, mSl, mNo, mPt, mCall, mPri, mBmt, mOix, mOcmp, mISeq, mIBi, bind_ok, bind_exc, bind_bad, toS_ok, toS_exc, toS_bad, nx_ok, ofB_bl, lift_some, lift_none, bindT_nm, bindT_tp, bindTs_nil, bindTs_cons, bop, isi_ii, isi_bi, isi_bb, isi_tt, isi_ll, List.map_cons, List.map_nil, List.length_cons, List.length_nil, List.cons_append, List.nil_append, Nat.sub_self, List.replicate_zero, List.replicate_succ, List.getElem?_cons_succ, List.getElem?_cons_zero, List.set_cons_zero, List.set_cons_succ, Option.bind_some, Option.map_some, if_true, Bool.true_and, Bool.and_true, Bool.and_self, Bool.not_true, Bool.not_false, Bool.false_eq_true, if_false, ite_true, ite_false, reduceCtorEq, n1, n2, beq_self_eq_true, dIx_l, dIx_t, bAdd_int, bSub_int, dNeg_int, dNot_bl, bLt_int, bLe_int, bGt_int, bGe_int, bIs_non, bIsn_non, bIs_bl, bIsn_bl, non_non, non_int, non_str, non_lst, non_exc, non_amt, non_rule, non_trial, items_l, items_t, dSl_l, dOf_1, zip_l, enm_l, bEq_int, bNe_int, fold_amt, fold_rule, fold_trial, ix_amt0, ix_amt1, ix_rule0, ix_rule1, ix_trial0, ix_trial1, bindT_amt, bindT_rule, bindT_trial, List.length_map, big_0, big_1, big_2, big_3, hj k ts w ht.a]) ?_
  refine Wp.step (by simp only [mFun, startR, ess, es, ev, evs, evo, evc, evl, evi, sSeq, sNil, sRet, sExp, sAsg, sOwn, sIf, sFor, sRaise, sAug, sMut, sSet, sFrz, frzR, mVar, mCst, mBin, mUn, mAnd, mOr, mIf, mChn, mNil, mCons, mSeq, mLst, mLen, mOf, mSl, mNo, mPt, mCall, mPri, mBmt, mOix, mOcmp, mISeq, mIBi, bind_ok, bind_exc, bind_bad, toS_ok, toS_exc, toS_bad, nx_ok, ofB_bl, lift_some, lift_none, bindT_nm, bindT_tp, bindTs_nil, bindTs_cons, bop, isi_ii, isi_bi, isi_bb, isi_tt, isi_ll, List.map_cons, List.map_nil, List.length_cons, List.length_nil, List.cons_append, List.nil_append, Nat.sub_self, List.replicate_zero, List.replicate_succ, List.getElem?_cons_succ, List.getElem?_cons_zero, List.set_cons_zero, List.set_cons_succ, Option.bind_some, Option.map_some, if_true, Bool.true_and, Bool.and_true, Bool.and_self, Bool.not_true, Bool.not_false, Bool.false_eq_true, if_false, ite_true, ite_false, reduceCtorEq, n1, n2, beq_self_eq_true, dIx_l, dIx_t, bAdd_int, bSub_int, dNeg_int, dNot_bl, bLt_int, bLe_int, bGt_int, bGe_int, bIs_non, bIsn_non, bIs_bl, bIsn_bl, non_non, non_int, non_str, non_lst, non_exc, non_amt, non_rule, non_trial, items_l, items_t, dSl_l, dOf_1, zip_l, enm_l, bEq_int, bNe_int, fold_amt, fold_rule, fold_trial, ix_amt0, ix_amt1, ix_rule0, ix_rule1, ix_trial0, ix_trial1, bindT_amt, bindT_rule, bindT_trial, List.length_map, big_0, big_1, big_2, big_3, e0, B.p, p0, len_lst, hk0]; rfl) ?_
  refine Wp.iff0 (w' := w) ?_ ?_
  · have q : ((k : Int) == (k : Int)) = true := by simp
    simp only [mFun, startR, ess, es, ev, evs, evo, evc, evl, evi, sSeq, sNil, sRet, sExp, sAsg, sOwn, sIf, sFor, sRaise, sAug, sMut, sSet, sFrz, frzR, mVar, mCst, mBin, mUn, mAnd, mOr, mIf, mChn, mNil, mCons, mSeq, mLst, mLen, mOf, mSl, mNo, mPt, mCall, mPri, mBmt, mOix, mOcmp, mISeq, mIBi, bind_ok, bind_exc, bind_bad, toS_ok, toS_exc, toS_bad, nx_ok, ofB_bl, lift_some, lift_none, bindT_nm, bindT_tp, bindTs_nil, bindTs_cons, bop, isi_ii, isi_bi, isi_bb, isi_tt, isi_ll, List.map_cons, List.map_nil, List.length_cons, List.length_nil, List.cons_append, List.nil_append, Nat.sub_self, List.replicate_zero, List.replicate_succ, List.getElem?_cons_succ, List.getElem?_cons_zero, List.set_cons_zero, List.set_cons_succ, Option.bind_some, Option.map_some, if_true, Bool.true_and, Bool.and_true, Bool.and_self, Bool.not_true, Bool.not_false, Bool.false_eq_true, if_false, ite_true, ite_false, reduceCtorEq, n1, n2, beq_self_eq_true, dIx_l, dIx_t, bAdd_int, bSub_int, dNeg_int, dNot_bl, bLt_int, bLe_int, bGt_int, bGe_int, bIs_non, bIsn_non, bIs_bl, bIsn_bl, non_non, non_int, non_str, non_lst, non_exc, non_amt, non_rule, non_trial, items_l, items_t, dSl_l, dOf_1, zip_l, enm_l, bEq_int, bNe_int, fold_amt, fold_rule, fold_trial, ix_amt0, ix_amt1, ix_rule0, ix_rule1, ix_trial0, ix_trial1, bindT_amt, bindT_rule, bindT_trial, List.length_map, big_0, big_1, big_2, big_3, B.p, p0, len_lst, hkr, hks, q]
  refine Wp.ret (d := natsD (sameP r s ts)) (w' := w) ?_ rfl
  have hbig : (enumD 0 (ts.map trialD)).length ≤ big := by
    rw [enumD_length, List.length_map]
    exact ht.big
  simp only [mFun, startR, ess, es, ev, evs, evo, evc, evl, evi, sSeq, sNil, sRet, sExp, sAsg, sOwn, sIf, sFor, sRaise, sAug, sMut, sSet, sFrz, frzR, mVar, mCst, mBin, mUn, mAnd, mOr, mIf, mChn, mNil, mCons, mSeq, mLst, mLen, mOf, mSl, mNo, mPt, mCall, mPri, mBmt, mOix, mOcmp, mISeq, mIBi, bind_ok, bind_exc, bind_bad, toS_ok, toS_exc, toS_bad, nx_ok, ofB_bl, lift_some, lift_none, bindT_nm, bindT_tp, bindTs_nil, bindTs_cons, bop, isi_ii, isi_bi, isi_bb, isi_tt, isi_ll, List.map_cons, List.map_nil, List.length_cons, List.length_nil, List.cons_append, List.nil_append, Nat.sub_self, List.replicate_zero, List.replicate_succ, List.getElem?_cons_succ, List.getElem?_cons_zero, List.set_cons_zero, List.set_cons_succ, Option.bind_some, Option.map_some, if_true, Bool.true_and, Bool.and_true, Bool.and_self, Bool.not_true, Bool.not_false, Bool.false_eq_true, if_false, ite_true, ite_false, reduceCtorEq, n1, n2, beq_self_eq_true, dIx_l, dIx_t, bAdd_int, bSub_int, dNeg_int, dNot_bl, bLt_int, bLe_int, bGt_int, bGe_int, bIs_non, bIsn_non, bIs_bl, bIsn_bl, non_non, non_int, non_str, non_lst, non_exc, non_amt, non_rule, non_trial, items_l, items_t, dSl_l, dOf_1, zip_l, enm_l, bEq_int, bNe_int, fold_amt, fold_rule, fold_trial, ix_amt0, ix_amt1, ix_rule0, ix_rule1, ix_trial0, ix_trial1, bindT_amt, bindT_rule, bindT_trial, List.length_map, big_0, big_1, big_2, big_3, mComp, wipeR, hbig]
  rw [enum_range (d := default), comp_filter (p := fun i => decide (rateQ r (ts.getD i default).1 = rateQ s (ts.getD i default).1)) (g := fun k : Nat => D.int (k : Int))]
  · simp only [mFun, startR, ess, es, ev, evs, evo, evc, evl, evi, sSeq, sNil, sRet, sExp, sAsg, sOwn, sIf, sFor, sRaise, sAug, sMut, sSet, sFrz, frzR, mVar, mCst, mBin, mUn, mAnd, mOr, mIf, mChn, mNil, mCons, mSeq, mLst, mLen, mOf, mSl, mNo, mPt, mCall, mPri, mBmt, mOix, mOcmp, mISeq, mIBi, bind_ok, bind_exc, bind_bad, toS_ok, toS_exc, toS_bad, nx_ok, ofB_bl, lift_some, lift_none, bindT_nm, bindT_tp, bindTs_nil, bindTs_cons, bop, isi_ii, isi_bi, isi_bb, isi_tt, isi_ll, List.map_cons, List.map_nil, List.length_cons, List.length_nil, List.cons_append, List.nil_append, Nat.sub_self, List.replicate_zero, List.replicate_succ, List.getElem?_cons_succ, List.getElem?_cons_zero, List.set_cons_zero, List.set_cons_succ, Option.bind_some, Option.map_some, if_true, Bool.true_and, Bool.and_true, Bool.and_self, Bool.not_true, Bool.not_false, Bool.false_eq_true, if_false, ite_true, ite_false, reduceCtorEq, n1, n2, beq_self_eq_true, dIx_l, dIx_t, bAdd_int, bSub_int, dNeg_int, dNot_bl, bLt_int, bLe_int, bGt_int, bGe_int, bIs_non, bIsn_non, bIs_bl, bIsn_bl, non_non, non_int, non_str, non_lst, non_exc, non_amt, non_rule, non_trial, items_l, items_t, dSl_l, dOf_1, zip_l, enm_l, bEq_int, bNe_int, fold_amt, fold_rule, fold_trial, ix_amt0, ix_amt1, ix_rule0, ix_rule1, ix_trial0, ix_trial1, bindT_amt, bindT_rule, bindT_trial, List.length_map, big_0, big_1, big_2, big_3]
    rfl
  · intro m hm
    have hm := List.mem_range.1 hm
    have hb := (ht.b _ (getD_mem hm)).1
    have e1 := hi r (ts.getD m default).1 500 2000 w hr.f hr.p hb (by omega) (by omega)
    have e2 := hi s (ts.getD m default).1 500 2000 w hs.f hs.p hb (by omega) (by omega)
    simp only [compF, bindT_pair, mFun, startR, ess, es, ev, evs, evo, evc, evl, evi, sSeq, sNil, sRet, sExp, sAsg, sOwn, sIf, sFor, sRaise, sAug, sMut, sSet, sFrz, frzR, mVar, mCst, mBin, mUn, mAnd, mOr, mIf, mChn, mNil, mCons, mSeq, mLst, mLen, mOf, mSl, mNo, mPt, mCall, mPri, mBmt, mOix, mOcmp, mISeq, mIBi, bind_ok, bind_exc, bind_bad, toS_ok, toS_exc, toS_bad, nx_ok, ofB_bl, lift_some, lift_none, bindT_nm, bindT_tp, bindTs_nil, bindTs_cons, bop, isi_ii, isi_bi, isi_bb, isi_tt, isi_ll, List.map_cons, List.map_nil, List.length_cons, List.length_nil, List.cons_append, List.nil_append, Nat.sub_self, List.replicate_zero, List.replicate_succ, List.getElem?_cons_succ, List.getElem?_cons_zero, List.set_cons_zero, List.set_cons_succ, Option.bind_some, Option.map_some, if_true, Bool.true_and, Bool.and_true, Bool.and_self, Bool.not_true, Bool.not_false, Bool.false_eq_true, if_false, ite_true, ite_false, reduceCtorEq, n1, n2, beq_self_eq_true, dIx_l, dIx_t, bAdd_int, bSub_int, dNeg_int, dNot_bl, bLt_int, bLe_int, bGt_int, bGe_int, bIs_non, bIsn_non, bIs_bl, bIsn_bl, non_non, non_int, non_str, non_lst, non_exc, non_amt, non_rule, non_trial, items_l, items_t, dSl_l, dOf_1, zip_l, enm_l, bEq_int, bNe_int, fold_amt, fold_rule, fold_trial, ix_amt0, ix_amt1, ix_rule0, ix_rule1, ix_trial0, ix_trial1, bindT_amt, bindT_rule, bindT_trial, List.length_map, big_0, big_1, big_2, big_3, Int.zero_add, e1, e2, bEq_amt]
    cases decide (rateQ r (ts.getD m default).1 = rateQ s (ts.getD m default).1) <;> simp only [mFun, startR, ess, es, ev, evs, evo, evc, evl, evi, sSeq, sNil, sRet, sExp, sAsg, sOwn, sIf, sFor, sRaise, sAug, sMut, sSet, sFrz, frzR, mVar, mCst, mBin, mUn, mAnd, mOr, mIf, mChn, mNil, mCons, mSeq, mLst, mLen, mOf, mSl, mNo, mPt, mCall, mPri, mBmt, mOix, mOcmp, mISeq, mIBi, bind_ok, bind_exc, bind_bad, toS_ok, toS_exc, toS_bad, nx_ok, ofB_bl, lift_some, lift_none, bindT_nm, bindT_tp, bindTs_nil, bindTs_cons, bop, isi_ii, isi_bi, isi_bb, isi_tt, isi_ll, List.map_cons, List.map_nil, List.length_cons, List.length_nil, List.cons_append, List.nil_append, Nat.sub_self, List.replicate_zero, List.replicate_succ, List.getElem?_cons_succ, List.getElem?_cons_zero, List.set_cons_zero, List.set_cons_succ, Option.bind_some, Option.map_some, if_true, Bool.true_and, Bool.and_true, Bool.and_self, Bool.not_true, Bool.not_false, Bool.false_eq_true, if_false, ite_true, ite_false, reduceCtorEq, n1, n2, beq_self_eq_true, dIx_l, dIx_t, bAdd_int, bSub_int, dNeg_int, dNot_bl, bLt_int, bLe_int, bGt_int, bGe_int, bIs_non, bIsn_non, bIs_bl, bIsn_bl, non_non, non_int, non_str, non_lst, non_exc, non_amt, non_rule, non_trial, items_l, items_t, dSl_l, dOf_1, zip_l, enm_l, bEq_int, bNe_int, fold_amt, fold_rule, fold_trial, ix_amt0, ix_amt1, ix_rule0, ix_rule1, ix_trial0, ix_trial1, bindT_amt, bindT_rule, bindT_trial, List.length_map, big_0, big_1, big_2, big_3]
end RL

namespace RL
open PySem L2
/-! ### a call whose exception is named -/
def tryB (n err : Nat) (call : E) : Ss := (.cons (.asg (.nm n) (.cst .non)) (.cons (.asg (.nm (n + 1)) (.cst .non)) (.cons (.tryK (.cons (.asg (.nm n) call) .nil) (n + 2) (n + 1) 0) (.cons (.ret (.ite (.bin .is (.var (n + 1)) (.cst .non)) (.var n) (.call err (.cons (.var (n + 1)) .nil)))) .nil))))
theorem set_end {L : Rho} {n j : Nat} (hL : L.length = n) (R : Rho) (x : Sl) : (L ++ R).set (n + j) x = L ++ R.set j x := by
  subst hL
  rw [List.set_append_right _ _ (by omega), Nat.add_sub_cancel_left]
theorem get_end {L : Rho} {n j : Nat} (hL : L.length = n) (R : Rho) : (L ++ R)[n + j]? = R[j]? := by
  subst hL
  rw [List.getElem?_append_right (by omega), Nat.add_sub_cancel_left]
section
variable {T : Tab} {n err : Nat} {call : E} {ds : List D} {w w' : Wd}
theorem start_end (hn : ds.length = n) : startR (n + 3) ds = ds.map .dat ++ [.emp, .emp, .emp] := by
  unfold startR
  subst hn
  rw [Nat.add_sub_cancel_left]
  rfl
theorem caught_ok {d : D} (hn : ds.length = n) (h : ev T call (ds.map .dat ++ [.dat .non, .dat .non, .emp]) w = .ok d w') : mFun (n + 3) (ess T (tryB n err call)) ds w = .ok d w' := by
  have hL : (ds.map Sl.dat).length = n := by simpa using hn
  refine fun_wp ?_
  rw [start_end hn, tryB]
  refine Wp.step (r' := ds.map .dat ++ [.dat .non, .emp, .emp]) (w' := w) ?_ ?_
  · have := set_end hL [.emp, .emp, .emp] (.dat .non) (j := 0)
    simp only [Nat.add_zero] at this
    simp only [es, sAsg, ev, mCst, toS_ok, bindT_nm, this]
    rfl
  refine Wp.step (r' := ds.map .dat ++ [.dat .non, .dat .non, .emp]) (w' := w) ?_ ?_
  · have := set_end hL [.dat .non, .emp, .emp] (.dat .non) (j := 1)
    simp only [es, sAsg, ev, mCst, toS_ok, bindT_nm, this]
    rfl
  refine Wp.step (r' := ds.map .dat ++ [.dat d, .dat .non, .emp]) (w' := w') (try_next ?_) ?_
  · have := set_end hL [.dat .non, .dat .non, .emp] (.dat d) (j := 0)
    simp only [Nat.add_zero] at this
    simp only [ess, sSeq, es, sAsg, h, toS_ok, bindT_nm, this, sNil]
    rfl
  refine Wp.ret (d := d) (w' := w') ?_ rfl
  have g1 := get_end hL [.dat d, .dat .non, .emp] (j := 1)
  have g0 := get_end hL [.dat d, .dat .non, .emp] (j := 0)
  simp only [Nat.add_zero] at g0
  simp only [es, sRet, ev, mIf, mBin, mVar, g1, g0, mFun, startR, ess, es, ev, evs, evo, evc, evl, evi, sSeq, sNil, sRet, sExp, sAsg, sOwn, sIf, sFor, sRaise, sAug, sMut, sSet, sFrz, frzR, mVar, mCst, mBin, mUn, mAnd, mOr, mIf, mChn, mNil, mCons, mSeq, mLst, mLen, mOf, mSl, mNo, mPt, mCall, mPri, mBmt, mOix, mOcmp, mISeq, mIBi, bind_ok, bind_exc, bind_bad, toS_ok, toS_exc, toS_bad, nx_ok, ofB_bl, lift_some, lift_none, bindT_nm, bindT_tp, bindTs_nil, bindTs_cons, bop, isi_ii, isi_bi, isi_bb, isi_tt, isi_ll, List.map_cons, List.map_nil, List.length_cons, List.length_nil, List.cons_append, List.nil_append, Nat.sub_self, List.replicate_zero, List.replicate_succ, List.getElem?_cons_succ, List.getElem?_cons_zero, List.set_cons_zero, List.set_cons_succ, Option.bind_some, Option.map_some, if_true, Bool.true_and, Bool.and_true, Bool.and_self, Bool.not_true, Bool.not_false, Bool.false_eq_true, if_false, ite_true, ite_false, reduceCtorEq, n1, n2, beq_self_eq_true, dIx_l, dIx_t, bAdd_int, bSub_int, dNeg_int, dNot_bl, bLt_int, bLe_int, bGt_int, bGe_int, bIs_non, bIsn_non, bIs_bl, bIsn_bl, non_non, non_int, non_str, non_lst, non_exc, non_amt, non_rule, non_trial, items_l, items_t, dSl_l, dOf_1, zip_l, enm_l, bEq_int, bNe_int, fold_amt, fold_rule, fold_trial, ix_amt0, ix_amt1, ix_rule0, ix_rule1, ix_trial0, ix_trial1, bindT_amt, bindT_rule, bindT_trial, List.length_map, big_0, big_1, big_2, big_3]
theorem caught_exc {k : Nat} (X : TX T) (he : SpError (T.f err)) (hk : k < 6) (hn : ds.length = n) (h : ev T call (ds.map .dat ++ [.dat .non, .dat .non, .emp]) w = .exc k w') : mFun (n + 3) (ess T (tryB n err call)) ds w = .ok (.str (errS k)) w' := by
  have hL : (ds.map Sl.dat).length = n := by simpa using hn
  refine fun_wp ?_
  rw [start_end hn, tryB]
  refine Wp.step (r' := ds.map .dat ++ [.dat .non, .emp, .emp]) (w' := w) ?_ ?_
  · have := set_end hL [.emp, .emp, .emp] (.dat .non) (j := 0)
    simp only [Nat.add_zero] at this
    simp only [es, sAsg, ev, mCst, toS_ok, bindT_nm, this]
    rfl
  refine Wp.step (r' := ds.map .dat ++ [.dat .non, .dat .non, .emp]) (w' := w) ?_ ?_
  · have := set_end hL [.dat .non, .emp, .emp] (.dat .non) (j := 1)
    simp only [es, sAsg, ev, mCst, toS_ok, bindT_nm, this]
    rfl
  have e1 : ess T (.cons (.asg (.nm n) call) .nil) (ds.map .dat ++ [.dat .non, .dat .non, .emp]) w = .exc k (ds.map .dat ++ [.dat .non, .dat .non, .emp]) w' := by
    simp only [ess, sSeq, es, sAsg, h, toS_exc]
  refine Wp.step (r' := ds.map .dat ++ [.dat .non, .dat (.exc k), .emp]) (w' := w') ?_ ?_
  · have s2 := set_end hL [.dat .non, .dat .non, .emp] .emp (j := 2)
    have s1 := set_end hL [.dat .non, .dat .non, .emp] (.dat (.exc k)) (j := 1)
    have s3 := set_end hL [.dat .non, .dat (.exc k), .emp] .emp (j := 2)
    rw [try_exc X e1 hk, s2]
    simp only [List.set_cons_succ, List.set_cons_zero]
    rw [s1]
    simp only [List.set_cons_succ, List.set_cons_zero]
    rw [s3]
    rfl
  refine Wp.ret (d := .str (errS k)) (w' := w') ?_ rfl
  have g1 := get_end hL [.dat .non, .dat (.exc k), .emp] (j := 1)
  have g2 := he k w' hk
  simp only [es, sRet, ev, evs, mIf, mBin, mVar, mCall, mCons, mNil, g1, g2, mFun, startR, ess, es, ev, evs, evo, evc, evl, evi, sSeq, sNil, sRet, sExp, sAsg, sOwn, sIf, sFor, sRaise, sAug, sMut, sSet, sFrz, frzR, mVar, mCst, mBin, mUn, mAnd, mOr, mIf, mChn, mNil, mCons, mSeq, mLst, mLen, mOf, mSl, mNo, mPt, mCall, mPri, mBmt, mOix, mOcmp, mISeq, mIBi, bind_ok, bind_exc, bind_bad, toS_ok, toS_exc, toS_bad, nx_ok, ofB_bl, lift_some, lift_none, bindT_nm, bindT_tp, bindTs_nil, bindTs_cons, bop, isi_ii, isi_bi, isi_bb, isi_tt, isi_ll, List.map_cons, List.map_nil, List.length_cons, List.length_nil, List.cons_append, List.nil_append, Nat.sub_self, List.replicate_zero, List.replicate_succ, List.getElem?_cons_succ, List.getElem?_cons_zero, List.set_cons_zero, List.set_cons_succ, Option.bind_some, Option.map_some, if_true, Bool.true_and, Bool.and_true, Bool.and_self, Bool.not_true, Bool.not_false, Bool.false_eq_true, if_false, ite_true, ite_false, reduceCtorEq, n1, n2, beq_self_eq_true, dIx_l, dIx_t, bAdd_int, bSub_int, dNeg_int, dNot_bl, bLt_int, bLe_int, bGt_int, bGe_int, bIs_non, bIsn_non, bIs_bl, bIsn_bl, non_non, non_int, non_str, non_lst, non_exc, non_amt, non_rule, non_trial, items_l, items_t, dSl_l, dOf_1, zip_l, enm_l, bEq_int, bNe_int, fold_amt, fold_rule, fold_trial, ix_amt0, ix_amt1, ix_rule0, ix_rule1, ix_trial0, ix_trial1, bindT_amt, bindT_rule, bindT_trial, List.length_map, big_0, big_1, big_2, big_3]
end
theorem str_none : D.str (errS 5) = .str "none" := rfl
theorem str_rule : D.str (errS 0) = .str "rule" := rfl
/-- an amount that is found, or "none" -/
def ansD : Option (Int × Int) → D
  | none => .str "none"
  | some x => amt x
theorem en_ans : En 12 ansD := ⟨fun a => by cases a with
  | none => exact so_none
  | some x => exact (en_amt 11).ok x, fun a b => by
    cases a with
    | none =>
      cases b with
      | none => simp [ansD, eqN]
      | some y => rfl
    | some x =>
      cases b with
      | none => rfl
      | some y =>
        rw [show eqN 12 (ansD (some x)) (ansD (some y)) = eqN 12 (amt x) (amt y) from rfl, (en_amt 11).eq]
        simp⟩
def SpFor (φ : MF) : Prop := ∀ r as (q : Nat) wanted w, RuleB 4 r → Oks 4 as → as.length = r.2.length → q < r.2.length → Ok 110 wanted → ∃ o, φ [ruleD r, amts as, .int q, amt wanted] w = .ok (ansD o) w ∧ (r.2.getD q 0 = 0 → o = none) ∧ (r.2.getD q 0 ≠ 0 → ∀ x, o = some x → Ok 160 x ∧ rateQ r (as.set q x) = wanted) ∧ (r.2.getD q 0 ≠ 0 → o = none → ∀ x, Am x → rateQ r (as.set q x) ≠ wanted)
theorem for_of {φ ψ : MF} (h : SpAmountFor ψ) (h1 : ∀ r as (q : Nat) wanted w d, ψ [ruleD r, amts as, .int q, amt wanted] w = .ok d w → φ [ruleD r, amts as, .int q, amt wanted] w = .ok d w)
    (h2 : ∀ r as (q : Nat) wanted w, ψ [ruleD r, amts as, .int q, amt wanted] w = .exc 5 w → φ [ruleD r, amts as, .int q, amt wanted] w = .ok (.str "none") w) : SpFor φ := by
  intro r as q wanted w hr ha hl hq hw
  obtain ⟨z, nz⟩ := h r as q wanted w hr ha hl hq hw
  by_cases h0 : r.2.getD q 0 = 0
  · exact ⟨none, h2 r as q wanted w (z h0), fun _ => rfl, fun h => absurd h0 h, fun h => absurd h0 h⟩
  · rcases nz h0 with ⟨x, hx, hr', e⟩ | ⟨hno, e⟩
    · exact ⟨some x, h1 r as q wanted w _ e, fun h => absurd h h0, fun _ y hy => by cases hy; exact ⟨hx, hr'⟩, fun _ hy => by cases hy⟩
    · exact ⟨none, h2 r as q wanted w e, fun _ => rfl, (fun _ y hy => by cases hy), fun _ _ => hno⟩
theorem sp_for (T : Tab) (i j : Nat) (B : TB T) (X : TX T) (hi : SpError (T.f i)) (hj : SpAmountFor (T.f j)) : SpFor (mFun 7 (ess T (b__law_for i j))) := by
  refine for_of hj (fun r as q wanted w d e => ?_) (fun r as q wanted w e => ?_)
  · exact caught_ok (n := 4) (err := i) rfl (by simp only [mFun, startR, ess, es, ev, evs, evo, evc, evl, evi, sSeq, sNil, sRet, sExp, sAsg, sOwn, sIf, sFor, sRaise, sAug, sMut, sSet, sFrz, frzR, mVar, mCst, mBin, mUn, mAnd, mOr, mIf, mChn, mNil, mCons, mSeq, mLst, mLen, mOf, mSl, mNo, mPt, mCall, mPri, mBmt, mOix, mOcmp, mISeq, mIBi, bind_ok, bind_exc, bind_bad, toS_ok, toS_exc, toS_bad, nx_ok, ofB_bl, lift_some, lift_none, bindT_nm, bindT_tp, bindTs_nil, bindTs_cons, bop, isi_ii, isi_bi, isi_bb, isi_tt, isi_ll, List.map_cons, List.map_nil, List.length_cons, List.length_nil, List.cons_append, List.nil_append, Nat.sub_self, List.replicate_zero, List.replicate_succ, List.getElem?_cons_succ, List.getElem?_cons_zero, List.set_cons_zero, List.set_cons_succ, Option.bind_some, Option.map_some, if_true, Bool.true_and, Bool.and_true, Bool.and_self, Bool.not_true, Bool.not_false, Bool.false_eq_true, if_false, ite_true, ite_false, reduceCtorEq, n1, n2, beq_self_eq_true, dIx_l, dIx_t, bAdd_int, bSub_int, dNeg_int, dNot_bl, bLt_int, bLe_int, bGt_int, bGe_int, bIs_non, bIsn_non, bIs_bl, bIsn_bl, non_non, non_int, non_str, non_lst, non_exc, non_amt, non_rule, non_trial, items_l, items_t, dSl_l, dOf_1, zip_l, enm_l, bEq_int, bNe_int, fold_amt, fold_rule, fold_trial, ix_amt0, ix_amt1, ix_rule0, ix_rule1, ix_trial0, ix_trial1, bindT_amt, bindT_rule, bindT_trial, List.length_map, big_0, big_1, big_2, big_3, e])
  · exact caught_exc (n := 4) (err := i) (k := 5) X hi (by omega) rfl (by simp only [mFun, startR, ess, es, ev, evs, evo, evc, evl, evi, sSeq, sNil, sRet, sExp, sAsg, sOwn, sIf, sFor, sRaise, sAug, sMut, sSet, sFrz, frzR, mVar, mCst, mBin, mUn, mAnd, mOr, mIf, mChn, mNil, mCons, mSeq, mLst, mLen, mOf, mSl, mNo, mPt, mCall, mPri, mBmt, mOix, mOcmp, mISeq, mIBi, bind_ok, bind_exc, bind_bad, toS_ok, toS_exc, toS_bad, nx_ok, ofB_bl, lift_some, lift_none, bindT_nm, bindT_tp, bindTs_nil, bindTs_cons, bop, isi_ii, isi_bi, isi_bb, isi_tt, isi_ll, List.map_cons, List.map_nil, List.length_cons, List.length_nil, List.cons_append, List.nil_append, Nat.sub_self, List.replicate_zero, List.replicate_succ, List.getElem?_cons_succ, List.getElem?_cons_zero, List.set_cons_zero, List.set_cons_succ, Option.bind_some, Option.map_some, if_true, Bool.true_and, Bool.and_true, Bool.and_self, Bool.not_true, Bool.not_false, Bool.false_eq_true, if_false, ite_true, ite_false, reduceCtorEq, n1, n2, beq_self_eq_true, dIx_l, dIx_t, bAdd_int, bSub_int, dNeg_int, dNot_bl, bLt_int, bLe_int, bGt_int, bGe_int, bIs_non, bIsn_non, bIs_bl, bIsn_bl, non_non, non_int, non_str, non_lst, non_exc, non_amt, non_rule, non_trial, items_l, items_t, dSl_l, dOf_1, zip_l, enm_l, bEq_int, bNe_int, fold_amt, fold_rule, fold_trial, ix_amt0, ix_amt1, ix_rule0, ix_rule1, ix_trial0, ix_trial1, bindT_amt, bindT_rule, bindT_trial, List.length_map, big_0, big_1, big_2, big_3, e])
def SpCross (φ : MF) : Prop := ∀ r s as (q : Nat) w, RuleB 100 r → RuleB 100 s → Oks 4 as → as.length = r.2.length → s.2.length = r.2.length → q < r.2.length → ∃ o, φ [ruleD r, ruleD s, amts as, .int q] w = .ok (ansD o) w ∧ (r.2.getD q 0 = s.2.getD q 0 → o = none) ∧ (r.2.getD q 0 ≠ s.2.getD q 0 → ∀ x, o = some x → Ok 280 x ∧ rateQ r (as.set q x) = rateQ s (as.set q x)) ∧ (r.2.getD q 0 ≠ s.2.getD q 0 → o = none → ∀ x, Am x → rateQ r (as.set q x) ≠ rateQ s (as.set q x))
theorem cross_of {φ ψ : MF} (h : SpCrossing ψ) (h1 : ∀ r s as (q : Nat) w d, ψ [ruleD r, ruleD s, amts as, .int q] w = .ok d w → φ [ruleD r, ruleD s, amts as, .int q] w = .ok d w)
    (h2 : ∀ r s as (q : Nat) w, ψ [ruleD r, ruleD s, amts as, .int q] w = .exc 5 w → φ [ruleD r, ruleD s, amts as, .int q] w = .ok (.str "none") w) : SpCross φ := by
  intro r s as q w hr hs ha hl hls hq
  obtain ⟨z, nz⟩ := h r s as q w hr hs ha hl hls hq
  by_cases h0 : r.2.getD q 0 = s.2.getD q 0
  · exact ⟨none, h2 r s as q w (z h0), fun _ => rfl, fun h => absurd h0 h, fun h => absurd h0 h⟩
  · rcases nz h0 with ⟨x, hx, hr', e⟩ | ⟨hno, e⟩
    · exact ⟨some x, h1 r s as q w _ e, fun h => absurd h h0, fun _ y hy => by cases hy; exact ⟨hx, hr'⟩, fun _ hy => by cases hy⟩
    · exact ⟨none, h2 r s as q w e, fun _ => rfl, (fun _ y hy => by cases hy), fun _ _ => hno⟩
theorem sp_cross (T : Tab) (i j : Nat) (B : TB T) (X : TX T) (hi : SpError (T.f i)) (hj : SpCrossing (T.f j)) : SpCross (mFun 7 (ess T (b__law_cross i j))) := by
  refine cross_of hj (fun r s as q w d e => ?_) (fun r s as q w e => ?_)
  · exact caught_ok (n := 4) (err := i) rfl (by simp only [mFun, startR, ess, es, ev, evs, evo, evc, evl, evi, sSeq, sNil, sRet, sExp, sAsg, sOwn, sIf, sFor, sRaise, sAug, sMut, sSet, sFrz, frzR, mVar, mCst, mBin, mUn, mAnd, mOr, mIf, mChn, mNil, mCons, mSeq, mLst, mLen, mOf, mSl, mNo, mPt, mCall, mPri, mBmt, mOix, mOcmp, mISeq, mIBi, bind_ok, bind_exc, bind_bad, toS_ok, toS_exc, toS_bad, nx_ok, ofB_bl, lift_some, lift_none, bindT_nm, bindT_tp, bindTs_nil, bindTs_cons, bop, isi_ii, isi_bi, isi_bb, isi_tt, isi_ll, List.map_cons, List.map_nil, List.length_cons, List.length_nil, List.cons_append, List.nil_append, Nat.sub_self, List.replicate_zero, List.replicate_succ, List.getElem?_cons_succ, List.getElem?_cons_zero, List.set_cons_zero, List.set_cons_succ, Option.bind_some, Option.map_some, if_true, Bool.true_and, Bool.and_true, Bool.and_self, Bool.not_true, Bool.not_false, Bool.false_eq_true, if_false, ite_true, ite_false, reduceCtorEq, n1, n2, beq_self_eq_true, dIx_l, dIx_t, bAdd_int, bSub_int, dNeg_int, dNot_bl, bLt_int, bLe_int, bGt_int, bGe_int, bIs_non, bIsn_non, bIs_bl, bIsn_bl, non_non, non_int, non_str, non_lst, non_exc, non_amt, non_rule, non_trial, items_l, items_t, dSl_l, dOf_1, zip_l, enm_l, bEq_int, bNe_int, fold_amt, fold_rule, fold_trial, ix_amt0, ix_amt1, ix_rule0, ix_rule1, ix_trial0, ix_trial1, bindT_amt, bindT_rule, bindT_trial, List.length_map, big_0, big_1, big_2, big_3, e])
  · exact caught_exc (n := 4) (err := i) (k := 5) X hi (by omega) rfl (by simp only [mFun, startR, ess, es, ev, evs, evo, evc, evl, evi, sSeq, sNil, sRet, sExp, sAsg, sOwn, sIf, sFor, sRaise, sAug, sMut, sSet, sFrz, frzR, mVar, mCst, mBin, mUn, mAnd, mOr, mIf, mChn, mNil, mCons, mSeq, mLst, mLen, mOf, mSl, mNo, mPt, mCall, mPri, mBmt, mOix, mOcmp, mISeq, mIBi, bind_ok, bind_exc, bind_bad, toS_ok, toS_exc, toS_bad, nx_ok, ofB_bl, lift_some, lift_none, bindT_nm, bindT_tp, bindTs_nil, bindTs_cons, bop, isi_ii, isi_bi, isi_bb, isi_tt, isi_ll, List.map_cons, List.map_nil, List.length_cons, List.length_nil, List.cons_append, List.nil_append, Nat.sub_self, List.replicate_zero, List.replicate_succ, List.getElem?_cons_succ, List.getElem?_cons_zero, List.set_cons_zero, List.set_cons_succ, Option.bind_some, Option.map_some, if_true, Bool.true_and, Bool.and_true, Bool.and_self, Bool.not_true, Bool.not_false, Bool.false_eq_true, if_false, ite_true, ite_false, reduceCtorEq, n1, n2, beq_self_eq_true, dIx_l, dIx_t, bAdd_int, bSub_int, dNeg_int, dNot_bl, bLt_int, bLe_int, bGt_int, bGe_int, bIs_non, bIsn_non, bIs_bl, bIsn_bl, non_non, non_int, non_str, non_lst, non_exc, non_amt, non_rule, non_trial, items_l, items_t, dSl_l, dOf_1, zip_l, enm_l, bEq_int, bNe_int, fold_amt, fold_rule, fold_trial, ix_amt0, ix_amt1, ix_rule0, ix_rule1, ix_trial0, ix_trial1, bindT_amt, bindT_rule, bindT_trial, List.length_map, big_0, big_1, big_2, big_3, e])
end RL

/-! more of rates and order: no program in sight -/
namespace RL
open Fr
section
variable {f x y : Int × Int} {ps : List Int} {as : List (Int × Int)} {q : Nat}
theorem rate_inj (hf : Am f) (ha : Ams as) (hx : Am x) (hy : Am y) (h1 : q < ps.length) (h2 : q < as.length) (he : ps.getD q 0 ≠ 0) (h : rateQ (f, ps) (as.set q x) = rateQ (f, ps) (as.set q y)) : x = y := by
  have hr := rateQ_am (r := (f, ps)) hf (ha.set one_am q)
  rw [rate_set1 hf ha hx h1 h2, rate_set1 hf ha hy h1 h2] at h
  have h' := congrArg toF h
  rw [toF_mul hr (powQ_am hx _), toF_mul hr (powQ_am hy _), toF_pow hx, toF_pow hy] at h'
  exact toF_inj hx hy (pow_inj _ _ he (cancel_left h'))
theorem no_seven {z : Fr} {e : Int} (h1 : -3 ≤ e) (h2 : e ≤ 3) (h3 : 1 < e.natAbs) : z.pow e ≠ toF (7, 1) := by
  intro h
  have am7 : Am ((7 : Int), (1 : Int)) := by decide
  have key : ∀ (u : Fr) (n : Nat), n = 2 ∨ n = 3 → u.npow n ≠ toF (7, 1) := by
    intro u n hn e
    have e1 : u.1.1 ^ n = 7 := by
      have := congrArg (fun z : Fr => z.1.1) e
      rw [show (toF (7, 1)).1.1 = 7 by rw [toF_val am7]] at this
      exact this
    obtain ⟨a, ha⟩ := Int.eq_ofNat_of_zero_le (Int.le_of_lt u.2.1)
    rw [ha] at e1
    have e2 : a ^ n = 7 := by exact_mod_cast e1
    have hle : a ≤ 7 := by
      rw [← e2]
      exact Nat.le_self_pow (by omega) a
    have : ∀ b : Nat, b < 8 → b ^ 2 ≠ 7 ∧ b ^ 3 ≠ 7 := by decide
    rcases hn with rfl | rfl
    · exact (this a (by omega)).1 e2
    · exact (this a (by omega)).2 e2
  by_cases h0 : 0 ≤ e
  · obtain ⟨n, rfl⟩ := Int.eq_ofNat_of_zero_le h0
    rw [pow_nat] at h
    exact key z n (by omega) h
  · obtain ⟨n, hn⟩ := Int.eq_ofNat_of_zero_le (show 0 ≤ -e by omega)
    have e2 : e = -(n : Int) := by omega
    rw [e2, pow_negnat, ← inv_npow] at h
    exact key _ n (by omega) h
theorem rate_seven (hf : Am f) (ha : Ams as) (hx : Am x) (hy : Am y) (h1 : q < ps.length) (h2 : q < as.length) (e1 : -3 ≤ ps.getD q 0) (e2 : ps.getD q 0 ≤ 3) (e3 : 1 < (ps.getD q 0).natAbs) : rateQ (f, ps) (as.set q y) ≠ mulQ (rateQ (f, ps) (as.set q x)) (7, 1) := by
  intro h
  have am7 : Am ((7 : Int), (1 : Int)) := by decide
  have hr := rateQ_am (r := (f, ps)) hf (ha.set one_am q)
  rw [rate_set1 hf ha hx h1 h2, rate_set1 hf ha hy h1 h2] at h
  have h' := congrArg toF h
  rw [toF_mul hr (powQ_am hy _), toF_mul (mulQ_am hr (powQ_am hx _)) am7, toF_mul hr (powQ_am hx _), toF_pow hx, toF_pow hy, mul_assoc] at h'
  have h' := cancel_left h'
  refine no_seven (z := toF y * (toF x).inv) e1 e2 e3 ?_
  rw [mul_pow, inv_pow, h']
  have : (toF x).pow (ps.getD q 0) * toF (7, 1) * ((toF x).pow (ps.getD q 0)).inv = toF (7, 1) * ((toF x).pow (ps.getD q 0) * ((toF x).pow (ps.getD q 0)).inv) := by ac_rfl
  rw [this, mul_inv, mul_one]
theorem mulQ_ne {z : Int × Int} (hx : Am x) (hz : Am z) (h : z ≠ (1, 1)) : x ≠ mulQ x z := by
  intro e
  have e' := congrArg toF e
  rw [toF_mul hx hz] at e'
  have : toF x * 1 = toF x * toF z := by rw [mul_one]; exact e'
  have := cancel_left this
  exact h (toF_inj hz one_am (by rw [toF_one]; exact this.symm))
end
theorem ordN_congr {rs rs' : List (Int × Int)} : ∀ n, n ≤ rs.length → Ams rs → (∀ i j, i < rs.length → j < rs.length → ltQ (rs.getD i default) (rs.getD j default) = ltQ (rs'.getD i default) (rs'.getD j default)) → ordN rs n = ordN rs' n
  | 0, _, _, _ => rfl
  | n + 1, hn, ha, h => by
    have ih := ordN_congr n (by omega) ha h
    have small : ∀ i ∈ ordN rs n, i < n := fun i hi => List.mem_range.1 ((ordN_ok ha n (by omega)).1.mem_iff.1 hi)
    rw [ordN, ordN, insP, insP, ← ih]
    have e : (ordN rs n).filter (fun far => !ltQ (rs.getD n default) (rs.getD far default)) = (ordN rs n).filter (fun far => !ltQ (rs'.getD n default) (rs'.getD far default)) := List.filter_congr fun i hi => by
      rw [h n i (by omega) (by have := small i hi; omega)]
    simp only [e]
theorem ordQ_scaled {rs : List (Int × Int)} (ha : Ams rs) {z : Int × Int} (hz : Am z) : ordQ (rs.map fun x => mulQ x z) = ordQ rs := by
  unfold ordQ
  rw [List.length_map]
  symm
  refine ordN_congr _ (Nat.le_refl _) ha fun i j hi hj => ?_
  have e : ∀ k, k < rs.length → (rs.map fun x => mulQ x z).getD k default = mulQ (rs.getD k default) z := fun k hk => by simp [List.getD, hk]
  rw [e i hi, e j hj, ltQ_mul (ha _ (getD_mem hi)) (ha _ (getD_mem hj)) hz]
/-- alike ones stay in their order -/
theorem ordQ_same {x : Int × Int} (hx : Am x) (n : Nat) : ordQ (List.replicate n x) = List.range n := by
  refine ordQ_of (fun y m => by rw [List.eq_of_mem_replicate m]; exact hx) (by rw [List.length_replicate]) ?_
  refine List.Pairwise.imp_of_mem (fun {a b} ha hb q => ?_) List.pairwise_lt_range
  rw [List.mem_range] at ha hb
  refine .inr ⟨?_, q⟩
  simp [List.getD, ha, hb]
theorem sort_range {xs : List Nat} {n : Nat} (p : xs.Perm (List.range n)) : sortI (xs.map fun k : Nat => (k : Int)) = (List.range n).map fun k : Nat => (k : Int) := by
  refine sorted_unique ((sortI_perm _).trans (p.map _)) (sortI_sorted _) ?_
  refine List.pairwise_map.2 (List.pairwise_lt_range.imp fun {a b} h => ?_)
  omega
end RL

namespace RL
open PySem L2
section
variable {T : Tab} {r r' : Rho} {w w1 w2 : Wd}
theorem lm_inv {l : L} {ds : List D} (h : ev T (.lm l) r w = .ok (.lst ds) w1) : evl T l r w = .ok ds w1 := by
  rw [ev, mLst] at h
  cases e : evl T l r w with
  | ok ds' w' =>
    rw [e] at h
    cases h
    rfl
  | exc k w' => rw [e] at h; cases h
  | bad => rw [e] at h; cases h
theorem own_ok {i : Nat} {l : L} {ds : List D} (h : ev T (.lm l) r w = .ok (.lst ds) w1) : es T (.own i l) r w = .next (r.set i (.own ds)) w1 := by
  rw [es, sOwn, lm_inv h, toS_ok]
/-- [_law_draw(draws, 7) - 3 for z in range(s)] -/
theorem ev_powers {tb : List (Int × List D)} {i d s z n : Nat} (h : SpDraw (T.f i)) (hw : DW tb w) (hd : r[d]? = some (.dat .drw)) (hs : r[s]? = some (.dat (.int n))) (hn : n ≤ 10000) (hz : z ≠ d) :
    ∃ (ps : List Int) (w' : Wd), ev T (.lm (.comp (.bin .sub (.call i (.cons (.var d) (.cons (.cst (.int 7)) .nil))) (.cst (.int 3))) (.nm z) [z] (.rng (.cons (.var s) .nil)) .no)) r w = .ok (.lst (ps.map .int)) w' ∧ ps.length = n ∧ (∀ e ∈ ps, -3 ≤ e ∧ e ≤ 3) ∧ DW tb w' :=
  ev_draws hw (ev_var hs) hn fun v w hw => by
    obtain ⟨x, w', e, hx, d'⟩ := h tb 7 w hw (by omega) (by omega)
    have hg : ((r.set z .emp).set z (.dat v))[d]? = some (.dat .drw) := by rw [List.getElem?_set_ne hz, List.getElem?_set_ne hz, hd]
    refine ⟨(x : Int) - 3, w', ?_, by omega, d'⟩
    simp only [mFun, startR, ess, es, ev, evs, evo, evc, evl, evi, sSeq, sNil, sRet, sExp, sAsg, sOwn, sIf, sFor, sRaise, sAug, sMut, sSet, sFrz, frzR, mVar, mCst, mBin, mUn, mAnd, mOr, mIf, mChn, mNil, mCons, mSeq, mLst, mLen, mOf, mSl, mNo, mPt, mCall, mPri, mBmt, mOix, mOcmp, mISeq, mIBi, bind_ok, bind_exc, bind_bad, toS_ok, toS_exc, toS_bad, nx_ok, ofB_bl, lift_some, lift_none, bindT_nm, bindT_tp, bindTs_nil, bindTs_cons, bop, isi_ii, isi_bi, isi_bb, isi_tt, isi_ll, List.map_cons, List.map_nil, List.length_cons, List.length_nil, List.cons_append, List.nil_append, Nat.sub_self, List.replicate_zero, List.replicate_succ, List.getElem?_cons_succ, List.getElem?_cons_zero, List.set_cons_zero, List.set_cons_succ, Option.bind_some, Option.map_some, if_true, Bool.true_and, Bool.and_true, Bool.and_self, Bool.not_true, Bool.not_false, Bool.false_eq_true, if_false, ite_true, ite_false, reduceCtorEq, n1, n2, beq_self_eq_true, dIx_l, dIx_t, bAdd_int, bSub_int, dNeg_int, dNot_bl, bLt_int, bLe_int, bGt_int, bGe_int, bIs_non, bIsn_non, bIs_bl, bIsn_bl, non_non, non_int, non_str, non_lst, non_exc, non_amt, non_rule, non_trial, items_l, items_t, dSl_l, dOf_1, zip_l, enm_l, bEq_int, bNe_int, fold_amt, fold_rule, fold_trial, ix_amt0, ix_amt1, ix_rule0, ix_rule1, ix_trial0, ix_trial1, bindT_amt, bindT_rule, bindT_trial, List.length_map, big_0, big_1, big_2, big_3, hg, e]
/-- [[_law_amount(draws) for z in range(s)] for y in range(a)] -/
theorem ev_choices {tb : List (Int × List D)} {i d s z y n m : Nat} {a : E} (h : SpAmount (T.f i)) (hw : DW tb w1) (hd : r[d]? = some (.dat .drw)) (hs : r[s]? = some (.dat (.int n))) (hn : n ≤ 10000) (hz : z ≠ d) (hy : y ≠ d) (hys : y ≠ s) (ha : ev T a r w = .ok (.int m) w1) (hm : m ≤ 10000) :
    ∃ (cs : List (List (Int × Int))) (w' : Wd), ev T (.lm (.comp (.lm (.comp (.call i (.cons (.var d) .nil)) (.nm z) [z] (.rng (.cons (.var s) .nil)) .no)) (.nm y) [y] (.rng (.cons a .nil)) .no)) r w = .ok (choD cs) w' ∧ cs.length = m ∧ (∀ c ∈ cs, c.length = n ∧ Oks 4 c) ∧ DW tb w' :=
  ev_draws hw ha hm fun v w hw => by
    have hg : ((r.set y .emp).set y (.dat v))[d]? = some (.dat .drw) := by rw [List.getElem?_set_ne hy, List.getElem?_set_ne hy, hd]
    have hg2 : ((r.set y .emp).set y (.dat v))[s]? = some (.dat (.int n)) := by rw [List.getElem?_set_ne hys, List.getElem?_set_ne hys, hs]
    obtain ⟨as, w', e, l, o, d'⟩ := ev_amounts (z := z) h hw hg hg2 hn hz
    exact ⟨as, w', e, ⟨l, o⟩, d'⟩
end
theorem thn_next {T : Tab} {ss : Ss} {P : RS → Prop} {r : Rho} {w : Wd} (h : Wp T ss r w P) : Thn T ss P (.next r w) := h
/-- the amounts with one of them put -/
theorem put_amts {as : List (Int × Int)} {q : Nat} (x : Int × Int) (hq : q < as.length) (h3 : as.length ≤ 3) : bAdd (.lst ((as.take q).map amt)) (.lst [amt x]) = some (.lst ((as.take q ++ [x]).map amt)) ∧ bAdd (.lst ((as.take q ++ [x]).map amt)) (.lst ((as.drop (q + 1)).map amt)) = some (.lst ((as.set q x).map amt)) := by
  refine ⟨bAdd_map _ [x] (len_add (n := 3) (m := 1) (by rw [List.length_take]; omega) (by simp) (by omega)), ?_⟩
  rw [bAdd_map _ _ (len_add (n := 4) (m := 3) (by rw [List.length_append, List.length_take]; simp; omega) (by rw [List.length_drop]; omega) (by omega)), put_set x hq]
theorem bNe_nats (a b : List Nat) : bNe (natsD a) (natsD b) = some (.bl (!decide (a = b))) := by
  have := bNe_ints (a.map fun k : Nat => (k : Int)) (b.map fun k : Nat => (k : Int))
  rw [List.map_map, List.map_map] at this
  show bNe (.lst (a.map (D.int ∘ fun k : Nat => (k : Int)))) (.lst (b.map (D.int ∘ fun k : Nat => (k : Int)))) = _
  rw [this]
  congr 3
  refine decide_eq_decide.2 ⟨fun h => ?_, fun h => by rw [h]⟩
  exact (List.map_inj_right (f := fun k : Nat => (k : Int)) fun x y (h : ((x : Nat) : Int) = ((y : Nat) : Int)) => by omega).1 h
theorem bEq_nats (a b : List Nat) : bEq (natsD a) (natsD b) = some (.bl (decide (a = b))) := by
  have := bEq_ints (a.map fun k : Nat => (k : Int)) (b.map fun k : Nat => (k : Int))
  rw [List.map_map, List.map_map] at this
  show bEq (.lst (a.map (D.int ∘ fun k : Nat => (k : Int)))) (.lst (b.map (D.int ∘ fun k : Nat => (k : Int)))) = _
  rw [this]
  congr 2
  refine decide_eq_decide.2 ⟨fun h => ?_, fun h => by rw [h]⟩
  exact (List.map_inj_right (f := fun k : Nat => (k : Int)) fun x y (h : ((x : Nat) : Int) = ((y : Nat) : Int)) => by omega).1 h
theorem p7 : (priTab.getD 7 (Str.empty, fun _ => none)).2 = dSort := rfl
theorem dSort_nats {xs : List Nat} {n : Nat} (p : xs.Perm (List.range n)) : dSort [natsD xs] = some (natsD (List.range n)) := by
  have e : (xs.map fun k : Nat => D.int (k : Int)) = (xs.map fun k : Nat => (k : Int)).map .int := by rw [List.map_map]; rfl
  have e2 : ((List.range n).map fun k : Nat => D.int (k : Int)) = ((List.range n).map fun k : Nat => (k : Int)).map .int := by rw [List.map_map]; rfl
  rw [natsD, natsD, e, e2, dSort, asInts_map, Option.map_some, sort_range p]
end RL

/-! crossing rules, exchanged places: no program in sight -/
namespace RL
open Fr
section
variable {f g x y z : Int × Int} {ps qs : List Int} {as : List (Int × Int)} {q : Nat}
theorem rate_mul_at (hf : Am f) (ha : Ams as) (hx : Am x) (hz : Am z) (h1 : q < ps.length) (h2 : q < as.length) : rateQ (f, ps) (as.set q (mulQ x z)) = mulQ (rateQ (f, ps) (as.set q x)) (powQ z (ps.getD q 0)) := by
  have hr := rateQ_am (r := (f, ps)) hf (ha.set one_am q)
  have hp := powQ_am hx (ps.getD q 0)
  have hp' := powQ_am hz (ps.getD q 0)
  rw [rate_set1 hf ha (mulQ_am hx hz) h1 h2, rate_set1 hf ha hx h1 h2, powQ_mulQ hx hz, mulQ_assoc hr hp hp']
theorem cross_inj (hf : Am f) (hg : Am g) (ha : Ams as) (hx : Am x) (hy : Am y) (h1 : q < ps.length) (h3 : q < qs.length) (h2 : q < as.length) (he : ps.getD q 0 - qs.getD q 0 ≠ 0) (e1 : rateQ (f, ps) (as.set q x) = rateQ (g, qs) (as.set q x)) (e2 : rateQ (f, ps) (as.set q y) = rateQ (g, qs) (as.set q y)) : x = y := by
  have a1 := (cross_solve hf hg ha hx h1 h3 h2 he).1 e1
  have a2 := (cross_solve hf hg ha hy h1 h3 h2 he).1 e2
  have e : Fr.npow ⟨x, hx⟩ (ps.getD q 0 - qs.getD q 0).natAbs = Fr.npow ⟨y, hy⟩ (ps.getD q 0 - qs.getD q 0).natAbs := Subtype.ext (a1.trans a2.symm)
  exact congrArg Subtype.val (npow_pos_inj _ _ (by omega) e)
end
theorem pw_idx {e : Int} (h1 : -3 ≤ e) (h2 : e ≤ 3) : ∃ i : Nat, i < 7 ∧ e = -3 + (i : Int) := ⟨(e + 3).toNat, by omega, by omega⟩
theorem lt_pow2 {a b : Int} (a1 : -3 ≤ a) (a2 : a ≤ 3) (b1 : -3 ≤ b) (b2 : b ≤ 3) : ltQ (powQ (2, 1) a) (powQ (2, 1) b) = decide (a < b) ∧ ltQ (powQ (1, 2) a) (powQ (1, 2) b) = decide (b < a) ∧ ltQ (powQ (3, 1) a) (powQ (3, 1) b) = decide (a < b) := by
  obtain ⟨i, hi, rfl⟩ := pw_idx a1 a2
  obtain ⟨j, hj, rfl⟩ := pw_idx b1 b2
  have : ∀ i : Nat, i < 7 → ∀ j : Nat, j < 7 → (ltQ (powQ (2, 1) (-3 + (i : Int))) (powQ (2, 1) (-3 + (j : Int))) = decide (-3 + (i : Int) < -3 + (j : Int)) ∧ ltQ (powQ (1, 2) (-3 + (i : Int))) (powQ (1, 2) (-3 + (j : Int))) = decide (-3 + (j : Int) < -3 + (i : Int)) ∧ ltQ (powQ (3, 1) (-3 + (i : Int))) (powQ (3, 1) (-3 + (j : Int))) = decide (-3 + (i : Int) < -3 + (j : Int))) := by decide +kernel
  exact this i hi j hj
theorem ltQ_mul_left {x y z : Int × Int} (hx : Am x) (hy : Am y) (hz : Am z) : ltQ (mulQ z x) (mulQ z y) = ltQ x y := by rw [mulQ_comm z x, mulQ_comm z y, ltQ_mul hx hy hz]
theorem swapL_comm {α : Type} (d : α) {a b : Nat} (xs : List α) : swapL d a b xs = swapL d b a xs := by
  unfold swapL
  by_cases h : a = b
  · subst h
    rfl
  · rw [List.set_comm _ _ h]
theorem swapL_swapL {α : Type} (d : α) {a b : Nat} {xs : List α} (ha : a < xs.length) (hb : b < xs.length) : swapL d a b (swapL d a b xs) = xs := by
  apply List.ext_getElem
  · simp [swapL]
  · intro i h1 h2
    unfold swapL
    simp only [List.getElem_set, List.getD, List.getElem?_set, List.length_set, ha, hb, if_true, List.getElem?_eq_getElem, Option.getD_some]
    by_cases e1 : b = i
    · subst e1
      by_cases e2 : b = a
      · subst e2
        simp
      · simp [e2]
    · by_cases e2 : a = i
      · subst e2
        simp [e1]
      · simp [e1, e2]
theorem perm_sum {xs ys : List Int} (h : xs.Perm ys) : xs.sum = ys.sum := by
  induction h with
  | nil => rfl
  | cons x _ ih => simp [ih]
  | swap x y l =>
    simp only [List.sum_cons]
    omega
  | trans _ _ h1 h2 => rw [h1, h2]
theorem beqI (a b : Int) : (a == b) = decide (a = b) := by
  by_cases h : a = b
  · subst h
    simp
  · rw [decide_eq_false h]
    exact beq_eq_false_iff_ne.2 h
end RL

/-! numbers of places before one: no program in sight -/
namespace RL
def ltB (rs : List (Int × Int)) (i j : Nat) : Bool := ltQ (rs.getD i default) (rs.getD j default) || (decide (rs.getD i default = rs.getD j default) && decide (i < j))
theorem ltB_iff {rs : List (Int × Int)} {i j : Nat} : ltB rs i j = true ↔ ltP rs i j := by
  unfold ltB ltP
  simp
def dueN (rs : List (Int × Int)) (k : Nat) : Nat := ((List.range rs.length).filter fun j => ltB rs j k).length
theorem due_at {rs : List (Int × Int)} (h : Ams rs) {i : Nat} (hi : i < (ordQ rs).length) : dueN rs ((ordQ rs)[i]) = i := by
  unfold dueN
  rw [← List.countP_eq_length_filter, ← (ordQ_perm h).countP_eq]
  have hs := ordQ_sorted h
  have e : ordQ rs = (ordQ rs).take i ++ (ordQ rs)[i] :: (ordQ rs).drop (i + 1) := by
    rw [← List.drop_eq_getElem_cons hi, List.take_append_drop]
  generalize hz : (ordQ rs)[i] = z at *
  have hl : ((ordQ rs).take i).length = i := by
    rw [List.length_take]
    omega
  generalize (ordQ rs).take i = A at *
  generalize (ordQ rs).drop (i + 1) = C at *
  rw [e] at hs ⊢
  rw [List.pairwise_append, List.pairwise_cons] at hs
  obtain ⟨_, ⟨h2, _⟩, h3⟩ := hs
  rw [List.countP_append, List.countP_cons]
  have c1 : A.countP (fun j => ltB rs j z) = A.length := List.countP_eq_length.2 fun a ha => ltB_iff.2 (h3 a ha z List.mem_cons_self)
  have c2 : C.countP (fun j => ltB rs j z) = 0 := List.countP_eq_zero.2 fun a ha q => ltP_asym (h2 a ha) (ltB_iff.1 q)
  have c3 : ltB rs z z = false := by
    cases q : ltB rs z z with
    | false => rfl
    | true => exact (ltP_asym (ltB_iff.1 q) (ltB_iff.1 q)).elim
  rw [c1, c2, c3, hl]
  simp
theorem due_all {rs : List (Int × Int)} (h : Ams rs) : (ordQ rs).map (dueN rs) = List.range rs.length := by
  apply List.ext_getElem
  · simp [ordQ_length h]
  · intro i h1 h2
    rw [List.getElem_map, List.getElem_range, due_at h]
end RL

namespace RL
open PySem L2
def b__law_call (i__law_error i_amount_for i_crossing : Nat) : Ss := (.cons (.asg (.nm 5) (.cst .non)) (.cons (.asg (.nm 6) (.cst .non)) (.cons (.tryK (.cons (.asg (.nm 5) (.ite (.bin .eq (.var 0) (.cst (.int 0))) (.call i_amount_for (.cons (.var 1) (.cons (.var 2) (.cons (.var 3) (.cons (.var 4) .nil))))) (.call i_crossing (.cons (.var 1) (.cons (.var 2) (.cons (.var 3) (.cons (.var 4) .nil))))))) .nil) 7 6 0) (.cons (.ret (.ite (.bin .is (.var 6) (.cst .non)) (.var 5) (.call i__law_error (.cons (.var 6) .nil)))) .nil))))
def k06s1 : S := (.asg (.nm 2) (.bin .add (.cst (.int 1)) (.call 21 (.cons (.var 1) (.cons (.cst (.int 3)) .nil)))))
def k06s2 : S := (.asg (.tp (.cons (.nm 3) (.cons (.nm 4) .nil))) (.tup (.cons (.call 27 (.cons (.var 1) (.cons (.var 2) .nil))) (.cons (.call 27 (.cons (.var 1) (.cons (.var 2) .nil))) .nil))))
def k06s3 : S := (.asg (.tp (.cons (.nm 5) (.cons (.nm 6) .nil))) (.tup (.cons (.lm (.comp (.call 26 (.cons (.var 1) .nil)) (.nm 7) [7] (.rng (.cons (.var 2) .nil)) .no)) (.cons (.call 21 (.cons (.var 1) (.cons (.var 2) .nil))) .nil))))
def k06s4 : S := (.asg (.nm 8) (.call 22 (.cons (.var 1) (.cons (.lm (.disp (.cons (.call 26 (.cons (.var 1) .nil)) (.cons (.call 28 (.cons (.var 3) (.cons (.call 31 (.cons (.var 5) (.cons (.var 6) (.cons (.call 26 (.cons (.var 1) .nil)) .nil)))) .nil))) .nil)))) .nil))))
def k06s5 : S := (.asg (.nm 9) (.lm (.disp .nil)))
def k06s6 : S := (.for' (.nm 10) (.rng (.cons (.cst (.int 1)) (.cons (.cst (.int 13)) .nil))) (.cons (.asg (.nm 9) (.bin .add (.var 9) (.lm (.comp (.tup (.cons (.var 11) (.cons (.var 10) .nil))) (.nm 11) [11] (.rng (.cons (.cst (.int 1)) (.cons (.cst (.int 13)) .nil))) (.so (.bin .eq (.call 25 (.cons (.var 11) (.cons (.var 10) .nil))) (.tup (.cons (.var 11) (.cons (.var 10) .nil))))))))) .nil))
def k06s7 : S := (.own 12 (.comp (.var 13) (.nm 13) [13] (.seq (.var 9)) (.so (.bin .eq (.call 28 (.cons (.var 3) (.cons (.call 31 (.cons (.var 5) (.cons (.var 6) (.cons (.var 13) .nil)))) .nil))) (.var 8)))))
def k06s8 : S := (.asg (.nm 14) (.call 30 (.cons (.cst (.int 0)) (.cons (.var 3) (.cons (.var 5) (.cons (.var 6) (.cons (.var 8) .nil)))))))
def k06s9 : S := (.iff (.bin .eq (.ix (.ix (.var 3) (.cst (.int 1))) (.var 6)) (.cst (.int 0))) (.cons (.iff (.bin .ne (.var 14) (.cst (.str "none"))) (.cons (.ret (.cst (.bl false))) .nil) .nil) .nil) (.cons (.iff (.bin .eq (.var 14) (.cst (.str "none"))) (.cons (.iff (.ocmp .ne 12 (.lm (.disp .nil))) (.cons (.ret (.cst (.bl false))) .nil) .nil) .nil) (.cons (.iff (.or (.bin .ne (.call 28 (.cons (.var 3) (.cons (.call 31 (.cons (.var 5) (.cons (.var 6) (.cons (.var 14) .nil)))) .nil))) (.var 8)) (.bin .isn (.call 2 (.cons (.var 14) .nil)) (.cst (.bl true)))) (.cons (.ret (.cst (.bl false))) .nil) .nil) .nil)) .nil))
def k06s10 : S := (.own 12 (.disp .nil))
def k06s11 : S := (.for' (.nm 13) (.seq (.var 9)) (.cons (.asg (.nm 15) (.call 31 (.cons (.var 5) (.cons (.var 6) (.cons (.var 13) .nil))))) (.cons (.iff (.bin .eq (.call 28 (.cons (.var 3) (.cons (.var 15) .nil))) (.call 28 (.cons (.var 4) (.cons (.var 15) .nil)))) (.cons (.app 12 (.var 13)) .nil) .nil) .nil)))
def k06s12 : S := (.asg (.nm 14) (.call 30 (.cons (.cst (.int 1)) (.cons (.var 3) (.cons (.var 4) (.cons (.var 5) (.cons (.var 6) .nil)))))))
def k06s13 : S := (.iff (.bin .eq (.ix (.ix (.var 3) (.cst (.int 1))) (.var 6)) (.ix (.ix (.var 4) (.cst (.int 1))) (.var 6))) (.cons (.iff (.bin .ne (.var 14) (.cst (.str "none"))) (.cons (.ret (.cst (.bl false))) .nil) .nil) .nil) (.cons (.iff (.bin .eq (.var 14) (.cst (.str "none"))) (.cons (.iff (.ocmp .ne 12 (.lm (.disp .nil))) (.cons (.ret (.cst (.bl false))) .nil) .nil) .nil) (.cons (.iff (.bin .ne (.call 28 (.cons (.var 3) (.cons (.call 31 (.cons (.var 5) (.cons (.var 6) (.cons (.var 14) .nil)))) .nil))) (.call 28 (.cons (.var 4) (.cons (.call 31 (.cons (.var 5) (.cons (.var 6) (.cons (.var 14) .nil)))) .nil)))) (.cons (.ret (.cst (.bl false))) .nil) .nil) .nil)) .nil))
def k06s14 : S := (.ret (.call 32 (.cons (.var 1) (.cons (.var 3) (.cons (.var 5) (.cons (.var 2) .nil))))))
def b_law_k06 : Ss := (.cons k06s1 (.cons k06s2 (.cons k06s3 (.cons k06s4 (.cons k06s5 (.cons k06s6 (.cons k06s7 (.cons k06s8 (.cons k06s9 (.cons k06s10 (.cons k06s11 (.cons k06s12 (.cons k06s13 (.cons k06s14 .nil))))))))))))))
-- slots 0:script 1:draws 2:size 3:own 4:other 5:amounts 6:quantity 7:k 8:wanted 9:every 10:under 11:top 12:good 13:one 14:told 15:here
-- uses _law_ordered=32 _law_rate=28 _law_put=31 _law_call=30 is_amount=2 _law_low=25 _law_pick=22 _law_amount=26 _law_draw=21 _law_new=27
def SpPut (φ : MF) : Prop := ∀ as (q : Nat) x w, q < as.length → as.length ≤ 3 → φ [amts as, .int q, amt x] w = .ok (amts (as.set q x)) w
theorem sp_put (T : Tab) : SpPut (mFun 3 (ess T b__law_put)) := by
  intro as q x w hq h3
  refine fun_ret ?_
  obtain ⟨a1, a2⟩ := put_amts x hq h3
  simp only [b__law_put, mFun, startR, ess, es, ev, evs, evo, evc, evl, evi, sSeq, sNil, sRet, sExp, sAsg, sOwn, sIf, sFor, sRaise, sAug, sMut, sSet, sFrz, frzR, mVar, mCst, mBin, mUn, mAnd, mOr, mIf, mChn, mNil, mCons, mSeq, mLst, mLen, mOf, mSl, mNo, mPt, mCall, mPri, mBmt, mOix, mOcmp, mISeq, mIBi, bind_ok, bind_exc, bind_bad, toS_ok, toS_exc, toS_bad, nx_ok, ofB_bl, lift_some, lift_none, bindT_nm, bindT_tp, bindTs_nil, bindTs_cons, bop, isi_ii, isi_bi, isi_bb, isi_tt, isi_ll, List.map_cons, List.map_nil, List.length_cons, List.length_nil, List.cons_append, List.nil_append, Nat.sub_self, List.replicate_zero, List.replicate_succ, List.getElem?_cons_succ, List.getElem?_cons_zero, List.set_cons_zero, List.set_cons_succ, Option.bind_some, Option.map_some, if_true, Bool.true_and, Bool.and_true, Bool.and_self, Bool.not_true, Bool.not_false, Bool.false_eq_true, if_false, ite_true, ite_false, reduceCtorEq, n1, n2, beq_self_eq_true, dIx_l, dIx_t, bAdd_int, bSub_int, dNeg_int, dNot_bl, bLt_int, bLe_int, bGt_int, bGe_int, bIs_non, bIsn_non, bIs_bl, bIsn_bl, non_non, non_int, non_str, non_lst, non_exc, non_amt, non_rule, non_trial, items_l, items_t, dSl_l, dOf_1, zip_l, enm_l, bEq_int, bNe_int, fold_amt, fold_rule, fold_trial, ix_amt0, ix_amt1, ix_rule0, ix_rule1, ix_trial0, ix_trial1, bindT_amt, bindT_rule, bindT_trial, List.length_map, big_0, big_1, big_2, big_3, cut_take _ (Nat.le_of_lt hq), cut_drop1 _ hq, a1, a2]
structure SpCall6 (φ : MF) : Prop where
  f : SpFor fun ds => φ (.int 0 :: ds)
  c : SpCross fun ds => φ (.int 1 :: ds)
theorem sp_call6 (T : Tab) (i j k : Nat) (B : TB T) (X : TX T) (hi : SpError (T.f i)) (hj : SpAmountFor (T.f j)) (hk : SpCrossing (T.f k)) : SpCall6 (mFun 8 (ess T (b__law_call i j k))) := by
  have h01 : ((1 : Int) == 0) = false := rfl
  constructor
  · refine for_of hj (fun r as q wanted w d e => ?_) (fun r as q wanted w e => ?_)
    · exact caught_ok (n := 5) (err := i) rfl (by simp only [mFun, startR, ess, es, ev, evs, evo, evc, evl, evi, sSeq, sNil, sRet, sExp, sAsg, sOwn, sIf, sFor, sRaise, sAug, sMut, sSet, sFrz, frzR, mVar, mCst, mBin, mUn, mAnd, mOr, mIf, mChn, mNil, mCons, mSeq, mLst, mLen, mOf, mSl, mNo, mPt, mCall, mPri, mBmt, mOix, mOcmp, mISeq, mIBi, bind_ok, bind_exc, bind_bad, toS_ok, toS_exc, toS_bad, nx_ok, ofB_bl, lift_some, lift_none, bindT_nm, bindT_tp, bindTs_nil, bindTs_cons, bop, isi_ii, isi_bi, isi_bb, isi_tt, isi_ll, List.map_cons, List.map_nil, List.length_cons, List.length_nil, List.cons_append, List.nil_append, Nat.sub_self, List.replicate_zero, List.replicate_succ, List.getElem?_cons_succ, List.getElem?_cons_zero, List.set_cons_zero, List.set_cons_succ, Option.bind_some, Option.map_some, if_true, Bool.true_and, Bool.and_true, Bool.and_self, Bool.not_true, Bool.not_false, Bool.false_eq_true, if_false, ite_true, ite_false, reduceCtorEq, n1, n2, beq_self_eq_true, dIx_l, dIx_t, bAdd_int, bSub_int, dNeg_int, dNot_bl, bLt_int, bLe_int, bGt_int, bGe_int, bIs_non, bIsn_non, bIs_bl, bIsn_bl, non_non, non_int, non_str, non_lst, non_exc, non_amt, non_rule, non_trial, items_l, items_t, dSl_l, dOf_1, zip_l, enm_l, bEq_int, bNe_int, fold_amt, fold_rule, fold_trial, ix_amt0, ix_amt1, ix_rule0, ix_rule1, ix_trial0, ix_trial1, bindT_amt, bindT_rule, bindT_trial, List.length_map, big_0, big_1, big_2, big_3, e])
    · exact caught_exc (n := 5) (err := i) (k := 5) X hi (by omega) rfl (by simp only [mFun, startR, ess, es, ev, evs, evo, evc, evl, evi, sSeq, sNil, sRet, sExp, sAsg, sOwn, sIf, sFor, sRaise, sAug, sMut, sSet, sFrz, frzR, mVar, mCst, mBin, mUn, mAnd, mOr, mIf, mChn, mNil, mCons, mSeq, mLst, mLen, mOf, mSl, mNo, mPt, mCall, mPri, mBmt, mOix, mOcmp, mISeq, mIBi, bind_ok, bind_exc, bind_bad, toS_ok, toS_exc, toS_bad, nx_ok, ofB_bl, lift_some, lift_none, bindT_nm, bindT_tp, bindTs_nil, bindTs_cons, bop, isi_ii, isi_bi, isi_bb, isi_tt, isi_ll, List.map_cons, List.map_nil, List.length_cons, List.length_nil, List.cons_append, List.nil_append, Nat.sub_self, List.replicate_zero, List.replicate_succ, List.getElem?_cons_succ, List.getElem?_cons_zero, List.set_cons_zero, List.set_cons_succ, Option.bind_some, Option.map_some, if_true, Bool.true_and, Bool.and_true, Bool.and_self, Bool.not_true, Bool.not_false, Bool.false_eq_true, if_false, ite_true, ite_false, reduceCtorEq, n1, n2, beq_self_eq_true, dIx_l, dIx_t, bAdd_int, bSub_int, dNeg_int, dNot_bl, bLt_int, bLe_int, bGt_int, bGe_int, bIs_non, bIsn_non, bIs_bl, bIsn_bl, non_non, non_int, non_str, non_lst, non_exc, non_amt, non_rule, non_trial, items_l, items_t, dSl_l, dOf_1, zip_l, enm_l, bEq_int, bNe_int, fold_amt, fold_rule, fold_trial, ix_amt0, ix_amt1, ix_rule0, ix_rule1, ix_trial0, ix_trial1, bindT_amt, bindT_rule, bindT_trial, List.length_map, big_0, big_1, big_2, big_3, e])
  · refine cross_of hk (fun r s as q w d e => ?_) (fun r s as q w e => ?_)
    · exact caught_ok (n := 5) (err := i) rfl (by simp only [mFun, startR, ess, es, ev, evs, evo, evc, evl, evi, sSeq, sNil, sRet, sExp, sAsg, sOwn, sIf, sFor, sRaise, sAug, sMut, sSet, sFrz, frzR, mVar, mCst, mBin, mUn, mAnd, mOr, mIf, mChn, mNil, mCons, mSeq, mLst, mLen, mOf, mSl, mNo, mPt, mCall, mPri, mBmt, mOix, mOcmp, mISeq, mIBi, bind_ok, bind_exc, bind_bad, toS_ok, toS_exc, toS_bad, nx_ok, ofB_bl, lift_some, lift_none, bindT_nm, bindT_tp, bindTs_nil, bindTs_cons, bop, isi_ii, isi_bi, isi_bb, isi_tt, isi_ll, List.map_cons, List.map_nil, List.length_cons, List.length_nil, List.cons_append, List.nil_append, Nat.sub_self, List.replicate_zero, List.replicate_succ, List.getElem?_cons_succ, List.getElem?_cons_zero, List.set_cons_zero, List.set_cons_succ, Option.bind_some, Option.map_some, if_true, Bool.true_and, Bool.and_true, Bool.and_self, Bool.not_true, Bool.not_false, Bool.false_eq_true, if_false, ite_true, ite_false, reduceCtorEq, n1, n2, beq_self_eq_true, dIx_l, dIx_t, bAdd_int, bSub_int, dNeg_int, dNot_bl, bLt_int, bLe_int, bGt_int, bGe_int, bIs_non, bIsn_non, bIs_bl, bIsn_bl, non_non, non_int, non_str, non_lst, non_exc, non_amt, non_rule, non_trial, items_l, items_t, dSl_l, dOf_1, zip_l, enm_l, bEq_int, bNe_int, fold_amt, fold_rule, fold_trial, ix_amt0, ix_amt1, ix_rule0, ix_rule1, ix_trial0, ix_trial1, bindT_amt, bindT_rule, bindT_trial, List.length_map, big_0, big_1, big_2, big_3, h01, e])
    · exact caught_exc (n := 5) (err := i) (k := 5) X hi (by omega) rfl (by simp only [mFun, startR, ess, es, ev, evs, evo, evc, evl, evi, sSeq, sNil, sRet, sExp, sAsg, sOwn, sIf, sFor, sRaise, sAug, sMut, sSet, sFrz, frzR, mVar, mCst, mBin, mUn, mAnd, mOr, mIf, mChn, mNil, mCons, mSeq, mLst, mLen, mOf, mSl, mNo, mPt, mCall, mPri, mBmt, mOix, mOcmp, mISeq, mIBi, bind_ok, bind_exc, bind_bad, toS_ok, toS_exc, toS_bad, nx_ok, ofB_bl, lift_some, lift_none, bindT_nm, bindT_tp, bindTs_nil, bindTs_cons, bop, isi_ii, isi_bi, isi_bb, isi_tt, isi_ll, List.map_cons, List.map_nil, List.length_cons, List.length_nil, List.cons_append, List.nil_append, Nat.sub_self, List.replicate_zero, List.replicate_succ, List.getElem?_cons_succ, List.getElem?_cons_zero, List.set_cons_zero, List.set_cons_succ, Option.bind_some, Option.map_some, if_true, Bool.true_and, Bool.and_true, Bool.and_self, Bool.not_true, Bool.not_false, Bool.false_eq_true, if_false, ite_true, ite_false, reduceCtorEq, n1, n2, beq_self_eq_true, dIx_l, dIx_t, bAdd_int, bSub_int, dNeg_int, dNot_bl, bLt_int, bLe_int, bGt_int, bGe_int, bIs_non, bIsn_non, bIs_bl, bIsn_bl, non_non, non_int, non_str, non_lst, non_exc, non_amt, non_rule, non_trial, items_l, items_t, dSl_l, dOf_1, zip_l, enm_l, bEq_int, bNe_int, fold_amt, fold_rule, fold_trial, ix_amt0, ix_amt1, ix_rule0, ix_rule1, ix_trial0, ix_trial1, bindT_amt, bindT_rule, bindT_trial, List.length_map, big_0, big_1, big_2, big_3, h01, e])
def SpOrderedLaw (φ : MF) : Prop := ∀ r as (n : Nat) w, DW [] w → RuleB 4 r → Oks 4 as → as.length = n → r.2.length = n → n ≤ 3 → ∃ w', φ [.drw, ruleD r, amts as, .int n] w = .ok (.bl true) w'
theorem lrg_n {n : Nat} (h : n ≤ 1000) : dLrg (.int (n : Int)) = some ((List.range n).map fun k : Nat => D.int (k : Int)) := by
  have h1 : (0 : Int) ≤ (n : Int) := by omega
  have h2 : (n : Int) ≤ (big : Int) := by
    have : big = 100000 := rfl
    omega
  rw [← iota0]
  show (if (decide (0 ≤ (n : Int)) && decide ((n : Int) ≤ big)) = true then some (iota 0 (n : Int).toNat) else none) = _
  rw [decide_eq_true h1, decide_eq_true h2]
  rfl
theorem sp_ordered_law (T : Tab) (i j k l m p s : Nat) (B : TB T) (h_faster : SpFaster (T.f i)) (h_true : SpTrue (T.f j)) (h_less : SpLess (T.f k)) (h_law_rate : SpRateOf (T.f l)) (h_amount : SpAmount (T.f m)) (h_ord : SpOrdered (T.f p)) (h_draw : SpDraw (T.f s)) : SpOrderedLaw (mFun 12 (ess T (b__law_ordered i j k l m p s))) := by
  intro r as n w hw hr ha hla hlr hn3
  have hR : RuleB 2000 r := hr.mono (by omega)
  obtain ⟨c0, w1, e1, l1, d1⟩ := h_draw [] 6 w hw (by omega) (by omega)
  obtain ⟨cs, w2, e2, lcs, hcs, d2⟩ := ev_choices (T := T) (r := [.dat .drw, .dat (ruleD r), .dat (amts as), .dat (.int n), .emp, .emp, .emp, .emp, .emp, .emp, .emp, .emp]) (w := w) (a := .call s (.cons (.var 0) (.cons (.cst (.int 6)) .nil))) (m := c0) (d := 0) (s := 3) (z := 5) (y := 6) h_amount d1 rfl rfl (by omega) (by omega) (by omega) (by omega) (by simp only [mFun, startR, ess, es, ev, evs, evo, evc, evl, evi, sSeq, sNil, sRet, sExp, sAsg, sOwn, sIf, sFor, sRaise, sAug, sMut, sSet, sFrz, frzR, mVar, mCst, mBin, mUn, mAnd, mOr, mIf, mChn, mNil, mCons, mSeq, mLst, mLen, mOf, mSl, mNo, mPt, mCall, mPri, mBmt, mOix, mOcmp, mISeq, mIBi, bind_ok, bind_exc, bind_bad, toS_ok, toS_exc, toS_bad, nx_ok, ofB_bl, lift_some, lift_none, bindT_nm, bindT_tp, bindTs_nil, bindTs_cons, bop, isi_ii, isi_bi, isi_bb, isi_tt, isi_ll, List.map_cons, List.map_nil, List.length_cons, List.length_nil, List.cons_append, List.nil_append, Nat.sub_self, List.replicate_zero, List.replicate_succ, List.getElem?_cons_succ, List.getElem?_cons_zero, List.set_cons_zero, List.set_cons_succ, Option.bind_some, Option.map_some, if_true, Bool.true_and, Bool.and_true, Bool.and_self, Bool.not_true, Bool.not_false, Bool.false_eq_true, if_false, ite_true, ite_false, reduceCtorEq, n1, n2, beq_self_eq_true, dIx_l, dIx_t, bAdd_int, bSub_int, dNeg_int, dNot_bl, bLt_int, bLe_int, bGt_int, bGe_int, bIs_non, bIsn_non, bIs_bl, bIsn_bl, non_non, non_int, non_str, non_lst, non_exc, non_amt, non_rule, non_trial, items_l, items_t, dSl_l, dOf_1, zip_l, enm_l, bEq_int, bNe_int, fold_amt, fold_rule, fold_trial, ix_amt0, ix_amt1, ix_rule0, ix_rule1, ix_trial0, ix_trial1, bindT_amt, bindT_rule, bindT_trial, List.length_map, big_0, big_1, big_2, big_3, e1]) (by omega)
  have hC : ∀ c ∈ cs, Oks 500 c ∧ c.length = r.2.length := fun c hc => ⟨(hcs c hc).2.mono (by omega), by rw [(hcs c hc).1, hlr]⟩
  have am : Ams (cs.map (rateQ r)) := fun x m => by
    obtain ⟨c, hcm, rfl⟩ := List.mem_map.1 m
    exact rateQ_am hr.f.am (hC c hcm).1.am
  obtain ⟨fa, w3, e3, lfa, hfa, d3⟩ := ev_amounts (T := T) (r := [.dat .drw, .dat (ruleD r), .dat (amts as), .dat (.int n), .dat (choD cs), .dat (.int 0), .emp, .dat (amts (cs.map (rateQ r))), .emp, .own ((List.range cs.length).map fun k => D.int (dueN (cs.map (rateQ r)) k : Nat)), .dat (natsD (ordQ (cs.map (rateQ r)))), .emp]) (d := 0) (s := 3) (z := 5) h_amount d2 rfl rfl (by omega) (by omega)
  clear e3 lfa hfa d3 fa
  suffices hs : ∃ w3, Wp T (b__law_ordered i j k l m p s) (startR 12 [.drw, ruleD r, amts as, .int n]) w (· = .ret (.bl true) w3) by
    obtain ⟨w3, hs⟩ := hs
    exact ⟨w3, fun_wp hs⟩
  suffices hs : Wp T (b__law_ordered i j k l m p s) (startR 12 [.drw, ruleD r, amts as, .int n]) w (fun x => ∃ w3, x = .ret (.bl true) w3) from hs
  rw [b__law_ordered]
  refine Wp.step (asg_ok e2 (by simp only [mFun, startR, ess, es, ev, evs, evo, evc, evl, evi, sSeq, sNil, sRet, sExp, sAsg, sOwn, sIf, sFor, sRaise, sAug, sMut, sSet, sFrz, frzR, mVar, mCst, mBin, mUn, mAnd, mOr, mIf, mChn, mNil, mCons, mSeq, mLst, mLen, mOf, mSl, mNo, mPt, mCall, mPri, mBmt, mOix, mOcmp, mISeq, mIBi, bind_ok, bind_exc, bind_bad, toS_ok, toS_exc, toS_bad, nx_ok, ofB_bl, lift_some, lift_none, bindT_nm, bindT_tp, bindTs_nil, bindTs_cons, bop, isi_ii, isi_bi, isi_bb, isi_tt, isi_ll, List.map_cons, List.map_nil, List.length_cons, List.length_nil, List.cons_append, List.nil_append, Nat.sub_self, List.replicate_zero, List.replicate_succ, List.getElem?_cons_succ, List.getElem?_cons_zero, List.set_cons_zero, List.set_cons_succ, Option.bind_some, Option.map_some, if_true, Bool.true_and, Bool.and_true, Bool.and_self, Bool.not_true, Bool.not_false, Bool.false_eq_true, if_false, ite_true, ite_false, reduceCtorEq, n1, n2, beq_self_eq_true, dIx_l, dIx_t, bAdd_int, bSub_int, dNeg_int, dNot_bl, bLt_int, bLe_int, bGt_int, bGe_int, bIs_non, bIsn_non, bIs_bl, bIsn_bl, non_non, non_int, non_str, non_lst, non_exc, non_amt, non_rule, non_trial, items_l, items_t, dSl_l, dOf_1, zip_l, enm_l, bEq_int, bNe_int, fold_amt, fold_rule, fold_trial, ix_amt0, ix_amt1, ix_rule0, ix_rule1, ix_trial0, ix_trial1, bindT_amt, bindT_rule, bindT_trial, List.length_map, big_0, big_1, big_2, big_3]; rfl)) ?_
  have hbig : cs.length ≤ big := by
    have : big = 100000 := rfl
    omega
  refine Wp.step (r' := [.dat .drw, .dat (ruleD r), .dat (amts as), .dat (.int n), .dat (choD cs), .emp, .emp, .dat (amts (cs.map (rateQ r))), .emp, .emp, .emp, .emp]) (w' := w2) ?_ ?_
  · simp only [mFun, startR, ess, es, ev, evs, evo, evc, evl, evi, sSeq, sNil, sRet, sExp, sAsg, sOwn, sIf, sFor, sRaise, sAug, sMut, sSet, sFrz, frzR, mVar, mCst, mBin, mUn, mAnd, mOr, mIf, mChn, mNil, mCons, mSeq, mLst, mLen, mOf, mSl, mNo, mPt, mCall, mPri, mBmt, mOix, mOcmp, mISeq, mIBi, bind_ok, bind_exc, bind_bad, toS_ok, toS_exc, toS_bad, nx_ok, ofB_bl, lift_some, lift_none, bindT_nm, bindT_tp, bindTs_nil, bindTs_cons, bop, isi_ii, isi_bi, isi_bb, isi_tt, isi_ll, List.map_cons, List.map_nil, List.length_cons, List.length_nil, List.cons_append, List.nil_append, Nat.sub_self, List.replicate_zero, List.replicate_succ, List.getElem?_cons_succ, List.getElem?_cons_zero, List.set_cons_zero, List.set_cons_succ, Option.bind_some, Option.map_some, if_true, Bool.true_and, Bool.and_true, Bool.and_self, Bool.not_true, Bool.not_false, Bool.false_eq_true, if_false, ite_true, ite_false, reduceCtorEq, n1, n2, beq_self_eq_true, dIx_l, dIx_t, bAdd_int, bSub_int, dNeg_int, dNot_bl, bLt_int, bLe_int, bGt_int, bGe_int, bIs_non, bIsn_non, bIs_bl, bIsn_bl, non_non, non_int, non_str, non_lst, non_exc, non_amt, non_rule, non_trial, items_l, items_t, dSl_l, dOf_1, zip_l, enm_l, bEq_int, bNe_int, fold_amt, fold_rule, fold_trial, ix_amt0, ix_amt1, ix_rule0, ix_rule1, ix_trial0, ix_trial1, bindT_amt, bindT_rule, bindT_trial, List.length_map, big_0, big_1, big_2, big_3, mComp, wipeR, hbig]
    rw [comp_map (g := fun c => amt (rateQ r c))]
    · have hmm : (cs.map fun c => amt (rateQ r c)) = (cs.map (rateQ r)).map amt := by
        rw [List.map_map]
        rfl
      simp only [mFun, startR, ess, es, ev, evs, evo, evc, evl, evi, sSeq, sNil, sRet, sExp, sAsg, sOwn, sIf, sFor, sRaise, sAug, sMut, sSet, sFrz, frzR, mVar, mCst, mBin, mUn, mAnd, mOr, mIf, mChn, mNil, mCons, mSeq, mLst, mLen, mOf, mSl, mNo, mPt, mCall, mPri, mBmt, mOix, mOcmp, mISeq, mIBi, bind_ok, bind_exc, bind_bad, toS_ok, toS_exc, toS_bad, nx_ok, ofB_bl, lift_some, lift_none, bindT_nm, bindT_tp, bindTs_nil, bindTs_cons, bop, isi_ii, isi_bi, isi_bb, isi_tt, isi_ll, List.map_cons, List.map_nil, List.length_cons, List.length_nil, List.cons_append, List.nil_append, Nat.sub_self, List.replicate_zero, List.replicate_succ, List.getElem?_cons_succ, List.getElem?_cons_zero, List.set_cons_zero, List.set_cons_succ, Option.bind_some, Option.map_some, if_true, Bool.true_and, Bool.and_true, Bool.and_self, Bool.not_true, Bool.not_false, Bool.false_eq_true, if_false, ite_true, ite_false, reduceCtorEq, n1, n2, beq_self_eq_true, dIx_l, dIx_t, bAdd_int, bSub_int, dNeg_int, dNot_bl, bLt_int, bLe_int, bGt_int, bGe_int, bIs_non, bIsn_non, bIs_bl, bIsn_bl, non_non, non_int, non_str, non_lst, non_exc, non_amt, non_rule, non_trial, items_l, items_t, dSl_l, dOf_1, zip_l, enm_l, bEq_int, bNe_int, fold_amt, fold_rule, fold_trial, ix_amt0, ix_amt1, ix_rule0, ix_rule1, ix_trial0, ix_trial1, bindT_amt, bindT_rule, bindT_trial, List.length_map, big_0, big_1, big_2, big_3, hmm]
    · intro c hc
      have e := h_law_rate r c 4 4 w2 hr.f hr.p (hcs c hc).2 (by omega) (by omega)
      simp only [compF, mFun, startR, ess, es, ev, evs, evo, evc, evl, evi, sSeq, sNil, sRet, sExp, sAsg, sOwn, sIf, sFor, sRaise, sAug, sMut, sSet, sFrz, frzR, mVar, mCst, mBin, mUn, mAnd, mOr, mIf, mChn, mNil, mCons, mSeq, mLst, mLen, mOf, mSl, mNo, mPt, mCall, mPri, mBmt, mOix, mOcmp, mISeq, mIBi, bind_ok, bind_exc, bind_bad, toS_ok, toS_exc, toS_bad, nx_ok, ofB_bl, lift_some, lift_none, bindT_nm, bindT_tp, bindTs_nil, bindTs_cons, bop, isi_ii, isi_bi, isi_bb, isi_tt, isi_ll, List.map_cons, List.map_nil, List.length_cons, List.length_nil, List.cons_append, List.nil_append, Nat.sub_self, List.replicate_zero, List.replicate_succ, List.getElem?_cons_succ, List.getElem?_cons_zero, List.set_cons_zero, List.set_cons_succ, Option.bind_some, Option.map_some, if_true, Bool.true_and, Bool.and_true, Bool.and_self, Bool.not_true, Bool.not_false, Bool.false_eq_true, if_false, ite_true, ite_false, reduceCtorEq, n1, n2, beq_self_eq_true, dIx_l, dIx_t, bAdd_int, bSub_int, dNeg_int, dNot_bl, bLt_int, bLe_int, bGt_int, bGe_int, bIs_non, bIsn_non, bIs_bl, bIsn_bl, non_non, non_int, non_str, non_lst, non_exc, non_amt, non_rule, non_trial, items_l, items_t, dSl_l, dOf_1, zip_l, enm_l, bEq_int, bNe_int, fold_amt, fold_rule, fold_trial, ix_amt0, ix_amt1, ix_rule0, ix_rule1, ix_trial0, ix_trial1, bindT_amt, bindT_rule, bindT_trial, List.length_map, big_0, big_1, big_2, big_3, e]
  refine Wp.step (by simp only [mFun, startR, ess, es, ev, evs, evo, evc, evl, evi, sSeq, sNil, sRet, sExp, sAsg, sOwn, sIf, sFor, sRaise, sAug, sMut, sSet, sFrz, frzR, mVar, mCst, mBin, mUn, mAnd, mOr, mIf, mChn, mNil, mCons, mSeq, mLst, mLen, mOf, mSl, mNo, mPt, mCall, mPri, mBmt, mOix, mOcmp, mISeq, mIBi, bind_ok, bind_exc, bind_bad, toS_ok, toS_exc, toS_bad, nx_ok, ofB_bl, lift_some, lift_none, bindT_nm, bindT_tp, bindTs_nil, bindTs_cons, bop, isi_ii, isi_bi, isi_bb, isi_tt, isi_ll, List.map_cons, List.map_nil, List.length_cons, List.length_nil, List.cons_append, List.nil_append, Nat.sub_self, List.replicate_zero, List.replicate_succ, List.getElem?_cons_succ, List.getElem?_cons_zero, List.set_cons_zero, List.set_cons_succ, Option.bind_some, Option.map_some, if_true, Bool.true_and, Bool.and_true, Bool.and_self, Bool.not_true, Bool.not_false, Bool.false_eq_true, if_false, ite_true, ite_false, reduceCtorEq, n1, n2, beq_self_eq_true, dIx_l, dIx_t, bAdd_int, bSub_int, dNeg_int, dNot_bl, bLt_int, bLe_int, bGt_int, bGe_int, bIs_non, bIsn_non, bIs_bl, bIsn_bl, non_non, non_int, non_str, non_lst, non_exc, non_amt, non_rule, non_trial, items_l, items_t, dSl_l, dOf_1, zip_l, enm_l, bEq_int, bNe_int, fold_amt, fold_rule, fold_trial, ix_amt0, ix_amt1, ix_rule0, ix_rule1, ix_trial0, ix_trial1, bindT_amt, bindT_rule, bindT_trial, List.length_map, big_0, big_1, big_2, big_3]; rfl) ?_
  have gd : ∀ m, m < cs.length → (cs.map (rateQ r)).getD m default = rateQ r (cs.getD m default) := fun m hm => by simp [List.getD, hm]
  have rlen : (cs.map (rateQ r)).length = cs.length := by simp
  refine Wp.forN (enc := fun k : Nat => D.int (k : Int)) (n := cs.length) (w' := w2) (fun m r' w' => ∃ s5, r' = [.dat .drw, .dat (ruleD r), .dat (amts as), .dat (.int n), .dat (choD cs), s5, .emp, .dat (amts (cs.map (rateQ r))), .emp, .own ((List.range m).map fun k => D.int (dueN (cs.map (rateQ r)) k : Nat)), .emp, .emp] ∧ w' = w2) ?_ ?_ ?_ ?_
  · simp only [mFun, startR, ess, es, ev, evs, evo, evc, evl, evi, sSeq, sNil, sRet, sExp, sAsg, sOwn, sIf, sFor, sRaise, sAug, sMut, sSet, sFrz, frzR, mVar, mCst, mBin, mUn, mAnd, mOr, mIf, mChn, mNil, mCons, mSeq, mLst, mLen, mOf, mSl, mNo, mPt, mCall, mPri, mBmt, mOix, mOcmp, mISeq, mIBi, bind_ok, bind_exc, bind_bad, toS_ok, toS_exc, toS_bad, nx_ok, ofB_bl, lift_some, lift_none, bindT_nm, bindT_tp, bindTs_nil, bindTs_cons, bop, isi_ii, isi_bi, isi_bb, isi_tt, isi_ll, List.map_cons, List.map_nil, List.length_cons, List.length_nil, List.cons_append, List.nil_append, Nat.sub_self, List.replicate_zero, List.replicate_succ, List.getElem?_cons_succ, List.getElem?_cons_zero, List.set_cons_zero, List.set_cons_succ, Option.bind_some, Option.map_some, if_true, Bool.true_and, Bool.and_true, Bool.and_self, Bool.not_true, Bool.not_false, Bool.false_eq_true, if_false, ite_true, ite_false, reduceCtorEq, n1, n2, beq_self_eq_true, dIx_l, dIx_t, bAdd_int, bSub_int, dNeg_int, dNot_bl, bLt_int, bLe_int, bGt_int, bGe_int, bIs_non, bIsn_non, bIs_bl, bIsn_bl, non_non, non_int, non_str, non_lst, non_exc, non_amt, non_rule, non_trial, items_l, items_t, dSl_l, dOf_1, zip_l, enm_l, bEq_int, bNe_int, fold_amt, fold_rule, fold_trial, ix_amt0, ix_amt1, ix_rule0, ix_rule1, ix_trial0, ix_trial1, bindT_amt, bindT_rule, bindT_trial, List.length_map, big_0, big_1, big_2, big_3, B.p, p0, len_lst, rng_n (show cs.length ≤ 1000000 by omega), iota0]
  · exact ⟨_, rfl, rfl⟩
  · rintro m r' w' hm ⟨s5, rfl, rfl⟩
    have hio : (iota 0 cs.length).length ≤ big := by
      rw [iota_length]
      exact hbig
    have hap : fApp ((List.range m).map fun k => D.int (dueN (cs.map (rateQ r)) k : Nat)) (.int (dueN (cs.map (rateQ r)) m : Nat)) = some ((List.range (m + 1)).map fun k => D.int (dueN (cs.map (rateQ r)) k : Nat)) := by
      unfold fApp
      rw [if_pos (by simp; have : big = 100000 := rfl; omega), List.range_succ, List.map_append]
      rfl
    refine ⟨_, [.dat .drw, .dat (ruleD r), .dat (amts as), .dat (.int n), .dat (choD cs), .dat (.int m), .emp, .dat (amts (cs.map (rateQ r))), .emp, .own ((List.range (m + 1)).map fun k => D.int (dueN (cs.map (rateQ r)) k : Nat)), .emp, .emp], w', by simp only [mFun, startR, ess, es, ev, evs, evo, evc, evl, evi, sSeq, sNil, sRet, sExp, sAsg, sOwn, sIf, sFor, sRaise, sAug, sMut, sSet, sFrz, frzR, mVar, mCst, mBin, mUn, mAnd, mOr, mIf, mChn, mNil, mCons, mSeq, mLst, mLen, mOf, mSl, mNo, mPt, mCall, mPri, mBmt, mOix, mOcmp, mISeq, mIBi, bind_ok, bind_exc, bind_bad, toS_ok, toS_exc, toS_bad, nx_ok, ofB_bl, lift_some, lift_none, bindT_nm, bindT_tp, bindTs_nil, bindTs_cons, bop, isi_ii, isi_bi, isi_bb, isi_tt, isi_ll, List.map_cons, List.map_nil, List.length_cons, List.length_nil, List.cons_append, List.nil_append, Nat.sub_self, List.replicate_zero, List.replicate_succ, List.getElem?_cons_succ, List.getElem?_cons_zero, List.set_cons_zero, List.set_cons_succ, Option.bind_some, Option.map_some, if_true, Bool.true_and, Bool.and_true, Bool.and_self, Bool.not_true, Bool.not_false, Bool.false_eq_true, if_false, ite_true, ite_false, reduceCtorEq, n1, n2, beq_self_eq_true, dIx_l, dIx_t, bAdd_int, bSub_int, dNeg_int, dNot_bl, bLt_int, bLe_int, bGt_int, bGe_int, bIs_non, bIsn_non, bIs_bl, bIsn_bl, non_non, non_int, non_str, non_lst, non_exc, non_amt, non_rule, non_trial, items_l, items_t, dSl_l, dOf_1, zip_l, enm_l, bEq_int, bNe_int, fold_amt, fold_rule, fold_trial, ix_amt0, ix_amt1, ix_rule0, ix_rule1, ix_trial0, ix_trial1, bindT_amt, bindT_rule, bindT_trial, List.length_map, big_0, big_1, big_2, big_3]; rfl, ?_, _, rfl, rfl⟩
    simp only [mFun, startR, ess, es, ev, evs, evo, evc, evl, evi, sSeq, sNil, sRet, sExp, sAsg, sOwn, sIf, sFor, sRaise, sAug, sMut, sSet, sFrz, frzR, mVar, mCst, mBin, mUn, mAnd, mOr, mIf, mChn, mNil, mCons, mSeq, mLst, mLen, mOf, mSl, mNo, mPt, mCall, mPri, mBmt, mOix, mOcmp, mISeq, mIBi, bind_ok, bind_exc, bind_bad, toS_ok, toS_exc, toS_bad, nx_ok, ofB_bl, lift_some, lift_none, bindT_nm, bindT_tp, bindTs_nil, bindTs_cons, bop, isi_ii, isi_bi, isi_bb, isi_tt, isi_ll, List.map_cons, List.map_nil, List.length_cons, List.length_nil, List.cons_append, List.nil_append, Nat.sub_self, List.replicate_zero, List.replicate_succ, List.getElem?_cons_succ, List.getElem?_cons_zero, List.set_cons_zero, List.set_cons_succ, Option.bind_some, Option.map_some, if_true, Bool.true_and, Bool.and_true, Bool.and_self, Bool.not_true, Bool.not_false, Bool.false_eq_true, if_false, ite_true, ite_false, reduceCtorEq, n1, n2, beq_self_eq_true, dIx_l, dIx_t, bAdd_int, bSub_int, dNeg_int, dNot_bl, bLt_int, bLe_int, bGt_int, bGe_int, bIs_non, bIsn_non, bIs_bl, bIsn_bl, non_non, non_int, non_str, non_lst, non_exc, non_amt, non_rule, non_trial, items_l, items_t, dSl_l, dOf_1, zip_l, enm_l, bEq_int, bNe_int, fold_amt, fold_rule, fold_trial, ix_amt0, ix_amt1, ix_rule0, ix_rule1, ix_trial0, ix_trial1, bindT_amt, bindT_rule, bindT_trial, List.length_map, big_0, big_1, big_2, big_3, B.p, p0, len_lst, rng_n (show cs.length ≤ 1000000 by omega), mComp, wipeR, hio]
    rw [iota0, comp_filter (p := fun j => ltB (cs.map (rateQ r)) j m) (g := fun k : Nat => D.int (k : Int))]
    · have hd : ((List.range cs.length).filter fun j => ltB (cs.map (rateQ r)) j m).length = dueN (cs.map (rateQ r)) m := by
        unfold dueN
        rw [rlen]
      simp only [mFun, startR, ess, es, ev, evs, evo, evc, evl, evi, sSeq, sNil, sRet, sExp, sAsg, sOwn, sIf, sFor, sRaise, sAug, sMut, sSet, sFrz, frzR, mVar, mCst, mBin, mUn, mAnd, mOr, mIf, mChn, mNil, mCons, mSeq, mLst, mLen, mOf, mSl, mNo, mPt, mCall, mPri, mBmt, mOix, mOcmp, mISeq, mIBi, bind_ok, bind_exc, bind_bad, toS_ok, toS_exc, toS_bad, nx_ok, ofB_bl, lift_some, lift_none, bindT_nm, bindT_tp, bindTs_nil, bindTs_cons, bop, isi_ii, isi_bi, isi_bb, isi_tt, isi_ll, List.map_cons, List.map_nil, List.length_cons, List.length_nil, List.cons_append, List.nil_append, Nat.sub_self, List.replicate_zero, List.replicate_succ, List.getElem?_cons_succ, List.getElem?_cons_zero, List.set_cons_zero, List.set_cons_succ, Option.bind_some, Option.map_some, if_true, Bool.true_and, Bool.and_true, Bool.and_self, Bool.not_true, Bool.not_false, Bool.false_eq_true, if_false, ite_true, ite_false, reduceCtorEq, n1, n2, beq_self_eq_true, dIx_l, dIx_t, bAdd_int, bSub_int, dNeg_int, dNot_bl, bLt_int, bLe_int, bGt_int, bGe_int, bIs_non, bIsn_non, bIs_bl, bIsn_bl, non_non, non_int, non_str, non_lst, non_exc, non_amt, non_rule, non_trial, items_l, items_t, dSl_l, dOf_1, zip_l, enm_l, bEq_int, bNe_int, fold_amt, fold_rule, fold_trial, ix_amt0, ix_amt1, ix_rule0, ix_rule1, ix_trial0, ix_trial1, bindT_amt, bindT_rule, bindT_trial, List.length_map, big_0, big_1, big_2, big_3, len_lst, hd, hap]
    · intro x hx
      have hx := List.mem_range.1 hx
      have A1 : atI ((cs.map (rateQ r)).map amt) (x : Int) = some (amt ((cs.map (rateQ r)).getD x default)) := atI_amts (by omega)
      have A2 : atI ((cs.map (rateQ r)).map amt) (m : Int) = some (amt ((cs.map (rateQ r)).getD m default)) := atI_amts (by omega)
      have ox : Ok (4 + (9 * 4 + 4)) ((cs.map (rateQ r)).getD x default) := by
        rw [gd x hx]
        exact rateQ_ok hr.f hr.p (hcs _ (getD_mem hx)).2
      have om : Ok (4 + (9 * 4 + 4)) ((cs.map (rateQ r)).getD m default) := by
        rw [gd m hm]
        exact rateQ_ok hr.f hr.p (hcs _ (getD_mem hm)).2
      have e := h_less _ _ _ _ w' ox om (by omega) (by omega)
      have hI : decide ((x : Int) < (m : Int)) = decide (x < m) := decide_eq_decide.2 (by omega)
      unfold ltB
      generalize (cs.map (rateQ r)).getD x default = u at *
      generalize (cs.map (rateQ r)).getD m default = v at *
      simp only [compF, mFun, startR, ess, es, ev, evs, evo, evc, evl, evi, sSeq, sNil, sRet, sExp, sAsg, sOwn, sIf, sFor, sRaise, sAug, sMut, sSet, sFrz, frzR, mVar, mCst, mBin, mUn, mAnd, mOr, mIf, mChn, mNil, mCons, mSeq, mLst, mLen, mOf, mSl, mNo, mPt, mCall, mPri, mBmt, mOix, mOcmp, mISeq, mIBi, bind_ok, bind_exc, bind_bad, toS_ok, toS_exc, toS_bad, nx_ok, ofB_bl, lift_some, lift_none, bindT_nm, bindT_tp, bindTs_nil, bindTs_cons, bop, isi_ii, isi_bi, isi_bb, isi_tt, isi_ll, List.map_cons, List.map_nil, List.length_cons, List.length_nil, List.cons_append, List.nil_append, Nat.sub_self, List.replicate_zero, List.replicate_succ, List.getElem?_cons_succ, List.getElem?_cons_zero, List.set_cons_zero, List.set_cons_succ, Option.bind_some, Option.map_some, if_true, Bool.true_and, Bool.and_true, Bool.and_self, Bool.not_true, Bool.not_false, Bool.false_eq_true, if_false, ite_true, ite_false, reduceCtorEq, n1, n2, beq_self_eq_true, dIx_l, dIx_t, bAdd_int, bSub_int, dNeg_int, dNot_bl, bLt_int, bLe_int, bGt_int, bGe_int, bIs_non, bIsn_non, bIs_bl, bIsn_bl, non_non, non_int, non_str, non_lst, non_exc, non_amt, non_rule, non_trial, items_l, items_t, dSl_l, dOf_1, zip_l, enm_l, bEq_int, bNe_int, fold_amt, fold_rule, fold_trial, ix_amt0, ix_amt1, ix_rule0, ix_rule1, ix_trial0, ix_trial1, bindT_amt, bindT_rule, bindT_trial, List.length_map, big_0, big_1, big_2, big_3, A1, A2, e, bEq_amt, hI]
      cases ltQ u v <;> cases decide (u = v) <;> cases decide (x < m) <;> simp only [mFun, startR, ess, es, ev, evs, evo, evc, evl, evi, sSeq, sNil, sRet, sExp, sAsg, sOwn, sIf, sFor, sRaise, sAug, sMut, sSet, sFrz, frzR, mVar, mCst, mBin, mUn, mAnd, mOr, mIf, mChn, mNil, mCons, mSeq, mLst, mLen, mOf, mSl, mNo, mPt, mCall, mPri, mBmt, mOix, mOcmp, mISeq, mIBi, bind_ok, bind_exc, bind_bad, toS_ok, toS_exc, toS_bad, nx_ok, ofB_bl, lift_some, lift_none, bindT_nm, bindT_tp, bindTs_nil, bindTs_cons, bop, isi_ii, isi_bi, isi_bb, isi_tt, isi_ll, List.map_cons, List.map_nil, List.length_cons, List.length_nil, List.cons_append, List.nil_append, Nat.sub_self, List.replicate_zero, List.replicate_succ, List.getElem?_cons_succ, List.getElem?_cons_zero, List.set_cons_zero, List.set_cons_succ, Option.bind_some, Option.map_some, if_true, Bool.true_and, Bool.and_true, Bool.and_self, Bool.not_true, Bool.not_false, Bool.false_eq_true, if_false, ite_true, ite_false, reduceCtorEq, n1, n2, beq_self_eq_true, dIx_l, dIx_t, bAdd_int, bSub_int, dNeg_int, dNot_bl, bLt_int, bLe_int, bGt_int, bGe_int, bIs_non, bIsn_non, bIs_bl, bIsn_bl, non_non, non_int, non_str, non_lst, non_exc, non_amt, non_rule, non_trial, items_l, items_t, dSl_l, dOf_1, zip_l, enm_l, bEq_int, bNe_int, fold_amt, fold_rule, fold_trial, ix_amt0, ix_amt1, ix_rule0, ix_rule1, ix_trial0, ix_trial1, bindT_amt, bindT_rule, bindT_trial, List.length_map, big_0, big_1, big_2, big_3, Bool.false_or, Bool.true_or, Bool.false_and, Bool.or_false]
  rintro r' w' ⟨s5, rfl, rfl⟩
  have e8 := h_ord r cs w' hR hC (by omega)
  refine Wp.step (by simp only [mFun, startR, ess, es, ev, evs, evo, evc, evl, evi, sSeq, sNil, sRet, sExp, sAsg, sOwn, sIf, sFor, sRaise, sAug, sMut, sSet, sFrz, frzR, mVar, mCst, mBin, mUn, mAnd, mOr, mIf, mChn, mNil, mCons, mSeq, mLst, mLen, mOf, mSl, mNo, mPt, mCall, mPri, mBmt, mOix, mOcmp, mISeq, mIBi, bind_ok, bind_exc, bind_bad, toS_ok, toS_exc, toS_bad, nx_ok, ofB_bl, lift_some, lift_none, bindT_nm, bindT_tp, bindTs_nil, bindTs_cons, bop, isi_ii, isi_bi, isi_bb, isi_tt, isi_ll, List.map_cons, List.map_nil, List.length_cons, List.length_nil, List.cons_append, List.nil_append, Nat.sub_self, List.replicate_zero, List.replicate_succ, List.getElem?_cons_succ, List.getElem?_cons_zero, List.set_cons_zero, List.set_cons_succ, Option.bind_some, Option.map_some, if_true, Bool.true_and, Bool.and_true, Bool.and_self, Bool.not_true, Bool.not_false, Bool.false_eq_true, if_false, ite_true, ite_false, reduceCtorEq, n1, n2, beq_self_eq_true, dIx_l, dIx_t, bAdd_int, bSub_int, dNeg_int, dNot_bl, bLt_int, bLe_int, bGt_int, bGe_int, bIs_non, bIsn_non, bIs_bl, bIsn_bl, non_non, non_int, non_str, non_lst, non_exc, non_amt, non_rule, non_trial, items_l, items_t, dSl_l, dOf_1, zip_l, enm_l, bEq_int, bNe_int, fold_amt, fold_rule, fold_trial, ix_amt0, ix_amt1, ix_rule0, ix_rule1, ix_trial0, ix_trial1, bindT_amt, bindT_rule, bindT_trial, List.length_map, big_0, big_1, big_2, big_3, e8]; rfl) ?_
  have pperm := ordQ_perm am
  have plen := ordQ_length am
  rw [rlen] at plen pperm
  have f4 := dSort_nats pperm
  have hdue := due_all am
  rw [rlen] at hdue
  have psmall : ∀ i ∈ ordQ (cs.map (rateQ r)), i < cs.length := fun i hi => by
    have := ordQ_lt am hi
    rw [rlen] at this
    exact this
  refine Wp.iff0 (w' := w') ?_ ?_
  · have q3 := bNe_nats (List.range cs.length) (List.range cs.length)
    rw [decide_eq_true rfl, Bool.not_true] at q3
    have hpb : (ordQ (cs.map (rateQ r))).length ≤ big := by omega
    simp only [mFun, startR, ess, es, ev, evs, evo, evc, evl, evi, sSeq, sNil, sRet, sExp, sAsg, sOwn, sIf, sFor, sRaise, sAug, sMut, sSet, sFrz, frzR, mVar, mCst, mBin, mUn, mAnd, mOr, mIf, mChn, mNil, mCons, mSeq, mLst, mLen, mOf, mSl, mNo, mPt, mCall, mPri, mBmt, mOix, mOcmp, mISeq, mIBi, bind_ok, bind_exc, bind_bad, toS_ok, toS_exc, toS_bad, nx_ok, ofB_bl, lift_some, lift_none, bindT_nm, bindT_tp, bindTs_nil, bindTs_cons, bop, isi_ii, isi_bi, isi_bb, isi_tt, isi_ll, List.map_cons, List.map_nil, List.length_cons, List.length_nil, List.cons_append, List.nil_append, Nat.sub_self, List.replicate_zero, List.replicate_succ, List.getElem?_cons_succ, List.getElem?_cons_zero, List.set_cons_zero, List.set_cons_succ, Option.bind_some, Option.map_some, if_true, Bool.true_and, Bool.and_true, Bool.and_self, Bool.not_true, Bool.not_false, Bool.false_eq_true, if_false, ite_true, ite_false, reduceCtorEq, n1, n2, beq_self_eq_true, dIx_l, dIx_t, bAdd_int, bSub_int, dNeg_int, dNot_bl, bLt_int, bLe_int, bGt_int, bGe_int, bIs_non, bIsn_non, bIs_bl, bIsn_bl, non_non, non_int, non_str, non_lst, non_exc, non_amt, non_rule, non_trial, items_l, items_t, dSl_l, dOf_1, zip_l, enm_l, bEq_int, bNe_int, fold_amt, fold_rule, fold_trial, ix_amt0, ix_amt1, ix_rule0, ix_rule1, ix_trial0, ix_trial1, bindT_amt, bindT_rule, bindT_trial, List.length_map, big_0, big_1, big_2, big_3, B.p, p0, p7, len_lst, f4, mLrg, lrg_n (show cs.length ≤ 1000 by omega), q3, mComp, wipeR, hpb]
    rw [comp_map (g := fun k : Nat => D.int (dueN (cs.map (rateQ r)) k : Nat))]
    · have hd2 : ((ordQ (cs.map (rateQ r))).map fun k : Nat => D.int (dueN (cs.map (rateQ r)) k : Nat)) = (List.range cs.length).map fun k : Nat => D.int (k : Int) := by
        rw [← hdue, List.map_map]
        rfl
      simp only [mFun, startR, ess, es, ev, evs, evo, evc, evl, evi, sSeq, sNil, sRet, sExp, sAsg, sOwn, sIf, sFor, sRaise, sAug, sMut, sSet, sFrz, frzR, mVar, mCst, mBin, mUn, mAnd, mOr, mIf, mChn, mNil, mCons, mSeq, mLst, mLen, mOf, mSl, mNo, mPt, mCall, mPri, mBmt, mOix, mOcmp, mISeq, mIBi, bind_ok, bind_exc, bind_bad, toS_ok, toS_exc, toS_bad, nx_ok, ofB_bl, lift_some, lift_none, bindT_nm, bindT_tp, bindTs_nil, bindTs_cons, bop, isi_ii, isi_bi, isi_bb, isi_tt, isi_ll, List.map_cons, List.map_nil, List.length_cons, List.length_nil, List.cons_append, List.nil_append, Nat.sub_self, List.replicate_zero, List.replicate_succ, List.getElem?_cons_succ, List.getElem?_cons_zero, List.set_cons_zero, List.set_cons_succ, Option.bind_some, Option.map_some, if_true, Bool.true_and, Bool.and_true, Bool.and_self, Bool.not_true, Bool.not_false, Bool.false_eq_true, if_false, ite_true, ite_false, reduceCtorEq, n1, n2, beq_self_eq_true, dIx_l, dIx_t, bAdd_int, bSub_int, dNeg_int, dNot_bl, bLt_int, bLe_int, bGt_int, bGe_int, bIs_non, bIsn_non, bIs_bl, bIsn_bl, non_non, non_int, non_str, non_lst, non_exc, non_amt, non_rule, non_trial, items_l, items_t, dSl_l, dOf_1, zip_l, enm_l, bEq_int, bNe_int, fold_amt, fold_rule, fold_trial, ix_amt0, ix_amt1, ix_rule0, ix_rule1, ix_trial0, ix_trial1, bindT_amt, bindT_rule, bindT_trial, List.length_map, big_0, big_1, big_2, big_3, hd2, q3]
    · intro x hx
      have hx := psmall x hx
      have A1 : atI ((List.range cs.length).map fun k => D.int (dueN (cs.map (rateQ r)) k : Nat)) (x : Int) = some (.int (dueN (cs.map (rateQ r)) x : Nat)) := by
        rw [atI_nat (by simpa using hx)]
        simp
      simp only [compF, mFun, startR, ess, es, ev, evs, evo, evc, evl, evi, sSeq, sNil, sRet, sExp, sAsg, sOwn, sIf, sFor, sRaise, sAug, sMut, sSet, sFrz, frzR, mVar, mCst, mBin, mUn, mAnd, mOr, mIf, mChn, mNil, mCons, mSeq, mLst, mLen, mOf, mSl, mNo, mPt, mCall, mPri, mBmt, mOix, mOcmp, mISeq, mIBi, bind_ok, bind_exc, bind_bad, toS_ok, toS_exc, toS_bad, nx_ok, ofB_bl, lift_some, lift_none, bindT_nm, bindT_tp, bindTs_nil, bindTs_cons, bop, isi_ii, isi_bi, isi_bb, isi_tt, isi_ll, List.map_cons, List.map_nil, List.length_cons, List.length_nil, List.cons_append, List.nil_append, Nat.sub_self, List.replicate_zero, List.replicate_succ, List.getElem?_cons_succ, List.getElem?_cons_zero, List.set_cons_zero, List.set_cons_succ, Option.bind_some, Option.map_some, if_true, Bool.true_and, Bool.and_true, Bool.and_self, Bool.not_true, Bool.not_false, Bool.false_eq_true, if_false, ite_true, ite_false, reduceCtorEq, n1, n2, beq_self_eq_true, dIx_l, dIx_t, bAdd_int, bSub_int, dNeg_int, dNot_bl, bLt_int, bLe_int, bGt_int, bGe_int, bIs_non, bIsn_non, bIs_bl, bIsn_bl, non_non, non_int, non_str, non_lst, non_exc, non_amt, non_rule, non_trial, items_l, items_t, dSl_l, dOf_1, zip_l, enm_l, bEq_int, bNe_int, fold_amt, fold_rule, fold_trial, ix_amt0, ix_amt1, ix_rule0, ix_rule1, ix_trial0, ix_trial1, bindT_amt, bindT_rule, bindT_trial, List.length_map, big_0, big_1, big_2, big_3, A1]
  obtain ⟨fa, w3, e3, lfa, hfa, d3⟩ := ev_amounts (T := T) (r := [.dat .drw, .dat (ruleD r), .dat (amts as), .dat (.int n), .dat (choD cs), s5, .emp, .dat (amts (cs.map (rateQ r))), .emp, .own ((List.range cs.length).map fun k => D.int (dueN (cs.map (rateQ r)) k : Nat)), .dat (natsD (ordQ (cs.map (rateQ r)))), .emp]) (d := 0) (s := 3) (z := 5) h_amount d2 rfl rfl (by omega) (by omega)
  refine Wp.step (asg_ok e3 (by simp only [mFun, startR, ess, es, ev, evs, evo, evc, evl, evi, sSeq, sNil, sRet, sExp, sAsg, sOwn, sIf, sFor, sRaise, sAug, sMut, sSet, sFrz, frzR, mVar, mCst, mBin, mUn, mAnd, mOr, mIf, mChn, mNil, mCons, mSeq, mLst, mLen, mOf, mSl, mNo, mPt, mCall, mPri, mBmt, mOix, mOcmp, mISeq, mIBi, bind_ok, bind_exc, bind_bad, toS_ok, toS_exc, toS_bad, nx_ok, ofB_bl, lift_some, lift_none, bindT_nm, bindT_tp, bindTs_nil, bindTs_cons, bop, isi_ii, isi_bi, isi_bb, isi_tt, isi_ll, List.map_cons, List.map_nil, List.length_cons, List.length_nil, List.cons_append, List.nil_append, Nat.sub_self, List.replicate_zero, List.replicate_succ, List.getElem?_cons_succ, List.getElem?_cons_zero, List.set_cons_zero, List.set_cons_succ, Option.bind_some, Option.map_some, if_true, Bool.true_and, Bool.and_true, Bool.and_self, Bool.not_true, Bool.not_false, Bool.false_eq_true, if_false, ite_true, ite_false, reduceCtorEq, n1, n2, beq_self_eq_true, dIx_l, dIx_t, bAdd_int, bSub_int, dNeg_int, dNot_bl, bLt_int, bLe_int, bGt_int, bGe_int, bIs_non, bIsn_non, bIs_bl, bIsn_bl, non_non, non_int, non_str, non_lst, non_exc, non_amt, non_rule, non_trial, items_l, items_t, dSl_l, dOf_1, zip_l, enm_l, bEq_int, bNe_int, fold_amt, fold_rule, fold_trial, ix_amt0, ix_amt1, ix_rule0, ix_rule1, ix_trial0, ix_trial1, bindT_amt, bindT_rule, bindT_trial, List.length_map, big_0, big_1, big_2, big_3]; rfl)) ?_
  have g1 := h_faster r as fa w3 hR (ha.mono (by omega)) (hfa.mono (by omega)) (by omega) (by omega)
  have g2 := h_faster r fa fa w3 hR (hfa.mono (by omega)) (hfa.mono (by omega)) (by omega) (by omega)
  rw [ltQ_irr] at g2
  have g3 := h_law_rate r fa 4 4 w3 hr.f hr.p hfa (by omega) (by omega)
  have g4 := h_law_rate r as 4 4 w3 hr.f hr.p ha (by omega) (by omega)
  have g5 := h_less _ _ _ _ w3 (rateQ_ok hr.f hr.p hfa) (rateQ_ok hr.f hr.p ha) (by omega) (by omega)
  have g6 := h_true (ltQ (rateQ r fa) (rateQ r as)) (ltQ (rateQ r fa) (rateQ r as)) w3
  rw [decide_eq_true rfl] at g6
  exact Wp.ret (d := .bl true) (w' := w3) (by simp only [mFun, startR, ess, es, ev, evs, evo, evc, evl, evi, sSeq, sNil, sRet, sExp, sAsg, sOwn, sIf, sFor, sRaise, sAug, sMut, sSet, sFrz, frzR, mVar, mCst, mBin, mUn, mAnd, mOr, mIf, mChn, mNil, mCons, mSeq, mLst, mLen, mOf, mSl, mNo, mPt, mCall, mPri, mBmt, mOix, mOcmp, mISeq, mIBi, bind_ok, bind_exc, bind_bad, toS_ok, toS_exc, toS_bad, nx_ok, ofB_bl, lift_some, lift_none, bindT_nm, bindT_tp, bindTs_nil, bindTs_cons, bop, isi_ii, isi_bi, isi_bb, isi_tt, isi_ll, List.map_cons, List.map_nil, List.length_cons, List.length_nil, List.cons_append, List.nil_append, Nat.sub_self, List.replicate_zero, List.replicate_succ, List.getElem?_cons_succ, List.getElem?_cons_zero, List.set_cons_zero, List.set_cons_succ, Option.bind_some, Option.map_some, if_true, Bool.true_and, Bool.and_true, Bool.and_self, Bool.not_true, Bool.not_false, Bool.false_eq_true, if_false, ite_true, ite_false, reduceCtorEq, n1, n2, beq_self_eq_true, dIx_l, dIx_t, bAdd_int, bSub_int, dNeg_int, dNot_bl, bLt_int, bLe_int, bGt_int, bGe_int, bIs_non, bIsn_non, bIs_bl, bIsn_bl, non_non, non_int, non_str, non_lst, non_exc, non_amt, non_rule, non_trial, items_l, items_t, dSl_l, dOf_1, zip_l, enm_l, bEq_int, bNe_int, fold_amt, fold_rule, fold_trial, ix_amt0, ix_amt1, ix_rule0, ix_rule1, ix_trial0, ix_trial1, bindT_amt, bindT_rule, bindT_trial, List.length_map, big_0, big_1, big_2, big_3, g1, g2, g3, g4, g5, g6, decide_true]) ⟨w3, rfl⟩
theorem iota112 : iota 1 12 = (List.range 12).map fun k : Nat => D.int (1 + (k : Int)) := by rw [iota_range]
theorem rng112 : dRng [.int 1, .int 13] = some (iota 1 12) := rfl
theorem bEq_amt_none (x : Int × Int) : bEq (amt x) (.str "none") = some (.bl false) := bEq_amt_str x so_none
/-- amounts of small numbers -/
def everyN (u : Int) : List (Int × Int) := ((List.range 12).filter fun k : Nat => decide (low (1 + (k : Int)) u = (1 + (k : Int), u))).map fun k : Nat => (1 + (k : Int), u)
theorem everyN_ok {u : Int} (h1 : 1 ≤ u) (h2 : u ≤ 12) : Oks 4 (everyN u) := by
  intro x m
  obtain ⟨k, hk, rfl⟩ := List.mem_map.1 m
  obtain ⟨k1, k2⟩ := List.mem_filter.1 hk
  have k1 := List.mem_range.1 k1
  have k2 := of_decide_eq_true k2
  have := ok4 (a := 1 + (k : Int)) (b := u) (by omega) (by omega) (by omega) (by omega)
  rw [k2] at this
  exact this
theorem everyN_len (u : Int) : (everyN u).length ≤ 12 := by
  unfold everyN
  rw [List.length_map]
  have := List.length_filter_le (fun k : Nat => decide (low (1 + (k : Int)) u = (1 + (k : Int), u))) (List.range 12)
  simpa using this
def good1 (r : Rule) (as : List (Int × Int)) (q : Nat) (wanted : Int × Int) (x : Int × Int) : Bool := decide (rateQ r (as.set q x) = wanted)
theorem law_k06 (T : Tab) (B : TB T) (X : TX T) (h_ordered : SpOrderedLaw (T.f 32)) (h_law_rate : SpRateOf (T.f 28)) (h_put : SpPut (T.f 31)) (h_call : SpCall6 (T.f 30)) (h_is_amount : SpIsAmount (T.f 2)) (h_low : SpLowest (T.f 25)) (h_pick : SpPick (T.f 22)) (h_amount : SpAmount (T.f 26)) (h_draw : SpDraw (T.f 21)) (h_new : SpNew (T.f 27)) (w : Wd) (hw : DW [] w) : Wins T b_law_k06 (lawR 16) w := by
  obtain ⟨v1, w1, e1, l1, d1⟩ := h_draw [] 3 w hw (by omega) (by omega)
  have hsz : (1 : Int) + (v1 : Int) = ((1 + v1 : Nat) : Int) := by omega
  generalize hn : 1 + v1 = n at hsz
  have n1' : 1 ≤ n := by omega
  have n3' : n ≤ 3 := by omega
  obtain ⟨own, w2, e2, hown, lown, d2⟩ := h_new [] n w1 d1 n1' n3'
  obtain ⟨oth, w3, e3, hoth, loth, d3⟩ := h_new [] n w2 d2 n1' n3'
  refine wins_wp ?_
  rw [b_law_k06]
  refine Wp.step (by simp only [k06s1, mFun, startR, ess, es, ev, evs, evo, evc, evl, evi, sSeq, sNil, sRet, sExp, sAsg, sOwn, sIf, sFor, sRaise, sAug, sMut, sSet, sFrz, frzR, mVar, mCst, mBin, mUn, mAnd, mOr, mIf, mChn, mNil, mCons, mSeq, mLst, mLen, mOf, mSl, mNo, mPt, mCall, mPri, mBmt, mOix, mOcmp, mISeq, mIBi, bind_ok, bind_exc, bind_bad, toS_ok, toS_exc, toS_bad, nx_ok, ofB_bl, lift_some, lift_none, bindT_nm, bindT_tp, bindTs_nil, bindTs_cons, bop, isi_ii, isi_bi, isi_bb, isi_tt, isi_ll, List.map_cons, List.map_nil, List.length_cons, List.length_nil, List.cons_append, List.nil_append, Nat.sub_self, List.replicate_zero, List.replicate_succ, List.getElem?_cons_succ, List.getElem?_cons_zero, List.set_cons_zero, List.set_cons_succ, Option.bind_some, Option.map_some, if_true, Bool.true_and, Bool.and_true, Bool.and_self, Bool.not_true, Bool.not_false, Bool.false_eq_true, if_false, ite_true, ite_false, reduceCtorEq, n1, n2, beq_self_eq_true, dIx_l, dIx_t, bAdd_int, bSub_int, dNeg_int, dNot_bl, bLt_int, bLe_int, bGt_int, bGe_int, bIs_non, bIsn_non, bIs_bl, bIsn_bl, non_non, non_int, non_str, non_lst, non_exc, non_amt, non_rule, non_trial, items_l, items_t, dSl_l, dOf_1, zip_l, enm_l, bEq_int, bNe_int, fold_amt, fold_rule, fold_trial, ix_amt0, ix_amt1, ix_rule0, ix_rule1, ix_trial0, ix_trial1, bindT_amt, bindT_rule, bindT_trial, List.length_map, big_0, big_1, big_2, big_3, lawR, e1, hsz]; rfl) ?_
  refine Wp.step (asg_ok (ev_tup2 (ev_call2 (ev_var rfl) (ev_var rfl) e2) (ev_call2 (ev_var rfl) (ev_var rfl) e3)) (by simp only [mFun, startR, ess, es, ev, evs, evo, evc, evl, evi, sSeq, sNil, sRet, sExp, sAsg, sOwn, sIf, sFor, sRaise, sAug, sMut, sSet, sFrz, frzR, mVar, mCst, mBin, mUn, mAnd, mOr, mIf, mChn, mNil, mCons, mSeq, mLst, mLen, mOf, mSl, mNo, mPt, mCall, mPri, mBmt, mOix, mOcmp, mISeq, mIBi, bind_ok, bind_exc, bind_bad, toS_ok, toS_exc, toS_bad, nx_ok, ofB_bl, lift_some, lift_none, bindT_nm, bindT_tp, bindTs_nil, bindTs_cons, bop, isi_ii, isi_bi, isi_bb, isi_tt, isi_ll, List.map_cons, List.map_nil, List.length_cons, List.length_nil, List.cons_append, List.nil_append, Nat.sub_self, List.replicate_zero, List.replicate_succ, List.getElem?_cons_succ, List.getElem?_cons_zero, List.set_cons_zero, List.set_cons_succ, Option.bind_some, Option.map_some, if_true, Bool.true_and, Bool.and_true, Bool.and_self, Bool.not_true, Bool.not_false, Bool.false_eq_true, if_false, ite_true, ite_false, reduceCtorEq, n1, n2, beq_self_eq_true, dIx_l, dIx_t, bAdd_int, bSub_int, dNeg_int, dNot_bl, bLt_int, bLe_int, bGt_int, bGe_int, bIs_non, bIsn_non, bIs_bl, bIsn_bl, non_non, non_int, non_str, non_lst, non_exc, non_amt, non_rule, non_trial, items_l, items_t, dSl_l, dOf_1, zip_l, enm_l, bEq_int, bNe_int, fold_amt, fold_rule, fold_trial, ix_amt0, ix_amt1, ix_rule0, ix_rule1, ix_trial0, ix_trial1, bindT_amt, bindT_rule, bindT_trial, List.length_map, big_0, big_1, big_2, big_3]; rfl)) ?_
  obtain ⟨as, w4, e4, las, has, d4⟩ := ev_amounts (T := T) (r := [.emp, .dat .drw, .dat (.int n), .dat (ruleD own), .dat (ruleD oth), .emp, .emp, .emp, .emp, .emp, .emp, .emp, .emp, .emp, .emp, .emp]) (d := 1) (s := 2) (z := 7) h_amount d3 rfl rfl (by omega) (by omega)
  obtain ⟨q, w5, e5, l5, d5⟩ := h_draw [] n w4 d4 (by omega) (by omega)
  refine Wp.step (asg_ok (ev_tup2 e4 (ev_call2 (ev_var rfl) (ev_var rfl) e5)) (by simp only [mFun, startR, ess, es, ev, evs, evo, evc, evl, evi, sSeq, sNil, sRet, sExp, sAsg, sOwn, sIf, sFor, sRaise, sAug, sMut, sSet, sFrz, frzR, mVar, mCst, mBin, mUn, mAnd, mOr, mIf, mChn, mNil, mCons, mSeq, mLst, mLen, mOf, mSl, mNo, mPt, mCall, mPri, mBmt, mOix, mOcmp, mISeq, mIBi, bind_ok, bind_exc, bind_bad, toS_ok, toS_exc, toS_bad, nx_ok, ofB_bl, lift_some, lift_none, bindT_nm, bindT_tp, bindTs_nil, bindTs_cons, bop, isi_ii, isi_bi, isi_bb, isi_tt, isi_ll, List.map_cons, List.map_nil, List.length_cons, List.length_nil, List.cons_append, List.nil_append, Nat.sub_self, List.replicate_zero, List.replicate_succ, List.getElem?_cons_succ, List.getElem?_cons_zero, List.set_cons_zero, List.set_cons_succ, Option.bind_some, Option.map_some, if_true, Bool.true_and, Bool.and_true, Bool.and_self, Bool.not_true, Bool.not_false, Bool.false_eq_true, if_false, ite_true, ite_false, reduceCtorEq, n1, n2, beq_self_eq_true, dIx_l, dIx_t, bAdd_int, bSub_int, dNeg_int, dNot_bl, bLt_int, bLe_int, bGt_int, bGe_int, bIs_non, bIsn_non, bIs_bl, bIsn_bl, non_non, non_int, non_str, non_lst, non_exc, non_amt, non_rule, non_trial, items_l, items_t, dSl_l, dOf_1, zip_l, enm_l, bEq_int, bNe_int, fold_amt, fold_rule, fold_trial, ix_amt0, ix_amt1, ix_rule0, ix_rule1, ix_trial0, ix_trial1, bindT_amt, bindT_rule, bindT_trial, List.length_map, big_0, big_1, big_2, big_3]; rfl)) ?_
  have hqa : q < as.length := by omega
  have hq1 : q < own.2.length := by omega
  have hq2 : q < oth.2.length := by omega
  have ha3 : as.length ≤ 3 := by omega
  have put_ok : ∀ {x : Int × Int}, Ok 4 x → Oks 4 (as.set q x) := fun hx => has.set hx q
  -- the wanted rate
  obtain ⟨x1, w6, e6, hx1, d6⟩ := h_amount [] w5 d5
  obtain ⟨x2, w7, e7, hx2, d7⟩ := h_amount [] w6 d6
  have e8 := h_law_rate own (as.set q x2) 4 4 w7 hown.f hown.p (put_ok hx2) (by omega) (by omega)
  have r8 := rateQ_ok hown.f hown.p (put_ok hx2)
  obtain ⟨x3, w8, e9, hx3, d8⟩ := h_pick [] [amt x1, amt (rateQ own (as.set q x2))] w7 d7 (by simp) (by simp)
  have hwd : ∃ wanted, x3 = amt wanted ∧ Ok 50 wanted := by
    simp only [List.mem_cons, List.not_mem_nil, or_false] at hx3
    rcases hx3 with rfl | rfl
    · exact ⟨x1, rfl, hx1.mono (by omega)⟩
    · exact ⟨_, rfl, r8.mono (by omega)⟩
  obtain ⟨wanted, rfl, hwanted⟩ := hwd
  refine Wp.step (by simp only [k06s4, mFun, startR, ess, es, ev, evs, evo, evc, evl, evi, sSeq, sNil, sRet, sExp, sAsg, sOwn, sIf, sFor, sRaise, sAug, sMut, sSet, sFrz, frzR, mVar, mCst, mBin, mUn, mAnd, mOr, mIf, mChn, mNil, mCons, mSeq, mLst, mLen, mOf, mSl, mNo, mPt, mCall, mPri, mBmt, mOix, mOcmp, mISeq, mIBi, bind_ok, bind_exc, bind_bad, toS_ok, toS_exc, toS_bad, nx_ok, ofB_bl, lift_some, lift_none, bindT_nm, bindT_tp, bindTs_nil, bindTs_cons, bop, isi_ii, isi_bi, isi_bb, isi_tt, isi_ll, List.map_cons, List.map_nil, List.length_cons, List.length_nil, List.cons_append, List.nil_append, Nat.sub_self, List.replicate_zero, List.replicate_succ, List.getElem?_cons_succ, List.getElem?_cons_zero, List.set_cons_zero, List.set_cons_succ, Option.bind_some, Option.map_some, if_true, Bool.true_and, Bool.and_true, Bool.and_self, Bool.not_true, Bool.not_false, Bool.false_eq_true, if_false, ite_true, ite_false, reduceCtorEq, n1, n2, beq_self_eq_true, dIx_l, dIx_t, bAdd_int, bSub_int, dNeg_int, dNot_bl, bLt_int, bLe_int, bGt_int, bGe_int, bIs_non, bIsn_non, bIs_bl, bIsn_bl, non_non, non_int, non_str, non_lst, non_exc, non_amt, non_rule, non_trial, items_l, items_t, dSl_l, dOf_1, zip_l, enm_l, bEq_int, bNe_int, fold_amt, fold_rule, fold_trial, ix_amt0, ix_amt1, ix_rule0, ix_rule1, ix_trial0, ix_trial1, bindT_amt, bindT_rule, bindT_trial, List.length_map, big_0, big_1, big_2, big_3, e6, e7, h_put as q x2 w7 hqa ha3, e8, e9]; rfl) ?_
  refine Wp.step (by simp only [k06s5, mFun, startR, ess, es, ev, evs, evo, evc, evl, evi, sSeq, sNil, sRet, sExp, sAsg, sOwn, sIf, sFor, sRaise, sAug, sMut, sSet, sFrz, frzR, mVar, mCst, mBin, mUn, mAnd, mOr, mIf, mChn, mNil, mCons, mSeq, mLst, mLen, mOf, mSl, mNo, mPt, mCall, mPri, mBmt, mOix, mOcmp, mISeq, mIBi, bind_ok, bind_exc, bind_bad, toS_ok, toS_exc, toS_bad, nx_ok, ofB_bl, lift_some, lift_none, bindT_nm, bindT_tp, bindTs_nil, bindTs_cons, bop, isi_ii, isi_bi, isi_bb, isi_tt, isi_ll, List.map_cons, List.map_nil, List.length_cons, List.length_nil, List.cons_append, List.nil_append, Nat.sub_self, List.replicate_zero, List.replicate_succ, List.getElem?_cons_succ, List.getElem?_cons_zero, List.set_cons_zero, List.set_cons_succ, Option.bind_some, Option.map_some, if_true, Bool.true_and, Bool.and_true, Bool.and_self, Bool.not_true, Bool.not_false, Bool.false_eq_true, if_false, ite_true, ite_false, reduceCtorEq, n1, n2, beq_self_eq_true, dIx_l, dIx_t, bAdd_int, bSub_int, dNeg_int, dNot_bl, bLt_int, bLe_int, bGt_int, bGe_int, bIs_non, bIsn_non, bIs_bl, bIsn_bl, non_non, non_int, non_str, non_lst, non_exc, non_amt, non_rule, non_trial, items_l, items_t, dSl_l, dOf_1, zip_l, enm_l, bEq_int, bNe_int, fold_amt, fold_rule, fold_trial, ix_amt0, ix_amt1, ix_rule0, ix_rule1, ix_trial0, ix_trial1, bindT_amt, bindT_rule, bindT_trial, List.length_map, big_0, big_1, big_2, big_3]; rfl) ?_
  refine Wp.forN (enc := fun k : Nat => D.int (1 + (k : Int))) (n := 12) (w' := w8) (fun m r' w' => ∃ (ev' : List (Int × Int)) (s10 s11 : Sl), r' = [.emp, .dat .drw, .dat (.int n), .dat (ruleD own), .dat (ruleD oth), .dat (amts as), .dat (.int q), .emp, .dat (amt wanted), .dat (amts ev'), s10, s11, .emp, .emp, .emp, .emp] ∧ w' = w8 ∧ Oks 4 ev' ∧ ev'.length ≤ 12 * m) ?_ ?_ ?_ ?_
  · simp only [mFun, startR, ess, es, ev, evs, evo, evc, evl, evi, sSeq, sNil, sRet, sExp, sAsg, sOwn, sIf, sFor, sRaise, sAug, sMut, sSet, sFrz, frzR, mVar, mCst, mBin, mUn, mAnd, mOr, mIf, mChn, mNil, mCons, mSeq, mLst, mLen, mOf, mSl, mNo, mPt, mCall, mPri, mBmt, mOix, mOcmp, mISeq, mIBi, bind_ok, bind_exc, bind_bad, toS_ok, toS_exc, toS_bad, nx_ok, ofB_bl, lift_some, lift_none, bindT_nm, bindT_tp, bindTs_nil, bindTs_cons, bop, isi_ii, isi_bi, isi_bb, isi_tt, isi_ll, List.map_cons, List.map_nil, List.length_cons, List.length_nil, List.cons_append, List.nil_append, Nat.sub_self, List.replicate_zero, List.replicate_succ, List.getElem?_cons_succ, List.getElem?_cons_zero, List.set_cons_zero, List.set_cons_succ, Option.bind_some, Option.map_some, if_true, Bool.true_and, Bool.and_true, Bool.and_self, Bool.not_true, Bool.not_false, Bool.false_eq_true, if_false, ite_true, ite_false, reduceCtorEq, n1, n2, beq_self_eq_true, dIx_l, dIx_t, bAdd_int, bSub_int, dNeg_int, dNot_bl, bLt_int, bLe_int, bGt_int, bGe_int, bIs_non, bIsn_non, bIs_bl, bIsn_bl, non_non, non_int, non_str, non_lst, non_exc, non_amt, non_rule, non_trial, items_l, items_t, dSl_l, dOf_1, zip_l, enm_l, bEq_int, bNe_int, fold_amt, fold_rule, fold_trial, ix_amt0, ix_amt1, ix_rule0, ix_rule1, ix_trial0, ix_trial1, bindT_amt, bindT_rule, bindT_trial, List.length_map, big_0, big_1, big_2, big_3, rng112, iota112]
  · exact ⟨[], _, _, rfl, rfl, fun x m => (List.not_mem_nil m).elim, by simp⟩
  · rintro m r' w' hm ⟨ev', s10, s11, rfl, rfl, hev, lev⟩
    have u1 : (1 : Int) ≤ 1 + (m : Int) := by omega
    have u2 : 1 + (m : Int) ≤ 12 := by omega
    have hadd := bAdd_map (f := amt) ev' (everyN (1 + (m : Int))) (len_add (n := 144) (m := 12) (by omega) (everyN_len _) (by omega))
    refine ⟨_, [.emp, .dat .drw, .dat (.int n), .dat (ruleD own), .dat (ruleD oth), .dat (amts as), .dat (.int q), .emp, .dat (amt wanted), .dat (amts (ev' ++ everyN (1 + (m : Int)))), .dat (.int (1 + (m : Int))), s11, .emp, .emp, .emp, .emp], w', by simp only [mFun, startR, ess, es, ev, evs, evo, evc, evl, evi, sSeq, sNil, sRet, sExp, sAsg, sOwn, sIf, sFor, sRaise, sAug, sMut, sSet, sFrz, frzR, mVar, mCst, mBin, mUn, mAnd, mOr, mIf, mChn, mNil, mCons, mSeq, mLst, mLen, mOf, mSl, mNo, mPt, mCall, mPri, mBmt, mOix, mOcmp, mISeq, mIBi, bind_ok, bind_exc, bind_bad, toS_ok, toS_exc, toS_bad, nx_ok, ofB_bl, lift_some, lift_none, bindT_nm, bindT_tp, bindTs_nil, bindTs_cons, bop, isi_ii, isi_bi, isi_bb, isi_tt, isi_ll, List.map_cons, List.map_nil, List.length_cons, List.length_nil, List.cons_append, List.nil_append, Nat.sub_self, List.replicate_zero, List.replicate_succ, List.getElem?_cons_succ, List.getElem?_cons_zero, List.set_cons_zero, List.set_cons_succ, Option.bind_some, Option.map_some, if_true, Bool.true_and, Bool.and_true, Bool.and_self, Bool.not_true, Bool.not_false, Bool.false_eq_true, if_false, ite_true, ite_false, reduceCtorEq, n1, n2, beq_self_eq_true, dIx_l, dIx_t, bAdd_int, bSub_int, dNeg_int, dNot_bl, bLt_int, bLe_int, bGt_int, bGe_int, bIs_non, bIsn_non, bIs_bl, bIsn_bl, non_non, non_int, non_str, non_lst, non_exc, non_amt, non_rule, non_trial, items_l, items_t, dSl_l, dOf_1, zip_l, enm_l, bEq_int, bNe_int, fold_amt, fold_rule, fold_trial, ix_amt0, ix_amt1, ix_rule0, ix_rule1, ix_trial0, ix_trial1, bindT_amt, bindT_rule, bindT_trial, List.length_map, big_0, big_1, big_2, big_3]; rfl, ?_, ev' ++ everyN (1 + (m : Int)), _, _, rfl, rfl, ?_, ?_⟩
    · generalize 1 + (m : Int) = u at *
      have hio : (iota 1 12).length ≤ big := by decide
      simp only [mFun, startR, ess, es, ev, evs, evo, evc, evl, evi, sSeq, sNil, sRet, sExp, sAsg, sOwn, sIf, sFor, sRaise, sAug, sMut, sSet, sFrz, frzR, mVar, mCst, mBin, mUn, mAnd, mOr, mIf, mChn, mNil, mCons, mSeq, mLst, mLen, mOf, mSl, mNo, mPt, mCall, mPri, mBmt, mOix, mOcmp, mISeq, mIBi, bind_ok, bind_exc, bind_bad, toS_ok, toS_exc, toS_bad, nx_ok, ofB_bl, lift_some, lift_none, bindT_nm, bindT_tp, bindTs_nil, bindTs_cons, bop, isi_ii, isi_bi, isi_bb, isi_tt, isi_ll, List.map_cons, List.map_nil, List.length_cons, List.length_nil, List.cons_append, List.nil_append, Nat.sub_self, List.replicate_zero, List.replicate_succ, List.getElem?_cons_succ, List.getElem?_cons_zero, List.set_cons_zero, List.set_cons_succ, Option.bind_some, Option.map_some, if_true, Bool.true_and, Bool.and_true, Bool.and_self, Bool.not_true, Bool.not_false, Bool.false_eq_true, if_false, ite_true, ite_false, reduceCtorEq, n1, n2, beq_self_eq_true, dIx_l, dIx_t, bAdd_int, bSub_int, dNeg_int, dNot_bl, bLt_int, bLe_int, bGt_int, bGe_int, bIs_non, bIsn_non, bIs_bl, bIsn_bl, non_non, non_int, non_str, non_lst, non_exc, non_amt, non_rule, non_trial, items_l, items_t, dSl_l, dOf_1, zip_l, enm_l, bEq_int, bNe_int, fold_amt, fold_rule, fold_trial, ix_amt0, ix_amt1, ix_rule0, ix_rule1, ix_trial0, ix_trial1, bindT_amt, bindT_rule, bindT_trial, List.length_map, big_0, big_1, big_2, big_3, rng112, mComp, wipeR, hio]
      rw [iota112, comp_filter (p := fun k : Nat => decide (low (1 + (k : Int)) u = (1 + (k : Int), u))) (g := fun k : Nat => amt (1 + (k : Int), u))]
      · have he : (((List.range 12).filter fun k : Nat => decide (low (1 + (k : Int)) u = (1 + (k : Int), u))).map fun k : Nat => amt (1 + (k : Int), u)) = (everyN u).map amt := by
          unfold everyN
          rw [List.map_map]
          rfl
        simp only [mFun, startR, ess, es, ev, evs, evo, evc, evl, evi, sSeq, sNil, sRet, sExp, sAsg, sOwn, sIf, sFor, sRaise, sAug, sMut, sSet, sFrz, frzR, mVar, mCst, mBin, mUn, mAnd, mOr, mIf, mChn, mNil, mCons, mSeq, mLst, mLen, mOf, mSl, mNo, mPt, mCall, mPri, mBmt, mOix, mOcmp, mISeq, mIBi, bind_ok, bind_exc, bind_bad, toS_ok, toS_exc, toS_bad, nx_ok, ofB_bl, lift_some, lift_none, bindT_nm, bindT_tp, bindTs_nil, bindTs_cons, bop, isi_ii, isi_bi, isi_bb, isi_tt, isi_ll, List.map_cons, List.map_nil, List.length_cons, List.length_nil, List.cons_append, List.nil_append, Nat.sub_self, List.replicate_zero, List.replicate_succ, List.getElem?_cons_succ, List.getElem?_cons_zero, List.set_cons_zero, List.set_cons_succ, Option.bind_some, Option.map_some, if_true, Bool.true_and, Bool.and_true, Bool.and_self, Bool.not_true, Bool.not_false, Bool.false_eq_true, if_false, ite_true, ite_false, reduceCtorEq, n1, n2, beq_self_eq_true, dIx_l, dIx_t, bAdd_int, bSub_int, dNeg_int, dNot_bl, bLt_int, bLe_int, bGt_int, bGe_int, bIs_non, bIsn_non, bIs_bl, bIsn_bl, non_non, non_int, non_str, non_lst, non_exc, non_amt, non_rule, non_trial, items_l, items_t, dSl_l, dOf_1, zip_l, enm_l, bEq_int, bNe_int, fold_amt, fold_rule, fold_trial, ix_amt0, ix_amt1, ix_rule0, ix_rule1, ix_trial0, ix_trial1, bindT_amt, bindT_rule, bindT_trial, List.length_map, big_0, big_1, big_2, big_3, he, hadd]
      · intro k hk
        have hk := List.mem_range.1 hk
        have e := h_low (1 + (k : Int)) u w' (by omega) (by omega) (sm_lt (n := 4) (by omega) (by omega) (by omega) (by omega))
        simp only [compF, mFun, startR, ess, es, ev, evs, evo, evc, evl, evi, sSeq, sNil, sRet, sExp, sAsg, sOwn, sIf, sFor, sRaise, sAug, sMut, sSet, sFrz, frzR, mVar, mCst, mBin, mUn, mAnd, mOr, mIf, mChn, mNil, mCons, mSeq, mLst, mLen, mOf, mSl, mNo, mPt, mCall, mPri, mBmt, mOix, mOcmp, mISeq, mIBi, bind_ok, bind_exc, bind_bad, toS_ok, toS_exc, toS_bad, nx_ok, ofB_bl, lift_some, lift_none, bindT_nm, bindT_tp, bindTs_nil, bindTs_cons, bop, isi_ii, isi_bi, isi_bb, isi_tt, isi_ll, List.map_cons, List.map_nil, List.length_cons, List.length_nil, List.cons_append, List.nil_append, Nat.sub_self, List.replicate_zero, List.replicate_succ, List.getElem?_cons_succ, List.getElem?_cons_zero, List.set_cons_zero, List.set_cons_succ, Option.bind_some, Option.map_some, if_true, Bool.true_and, Bool.and_true, Bool.and_self, Bool.not_true, Bool.not_false, Bool.false_eq_true, if_false, ite_true, ite_false, reduceCtorEq, n1, n2, beq_self_eq_true, dIx_l, dIx_t, bAdd_int, bSub_int, dNeg_int, dNot_bl, bLt_int, bLe_int, bGt_int, bGe_int, bIs_non, bIsn_non, bIs_bl, bIsn_bl, non_non, non_int, non_str, non_lst, non_exc, non_amt, non_rule, non_trial, items_l, items_t, dSl_l, dOf_1, zip_l, enm_l, bEq_int, bNe_int, fold_amt, fold_rule, fold_trial, ix_amt0, ix_amt1, ix_rule0, ix_rule1, ix_trial0, ix_trial1, bindT_amt, bindT_rule, bindT_trial, List.length_map, big_0, big_1, big_2, big_3, e, bEq_amt]
        cases decide (low (1 + (k : Int)) u = (1 + (k : Int), u)) <;> simp only [mFun, startR, ess, es, ev, evs, evo, evc, evl, evi, sSeq, sNil, sRet, sExp, sAsg, sOwn, sIf, sFor, sRaise, sAug, sMut, sSet, sFrz, frzR, mVar, mCst, mBin, mUn, mAnd, mOr, mIf, mChn, mNil, mCons, mSeq, mLst, mLen, mOf, mSl, mNo, mPt, mCall, mPri, mBmt, mOix, mOcmp, mISeq, mIBi, bind_ok, bind_exc, bind_bad, toS_ok, toS_exc, toS_bad, nx_ok, ofB_bl, lift_some, lift_none, bindT_nm, bindT_tp, bindTs_nil, bindTs_cons, bop, isi_ii, isi_bi, isi_bb, isi_tt, isi_ll, List.map_cons, List.map_nil, List.length_cons, List.length_nil, List.cons_append, List.nil_append, Nat.sub_self, List.replicate_zero, List.replicate_succ, List.getElem?_cons_succ, List.getElem?_cons_zero, List.set_cons_zero, List.set_cons_succ, Option.bind_some, Option.map_some, if_true, Bool.true_and, Bool.and_true, Bool.and_self, Bool.not_true, Bool.not_false, Bool.false_eq_true, if_false, ite_true, ite_false, reduceCtorEq, n1, n2, beq_self_eq_true, dIx_l, dIx_t, bAdd_int, bSub_int, dNeg_int, dNot_bl, bLt_int, bLe_int, bGt_int, bGe_int, bIs_non, bIsn_non, bIs_bl, bIsn_bl, non_non, non_int, non_str, non_lst, non_exc, non_amt, non_rule, non_trial, items_l, items_t, dSl_l, dOf_1, zip_l, enm_l, bEq_int, bNe_int, fold_amt, fold_rule, fold_trial, ix_amt0, ix_amt1, ix_rule0, ix_rule1, ix_trial0, ix_trial1, bindT_amt, bindT_rule, bindT_trial, List.length_map, big_0, big_1, big_2, big_3]
    · intro x mx
      rcases List.mem_append.1 mx with mx | mx
      · exact hev x mx
      · exact everyN_ok u1 u2 x mx
    · rw [List.length_append]
      have := everyN_len (1 + (m : Int))
      omega
  rintro r' w' ⟨ev', s10, s11, rfl, rfl, hev, lev⟩
  have hbig : ev'.length ≤ big := by
    have : big = 100000 := rfl
    omega
  have go1 : ∀ x ∈ ev', T.f 28 [ruleD own, amts (as.set q x)] w' = .ok (amt (rateQ own (as.set q x))) w' := fun x mx => h_law_rate own (as.set q x) 4 4 w' hown.f hown.p (put_ok (hev x mx)) (by omega) (by omega)
  have go2 : ∀ x ∈ ev', T.f 28 [ruleD oth, amts (as.set q x)] w' = .ok (amt (rateQ oth (as.set q x))) w' := fun x mx => h_law_rate oth (as.set q x) 4 4 w' hoth.f hoth.p (put_ok (hev x mx)) (by omega) (by omega)
  refine Wp.step (r' := [.emp, .dat .drw, .dat (.int n), .dat (ruleD own), .dat (ruleD oth), .dat (amts as), .dat (.int q), .emp, .dat (amt wanted), .dat (amts ev'), s10, s11, .own ((ev'.filter (good1 own as q wanted)).map amt), .emp, .emp, .emp]) (w' := w') ?_ ?_
  · simp only [k06s7, mFun, startR, ess, es, ev, evs, evo, evc, evl, evi, sSeq, sNil, sRet, sExp, sAsg, sOwn, sIf, sFor, sRaise, sAug, sMut, sSet, sFrz, frzR, mVar, mCst, mBin, mUn, mAnd, mOr, mIf, mChn, mNil, mCons, mSeq, mLst, mLen, mOf, mSl, mNo, mPt, mCall, mPri, mBmt, mOix, mOcmp, mISeq, mIBi, bind_ok, bind_exc, bind_bad, toS_ok, toS_exc, toS_bad, nx_ok, ofB_bl, lift_some, lift_none, bindT_nm, bindT_tp, bindTs_nil, bindTs_cons, bop, isi_ii, isi_bi, isi_bb, isi_tt, isi_ll, List.map_cons, List.map_nil, List.length_cons, List.length_nil, List.cons_append, List.nil_append, Nat.sub_self, List.replicate_zero, List.replicate_succ, List.getElem?_cons_succ, List.getElem?_cons_zero, List.set_cons_zero, List.set_cons_succ, Option.bind_some, Option.map_some, if_true, Bool.true_and, Bool.and_true, Bool.and_self, Bool.not_true, Bool.not_false, Bool.false_eq_true, if_false, ite_true, ite_false, reduceCtorEq, n1, n2, beq_self_eq_true, dIx_l, dIx_t, bAdd_int, bSub_int, dNeg_int, dNot_bl, bLt_int, bLe_int, bGt_int, bGe_int, bIs_non, bIsn_non, bIs_bl, bIsn_bl, non_non, non_int, non_str, non_lst, non_exc, non_amt, non_rule, non_trial, items_l, items_t, dSl_l, dOf_1, zip_l, enm_l, bEq_int, bNe_int, fold_amt, fold_rule, fold_trial, ix_amt0, ix_amt1, ix_rule0, ix_rule1, ix_trial0, ix_trial1, bindT_amt, bindT_rule, bindT_trial, List.length_map, big_0, big_1, big_2, big_3, mComp, wipeR, hbig]
    rw [comp_filter (p := good1 own as q wanted) (g := amt)]
    · simp only [mFun, startR, ess, es, ev, evs, evo, evc, evl, evi, sSeq, sNil, sRet, sExp, sAsg, sOwn, sIf, sFor, sRaise, sAug, sMut, sSet, sFrz, frzR, mVar, mCst, mBin, mUn, mAnd, mOr, mIf, mChn, mNil, mCons, mSeq, mLst, mLen, mOf, mSl, mNo, mPt, mCall, mPri, mBmt, mOix, mOcmp, mISeq, mIBi, bind_ok, bind_exc, bind_bad, toS_ok, toS_exc, toS_bad, nx_ok, ofB_bl, lift_some, lift_none, bindT_nm, bindT_tp, bindTs_nil, bindTs_cons, bop, isi_ii, isi_bi, isi_bb, isi_tt, isi_ll, List.map_cons, List.map_nil, List.length_cons, List.length_nil, List.cons_append, List.nil_append, Nat.sub_self, List.replicate_zero, List.replicate_succ, List.getElem?_cons_succ, List.getElem?_cons_zero, List.set_cons_zero, List.set_cons_succ, Option.bind_some, Option.map_some, if_true, Bool.true_and, Bool.and_true, Bool.and_self, Bool.not_true, Bool.not_false, Bool.false_eq_true, if_false, ite_true, ite_false, reduceCtorEq, n1, n2, beq_self_eq_true, dIx_l, dIx_t, bAdd_int, bSub_int, dNeg_int, dNot_bl, bLt_int, bLe_int, bGt_int, bGe_int, bIs_non, bIsn_non, bIs_bl, bIsn_bl, non_non, non_int, non_str, non_lst, non_exc, non_amt, non_rule, non_trial, items_l, items_t, dSl_l, dOf_1, zip_l, enm_l, bEq_int, bNe_int, fold_amt, fold_rule, fold_trial, ix_amt0, ix_amt1, ix_rule0, ix_rule1, ix_trial0, ix_trial1, bindT_amt, bindT_rule, bindT_trial, List.length_map, big_0, big_1, big_2, big_3]
    · intro x mx
      simp only [compF, mFun, startR, ess, es, ev, evs, evo, evc, evl, evi, sSeq, sNil, sRet, sExp, sAsg, sOwn, sIf, sFor, sRaise, sAug, sMut, sSet, sFrz, frzR, mVar, mCst, mBin, mUn, mAnd, mOr, mIf, mChn, mNil, mCons, mSeq, mLst, mLen, mOf, mSl, mNo, mPt, mCall, mPri, mBmt, mOix, mOcmp, mISeq, mIBi, bind_ok, bind_exc, bind_bad, toS_ok, toS_exc, toS_bad, nx_ok, ofB_bl, lift_some, lift_none, bindT_nm, bindT_tp, bindTs_nil, bindTs_cons, bop, isi_ii, isi_bi, isi_bb, isi_tt, isi_ll, List.map_cons, List.map_nil, List.length_cons, List.length_nil, List.cons_append, List.nil_append, Nat.sub_self, List.replicate_zero, List.replicate_succ, List.getElem?_cons_succ, List.getElem?_cons_zero, List.set_cons_zero, List.set_cons_succ, Option.bind_some, Option.map_some, if_true, Bool.true_and, Bool.and_true, Bool.and_self, Bool.not_true, Bool.not_false, Bool.false_eq_true, if_false, ite_true, ite_false, reduceCtorEq, n1, n2, beq_self_eq_true, dIx_l, dIx_t, bAdd_int, bSub_int, dNeg_int, dNot_bl, bLt_int, bLe_int, bGt_int, bGe_int, bIs_non, bIsn_non, bIs_bl, bIsn_bl, non_non, non_int, non_str, non_lst, non_exc, non_amt, non_rule, non_trial, items_l, items_t, dSl_l, dOf_1, zip_l, enm_l, bEq_int, bNe_int, fold_amt, fold_rule, fold_trial, ix_amt0, ix_amt1, ix_rule0, ix_rule1, ix_trial0, ix_trial1, bindT_amt, bindT_rule, bindT_trial, List.length_map, big_0, big_1, big_2, big_3, h_put as q x w' hqa ha3, go1 x mx, bEq_amt]
      unfold good1
      cases decide (rateQ own (as.set q x) = wanted) <;> simp only [mFun, startR, ess, es, ev, evs, evo, evc, evl, evi, sSeq, sNil, sRet, sExp, sAsg, sOwn, sIf, sFor, sRaise, sAug, sMut, sSet, sFrz, frzR, mVar, mCst, mBin, mUn, mAnd, mOr, mIf, mChn, mNil, mCons, mSeq, mLst, mLen, mOf, mSl, mNo, mPt, mCall, mPri, mBmt, mOix, mOcmp, mISeq, mIBi, bind_ok, bind_exc, bind_bad, toS_ok, toS_exc, toS_bad, nx_ok, ofB_bl, lift_some, lift_none, bindT_nm, bindT_tp, bindTs_nil, bindTs_cons, bop, isi_ii, isi_bi, isi_bb, isi_tt, isi_ll, List.map_cons, List.map_nil, List.length_cons, List.length_nil, List.cons_append, List.nil_append, Nat.sub_self, List.replicate_zero, List.replicate_succ, List.getElem?_cons_succ, List.getElem?_cons_zero, List.set_cons_zero, List.set_cons_succ, Option.bind_some, Option.map_some, if_true, Bool.true_and, Bool.and_true, Bool.and_self, Bool.not_true, Bool.not_false, Bool.false_eq_true, if_false, ite_true, ite_false, reduceCtorEq, n1, n2, beq_self_eq_true, dIx_l, dIx_t, bAdd_int, bSub_int, dNeg_int, dNot_bl, bLt_int, bLe_int, bGt_int, bGe_int, bIs_non, bIsn_non, bIs_bl, bIsn_bl, non_non, non_int, non_str, non_lst, non_exc, non_amt, non_rule, non_trial, items_l, items_t, dSl_l, dOf_1, zip_l, enm_l, bEq_int, bNe_int, fold_amt, fold_rule, fold_trial, ix_amt0, ix_amt1, ix_rule0, ix_rule1, ix_trial0, ix_trial1, bindT_amt, bindT_rule, bindT_trial, List.length_map, big_0, big_1, big_2, big_3]
  obtain ⟨o, f1, o1, o2, o3⟩ := h_call.f own as q wanted w' (hown.mono (by omega)) (has.mono (by omega)) (by omega) hq1 (hwanted.mono (by omega))
  refine Wp.step (by simp only [k06s8, mFun, startR, ess, es, ev, evs, evo, evc, evl, evi, sSeq, sNil, sRet, sExp, sAsg, sOwn, sIf, sFor, sRaise, sAug, sMut, sSet, sFrz, frzR, mVar, mCst, mBin, mUn, mAnd, mOr, mIf, mChn, mNil, mCons, mSeq, mLst, mLen, mOf, mSl, mNo, mPt, mCall, mPri, mBmt, mOix, mOcmp, mISeq, mIBi, bind_ok, bind_exc, bind_bad, toS_ok, toS_exc, toS_bad, nx_ok, ofB_bl, lift_some, lift_none, bindT_nm, bindT_tp, bindTs_nil, bindTs_cons, bop, isi_ii, isi_bi, isi_bb, isi_tt, isi_ll, List.map_cons, List.map_nil, List.length_cons, List.length_nil, List.cons_append, List.nil_append, Nat.sub_self, List.replicate_zero, List.replicate_succ, List.getElem?_cons_succ, List.getElem?_cons_zero, List.set_cons_zero, List.set_cons_succ, Option.bind_some, Option.map_some, if_true, Bool.true_and, Bool.and_true, Bool.and_self, Bool.not_true, Bool.not_false, Bool.false_eq_true, if_false, ite_true, ite_false, reduceCtorEq, n1, n2, beq_self_eq_true, dIx_l, dIx_t, bAdd_int, bSub_int, dNeg_int, dNot_bl, bLt_int, bLe_int, bGt_int, bGe_int, bIs_non, bIsn_non, bIs_bl, bIsn_bl, non_non, non_int, non_str, non_lst, non_exc, non_amt, non_rule, non_trial, items_l, items_t, dSl_l, dOf_1, zip_l, enm_l, bEq_int, bNe_int, fold_amt, fold_rule, fold_trial, ix_amt0, ix_amt1, ix_rule0, ix_rule1, ix_trial0, ix_trial1, bindT_amt, bindT_rule, bindT_trial, List.length_map, big_0, big_1, big_2, big_3, f1]; rfl) ?_
  have hnn : bNe (ansD none) (.str "none") = some (.bl false) := bNe_str so_none
  have hen : bEq (ansD none) (.str "none") = some (.bl true) := bEq_str so_none
  have hes : ∀ x, bEq (ansD (some x)) (.str "none") = some (.bl false) := fun x => bEq_amt_str x so_none
  have hans : ∀ x, ansD (some x) = amt x := fun x => rfl
  refine Wp.stay ?_ ?_
  · by_cases h0 : own.2.getD q 0 = 0
    · have hz : (own.2.getD q 0 == 0) = true := by rw [h0]; rfl
      rw [o1 h0]
      simp only [k06s9, mFun, startR, ess, es, ev, evs, evo, evc, evl, evi, sSeq, sNil, sRet, sExp, sAsg, sOwn, sIf, sFor, sRaise, sAug, sMut, sSet, sFrz, frzR, mVar, mCst, mBin, mUn, mAnd, mOr, mIf, mChn, mNil, mCons, mSeq, mLst, mLen, mOf, mSl, mNo, mPt, mCall, mPri, mBmt, mOix, mOcmp, mISeq, mIBi, bind_ok, bind_exc, bind_bad, toS_ok, toS_exc, toS_bad, nx_ok, ofB_bl, lift_some, lift_none, bindT_nm, bindT_tp, bindTs_nil, bindTs_cons, bop, isi_ii, isi_bi, isi_bb, isi_tt, isi_ll, List.map_cons, List.map_nil, List.length_cons, List.length_nil, List.cons_append, List.nil_append, Nat.sub_self, List.replicate_zero, List.replicate_succ, List.getElem?_cons_succ, List.getElem?_cons_zero, List.set_cons_zero, List.set_cons_succ, Option.bind_some, Option.map_some, if_true, Bool.true_and, Bool.and_true, Bool.and_self, Bool.not_true, Bool.not_false, Bool.false_eq_true, if_false, ite_true, ite_false, reduceCtorEq, n1, n2, beq_self_eq_true, dIx_l, dIx_t, bAdd_int, bSub_int, dNeg_int, dNot_bl, bLt_int, bLe_int, bGt_int, bGe_int, bIs_non, bIsn_non, bIs_bl, bIsn_bl, non_non, non_int, non_str, non_lst, non_exc, non_amt, non_rule, non_trial, items_l, items_t, dSl_l, dOf_1, zip_l, enm_l, bEq_int, bNe_int, fold_amt, fold_rule, fold_trial, ix_amt0, ix_amt1, ix_rule0, ix_rule1, ix_trial0, ix_trial1, bindT_amt, bindT_rule, bindT_trial, List.length_map, big_0, big_1, big_2, big_3, atI_ints hq1, hz, hnn]
    · have hz : (own.2.getD q 0 == 0) = false := by rw [beqI]; exact decide_eq_false h0
      cases o with
      | none =>
        have hg : ev'.filter (good1 own as q wanted) = [] := List.filter_eq_nil_iff.2 fun x mx hx => o3 h0 rfl x (hev x mx).am (of_decide_eq_true hx)
        have hb := bNe_amts (ev'.filter (good1 own as q wanted)) []
        rw [hg] at hb ⊢
        replace hb : bNe (.lst []) (.lst []) = some (.bl false) := bNe_ints [] []
        simp only [k06s9, mFun, startR, ess, es, ev, evs, evo, evc, evl, evi, sSeq, sNil, sRet, sExp, sAsg, sOwn, sIf, sFor, sRaise, sAug, sMut, sSet, sFrz, frzR, mVar, mCst, mBin, mUn, mAnd, mOr, mIf, mChn, mNil, mCons, mSeq, mLst, mLen, mOf, mSl, mNo, mPt, mCall, mPri, mBmt, mOix, mOcmp, mISeq, mIBi, bind_ok, bind_exc, bind_bad, toS_ok, toS_exc, toS_bad, nx_ok, ofB_bl, lift_some, lift_none, bindT_nm, bindT_tp, bindTs_nil, bindTs_cons, bop, isi_ii, isi_bi, isi_bb, isi_tt, isi_ll, List.map_cons, List.map_nil, List.length_cons, List.length_nil, List.cons_append, List.nil_append, Nat.sub_self, List.replicate_zero, List.replicate_succ, List.getElem?_cons_succ, List.getElem?_cons_zero, List.set_cons_zero, List.set_cons_succ, Option.bind_some, Option.map_some, if_true, Bool.true_and, Bool.and_true, Bool.and_self, Bool.not_true, Bool.not_false, Bool.false_eq_true, if_false, ite_true, ite_false, reduceCtorEq, n1, n2, beq_self_eq_true, dIx_l, dIx_t, bAdd_int, bSub_int, dNeg_int, dNot_bl, bLt_int, bLe_int, bGt_int, bGe_int, bIs_non, bIsn_non, bIs_bl, bIsn_bl, non_non, non_int, non_str, non_lst, non_exc, non_amt, non_rule, non_trial, items_l, items_t, dSl_l, dOf_1, zip_l, enm_l, bEq_int, bNe_int, fold_amt, fold_rule, fold_trial, ix_amt0, ix_amt1, ix_rule0, ix_rule1, ix_trial0, ix_trial1, bindT_amt, bindT_rule, bindT_trial, List.length_map, big_0, big_1, big_2, big_3, atI_ints hq1, hz, hen, hb]
      | some x =>
        obtain ⟨hx1, hx2⟩ := o2 h0 x rfl
        have g1 := h_law_rate own (as.set q x) 160 4 w' hown.f hown.p ((has.mono (by omega)).set hx1 q) (by omega) (by omega)
        rw [hx2] at g1
        simp only [k06s9, mFun, startR, ess, es, ev, evs, evo, evc, evl, evi, sSeq, sNil, sRet, sExp, sAsg, sOwn, sIf, sFor, sRaise, sAug, sMut, sSet, sFrz, frzR, mVar, mCst, mBin, mUn, mAnd, mOr, mIf, mChn, mNil, mCons, mSeq, mLst, mLen, mOf, mSl, mNo, mPt, mCall, mPri, mBmt, mOix, mOcmp, mISeq, mIBi, bind_ok, bind_exc, bind_bad, toS_ok, toS_exc, toS_bad, nx_ok, ofB_bl, lift_some, lift_none, bindT_nm, bindT_tp, bindTs_nil, bindTs_cons, bop, isi_ii, isi_bi, isi_bb, isi_tt, isi_ll, List.map_cons, List.map_nil, List.length_cons, List.length_nil, List.cons_append, List.nil_append, Nat.sub_self, List.replicate_zero, List.replicate_succ, List.getElem?_cons_succ, List.getElem?_cons_zero, List.set_cons_zero, List.set_cons_succ, Option.bind_some, Option.map_some, if_true, Bool.true_and, Bool.and_true, Bool.and_self, Bool.not_true, Bool.not_false, Bool.false_eq_true, if_false, ite_true, ite_false, reduceCtorEq, n1, n2, beq_self_eq_true, dIx_l, dIx_t, bAdd_int, bSub_int, dNeg_int, dNot_bl, bLt_int, bLe_int, bGt_int, bGe_int, bIs_non, bIsn_non, bIs_bl, bIsn_bl, non_non, non_int, non_str, non_lst, non_exc, non_amt, non_rule, non_trial, items_l, items_t, dSl_l, dOf_1, zip_l, enm_l, bEq_int, bNe_int, fold_amt, fold_rule, fold_trial, ix_amt0, ix_amt1, ix_rule0, ix_rule1, ix_trial0, ix_trial1, bindT_amt, bindT_rule, bindT_trial, List.length_map, big_0, big_1, big_2, big_3, hans, atI_ints hq1, hz, bEq_amt_none, h_put as q x w' hqa ha3, g1, h_is_amount x w' hx1.am, bNe_amt, decide_true]
  refine Wp.step (by simp only [k06s10, mFun, startR, ess, es, ev, evs, evo, evc, evl, evi, sSeq, sNil, sRet, sExp, sAsg, sOwn, sIf, sFor, sRaise, sAug, sMut, sSet, sFrz, frzR, mVar, mCst, mBin, mUn, mAnd, mOr, mIf, mChn, mNil, mCons, mSeq, mLst, mLen, mOf, mSl, mNo, mPt, mCall, mPri, mBmt, mOix, mOcmp, mISeq, mIBi, bind_ok, bind_exc, bind_bad, toS_ok, toS_exc, toS_bad, nx_ok, ofB_bl, lift_some, lift_none, bindT_nm, bindT_tp, bindTs_nil, bindTs_cons, bop, isi_ii, isi_bi, isi_bb, isi_tt, isi_ll, List.map_cons, List.map_nil, List.length_cons, List.length_nil, List.cons_append, List.nil_append, Nat.sub_self, List.replicate_zero, List.replicate_succ, List.getElem?_cons_succ, List.getElem?_cons_zero, List.set_cons_zero, List.set_cons_succ, Option.bind_some, Option.map_some, if_true, Bool.true_and, Bool.and_true, Bool.and_self, Bool.not_true, Bool.not_false, Bool.false_eq_true, if_false, ite_true, ite_false, reduceCtorEq, n1, n2, beq_self_eq_true, dIx_l, dIx_t, bAdd_int, bSub_int, dNeg_int, dNot_bl, bLt_int, bLe_int, bGt_int, bGe_int, bIs_non, bIsn_non, bIs_bl, bIsn_bl, non_non, non_int, non_str, non_lst, non_exc, non_amt, non_rule, non_trial, items_l, items_t, dSl_l, dOf_1, zip_l, enm_l, bEq_int, bNe_int, fold_amt, fold_rule, fold_trial, ix_amt0, ix_amt1, ix_rule0, ix_rule1, ix_trial0, ix_trial1, bindT_amt, bindT_rule, bindT_trial, List.length_map, big_0, big_1, big_2, big_3]; rfl) ?_
  refine Wp.for' (enc := amt) (xs := ev') (w' := w') (fun xs r' w'' => ∃ (gl : List (Int × Int)) (s13 s15 : Sl), r' = [.emp, .dat .drw, .dat (.int n), .dat (ruleD own), .dat (ruleD oth), .dat (amts as), .dat (.int q), .emp, .dat (amt wanted), .dat (amts ev'), s10, s11, .own (gl.map amt), s13, .dat (ansD o), s15] ∧ w'' = w' ∧ (∀ x ∈ gl, Am x ∧ rateQ own (as.set q x) = rateQ oth (as.set q x)) ∧ gl.length + xs.length ≤ 144 ∧ ∀ x ∈ xs, x ∈ ev') ?_ ?_ ?_ ?_
  · simp only [mFun, startR, ess, es, ev, evs, evo, evc, evl, evi, sSeq, sNil, sRet, sExp, sAsg, sOwn, sIf, sFor, sRaise, sAug, sMut, sSet, sFrz, frzR, mVar, mCst, mBin, mUn, mAnd, mOr, mIf, mChn, mNil, mCons, mSeq, mLst, mLen, mOf, mSl, mNo, mPt, mCall, mPri, mBmt, mOix, mOcmp, mISeq, mIBi, bind_ok, bind_exc, bind_bad, toS_ok, toS_exc, toS_bad, nx_ok, ofB_bl, lift_some, lift_none, bindT_nm, bindT_tp, bindTs_nil, bindTs_cons, bop, isi_ii, isi_bi, isi_bb, isi_tt, isi_ll, List.map_cons, List.map_nil, List.length_cons, List.length_nil, List.cons_append, List.nil_append, Nat.sub_self, List.replicate_zero, List.replicate_succ, List.getElem?_cons_succ, List.getElem?_cons_zero, List.set_cons_zero, List.set_cons_succ, Option.bind_some, Option.map_some, if_true, Bool.true_and, Bool.and_true, Bool.and_self, Bool.not_true, Bool.not_false, Bool.false_eq_true, if_false, ite_true, ite_false, reduceCtorEq, n1, n2, beq_self_eq_true, dIx_l, dIx_t, bAdd_int, bSub_int, dNeg_int, dNot_bl, bLt_int, bLe_int, bGt_int, bGe_int, bIs_non, bIsn_non, bIs_bl, bIsn_bl, non_non, non_int, non_str, non_lst, non_exc, non_amt, non_rule, non_trial, items_l, items_t, dSl_l, dOf_1, zip_l, enm_l, bEq_int, bNe_int, fold_amt, fold_rule, fold_trial, ix_amt0, ix_amt1, ix_rule0, ix_rule1, ix_trial0, ix_trial1, bindT_amt, bindT_rule, bindT_trial, List.length_map, big_0, big_1, big_2, big_3]
  · exact ⟨[], _, _, rfl, rfl, fun x m => (List.not_mem_nil m).elim, by simpa using lev, fun x m => m⟩
  · rintro x xs r' w'' ⟨gl, s13, s15, rfl, rfl, hgl, hl, hx⟩
    have mx := hx x List.mem_cons_self
    rw [List.length_cons] at hl
    have hf : fApp (gl.map amt) (amt x) = some ((gl ++ [x]).map amt) := by
      unfold fApp
      rw [if_pos (by simp; have : big = 100000 := rfl; omega), List.map_append]
      rfl
    by_cases hq : rateQ own (as.set q x) = rateQ oth (as.set q x)
    · refine ⟨_, [.emp, .dat .drw, .dat (.int n), .dat (ruleD own), .dat (ruleD oth), .dat (amts as), .dat (.int q), .emp, .dat (amt wanted), .dat (amts ev'), s10, s11, .own ((gl ++ [x]).map amt), .dat (amt x), .dat (ansD o), .dat (amts (as.set q x))], w'', by simp only [mFun, startR, ess, es, ev, evs, evo, evc, evl, evi, sSeq, sNil, sRet, sExp, sAsg, sOwn, sIf, sFor, sRaise, sAug, sMut, sSet, sFrz, frzR, mVar, mCst, mBin, mUn, mAnd, mOr, mIf, mChn, mNil, mCons, mSeq, mLst, mLen, mOf, mSl, mNo, mPt, mCall, mPri, mBmt, mOix, mOcmp, mISeq, mIBi, bind_ok, bind_exc, bind_bad, toS_ok, toS_exc, toS_bad, nx_ok, ofB_bl, lift_some, lift_none, bindT_nm, bindT_tp, bindTs_nil, bindTs_cons, bop, isi_ii, isi_bi, isi_bb, isi_tt, isi_ll, List.map_cons, List.map_nil, List.length_cons, List.length_nil, List.cons_append, List.nil_append, Nat.sub_self, List.replicate_zero, List.replicate_succ, List.getElem?_cons_succ, List.getElem?_cons_zero, List.set_cons_zero, List.set_cons_succ, Option.bind_some, Option.map_some, if_true, Bool.true_and, Bool.and_true, Bool.and_self, Bool.not_true, Bool.not_false, Bool.false_eq_true, if_false, ite_true, ite_false, reduceCtorEq, n1, n2, beq_self_eq_true, dIx_l, dIx_t, bAdd_int, bSub_int, dNeg_int, dNot_bl, bLt_int, bLe_int, bGt_int, bGe_int, bIs_non, bIsn_non, bIs_bl, bIsn_bl, non_non, non_int, non_str, non_lst, non_exc, non_amt, non_rule, non_trial, items_l, items_t, dSl_l, dOf_1, zip_l, enm_l, bEq_int, bNe_int, fold_amt, fold_rule, fold_trial, ix_amt0, ix_amt1, ix_rule0, ix_rule1, ix_trial0, ix_trial1, bindT_amt, bindT_rule, bindT_trial, List.length_map, big_0, big_1, big_2, big_3]; rfl, ?_, gl ++ [x], _, _, rfl, rfl, ?_, by rw [List.length_append]; simp; omega, fun y m => hx y (List.mem_cons_of_mem _ m)⟩
      · have g2 := go2 x mx
        rw [← hq] at g2
        simp only [mFun, startR, ess, es, ev, evs, evo, evc, evl, evi, sSeq, sNil, sRet, sExp, sAsg, sOwn, sIf, sFor, sRaise, sAug, sMut, sSet, sFrz, frzR, mVar, mCst, mBin, mUn, mAnd, mOr, mIf, mChn, mNil, mCons, mSeq, mLst, mLen, mOf, mSl, mNo, mPt, mCall, mPri, mBmt, mOix, mOcmp, mISeq, mIBi, bind_ok, bind_exc, bind_bad, toS_ok, toS_exc, toS_bad, nx_ok, ofB_bl, lift_some, lift_none, bindT_nm, bindT_tp, bindTs_nil, bindTs_cons, bop, isi_ii, isi_bi, isi_bb, isi_tt, isi_ll, List.map_cons, List.map_nil, List.length_cons, List.length_nil, List.cons_append, List.nil_append, Nat.sub_self, List.replicate_zero, List.replicate_succ, List.getElem?_cons_succ, List.getElem?_cons_zero, List.set_cons_zero, List.set_cons_succ, Option.bind_some, Option.map_some, if_true, Bool.true_and, Bool.and_true, Bool.and_self, Bool.not_true, Bool.not_false, Bool.false_eq_true, if_false, ite_true, ite_false, reduceCtorEq, n1, n2, beq_self_eq_true, dIx_l, dIx_t, bAdd_int, bSub_int, dNeg_int, dNot_bl, bLt_int, bLe_int, bGt_int, bGe_int, bIs_non, bIsn_non, bIs_bl, bIsn_bl, non_non, non_int, non_str, non_lst, non_exc, non_amt, non_rule, non_trial, items_l, items_t, dSl_l, dOf_1, zip_l, enm_l, bEq_int, bNe_int, fold_amt, fold_rule, fold_trial, ix_amt0, ix_amt1, ix_rule0, ix_rule1, ix_trial0, ix_trial1, bindT_amt, bindT_rule, bindT_trial, List.length_map, big_0, big_1, big_2, big_3, h_put as q x w'' hqa ha3, go1 x mx, g2, bEq_amt, decide_true, hf]
      · intro y my
        rcases List.mem_append.1 my with my | my
        · exact hgl y my
        · rw [List.mem_singleton] at my
          subst my
          exact ⟨(hev y mx).am, hq⟩
    · refine ⟨_, [.emp, .dat .drw, .dat (.int n), .dat (ruleD own), .dat (ruleD oth), .dat (amts as), .dat (.int q), .emp, .dat (amt wanted), .dat (amts ev'), s10, s11, .own (gl.map amt), .dat (amt x), .dat (ansD o), .dat (amts (as.set q x))], w'', by simp only [mFun, startR, ess, es, ev, evs, evo, evc, evl, evi, sSeq, sNil, sRet, sExp, sAsg, sOwn, sIf, sFor, sRaise, sAug, sMut, sSet, sFrz, frzR, mVar, mCst, mBin, mUn, mAnd, mOr, mIf, mChn, mNil, mCons, mSeq, mLst, mLen, mOf, mSl, mNo, mPt, mCall, mPri, mBmt, mOix, mOcmp, mISeq, mIBi, bind_ok, bind_exc, bind_bad, toS_ok, toS_exc, toS_bad, nx_ok, ofB_bl, lift_some, lift_none, bindT_nm, bindT_tp, bindTs_nil, bindTs_cons, bop, isi_ii, isi_bi, isi_bb, isi_tt, isi_ll, List.map_cons, List.map_nil, List.length_cons, List.length_nil, List.cons_append, List.nil_append, Nat.sub_self, List.replicate_zero, List.replicate_succ, List.getElem?_cons_succ, List.getElem?_cons_zero, List.set_cons_zero, List.set_cons_succ, Option.bind_some, Option.map_some, if_true, Bool.true_and, Bool.and_true, Bool.and_self, Bool.not_true, Bool.not_false, Bool.false_eq_true, if_false, ite_true, ite_false, reduceCtorEq, n1, n2, beq_self_eq_true, dIx_l, dIx_t, bAdd_int, bSub_int, dNeg_int, dNot_bl, bLt_int, bLe_int, bGt_int, bGe_int, bIs_non, bIsn_non, bIs_bl, bIsn_bl, non_non, non_int, non_str, non_lst, non_exc, non_amt, non_rule, non_trial, items_l, items_t, dSl_l, dOf_1, zip_l, enm_l, bEq_int, bNe_int, fold_amt, fold_rule, fold_trial, ix_amt0, ix_amt1, ix_rule0, ix_rule1, ix_trial0, ix_trial1, bindT_amt, bindT_rule, bindT_trial, List.length_map, big_0, big_1, big_2, big_3]; rfl, ?_, gl, _, _, rfl, rfl, hgl, by omega, fun y m => hx y (List.mem_cons_of_mem _ m)⟩
      simp only [mFun, startR, ess, es, ev, evs, evo, evc, evl, evi, sSeq, sNil, sRet, sExp, sAsg, sOwn, sIf, sFor, sRaise, sAug, sMut, sSet, sFrz, frzR, mVar, mCst, mBin, mUn, mAnd, mOr, mIf, mChn, mNil, mCons, mSeq, mLst, mLen, mOf, mSl, mNo, mPt, mCall, mPri, mBmt, mOix, mOcmp, mISeq, mIBi, bind_ok, bind_exc, bind_bad, toS_ok, toS_exc, toS_bad, nx_ok, ofB_bl, lift_some, lift_none, bindT_nm, bindT_tp, bindTs_nil, bindTs_cons, bop, isi_ii, isi_bi, isi_bb, isi_tt, isi_ll, List.map_cons, List.map_nil, List.length_cons, List.length_nil, List.cons_append, List.nil_append, Nat.sub_self, List.replicate_zero, List.replicate_succ, List.getElem?_cons_succ, List.getElem?_cons_zero, List.set_cons_zero, List.set_cons_succ, Option.bind_some, Option.map_some, if_true, Bool.true_and, Bool.and_true, Bool.and_self, Bool.not_true, Bool.not_false, Bool.false_eq_true, if_false, ite_true, ite_false, reduceCtorEq, n1, n2, beq_self_eq_true, dIx_l, dIx_t, bAdd_int, bSub_int, dNeg_int, dNot_bl, bLt_int, bLe_int, bGt_int, bGe_int, bIs_non, bIsn_non, bIs_bl, bIsn_bl, non_non, non_int, non_str, non_lst, non_exc, non_amt, non_rule, non_trial, items_l, items_t, dSl_l, dOf_1, zip_l, enm_l, bEq_int, bNe_int, fold_amt, fold_rule, fold_trial, ix_amt0, ix_amt1, ix_rule0, ix_rule1, ix_trial0, ix_trial1, bindT_amt, bindT_rule, bindT_trial, List.length_map, big_0, big_1, big_2, big_3, h_put as q x w'' hqa ha3, go1 x mx, go2 x mx, bEq_amt, hq, decide_false]
  rintro r' w'' ⟨gl, s13, s15, rfl, rfl, hgl, hl, _⟩
  obtain ⟨o', g1, p1', p2', p3'⟩ := h_call.c own oth as q w'' (hown.mono (by omega)) (hoth.mono (by omega)) (has.mono (by omega)) (by omega) (by omega) hq1
  refine Wp.step (by simp only [k06s12, mFun, startR, ess, es, ev, evs, evo, evc, evl, evi, sSeq, sNil, sRet, sExp, sAsg, sOwn, sIf, sFor, sRaise, sAug, sMut, sSet, sFrz, frzR, mVar, mCst, mBin, mUn, mAnd, mOr, mIf, mChn, mNil, mCons, mSeq, mLst, mLen, mOf, mSl, mNo, mPt, mCall, mPri, mBmt, mOix, mOcmp, mISeq, mIBi, bind_ok, bind_exc, bind_bad, toS_ok, toS_exc, toS_bad, nx_ok, ofB_bl, lift_some, lift_none, bindT_nm, bindT_tp, bindTs_nil, bindTs_cons, bop, isi_ii, isi_bi, isi_bb, isi_tt, isi_ll, List.map_cons, List.map_nil, List.length_cons, List.length_nil, List.cons_append, List.nil_append, Nat.sub_self, List.replicate_zero, List.replicate_succ, List.getElem?_cons_succ, List.getElem?_cons_zero, List.set_cons_zero, List.set_cons_succ, Option.bind_some, Option.map_some, if_true, Bool.true_and, Bool.and_true, Bool.and_self, Bool.not_true, Bool.not_false, Bool.false_eq_true, if_false, ite_true, ite_false, reduceCtorEq, n1, n2, beq_self_eq_true, dIx_l, dIx_t, bAdd_int, bSub_int, dNeg_int, dNot_bl, bLt_int, bLe_int, bGt_int, bGe_int, bIs_non, bIsn_non, bIs_bl, bIsn_bl, non_non, non_int, non_str, non_lst, non_exc, non_amt, non_rule, non_trial, items_l, items_t, dSl_l, dOf_1, zip_l, enm_l, bEq_int, bNe_int, fold_amt, fold_rule, fold_trial, ix_amt0, ix_amt1, ix_rule0, ix_rule1, ix_trial0, ix_trial1, bindT_amt, bindT_rule, bindT_trial, List.length_map, big_0, big_1, big_2, big_3, g1]; rfl) ?_
  refine Wp.stay ?_ ?_
  · by_cases h0 : own.2.getD q 0 = oth.2.getD q 0
    · have hz : (own.2.getD q 0 == oth.2.getD q 0) = true := by rw [beqI]; exact decide_eq_true h0
      rw [p1' h0]
      simp only [k06s13, mFun, startR, ess, es, ev, evs, evo, evc, evl, evi, sSeq, sNil, sRet, sExp, sAsg, sOwn, sIf, sFor, sRaise, sAug, sMut, sSet, sFrz, frzR, mVar, mCst, mBin, mUn, mAnd, mOr, mIf, mChn, mNil, mCons, mSeq, mLst, mLen, mOf, mSl, mNo, mPt, mCall, mPri, mBmt, mOix, mOcmp, mISeq, mIBi, bind_ok, bind_exc, bind_bad, toS_ok, toS_exc, toS_bad, nx_ok, ofB_bl, lift_some, lift_none, bindT_nm, bindT_tp, bindTs_nil, bindTs_cons, bop, isi_ii, isi_bi, isi_bb, isi_tt, isi_ll, List.map_cons, List.map_nil, List.length_cons, List.length_nil, List.cons_append, List.nil_append, Nat.sub_self, List.replicate_zero, List.replicate_succ, List.getElem?_cons_succ, List.getElem?_cons_zero, List.set_cons_zero, List.set_cons_succ, Option.bind_some, Option.map_some, if_true, Bool.true_and, Bool.and_true, Bool.and_self, Bool.not_true, Bool.not_false, Bool.false_eq_true, if_false, ite_true, ite_false, reduceCtorEq, n1, n2, beq_self_eq_true, dIx_l, dIx_t, bAdd_int, bSub_int, dNeg_int, dNot_bl, bLt_int, bLe_int, bGt_int, bGe_int, bIs_non, bIsn_non, bIs_bl, bIsn_bl, non_non, non_int, non_str, non_lst, non_exc, non_amt, non_rule, non_trial, items_l, items_t, dSl_l, dOf_1, zip_l, enm_l, bEq_int, bNe_int, fold_amt, fold_rule, fold_trial, ix_amt0, ix_amt1, ix_rule0, ix_rule1, ix_trial0, ix_trial1, bindT_amt, bindT_rule, bindT_trial, List.length_map, big_0, big_1, big_2, big_3, atI_ints hq1, atI_ints hq2, hz, hnn]
    · have hz : (own.2.getD q 0 == oth.2.getD q 0) = false := by rw [beqI]; exact decide_eq_false h0
      cases o' with
      | none =>
        have hg : gl = [] := by
          cases gl with
          | nil => rfl
          | cons y gl => exact absurd (hgl y List.mem_cons_self).2 (p3' h0 rfl y (hgl y List.mem_cons_self).1)
        subst hg
        have hb : bNe (.lst []) (.lst []) = some (.bl false) := bNe_ints [] []
        simp only [k06s13, mFun, startR, ess, es, ev, evs, evo, evc, evl, evi, sSeq, sNil, sRet, sExp, sAsg, sOwn, sIf, sFor, sRaise, sAug, sMut, sSet, sFrz, frzR, mVar, mCst, mBin, mUn, mAnd, mOr, mIf, mChn, mNil, mCons, mSeq, mLst, mLen, mOf, mSl, mNo, mPt, mCall, mPri, mBmt, mOix, mOcmp, mISeq, mIBi, bind_ok, bind_exc, bind_bad, toS_ok, toS_exc, toS_bad, nx_ok, ofB_bl, lift_some, lift_none, bindT_nm, bindT_tp, bindTs_nil, bindTs_cons, bop, isi_ii, isi_bi, isi_bb, isi_tt, isi_ll, List.map_cons, List.map_nil, List.length_cons, List.length_nil, List.cons_append, List.nil_append, Nat.sub_self, List.replicate_zero, List.replicate_succ, List.getElem?_cons_succ, List.getElem?_cons_zero, List.set_cons_zero, List.set_cons_succ, Option.bind_some, Option.map_some, if_true, Bool.true_and, Bool.and_true, Bool.and_self, Bool.not_true, Bool.not_false, Bool.false_eq_true, if_false, ite_true, ite_false, reduceCtorEq, n1, n2, beq_self_eq_true, dIx_l, dIx_t, bAdd_int, bSub_int, dNeg_int, dNot_bl, bLt_int, bLe_int, bGt_int, bGe_int, bIs_non, bIsn_non, bIs_bl, bIsn_bl, non_non, non_int, non_str, non_lst, non_exc, non_amt, non_rule, non_trial, items_l, items_t, dSl_l, dOf_1, zip_l, enm_l, bEq_int, bNe_int, fold_amt, fold_rule, fold_trial, ix_amt0, ix_amt1, ix_rule0, ix_rule1, ix_trial0, ix_trial1, bindT_amt, bindT_rule, bindT_trial, List.length_map, big_0, big_1, big_2, big_3, atI_ints hq1, atI_ints hq2, hz, hen, hb]
      | some x =>
        obtain ⟨hx1, hx2⟩ := p2' h0 x rfl
        have k1 := h_law_rate own (as.set q x) 280 4 w'' hown.f hown.p ((has.mono (by omega)).set hx1 q) (by omega) (by omega)
        have k2 := h_law_rate oth (as.set q x) 280 4 w'' hoth.f hoth.p ((has.mono (by omega)).set hx1 q) (by omega) (by omega)
        rw [← hx2] at k2
        simp only [k06s13, mFun, startR, ess, es, ev, evs, evo, evc, evl, evi, sSeq, sNil, sRet, sExp, sAsg, sOwn, sIf, sFor, sRaise, sAug, sMut, sSet, sFrz, frzR, mVar, mCst, mBin, mUn, mAnd, mOr, mIf, mChn, mNil, mCons, mSeq, mLst, mLen, mOf, mSl, mNo, mPt, mCall, mPri, mBmt, mOix, mOcmp, mISeq, mIBi, bind_ok, bind_exc, bind_bad, toS_ok, toS_exc, toS_bad, nx_ok, ofB_bl, lift_some, lift_none, bindT_nm, bindT_tp, bindTs_nil, bindTs_cons, bop, isi_ii, isi_bi, isi_bb, isi_tt, isi_ll, List.map_cons, List.map_nil, List.length_cons, List.length_nil, List.cons_append, List.nil_append, Nat.sub_self, List.replicate_zero, List.replicate_succ, List.getElem?_cons_succ, List.getElem?_cons_zero, List.set_cons_zero, List.set_cons_succ, Option.bind_some, Option.map_some, if_true, Bool.true_and, Bool.and_true, Bool.and_self, Bool.not_true, Bool.not_false, Bool.false_eq_true, if_false, ite_true, ite_false, reduceCtorEq, n1, n2, beq_self_eq_true, dIx_l, dIx_t, bAdd_int, bSub_int, dNeg_int, dNot_bl, bLt_int, bLe_int, bGt_int, bGe_int, bIs_non, bIsn_non, bIs_bl, bIsn_bl, non_non, non_int, non_str, non_lst, non_exc, non_amt, non_rule, non_trial, items_l, items_t, dSl_l, dOf_1, zip_l, enm_l, bEq_int, bNe_int, fold_amt, fold_rule, fold_trial, ix_amt0, ix_amt1, ix_rule0, ix_rule1, ix_trial0, ix_trial1, bindT_amt, bindT_rule, bindT_trial, List.length_map, big_0, big_1, big_2, big_3, hans, atI_ints hq1, atI_ints hq2, hz, bEq_amt_none, h_put as q x w'' hqa ha3, k1, k2, bNe_amt, decide_true]
  obtain ⟨w9, e12⟩ := h_ordered own as n w'' d8 hown has las lown n3'
  exact Wp.ret (d := .bl true) (w' := w9) (by simp only [k06s14, mFun, startR, ess, es, ev, evs, evo, evc, evl, evi, sSeq, sNil, sRet, sExp, sAsg, sOwn, sIf, sFor, sRaise, sAug, sMut, sSet, sFrz, frzR, mVar, mCst, mBin, mUn, mAnd, mOr, mIf, mChn, mNil, mCons, mSeq, mLst, mLen, mOf, mSl, mNo, mPt, mCall, mPri, mBmt, mOix, mOcmp, mISeq, mIBi, bind_ok, bind_exc, bind_bad, toS_ok, toS_exc, toS_bad, nx_ok, ofB_bl, lift_some, lift_none, bindT_nm, bindT_tp, bindTs_nil, bindTs_cons, bop, isi_ii, isi_bi, isi_bb, isi_tt, isi_ll, List.map_cons, List.map_nil, List.length_cons, List.length_nil, List.cons_append, List.nil_append, Nat.sub_self, List.replicate_zero, List.replicate_succ, List.getElem?_cons_succ, List.getElem?_cons_zero, List.set_cons_zero, List.set_cons_succ, Option.bind_some, Option.map_some, if_true, Bool.true_and, Bool.and_true, Bool.and_self, Bool.not_true, Bool.not_false, Bool.false_eq_true, if_false, ite_true, ite_false, reduceCtorEq, n1, n2, beq_self_eq_true, dIx_l, dIx_t, bAdd_int, bSub_int, dNeg_int, dNot_bl, bLt_int, bLe_int, bGt_int, bGe_int, bIs_non, bIsn_non, bIs_bl, bIsn_bl, non_non, non_int, non_str, non_lst, non_exc, non_amt, non_rule, non_trial, items_l, items_t, dSl_l, dOf_1, zip_l, enm_l, bEq_int, bNe_int, fold_amt, fold_rule, fold_trial, ix_amt0, ix_amt1, ix_rule0, ix_rule1, ix_trial0, ix_trial1, bindT_amt, bindT_rule, bindT_trial, List.length_map, big_0, big_1, big_2, big_3, e12]) ⟨w9, rfl⟩
end RL

namespace RL
open PySem L2
def top (i : Nat) : Stmt := PySem.Challenge.pw_ratelaws_k06_whole_solving.main.body.getD i (.Pass ⟨0, 0, 0, 0⟩)
/-! ### the draws, by hand -/
theorem upd_id {H : Hp} {p : Addr} {o : HO} (h : H p = some o) : upd H p o = H := by
  funext b
  by_cases e : b = p
  · rw [e, upd_same, h]
  · rw [upd_ne e]
section
variable {c : Cn} {P : Program} {w : World} {K : PySem.W.Frag} {mg : Str → Option Value} {base : Heap}
theorem scD : FnScope ["draws", "limit", "numbers", "at", "cell", "mixed"] ["draws", "limit"] (defScope (top 35)) := ⟨rfl, rfl, rfl, by decide +kernel, rfl, by decide +kernel, by decide +kernel⟩
theorem ok_draw {f : Addr} {fd : FuncData} (F : Fun K "_law_draw" "_law_draw" (top 35) f fd) (hlen : mg "len" = none) : FnOk P w K mg base (L2.CX P w) 1 f fd ["draws", "limit"] (spOf c 2 mDraw) := by
  refine F.okX scD (fun vs H Q E h => h.1) fun cdv A outer s H vs Q E hr h => ?_
  obtain ⟨_, g, ds, w', r, k, p⟩ := h
  unfold mDraw at p
  split at p
  · rename_i l ns n hw
    split at p
    · rename_i hc
      simp only [Bool.and_eq_true, decide_eq_true_eq, Bool.not_eq_true', List.isEmpty_eq_false_iff] at hc
      obtain ⟨⟨h0, h1⟩, hne⟩ := hc
      obtain ⟨a, b, hg, ha, hb⟩ := k.dr ns n hw
      have hv : vs = [.ref a, .int l] := by
        cases r with
        | cons r1 r2 =>
          cases r2 with
          | cons r3 r4 =>
            cases r4
            cases r3
            cases r1 with
            | drw e => rw [hg] at e; cases e; rfl
      subst hv
      have nab : b ≠ a := fun z => by
        rw [z, ha] at hb
        have := HO.lst.inj (Option.some.inj hb)
        cases ns with
        | nil => simp at this
        | cons x xs => simp at this
      obtain ⟨k2, x2⟩ := k.drawn (ns' := drawN ns n l) (n' := n + 1) hg hw
      have fin := fun v (e : v = drawV ns n l) => p g _ (.int v) x2 k2 (by rw [e]; exact .int _)
      have hat : drawAt ns n < ns.length := drawAt_lt hne
      have hcell : ns[drawAt ns n]? = some ns[drawAt ns n] := List.getElem?_eq_getElem hat
      have hdv : drawV ns n l = if 1000000000000000000 ≤ ns[drawAt ns n] then ns[drawAt ns n] % l else (((ns[drawAt ns n] + 104729 * (n + 1)) % 4294967291) ^ 5 % 4294967279 / 64 * 69621 + ((ns[drawAt ns n] + 104729 * (n + 1)) % 4294967291) ^ 5 % 4294967279) % 4294967231 / 8 % l := by
        unfold drawV
        rw [hcell]
      have hdn : drawN ns n l = if 1000000000000000000 ≤ ns[drawAt ns n] then ns.set (drawAt ns n) (ns[drawAt ns n] / l) else ns := by
        unfold drawN
        rw [hcell]
      refine ⟨_, pss_cons (ps_set (i := 2) scD.nd rfl (.inl rfl) (pe_ix ix_list (pv 0) pe_int (fun _ _ => rfl)))
        (pss_cons (ps_asg (pe_op op_add (pe_ix ix_list (pv 0) pe_int (fun _ _ => rfl)) pe_int) (pg_sub (pv 0) pe_int set_list))
        (pss_cons (ps_set (i := 3) scD.nd rfl (.inl rfl) (pe_op op_mod (pe_ix ix_list (pv 0) pe_int (fun _ _ => rfl)) (pe_callB call_len (by rfl) hlen PySem.boot_len (pa_cons (pv 2) pa_nil))))
        (pss_cons (ps_set (i := 4) scD.nd rfl (.inl rfl) (pe_ix ix_list (pv 2) (pv 3) (fun _ _ => rfl)))
        (pss_cons (ps_if (pt_cmpR op_ge (pv 4) pe_int (nomark _)) (pss_cons (ps_asg (pe_op op_fdiv (pv 4) (pv 1)) (pg_sub (pv 2) (pv 3) set_list)) (pss_one (ps_ret (pe_op op_mod (pv 4) (pv 1))))) pss_nil)
        (pss_cons (ps_set (i := 5) scD.nd rfl (.inl rfl) (pe_op op_mod (pe_op op_add (pv 4) (pe_op op_mul pe_int (pe_ix ix_list (pv 0) pe_int (fun _ _ => rfl)))) pe_int))
        (pss_cons (ps_set (i := 5) scD.nd rfl (.inl rfl) (pe_op op_mod (pe_op op_pow (pv 5) pe_int) pe_int))
        (pss_one (ps_ret (pe_op op_mod (pe_op op_fdiv (pe_op op_mod (pe_op op_add (pe_op op_mul (pe_op op_fdiv (pv 5) pe_int) pe_int) (pv 5)) pe_int) pe_int) (pv 1)))))))))), ?_⟩
      -- numbers = draws[0]; draws[1] = draws[1] + 1
      refine ⟨_, rfl, a, _, _, _, rfl, rfl, SqL.of ha, rfl, ?_⟩
      refine ⟨_, rfl, a, _, _, _, rfl, rfl, SqL.of ha, rfl, _, _, rfl, rfl, _, rfl, a, _, _, 1, rfl, rfl, ha, rfl, ?_⟩
      have h2 : upd H a (.lst [.ref b, .int (n + 1)]) a = some (.lst [.ref b, .int (n + 1)]) := upd_same
      have h3 : upd H a (.lst [.ref b, .int (n + 1)]) b = some (.lst (ns.map V.int)) := by rw [upd_ne nab]; exact hb
      -- at
      have hlp : (0 : Int) < ((ns.map V.int).length : Nat) := by
        rw [List.length_map]
        have := List.length_pos_iff.mpr hne
        omega
      refine ⟨_, rfl, a, _, _, _, rfl, rfl, SqL.of h2, rfl, _, rfl, _, _, rfl, .inl ⟨_, SqL.of h3, rfl⟩, _, _, rfl, rfl, hlp, ?_⟩
      have eat : (n + 1) % ((ns.map V.int).length : Int) = ((drawAt ns n : Nat) : Int) := by
        unfold drawAt
        rw [List.length_map]
        have h5 := Int.emod_nonneg (n + 1) (show (ns.length : Int) ≠ 0 by have := List.length_pos_iff.mpr hne; omega)
        omega
      -- cell
      have hix : atI (ns.map V.int) ((n + 1) % ((ns.map V.int).length : Int)) = some (.int ns[drawAt ns n]) := by
        rw [eat]
        unfold atI ixN
        rw [if_pos (by omega), if_pos (by rw [List.length_map]; omega)]
        simp [hat]
      have hixN : ixN (ns.map V.int).length ((n + 1) % ((ns.map V.int).length : Int)) = some (drawAt ns n) := by
        rw [eat]
        unfold ixN
        rw [if_pos (by omega), if_pos (by rw [List.length_map]; omega)]
        simp
      refine ⟨_, rfl, _, rfl, b, _, _, _, rfl, rfl, SqL.of h3, hix, ?_⟩
      refine ⟨_, rfl, _, _, rfl, rfl, _, rfl, ?_⟩
      by_cases hbig : (1000000000000000000 : Int) ≤ ns[drawAt ns n]
      · refine ite2 (fun _ => ?_) (fun z => (z (by simpa using hbig)).elim)
        refine ⟨_, rfl, _, rfl, _, _, rfl, rfl, ⟨h0, by omega⟩, _, rfl, _, rfl, b, _, _, _, rfl, rfl, h3, hixN, ?_⟩
        refine ⟨_, rfl, _, rfl, _, _, rfl, rfl, h0, ?_⟩
        have q := fin (ns[drawAt ns n] % l) (by rw [hdv, if_pos hbig])
        rw [hdn, if_pos hbig] at q
        have em : (ns.map V.int).set (drawAt ns n) (.int (ns[drawAt ns n] / l)) = (ns.set (drawAt ns n) (ns[drawAt ns n] / l)).map V.int := by rw [List.map_set]
        show Q (.int (ns[drawAt ns n] % l)) (upd (upd H a (.lst [.ref b, .int (n + 1)])) b (.lst ((ns.map V.int).set (drawAt ns n) (.int (ns[drawAt ns n] / l)))))
        rw [em]
        exact q
      · refine ite2 (fun z => (hbig (by simpa using z)).elim) (fun _ => ?_)
        show tSeq _ _ _ _ _
        have q := fin _ hdv.symm
        rw [if_neg hbig, hdn, if_neg hbig, upd_id h3] at q
        have m0 : ∀ x : Int, (0 ≤ x % 4294967291 ∧ x % 4294967291 < 4294967291) := fun x => ⟨Int.emod_nonneg _ (by decide), Int.emod_lt_of_pos _ (by decide)⟩
        have m1 : ∀ x : Int, (0 ≤ x % 4294967279 ∧ x % 4294967279 < 4294967279) := fun x => ⟨Int.emod_nonneg _ (by decide), Int.emod_lt_of_pos _ (by decide)⟩
        refine ⟨_, rfl, _, rfl, a, _, _, _, rfl, rfl, SqL.of h2, rfl, _, _, rfl, rfl, .inl ⟨by decide, by decide⟩, _, _, rfl, rfl, _, _, rfl, rfl, (by show (0 : Int) < 4294967291; decide), ?_⟩
        have mm := m0 (ns[drawAt ns n] + 104729 * (n + 1))
        refine ⟨_, rfl, _, _, rfl, rfl, ⟨by decide, by decide, ?_⟩, _, _, rfl, rfl, (by show (0 : Int) < 4294967279; decide), ?_⟩
        · have : (2 : Nat) ^ 64 = 18446744073709551616 := by decide
          omega
        have mn := m1 (((ns[drawAt ns n] + 104729 * (n + 1)) % 4294967291) ^ (5 : Int).toNat)
        refine ⟨_, rfl, _, _, rfl, rfl, ⟨by decide, by decide⟩, _, _, rfl, rfl, .inr ⟨by decide, by decide⟩, _, rfl, _, _, rfl, rfl, _, _, rfl, rfl, (by show (0 : Int) < 4294967231; decide), _, _, rfl, rfl, ⟨by decide, by decide⟩, _, rfl, _, _, rfl, rfl, h0, ?_⟩
        exact q
    · exact False.elim p
  · exact False.elim p
end

/-! ### the start, by hand -/
section
variable {c : Cn} {P : Program} {w : World} {K : PySem.W.Frag} {mg : Str → Option Value} {base : Heap}
theorem dp_ints {H : Hp} : ∀ ns : List Int, DpAll K H (ns.map V.int) (ns.map PyData.int)
  | [] => .nil
  | n :: ns => .cons (.int n) (dp_ints ns)
theorem lay_ints : ∀ ns : List Int, PyData.canLayAll0 (ns.map PyData.int) = true
  | [] => rfl
  | n :: ns => by simp [PyData.canLayAll0, PyData.canLay0, lay_ints ns]
theorem dep_ints : ∀ ns : List Int, PyData.depthAll (ns.map PyData.int) ≤ 1
  | [] => by simp [PyData.depthAll]
  | n :: ns => by
    have := dep_ints ns
    simp only [List.map_cons, PyData.depthAll, PyData.depth]
    omega
theorem shaped_ints (ns : List Int) : SeqAt.shaped (.list (ns.map PyData.int)) = true := by
  have h1 := dep_ints ns
  have h2 : (PyData.list (ns.map PyData.int)).depth ≤ 64 := by
    simp only [PyData.depth]
    omega
  unfold SeqAt.shaped
  simp only [PyData.canLay0, lay_ints, Bool.true_and]
  exact decide_eq_true h2
theorem scS : FnScope ["script"] ["script"] (defScope (top 34)) := ⟨rfl, rfl, rfl, by decide +kernel, rfl, by decide +kernel, by decide +kernel⟩
theorem ok_start {f : Addr} {fd : FuncData} (F : Fun K "_law_start" "_law_start" (top 34) f fd) (hlist : mg "list" = none) : FnOk P w K mg base (L2.CX P w) 1 f fd ["script"] (spStart K) := by
  refine F.okX scS (fun vs H Q E h => by obtain ⟨a, ns, rfl, _⟩ := h; rfl) fun cdv A outer s H vs Q E hr h => ?_
  obtain ⟨a, ns, rfl, hs, kq⟩ := h
  refine ⟨_, pss_one (ps_ret (pe_lst (pa_cons (pe_ifExp (pt_cmpR (op_neD hr.units) (pv 0) (pe_lst pa_nil) (nomark _)) (pe_callTy call_list_of (by rfl) hlist (by decide +kernel) (pa_cons (pv 0) pa_nil)) (pe_lst (pa_cons pe_int pa_nil))) (pa_cons pe_int pa_nil)))), ?_⟩
  refine ⟨_, rfl, Nat.zero_le _, fun e he => ?_⟩
  have s1 : Same H (upd H e (.lst [])) := fun b o q => by rw [upd_ne (ne_of_none q he)]; exact q
  refine ⟨_, _, .lst (s1.seq hs) (dp_ints ns), .lst (SqL.of upd_same) .nil, shaped_ints ns, by decide, _, rfl, ?_⟩
  have back : ∀ {H1 : Hp} {q p : Addr}, Same H H1 → H1 q = none → (upd H1 q (.lst ((scriptOf ns).map V.int))) p = none → Q (.ref p) (upd (upd H1 q (.lst ((scriptOf ns).map V.int))) p (.lst [.ref q, .int 0])) := fun {H1 q p} s2 hq hp => by
    have npq : p ≠ q := fun z => by rw [z, upd_same] at hp; cases hp
    have hp1 : H1 p = none := by rw [upd_ne npq] at hp; exact hp
    refine kq _ p q (fun b o e => ?_) (s2.free hp1) (s2.free hq) npq upd_same (by rw [upd_ne (Ne.symm npq), upd_same])
    have e1 := s2 b o e
    rw [upd_ne (ne_of_none e1 hp1), upd_ne (ne_of_none e1 hq)]
    exact e1
  cases ns with
  | nil =>
    refine iteF ⟨by show 1 ≤ sizeLine; decide, fun q hq => ⟨by show 2 ≤ sizeLine; decide, fun p hp => ?_⟩⟩
    exact back s1 hq hp
  | cons n ns =>
    refine iteT ⟨_, rfl, a, _, rfl, .inl (s1.seq hs), fun q hq => ⟨by show 2 ≤ sizeLine; decide, fun p hp => ?_⟩⟩
    exact back s1 hq hp
end

def tab0 : Tab := ⟨[], priTab, bmtTab, [("MOST_POWER", .int 3)], ["BadRule", "BadTrials", "BadAmounts", "BadNumber", "BadText", "NotFound"], trsTab, clsTab⟩
theorem tb0 : TB tab0 := ⟨rfl, rfl, rfl⟩
theorem tx0 : TX tab0 := ⟨rfl, rfl⟩
def f0 : MF := mFun 3 (ess tab0 (b_is_int))
theorem sp0 : SpIsInt f0 := sp_is_int tab0
theorem q0 : chkSs tab0 ⟨["value", "low", "high"], defScope (top 9), fun _ => true⟩ (b_is_int) (defBody (top 9)) = true := by decide +kernel
theorem sc0 : FnScope ["value", "low", "high"] ["value", "low", "high"] (defScope (top 9)) := ⟨rfl, rfl, rfl, by decide +kernel, rfl, by decide +kernel, by decide +kernel⟩
def tab1 : Tab := tab0.add "is_int" 3 f0
theorem tb1 : TB tab1 := ⟨rfl, rfl, rfl⟩
theorem tx1 : TX tab1 := ⟨rfl, rfl⟩
def f1 : MF := mFun 2 (ess tab1 (b_common))
theorem sp1 : SpCommon f1 := sp_common tab1
theorem q1 : chkSs tab1 ⟨["one", "other"], defScope (top 10), fun _ => true⟩ (b_common) (defBody (top 10)) = true := by decide +kernel
theorem sc1 : FnScope ["one", "other"] ["one", "other"] (defScope (top 10)) := ⟨rfl, rfl, rfl, by decide +kernel, rfl, by decide +kernel, by decide +kernel⟩
def tab2 : Tab := tab1.add "common" 2 f1
theorem tb2 : TB tab2 := ⟨rfl, rfl, rfl⟩
theorem tx2 : TX tab2 := ⟨rfl, rfl⟩
def f2 : MF := mFun 2 (ess tab2 (b_is_amount 1))
theorem sp2 : SpIsAmount f2 := sp_is_amount tab2 1 tb2 sp1
theorem q2 : chkSs tab2 ⟨["value", "part"], defScope (top 11), fun _ => true⟩ (b_is_amount 1) (defBody (top 11)) = true := by decide +kernel
theorem sc2 : FnScope ["value", "part"] ["value"] (defScope (top 11)) := ⟨rfl, rfl, rfl, by decide +kernel, rfl, by decide +kernel, by decide +kernel⟩
def tab3 : Tab := tab2.add "is_amount" 1 f2
theorem tb3 : TB tab3 := ⟨rfl, rfl, rfl⟩
theorem tx3 : TX tab3 := ⟨rfl, rfl⟩
def f3 : MF := mFun 2 (ess tab3 (b_is_rule 0 2))
theorem sp3 : SpIsRule f3 := sp_is_rule tab3 0 2 tb3 sp0 sp2
theorem q3 : chkSs tab3 ⟨["value", "one"], defScope (top 12), fun _ => true⟩ (b_is_rule 0 2) (defBody (top 12)) = true := by decide +kernel
theorem sc3 : FnScope ["value", "one"] ["value"] (defScope (top 12)) := ⟨rfl, rfl, rfl, by decide +kernel, rfl, by decide +kernel, by decide +kernel⟩
def tab4 : Tab := tab3.add "is_rule" 1 f3
theorem tb4 : TB tab4 := ⟨rfl, rfl, rfl⟩
theorem tx4 : TX tab4 := ⟨rfl, rfl⟩
def f4 : MF := mFun 3 (ess tab4 (b_is_amounts 2))
theorem sp4 : SpIsAmounts f4 := sp_is_amounts tab4 2 tb4 sp2
theorem q4 : chkSs tab4 ⟨["value", "size", "one"], defScope (top 13), fun _ => true⟩ (b_is_amounts 2) (defBody (top 13)) = true := by decide +kernel
theorem sc4 : FnScope ["value", "size", "one"] ["value", "size"] (defScope (top 13)) := ⟨rfl, rfl, rfl, by decide +kernel, rfl, by decide +kernel, by decide +kernel⟩
def tab5 : Tab := tab4.add "is_amounts" 2 f4
theorem tb5 : TB tab5 := ⟨rfl, rfl, rfl⟩
theorem tx5 : TX tab5 := ⟨rfl, rfl⟩
def f5 : MF := mFun 1 (ess tab5 (b_check_rule 3))
theorem sp5 : SpCkRule f5 := sp_check_rule tab5 3 sp3
theorem q5 : chkSs tab5 ⟨["value"], defScope (top 14), fun _ => true⟩ (b_check_rule 3) (defBody (top 14)) = true := by decide +kernel
theorem sc5 : FnScope ["value"] ["value"] (defScope (top 14)) := ⟨rfl, rfl, rfl, by decide +kernel, rfl, by decide +kernel, by decide +kernel⟩
def tab6 : Tab := tab5.add "check_rule" 1 f5
theorem tb6 : TB tab6 := ⟨rfl, rfl, rfl⟩
theorem tx6 : TX tab6 := ⟨rfl, rfl⟩
def f6 : MF := mFun 2 (ess tab6 (b_check_amounts 4))
theorem sp6 : SpCkAmounts f6 := sp_check_amounts tab6 4 sp4
theorem q6 : chkSs tab6 ⟨["value", "size"], defScope (top 15), fun _ => true⟩ (b_check_amounts 4) (defBody (top 15)) = true := by decide +kernel
theorem sc6 : FnScope ["value", "size"] ["value", "size"] (defScope (top 15)) := ⟨rfl, rfl, rfl, by decide +kernel, rfl, by decide +kernel, by decide +kernel⟩
def tab7 : Tab := tab6.add "check_amounts" 2 f6
theorem tb7 : TB tab7 := ⟨rfl, rfl, rfl⟩
theorem tx7 : TX tab7 := ⟨rfl, rfl⟩
def f7 : MF := mFun 1 (ess tab7 (b_check_amount 2))
theorem sp7 : SpCkAmount f7 := sp_check_amount tab7 2 sp2
theorem q7 : chkSs tab7 ⟨["value"], defScope (top 16), fun _ => true⟩ (b_check_amount 2) (defBody (top 16)) = true := by decide +kernel
theorem sc7 : FnScope ["value"] ["value"] (defScope (top 16)) := ⟨rfl, rfl, rfl, by decide +kernel, rfl, by decide +kernel, by decide +kernel⟩
def tab8 : Tab := tab7.add "check_amount" 1 f7
theorem tb8 : TB tab8 := ⟨rfl, rfl, rfl⟩
theorem tx8 : TX tab8 := ⟨rfl, rfl⟩
def f8 : MF := mFun 2 (ess tab8 (b_check_quantity 0))
theorem sp8 : SpCkQuantity f8 := sp_check_quantity tab8 0 sp0
theorem q8 : chkSs tab8 ⟨["size", "value"], defScope (top 17), fun _ => true⟩ (b_check_quantity 0) (defBody (top 17)) = true := by decide +kernel
theorem sc8 : FnScope ["size", "value"] ["size", "value"] (defScope (top 17)) := ⟨rfl, rfl, rfl, by decide +kernel, rfl, by decide +kernel, by decide +kernel⟩
def tab9 : Tab := tab8.add "check_quantity" 2 f8
theorem tb9 : TB tab9 := ⟨rfl, rfl, rfl⟩
theorem tx9 : TX tab9 := ⟨rfl, rfl⟩
def f9 : MF := mFun 3 (ess tab9 (b_lowest 1))
theorem sp9 : SpLowest f9 := sp_lowest tab9 1 sp1
theorem q9 : chkSs tab9 ⟨["top", "below", "divisor"], defScope (top 19), fun _ => true⟩ (b_lowest 1) (defBody (top 19)) = true := by decide +kernel
theorem sc9 : FnScope ["top", "below", "divisor"] ["top", "below"] (defScope (top 19)) := ⟨rfl, rfl, rfl, by decide +kernel, rfl, by decide +kernel, by decide +kernel⟩
def tab10 : Tab := tab9.add "lowest" 2 f9
theorem tb10 : TB tab10 := ⟨rfl, rfl, rfl⟩
theorem tx10 : TX tab10 := ⟨rfl, rfl⟩
def f10 : MF := mFun 2 (ess tab10 (b_product 9))
theorem sp10 : SpProduct f10 := sp_product tab10 9 sp9
theorem q10 : chkSs tab10 ⟨["one", "other"], defScope (top 20), fun _ => true⟩ (b_product 9) (defBody (top 20)) = true := by decide +kernel
theorem sc10 : FnScope ["one", "other"] ["one", "other"] (defScope (top 20)) := ⟨rfl, rfl, rfl, by decide +kernel, rfl, by decide +kernel, by decide +kernel⟩
def tab11 : Tab := tab10.add "product" 2 f10
theorem tb11 : TB tab11 := ⟨rfl, rfl, rfl⟩
theorem tx11 : TX tab11 := ⟨rfl, rfl⟩
def f11 : MF := mFun 2 (ess tab11 (b_quotient 9))
theorem sp11 : SpQuotient f11 := sp_quotient tab11 9 sp9
theorem q11 : chkSs tab11 ⟨["one", "other"], defScope (top 21), fun _ => true⟩ (b_quotient 9) (defBody (top 21)) = true := by decide +kernel
theorem sc11 : FnScope ["one", "other"] ["one", "other"] (defScope (top 21)) := ⟨rfl, rfl, rfl, by decide +kernel, rfl, by decide +kernel, by decide +kernel⟩
def tab12 : Tab := tab11.add "quotient" 2 f11
theorem tb12 : TB tab12 := ⟨rfl, rfl, rfl⟩
theorem tx12 : TX tab12 := ⟨rfl, rfl⟩
def f12 : MF := mFun 4 (ess tab12 (b_power 10))
theorem sp12 : SpPower f12 := sp_power tab12 10 tb12.p sp10
theorem q12 : chkSs tab12 ⟨["value", "exponent", "found", "turn"], defScope (top 22), fun _ => true⟩ (b_power 10) (defBody (top 22)) = true := by decide +kernel
theorem sc12 : FnScope ["value", "exponent", "found", "turn"] ["value", "exponent"] (defScope (top 22)) := ⟨rfl, rfl, rfl, by decide +kernel, rfl, by decide +kernel, by decide +kernel⟩
def tab13 : Tab := tab12.add "power" 2 f12
theorem tb13 : TB tab13 := ⟨rfl, rfl, rfl⟩
theorem tx13 : TX tab13 := ⟨rfl, rfl⟩
def f13 : MF := mFun 2 (ess tab13 (b_less))
theorem sp13 : SpLess f13 := sp_less' tab13
theorem q13 : chkSs tab13 ⟨["one", "other"], defScope (top 23), fun _ => true⟩ (b_less) (defBody (top 23)) = true := by decide +kernel
theorem sc13 : FnScope ["one", "other"] ["one", "other"] (defScope (top 23)) := ⟨rfl, rfl, rfl, by decide +kernel, rfl, by decide +kernel, by decide +kernel⟩
def tab14 : Tab := tab13.add "less" 2 f13
theorem tb14 : TB tab14 := ⟨rfl, rfl, rfl⟩
theorem tx14 : TX tab14 := ⟨rfl, rfl⟩
def f14 : MF := mFun 7 (ess tab14 (b_root_of))
theorem sp14 : SpRoot f14 := sp_root_of tab14
theorem q14 : chkSs tab14 ⟨["number", "degree", "low", "high", "middle", "whole", "turn"], defScope (top 24), fun _ => true⟩ (b_root_of) (defBody (top 24)) = true := by decide +kernel
theorem sc14 : FnScope ["number", "degree", "low", "high", "middle", "whole", "turn"] ["number", "degree"] (defScope (top 24)) := ⟨rfl, rfl, rfl, by decide +kernel, rfl, by decide +kernel, by decide +kernel⟩
def tab15 : Tab := tab14.add "root_of" 2 f14
theorem tb15 : TB tab15 := ⟨rfl, rfl, rfl⟩
theorem tx15 : TX tab15 := ⟨rfl, rfl⟩
def f15 : MF := mFun 5 (ess tab15 (b_products_of 10 12))
theorem sp15 : SpProducts f15 := sp_products_of tab15 10 12 sp10 sp12
theorem q15 : chkSs tab15 ⟨["powers", "amounts", "found", "one", "amount"], defScope (top 26), fun _ => true⟩ (b_products_of 10 12) (defBody (top 26)) = true := by decide +kernel
theorem sc15 : FnScope ["powers", "amounts", "found", "one", "amount"] ["powers", "amounts"] (defScope (top 26)) := ⟨rfl, rfl, rfl, by decide +kernel, rfl, by decide +kernel, by decide +kernel⟩
def tab16 : Tab := tab15.add "products_of" 2 f15
theorem tb16 : TB tab16 := ⟨rfl, rfl, rfl⟩
theorem tx16 : TX tab16 := ⟨rfl, rfl⟩
def f16 : MF := mFun 2 (ess tab16 (b_rate_of 10 15))
theorem sp16 : SpRateOf f16 := sp_rate_of tab16 10 15 sp10 sp15
theorem q16 : chkSs tab16 ⟨["rule", "amounts"], defScope (top 27), fun _ => true⟩ (b_rate_of 10 15) (defBody (top 27)) = true := by decide +kernel
theorem sc16 : FnScope ["rule", "amounts"] ["rule", "amounts"] (defScope (top 27)) := ⟨rfl, rfl, rfl, by decide +kernel, rfl, by decide +kernel, by decide +kernel⟩
def tab17 : Tab := tab16.add "rate_of" 2 f16
theorem tb17 : TB tab17 := ⟨rfl, rfl, rfl⟩
theorem tx17 : TX tab17 := ⟨rfl, rfl⟩
def f17 : MF := mFun 9 (ess tab17 (b_amount_for 14 11 16 7 8 6 5))
theorem sp17 : SpAmountFor f17 := sp_amount_for tab17 14 11 16 7 8 6 5 tb17 sp14 sp11 sp16 sp7 sp8 sp6 sp5
theorem q17 : chkSs tab17 ⟨["rule", "amounts", "quantity", "wanted", "degree", "alone", "value", "top", "below"], defScope (top 29), fun _ => true⟩ (b_amount_for 14 11 16 7 8 6 5) (defBody (top 29)) = true := by decide +kernel
theorem sc17 : FnScope ["rule", "amounts", "quantity", "wanted", "degree", "alone", "value", "top", "below"] ["rule", "amounts", "quantity", "wanted"] (defScope (top 29)) := ⟨rfl, rfl, rfl, by decide +kernel, rfl, by decide +kernel, by decide +kernel⟩
def tab18 : Tab := tab17.add "amount_for" 4 f17
theorem tb18 : TB tab18 := ⟨rfl, rfl, rfl⟩
theorem tx18 : TX tab18 := ⟨rfl, rfl⟩
def f18 : MF := mFun 3 (ess tab18 (b_is_faster 13 16 6 5))
theorem sp18 : SpFaster f18 := sp_is_faster tab18 13 16 6 5 tb18 sp13 sp16 sp6 sp5
theorem q18 : chkSs tab18 ⟨["rule", "one", "other"], defScope (top 30), fun _ => true⟩ (b_is_faster 13 16 6 5) (defBody (top 30)) = true := by decide +kernel
theorem sc18 : FnScope ["rule", "one", "other"] ["rule", "one", "other"] (defScope (top 30)) := ⟨rfl, rfl, rfl, by decide +kernel, rfl, by decide +kernel, by decide +kernel⟩
def tab19 : Tab := tab18.add "is_faster" 3 f18
theorem tb19 : TB tab19 := ⟨rfl, rfl, rfl⟩
theorem tx19 : TX tab19 := ⟨rfl, rfl⟩
def f19 : MF := mFun 8 (ess tab19 (b_order_of_rates 13 16 6 5))
theorem sp19 : SpOrdered f19 := sp_order_of_rates tab19 13 16 6 5 tb19 sp13 sp16 sp6 sp5
theorem q19 : chkSs tab19 ⟨["rule", "choices", "one", "found", "k", "seen", "before", "far"], defScope (top 31), fun _ => true⟩ (b_order_of_rates 13 16 6 5) (defBody (top 31)) = true := by decide +kernel
theorem sc19 : FnScope ["rule", "choices", "one", "found", "k", "seen", "before", "far"] ["rule", "choices"] (defScope (top 31)) := ⟨rfl, rfl, rfl, by decide +kernel, rfl, by decide +kernel, by decide +kernel⟩
def tab20 : Tab := tab19.add "order_of_rates" 2 f19
theorem tb20 : TB tab20 := ⟨rfl, rfl, rfl⟩
theorem tx20 : TX tab20 := ⟨rfl, rfl⟩
def f20 : MF := mFun 9 (ess tab20 (b_crossing 14 11 16 8 6 5))
theorem sp20 : SpCrossing f20 := sp_crossing tab20 14 11 16 8 6 5 tb20 sp14 sp11 sp16 sp8 sp6 sp5
theorem q20 : chkSs tab20 ⟨["one", "other", "amounts", "quantity", "degree", "alone", "value", "top", "below"], defScope (top 32), fun _ => true⟩ (b_crossing 14 11 16 8 6 5) (defBody (top 32)) = true := by decide +kernel
theorem sc20 : FnScope ["one", "other", "amounts", "quantity", "degree", "alone", "value", "top", "below"] ["one", "other", "amounts", "quantity"] (defScope (top 32)) := ⟨rfl, rfl, rfl, by decide +kernel, rfl, by decide +kernel, by decide +kernel⟩
def tab21 : Tab := tab20.add "crossing" 4 f20
theorem tb21 : TB tab21 := ⟨rfl, rfl, rfl⟩
theorem tx21 : TX tab21 := ⟨rfl, rfl⟩
def f21 : MF := mDraw
theorem sp21 : SpDraw f21 := sp_draw
def tab22 : Tab := tab21.add "_law_draw" 2 f21
theorem tb22 : TB tab22 := ⟨rfl, rfl, rfl⟩
theorem tx22 : TX tab22 := ⟨rfl, rfl⟩
def f22 : MF := mFun 2 (ess tab22 (b__law_pick 21))
theorem sp22 : SpPick f22 := sp_pick tab22 21 tb22 sp21
theorem q22 : chkSs tab22 ⟨["draws", "choices"], defScope (top 36), fun _ => true⟩ (b__law_pick 21) (defBody (top 36)) = true := by decide +kernel
theorem sc22 : FnScope ["draws", "choices"] ["draws", "choices"] (defScope (top 36)) := ⟨rfl, rfl, rfl, by decide +kernel, rfl, by decide +kernel, by decide +kernel⟩
def tab23 : Tab := tab22.add "_law_pick" 2 f22
theorem tb23 : TB tab23 := ⟨rfl, rfl, rfl⟩
theorem tx23 : TX tab23 := ⟨rfl, rfl⟩
def f23 : MF := mFun 2 (ess tab23 (b__law_error))
theorem sp23 : SpError f23 := sp_error tab23 tb23 tx23
theorem q23 : chkSs tab23 ⟨["caught", "kinds"], defScope (top 37), fun _ => true⟩ (b__law_error) (defBody (top 37)) = true := by decide +kernel
theorem sc23 : FnScope ["caught", "kinds"] ["caught"] (defScope (top 37)) := ⟨rfl, rfl, rfl, by decide +kernel, rfl, by decide +kernel, by decide +kernel⟩
def tab24 : Tab := tab23.add "_law_error" 1 f23
theorem tb24 : TB tab24 := ⟨rfl, rfl, rfl⟩
theorem tx24 : TX tab24 := ⟨rfl, rfl⟩
def f24 : MF := mFun 2 (ess tab24 (b__law_true))
theorem sp24 : SpTrue f24 := sp_true tab24
theorem q24 : chkSs tab24 ⟨["value", "expected"], defScope (top 38), fun _ => true⟩ (b__law_true) (defBody (top 38)) = true := by decide +kernel
theorem sc24 : FnScope ["value", "expected"] ["value", "expected"] (defScope (top 38)) := ⟨rfl, rfl, rfl, by decide +kernel, rfl, by decide +kernel, by decide +kernel⟩
def tab25 : Tab := tab24.add "_law_true" 2 f24
theorem tb25 : TB tab25 := ⟨rfl, rfl, rfl⟩
theorem tx25 : TX tab25 := ⟨rfl, rfl⟩
def f25 : MF := mFun 4 (ess tab25 (b__law_low))
theorem sp25 : SpLowest f25 := sp_low tab25
theorem q25 : chkSs tab25 ⟨["top", "under", "one", "other"], defScope (top 39), fun _ => true⟩ (b__law_low) (defBody (top 39)) = true := by decide +kernel
theorem sc25 : FnScope ["top", "under", "one", "other"] ["top", "under"] (defScope (top 39)) := ⟨rfl, rfl, rfl, by decide +kernel, rfl, by decide +kernel, by decide +kernel⟩
def tab26 : Tab := tab25.add "_law_low" 2 f25
theorem tb26 : TB tab26 := ⟨rfl, rfl, rfl⟩
theorem tx26 : TX tab26 := ⟨rfl, rfl⟩
def f26 : MF := mFun 1 (ess tab26 (b__law_amount 22 25 21))
theorem sp26 : SpAmount f26 := sp_amount tab26 22 25 21 sp22 sp25 sp21
theorem q26 : chkSs tab26 ⟨["draws"], defScope (top 40), fun _ => true⟩ (b__law_amount 22 25 21) (defBody (top 40)) = true := by decide +kernel
theorem sc26 : FnScope ["draws"] ["draws"] (defScope (top 40)) := ⟨rfl, rfl, rfl, by decide +kernel, rfl, by decide +kernel, by decide +kernel⟩
def tab27 : Tab := tab26.add "_law_amount" 1 f26
theorem tb27 : TB tab27 := ⟨rfl, rfl, rfl⟩
theorem tx27 : TX tab27 := ⟨rfl, rfl⟩
def f27 : MF := mFun 3 (ess tab27 (b__law_new 21 26))
theorem sp27 : SpNew f27 := sp_new tab27 21 26 sp21 sp26
theorem q27 : chkSs tab27 ⟨["draws", "size", "k"], defScope (top 41), fun _ => true⟩ (b__law_new 21 26) (defBody (top 41)) = true := by decide +kernel
theorem sc27 : FnScope ["draws", "size", "k"] ["draws", "size"] (defScope (top 41)) := ⟨rfl, rfl, rfl, by decide +kernel, rfl, by decide +kernel, by decide +kernel⟩
def tab28 : Tab := tab27.add "_law_new" 2 f27
theorem tb28 : TB tab28 := ⟨rfl, rfl, rfl⟩
theorem tx28 : TX tab28 := ⟨rfl, rfl⟩
def f28 : MF := mFun 7 (ess tab28 (b__law_rate 25))
theorem sp28 : SpRateOf f28 := sp_law_rate tab28 25 tb28 sp25
theorem q28 : chkSs tab28 ⟨["rule_here", "amounts", "top", "under", "one", "amount", "turn"], defScope (top 42), fun _ => true⟩ (b__law_rate 25) (defBody (top 42)) = true := by decide +kernel
theorem sc28 : FnScope ["rule_here", "amounts", "top", "under", "one", "amount", "turn"] ["rule_here", "amounts"] (defScope (top 42)) := ⟨rfl, rfl, rfl, by decide +kernel, rfl, by decide +kernel, by decide +kernel⟩
def tab29 : Tab := tab28.add "_law_rate" 2 f28
theorem tb29 : TB tab29 := ⟨rfl, rfl, rfl⟩
theorem tx29 : TX tab29 := ⟨rfl, rfl⟩
def f29 : MF := mFun 2 (ess tab29 (b__law_less))
theorem sp29 : SpLess f29 := sp_law_less tab29
theorem q29 : chkSs tab29 ⟨["one", "other"], defScope (top 43), fun _ => true⟩ (b__law_less) (defBody (top 43)) = true := by decide +kernel
theorem sc29 : FnScope ["one", "other"] ["one", "other"] (defScope (top 43)) := ⟨rfl, rfl, rfl, by decide +kernel, rfl, by decide +kernel, by decide +kernel⟩
def tab30 : Tab := tab29.add "_law_less" 2 f29
theorem tb30 : TB tab30 := ⟨rfl, rfl, rfl⟩
theorem tx30 : TX tab30 := ⟨rfl, rfl⟩
def f30 : MF := mFun 8 (ess tab30 (b__law_call 23 17 20))
theorem sp30 : SpCall6 f30 := sp_call6 tab30 23 17 20 tb30 tx30 sp23 sp17 sp20
theorem q30 : chkSs tab30 ⟨["kind", "one", "two", "three", "four", "found", "caught", "e"], defScope (top 44), fun _ => true⟩ (b__law_call 23 17 20) (defBody (top 44)) = true := by decide +kernel
theorem sc30 : FnScope ["kind", "one", "two", "three", "four", "found", "caught", "e"] ["kind", "one", "two", "three", "four"] (defScope (top 44)) := ⟨rfl, rfl, rfl, by decide +kernel, rfl, by decide +kernel, by decide +kernel⟩
def tab31 : Tab := tab30.add "_law_call" 5 f30
theorem tb31 : TB tab31 := ⟨rfl, rfl, rfl⟩
theorem tx31 : TX tab31 := ⟨rfl, rfl⟩
def f31 : MF := mFun 3 (ess tab31 (b__law_put))
theorem sp31 : SpPut f31 := sp_put tab31
theorem q31 : chkSs tab31 ⟨["amounts", "quantity", "amount"], defScope (top 45), fun _ => true⟩ (b__law_put) (defBody (top 45)) = true := by decide +kernel
theorem sc31 : FnScope ["amounts", "quantity", "amount"] ["amounts", "quantity", "amount"] (defScope (top 45)) := ⟨rfl, rfl, rfl, by decide +kernel, rfl, by decide +kernel, by decide +kernel⟩
def tab32 : Tab := tab31.add "_law_put" 3 f31
theorem tb32 : TB tab32 := ⟨rfl, rfl, rfl⟩
theorem tx32 : TX tab32 := ⟨rfl, rfl⟩
def f32 : MF := mFun 12 (ess tab32 (b__law_ordered 18 24 29 28 26 19 21))
theorem sp32 : SpOrderedLaw f32 := sp_ordered_law tab32 18 24 29 28 26 19 21 tb32 sp18 sp24 sp29 sp28 sp26 sp19 sp21
theorem q32 : chkSs tab32 ⟨["draws", "own", "amounts", "size", "choices", "k", "j", "seen", "one", "due", "places", "far"], defScope (top 46), fun _ => true⟩ (b__law_ordered 18 24 29 28 26 19 21) (defBody (top 46)) = true := by decide +kernel
theorem sc32 : FnScope ["draws", "own", "amounts", "size", "choices", "k", "j", "seen", "one", "due", "places", "far"] ["draws", "own", "amounts", "size"] (defScope (top 46)) := ⟨rfl, rfl, rfl, by decide +kernel, rfl, by decide +kernel, by decide +kernel⟩
def tab33 : Tab := tab32.add "_law_ordered" 4 f32
theorem tb33 : TB tab33 := ⟨rfl, rfl, rfl⟩
theorem tx33 : TX tab33 := ⟨rfl, rfl⟩
theorem qlaw : chkSs tab33 ⟨["script", "draws", "size", "own", "other", "amounts", "quantity", "k", "wanted", "every", "under", "top", "good", "one", "told", "here"], defScope (top 47), fun _ => true⟩ b_law_k06 (defBody (top 47)).tail = true := by decide +kernel
theorem sclaw : FnScope ["script", "draws", "size", "own", "other", "amounts", "quantity", "k", "wanted", "every", "under", "top", "good", "one", "told", "here"] ["script"] (defScope (top 47)) := ⟨rfl, rfl, rfl, by decide +kernel, rfl, by decide +kernel, by decide +kernel⟩
theorem wins (w : Wd) (hw : DW [] w) : Wins tab33 b_law_k06 (lawR 16) w := law_k06 tab33 tb33 tx33 sp32 sp28 sp31 sp30 sp2 sp25 sp22 sp26 sp21 sp27 w hw
theorem core {w : World} {K : PySem.W.Frag} {h : Heap} {mg : Str → Option Value} {fa : Addr} {l : PySem.W.OpenLaw} (X : K.In h) (G : h.Ns mainGlobals mg) (hfa : mg "law" = some (.ref fa))
    {a_is_int : Addr} (d_is_int : DefIn K "is_int" (top 9) a_is_int)
    {a_common : Addr} (d_common : DefIn K "common" (top 10) a_common)
    {a_is_amount : Addr} (d_is_amount : DefIn K "is_amount" (top 11) a_is_amount)
    {a_is_rule : Addr} (d_is_rule : DefIn K "is_rule" (top 12) a_is_rule)
    {a_is_amounts : Addr} (d_is_amounts : DefIn K "is_amounts" (top 13) a_is_amounts)
    {a_check_rule : Addr} (d_check_rule : DefIn K "check_rule" (top 14) a_check_rule)
    {a_check_amounts : Addr} (d_check_amounts : DefIn K "check_amounts" (top 15) a_check_amounts)
    {a_check_amount : Addr} (d_check_amount : DefIn K "check_amount" (top 16) a_check_amount)
    {a_check_quantity : Addr} (d_check_quantity : DefIn K "check_quantity" (top 17) a_check_quantity)
    {a_lowest : Addr} (d_lowest : DefIn K "lowest" (top 19) a_lowest)
    {a_product : Addr} (d_product : DefIn K "product" (top 20) a_product)
    {a_quotient : Addr} (d_quotient : DefIn K "quotient" (top 21) a_quotient)
    {a_power : Addr} (d_power : DefIn K "power" (top 22) a_power)
    {a_less : Addr} (d_less : DefIn K "less" (top 23) a_less)
    {a_root_of : Addr} (d_root_of : DefIn K "root_of" (top 24) a_root_of)
    {a_products_of : Addr} (d_products_of : DefIn K "products_of" (top 26) a_products_of)
    {a_rate_of : Addr} (d_rate_of : DefIn K "rate_of" (top 27) a_rate_of)
    {a_amount_for : Addr} (d_amount_for : DefIn K "amount_for" (top 29) a_amount_for)
    {a_is_faster : Addr} (d_is_faster : DefIn K "is_faster" (top 30) a_is_faster)
    {a_order_of_rates : Addr} (d_order_of_rates : DefIn K "order_of_rates" (top 31) a_order_of_rates)
    {a_crossing : Addr} (d_crossing : DefIn K "crossing" (top 32) a_crossing)
    {a__law_start : Addr} (d__law_start : DefIn K "_law_start" (top 34) a__law_start)
    {a__law_draw : Addr} (d__law_draw : DefIn K "_law_draw" (top 35) a__law_draw)
    {a__law_pick : Addr} (d__law_pick : DefIn K "_law_pick" (top 36) a__law_pick)
    {a__law_error : Addr} (d__law_error : DefIn K "_law_error" (top 37) a__law_error)
    {a__law_true : Addr} (d__law_true : DefIn K "_law_true" (top 38) a__law_true)
    {a__law_low : Addr} (d__law_low : DefIn K "_law_low" (top 39) a__law_low)
    {a__law_amount : Addr} (d__law_amount : DefIn K "_law_amount" (top 40) a__law_amount)
    {a__law_new : Addr} (d__law_new : DefIn K "_law_new" (top 41) a__law_new)
    {a__law_rate : Addr} (d__law_rate : DefIn K "_law_rate" (top 42) a__law_rate)
    {a__law_less : Addr} (d__law_less : DefIn K "_law_less" (top 43) a__law_less)
    {a__law_call : Addr} (d__law_call : DefIn K "_law_call" (top 44) a__law_call)
    {a__law_put : Addr} (d__law_put : DefIn K "_law_put" (top 45) a__law_put)
    {a__law_ordered : Addr} (d__law_ordered : DefIn K "_law_ordered" (top 46) a__law_ordered)
    {a_law : Addr} (d_law : DefIn K "law" (top 47) a_law)
    {c_BadRule : Addr} (x_BadRule : ExIn K "BadRule" c_BadRule)
    {c_BadTrials : Addr} (x_BadTrials : ExIn K "BadTrials" c_BadTrials)
    {c_BadAmounts : Addr} (x_BadAmounts : ExIn K "BadAmounts" c_BadAmounts)
    {c_BadNumber : Addr} (x_BadNumber : ExIn K "BadNumber" c_BadNumber)
    {c_BadText : Addr} (x_BadText : ExIn K "BadText" c_BadText)
    {c_NotFound : Addr} (x_NotFound : ExIn K "NotFound" c_NotFound)
    {c_RateError : Addr} (x_RateError : PySem.W.nsIn K mainGlobals "RateError" = some (some (.ref c_RateError))) (x_ValueError : PySem.W.nsIn K mainGlobals "ValueError" = some none)
    (ec0 : ExcC K c_BadRule) (em0 : PySem.W.exmOne K (.ref c_BadRule) (.ref c_RateError) = some true) (kr0 : PySem.W.kitOne K (.ref c_BadRule) (.ref c_RateError) = some true) (kv0 : PySem.W.kitOne K (.ref c_BadRule) (.type "ValueError") = some true)
    (kx0_0 : PySem.W.kitOne K (.ref c_BadRule) (.ref c_BadRule) = some true)
    (kx0_1 : PySem.W.kitOne K (.ref c_BadRule) (.ref c_BadTrials) = some false)
    (kx0_2 : PySem.W.kitOne K (.ref c_BadRule) (.ref c_BadAmounts) = some false)
    (kx0_3 : PySem.W.kitOne K (.ref c_BadRule) (.ref c_BadNumber) = some false)
    (kx0_4 : PySem.W.kitOne K (.ref c_BadRule) (.ref c_BadText) = some false)
    (kx0_5 : PySem.W.kitOne K (.ref c_BadRule) (.ref c_NotFound) = some false)
    (ec1 : ExcC K c_BadTrials) (em1 : PySem.W.exmOne K (.ref c_BadTrials) (.ref c_RateError) = some true) (kr1 : PySem.W.kitOne K (.ref c_BadTrials) (.ref c_RateError) = some true) (kv1 : PySem.W.kitOne K (.ref c_BadTrials) (.type "ValueError") = some true)
    (kx1_0 : PySem.W.kitOne K (.ref c_BadTrials) (.ref c_BadRule) = some false)
    (kx1_1 : PySem.W.kitOne K (.ref c_BadTrials) (.ref c_BadTrials) = some true)
    (kx1_2 : PySem.W.kitOne K (.ref c_BadTrials) (.ref c_BadAmounts) = some false)
    (kx1_3 : PySem.W.kitOne K (.ref c_BadTrials) (.ref c_BadNumber) = some false)
    (kx1_4 : PySem.W.kitOne K (.ref c_BadTrials) (.ref c_BadText) = some false)
    (kx1_5 : PySem.W.kitOne K (.ref c_BadTrials) (.ref c_NotFound) = some false)
    (ec2 : ExcC K c_BadAmounts) (em2 : PySem.W.exmOne K (.ref c_BadAmounts) (.ref c_RateError) = some true) (kr2 : PySem.W.kitOne K (.ref c_BadAmounts) (.ref c_RateError) = some true) (kv2 : PySem.W.kitOne K (.ref c_BadAmounts) (.type "ValueError") = some true)
    (kx2_0 : PySem.W.kitOne K (.ref c_BadAmounts) (.ref c_BadRule) = some false)
    (kx2_1 : PySem.W.kitOne K (.ref c_BadAmounts) (.ref c_BadTrials) = some false)
    (kx2_2 : PySem.W.kitOne K (.ref c_BadAmounts) (.ref c_BadAmounts) = some true)
    (kx2_3 : PySem.W.kitOne K (.ref c_BadAmounts) (.ref c_BadNumber) = some false)
    (kx2_4 : PySem.W.kitOne K (.ref c_BadAmounts) (.ref c_BadText) = some false)
    (kx2_5 : PySem.W.kitOne K (.ref c_BadAmounts) (.ref c_NotFound) = some false)
    (ec3 : ExcC K c_BadNumber) (em3 : PySem.W.exmOne K (.ref c_BadNumber) (.ref c_RateError) = some true) (kr3 : PySem.W.kitOne K (.ref c_BadNumber) (.ref c_RateError) = some true) (kv3 : PySem.W.kitOne K (.ref c_BadNumber) (.type "ValueError") = some true)
    (kx3_0 : PySem.W.kitOne K (.ref c_BadNumber) (.ref c_BadRule) = some false)
    (kx3_1 : PySem.W.kitOne K (.ref c_BadNumber) (.ref c_BadTrials) = some false)
    (kx3_2 : PySem.W.kitOne K (.ref c_BadNumber) (.ref c_BadAmounts) = some false)
    (kx3_3 : PySem.W.kitOne K (.ref c_BadNumber) (.ref c_BadNumber) = some true)
    (kx3_4 : PySem.W.kitOne K (.ref c_BadNumber) (.ref c_BadText) = some false)
    (kx3_5 : PySem.W.kitOne K (.ref c_BadNumber) (.ref c_NotFound) = some false)
    (ec4 : ExcC K c_BadText) (em4 : PySem.W.exmOne K (.ref c_BadText) (.ref c_RateError) = some true) (kr4 : PySem.W.kitOne K (.ref c_BadText) (.ref c_RateError) = some true) (kv4 : PySem.W.kitOne K (.ref c_BadText) (.type "ValueError") = some true)
    (kx4_0 : PySem.W.kitOne K (.ref c_BadText) (.ref c_BadRule) = some false)
    (kx4_1 : PySem.W.kitOne K (.ref c_BadText) (.ref c_BadTrials) = some false)
    (kx4_2 : PySem.W.kitOne K (.ref c_BadText) (.ref c_BadAmounts) = some false)
    (kx4_3 : PySem.W.kitOne K (.ref c_BadText) (.ref c_BadNumber) = some false)
    (kx4_4 : PySem.W.kitOne K (.ref c_BadText) (.ref c_BadText) = some true)
    (kx4_5 : PySem.W.kitOne K (.ref c_BadText) (.ref c_NotFound) = some false)
    (ec5 : ExcC K c_NotFound) (em5 : PySem.W.exmOne K (.ref c_NotFound) (.ref c_RateError) = some true) (kr5 : PySem.W.kitOne K (.ref c_NotFound) (.ref c_RateError) = some true) (kv5 : PySem.W.kitOne K (.ref c_NotFound) (.type "ValueError") = some true)
    (kx5_0 : PySem.W.kitOne K (.ref c_NotFound) (.ref c_BadRule) = some false)
    (kx5_1 : PySem.W.kitOne K (.ref c_NotFound) (.ref c_BadTrials) = some false)
    (kx5_2 : PySem.W.kitOne K (.ref c_NotFound) (.ref c_BadAmounts) = some false)
    (kx5_3 : PySem.W.kitOne K (.ref c_NotFound) (.ref c_BadNumber) = some false)
    (kx5_4 : PySem.W.kitOne K (.ref c_NotFound) (.ref c_BadText) = some false)
    (kx5_5 : PySem.W.kitOne K (.ref c_NotFound) (.ref c_NotFound) = some true)
    {t : Tok} (mp : PySem.W.nsIn K mainGlobals "MOST_POWER" = some (some (.int 3 t)))
    (z_range : PySem.W.nsIn K mainGlobals "range" = some none)
    (z_list : PySem.W.nsIn K mainGlobals "list" = some none)
    (z_enumerate : PySem.W.nsIn K mainGlobals "enumerate" = some none)
    (z_zip : PySem.W.nsIn K mainGlobals "zip" = some none)
    (z_isinstance : PySem.W.nsIn K mainGlobals "isinstance" = some none)
    (z_int : PySem.W.nsIn K mainGlobals "int" = some none)
    (z_bool : PySem.W.nsIn K mainGlobals "bool" = some none)
    (z_str : PySem.W.nsIn K mainGlobals "str" = some none)
    (z_tuple : PySem.W.nsIn K mainGlobals "tuple" = some none)
    (z_len : PySem.W.nsIn K mainGlobals "len" = some none)
    (z_abs : PySem.W.nsIn K mainGlobals "abs" = some none)
    (z_all : PySem.W.nsIn K mainGlobals "all" = some none)
    (z_sum : PySem.W.nsIn K mainGlobals "sum" = some none)
    (z_max : PySem.W.nsIn K mainGlobals "max" = some none)
    (z_min : PySem.W.nsIn K mainGlobals "min" = some none)
    (z_sorted : PySem.W.nsIn K mainGlobals "sorted" = some none)
    : ∃ fd : FuncData, (∀ (s : Shared) (u : Value), BindsTo s fd ⟨[u], []⟩ [("script", u)]) ∧ ∀ base : Heap, K.In base → base.Ns mainGlobals mg → FnOk l.prog w K mg base (L2.CX l.prog w) 35 fa fd ["script"] (spLaw K) := by
  have fr : Free mg := ⟨PySem.W.mg_none_of X G z_range, PySem.W.mg_none_of X G z_list, PySem.W.mg_none_of X G z_enumerate, PySem.W.mg_none_of X G z_zip, PySem.W.mg_none_of X G z_isinstance, PySem.W.mg_none_of X G z_int, PySem.W.mg_none_of X G z_bool, PySem.W.mg_none_of X G z_str, PySem.W.mg_none_of X G z_tuple, PySem.W.mg_none_of X G z_len, PySem.W.mg_none_of X G z_abs, PySem.W.mg_none_of X G z_all, PySem.W.mg_none_of X G z_sum, PySem.W.mg_none_of X G z_max, PySem.W.mg_none_of X G z_min, PySem.W.mg_none_of X G z_sorted⟩
  let c : Cn := ⟨fun i => [c_BadRule, c_BadTrials, c_BadAmounts, c_BadNumber, c_BadText, c_NotFound].getD i 0, 0⟩
  obtain ⟨hml, fdl, Fl, hBl⟩ := d_law.get X G (ps := ["script"]) (fun _ _ _ _ _ _ us hl => match us, hl with | [_], _ => rfl)
  obtain ⟨hms, fds, Fs, hBs⟩ := d__law_start.get X G (ps := ["script"]) (fun _ _ _ _ _ _ us hl => match us, hl with | [_], _ => rfl)
  obtain ⟨hmd, fdd, Fd, hBd⟩ := d__law_draw.get X G (ps := ["draws", "limit"]) (fun _ _ _ _ _ _ us hl => match us, hl with | [_, _], _ => rfl)
  rw [hfa] at hml
  cases hml
  refine ⟨fdl, fun s u => .of_eq (hBl [u] rfl), fun base _ _ => ?_⟩
  have t0 : TOk c l.prog w K mg base 0 tab0 := tok_exs fr X G (cs_one X G mp) (fun i x e => by
    match i, e with
    | 0, e => cases e; exact .inr x_BadRule
    | 1, e => cases e; exact .inr x_BadTrials
    | 2, e => cases e; exact .inr x_BadAmounts
    | 3, e => cases e; exact .inr x_BadNumber
    | 4, e => cases e; exact .inr x_BadText
    | 5, e => cases e; exact .inr x_NotFound
    | n + 6, e => simp at e)
    (fun i p e => by
    match i, e with
    | 0, e =>
      cases e
      refine ⟨.ref c_RateError, PySem.W.mg_of X G x_RateError, fun j hj => ?_⟩
      match j, hj with
      | 0, _ => exact em0
      | 1, _ => exact em1
      | 2, _ => exact em2
      | 3, _ => exact em3
      | 4, _ => exact em4
      | 5, _ => exact em5
      | n + 6, hj => simp at hj
    | n + 1, e => simp [trsTab] at e)
    (fun i p e => by
    match i, e with
    | 0, e =>
      cases e
      refine ⟨.ref c_BadRule, .ref c_BadRule, ⟨rfl, fun u h => h, .inl (PySem.W.mg_of X G x_BadRule.a)⟩, fun j b hj => ?_⟩
      match j, hj with
      | 0, hj => cases hj; exact ⟨ec0, kx0_0⟩
      | 1, hj => cases hj; exact ⟨ec1, kx1_0⟩
      | 2, hj => cases hj; exact ⟨ec2, kx2_0⟩
      | 3, hj => cases hj; exact ⟨ec3, kx3_0⟩
      | 4, hj => cases hj; exact ⟨ec4, kx4_0⟩
      | 5, hj => cases hj; exact ⟨ec5, kx5_0⟩
      | n + 6, hj => exact (clsF_ge (i := 0) (n := n) hj).elim
    | 1, e =>
      cases e
      refine ⟨.ref c_BadTrials, .ref c_BadTrials, ⟨rfl, fun u h => h, .inl (PySem.W.mg_of X G x_BadTrials.a)⟩, fun j b hj => ?_⟩
      match j, hj with
      | 0, hj => cases hj; exact ⟨ec0, kx0_1⟩
      | 1, hj => cases hj; exact ⟨ec1, kx1_1⟩
      | 2, hj => cases hj; exact ⟨ec2, kx2_1⟩
      | 3, hj => cases hj; exact ⟨ec3, kx3_1⟩
      | 4, hj => cases hj; exact ⟨ec4, kx4_1⟩
      | 5, hj => cases hj; exact ⟨ec5, kx5_1⟩
      | n + 6, hj => exact (clsF_ge (i := 1) (n := n) hj).elim
    | 2, e =>
      cases e
      refine ⟨.ref c_BadAmounts, .ref c_BadAmounts, ⟨rfl, fun u h => h, .inl (PySem.W.mg_of X G x_BadAmounts.a)⟩, fun j b hj => ?_⟩
      match j, hj with
      | 0, hj => cases hj; exact ⟨ec0, kx0_2⟩
      | 1, hj => cases hj; exact ⟨ec1, kx1_2⟩
      | 2, hj => cases hj; exact ⟨ec2, kx2_2⟩
      | 3, hj => cases hj; exact ⟨ec3, kx3_2⟩
      | 4, hj => cases hj; exact ⟨ec4, kx4_2⟩
      | 5, hj => cases hj; exact ⟨ec5, kx5_2⟩
      | n + 6, hj => exact (clsF_ge (i := 2) (n := n) hj).elim
    | 3, e =>
      cases e
      refine ⟨.ref c_BadNumber, .ref c_BadNumber, ⟨rfl, fun u h => h, .inl (PySem.W.mg_of X G x_BadNumber.a)⟩, fun j b hj => ?_⟩
      match j, hj with
      | 0, hj => cases hj; exact ⟨ec0, kx0_3⟩
      | 1, hj => cases hj; exact ⟨ec1, kx1_3⟩
      | 2, hj => cases hj; exact ⟨ec2, kx2_3⟩
      | 3, hj => cases hj; exact ⟨ec3, kx3_3⟩
      | 4, hj => cases hj; exact ⟨ec4, kx4_3⟩
      | 5, hj => cases hj; exact ⟨ec5, kx5_3⟩
      | n + 6, hj => exact (clsF_ge (i := 3) (n := n) hj).elim
    | 4, e =>
      cases e
      refine ⟨.ref c_BadText, .ref c_BadText, ⟨rfl, fun u h => h, .inl (PySem.W.mg_of X G x_BadText.a)⟩, fun j b hj => ?_⟩
      match j, hj with
      | 0, hj => cases hj; exact ⟨ec0, kx0_4⟩
      | 1, hj => cases hj; exact ⟨ec1, kx1_4⟩
      | 2, hj => cases hj; exact ⟨ec2, kx2_4⟩
      | 3, hj => cases hj; exact ⟨ec3, kx3_4⟩
      | 4, hj => cases hj; exact ⟨ec4, kx4_4⟩
      | 5, hj => cases hj; exact ⟨ec5, kx5_4⟩
      | n + 6, hj => exact (clsF_ge (i := 4) (n := n) hj).elim
    | 5, e =>
      cases e
      refine ⟨.ref c_NotFound, .ref c_NotFound, ⟨rfl, fun u h => h, .inl (PySem.W.mg_of X G x_NotFound.a)⟩, fun j b hj => ?_⟩
      match j, hj with
      | 0, hj => cases hj; exact ⟨ec0, kx0_5⟩
      | 1, hj => cases hj; exact ⟨ec1, kx1_5⟩
      | 2, hj => cases hj; exact ⟨ec2, kx2_5⟩
      | 3, hj => cases hj; exact ⟨ec3, kx3_5⟩
      | 4, hj => cases hj; exact ⟨ec4, kx4_5⟩
      | 5, hj => cases hj; exact ⟨ec5, kx5_5⟩
      | n + 6, hj => exact (clsF_ge (i := 5) (n := n) hj).elim
    | 6, e =>
      cases e
      refine ⟨.ref c_RateError, .ref c_RateError, ⟨rfl, fun u h => h, .inl (PySem.W.mg_of X G x_RateError)⟩, fun j b hj => ?_⟩
      match j, hj with
      | 0, hj => cases hj; exact ⟨ec0, kr0⟩
      | 1, hj => cases hj; exact ⟨ec1, kr1⟩
      | 2, hj => cases hj; exact ⟨ec2, kr2⟩
      | 3, hj => cases hj; exact ⟨ec3, kr3⟩
      | 4, hj => cases hj; exact ⟨ec4, kr4⟩
      | 5, hj => cases hj; exact ⟨ec5, kr5⟩
      | n + 6, hj => exact (clsT_ge (n := n) hj).elim
    | 7, e =>
      cases e
      refine ⟨.ty "ValueError", .type "ValueError", ⟨rfl, fun u h => h, .inr ⟨PySem.W.mg_none_of X G x_ValueError, by decide +kernel, by decide⟩⟩, fun j b hj => ?_⟩
      match j, hj with
      | 0, hj => cases hj; exact ⟨ec0, kv0⟩
      | 1, hj => cases hj; exact ⟨ec1, kv1⟩
      | 2, hj => cases hj; exact ⟨ec2, kv2⟩
      | 3, hj => cases hj; exact ⟨ec3, kv3⟩
      | 4, hj => cases hj; exact ⟨ec4, kv4⟩
      | 5, hj => cases hj; exact ⟨ec5, kv5⟩
      | n + 6, hj => exact (clsT_ge (n := n) hj).elim
    | n + 8, e => simp [clsTab] at e)
  have t1 : TOk c l.prog w K mg base 1 tab1 := tok_def t0 d_is_int X G (fun _ _ _ _ _ _ us hl => match us, hl with | [_, _, _], _ => rfl) sc0 q0
  have t2 : TOk c l.prog w K mg base 2 tab2 := tok_def t1 d_common X G (fun _ _ _ _ _ _ us hl => match us, hl with | [_, _], _ => rfl) sc1 q1
  have t3 : TOk c l.prog w K mg base 3 tab3 := tok_def t2 d_is_amount X G (fun _ _ _ _ _ _ us hl => match us, hl with | [_], _ => rfl) sc2 q2
  have t4 : TOk c l.prog w K mg base 4 tab4 := tok_def t3 d_is_rule X G (fun _ _ _ _ _ _ us hl => match us, hl with | [_], _ => rfl) sc3 q3
  have t5 : TOk c l.prog w K mg base 5 tab5 := tok_def t4 d_is_amounts X G (fun _ _ _ _ _ _ us hl => match us, hl with | [_, _], _ => rfl) sc4 q4
  have t6 : TOk c l.prog w K mg base 6 tab6 := tok_def t5 d_check_rule X G (fun _ _ _ _ _ _ us hl => match us, hl with | [_], _ => rfl) sc5 q5
  have t7 : TOk c l.prog w K mg base 7 tab7 := tok_def t6 d_check_amounts X G (fun _ _ _ _ _ _ us hl => match us, hl with | [_, _], _ => rfl) sc6 q6
  have t8 : TOk c l.prog w K mg base 8 tab8 := tok_def t7 d_check_amount X G (fun _ _ _ _ _ _ us hl => match us, hl with | [_], _ => rfl) sc7 q7
  have t9 : TOk c l.prog w K mg base 9 tab9 := tok_def t8 d_check_quantity X G (fun _ _ _ _ _ _ us hl => match us, hl with | [_, _], _ => rfl) sc8 q8
  have t10 : TOk c l.prog w K mg base 10 tab10 := tok_def t9 d_lowest X G (fun _ _ _ _ _ _ us hl => match us, hl with | [_, _], _ => rfl) sc9 q9
  have t11 : TOk c l.prog w K mg base 11 tab11 := tok_def t10 d_product X G (fun _ _ _ _ _ _ us hl => match us, hl with | [_, _], _ => rfl) sc10 q10
  have t12 : TOk c l.prog w K mg base 12 tab12 := tok_def t11 d_quotient X G (fun _ _ _ _ _ _ us hl => match us, hl with | [_, _], _ => rfl) sc11 q11
  have t13 : TOk c l.prog w K mg base 13 tab13 := tok_def t12 d_power X G (fun _ _ _ _ _ _ us hl => match us, hl with | [_, _], _ => rfl) sc12 q12
  have t14 : TOk c l.prog w K mg base 14 tab14 := tok_def t13 d_less X G (fun _ _ _ _ _ _ us hl => match us, hl with | [_, _], _ => rfl) sc13 q13
  have t15 : TOk c l.prog w K mg base 15 tab15 := tok_def t14 d_root_of X G (fun _ _ _ _ _ _ us hl => match us, hl with | [_, _], _ => rfl) sc14 q14
  have t16 : TOk c l.prog w K mg base 16 tab16 := tok_def t15 d_products_of X G (fun _ _ _ _ _ _ us hl => match us, hl with | [_, _], _ => rfl) sc15 q15
  have t17 : TOk c l.prog w K mg base 17 tab17 := tok_def t16 d_rate_of X G (fun _ _ _ _ _ _ us hl => match us, hl with | [_, _], _ => rfl) sc16 q16
  have t18 : TOk c l.prog w K mg base 18 tab18 := tok_def t17 d_amount_for X G (fun _ _ _ _ _ _ us hl => match us, hl with | [_, _, _, _], _ => rfl) sc17 q17
  have t19 : TOk c l.prog w K mg base 19 tab19 := tok_def t18 d_is_faster X G (fun _ _ _ _ _ _ us hl => match us, hl with | [_, _, _], _ => rfl) sc18 q18
  have t20 : TOk c l.prog w K mg base 20 tab20 := tok_def t19 d_order_of_rates X G (fun _ _ _ _ _ _ us hl => match us, hl with | [_, _], _ => rfl) sc19 q19
  have t21 : TOk c l.prog w K mg base 21 tab21 := tok_def t20 d_crossing X G (fun _ _ _ _ _ _ us hl => match us, hl with | [_, _, _, _], _ => rfl) sc20 q20
  have t22 : TOk c l.prog w K mg base 22 tab22 := tok_hand t21 ((ok_draw Fd fr.len).mono (by omega)) hmd d__law_draw.k (.all hBd)
  have t23 : TOk c l.prog w K mg base 23 tab23 := tok_def t22 d__law_pick X G (fun _ _ _ _ _ _ us hl => match us, hl with | [_, _], _ => rfl) sc22 q22
  have t24 : TOk c l.prog w K mg base 24 tab24 := tok_def t23 d__law_error X G (fun _ _ _ _ _ _ us hl => match us, hl with | [_], _ => rfl) sc23 q23
  have t25 : TOk c l.prog w K mg base 25 tab25 := tok_def t24 d__law_true X G (fun _ _ _ _ _ _ us hl => match us, hl with | [_, _], _ => rfl) sc24 q24
  have t26 : TOk c l.prog w K mg base 26 tab26 := tok_def t25 d__law_low X G (fun _ _ _ _ _ _ us hl => match us, hl with | [_, _], _ => rfl) sc25 q25
  have t27 : TOk c l.prog w K mg base 27 tab27 := tok_def t26 d__law_amount X G (fun _ _ _ _ _ _ us hl => match us, hl with | [_], _ => rfl) sc26 q26
  have t28 : TOk c l.prog w K mg base 28 tab28 := tok_def t27 d__law_new X G (fun _ _ _ _ _ _ us hl => match us, hl with | [_, _], _ => rfl) sc27 q27
  have t29 : TOk c l.prog w K mg base 29 tab29 := tok_def t28 d__law_rate X G (fun _ _ _ _ _ _ us hl => match us, hl with | [_, _], _ => rfl) sc28 q28
  have t30 : TOk c l.prog w K mg base 30 tab30 := tok_def t29 d__law_less X G (fun _ _ _ _ _ _ us hl => match us, hl with | [_, _], _ => rfl) sc29 q29
  have t31 : TOk c l.prog w K mg base 31 tab31 := tok_def t30 d__law_call X G (fun _ _ _ _ _ _ us hl => match us, hl with | [_, _, _, _, _], _ => rfl) sc30 q30
  have t32 : TOk c l.prog w K mg base 32 tab32 := tok_def t31 d__law_put X G (fun _ _ _ _ _ _ us hl => match us, hl with | [_, _, _], _ => rfl) sc31 q31
  have t33 : TOk c l.prog w K mg base 33 tab33 := tok_def t32 d__law_ordered X G (fun _ _ _ _ _ _ us hl => match us, hl with | [_, _, _, _], _ => rfl) sc32 q32
  exact law_entry t33 Fl sclaw ⟨_, _, _, _, _, rfl⟩ (by decide +kernel) (by decide +kernel) (by decide +kernel) qlaw (ok_start Fs fr.list) hms d__law_start.k (.all hBs) (fun ns _ => wins _ ⟨rfl, _, _, rfl, scriptOf_ne ns⟩)
end RL
open PySem PySem.W PyProof.Rows in
set_option maxRecDepth 100000 in
set_option maxHeartbeats 0 in
theorem PySem.Challenge.cw_ratelaws_k06_whole_solving_holds : PySem.Challenge.rw_ratelaws_k06_whole_solving.Holds := by
  w_on
  o_law
  k_head
  (case hw => w_witness2)
  k_fill
  refine RL.walk (l := PySem.Challenge.rw_ratelaws_k06_whole_solving) (k := 35) (by decide) rfl rfl (fun w h Y => PySem.W.kIn_of Y) ?F
  case F =>
    intro w mg fa h KX G hmg
    refine' RL.core KX G hmg (RL.DefIn.of ?a_is_int ?l_is_int ?c_is_int ?k_is_int) (RL.DefIn.of ?a_common ?l_common ?c_common ?k_common) (RL.DefIn.of ?a_is_amount ?l_is_amount ?c_is_amount ?k_is_amount) (RL.DefIn.of ?a_is_rule ?l_is_rule ?c_is_rule ?k_is_rule) (RL.DefIn.of ?a_is_amounts ?l_is_amounts ?c_is_amounts ?k_is_amounts) (RL.DefIn.of ?a_check_rule ?l_check_rule ?c_check_rule ?k_check_rule) (RL.DefIn.of ?a_check_amounts ?l_check_amounts ?c_check_amounts ?k_check_amounts) (RL.DefIn.of ?a_check_amount ?l_check_amount ?c_check_amount ?k_check_amount) (RL.DefIn.of ?a_check_quantity ?l_check_quantity ?c_check_quantity ?k_check_quantity) (RL.DefIn.of ?a_lowest ?l_lowest ?c_lowest ?k_lowest) (RL.DefIn.of ?a_product ?l_product ?c_product ?k_product) (RL.DefIn.of ?a_quotient ?l_quotient ?c_quotient ?k_quotient) (RL.DefIn.of ?a_power ?l_power ?c_power ?k_power) (RL.DefIn.of ?a_less ?l_less ?c_less ?k_less) (RL.DefIn.of ?a_root_of ?l_root_of ?c_root_of ?k_root_of) (RL.DefIn.of ?a_products_of ?l_products_of ?c_products_of ?k_products_of) (RL.DefIn.of ?a_rate_of ?l_rate_of ?c_rate_of ?k_rate_of) (RL.DefIn.of ?a_amount_for ?l_amount_for ?c_amount_for ?k_amount_for) (RL.DefIn.of ?a_is_faster ?l_is_faster ?c_is_faster ?k_is_faster) (RL.DefIn.of ?a_order_of_rates ?l_order_of_rates ?c_order_of_rates ?k_order_of_rates) (RL.DefIn.of ?a_crossing ?l_crossing ?c_crossing ?k_crossing) (RL.DefIn.of ?a__law_start ?l__law_start ?c__law_start ?k__law_start) (RL.DefIn.of ?a__law_draw ?l__law_draw ?c__law_draw ?k__law_draw) (RL.DefIn.of ?a__law_pick ?l__law_pick ?c__law_pick ?k__law_pick) (RL.DefIn.of ?a__law_error ?l__law_error ?c__law_error ?k__law_error) (RL.DefIn.of ?a__law_true ?l__law_true ?c__law_true ?k__law_true) (RL.DefIn.of ?a__law_low ?l__law_low ?c__law_low ?k__law_low) (RL.DefIn.of ?a__law_amount ?l__law_amount ?c__law_amount ?k__law_amount) (RL.DefIn.of ?a__law_new ?l__law_new ?c__law_new ?k__law_new) (RL.DefIn.of ?a__law_rate ?l__law_rate ?c__law_rate ?k__law_rate) (RL.DefIn.of ?a__law_less ?l__law_less ?c__law_less ?k__law_less) (RL.DefIn.of ?a__law_call ?l__law_call ?c__law_call ?k__law_call) (RL.DefIn.of ?a__law_put ?l__law_put ?c__law_put ?k__law_put) (RL.DefIn.of ?a__law_ordered ?l__law_ordered ?c__law_ordered ?k__law_ordered) (RL.DefIn.of ?a_law ?l_law ?c_law ?k_law) ⟨?xa_BadRule, ?xe_BadRule, ?xk_BadRule, ?xb_BadRule, ?xt_BadRule⟩ ⟨?xa_BadTrials, ?xe_BadTrials, ?xk_BadTrials, ?xb_BadTrials, ?xt_BadTrials⟩ ⟨?xa_BadAmounts, ?xe_BadAmounts, ?xk_BadAmounts, ?xb_BadAmounts, ?xt_BadAmounts⟩ ⟨?xa_BadNumber, ?xe_BadNumber, ?xk_BadNumber, ?xb_BadNumber, ?xt_BadNumber⟩ ⟨?xa_BadText, ?xe_BadText, ?xk_BadText, ?xb_BadText, ?xt_BadText⟩ ⟨?xa_NotFound, ?xe_NotFound, ?xk_NotFound, ?xb_NotFound, ?xt_NotFound⟩ ?xq ?xv ⟨?ec0g, ?ec0k, ?ec0s, ?ec0d, ?ec0a, ?ec0n, ?ec0T, ?ec0m⟩ (RL.exm_ref ?sbR (RL.cls_some ?clR) ?tyR ?sr0) (RL.kit_ref (RL.cls_some ?clR) ?tyR ?sb0_0 ?sr0) (RL.kit_val ?sv0) (RL.kit_ref (RL.cls_some ?cl0) ?xt_BadRule ?sb0_0 ?sb0_0) (RL.kit_ref (RL.cls_some ?cl1) ?xt_BadTrials ?sb0_0 ?sb0_1) (RL.kit_ref (RL.cls_some ?cl2) ?xt_BadAmounts ?sb0_0 ?sb0_2) (RL.kit_ref (RL.cls_some ?cl3) ?xt_BadNumber ?sb0_0 ?sb0_3) (RL.kit_ref (RL.cls_some ?cl4) ?xt_BadText ?sb0_0 ?sb0_4) (RL.kit_ref (RL.cls_some ?cl5) ?xt_NotFound ?sb0_0 ?sb0_5) ⟨?ec1g, ?ec1k, ?ec1s, ?ec1d, ?ec1a, ?ec1n, ?ec1T, ?ec1m⟩ (RL.exm_ref ?sbR (RL.cls_some ?clR) ?tyR ?sr1) (RL.kit_ref (RL.cls_some ?clR) ?tyR ?sb1_1 ?sr1) (RL.kit_val ?sv1) (RL.kit_ref (RL.cls_some ?cl0) ?xt_BadRule ?sb1_1 ?sb1_0) (RL.kit_ref (RL.cls_some ?cl1) ?xt_BadTrials ?sb1_1 ?sb1_1) (RL.kit_ref (RL.cls_some ?cl2) ?xt_BadAmounts ?sb1_1 ?sb1_2) (RL.kit_ref (RL.cls_some ?cl3) ?xt_BadNumber ?sb1_1 ?sb1_3) (RL.kit_ref (RL.cls_some ?cl4) ?xt_BadText ?sb1_1 ?sb1_4) (RL.kit_ref (RL.cls_some ?cl5) ?xt_NotFound ?sb1_1 ?sb1_5) ⟨?ec2g, ?ec2k, ?ec2s, ?ec2d, ?ec2a, ?ec2n, ?ec2T, ?ec2m⟩ (RL.exm_ref ?sbR (RL.cls_some ?clR) ?tyR ?sr2) (RL.kit_ref (RL.cls_some ?clR) ?tyR ?sb2_2 ?sr2) (RL.kit_val ?sv2) (RL.kit_ref (RL.cls_some ?cl0) ?xt_BadRule ?sb2_2 ?sb2_0) (RL.kit_ref (RL.cls_some ?cl1) ?xt_BadTrials ?sb2_2 ?sb2_1) (RL.kit_ref (RL.cls_some ?cl2) ?xt_BadAmounts ?sb2_2 ?sb2_2) (RL.kit_ref (RL.cls_some ?cl3) ?xt_BadNumber ?sb2_2 ?sb2_3) (RL.kit_ref (RL.cls_some ?cl4) ?xt_BadText ?sb2_2 ?sb2_4) (RL.kit_ref (RL.cls_some ?cl5) ?xt_NotFound ?sb2_2 ?sb2_5) ⟨?ec3g, ?ec3k, ?ec3s, ?ec3d, ?ec3a, ?ec3n, ?ec3T, ?ec3m⟩ (RL.exm_ref ?sbR (RL.cls_some ?clR) ?tyR ?sr3) (RL.kit_ref (RL.cls_some ?clR) ?tyR ?sb3_3 ?sr3) (RL.kit_val ?sv3) (RL.kit_ref (RL.cls_some ?cl0) ?xt_BadRule ?sb3_3 ?sb3_0) (RL.kit_ref (RL.cls_some ?cl1) ?xt_BadTrials ?sb3_3 ?sb3_1) (RL.kit_ref (RL.cls_some ?cl2) ?xt_BadAmounts ?sb3_3 ?sb3_2) (RL.kit_ref (RL.cls_some ?cl3) ?xt_BadNumber ?sb3_3 ?sb3_3) (RL.kit_ref (RL.cls_some ?cl4) ?xt_BadText ?sb3_3 ?sb3_4) (RL.kit_ref (RL.cls_some ?cl5) ?xt_NotFound ?sb3_3 ?sb3_5) ⟨?ec4g, ?ec4k, ?ec4s, ?ec4d, ?ec4a, ?ec4n, ?ec4T, ?ec4m⟩ (RL.exm_ref ?sbR (RL.cls_some ?clR) ?tyR ?sr4) (RL.kit_ref (RL.cls_some ?clR) ?tyR ?sb4_4 ?sr4) (RL.kit_val ?sv4) (RL.kit_ref (RL.cls_some ?cl0) ?xt_BadRule ?sb4_4 ?sb4_0) (RL.kit_ref (RL.cls_some ?cl1) ?xt_BadTrials ?sb4_4 ?sb4_1) (RL.kit_ref (RL.cls_some ?cl2) ?xt_BadAmounts ?sb4_4 ?sb4_2) (RL.kit_ref (RL.cls_some ?cl3) ?xt_BadNumber ?sb4_4 ?sb4_3) (RL.kit_ref (RL.cls_some ?cl4) ?xt_BadText ?sb4_4 ?sb4_4) (RL.kit_ref (RL.cls_some ?cl5) ?xt_NotFound ?sb4_4 ?sb4_5) ⟨?ec5g, ?ec5k, ?ec5s, ?ec5d, ?ec5a, ?ec5n, ?ec5T, ?ec5m⟩ (RL.exm_ref ?sbR (RL.cls_some ?clR) ?tyR ?sr5) (RL.kit_ref (RL.cls_some ?clR) ?tyR ?sb5_5 ?sr5) (RL.kit_val ?sv5) (RL.kit_ref (RL.cls_some ?cl0) ?xt_BadRule ?sb5_5 ?sb5_0) (RL.kit_ref (RL.cls_some ?cl1) ?xt_BadTrials ?sb5_5 ?sb5_1) (RL.kit_ref (RL.cls_some ?cl2) ?xt_BadAmounts ?sb5_5 ?sb5_2) (RL.kit_ref (RL.cls_some ?cl3) ?xt_BadNumber ?sb5_5 ?sb5_3) (RL.kit_ref (RL.cls_some ?cl4) ?xt_BadText ?sb5_5 ?sb5_4) (RL.kit_ref (RL.cls_some ?cl5) ?xt_NotFound ?sb5_5 ?sb5_5) ?mp ?z_range ?z_list ?z_enumerate ?z_zip ?z_isinstance ?z_int ?z_bool ?z_str ?z_tuple ?z_len ?z_abs ?z_all ?z_sum ?z_max ?z_min ?z_sorted
    (case a_is_int => k_is)
    (case l_is_int => k_is)
    (case c_is_int => k_is)
    (case k_is_int => k_is)
    (case a_common => k_is)
    (case l_common => k_is)
    (case c_common => k_is)
    (case k_common => k_is)
    (case a_is_amount => k_is)
    (case l_is_amount => k_is)
    (case c_is_amount => k_is)
    (case k_is_amount => k_is)
    (case a_is_rule => k_is)
    (case l_is_rule => k_is)
    (case c_is_rule => k_is)
    (case k_is_rule => k_is)
    (case a_is_amounts => k_is)
    (case l_is_amounts => k_is)
    (case c_is_amounts => k_is)
    (case k_is_amounts => k_is)
    (case a_check_rule => k_is)
    (case l_check_rule => k_is)
    (case c_check_rule => k_is)
    (case k_check_rule => k_is)
    (case a_check_amounts => k_is)
    (case l_check_amounts => k_is)
    (case c_check_amounts => k_is)
    (case k_check_amounts => k_is)
    (case a_check_amount => k_is)
    (case l_check_amount => k_is)
    (case c_check_amount => k_is)
    (case k_check_amount => k_is)
    (case a_check_quantity => k_is)
    (case l_check_quantity => k_is)
    (case c_check_quantity => k_is)
    (case k_check_quantity => k_is)
    (case a_lowest => k_is)
    (case l_lowest => k_is)
    (case c_lowest => k_is)
    (case k_lowest => k_is)
    (case a_product => k_is)
    (case l_product => k_is)
    (case c_product => k_is)
    (case k_product => k_is)
    (case a_quotient => k_is)
    (case l_quotient => k_is)
    (case c_quotient => k_is)
    (case k_quotient => k_is)
    (case a_power => k_is)
    (case l_power => k_is)
    (case c_power => k_is)
    (case k_power => k_is)
    (case a_less => k_is)
    (case l_less => k_is)
    (case c_less => k_is)
    (case k_less => k_is)
    (case a_root_of => k_is)
    (case l_root_of => k_is)
    (case c_root_of => k_is)
    (case k_root_of => k_is)
    (case a_products_of => k_is)
    (case l_products_of => k_is)
    (case c_products_of => k_is)
    (case k_products_of => k_is)
    (case a_rate_of => k_is)
    (case l_rate_of => k_is)
    (case c_rate_of => k_is)
    (case k_rate_of => k_is)
    (case a_amount_for => k_is)
    (case l_amount_for => k_is)
    (case c_amount_for => k_is)
    (case k_amount_for => k_is)
    (case a_is_faster => k_is)
    (case l_is_faster => k_is)
    (case c_is_faster => k_is)
    (case k_is_faster => k_is)
    (case a_order_of_rates => k_is)
    (case l_order_of_rates => k_is)
    (case c_order_of_rates => k_is)
    (case k_order_of_rates => k_is)
    (case a_crossing => k_is)
    (case l_crossing => k_is)
    (case c_crossing => k_is)
    (case k_crossing => k_is)
    (case a__law_start => k_is)
    (case l__law_start => k_is)
    (case c__law_start => k_is)
    (case k__law_start => k_is)
    (case a__law_draw => k_is)
    (case l__law_draw => k_is)
    (case c__law_draw => k_is)
    (case k__law_draw => k_is)
    (case a__law_pick => k_is)
    (case l__law_pick => k_is)
    (case c__law_pick => k_is)
    (case k__law_pick => k_is)
    (case a__law_error => k_is)
    (case l__law_error => k_is)
    (case c__law_error => k_is)
    (case k__law_error => k_is)
    (case a__law_true => k_is)
    (case l__law_true => k_is)
    (case c__law_true => k_is)
    (case k__law_true => k_is)
    (case a__law_low => k_is)
    (case l__law_low => k_is)
    (case c__law_low => k_is)
    (case k__law_low => k_is)
    (case a__law_amount => k_is)
    (case l__law_amount => k_is)
    (case c__law_amount => k_is)
    (case k__law_amount => k_is)
    (case a__law_new => k_is)
    (case l__law_new => k_is)
    (case c__law_new => k_is)
    (case k__law_new => k_is)
    (case a__law_rate => k_is)
    (case l__law_rate => k_is)
    (case c__law_rate => k_is)
    (case k__law_rate => k_is)
    (case a__law_less => k_is)
    (case l__law_less => k_is)
    (case c__law_less => k_is)
    (case k__law_less => k_is)
    (case a__law_call => k_is)
    (case l__law_call => k_is)
    (case c__law_call => k_is)
    (case k__law_call => k_is)
    (case a__law_put => k_is)
    (case l__law_put => k_is)
    (case c__law_put => k_is)
    (case k__law_put => k_is)
    (case a__law_ordered => k_is)
    (case l__law_ordered => k_is)
    (case c__law_ordered => k_is)
    (case k__law_ordered => k_is)
    (case a_law => k_is)
    (case l_law => k_is)
    (case c_law => k_is)
    (case k_law => k_is)
    (case xa_BadRule => k_is)
    (case xe_BadRule => k_exc)
    (case xk_BadRule => k_is)
    (case xb_BadRule => k_is)
    (case xt_BadRule => k_is)
    (case xa_BadTrials => k_is)
    (case xe_BadTrials => k_exc)
    (case xk_BadTrials => k_is)
    (case xb_BadTrials => k_is)
    (case xt_BadTrials => k_is)
    (case xa_BadAmounts => k_is)
    (case xe_BadAmounts => k_exc)
    (case xk_BadAmounts => k_is)
    (case xb_BadAmounts => k_is)
    (case xt_BadAmounts => k_is)
    (case xa_BadNumber => k_is)
    (case xe_BadNumber => k_exc)
    (case xk_BadNumber => k_is)
    (case xb_BadNumber => k_is)
    (case xt_BadNumber => k_is)
    (case xa_BadText => k_is)
    (case xe_BadText => k_exc)
    (case xk_BadText => k_is)
    (case xb_BadText => k_is)
    (case xt_BadText => k_is)
    (case xa_NotFound => k_is)
    (case xe_NotFound => k_exc)
    (case xk_NotFound => k_is)
    (case xb_NotFound => k_is)
    (case xt_NotFound => k_is)
    (case xq => k_is)
    (case xv => k_is)
    (case sbR => k_is)
    (case clR => k_is)
    (case tyR => k_is)
    (case cl0 => k_is)
    (case cl1 => k_is)
    (case cl2 => k_is)
    (case cl3 => k_is)
    (case cl4 => k_is)
    (case cl5 => k_is)
    (case ec0g => k_is)
    (case ec0k => k_is)
    (case ec0s => k_is)
    (case ec0d => k_is)
    (case ec0a => k_is)
    (case ec0n => k_is)
    (case ec0T => k_is)
    (case ec0m => k_is)
    (case sr0 => k_is)
    (case sv0 => k_is)
    (case sb0_0 => k_is)
    (case sb0_1 => k_is)
    (case sb0_2 => k_is)
    (case sb0_3 => k_is)
    (case sb0_4 => k_is)
    (case sb0_5 => k_is)
    (case ec1g => k_is)
    (case ec1k => k_is)
    (case ec1s => k_is)
    (case ec1d => k_is)
    (case ec1a => k_is)
    (case ec1n => k_is)
    (case ec1T => k_is)
    (case ec1m => k_is)
    (case sr1 => k_is)
    (case sv1 => k_is)
    (case sb1_0 => k_is)
    (case sb1_1 => k_is)
    (case sb1_2 => k_is)
    (case sb1_3 => k_is)
    (case sb1_4 => k_is)
    (case sb1_5 => k_is)
    (case ec2g => k_is)
    (case ec2k => k_is)
    (case ec2s => k_is)
    (case ec2d => k_is)
    (case ec2a => k_is)
    (case ec2n => k_is)
    (case ec2T => k_is)
    (case ec2m => k_is)
    (case sr2 => k_is)
    (case sv2 => k_is)
    (case sb2_0 => k_is)
    (case sb2_1 => k_is)
    (case sb2_2 => k_is)
    (case sb2_3 => k_is)
    (case sb2_4 => k_is)
    (case sb2_5 => k_is)
    (case ec3g => k_is)
    (case ec3k => k_is)
    (case ec3s => k_is)
    (case ec3d => k_is)
    (case ec3a => k_is)
    (case ec3n => k_is)
    (case ec3T => k_is)
    (case ec3m => k_is)
    (case sr3 => k_is)
    (case sv3 => k_is)
    (case sb3_0 => k_is)
    (case sb3_1 => k_is)
    (case sb3_2 => k_is)
    (case sb3_3 => k_is)
    (case sb3_4 => k_is)
    (case sb3_5 => k_is)
    (case ec4g => k_is)
    (case ec4k => k_is)
    (case ec4s => k_is)
    (case ec4d => k_is)
    (case ec4a => k_is)
    (case ec4n => k_is)
    (case ec4T => k_is)
    (case ec4m => k_is)
    (case sr4 => k_is)
    (case sv4 => k_is)
    (case sb4_0 => k_is)
    (case sb4_1 => k_is)
    (case sb4_2 => k_is)
    (case sb4_3 => k_is)
    (case sb4_4 => k_is)
    (case sb4_5 => k_is)
    (case ec5g => k_is)
    (case ec5k => k_is)
    (case ec5s => k_is)
    (case ec5d => k_is)
    (case ec5a => k_is)
    (case ec5n => k_is)
    (case ec5T => k_is)
    (case ec5m => k_is)
    (case sr5 => k_is)
    (case sv5 => k_is)
    (case sb5_0 => k_is)
    (case sb5_1 => k_is)
    (case sb5_2 => k_is)
    (case sb5_3 => k_is)
    (case sb5_4 => k_is)
    (case sb5_5 => k_is)
    (case mp => k_is)
    (case z_range => k_is)
    (case z_list => k_is)
    (case z_enumerate => k_is)
    (case z_zip => k_is)
    (case z_isinstance => k_is)
    (case z_int => k_is)
    (case z_bool => k_is)
    (case z_str => k_is)
    (case z_tuple => k_is)
    (case z_len => k_is)
    (case z_abs => k_is)
    (case z_all => k_is)
    (case z_sum => k_is)
    (case z_max => k_is)
    (case z_min => k_is)
    (case z_sorted => k_is)
