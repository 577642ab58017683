import PyProof.Rows.All
import Wide.All
import OpenK.AllK
import Wide.FinOn
import HandS.ForMost
import HandS.ForExc
import HandS.TupAny
import HandS.IsInst
import HandS.Style
import HandS.FStr
import HandS.Deep
import HandS.Walk
import HandS.Zip
import HandS.Lambda
import HandS.Wide
import HandS.Defaults
import HandS.HeadHook4
import HandS.HeadWalk
import KE.DataEq
import HandS.ExcCtx
import HandS.ExcOwn
import HandS.HotCalls
import HandS.Comp
import HandS.List
import HandS.ExcIs
import HandS.Text
import HandS.Head0
import HandS.Head1
import HandS.Head2
import HandS.HeadEnd
import HandS.NestedK
import PySem.Challenge.RW_anypressure_k01_nets_pressures_and_rules
set_option Elab.async false
set_option linter.all false
set_option maxRecDepth 100000
set_option maxHeartbeats 4000000
/-! AP1: pure values, how they lie in a heap -/
namespace AP
open PySem PySem.Spec PyProof.Rows L2

/-- pure values; obj n: the n-th mutable thing of the store; scr: the law's script -/
inductive PV where
  | non | bl (b : Bool) | int (i : Int) | str (x : Str) | tup (xs : List PV) | lst (xs : List PV) | obj (n : Nat) | scr (ns : List Int)
  deriving Inhabited
/-- a mutable thing -/
inductive MO where
  | lst (xs : List PV) | ins (c : Nat) (fs : List (Str × PV))
  deriving Inhabited

/-! ### equality of data -/
mutual
def PV.eqv : PV → PV → Bool
  | .non, .non => true
  | .bl a, .bl b => a == b
  | .bl a, .int j => (if a then 1 else 0) == j
  | .int i, .bl b => i == (if b then 1 else 0)
  | .int i, .int j => i == j
  | .str x, .str y => x == y
  | .lst xs, .lst ys => PV.eqvL xs ys
  | .tup xs, .tup ys => PV.eqvL xs ys
  | _, _ => false
def PV.eqvL : List PV → List PV → Bool
  | [], [] => true
  | x :: xs, y :: ys => PV.eqv x y && PV.eqvL xs ys
  | _, _ => false
end
mutual
/-- no mutable thing within, not too deep -/
def PV.flat (n : Nat) : PV → Bool
  | .tup xs => match n with
    | 0 => false
    | m + 1 => PV.flatL m xs
  | .lst xs => match n with
    | 0 => false
    | m + 1 => PV.flatL m xs
  | .obj _ => false
  | .scr _ => false
  | _ => true
def PV.flatL (n : Nat) : List PV → Bool
  | [] => true
  | x :: xs => PV.flat n x && PV.flatL n xs
end
mutual
def PV.toD : PV → PyData
  | .non => .none
  | .bl b => .bool b
  | .int i => .int i
  | .str x => .str x
  | .tup xs => .tuple (PV.toDs xs)
  | .lst xs => .list (PV.toDs xs)
  | .obj _ => .none
  | .scr _ => .none
def PV.toDs : List PV → List PyData
  | [] => []
  | x :: xs => PV.toD x :: PV.toDs xs
end
mutual
theorem PV.eqv_toD : ∀ (a b : PV) (n m : Nat), a.flat n = true → b.flat m = true → PyData.eqv a.toD b.toD = a.eqv b
  | a, b, n, m, ha, hb => by
    cases a <;> cases b <;> first
      | (simp only [PV.toD, PyData.eqv, PV.eqv]; done)
      | (simp [PV.flat] at ha; done)
      | (simp [PV.flat] at hb; done)
      | skip
    all_goals
      rename_i xs ys
      cases n with
      | zero => simp [PV.flat] at ha
      | succ n =>
        cases m with
        | zero => simp [PV.flat] at hb
        | succ m =>
          simp only [PV.flat] at ha hb
          simp only [PV.toD, PyData.eqv, PV.eqv]
          exact PV.eqvL_toDs xs ys n m ha hb
theorem PV.eqvL_toDs : ∀ (a b : List PV) (n m : Nat), PV.flatL n a = true → PV.flatL m b = true → PyData.eqvAll (PV.toDs a) (PV.toDs b) = PV.eqvL a b
  | [], [], _, _, _, _ => by simp only [PV.toDs, PyData.eqvAll, PV.eqvL]
  | [], _ :: _, _, _, _, _ => by simp only [PV.toDs, PyData.eqvAll, PV.eqvL]
  | _ :: _, [], _, _, _, _ => by simp only [PV.toDs, PyData.eqvAll, PV.eqvL]
  | x :: xs, y :: ys, n, m, ha, hb => by
    simp only [PV.flatL, Bool.and_eq_true] at ha hb
    simp only [PV.toDs, PyData.eqvAll, PV.eqvL]
    rw [PV.eqv_toD x y n m ha.1 hb.1, PV.eqvL_toDs xs ys n m ha.2 hb.2]
end

/-! ### how a value lies in a heap -/
/-- a list at a that nobody may change -/
abbrev SqZ (as : List Addr) (Z : Addr → Prop) (H : Hp) (a : Addr) (xs : List V) : Prop := H a = some (.lst xs) ∧ a ∉ as ∧ ¬ Z a
/-- the script's list: known to its object, or an object of the module -/
def ScrAt (K : PySem.W.Frag) (as : List Addr) (Z : Addr → Prop) (H : Hp) (a : Addr) (ns : List Int) : Prop :=
  (∃ o, H a = some (.frz o (.lst (ns.map V.int)))) ∨ SqZ as Z H a (ns.map V.int) ∨
    ∃ (o : Obj) (its : Array Value) (n : Nat), K.lookup a = some o ∧ o.cls = .type "list" ∧ o.dict = none ∧ o.data = .seq its n ∧ its.size ≤ sizeLine ∧ Vals (ns.map V.int) its.toList
theorem ScrAt.sq {K : PySem.W.Frag} {as : List Addr} {Z : Addr → Prop} {H : Hp} {a : Addr} {ns : List Int} (h : ScrAt K as Z H a ns) : SqL K H a (ns.map V.int) := by
  rcases h with ⟨o, h⟩ | h | h
  · exact .inl (.inr ⟨o, h⟩)
  · exact .inl (.inl h.1)
  · exact .inr h
mutual
inductive Rep (K : PySem.W.Frag) (as : List Addr) (Z : Addr → Prop) (H : Hp) : PV → V → Prop
  | non : Rep K as Z H .non .non
  | bl (b : Bool) : Rep K as Z H (.bl b) (.bl b)
  | int (i : Int) : Rep K as Z H (.int i) (.int i)
  | str (x : Str) : Rep K as Z H (.str x) (.str x)
  | tup {xs : List PV} {a : Addr} {vs : List V} : SqT K H a vs → RepL K as Z H xs vs → Rep K as Z H (.tup xs) (.ref a)
  | lst {xs : List PV} {a : Addr} {vs : List V} : SqZ as Z H a vs → RepL K as Z H xs vs → Rep K as Z H (.lst xs) (.ref a)
  | obj {n : Nat} {a : Addr} : as[n]? = some a → Rep K as Z H (.obj n) (.ref a)
  | scr {ns : List Int} {a : Addr} : ScrAt K as Z H a ns → Rep K as Z H (.scr ns) (.ref a)
inductive RepL (K : PySem.W.Frag) (as : List Addr) (Z : Addr → Prop) (H : Hp) : List PV → List V → Prop
  | nil : RepL K as Z H [] []
  | cons {x : PV} {v : V} {xs : List PV} {vs : List V} : Rep K as Z H x v → RepL K as Z H xs vs → RepL K as Z H (x :: xs) (v :: vs)
end
/-- all that was tracked stands as it was -/
abbrev Gr (H H' : Hp) : Prop := ∀ b o, H b = some o → H' b = some o
/-- nothing stands there but a table, perhaps -/
abbrev Nn (H : Hp) (a : Addr) : Prop := ∀ o, H a = some o → ∃ ps, o = .tbl ps
theorem nn_of {H : Hp} {a : Addr} (h : H a = none) : Nn H a := fun o e => by rw [h] at e; cases e
/-- what is no table stays no table -/
abbrev Dm (H H' : Hp) : Prop := ∀ b o, H b = some o → (∀ ps, o ≠ .tbl ps) → ∃ o', H' b = some o' ∧ ∀ ps, o' ≠ .tbl ps
theorem Dm.back {H H' : Hp} (d : Dm H H') {a : Addr} (h : Nn H' a) : Nn H a := fun o e => Classical.byContradiction fun n => by
  obtain ⟨o', e', n'⟩ := d a o e fun ps q => n ⟨ps, q⟩
  obtain ⟨ps, q⟩ := h o' e'
  exact n' ps q
theorem Nn.not {H : Hp} {a : Addr} {o : HO} (h : Nn H a) (e : H a = some o) (n : ∀ ps, o ≠ .tbl ps) : False := by
  obtain ⟨ps, q⟩ := h o e
  exact n ps q
/-- from one heap to the next: what is mutable may change, tables may grow, the rest stands -/
structure Gw (as : List Addr) (H : Hp) (as' : List Addr) (H' : Hp) : Prop where
  pre : ∃ ext, as' = as ++ ext ∧ ∀ a ∈ ext, Nn H a
  keep : ∀ b o, H b = some o → b ∉ as → (∀ ps, o ≠ .tbl ps) → H' b = some o
  dom : Dm H H'
theorem Gw.refl (as : List Addr) (H : Hp) : Gw as H as H := ⟨⟨[], by simp, by simp⟩, fun _ _ h _ _ => h, fun _ o h n => ⟨o, h, n⟩⟩
theorem Gw.of {as : List Addr} {H H' : Hp} (g : Gr H H') : Gw as H as H' := ⟨⟨[], by simp, by simp⟩, fun b o h _ _ => g b o h, fun b o h n => ⟨o, g b o h, n⟩⟩
theorem Gw.trans {as as1 as2 : List Addr} {H H1 H2 : Hp} (a : Gw as H as1 H1) (b : Gw as1 H1 as2 H2) : Gw as H as2 H2 := by
  obtain ⟨e1, rfl, f1⟩ := a.pre
  obtain ⟨e2, rfl, f2⟩ := b.pre
  refine ⟨⟨e1 ++ e2, by simp, fun x hx => ?_⟩, fun x o hx hn ht => ?_, fun x o hx n => ?_⟩
  · rcases List.mem_append.mp hx with h | h
    · exact f1 x h
    · exact a.dom.back (f2 x h)
  · refine b.keep x o (a.keep x o hx hn ht) (fun hm => ?_) ht
    rcases List.mem_append.mp hm with h | h
    · exact hn h
    · exact (f1 x h).not hx ht
  · obtain ⟨o1, h1, n1⟩ := a.dom x o hx n
    exact b.dom x o1 h1 n1
theorem Gw.get {as as' : List Addr} {H H' : Hp} (g : Gw as H as' H') {n : Nat} {a : Addr} (h : as[n]? = some a) : as'[n]? = some a := by
  obtain ⟨e, rfl, _⟩ := g.pre
  have := (List.getElem?_eq_some_iff.mp h).1
  rw [List.getElem?_append_left this]; exact h
theorem Gw.rd {as as' : List Addr} {H H' : Hp} {a : Addr} {u : HO} (g : Gw as H as' H') (h : Rd H a u) (hn : a ∉ as) (ht : ∀ ps, u ≠ .tbl ps) : Rd H' a u := by
  rcases h with h | ⟨o, h⟩
  · exact .inl (g.keep a u h hn ht)
  · exact .inr ⟨o, g.keep a _ h hn (fun ps z => by cases z)⟩
theorem rd_some {H : Hp} {a : Addr} {u : HO} (h : Rd H a u) : ∃ o, H a = some o := by
  rcases h with h | ⟨o, h⟩
  · exact ⟨_, h⟩
  · exact ⟨_, h⟩
/-- the same where some lists (Z) are still changed -/
structure Fl (as : List Addr) (Z : Addr → Prop) (H : Hp) (as' : List Addr) (Z' : Addr → Prop) (H' : Hp) : Prop where
  pre : ∃ ext, as' = as ++ ext ∧ ∀ a ∈ ext, Nn H a
  keep : ∀ b o, H b = some o → b ∉ as → ¬ Z b → (∀ ps, o ≠ .tbl ps) → H' b = some o
  dom : Dm H H'
  zz : ∀ a, Z' a → Z a ∨ Nn H a
theorem Fl.refl (as : List Addr) (Z : Addr → Prop) (H : Hp) : Fl as Z H as Z H := ⟨⟨[], by simp, by simp⟩, fun _ _ h _ _ _ => h, fun _ o h n => ⟨o, h, n⟩, fun _ h => .inl h⟩
theorem Gw.fl {as as' : List Addr} {Z Z' : Addr → Prop} {H H' : Hp} (g : Gw as H as' H') (hz : ∀ a, Z' a → Z a ∨ Nn H a) : Fl as Z H as' Z' H' :=
  ⟨g.pre, fun b o h n _ t => g.keep b o h n t, g.dom, hz⟩
theorem Fl.of {as : List Addr} {Z : Addr → Prop} {H H' : Hp} (g : Gr H H') : Fl as Z H as Z H' := (Gw.of g).fl fun _ h => .inl h
theorem Fl.trans {as as1 as2 : List Addr} {Z Z1 Z2 : Addr → Prop} {H H1 H2 : Hp} (a : Fl as Z H as1 Z1 H1) (b : Fl as1 Z1 H1 as2 Z2 H2) : Fl as Z H as2 Z2 H2 := by
  obtain ⟨e1, rfl, f1⟩ := a.pre
  obtain ⟨e2, rfl, f2⟩ := b.pre
  refine ⟨⟨e1 ++ e2, by simp, fun x hx => ?_⟩, fun x o hx hn hZ ht => ?_, fun x o hx n => ?_, fun x hx => ?_⟩
  · rcases List.mem_append.mp hx with h | h
    · exact f1 x h
    · exact a.dom.back (f2 x h)
  · refine b.keep x o (a.keep x o hx hn hZ ht) (fun hm => ?_) (fun z => ?_) ht
    · rcases List.mem_append.mp hm with h | h
      · exact hn h
      · exact (f1 x h).not hx ht
    · rcases a.zz x z with q | q
      · exact hZ q
      · exact q.not hx ht
  · obtain ⟨o1, h1, n1⟩ := a.dom x o hx n
    exact b.dom x o1 h1 n1
  · rcases b.zz x hx with q | q
    · exact a.zz x q
    · exact .inr (a.dom.back q)
theorem Fl.get {as as' : List Addr} {Z Z' : Addr → Prop} {H H' : Hp} (g : Fl as Z H as' Z' H') {n : Nat} {a : Addr} (h : as[n]? = some a) : as'[n]? = some a := by
  obtain ⟨e, rfl, _⟩ := g.pre
  have := (List.getElem?_eq_some_iff.mp h).1
  rw [List.getElem?_append_left this]; exact h
/-- what is mutable is tracked, and is no tuple -/
def NT (as : List Addr) (Z : Addr → Prop) (H : Hp) : Prop := ∀ a, a ∈ as ∨ Z a → ∃ o, H a = some o ∧ (∀ xs, o ≠ .tup xs) ∧ (∀ ob u, o ≠ .frz ob u) ∧ ∀ ps, o ≠ .tbl ps
theorem Fl.rd {as as' : List Addr} {Z Z' : Addr → Prop} {H H' : Hp} {a : Addr} {u : HO} (g : Fl as Z H as' Z' H') (h : Rd H a u) (hn : a ∉ as) (hZ : ¬ Z a) (ht : ∀ ps, u ≠ .tbl ps) : Rd H' a u := by
  rcases h with h | ⟨o, h⟩
  · exact .inl (g.keep a u h hn hZ ht)
  · exact .inr ⟨o, g.keep a _ h hn hZ (fun ps z => by cases z)⟩
theorem SqZ.step {as as' : List Addr} {Z Z' : Addr → Prop} {H H' : Hp} {a : Addr} {xs : List V} (g : Fl as Z H as' Z' H') (h : SqZ as Z H a xs) : SqZ as' Z' H' a xs := by
  obtain ⟨h, h1, h2⟩ := h
  refine ⟨g.keep a _ h h1 h2 (fun ps z => by cases z), fun hm => ?_, fun z => ?_⟩
  · obtain ⟨e, rfl, f⟩ := g.pre
    rcases List.mem_append.mp hm with q | q
    · exact h1 q
    · exact (f a q).not h (fun ps z => by cases z)
  · rcases g.zz a z with q | q
    · exact h2 q
    · exact q.not h (fun ps z => by cases z)
theorem NT.tup {as : List Addr} {Z : Addr → Prop} {H : Hp} {a : Addr} {xs : List V} (nt : NT as Z H) (h : Rd H a (.tup xs)) : a ∉ as ∧ ¬ Z a := by
  have key : ¬ (a ∈ as ∨ Z a) := fun hm => by
    obtain ⟨o, ho, h1, h2, _⟩ := nt a hm
    rcases h with h | ⟨ob, h⟩
    · rw [h] at ho; cases ho; exact h1 _ rfl
    · rw [h] at ho; cases ho; exact h2 _ _ rfl
  exact ⟨fun q => key (.inl q), fun q => key (.inr q)⟩
theorem SqT.step {K : PySem.W.Frag} {as as' : List Addr} {Z Z' : Addr → Prop} {H H' : Hp} {a : Addr} {xs : List V} (g : Fl as Z H as' Z' H') (nt : NT as Z H) (h : SqT K H a xs) : SqT K H' a xs := by
  rcases h with h | h
  · exact .inl (g.rd h (nt.tup h).1 (nt.tup h).2 (fun ps z => by cases z))
  · exact .inr h
theorem ScrAt.step {K : PySem.W.Frag} {as as' : List Addr} {Z Z' : Addr → Prop} {H H' : Hp} {a : Addr} {ns : List Int} (g : Fl as Z H as' Z' H') (nt : NT as Z H) (h : ScrAt K as Z H a ns) : ScrAt K as' Z' H' a ns := by
  rcases h with ⟨o, h⟩ | h | h
  · have key : ¬ (a ∈ as ∨ Z a) := fun hm => by
      obtain ⟨o', ho, _, h2, _⟩ := nt a hm
      rw [h] at ho; cases ho; exact h2 _ _ rfl
    exact .inl ⟨o, g.keep a _ h (fun q => key (.inl q)) (fun q => key (.inr q)) (fun ps z => by cases z)⟩
  · exact .inr (.inl (SqZ.step g h))
  · exact .inr (.inr h)
mutual
theorem Rep.step {K : PySem.W.Frag} {as as' : List Addr} {Z Z' : Addr → Prop} {H H' : Hp} (g : Fl as Z H as' Z' H') (nt : NT as Z H) : ∀ {x : PV} {v : V}, Rep K as Z H x v → Rep K as' Z' H' x v
  | _, _, .non => .non
  | _, _, .bl b => .bl b
  | _, _, .int i => .int i
  | _, _, .str x => .str x
  | _, _, .tup h r => .tup (SqT.step g nt h) (RepL.step g nt r)
  | _, _, .lst h r => .lst (SqZ.step g h) (RepL.step g nt r)
  | _, _, .obj h => .obj (g.get h)
  | _, _, .scr h => .scr (ScrAt.step g nt h)
theorem RepL.step {K : PySem.W.Frag} {as as' : List Addr} {Z Z' : Addr → Prop} {H H' : Hp} (g : Fl as Z H as' Z' H') (nt : NT as Z H) : ∀ {x : List PV} {v : List V}, RepL K as Z H x v → RepL K as' Z' H' x v
  | _, _, .nil => .nil
  | _, _, .cons h r => .cons (Rep.step g nt h) (RepL.step g nt r)
end
theorem RepL.length {K : PySem.W.Frag} {as : List Addr} {Z : Addr → Prop} {H : Hp} : ∀ {xs : List PV} {vs : List V}, RepL K as Z H xs vs → xs.length = vs.length
  | _, _, .nil => rfl
  | _, _, .cons _ r => by simp [RepL.length r]
theorem RepL.get {K : PySem.W.Frag} {as : List Addr} {Z : Addr → Prop} {H : Hp} : ∀ {xs : List PV} {vs : List V} {i : Nat} {x : PV}, RepL K as Z H xs vs → xs[i]? = some x → ∃ v, vs[i]? = some v ∧ Rep K as Z H x v
  | _, _, _, _, .nil, h => by simp at h
  | _, _, 0, _, .cons h r, e => by simp at e; subst e; exact ⟨_, rfl, h⟩
  | _, _, i + 1, _, .cons h r, e => by
    obtain ⟨v, h1, h2⟩ := RepL.get (i := i) r (by simpa using e)
    exact ⟨v, by simpa using h1, h2⟩
theorem RepL.append {K : PySem.W.Frag} {as : List Addr} {Z : Addr → Prop} {H : Hp} : ∀ {xs ys : List PV} {vs ws : List V}, RepL K as Z H xs vs → RepL K as Z H ys ws → RepL K as Z H (xs ++ ys) (vs ++ ws)
  | _, _, _, _, .nil, s => s
  | _, _, _, _, .cons h r, s => .cons h (RepL.append r s)
theorem RepL.take {K : PySem.W.Frag} {as : List Addr} {Z : Addr → Prop} {H : Hp} : ∀ {xs : List PV} {vs : List V} (n : Nat), RepL K as Z H xs vs → RepL K as Z H (xs.take n) (vs.take n)
  | _, _, 0, _ => by simp; exact .nil
  | _, _, _ + 1, .nil => by simp; exact .nil
  | _, _, n + 1, .cons h r => by simp; exact .cons h (RepL.take n r)
theorem RepL.drop {K : PySem.W.Frag} {as : List Addr} {Z : Addr → Prop} {H : Hp} : ∀ {xs : List PV} {vs : List V} (n : Nat), RepL K as Z H xs vs → RepL K as Z H (xs.drop n) (vs.drop n)
  | _, _, 0, r => by simpa using r
  | _, _, _ + 1, .nil => by simp; exact .nil
  | _, _, n + 1, .cons h r => by simpa using RepL.drop n r
theorem RepL.set {K : PySem.W.Frag} {as : List Addr} {Z : Addr → Prop} {H : Hp} {x : PV} {v : V} (hx : Rep K as Z H x v) : ∀ {xs : List PV} {vs : List V} (n : Nat), RepL K as Z H xs vs → RepL K as Z H (xs.set n x) (vs.set n v)
  | _, _, _, .nil => .nil
  | _, _, 0, .cons _ r => .cons hx r
  | _, _, n + 1, .cons h r => .cons h (RepL.set hx n r)
theorem RepL.one {K : PySem.W.Frag} {as : List Addr} {Z : Addr → Prop} {H : Hp} {xs : List PV} {v : V} (h : RepL K as Z H xs [v]) : ∃ x, xs = [x] ∧ Rep K as Z H x v := by
  cases h with
  | cons h r => cases r; exact ⟨_, rfl, h⟩
mutual
theorem Rep.dp {K : PySem.W.Frag} {as : List Addr} {Z : Addr → Prop} {H : Hp} : ∀ {x : PV} {v : V} (n : Nat), Rep K as Z H x v → x.flat n = true → Dp K H v x.toD
  | _, _, _, .non, _ => .non
  | _, _, _, .bl b, _ => .bl b
  | _, _, _, .int i, _ => .int i
  | _, _, _, .str x, _ => .str x
  | _, _, 0, .tup h r, f => by simp [PV.flat] at f
  | _, _, n + 1, .tup h r, f => by
    simp only [PV.toD]
    exact .tup h (RepL.dp n r (by simpa [PV.flat] using f))
  | _, _, 0, .lst h r, f => by simp [PV.flat] at f
  | _, _, n + 1, .lst h r, f => by
    simp only [PV.toD]
    exact .lst (SqL.of h.1) (RepL.dp n r (by simpa [PV.flat] using f))
  | _, _, _, .obj h, f => by simp [PV.flat] at f
  | _, _, _, .scr h, f => by simp [PV.flat] at f
theorem RepL.dp {K : PySem.W.Frag} {as : List Addr} {Z : Addr → Prop} {H : Hp} : ∀ {x : List PV} {v : List V} (n : Nat), RepL K as Z H x v → PV.flatL n x = true → DpAll K H v (PV.toDs x)
  | _, _, _, .nil, _ => .nil
  | _, _, n, .cons h r, f => by
    simp only [PV.flatL, Bool.and_eq_true] at f
    simp only [PV.toDs]
    exact .cons (Rep.dp n h f.1) (RepL.dp n r f.2)
end
end AP

set_option Elab.async false
set_option linter.all false
set_option maxRecDepth 100000
set_option maxHeartbeats 4000000
set_option exponentiation.threshold 5000
/-! AP2: operations on pure values and the rules that they rest on -/
namespace AP
open PySem PySem.Spec PyProof.Rows L2

def lim : Nat := 100000
theorem lim_ok {n : Nat} (h : n ≤ lim) : n ≤ sizeLine := Nat.le_trans h (by decide)
def big : Nat := 2 ^ 4000
def bnd (i : Int) : Bool := decide (i.natAbs < big)
theorem bnd_of {i : Int} (h : i.natAbs < 2 ^ 400) : bnd i = true := decide_eq_true (Nat.lt_trans h (Nat.pow_lt_pow_right (by decide) (by decide)))

inductive Bop where
  | add | sub | mul | fdiv | mod | pow
  deriving DecidableEq
def Bop.op : Bop → Operator
  | .add => .Add | .sub => .Sub | .mul => .Mult | .fdiv => .FloorDiv | .mod => .Mod | .pow => .Pow
inductive Cop where
  | eq | ne | lt | le | gt | ge | is_ | isnot | in_ | notin
  deriving DecidableEq
def Cop.op : Cop → CmpOp
  | .eq => .Eq | .ne => .NotEq | .lt => .Lt | .le => .LtE | .gt => .Gt | .ge => .GtE | .is_ => .Is | .isnot => .IsNot | .in_ => .In | .notin => .NotIn

/-- a op b -/
def opBin : Bop → PV → PV → Option PV
  | .add, .int i, .int j => some (.int (i + j))
  | .add, .str x, .str y => if x.length + y.length ≤ lim then some (.str (x ++ y)) else none
  | .add, .tup xs, .tup ys => if xs.length + ys.length ≤ lim then some (.tup (xs ++ ys)) else none
  | .add, .lst xs, .lst ys => if xs.length + ys.length ≤ lim then some (.lst (xs ++ ys)) else none
  | .sub, .int i, .int j => some (.int (i - j))
  | .mul, .int i, .int j => if bnd i && bnd j then some (.int (i * j)) else none
  | .mul, .lst xs, .int k => if 0 ≤ k ∧ k ≤ 1000 ∧ xs.length * k.toNat ≤ lim then some (.lst (List.replicate k.toNat xs).flatten) else none
  | .fdiv, .int i, .int j => if j ≠ 0 ∧ (j.natAbs < 1073741824 ∨ (0 < j ∧ bnd j = true)) then some (.int (i.fdiv j)) else none
  | .mod, .int i, .int j => if j ≠ 0 then some (.int (i.fmod j)) else none
  | .pow, .int i, .int j => if 0 ≤ j ∧ j ≤ 1000 ∧ i.natAbs < 2 ^ 64 then some (.int (i ^ j.toNat)) else none
  | _, _, _ => none

/-- a value as it is looked at: a list may be one that is still changed -/
inductive VRep (K : PySem.W.Frag) (as : List Addr) (Z : Addr → Prop) (H : Hp) : PV → V → Prop
  | imm {x : PV} {v : V} : Rep K as Z H x v → VRep K as Z H x v
  | lst {xs : List PV} {a : Addr} {vs : List V} : H a = some (.lst vs) → RepL K as Z H xs vs → VRep K as Z H (.lst xs) (.ref a)
/-- what is known of the mutable things' places -/
structure HZ (as : List Addr) (Z : Addr → Prop) (H : Hp) : Prop where
  nt : NT as Z H
section
variable {K : PySem.W.Frag} {as : List Addr} {Z : Addr → Prop} {H : Hp} {v : V}
theorem VRep.l (h : VRep K as Z H (.lst xs) v) : ∃ a vs, v = .ref a ∧ H a = some (.lst vs) ∧ RepL K as Z H xs vs := by
  cases h with
  | imm h => cases h with
    | lst h r => exact ⟨_, _, rfl, h.1, r⟩
  | lst h r => exact ⟨_, _, rfl, h, r⟩
theorem VRep.t (h : VRep K as Z H (.tup xs) v) : ∃ a vs, v = .ref a ∧ SqT K H a vs ∧ RepL K as Z H xs vs := by
  cases h with
  | imm h => cases h with
    | tup h r => exact ⟨_, _, rfl, h, r⟩
theorem VRep.i {i : Int} (h : VRep K as Z H (.int i) v) : v = .int i := by
  cases h with
  | imm h => cases h; rfl
theorem VRep.s {x : Str} (h : VRep K as Z H (.str x) v) : v = .str x := by
  cases h with
  | imm h => cases h; rfl
theorem VRep.b {x : Bool} (h : VRep K as Z H (.bl x) v) : v = .bl x := by
  cases h with
  | imm h => cases h; rfl
theorem VRep.n (h : VRep K as Z H .non v) : v = .non := by
  cases h with
  | imm h => cases h; rfl
theorem VRep.sc {ns : List Int} (h : VRep K as Z H (.scr ns) v) : ∃ a, v = .ref a ∧ ScrAt K as Z H a ns := by
  cases h with
  | imm h => cases h with
    | scr h => exact ⟨_, rfl, h⟩
theorem gr_new {p : Addr} {o : HO} (h : H p = none) : Gr H (upd H p o) := fun b u e => by
  rw [upd_ne (ne_of_none e h)]; exact e
theorem Gr.refl (H : Hp) : Gr H H := fun _ _ h => h
theorem HZ.free (z : HZ as Z H) {p : Addr} (h : H p = none) : p ∉ as ∧ ¬ Z p := by
  constructor
  · intro m
    obtain ⟨o, e, _⟩ := z.nt p (.inl m)
    rw [h] at e; cases e
  · intro m
    obtain ⟨o, e, _⟩ := z.nt p (.inr m)
    rw [h] at e; cases e
theorem HZ.rep (z : HZ as Z H) {H' : Hp} (g : Gr H H') {x : PV} (h : Rep K as Z H x v) : Rep K as Z H' x v := Rep.step (Fl.of g) z.nt h
theorem HZ.repL (z : HZ as Z H) {H' : Hp} (g : Gr H H') {x : List PV} {vs : List V} (h : RepL K as Z H x vs) : RepL K as Z H' x vs := RepL.step (Fl.of g) z.nt h
theorem HZ.newL (z : HZ as Z H) {p : Addr} (h : H p = none) {xs : List PV} {vs : List V} (r : RepL K as Z H xs vs) : Rep K as Z (upd H p (.lst vs)) (.lst xs) (.ref p) :=
  .lst ⟨upd_same, z.free h⟩ (z.repL (gr_new h) r)
theorem HZ.newT (z : HZ as Z H) {p : Addr} (h : H p = none) {xs : List PV} {vs : List V} (r : RepL K as Z H xs vs) : Rep K as Z (upd H p (.tup vs)) (.tup xs) (.ref p) :=
  .tup (SqT.of upd_same) (z.repL (gr_new h) r)
theorem HZ.step (z : HZ as Z H) {H' : Hp} (g : Gr H H') : HZ as Z H' :=
  ⟨fun a h => let ⟨o, e, q⟩ := z.nt a h; ⟨o, g a o e, q⟩⟩
end

/-- what an operation's rule gives for pure values -/
def OpV (K : PySem.W.Frag) (r : R2) (f : PV → PV → Option PV) : Prop :=
  ∀ (as : List Addr) (Z : Addr → Prop) (H : Hp) (a b c : PV) (x y : V) (Q : VK), HZ as Z H → VRep K as Z H a x → VRep K as Z H b y → f a b = some c → (∀ v H', Gr H H' → Rep K as Z H' c v → Q v H') → r x y H Q
def UnV (K : PySem.W.Frag) (r : V → Hp → VK → Prop) (f : PV → Option PV) : Prop :=
  ∀ (as : List Addr) (Z : Addr → Prop) (H : Hp) (a c : PV) (x : V) (Q : VK), HZ as Z H → VRep K as Z H a x → f a = some c → (∀ v H', Gr H H' → Rep K as Z H' c v → Q v H') → r x H Q
section
variable {X : Cx}
theorem RepL.rep {K : PySem.W.Frag} {as : List Addr} {Z : Addr → Prop} {H : Hp} {xs : List PV} {vs : List V} (h : RepL K as Z H xs vs) : ∀ k : Nat, RepL K as Z H (List.replicate k xs).flatten (List.replicate k vs).flatten
  | 0 => .nil
  | k + 1 => by
    rw [List.replicate_succ, List.replicate_succ, List.flatten_cons, List.flatten_cons]
    exact RepL.append h (RepL.rep h k)
theorem bin_add : ∃ r, OpR X (binaryOp .Add) r ∧ OpV X.K r (opBin .add) := by
  refine ⟨_, (op_add.or op_add_str).or (op_catA.or op_cat), ?_⟩
  intro as Z H a b c x y Q z ra rb hf hq
  unfold opBin at hf
  split at hf <;> first | (cases hf; done) | skip
  all_goals first | (rename_i h0; cases h0; done) | skip
  · cases hf
    rename_i i j _
    rw [ra.i, rb.i]
    exact .inl (.inl ⟨i, j, rfl, rfl, hq _ _ (Gr.refl H) (.int _)⟩)
  · split at hf
    · cases hf
      rename_i h
      rw [ra.s, rb.s]
      exact .inl (.inr ⟨_, _, rfl, rfl, lim_ok h, hq _ _ (Gr.refl H) (.str _)⟩)
    · cases hf
  · split at hf
    · cases hf
      rename_i xs ys _ h
      obtain ⟨p, vs, rfl, h1, r1⟩ := ra.t
      obtain ⟨q, ws, rfl, h2, r2⟩ := rb.t
      refine .inr (.inl ⟨p, q, vs, ws, rfl, rfl, h1, h2, lim_ok (by rw [← r1.length, ← r2.length]; exact h), fun e => ?_, fun _ e => ?_, fun _ _ n hn => ?_⟩)
      · subst e
        cases r1
        exact hq _ _ (Gr.refl H) (.tup h2 r2)
      · subst e
        cases r2
        refine hq _ _ (Gr.refl H) ?_
        rw [List.append_nil]
        exact .tup h1 r1
      · exact hq _ _ (gr_new hn) (z.newT hn (r1.append r2))
    · cases hf
  · split at hf
    · cases hf
      rename_i xs ys _ h
      obtain ⟨p, vs, rfl, h1, r1⟩ := ra.l
      obtain ⟨q, ws, rfl, h2, r2⟩ := rb.l
      exact .inr (.inr ⟨p, q, vs, ws, rfl, rfl, h1, h2, lim_ok (by rw [← r1.length, ← r2.length]; exact h), fun n hn => hq _ _ (gr_new hn) (z.newL hn (r1.append r2))⟩)
    · cases hf
theorem big_eq : big = 2 ^ 4000 := rfl
theorem bnd_lt {i : Int} (h : bnd i = true) : i.natAbs < 2 ^ 4000 := of_decide_eq_true h
theorem bin_sub : ∃ r, OpR X (binaryOp .Sub) r ∧ OpV X.K r (opBin .sub) := by
  refine ⟨_, op_sub, ?_⟩
  intro as Z H a b c x y Q z ra rb hf hq
  unfold opBin at hf
  split at hf <;> first | (cases hf; done) | skip
  all_goals first | (rename_i h0; cases h0; done) | skip
  cases hf
  rw [ra.i, rb.i]
  exact ⟨_, _, rfl, rfl, hq _ _ (Gr.refl H) (.int _)⟩
theorem bin_mul : ∃ r, OpR X (binaryOp .Mult) r ∧ OpV X.K r (opBin .mul) := by
  refine ⟨_, op_mulW.or op_rep, ?_⟩
  intro as Z H a b c x y Q z ra rb hf hq
  unfold opBin at hf
  split at hf <;> first | (cases hf; done) | skip
  all_goals first | (rename_i h0; cases h0; done) | skip
  · split at hf
    · cases hf
      rename_i i j _ h
      rw [Bool.and_eq_true] at h
      rw [ra.i, rb.i]
      exact .inl ⟨i, j, rfl, rfl, wide_mul (bnd_lt h.1) (bnd_lt h.2) (by decide) (by decide) (by decide), hq _ _ (Gr.refl H) (.int _)⟩
    · cases hf
  · split at hf
    · cases hf
      rename_i xs k _ h
      obtain ⟨h1, h2, h3⟩ := h
      obtain ⟨p, vs, rfl, e1, r1⟩ := ra.l
      rw [rb.i]
      exact .inr ⟨p, k, vs, rfl, rfl, e1, by omega, by omega, lim_ok (by rw [← r1.length]; exact h3), fun n hn => hq _ _ (gr_new hn) (z.newL hn (r1.rep _))⟩
    · cases hf
theorem bin_fdiv : ∃ r, OpR X (binaryOp .FloorDiv) r ∧ OpV X.K r (opBin .fdiv) := by
  refine ⟨_, op_fdivN.or op_fdivW, ?_⟩
  intro as Z H a b c x y Q z ra rb hf hq
  unfold opBin at hf
  split at hf <;> first | (cases hf; done) | skip
  all_goals first | (rename_i h0; cases h0; done) | skip
  split at hf
  · cases hf
    rename_i i j _ h
    rw [ra.i, rb.i]
    obtain ⟨h1, h2⟩ := h
    rcases h2 with h2 | ⟨h2, h3⟩
    · exact .inl ⟨i, j, rfl, rfl, ⟨h1, h2⟩, hq _ _ (Gr.refl H) (.int _)⟩
    · refine .inr ⟨i, j, rfl, rfl, wide_div h2 (bnd_lt h3) (by decide) (by decide), ?_⟩
      show Q (.int (i / j)) H
      rw [← Int.fdiv_eq_ediv_of_nonneg i (Int.le_of_lt h2)]
      exact hq _ _ (Gr.refl H) (.int _)
  · cases hf
theorem bin_mod : ∃ r, OpR X (binaryOp .Mod) r ∧ OpV X.K r (opBin .mod) := by
  refine ⟨_, op_modN, ?_⟩
  intro as Z H a b c x y Q z ra rb hf hq
  unfold opBin at hf
  split at hf <;> first | (cases hf; done) | skip
  all_goals first | (rename_i h0; cases h0; done) | skip
  split at hf
  · cases hf
    rename_i i j _ h
    rw [ra.i, rb.i]
    exact ⟨i, j, rfl, rfl, h, hq _ _ (Gr.refl H) (.int _)⟩
  · cases hf
theorem bin_pow : ∃ r, OpR X (binaryOp .Pow) r ∧ OpV X.K r (opBin .pow) := by
  refine ⟨_, op_pow, ?_⟩
  intro as Z H a b c x y Q z ra rb hf hq
  unfold opBin at hf
  split at hf <;> first | (cases hf; done) | skip
  all_goals first | (rename_i h0; cases h0; done) | skip
  split at hf
  · cases hf
    rename_i i j _ h
    rw [ra.i, rb.i]
    exact ⟨i, j, rfl, rfl, ⟨h.1, by omega, h.2.2⟩, hq _ _ (Gr.refl H) (.int _)⟩
  · cases hf
theorem bin_ok (o : Bop) : ∃ r, OpR X (binaryOp o.op) r ∧ OpV X.K r (opBin o) := by
  cases o
  · exact bin_add
  · exact bin_sub
  · exact bin_mul
  · exact bin_fdiv
  · exact bin_mod
  · exact bin_pow
end

/-! ### comparisons -/
/-- the depth to which == looks -/
abbrev deep : Nat := 12
def PV.isIn (x : PV) : PV → Option Bool
  | .lst ys => if x.flat deep && PV.flatL deep ys then some (ys.any fun y => y.eqv x) else none
  | .tup ys => if x.flat deep && PV.flatL deep ys then some (ys.any fun y => y.eqv x) else none
  | .str y => match x with
    | .str x => some (!(Builtin.Str.occurrences y x 0 y.length 1).isEmpty)
    | _ => none
  | _ => none
def PV.isS : PV → PV → Option Bool
  | .non, .non => some true
  | .bl _, .non => some false
  | .int _, .non => some false
  | .str _, .non => some false
  | .tup _, .non => some false
  | .lst _, .non => some false
  | .bl a, .bl b => some (a == b)
  | _, _ => none
def opCmp : Cop → PV → PV → Option Bool
  | .eq, a, b => if a.flat deep && b.flat deep then some (a.eqv b) else none
  | .ne, a, b => if a.flat deep && b.flat deep then some (!a.eqv b) else none
  | .lt, .int i, .int j => some (decide (i < j))
  | .le, .int i, .int j => some (decide (i ≤ j))
  | .gt, .int i, .int j => some (decide (j < i))
  | .ge, .int i, .int j => some (decide (j ≤ i))
  | .is_, a, b => a.isS b
  | .isnot, a, b => (a.isS b).map (!·)
  | .in_, a, b => a.isIn b
  | .notin, a, b => (a.isIn b).map (!·)
  | _, _, _ => none
mutual
theorem PV.plain_toD : ∀ (a : PV), a.toD.plain = true
  | .non => rfl
  | .bl _ => rfl
  | .int _ => rfl
  | .str _ => rfl
  | .tup xs => by simp only [PV.toD, PyData.plain]; exact PV.plain_toDs xs
  | .lst xs => by simp only [PV.toD, PyData.plain]; exact PV.plain_toDs xs
  | .obj _ => rfl
  | .scr _ => rfl
theorem PV.plain_toDs : ∀ (a : List PV), PyData.plainAll (PV.toDs a) = true
  | [] => by simp only [PV.toDs, PyData.plainAll]
  | x :: xs => by simp only [PV.toDs, PyData.plainAll, PV.plain_toD x, PV.plain_toDs xs, Bool.and_self]
end
mutual
theorem PV.depth_toD : ∀ (a : PV) (n : Nat), a.flat n = true → a.toD.depth ≤ n + 1
  | .non, _, _ => by simp [PV.toD, PyData.depth]
  | .bl _, _, _ => by simp [PV.toD, PyData.depth]
  | .int _, _, _ => by simp [PV.toD, PyData.depth]
  | .str _, _, _ => by simp [PV.toD, PyData.depth]
  | .tup xs, 0, h => by simp [PV.flat] at h
  | .tup xs, n + 1, h => by
    have := PV.depth_toDs xs n (by simpa [PV.flat] using h)
    simp only [PV.toD, PyData.depth]; omega
  | .lst xs, 0, h => by simp [PV.flat] at h
  | .lst xs, n + 1, h => by
    have := PV.depth_toDs xs n (by simpa [PV.flat] using h)
    simp only [PV.toD, PyData.depth]; omega
  | .obj _, _, h => by simp [PV.flat] at h
  | .scr _, _, h => by simp [PV.flat] at h
theorem PV.depth_toDs : ∀ (a : List PV) (n : Nat), PV.flatL n a = true → PyData.depthAll (PV.toDs a) ≤ n + 1
  | [], _, _ => by simp [PV.toDs, PyData.depthAll]
  | x :: xs, n, h => by
    simp only [PV.flatL, Bool.and_eq_true] at h
    have h1 := PV.depth_toD x n h.1
    have h2 := PV.depth_toDs xs n h.2
    simp only [PV.toDs, PyData.depthAll]; omega
end
theorem PV.flat_mono : True := trivial
section
variable {K : PySem.W.Frag} {as : List Addr} {Z : Addr → Prop} {H : Hp}
theorem VRep.dp {x : PV} {v : V} {n : Nat} (h : VRep K as Z H x v) (f : x.flat n = true) : Dp K H v x.toD := by
  cases h with
  | imm h => exact h.dp n f
  | lst h r =>
    cases n with
    | zero => simp [PV.flat] at f
    | succ n =>
      simp only [PV.toD]
      exact .lst (SqL.of h) (r.dp n (by simpa [PV.flat] using f))
end
def CmV (K : PySem.W.Frag) (r : R2) (f : PV → PV → Option Bool) : Prop :=
  ∀ (as : List Addr) (Z : Addr → Prop) (H : Hp) (a b : PV) (c : Bool) (x y : V) (Q : VK), HZ as Z H → VRep K as Z H a x → VRep K as Z H b y → f a b = some c → Q (.bl c) H → r x y H Q
section
variable {X : Cx}
def rEqP (K : PySem.W.Frag) : R2 := fun x y H Q => ∃ d e, Dp K H x d ∧ Dp K H y e ∧ d.plain = true ∧ e.plain = true ∧ d.depth ≤ 60 ∧ Q (.bl (PyData.eqv d e)) H
def rNeP (K : PySem.W.Frag) : R2 := fun x y H Q => ∃ d e, Dp K H x d ∧ Dp K H y e ∧ d.plain = true ∧ e.plain = true ∧ d.depth ≤ 60 ∧ Q (.bl (!PyData.eqv d e)) H
theorem op_eqP (hu : X.A.units + 64 < cLine) : OpR X (compareOp .Eq) (rEqP X.K) := by
  intro pins s σ H x y v u Q I rx ry h
  obtain ⟨d, e, hd, he, sd, se, dd, q⟩ := h
  obtain ⟨as, r1⟩ := Dp.reads I d x v hd rx
  obtain ⟨bs, r2⟩ := Dp.reads I e y u he ry
  exact SeqAt.eq_plain r1 r2 sd se (by have : min d.depth e.depth ≤ d.depth := Nat.min_le_left _ _; omega) ⟨.bl _, H, I, rfl, q⟩
theorem op_neP (hu : X.A.units + 64 < cLine) : OpR X (compareOp .NotEq) (rNeP X.K) := by
  intro pins s σ H x y v u Q I rx ry h
  obtain ⟨d, e, hd, he, sd, se, dd, q⟩ := h
  obtain ⟨as, r1⟩ := Dp.reads I d x v hd rx
  obtain ⟨bs, r2⟩ := Dp.reads I e y u he ry
  exact SeqAt.ne_plain r1 r2 sd se (by have : min d.depth e.depth ≤ d.depth := Nat.min_le_left _ _; omega) ⟨.bl _, H, I, rfl, q⟩
def rInP (K : PySem.W.Frag) (neg : Bool) : R2 := fun x y H Q => ∃ d ds, Dp K H x d ∧ (Dp K H y (.list ds) ∨ Dp K H y (.tuple ds)) ∧ d.plain = true ∧ PyData.plainAll ds = true ∧ d.depth ≤ 60 ∧
  Q (.bl (if neg then !(ds.any fun z => PyData.eqv z d) else ds.any fun z => PyData.eqv z d)) H
theorem op_inP (hu : X.A.units + 64 < cLine) : OpR X (compareOp .In) (rInP X.K false) := by
  intro pins s σ H x y v u Q I rx ry h
  obtain ⟨d, ds, hd, he, sd, se, dd, q⟩ := h
  obtain ⟨as, r1⟩ := Dp.reads I d x v hd rx
  have hm : X.A.units + 1 + min (PyData.depthAll ds) d.depth < cLine := by have : min (PyData.depthAll ds) d.depth ≤ d.depth := Nat.min_le_right _ _; omega
  rcases he with he | he
  · obtain ⟨bs, r2⟩ := Dp.reads I _ y u he ry
    exact SeqAt.in_list_data r2 r1 se sd hm ⟨.bl _, H, I, rfl, q⟩
  · obtain ⟨bs, r2⟩ := Dp.reads I _ y u he ry
    exact SeqAt.in_tuple_data r2 r1 se sd hm ⟨.bl _, H, I, rfl, q⟩
theorem op_notInP (hu : X.A.units + 64 < cLine) : OpR X (compareOp .NotIn) (rInP X.K true) := by
  intro pins s σ H x y v u Q I rx ry h
  obtain ⟨d, ds, hd, he, sd, se, dd, q⟩ := h
  obtain ⟨as, r1⟩ := Dp.reads I d x v hd rx
  have hm : X.A.units + 1 + min (PyData.depthAll ds) d.depth < cLine := by have : min (PyData.depthAll ds) d.depth ≤ d.depth := Nat.min_le_right _ _; omega
  rcases he with he | he
  · obtain ⟨bs, r2⟩ := Dp.reads I _ y u he ry
    exact SeqAt.notIn_list_data r2 r1 se sd hm ⟨.bl _, H, I, rfl, q⟩
  · obtain ⟨bs, r2⟩ := Dp.reads I _ y u he ry
    exact SeqAt.notIn_tuple_data r2 r1 se sd hm ⟨.bl _, H, I, rfl, q⟩
theorem any_toDs (x : PV) (n m : Nat) (hx : x.flat n = true) : ∀ ys : List PV, PV.flatL m ys = true → ((PV.toDs ys).any fun z => PyData.eqv z x.toD) = ys.any fun y => y.eqv x
  | [], _ => by simp [PV.toDs]
  | y :: ys, h => by
    simp only [PV.flatL, Bool.and_eq_true] at h
    simp only [PV.toDs, List.any_cons]
    rw [PV.eqv_toD y x m n h.1 hx, any_toDs x n m hx ys h.2]
theorem in_dp {K : PySem.W.Frag} {as : List Addr} {Z : Addr → Prop} {H : Hp} {b : PV} {y : V} {ys : List PV} (hb : b = .lst ys ∨ b = .tup ys) (rb : VRep K as Z H b y) (f : PV.flatL deep ys = true) :
    Dp K H y (.list (PV.toDs ys)) ∨ Dp K H y (.tuple (PV.toDs ys)) := by
  rcases hb with rfl | rfl
  · have := rb.dp (n := deep + 1) (by simpa [PV.flat] using f)
    exact .inl (by simpa [PV.toD] using this)
  · have := rb.dp (n := deep + 1) (by simpa [PV.flat] using f)
    exact .inr (by simpa [PV.toD] using this)
theorem is_vals {K : PySem.W.Frag} {as : List Addr} {Z : Addr → Prop} {H : Hp} {a b : PV} {c : Bool} {x y : V} (ra : VRep K as Z H a x) (rb : VRep K as Z H b y) (h : a.isS b = some c) :
    (y = .non ∧ c = decide (x = .non)) ∨ ∃ p q : Bool, x = .bl p ∧ y = .bl q ∧ c = decide (p = q) := by
  unfold PV.isS at h
  split at h <;> first | (cases h; done) | skip
  · cases h
    rw [ra.n, rb.n]; exact .inl ⟨rfl, rfl⟩
  · cases h
    rw [ra.b, rb.n]; exact .inl ⟨rfl, rfl⟩
  · cases h
    rw [ra.i, rb.n]; exact .inl ⟨rfl, rfl⟩
  · cases h
    rw [ra.s, rb.n]; exact .inl ⟨rfl, rfl⟩
  · cases h
    obtain ⟨_, _, rfl, _⟩ := ra.t
    rw [rb.n]; exact .inl ⟨rfl, rfl⟩
  · cases h
    obtain ⟨_, _, rfl, _⟩ := ra.l
    rw [rb.n]; exact .inl ⟨rfl, rfl⟩
  · rename_i p q
    cases h
    rw [ra.b, rb.b]
    exact .inr ⟨p, q, rfl, rfl, by cases p <;> cases q <;> rfl⟩
theorem cmp_ok (o : Cop) (hu : X.A.units + 64 < cLine) : ∃ r, OpR X (compareOp o.op) r ∧ CmV X.K r (opCmp o) := by
  cases o
  case eq =>
    refine ⟨_, op_eqP hu, ?_⟩
    intro as Z H a b c x y Q z ra rb hf hq
    simp only [opCmp] at hf
    split at hf
    · rename_i h
      rw [Bool.and_eq_true] at h
      cases hf
      refine ⟨_, _, ra.dp h.1, rb.dp h.2, PV.plain_toD a, PV.plain_toD b, Nat.le_trans (PV.depth_toD a _ h.1) (by decide), ?_⟩
      rw [PV.eqv_toD a b _ _ h.1 h.2]; exact hq
    · cases hf
  case ne =>
    refine ⟨_, op_neP hu, ?_⟩
    intro as Z H a b c x y Q z ra rb hf hq
    simp only [opCmp] at hf
    split at hf
    · rename_i h
      rw [Bool.and_eq_true] at h
      cases hf
      refine ⟨_, _, ra.dp h.1, rb.dp h.2, PV.plain_toD a, PV.plain_toD b, Nat.le_trans (PV.depth_toD a _ h.1) (by decide), ?_⟩
      rw [PV.eqv_toD a b _ _ h.1 h.2]; exact hq
    · cases hf
  case lt =>
    refine ⟨_, op_lt, ?_⟩
    intro as Z H a b c x y Q z ra rb hf hq
    cases a <;> cases b <;> simp only [opCmp] at hf <;> cases hf
    rw [ra.i, rb.i]; exact ⟨_, _, rfl, rfl, hq⟩
  case le =>
    refine ⟨_, op_le, ?_⟩
    intro as Z H a b c x y Q z ra rb hf hq
    cases a <;> cases b <;> simp only [opCmp] at hf <;> cases hf
    rw [ra.i, rb.i]; exact ⟨_, _, rfl, rfl, hq⟩
  case gt =>
    refine ⟨_, op_gt, ?_⟩
    intro as Z H a b c x y Q z ra rb hf hq
    cases a <;> cases b <;> simp only [opCmp] at hf <;> cases hf
    rw [ra.i, rb.i]; exact ⟨_, _, rfl, rfl, hq⟩
  case ge =>
    refine ⟨_, op_ge, ?_⟩
    intro as Z H a b c x y Q z ra rb hf hq
    cases a <;> cases b <;> simp only [opCmp] at hf <;> cases hf
    rw [ra.i, rb.i]; exact ⟨_, _, rfl, rfl, hq⟩
  case is_ =>
    refine ⟨_, op_isN.or op_isBl, ?_⟩
    intro as Z H a b c x y Q z ra rb hf hq
    simp only [opCmp] at hf
    rcases is_vals ra rb hf with ⟨h, rfl⟩ | ⟨p, q, h1, h2, rfl⟩
    · exact .inl ⟨h, hq⟩
    · exact .inr ⟨p, q, h1, h2, hq⟩
  case isnot =>
    refine ⟨_, op_notN.or op_notBl, ?_⟩
    intro as Z H a b c x y Q z ra rb hf hq
    simp only [opCmp] at hf
    obtain ⟨d, hd, rfl⟩ := Option.map_eq_some_iff.mp hf
    rcases is_vals ra rb hd with ⟨h, rfl⟩ | ⟨p, q, h1, h2, rfl⟩
    · exact .inl ⟨h, hq⟩
    · exact .inr ⟨p, q, h1, h2, hq⟩
  case in_ =>
    refine ⟨_, (op_inP hu).or op_in_str, ?_⟩
    intro as Z H a b c x y Q z ra rb hf hq
    simp only [opCmp, PV.isIn] at hf
    cases b <;> simp only at hf <;> first | (cases hf; done) | skip
    · cases a <;> simp only at hf <;> first | (cases hf; done) | skip
      cases hf
      rw [ra.s, rb.s]; exact .inr ⟨_, _, rfl, rfl, hq⟩
    all_goals
      split at hf
      · rename_i h
        rw [Bool.and_eq_true] at h
        cases hf
        refine .inl ⟨_, _, ra.dp h.1, in_dp (by first | exact .inl rfl | exact .inr rfl) rb h.2, PV.plain_toD a, PV.plain_toDs _, Nat.le_trans (PV.depth_toD a _ h.1) (by decide), ?_⟩
        rw [any_toDs a _ _ h.1 _ h.2]; exact hq
      · cases hf
  case notin =>
    refine ⟨_, (op_notInP hu).or op_notin_str, ?_⟩
    intro as Z H a b c x y Q z ra rb hf hq
    obtain ⟨d, hd, e⟩ := Option.map_eq_some_iff.mp (show (a.isIn b).map (!·) = some c from hf)
    subst e
    simp only [PV.isIn] at hd
    cases b <;> simp only at hd <;> first | (cases hd; done) | skip
    · cases a <;> simp only at hd <;> first | (cases hd; done) | skip
      rw [← Option.some.inj hd] at hq
      rw [ra.s, rb.s]; exact .inr ⟨_, _, rfl, rfl, hq⟩
    all_goals
      split at hd
      · rename_i h
        rw [Bool.and_eq_true] at h
        rw [← Option.some.inj hd] at hq
        refine .inl ⟨_, _, ra.dp h.1, in_dp (by first | exact .inl rfl | exact .inr rfl) rb h.2, PV.plain_toD a, PV.plain_toDs _, Nat.le_trans (PV.depth_toD a _ h.1) (by decide), ?_⟩
        rw [any_toDs a _ _ h.1 _ h.2]; exact hq
      · cases hd
end
end AP

set_option Elab.async false
set_option linter.all false
set_option maxRecDepth 100000
set_option maxHeartbeats 4000000
set_option exponentiation.threshold 5000
/-! AP3: subscripts, built-in calls -/
namespace AP
open PySem PySem.Spec PyProof.Rows L2

def cut {α : Type} (xs : List α) (lo hi : Option Int) : List α := (xs.drop (HT.sIx xs.length 0 lo)).take (HT.sIx xs.length xs.length hi - HT.sIx xs.length 0 lo)
def idxV : PV → PV → Option PV
  | .tup xs, .int i => atI xs i
  | .lst xs, .int i => atI xs i
  | .scr ns, .int i => (atI ns i).map .int
  | .str z, .int i => if z.length ≤ lim then (atI z.cps.toList i).map fun c => .str ⟨#[c]⟩ else none
  | _, _ => none
def sliceV (lo hi : Option Int) : PV → Option PV
  | .tup xs => some (.tup (cut xs lo hi))
  | .lst xs => some (.lst (cut xs lo hi))
  | .str z => if z.length ≤ lim then some (.str (cutS z lo hi)) else none
  | _ => none
def revV : PV → Option PV
  | .tup xs => some (.tup xs.reverse)
  | .lst xs => some (.lst xs.reverse)
  | _ => none
section
variable {K : PySem.W.Frag} {as : List Addr} {Z : Addr → Prop} {H : Hp}
theorem RepL.at {xs : List PV} {vs : List V} {i : Int} {x : PV} (r : RepL K as Z H xs vs) (h : atI xs i = some x) : ∃ v, atI vs i = some v ∧ Rep K as Z H x v := by
  unfold atI at h ⊢
  rw [← r.length]
  obtain ⟨j, hj, h⟩ := Option.bind_eq_some_iff.mp h
  rw [hj]
  exact r.get h
theorem RepL.cut {xs : List PV} {vs : List V} (lo hi : Option Int) (r : RepL K as Z H xs vs) : RepL K as Z H (cut xs lo hi) (cutV vs lo hi) := by
  unfold AP.cut cutV
  rw [← r.length]
  exact (r.drop _).take _
theorem RepL.reverse {xs : List PV} {vs : List V} (r : RepL K as Z H xs vs) : RepL K as Z H xs.reverse vs.reverse := by
  induction xs generalizing vs with
  | nil => cases r; exact .nil
  | cons x xs ih =>
    cases r with
    | cons h t =>
      rw [List.reverse_cons, List.reverse_cons]
      exact (ih t).append (.cons h .nil)
end
section
variable {X : Cx}
theorem idx_ok : ∃ r, IxR X r ∧ OpV X.K r idxV := by
  refine ⟨_, ix_seq, ?_⟩
  intro as Z H a b c x y Q z ra rb hf hq
  unfold idxV at hf
  split at hf
  · obtain ⟨p, vs, rfl, h1, r1⟩ := ra.t
    rw [rb.i]
    obtain ⟨v, hv, rv⟩ := r1.at hf
    exact .inr (.inl ⟨p, vs, _, v, rfl, rfl, h1, hv, hq _ _ (Gr.refl H) rv⟩)
  · obtain ⟨p, vs, rfl, h1, r1⟩ := ra.l
    rw [rb.i]
    obtain ⟨v, hv, rv⟩ := r1.at hf
    exact .inl ⟨p, vs, _, v, rfl, rfl, SqL.of h1, hv, hq _ _ (Gr.refl H) rv⟩
  · rename_i ns i
    obtain ⟨p, rfl, h1⟩ := ra.sc
    rw [rb.i]
    obtain ⟨n, hn, rfl⟩ := Option.map_eq_some_iff.mp hf
    refine .inl ⟨p, ns.map V.int, _, .int n, rfl, rfl, h1.sq, ?_, hq _ _ (Gr.refl H) (.int _)⟩
    unfold atI at hn ⊢
    obtain ⟨j, hj, h⟩ := Option.bind_eq_some_iff.mp hn
    rw [List.length_map, hj]
    simp [h]
  · split at hf
    · rename_i zz i hz
      obtain ⟨c0, hn, rfl⟩ := Option.map_eq_some_iff.mp hf
      rw [ra.s, rb.i]
      exact .inr (.inr ⟨zz, i, c0, rfl, rfl, lim_ok hz, hn, hq _ _ (Gr.refl H) (.str _)⟩)
    · cases hf
  · cases hf
def SlV (K : PySem.W.Frag) (r : V → Option Int → Option Int → Hp → VK → Prop) (f : Option Int → Option Int → PV → Option PV) : Prop :=
  ∀ (as : List Addr) (Z : Addr → Prop) (H : Hp) (a c : PV) (lo hi : Option Int) (x : V) (Q : VK), HZ as Z H → VRep K as Z H a x → f lo hi a = some c → (∀ v H', Gr H H' → Rep K as Z H' c v → Q v H') → r x lo hi H Q
theorem slice_ok : ∃ r, SlR X r ∧ SlV X.K r sliceV := by
  refine ⟨_, (sl_tupA.or sl_list).or sl_str, ?_⟩
  intro as Z H a c lo hi x Q z ra hf hq
  unfold sliceV at hf
  split at hf
  · cases hf
    obtain ⟨p, vs, rfl, h1, r1⟩ := ra.t
    refine .inl (.inl ⟨p, vs, rfl, h1, fun hw => ?_, fun _ n hn => hq _ _ (gr_new hn) (z.newT hn (r1.cut lo hi))⟩)
    refine hq _ _ (Gr.refl H) (.tup h1 ?_)
    have e : cutV vs lo hi = vs := by
      unfold cutV
      rw [hw.1, hw.2, List.drop_zero, Nat.sub_zero, List.take_length]
    have := r1.cut lo hi
    rw [e] at this
    exact this
  · cases hf
    obtain ⟨p, vs, rfl, h1, r1⟩ := ra.l
    exact .inl (.inr ⟨p, vs, rfl, SqL.of h1, fun n hn => hq _ _ (gr_new hn) (z.newL hn (r1.cut lo hi))⟩)
  · split at hf
    · rename_i zz hz
      cases hf
      rw [ra.s]
      exact .inr ⟨zz, rfl, lim_ok hz, hq _ _ (Gr.refl H) (.str _)⟩
    · cases hf
  · cases hf

/-! ### x[::-1] -/
theorem rev_places (n : Nat) : Builtin.Slice.slicePlaces ((n : Int) - 1) (-1) (-1) = n := by
  unfold Builtin.Slice.slicePlaces
  have h1 : ¬ ((-1 : Int) > 0) := by omega
  simp only [h1, if_false]
  split
  · rw [show (-(-1) : Int) = 1 by omega, Int.ediv_one]; omega
  · omega
theorem rev_adjust (n : Nat) : Builtin.Slice.sliceAdjust none none (-1) (n : Int) = ((n : Int) - 1, -1) := by
  unfold Builtin.Slice.sliceAdjust
  simp
theorem fmap_congr {α β : Type} {f g : α → Option β} : ∀ {l : List α}, (∀ x ∈ l, f x = g x) → l.filterMap f = l.filterMap g
  | [], _ => rfl
  | x :: l, h => by
    rw [List.filterMap_cons, List.filterMap_cons, h x List.mem_cons_self, fmap_congr fun y hy => h y (List.mem_cons_of_mem _ hy)]
theorem rev_pick (xs : Array Value) : ((List.range xs.size).filterMap fun (k : Nat) => xs[((xs.size : Int) - 1 + (k : Int) * (-1)).toNat]?).toArray = xs.toList.reverse.toArray := by
  have h := PySem.W.krv_pick xs
  unfold slicePick at h
  rw [PySem.W.krv_bounds] at h
  have h2 : ((sliceRange ((xs.size : Int) - 1) (-1) (-1)).filterMap (xs[·]?)).toArray = xs.toList.reverse.toArray := h
  rw [PySem.W.krv_sliceRange, List.filterMap_map] at h2
  rw [← h2]
  congr 1
  apply fmap_congr
  intro k hk
  have := List.mem_range.mp hk
  show xs[((xs.size : Int) - 1 + (k : Int) * (-1)).toNat]? = xs[xs.size - 1 - k]?
  congr 1
  omega
section
variable {prog : Program} {w : World} {A : Around} {E : Value → Shared → Prop} {s : Shared}
theorem sliceApplied_rev {sl : Addr} {vs : Value} {n : Nat} {Q : Int × Int × Nat → Shared → Prop} (hs : s.heap.IsSliceOf sl .none .none vs) (ps : IsPart vs (some (-1)))
    (h : Q ((n : Int) - 1, -1, n) s) : wpAny (model prog w) A (Builtin.Slice.sliceApplied (.ref sl) (pure (n : Int))) Q E s := by
  obtain ⟨os, hos, hcs, hds⟩ := id hs
  unfold Builtin.Slice.sliceApplied Builtin.Slice.sliceFields
  refine wpAny_bind (wpAny_bind (wpAny_field hos hds (x := .none) rfl (wpAny_bind (wpAny_field hos hds (x := .none) rfl (wpAny_bind (wpAny_field hos hds (x := vs) rfl (wpAny_pure ?_)))))))
  refine wpAny_bind (HT.slicePart_ ps ?_)
  show wpAny _ _ (if ((-1 : Int) == 0) = true then _ else _) _ _ s
  rw [if_neg (by decide)]
  refine wpAny_bind (slicePart_none (wpAny_bind (slicePart_none (wpAny_bind (wpAny_pure ?_)))))
  show wpAny _ _ (match Builtin.Slice.sliceAdjust none none (-1) (n : Int) with | (lo, hi) => pure (lo, (-1 : Int), Builtin.Slice.slicePlaces lo hi (-1))) _ _ s
  rw [rev_adjust n]
  show wpAny _ _ (pure ((n : Int) - 1, (-1 : Int), Builtin.Slice.slicePlaces ((n : Int) - 1) (-1) (-1))) _ _ s
  rw [rev_places]
  exact wpAny_pure h
theorem getItem_tuple_rev {t sl : Addr} {items : Array Value} {vs : Value} {Q : Value → Shared → Prop} (ht : IsTup s.heap t items) (hs : s.heap.IsSliceOf sl .none .none vs) (ps : IsPart vs (some (-1)))
    (h : Q (.ref s.heap.objs.size) { s with heap := s.heap.push { cls := .type "tuple", data := .seq items.toList.reverse.toArray } })
    (hsz : items.size ≤ sizeLine) : wpAny (model prog w) A (getItem (.ref t) (.ref sl)) Q E s := by
  have htake : sizeOk (.seq items.toList.reverse.toArray) := by
    show items.toList.reverse.toArray.size ≤ sizeLine
    rw [List.size_toArray, List.length_reverse, Array.length_toList]
    exact hsz
  obtain ⟨os, hos, hcs, hds⟩ := id hs
  have hTs : s.TypeIs (.ref sl) "slice" := ⟨os, hos, hcs⟩
  unfold getItem
  try with_reducible refine wpAny_holding ?_
  first | refine wpAny_bind (wpAny_pure ?_) | skip
  refine wpAny_bind (wpAny_sequenceKey ht.typeIs (by decide) ?_)
  refine wpAny_bind (wpAny_callSpecial?_slot (name := Str.ofString "__getitem__") ht.typeIs PyProof.Rows.slot_tuple_getitem
    (wpAny_call_entry PyProof.Rows.slot_tuple_getitem ht.typeIs entry_tuple_getitem ?_ (args_tuple_getitem _ _)))
  show wpAny _ _ (Builtin.Tuple.tupleItemsOf (.ref t) >>= _) _ _ s
  refine wpAny_bind (tupleItemsOf_ ht ?_)
  refine wpAny_bind (wpAny_typeOf hTs ?_)
  rw [if_pos (by decide)]
  refine wpAny_bind (sliceApplied_rev hs ps ?_)
  have hno : ¬ ((((items.size : Int) - 1) == 0 && (-1 : Int) == 1 && items.size == items.size) = true) := by
    rw [show ((-1 : Int) == 1) = false by decide]; simp
  show wpAny _ _ (if (((items.size : Int) - 1) == 0 && (-1 : Int) == 1 && items.size == items.size) = true then _ else _) _ _ s
  rw [if_neg hno, rev_pick]
  first
    | exact wpAny_bind (m := Builtin.Tuple.tupleExact _) (wpAny_newObj_type (wpAny_pure ⟨_, rfl, wpAny_pure h⟩) htake)
    | exact wpAny_bind (m := Builtin.Tuple.tupleExact _) (wpAny_newObj_type (wpAny_bind (wpAny_pure (wpAny_pure ⟨_, rfl, wpAny_pure h⟩))) htake)
    | exact wpAny_bind (wpAny_bind (m := Builtin.Tuple.tupleExact _) (wpAny_newObj_type (wpAny_pure (wpAny_pure ⟨_, rfl, wpAny_pure h⟩)) htake))
    | exact wpAny_bind (wpAny_bind (m := Builtin.Tuple.tupleExact _) (wpAny_newObj_type (wpAny_pure ⟨_, rfl, wpAny_pure h⟩) htake))
end
def tRev (K : PySem.W.Frag) (te : TE) : TE := fun σ H Q => te σ H fun x H1 => ∃ a xs, x = .ref a ∧ ((SqL K H1 a xs ∧ ∀ p, H1 p = none → Q (.ref p) (upd H1 p (.lst xs.reverse))) ∨ (SqT K H1 a xs ∧ ∀ p, H1 p = none → Q (.ref p) (upd H1 p (.tup xs.reverse))))
theorem pe_rev {e : Expr} {te : TE} {k : Nat} {p1 p2 p3 pos : Pos} (he : PE X e te) : PE X (.Subscript e (.Slice none none (some (.UnaryOp .USub (.Constant (.int 1) k p1) p2)) p3) pos) (tRev X.K te) := by
  refine ⟨fun pins s σ H Q I h => ?_⟩
  refine Subscript_ (thn (he.run pins s σ H _ I h) fun v s1 ⟨x, H1, I1, r1, q1⟩ => ?_)
  obtain ⟨a, xs, ex, hx⟩ := q1
  subst ex
  cases r1
  have hst : PO X (some (.UnaryOp .USub (.Constant (.int 1) k p1) p2)) (tPart (tUn (rU fun i => .int (-i)) (tC (.int 1)))) := po_some (pe_un un_neg pe_int)
  refine wpAny_Slice (thn (po_none.run pins s1 σ H1 (fun o H2 => o = none ∧ H2 = H1) I1 ⟨rfl, rfl⟩) fun vl s2 ⟨l, H2, I2, pl, el, e2⟩ => ?_)
  subst el e2
  cases pl
  refine thn (po_none.run pins s2 σ H2 (fun o H3 => o = none ∧ H3 = H2) I2 ⟨rfl, rfl⟩) fun vu s3 ⟨u, H3, I3, pu, eu, e3⟩ => ?_
  subst eu e3
  cases pu
  refine thn (hst.run pins s3 σ H3 (fun o H4 => o = some (-1) ∧ H4 = H3) I3 ⟨1, rfl, -1, rfl, rfl, rfl⟩) fun vs s4 ⟨o, H4, I4, ps, eo, e4⟩ => ?_
  subst eo e4
  have I5 : Inv X pins σ H4 { s4 with heap := s4.heap.push { cls := .type "slice", data := .fields #[.none, .none, vs] } } := I4.kept (t' := s4.toks) fun b ob q => Heap.get?_push_of_some _ q
  show wpAny (model X.prog X.w) X.A (subscriptTail e (.Slice none none (some (.UnaryOp .USub (.Constant (.int 1) k p1) p2)) p3) (.ref a) (.ref s4.heap.objs.size)) (EP X pins σ Q) X.xe { s4 with heap := s4.heap.push { cls := .type "slice", data := .fields #[.none, .none, vs] } }
  rcases hx with ⟨hx, q⟩ | ⟨hx, q⟩
  · obtain ⟨its, r, ht, hz⟩ := I5.list hx
    have hlen := r.length
    refine tail_any (ops := [.ref a, .ref s4.heap.objs.size]) ht.isList.typeIs (PySem.slot_list_getitem.lookup) ?_ (by with_unfolding_all rfl)
    refine wpAny_getItem_list_slice ht.isList (Heap.IsSliceOf.new _ .none .none vs) .none .none ps (by decide) ?_ (by rw [List.size_toArray]; omega)
    rw [PySem.W.krv_pick]
    refine ⟨.ref _, _, I5.laid (t' := s4.toks) (o := .lst xs.reverse) (fun b ob q => Heap.get?_push_of_some _ q) (Nat.le_refl _) ?_, rfl, q _ (I5.hok.fresh (Nat.le_refl _))⟩
    exact ⟨by rw [List.length_reverse]; exact hz, _, 0, r.reverse, Heap.get?_push_size _ rfl⟩
  · obtain ⟨its, r, ht, hz⟩ := I5.tuple hx
    have hlen := r.length
    refine tail_any (ops := [.ref a, .ref s4.heap.objs.size]) ht.typeIs (PyProof.Rows.slot_tuple_getitem.lookup) ?_ (by with_unfolding_all rfl)
    refine getItem_tuple_rev ht (Heap.IsSliceOf.new _ .none .none vs) ps ?_ (by rw [List.size_toArray]; omega)
    refine ⟨.ref _, _, I5.laid (t' := s4.toks) (o := .tup xs.reverse) (fun b ob q => Heap.get?_push_of_some _ q) (Nat.le_refl _) ?_, rfl, q _ (I5.hok.fresh (Nat.le_refl _))⟩
    exact ⟨by rw [List.length_reverse]; exact hz, _, r.reverse, ⟨_, Heap.get?_push_size _ rfl, rfl, 0, rfl⟩⟩
end

/-! ### built-in calls -/
inductive Bi where
  | len | abs | int | tuple | list | all | any | str | max | bool
  deriving DecidableEq
def Bi.nm : Bi → String
  | .len => "len" | .abs => "abs" | .int => "int" | .tuple => "tuple" | .list => "list" | .all => "all" | .any => "any" | .str => "str" | .max => "max" | .bool => "bool"
/-- a built-in function, or a type -/
def Bi.isTy : Bi → Bool
  | .int => true | .tuple => true | .list => true | .str => true | .bool => true
  | _ => false
def PV.bls : List PV → Option (List Bool)
  | [] => some []
  | .bl b :: r => (PV.bls r).map (b :: ·)
  | _ :: _ => none
theorem PV.bls_eq : ∀ {xs : List PV} {bs : List Bool}, PV.bls xs = some bs → xs = bs.map PV.bl
  | [], _, h => by cases h; rfl
  | .bl b :: r, _, h => by
    obtain ⟨bs, h1, rfl⟩ := Option.map_eq_some_iff.mp (show (PV.bls r).map (b :: ·) = _ from h)
    rw [PV.bls_eq h1]; rfl
  | .non :: _, _, h => by cases h
  | .int _ :: _, _, h => by cases h
  | .str _ :: _, _, h => by cases h
  | .tup _ :: _, _, h => by cases h
  | .lst _ :: _, _, h => by cases h
  | .obj _ :: _, _, h => by cases h
  | .scr _ :: _, _, h => by cases h
/-- the digit that a text of one sign writes -/
def digit (x : Str) : Option Int := match x.cps.toList with
  | [c] => if 48 ≤ c ∧ c ≤ 57 then some ((c : Int) - 48) else none
  | _ => none
def biV : Bi → List PV → Option PV
  | .len, [.tup xs] => some (.int xs.length)
  | .len, [.lst xs] => some (.int xs.length)
  | .len, [.scr xs] => some (.int xs.length)
  | .len, [.str z] => if z.length ≤ lim then some (.int z.length) else none
  | .abs, [.int i] => some (.int (if i < 0 then -i else i))
  | .int, [.int i] => some (.int i)
  | .int, [.bl b] => some (.int (if b then 1 else 0))
  | .int, [.str x] => (digit x).map .int
  | .tuple, [.tup xs] => some (.tup xs)
  | .tuple, [.lst xs] => some (.tup xs)
  | .list, [.tup xs] => some (.lst xs)
  | .list, [.lst xs] => some (.lst xs)
  | .all, [.lst xs] => (PV.bls xs).map fun bs => .bl (bs.all id)
  | .any, [.lst xs] => (PV.bls xs).map fun bs => .bl (bs.any id)
  | .str, [.int i] => if i.natAbs < 2 ^ 400 then some (.str (toString i)) else none
  | .max, [.int i, .int j] => some (.int (if j > i then j else i))
  | .bool, [.bl b] => some (.bl b)
  | _, _ => none
/-- values as they are looked at -/
inductive VRepL (K : PySem.W.Frag) (as : List Addr) (Z : Addr → Prop) (H : Hp) : List PV → List V → Prop
  | nil : VRepL K as Z H [] []
  | cons {x : PV} {v : V} {xs : List PV} {vs : List V} : VRep K as Z H x v → VRepL K as Z H xs vs → VRepL K as Z H (x :: xs) (v :: vs)
section
variable {K : PySem.W.Frag} {as : List Addr} {Z : Addr → Prop} {H : Hp}
theorem VRepL.one {x : PV} {vs : List V} (h : VRepL K as Z H [x] vs) : ∃ v, vs = [v] ∧ VRep K as Z H x v := by
  cases h with
  | cons h r => cases r; exact ⟨_, rfl, h⟩
theorem VRepL.two {x y : PV} {vs : List V} (h : VRepL K as Z H [x, y] vs) : ∃ v w, vs = [v, w] ∧ VRep K as Z H x v ∧ VRep K as Z H y w := by
  cases h with
  | cons h r => cases r with
    | cons h2 r => cases r; exact ⟨_, _, rfl, h, h2⟩
theorem RepL.bls {bs : List Bool} {vs : List V} (h : RepL K as Z H (bs.map PV.bl) vs) : vs = bs.map V.bl := by
  induction bs generalizing vs with
  | nil => cases h; rfl
  | cons b bs ih =>
    rw [List.map_cons] at h
    cases h with
    | cons h r => cases h; rw [ih r]; rfl
end
def CaV (K : PySem.W.Frag) (r : List V → Hp → VK → Prop) (f : List PV → Option PV) : Prop :=
  ∀ (as : List Addr) (Z : Addr → Prop) (H : Hp) (a : List PV) (c : PV) (x : List V) (Q : VK), HZ as Z H → VRepL K as Z H a x → f a = some c → (∀ v H', Gr H H' → Rep K as Z H' c v → Q v H') → r x H Q
/-- the value that the name of a built-in stands for -/
def Bi.val (b : Bi) : Value := if b.isTy then .type b.nm else .builtin b.nm
theorem log2_small {i : Int} (h : i.natAbs < 2 ^ 400) : i.natAbs.log2 < 1920 := by
  by_cases h0 : i.natAbs = 0
  · rw [h0]; decide
  · have := (Nat.log2_lt h0).mpr h
    omega
theorem digit_text {x : Str} {i : Int} (h : digit x = some i) : PySem.intText? x = some i ∧ x.length ≤ 640 := by
  obtain ⟨⟨cs⟩⟩ := x
  unfold digit at h
  simp only at h
  split at h
  · rename_i c
    split at h
    · rename_i hr
      obtain ⟨h1, h2⟩ := hr
      cases h
      have e : c = 48 ∨ c = 49 ∨ c = 50 ∨ c = 51 ∨ c = 52 ∨ c = 53 ∨ c = 54 ∨ c = 55 ∨ c = 56 ∨ c = 57 := by omega
      refine ⟨?_, by show 1 ≤ 640; decide⟩
      rcases e with rfl | rfl | rfl | rfl | rfl | rfl | rfl | rfl | rfl | rfl <;> decide +kernel
    · cases h
  · cases h
section
variable {X : Cx}
theorem bi_ok (b : Bi) (hc : X.calm = true) : ∃ r, CallR X b.val r ∧ CaV X.K r (biV b) := by
  cases b
  case len =>
    refine ⟨_, call_len, ?_⟩
    intro as Z H a c x Q z ra hf hq
    unfold biV at hf
    split at hf <;> first | (cases hf; done) | skip
    all_goals first | (rename_i h0; cases h0; done) | skip
    · cases hf
      obtain ⟨v, rfl, rv⟩ := ra.one
      obtain ⟨p, vs, rfl, h1, r1⟩ := rv.t
      exact ⟨_, _, rfl, .inr ⟨vs, h1, r1.length⟩, hq _ _ (Gr.refl H) (.int _)⟩
    · cases hf
      obtain ⟨v, rfl, rv⟩ := ra.one
      obtain ⟨p, vs, rfl, h1, r1⟩ := rv.l
      exact ⟨_, _, rfl, .inl ⟨vs, SqL.of h1, r1.length⟩, hq _ _ (Gr.refl H) (.int _)⟩
    · cases hf
      obtain ⟨v, rfl, rv⟩ := ra.one
      obtain ⟨p, rfl, h1⟩ := rv.sc
      exact ⟨_, _, rfl, .inl ⟨_, h1.sq, by rw [List.length_map]⟩, hq _ _ (Gr.refl H) (.int _)⟩
    · split at hf
      · rename_i zz _ hz
        cases hf
        obtain ⟨v, rfl, rv⟩ := ra.one
        rw [rv.s]
        exact ⟨_, _, rfl, ⟨lim_ok hz, rfl⟩, hq _ _ (Gr.refl H) (.int _)⟩
      · cases hf
  case abs =>
    refine ⟨_, call_abs, ?_⟩
    intro as Z H a c x Q z ra hf hq
    unfold biV at hf
    split at hf <;> first | (cases hf; done) | skip
    all_goals first | (rename_i h0; cases h0; done) | skip
    cases hf
    obtain ⟨v, rfl, rv⟩ := ra.one
    rw [rv.i]
    exact ⟨_, rfl, hq _ _ (Gr.refl H) (.int _)⟩
  case int =>
    refine ⟨_, call_int1.or call_int_str, ?_⟩
    intro as Z H a c x Q z ra hf hq
    unfold biV at hf
    split at hf <;> first | (cases hf; done) | skip
    all_goals first | (rename_i h0; cases h0; done) | skip
    · cases hf
      obtain ⟨v, rfl, rv⟩ := ra.one
      rw [rv.i]
      exact .inl (.inl ⟨_, rfl, hq _ _ (Gr.refl H) (.int _)⟩)
    · cases hf
      obtain ⟨v, rfl, rv⟩ := ra.one
      rw [rv.b]
      exact .inl (.inr ⟨_, rfl, hq _ _ (Gr.refl H) (.int _)⟩)
    · obtain ⟨i, hi, rfl⟩ := Option.map_eq_some_iff.mp hf
      obtain ⟨v, rfl, rv⟩ := ra.one
      rw [rv.s]
      exact .inr ⟨_, i, rfl, (digit_text hi).1, (digit_text hi).2, hq _ _ (Gr.refl H) (.int _)⟩
  case tuple =>
    refine ⟨_, call_tuple_of, ?_⟩
    intro as Z H a c x Q z ra hf hq
    unfold biV at hf
    split at hf <;> first | (cases hf; done) | skip
    all_goals first | (rename_i h0; cases h0; done) | skip
    · cases hf
      obtain ⟨v, rfl, rv⟩ := ra.one
      obtain ⟨p, vs, rfl, h1, r1⟩ := rv.t
      exact ⟨p, vs, rfl, .inr ⟨h1, hq _ _ (Gr.refl H) (.tup h1 r1)⟩⟩
    · cases hf
      obtain ⟨v, rfl, rv⟩ := ra.one
      obtain ⟨p, vs, rfl, h1, r1⟩ := rv.l
      exact ⟨p, vs, rfl, .inl ⟨SqL.of h1, fun n hn => hq _ _ (gr_new hn) (z.newT hn r1)⟩⟩
  case list =>
    refine ⟨_, call_list_of, ?_⟩
    intro as Z H a c x Q z ra hf hq
    unfold biV at hf
    split at hf <;> first | (cases hf; done) | skip
    all_goals first | (rename_i h0; cases h0; done) | skip
    · cases hf
      obtain ⟨v, rfl, rv⟩ := ra.one
      obtain ⟨p, vs, rfl, h1, r1⟩ := rv.t
      exact ⟨p, vs, rfl, .inr h1, fun n hn => hq _ _ (gr_new hn) (z.newL hn r1)⟩
    · cases hf
      obtain ⟨v, rfl, rv⟩ := ra.one
      obtain ⟨p, vs, rfl, h1, r1⟩ := rv.l
      exact ⟨p, vs, rfl, .inl (SqL.of h1), fun n hn => hq _ _ (gr_new hn) (z.newL hn r1)⟩
  case all =>
    refine ⟨_, cr_all hc, ?_⟩
    intro as Z H a c x Q z ra hf hq
    unfold biV at hf
    split at hf <;> first | (cases hf; done) | skip
    all_goals first | (rename_i h0; cases h0; done) | skip
    obtain ⟨bs, hb, rfl⟩ := Option.map_eq_some_iff.mp hf
    obtain ⟨v, rfl, rv⟩ := ra.one
    obtain ⟨p, vs, rfl, h1, r1⟩ := rv.l
    rw [PV.bls_eq hb] at r1
    rw [r1.bls] at h1
    exact ⟨p, bs, rfl, SqL.of h1, hq _ _ (Gr.refl H) (.bl _)⟩
  case any =>
    refine ⟨_, cr_any hc, ?_⟩
    intro as Z H a c x Q z ra hf hq
    unfold biV at hf
    split at hf <;> first | (cases hf; done) | skip
    all_goals first | (rename_i h0; cases h0; done) | skip
    obtain ⟨bs, hb, rfl⟩ := Option.map_eq_some_iff.mp hf
    obtain ⟨v, rfl, rv⟩ := ra.one
    obtain ⟨p, vs, rfl, h1, r1⟩ := rv.l
    rw [PV.bls_eq hb] at r1
    rw [r1.bls] at h1
    exact ⟨p, bs, rfl, SqL.of h1, hq _ _ (Gr.refl H) (.bl _)⟩
  case str =>
    refine ⟨_, call_str_int, ?_⟩
    intro as Z H a c x Q z ra hf hq
    unfold biV at hf
    split at hf <;> first | (cases hf; done) | skip
    all_goals first | (rename_i h0; cases h0; done) | skip
    split at hf
    · rename_i h
      cases hf
      obtain ⟨v, rfl, rv⟩ := ra.one
      rw [rv.i]
      exact ⟨_, rfl, log2_small h, hq _ _ (Gr.refl H) (.str _)⟩
    · cases hf
  case max =>
    refine ⟨_, call_max2 hc, ?_⟩
    intro as Z H a c x Q z ra hf hq
    unfold biV at hf
    split at hf <;> first | (cases hf; done) | skip
    all_goals first | (rename_i h0; cases h0; done) | skip
    cases hf
    obtain ⟨v, w, rfl, rv, rw'⟩ := ra.two
    rw [rv.i, rw'.i]
    exact ⟨_, _, rfl, hq _ _ (Gr.refl H) (.int _)⟩
  case bool =>
    refine ⟨_, call_bool1, ?_⟩
    intro as Z H a c x Q z ra hf hq
    unfold biV at hf
    split at hf <;> first | (cases hf; done) | skip
    all_goals first | (rename_i h0; cases h0; done) | skip
    cases hf
    obtain ⟨v, rfl, rv⟩ := ra.one
    rw [rv.b]
    exact .inr ⟨_, rfl, hq _ _ (Gr.refl H) (.bl _)⟩
theorem bi_boot (b : Bi) : bootBuiltins (Str.ofString b.nm) = some b.val := by
  cases b <;> decide +kernel
theorem bi_name (b : Bi) : Str.ofString b.nm ≠ "__name__" ∧ (Str.ofString b.nm == ("__debug__" : Str)) = false := by
  cases b <;> decide
end
end AP

set_option Elab.async false
set_option linter.all false
set_option maxRecDepth 100000
set_option maxHeartbeats 4000000
/-! AP4: the small language, what it computes -/
namespace AP
open PySem PySem.Spec PyProof.Rows L2

inductive Ty where
  | int | bool | str | tuple | list
  deriving DecidableEq
def Ty.nm : Ty → String
  | .int => "int" | .bool => "bool" | .str => "str" | .tuple => "tuple" | .list => "list"
/-- methods of texts -/
inductive Mt where
  | split | join
  deriving DecidableEq
/-- a target -/
inductive Pat where
  | nm (i : Nat) | tup (p : Pat) | nil | cons (p q : Pat)
  deriving DecidableEq
inductive E where
  | non | bl (b : Bool) | int (i : Int) | str (x : Str)
  | var (i : Nat) | glob (g : Nat)
  | bin (o : Bop) (a b : E) | neg (a : E)
  | cmp (o : Cop) (a b : E) | chain (o p : Cop) (a b c : E)
  | and_ (a b : E) | or_ (a b : E) | not_ (a : E)
  | ite (c a b : E)
  | tup (xs : E) | lst (xs : E) | nil | cons (a xs : E)
  | idx (a b : E) | slice (a lo hi : E) | rev (a : E) | omit
  | call (f : Nat) (xs : E)
  | bi (f : Bi) (xs : E)
  | isi (a : E) (t : Ty)
  | meth (m : Mt) (a b : E)
  | pop0 (i : Nat)
  | lc (elt : E) (p : Pat) (it : E) (cond : E)
  | range1 (a : E) | range2 (a b : E) | zip (a b : E) | enum (a : E)
  | isx (n : Nat) | lam (h : Nat) (e : E)
inductive C where
  | skip | seq (a b : C)
  | asg (i : Nat) (e : E)
  | own (i : Nat) (e : E)
  | obj (i : Nat) (e : E)
  | pat (p : Pat) (e : E)
  | par2 (i j : Nat) (a b : E)
  | expr (e : E)
  | app (i : Nat) (e : E)
  | seti (i : Nat) (ix e : E)
  | ret (e : E)
  | ite (c : E) (a b : C)
  | whl (m : Nat) (c : E) (b : C)
  | for_ (p : Pat) (it : E) (b : C)
  | raise (c : Nat)

inductive Slot where
  | un | val (v : PV) | own (xs : List PV)
  deriving Inhabited
structure S where
  sl : List Slot
  mu : List MO
inductive R (α : Type) where
  | ok (a : α) (s : S) | exc (c : Nat) (s : S) | no
def R.bind {α β : Type} : R α → (α → S → R β) → R β
  | .ok a s, k => k a s
  | .exc c s, _ => .exc c s
  | .no, _ => .no
inductive RC where
  | ok (v : PV) (mu : List MO) | exc (c : Nat) (mu : List MO) | no
inductive RS where
  | nx (s : S) | rt (v : PV) (s : S) | exc (c : Nat) (s : S) | no
/-- an operand: a value, or a list that is still changed -/
inductive Opd where
  | val (v : PV) | sl (i : Nat)

def S.set (s : S) (i : Nat) (x : Slot) : S := ⟨s.sl.set i x, s.mu⟩
def S.view (s : S) : Opd → Option PV
  | .val (.obj n) => match s.mu[n]? with
    | some (.lst xs) => some (.lst xs)
    | _ => none
  | .val v => some v
  | .sl i => match s.sl[i]? with
    | some (.own xs) => some (.lst xs)
    | _ => none
def opd (e : E) (k : S → R PV) (s : S) : R Opd := match e with
  | .var i => (match s.sl[i]? with
    | some (.val v) => .ok (.val v) s
    | some (.own _) => .ok (.sl i) s
    | _ => .no)
  | _ => (k s).bind fun v s => .ok (.val v) s
/-- two operands, looked at behind both -/
def two (a b : S → R Opd) (f : PV → PV → Option PV) (s : S) : R PV :=
  (a s).bind fun x s1 => (b s1).bind fun y s2 => match s2.view x, s2.view y with
    | some p, some q => (match f p q with
      | some r => .ok r s2
      | none => .no)
    | _, _ => .no
def one (a : S → R Opd) (f : PV → Option PV) (s : S) : R PV :=
  (a s).bind fun x s1 => match s1.view x with
    | some p => (match f p with
      | some r => .ok r s1
      | none => .no)
    | _ => .no
def seqItems : PV → Option (List PV)
  | .tup xs => some xs
  | .lst xs => some xs
  | _ => none
def intL (lo : Int) (n : Nat) : List PV := (List.range n).map fun i => .int (lo + (i : Nat))
def enumL (i : Nat) : List PV → List PV
  | [] => []
  | x :: xs => .tup [.int i, x] :: enumL (i + 1) xs
def zipL : List PV → List PV → List PV
  | x :: xs, y :: ys => .tup [x, y] :: zipL xs ys
  | _, _ => []
mutual
def bindP : Pat → PV → S → Option S
  | .nm i, v, s => if i < s.sl.length then some (s.set i (.val v)) else none
  | .tup p, .tup xs, s => bindPs p xs s
  | _, _, _ => none
def bindPs : Pat → List PV → S → Option S
  | .nil, [], s => some s
  | .cons p q, x :: xs, s => match bindP p x s with
    | some s1 => bindPs q xs s1
    | none => none
  | _, _, _ => none
end
mutual
def Pat.slots : Pat → List Nat
  | .nm i => [i]
  | .tup p => p.slots
  | .nil => []
  | .cons p q => p.slots ++ q.slots
end
def S.wipe (s : S) (vs : List Nat) : S := ⟨vs.foldr (fun v sl => sl.set v .un) s.sl, s.mu⟩
/-- the own slots as they were ahead -/
def restore (old : List Slot) (vs : List Nat) (s : S) : S := ⟨vs.foldr (fun v sl => sl.set v (old.getD v .un)) s.sl, s.mu⟩
/-- no list that is still changed is hidden by a comprehension's names -/
def notOwn (sl : List Slot) (vs : List Nat) : Bool := vs.all fun v => match sl[v]? with
  | some (.own _) => false
  | _ => true
def lcLoop (bind : PV → S → Option S) (vs : List Nat) (c : S → R Bool) (f : S → R PV) : List PV → S → R (List PV)
  | [], s => .ok [] s
  | x :: xs, s => match bind x s with
    | none => .no
    | some s1 => match c s1 with
      | .ok true s2 => (match f s2 with
        | .ok v s3 => (lcLoop bind vs c f xs (s3.wipe vs)).bind fun r s4 => .ok (v :: r) s4
        | _ => .no)
      | .ok false s2 => lcLoop bind vs c f xs (s2.wipe vs)
      | _ => .no
def asBool : PV → S → R Bool
  | .bl b, s => .ok b s
  | _, _ => .no
def PV.isTy (t : Ty) : PV → Option Bool
  | .non => some false
  | .bl _ => some (t == .bool || t == .int)
  | .int _ => some (t == .int)
  | .str _ => some (t == .str)
  | .tup _ => some (t == .tuple)
  | .lst _ => some (t == .list)
  | _ => none
def txts : List PV → Option (List Str)
  | [] => some []
  | .str x :: r => (txts r).map (x :: ·)
  | _ :: _ => none
def mtV : Mt → PV → PV → Option PV
  | .split, .str a, .str b => if b.length ≠ 0 ∧ a.length ≤ 10000 then some (.lst ((Txt.split a b).map .str)) else none
  | .join, .str a, .lst xs => match txts xs with
    | some ys => if (ys.length + 1) * a.length + (ys.map fun y => y.length).sum ≤ lim then some (.str (Txt.join a ys)) else none
    | none => none
  | _, _, _ => none

/-- what is known of the text -/
structure Gx where
  /-- the defs' names and numbers of parameters -/
  fns : List (Str × Nat)
  /-- the module's constants -/
  globs : List (Str × PV)
  /-- the error classes' names -/
  errs : List Str
  /-- isinstance(e, C), e the error in hand, by the classes asked for -/
  isx : List Bool := []
  /-- defs that call what they are handed, and tell its error -/
  hs : List (Str × Bool) := []
  /-- an error, told -/
  words : List Str := []
/-- f(lambda: e) where e hands back v; where it fails -/
def hok (told : Bool) (v : PV) : PV := if told then .tup [v, .str Str.empty] else .str Str.empty
def hexc (told : Bool) (x : Str) : PV := if told then .tup [.non, .str x] else .str x

section
variable (cf : Nat → List PV → List MO → RC) (G : Gx)
def callR (f : Nat) (xs : List PV) (s : S) : R PV := match cf f xs s.mu with
  | .ok v mu => .ok v ⟨s.sl, mu⟩
  | .exc c mu => .exc c ⟨s.sl, mu⟩
  | .no => .no
mutual
def ev : E → S → R PV
  | .non, s => .ok .non s
  | .bl b, s => .ok (.bl b) s
  | .int i, s => .ok (.int i) s
  | .str x, s => .ok (.str x) s
  | .var i, s => (match s.sl[i]? with
    | some (.val v) => .ok v s
    | some (.own xs) => .ok (.lst xs) (s.set i (.val (.lst xs)))
    | _ => .no)
  | .glob g, s => (match G.globs[g]? with
    | some p => .ok p.2 s
    | none => .no)
  | .bin o a b, s => two (opd a (ev a)) (opd b (ev b)) (opBin o) s
  | .neg a, s => one (opd a (ev a)) (fun | .int i => some (.int (-i)) | _ => none) s
  | .cmp o a b, s => two (opd a (ev a)) (opd b (ev b)) (fun p q => (opCmp o p q).map .bl) s
  | .chain o p a b c, s => (ev a s).bind fun x s1 => (ev b s1).bind fun y s2 => (match opCmp o x y with
    | some true => (ev c s2).bind fun z s3 => (match opCmp p y z with
      | some r => .ok (.bl r) s3
      | none => .no)
    | some false => .ok (.bl false) s2
    | none => .no)
  | .and_ a b, s => (ev a s).bind fun x s1 => (match x with
    | .bl true => ev b s1
    | .bl false => .ok (.bl false) s1
    | _ => .no)
  | .or_ a b, s => (ev a s).bind fun x s1 => (match x with
    | .bl true => .ok (.bl true) s1
    | .bl false => ev b s1
    | _ => .no)
  | .not_ a, s => (ev a s).bind fun x s1 => (match x with
    | .bl b => .ok (.bl (!b)) s1
    | _ => .no)
  | .ite c a b, s => (ev c s).bind fun x s1 => (match x with
    | .bl true => ev a s1
    | .bl false => ev b s1
    | _ => .no)
  | .tup xs, s => (evs xs s).bind fun vs s1 => if vs.length ≤ lim then .ok (.tup vs) s1 else .no
  | .lst xs, s => (evs xs s).bind fun vs s1 => if vs.length ≤ lim then .ok (.lst vs) s1 else .no
  | .idx a b, s => two (opd a (ev a)) (opd b (ev b)) idxV s
  | .slice a lo hi, s => (opd a (ev a) s).bind fun x s1 => (evp lo s1).bind fun l s2 => (evp hi s2).bind fun h s3 => (match s3.view x with
    | some p => (match sliceV l h p with
      | some r => .ok r s3
      | none => .no)
    | none => .no)
  | .rev a, s => one (opd a (ev a)) revV s
  | .call f xs, s => (evs xs s).bind fun vs s1 => callR cf f vs s1
  | .bi f xs, s => (match xs with
    | .cons a .nil => one (opd a (ev a)) (fun p => biV f [p]) s
    | xs => (evs xs s).bind fun vs s1 => (match biV f vs with
      | some r => .ok r s1
      | none => .no))
  | .isi a t, s => one (opd a (ev a)) (fun p => (p.isTy t).map .bl) s
  | .meth m a b, s => (ev a s).bind fun x s1 => (match x with
    | .str z => one (opd b (ev b)) (fun q => mtV m (.str z) q) s1
    | _ => .no)
  | .pop0 i, s => (match s.sl[i]? with
    | some (.val (.obj n)) => (match s.mu[n]? with
      | some (.lst (x :: xs)) => .ok x ⟨s.sl, s.mu.set n (.lst xs)⟩
      | _ => .no)
    | _ => .no)
  | .lc elt p it cond, s => (evi it s).bind fun xs s1 => if notOwn s1.sl p.slots then
    (lcLoop (bindP p) p.slots (evc cond) (ev elt) xs (s1.wipe p.slots)).bind fun r s2 => .ok (.lst r) (restore s1.sl p.slots s2) else .no
  | .isx n, s => (match G.isx[n]? with
    | some b => .ok (.bl b) s
    | none => .no)
  | .lam h e, s => (match G.hs[h]? with
    | some p => (match ev e s with
      | .ok v s1 => .ok (hok p.2 v) s1
      | .exc c s1 => (match G.words[c]? with
        | some x => .ok (hexc p.2 x) s1
        | none => .no)
      | .no => .no)
    | none => .no)
  | _, _ => .no
/-- a list of arguments -/
def evs : E → S → R (List PV)
  | .nil, s => .ok [] s
  | .cons a xs, s => (ev a s).bind fun v s1 => (evs xs s1).bind fun vs s2 => .ok (v :: vs) s2
  | _, _ => .no
/-- a slice's part -/
def evp : E → S → R (Option Int)
  | .omit, s => .ok none s
  | e, s => (ev e s).bind fun v s1 => (match v with
    | .int i => .ok (some i) s1
    | _ => .no)
/-- a comprehension's test -/
def evc : E → S → R Bool
  | .omit, s => .ok true s
  | e, s => (ev e s).bind asBool
/-- what is walked -/
def evi : E → S → R (List PV)
  | .range1 a, s => (ev a s).bind fun v s1 => (match v with
    | .int n => if -lim ≤ n ∧ n ≤ lim then .ok (intL 0 n.toNat) s1 else .no
    | _ => .no)
  | .range2 a b, s => (ev a s).bind fun v s1 => (ev b s1).bind fun w s2 => (match v, w with
    | .int lo, .int hi => if -lim ≤ lo ∧ lo ≤ lim ∧ -lim ≤ hi ∧ hi ≤ lim then .ok (intL lo (hi - lo).toNat) s2 else .no
    | _, _ => .no)
  | .zip a b, s => (ev a s).bind fun v s1 => (ev b s1).bind fun w s2 => (match v, w with
    | .lst xs, .lst ys => if xs.length ≤ lim then .ok (zipL xs ys) s2 else .no
    | .tup xs, .tup ys => if xs.length ≤ lim then .ok (zipL xs ys) s2 else .no
    | _, _ => .no)
  | .enum a, s => (ev a s).bind fun v s1 => (match v with
    | .lst xs => if xs.length ≤ lim then .ok (enumL 0 xs) s1 else .no
    | _ => .no)
  | e, s => (ev e s).bind fun v s1 => (match seqItems v with
    | some xs => if xs.length ≤ lim then .ok xs s1 else .no
    | none => .no)
end
end

def forLoop (bind : PV → S → Option S) (body : S → RS) : List PV → S → RS
  | [], s => .nx s
  | x :: xs, s => match bind x s with
    | none => .no
    | some s1 => match body s1 with
      | .nx s2 => forLoop bind body xs s2
      | r => r
def whlLoop (c : S → R PV) (body : S → RS) : Nat → S → RS
  | 0, _ => .no
  | n + 1, s => match c s with
    | .ok (.bl true) s1 => (match body s1 with
      | .nx s2 => whlLoop c body n s2
      | r => r)
    | .ok (.bl false) s1 => .nx s1
    | .exc x s1 => .exc x s1
    | _ => .no
def fuelOf (m : Nat) (s : S) : Nat := match m with
  | 0 => 10000
  | i + 1 => match s.sl[i]? with
    | some (.val (.int n)) => n.natAbs + 1
    | _ => 0
/-- a list that is changed -/
def isLst (s : S) (i : Nat) : Bool := match s.sl[i]? with
  | some (.own _) => true
  | some (.val (.obj _)) => true
  | _ => false
def R.go {α : Type} (r : R α) (k : α → S → RS) : RS := match r with
  | .ok a s => k a s
  | .exc c s => .exc c s
  | .no => .no
section
variable (cf : Nat → List PV → List MO → RC) (G : Gx)
def ex : C → S → RS
  | .skip, s => .nx s
  | .seq a b, s => (match ex a s with
    | .nx s1 => ex b s1
    | r => r)
  | .asg i e, s => (ev cf G e s).go fun v s1 => if i < s1.sl.length then .nx (s1.set i (.val v)) else .no
  | .own i e, s => (ev cf G e s).go fun v s1 => (match v with
    | .lst xs => if i < s1.sl.length then .nx (s1.set i (.own xs)) else .no
    | _ => .no)
  | .obj i e, s => (ev cf G e s).go fun v s1 => (match v with
    | .lst xs => if i < s1.sl.length then .nx ⟨s1.sl.set i (.val (.obj s1.mu.length)), s1.mu ++ [.lst xs]⟩ else .no
    | _ => .no)
  | .pat p e, s => (ev cf G e s).go fun v s1 => (match bindP p v s1 with
    | some s2 => .nx s2
    | none => .no)
  | .par2 i j a b, s => (ev cf G a s).go fun v s1 => (ev cf G b s1).go fun w s2 => if i < s2.sl.length ∧ j < s2.sl.length then .nx ((s2.set i (.val v)).set j (.val w)) else .no
  | .expr e, s => (ev cf G e s).go fun _ s1 => .nx s1
  | .app i e, s => if isLst s i then (ev cf G e s).go fun v s1 => (match s1.sl[i]? with
    | some (.own xs) => if xs.length < lim then .nx (s1.set i (.own (xs ++ [v]))) else .no
    | some (.val (.obj n)) => (match s1.mu[n]? with
      | some (.lst xs) => if xs.length < lim then .nx ⟨s1.sl, s1.mu.set n (.lst (xs ++ [v]))⟩ else .no
      | _ => .no)
    | _ => .no) else .no
  | .seti i ix e, s => (ev cf G e s).go fun v s1 => if isLst s1 i then (ev cf G ix s1).go fun k s2 => (match s2.sl[i]?, k with
    | some (.own xs), .int k => (match ixN xs.length k with
      | some j => .nx (s2.set i (.own (xs.set j v)))
      | none => .no)
    | _, _ => .no) else .no
  | .ret e, s => (ev cf G e s).go fun v s1 => .rt v s1
  | .ite c a b, s => (ev cf G c s).go fun v s1 => (match v with
    | .bl true => ex a s1
    | .bl false => ex b s1
    | _ => .no)
  | .whl m c b, s => whlLoop (ev cf G c) (ex b) (fuelOf m s) s
  | .for_ p it b, s => (evi cf G it s).go fun xs s1 => forLoop (bindP p) (ex b) xs s1
  | .raise c, s => .exc c s
end
structure FnDef where
  nps : Nat
  nsl : Nat
  body : C
def startS (fd : FnDef) (xs : List PV) (mu : List MO) : S := ⟨xs.map .val ++ List.replicate (fd.nsl - fd.nps) .un, mu⟩
def RS.done : RS → RC
  | .nx s => .ok .non s.mu
  | .rt v s => .ok v s.mu
  | .exc c s => .exc c s.mu
  | .no => .no
def callD (G : Gx) (tbl : List FnDef) : Nat → Nat → List PV → List MO → RC
  | 0, _, _, _ => .no
  | d + 1, f, xs, mu => match tbl[f]? with
    | some fd => if xs.length = fd.nps then (ex (callD G tbl d) G fd.body (startS fd xs mu)).done else .no
    | none => .no
end AP

set_option Elab.async false
set_option linter.all false
set_option maxRecDepth 100000
set_option maxHeartbeats 4000000
set_option autoImplicit false
/-! AP5: a state of the small language and the slots and heap that bear it; what is wanted behind an expression -/
namespace AP
open PySem PySem.Spec PyProof.Rows L2

/-- a frame's fixed data: the written part, the tables of code objects, the classes of errors, what stood at the entry -/
structure Fd where
  K : PySem.W.Frag
  T : List (Addr × Str)
  cls : Nat → Value
  Z0 : Addr → Prop
  as0 : List Addr
  H0 : Hp
def MoOk (K : PySem.W.Frag) (as : List Addr) (Z : Addr → Prop) (H : Hp) (a : Addr) : MO → Prop
  | .lst xs => ∃ vs, H a = some (.lst vs) ∧ RepL K as Z H xs vs
  | .ins _ _ => False
structure MuRel (K : PySem.W.Frag) (as : List Addr) (Z : Addr → Prop) (H : Hp) (mu : List MO) : Prop where
  len : as.length = mu.length
  nd : as.Nodup
  get : ∀ (n : Nat) a m, as[n]? = some a → mu[n]? = some m → MoOk K as Z H a m
def SlotOk (F : Fd) (as : List Addr) (Z : Addr → Prop) (H : Hp) (o : Option (Option V)) : Slot → Prop
  | .un => True
  | .val pv => ∃ v, o = some (some v) ∧ Rep F.K as Z H pv v
  | .own xs => ∃ a vs, o = some (some (.ref a)) ∧ H a = some (.lst vs) ∧ RepL F.K as Z H xs vs ∧ Z a ∧ ¬ F.Z0 a ∧ Nn F.H0 a
structure StRel (F : Fd) (Z : Addr → Prop) (as : List Addr) (s : S) (σ : L2.St) (H : Hp) : Prop where
  len : s.sl.length = σ.length
  slot : ∀ (i : Nat) x, s.sl[i]? = some x → SlotOk F as Z H (σ[i]?) x
  dis : ∀ (i j : Nat) xs ys (a : Addr), s.sl[i]? = some (.own xs) → s.sl[j]? = some (.own ys) → σ[i]? = some (some (.ref a)) → σ[j]? = some (some (.ref a)) → i = j
  mu : MuRel F.K as Z H s.mu
  hz : HZ as Z H
  zas : ∀ a, Z a → a ∉ as
  z0 : ∀ a, F.Z0 a → Z a
  gw : Gw F.as0 F.H0 as H
  tabs : LamX.Tabs F.T H

section
variable {F : Fd} {Z Z' : Addr → Prop} {as as' : List Addr} {s s' : S} {σ : L2.St} {H H' : Hp}
theorem MuRel.step {K : PySem.W.Frag} {mu : List MO} (m : MuRel K as Z H mu) (g : Gr H H') (z : HZ as Z H) : MuRel K as Z H' mu :=
  ⟨m.len, m.nd, fun n a x h1 h2 => by
    have q := m.get n a x h1 h2
    cases x with
    | lst xs => obtain ⟨vs, h, r⟩ := q; exact ⟨vs, g a _ h, z.repL g r⟩
    | ins c fs => exact q⟩
/-- the heap grows by new things alone -/
theorem StRel.grow (t : StRel F Z as s σ H) (g : Gr H H') : StRel F Z as s σ H' where
  len := t.len
  slot := fun i x h => by
    have q := t.slot i x h
    cases x with
    | un => trivial
    | val pv => obtain ⟨v, h1, r⟩ := q; exact ⟨v, h1, t.hz.rep g r⟩
    | own xs => obtain ⟨a, vs, h1, h2, r, q⟩ := q; exact ⟨a, vs, h1, g a _ h2, t.hz.repL g r, q⟩
  dis := t.dis
  mu := t.mu.step g t.hz
  hz := t.hz.step g
  zas := t.zas
  z0 := t.z0
  gw := t.gw.trans (Gw.of g)
  tabs := t.tabs.ext g

/-- behind an expression: the lists that are still changed stand too -/
structure Fx (as : List Addr) (Z : Addr → Prop) (H : Hp) (as' : List Addr) (Z' : Addr → Prop) (H' : Hp) : Prop where
  gw : Gw as H as' H'
  zz : ∀ a, Z' a → Z a
theorem Fx.fl (g : Fx as Z H as' Z' H') : Fl as Z H as' Z' H' := g.gw.fl fun a h => .inl (g.zz a h)
theorem Fx.refl (as : List Addr) (Z : Addr → Prop) (H : Hp) : Fx as Z H as Z H := ⟨Gw.refl as H, fun _ h => h⟩
theorem Fx.of (g : Gr H H') : Fx as Z H as Z H' := ⟨Gw.of g, fun _ h => h⟩
theorem Fx.trans {as2 : List Addr} {Z2 : Addr → Prop} {H2 : Hp} (a : Fx as Z H as' Z' H') (b : Fx as' Z' H' as2 Z2 H2) : Fx as Z H as2 Z2 H2 := ⟨a.gw.trans b.gw, fun x h => a.zz x (b.zz x h)⟩
/-- what is wanted behind a run -/
def Post {α : Type} (F : Fd) (E : XK) (r : R α) (Z : Addr → Prop) (as : List Addr) (σ : L2.St) (H : Hp) (Q : α → S → Hp → List Addr → (Addr → Prop) → Prop) : Prop := match r with
  | .ok a s' => ∀ H' as' Z', StRel F Z' as' s' σ H' → Fx as Z H as' Z' H' → Q a s' H' as' Z'
  | .exc c s' => ∀ H' as' Z', StRel F Z' as' s' σ H' → Fx as Z H as' Z' H' → E (F.cls c) none H'
  | .no => False
theorem Post.weak {α : Type} {E : XK} {r : R α} {Q : α → S → Hp → List Addr → (Addr → Prop) → Prop} (h : Post F E r Z as σ H Q) (g : Fx as Z H as' Z' H') : Post F E r Z' as' σ H' Q := by
  cases r with
  | ok a s' => exact fun H2 as2 Z2 t g2 => h H2 as2 Z2 t (g.trans g2)
  | exc c s' => exact fun H2 as2 Z2 t g2 => h H2 as2 Z2 t (g.trans g2)
  | no => exact h
theorem Post.bind {α β : Type} {E : XK} {r : R α} {k : α → S → R β} {Q : β → S → Hp → List Addr → (Addr → Prop) → Prop} (h : Post F E (r.bind k) Z as σ H Q) :
    Post F E r Z as σ H (fun a s' H' as' Z' => Post F E (k a s') Z' as' σ H' Q) := by
  cases r with
  | ok a s' =>
    intro H' as' Z' t g
    exact Post.weak (show Post F E (k a s') Z as σ H Q from h) g
  | exc c s' => exact h
  | no => exact h
theorem Post.imp {α : Type} {E : XK} {r : R α} {Q Q' : α → S → Hp → List Addr → (Addr → Prop) → Prop} (h : Post F E r Z as σ H Q)
    (k : ∀ a s' H' as' Z', StRel F Z' as' s' σ H' → Fx as Z H as' Z' H' → Q a s' H' as' Z' → Q' a s' H' as' Z') : Post F E r Z as σ H Q' := by
  cases r with
  | ok a s' => exact fun H' as' Z' t g => k a s' H' as' Z' t g (h H' as' Z' t g)
  | exc c s' => exact h
  | no => exact h
theorem Post.ok {α : Type} {E : XK} {a : α} {Q : α → S → Hp → List Addr → (Addr → Prop) → Prop} (h : Post F E (.ok a s) Z as σ H Q) (t : StRel F Z as s σ H) : Q a s H as Z := h H as Z t (Fx.refl as Z H)
/-- a heap that has grown -/
theorem Post.okG {α : Type} {E : XK} {a : α} {Q : α → S → Hp → List Addr → (Addr → Prop) → Prop} (h : Post F E (.ok a s) Z as σ H Q) (t : StRel F Z as s σ H) (g : Gr H H') : Q a s H' as Z := h H' as Z (t.grow g) (Fx.of g)

def TEok (F : Fd) (E : XK) (te : TE) (r : S → R PV) : Prop :=
  ∀ Z as s σ H Q, StRel F Z as s σ H → Post F E (r s) Z as σ H (fun pv _ H' as' Z' => ∀ v, Rep F.K as' Z' H' pv v → Q v H') → te σ H Q
def TAok (F : Fd) (E : XK) (ta : TA) (r : S → R (List PV)) : Prop :=
  ∀ Z as s σ H Q, StRel F Z as s σ H → Post F E (r s) Z as σ H (fun pv _ H' as' Z' => ∀ v, RepL F.K as' Z' H' pv v → Q v H') → ta σ H Q
def TTok (F : Fd) (E : XK) (tt : TT) (r : S → R Bool) : Prop :=
  ∀ Z as s σ H Q, StRel F Z as s σ H → Post F E (r s) Z as σ H (fun b _ H' _ _ => Q b H') → tt σ H Q
def TOok (F : Fd) (E : XK) (to : TO) (r : S → R (Option Int)) : Prop :=
  ∀ Z as s σ H Q, StRel F Z as s σ H → Post F E (r s) Z as σ H (fun o _ H' _ _ => Q o H') → to σ H Q
/-- an operand -/
def ORep (F : Fd) (s : S) (σ : L2.St) (as : List Addr) (Z : Addr → Prop) (H : Hp) : Opd → V → Prop
  | .val pv, v => Rep F.K as Z H pv v
  | .sl i, v => σ[i]? = some (some v)
theorem ORep.step {o : Opd} {v : V} (h : ORep F s σ as Z H o v) (g : Fx as Z H as' Z' H') (z : HZ as Z H) : ORep F s' σ as' Z' H' o v := by
  cases o with
  | val pv => exact Rep.step g.fl z.nt h
  | sl i => exact h
theorem ORep.view {o : Opd} {v : V} {p : PV} (h : ORep F s σ as Z H o v) (t : StRel F Z as s σ H) (hv : s.view o = some p) : VRep F.K as Z H p v := by
  cases o with
  | val pv =>
    cases pv with
    | obj n =>
      simp only [S.view] at hv
      split at hv
      · rename_i xs hm
        cases hv
        cases h with
        | obj ha =>
          obtain ⟨vs, h1, r⟩ := t.mu.get _ _ _ ha hm
          exact .lst h1 r
      · cases hv
    | non => cases hv; exact .imm h
    | bl b => cases hv; exact .imm h
    | int i => cases hv; exact .imm h
    | str x => cases hv; exact .imm h
    | tup xs => cases hv; exact .imm h
    | lst xs => cases hv; exact .imm h
    | scr ns => cases hv; exact .imm h
  | sl i =>
    simp only [S.view] at hv
    split at hv
    · rename_i xs hm
      cases hv
      obtain ⟨a, vs, h1, h2, r, _⟩ := t.slot i _ hm
      have h' : σ[i]? = some (some v) := h
      rw [h'] at h1
      cases h1
      exact .lst h2 r
    · cases hv
def OEok (F : Fd) (E : XK) (te : TE) (r : S → R Opd) : Prop :=
  ∀ Z as s σ H Q, StRel F Z as s σ H → Post F E (r s) Z as σ H (fun o s' H' as' Z' => ∀ v, ORep F s' σ as' Z' H' o v → Q v H') → te σ H Q

/-! ### the readings' rules -/
variable {E : XK} {ta tb tc te : TE}
theorem two_ok {r : R2} {f : PV → PV → Option PV} {ra rb : S → R Opd} (h1 : OEok F E ta ra) (h2 : OEok F E tb rb) (ho : OpV F.K r f) : TEok F E (tOp r ta tb) (two ra rb f) := by
  intro Z as s σ H Q t h
  refine h1 Z as s σ H _ t ((Post.bind h).imp fun x s1 H1 as1 Z1 t1 g1 q1 v hx => ?_)
  refine h2 Z1 as1 s1 σ H1 _ t1 ((Post.bind q1).imp fun y s2 H2 as2 Z2 t2 g2 q2 w hy => ?_)
  have hx2 : ORep F s2 σ as2 Z2 H2 x v := hx.step g2 t1.hz
  split at q2
  · rename_i p q hp hq
    split at q2
    · rename_i rr hr
      exact ho as2 Z2 H2 p q rr v w Q t2.hz (hx2.view t2 hp) (hy.view t2 hq) hr fun u H' g ru => q2.okG t2 g u ru
    · exact q2.elim
  · exact q2.elim
theorem one_ok {r : V → Hp → VK → Prop} {f : PV → Option PV} {ra : S → R Opd} (h1 : OEok F E ta ra) (ho : UnV F.K r f) : TEok F E (tUn r ta) (one ra f) := by
  intro Z as s σ H Q t h
  refine h1 Z as s σ H _ t ((Post.bind h).imp fun x s1 H1 as1 Z1 t1 g1 q1 v hx => ?_)
  split at q1
  · rename_i p hp
    split at q1
    · rename_i rr hr
      exact ho as1 Z1 H1 p rr v Q t1.hz (hx.view t1 hp) hr fun u H' g ru => q1.okG t1 g u ru
    · exact q1.elim
  · exact q1.elim
/-- an operand is a slot as it is looked at, or any expression -/
theorem opd_ok {e : AP.E} {k : S → R PV} (hk : ∀ i, e ≠ .var i) (h : TEok F E te k) : OEok F E te (opd e k) := by
  intro Z as s σ H Q t q
  have e1 : opd e k s = (k s).bind fun v s => .ok (.val v) s := by
    unfold opd
    cases e <;> first | rfl | exact absurd rfl (hk _)
  rw [e1] at q
  refine h Z as s σ H _ t ((Post.bind q).imp fun v s1 H1 as1 Z1 t1 g1 q1 w hw => ?_)
  exact q1.ok t1 w hw
theorem opd_var {i : Nat} {k : S → R PV} : OEok F E (tVar i) (opd (.var i) k) := by
  intro Z as s σ H Q t q
  simp only [opd] at q
  split at q
  · rename_i v hv
    obtain ⟨w, hw, r⟩ := t.slot i _ hv
    exact ⟨w, hw, q.ok t w r⟩
  · rename_i xs hv
    obtain ⟨a, vs, hw, h2, r, _⟩ := t.slot i _ hv
    exact ⟨_, hw, q.ok t _ hw⟩
  · exact q.elim
/-- an own list is let go -/
theorem StRel.freeze {i : Nat} {xs : List PV} {a : Addr} (t : StRel F Z as s σ H) (h : s.sl[i]? = some (.own xs)) (ha : σ[i]? = some (some (.ref a))) :
    StRel F (fun b => Z b ∧ b ≠ a) as (s.set i (.val (.lst xs))) σ H ∧ Rep F.K as (fun b => Z b ∧ b ≠ a) H (.lst xs) (.ref a) := by
  obtain ⟨a', vs, h1, h2, r, hZ, nZ0, n0⟩ := t.slot i _ h
  rw [ha] at h1; cases h1
  have fl : Fl as Z H as (fun b => Z b ∧ b ≠ a) H := ⟨⟨[], by simp, by simp⟩, fun _ _ h _ _ _ => h, fun _ o h n => ⟨o, h, n⟩, fun _ h => .inl h.1⟩
  have st : ∀ {x : PV} {v : V}, Rep F.K as Z H x v → Rep F.K as (fun b => Z b ∧ b ≠ a) H x v := fun r => Rep.step fl t.hz.nt r
  have stL : ∀ {x : List PV} {v : List V}, RepL F.K as Z H x v → RepL F.K as (fun b => Z b ∧ b ≠ a) H x v := fun r => RepL.step fl t.hz.nt r
  have rp : Rep F.K as (fun b => Z b ∧ b ≠ a) H (.lst xs) (.ref a) := .lst ⟨h2, t.zas a hZ, fun q => q.2 rfl⟩ (stL r)
  have hi : i < s.sl.length := (List.getElem?_eq_some_iff.mp h).1
  refine ⟨⟨by simpa [S.set] using t.len, fun j x hj => ?_, fun j k ys zs b hj hk h3 h4 => ?_, ⟨t.mu.len, t.mu.nd, fun n b m h3 h4 => ?_⟩, ⟨fun b hb => t.hz.nt b (hb.imp id (·.1))⟩, fun b hb => t.zas b hb.1, fun b hb => ⟨t.z0 b hb, fun e => nZ0 (e ▸ hb)⟩, t.gw, t.tabs⟩, rp⟩
  · by_cases hji : j = i
    · subst hji
      simp only [S.set, List.getElem?_set_self hi] at hj
      cases hj
      exact ⟨_, ha, rp⟩
    · simp only [S.set, List.getElem?_set_ne (Ne.symm hji)] at hj
      have q := t.slot j x hj
      cases x with
      | un => trivial
      | val pv => obtain ⟨v, h3, r3⟩ := q; exact ⟨v, h3, st r3⟩
      | own ys =>
        obtain ⟨b, ws, h3, h4, r3, z3, q3⟩ := q
        exact ⟨b, ws, h3, h4, stL r3, ⟨z3, fun e => hji (t.dis j i ys xs b hj h h3 (e ▸ ha))⟩, q3⟩
  · have aux : ∀ (j : Nat) (ys : List PV), (s.set i (.val (.lst xs))).sl[j]? = some (.own ys) → s.sl[j]? = some (.own ys) := fun j ys hj => by
      by_cases hji : j = i
      · subst hji
        simp only [S.set, List.getElem?_set_self hi] at hj
        cases hj
      · simpa only [S.set, List.getElem?_set_ne (Ne.symm hji)] using hj
    exact t.dis j k ys zs b (aux j ys hj) (aux k zs hk) h3 h4
  · have q := t.mu.get n b m h3 h4
    cases m with
    | lst ys => obtain ⟨ws, h5, r5⟩ := q; exact ⟨ws, h5, stL r5⟩
    | ins c fs => exact q
theorem fl_less {a : Addr} : Fx as Z H as (fun b => Z b ∧ b ≠ a) H := ⟨Gw.refl as H, fun _ h => h.1⟩
theorem var_ok {i : Nat} {cf : Nat → List PV → List MO → RC} {G : Gx} : TEok F E (tVar i) (ev cf G (.var i)) := by
  intro Z as s σ H Q t q
  simp only [ev] at q
  split at q
  · rename_i v hv
    obtain ⟨w, hw, r⟩ := t.slot i _ hv
    exact ⟨w, hw, q.ok t w r⟩
  · rename_i xs hv
    obtain ⟨a, vs, hw, h2, r, _⟩ := t.slot i _ hv
    obtain ⟨t', r'⟩ := t.freeze hv hw
    exact ⟨_, hw, q H as _ t' fl_less _ r'⟩
  · exact q.elim
theorem const_ok {pv : PV} {v : V} (h : ∀ as Z H, Rep F.K as Z H pv v) : TEok F E (tC v) (fun s => .ok pv s) := by
  intro Z as s σ H Q t q
  exact q.ok t v (h _ _ _)
theorem nil_ok : TAok F E tNil (fun s => .ok [] s) := by
  intro Z as s σ H Q t q
  exact q.ok t [] .nil
theorem cons_ok {t2 : TA} {ra : S → R PV} {rb : S → R (List PV)} (h1 : TEok F E ta ra) (h2 : TAok F E t2 rb) :
    TAok F E (tCons ta t2) (fun s => (ra s).bind fun v s1 => (rb s1).bind fun vs s2 => .ok (v :: vs) s2) := by
  intro Z as s σ H Q t h
  refine h1 Z as s σ H _ t ((Post.bind h).imp fun x s1 H1 as1 Z1 t1 g1 q1 v hx => ?_)
  refine h2 Z1 as1 s1 σ H1 _ t1 ((Post.bind q1).imp fun y s2 H2 as2 Z2 t2 g2 q2 w hy => ?_)
  exact q2.ok t2 _ (.cons (Rep.step g2.fl t1.hz.nt hx) hy)
theorem tup_ok {t2 : TA} {ra : S → R (List PV)} (h1 : TAok F E t2 ra) : TEok F E (tTup t2) (fun s => (ra s).bind fun vs s1 => if vs.length ≤ lim then .ok (.tup vs) s1 else .no) := by
  intro Z as s σ H Q t h
  refine h1 Z as s σ H _ t ((Post.bind h).imp fun x s1 H1 as1 Z1 t1 g1 q1 v hx => ?_)
  split at q1
  · rename_i hl
    exact ⟨lim_ok (by rw [← hx.length]; exact hl), fun p hp => q1.okG t1 (gr_new hp) _ (t1.hz.newT hp hx)⟩
  · exact q1.elim
theorem lst_ok {t2 : TA} {ra : S → R (List PV)} (h1 : TAok F E t2 ra) : TEok F E (tLst t2) (fun s => (ra s).bind fun vs s1 => if vs.length ≤ lim then .ok (.lst vs) s1 else .no) := by
  intro Z as s σ H Q t h
  refine h1 Z as s σ H _ t ((Post.bind h).imp fun x s1 H1 as1 Z1 t1 g1 q1 v hx => ?_)
  split at q1
  · rename_i hl
    exact ⟨lim_ok (by rw [← hx.length]; exact hl), fun p hp => q1.okG t1 (gr_new hp) _ (t1.hz.newL hp hx)⟩
  · exact q1.elim
end
end AP

set_option Elab.async false
set_option linter.all false
set_option maxRecDepth 100000
set_option maxHeartbeats 4000000
set_option autoImplicit false
/-! AP6: the readings of expressions -/
namespace AP
open PySem PySem.Spec PyProof.Rows L2
section
variable {F : Fd} {EX : XK} {Z Z' : Addr → Prop} {as as' : List Addr} {s s' : S} {σ : L2.St} {H H' : Hp} {ta tb tc te : TE}
theorem CmV.op {K : PySem.W.Frag} {r : R2} {f : PV → PV → Option Bool} (h : CmV K r f) : OpV K r (fun p q => (f p q).map .bl) := by
  intro as Z H a b c x y Q z ra rb hf hq
  obtain ⟨d, hd, rfl⟩ := Option.map_eq_some_iff.mp hf
  exact h as Z H a b d x y Q z ra rb hd (hq _ _ (Gr.refl H) (.bl d))
theorem neg_ok : UnV F.K (rU fun i => .int (-i)) (fun | .int i => some (.int (-i)) | _ => none) := by
  intro as Z H a c x Q z ra hf hq
  cases a <;> simp only at hf <;> cases hf
  rw [ra.i]
  exact ⟨_, rfl, hq _ _ (Gr.refl H) (.int _)⟩
theorem chain_ok {r r' : R2} {f f' : PV → PV → Option Bool} {ra rb rc : S → R PV} (h1 : TEok F EX ta ra) (h2 : TEok F EX tb rb) (h3 : TEok F EX tc rc) (ho : CmV F.K r f) (ho' : CmV F.K r' f') :
    TEok F EX (tChain r r' ta tb tc) (fun s => (ra s).bind fun x s1 => (rb s1).bind fun y s2 => (match f x y with
      | some true => (rc s2).bind fun z s3 => (match f' y z with
        | some r => .ok (.bl r) s3
        | none => .no)
      | some false => .ok (.bl false) s2
      | none => .no)) := by
  intro Z as s σ H Q t h
  refine h1 Z as s σ H _ t ((Post.bind h).imp fun x s1 H1 as1 Z1 t1 g1 q1 v hx => ?_)
  refine h2 Z1 as1 s1 σ H1 _ t1 ((Post.bind q1).imp fun y s2 H2 as2 Z2 t2 g2 q2 w hy => ?_)
  have hx2 := Rep.step g2.fl t1.hz.nt hx
  split at q2
  · rename_i hf
    refine ho as2 Z2 H2 x y true v w _ t2.hz (.imm hx2) (.imm hy) hf ⟨true, rfl, ?_⟩
    rw [if_pos rfl]
    refine h3 Z2 as2 s2 σ H2 _ t2 ((Post.bind q2).imp fun z s3 H3 as3 Z3 t3 g3 q3 u hz => ?_)
    split at q3
    · rename_i rr hr
      exact ho' as3 Z3 H3 y z rr w u _ t3.hz (.imm (Rep.step g3.fl t2.hz.nt hy)) (.imm hz) hr (q3.ok t3 _ (.bl _))
    · exact q3.elim
  · rename_i hf
    refine ho as2 Z2 H2 x y false v w _ t2.hz (.imm hx2) (.imm hy) hf ⟨false, rfl, ?_⟩
    rw [if_neg Bool.false_ne_true]
    exact q2.ok t2 _ (.bl _)
  · exact q2.elim
theorem Rep.isBl {K : PySem.W.Frag} {b : Bool} {v : V} (h : Rep K as Z H (.bl b) v) : v = .bl b := by
  cases h; rfl
theorem and_ok {ra rb : S → R PV} (h1 : TEok F EX ta ra) (h2 : TEok F EX tb rb) :
    TEok F EX (tAndV ta tb) (fun s => (ra s).bind fun x s1 => (match x with
      | .bl true => rb s1
      | .bl false => .ok (.bl false) s1
      | _ => .no)) := by
  intro Z as s σ H Q t h
  refine h1 Z as s σ H _ t ((Post.bind h).imp fun x s1 H1 as1 Z1 t1 g1 q1 v hx => ?_)
  split at q1
  · rw [hx.isBl]
    refine ⟨true, rfl, ?_⟩
    rw [if_pos rfl]
    exact h2 Z1 as1 s1 σ H1 _ t1 q1
  · rw [hx.isBl]
    refine ⟨false, rfl, ?_⟩
    rw [if_neg Bool.false_ne_true]
    exact q1.ok t1 _ (.bl _)
  · exact q1.elim
theorem or_ok {ra rb : S → R PV} (h1 : TEok F EX ta ra) (h2 : TEok F EX tb rb) :
    TEok F EX (tOrV ta tb) (fun s => (ra s).bind fun x s1 => (match x with
      | .bl true => .ok (.bl true) s1
      | .bl false => rb s1
      | _ => .no)) := by
  intro Z as s σ H Q t h
  refine h1 Z as s σ H _ t ((Post.bind h).imp fun x s1 H1 as1 Z1 t1 g1 q1 v hx => ?_)
  split at q1
  · rw [hx.isBl]
    refine ⟨true, rfl, ?_⟩
    rw [if_pos rfl]
    exact q1.ok t1 _ (.bl _)
  · rw [hx.isBl]
    refine ⟨false, rfl, ?_⟩
    rw [if_neg Bool.false_ne_true]
    exact h2 Z1 as1 s1 σ H1 _ t1 q1
  · exact q1.elim
theorem not_ok {ra : S → R PV} (h1 : TEok F EX ta ra) :
    TEok F EX (tNotV ta) (fun s => (ra s).bind fun x s1 => (match x with
      | .bl b => .ok (.bl (!b)) s1
      | _ => .no)) := by
  intro Z as s σ H Q t h
  refine h1 Z as s σ H _ t ((Post.bind h).imp fun x s1 H1 as1 Z1 t1 g1 q1 v hx => ?_)
  split at q1
  · rw [hx.isBl]
    exact ⟨_, rfl, q1.ok t1 _ (.bl _)⟩
  · exact q1.elim
theorem ite_ok {tt : TT} {rt : S → R PV} {ra rb : S → R PV} (h0 : TTok F EX tt (fun s => (rt s).bind asBool)) (h1 : TEok F EX ta ra) (h2 : TEok F EX tb rb) :
    TEok F EX (tIf tt ta tb) (fun s => (rt s).bind fun x s1 => (match x with
      | .bl true => ra s1
      | .bl false => rb s1
      | _ => .no)) := by
  intro Z as s σ H Q t h
  refine h0 Z as s σ H _ t ?_
  cases hr : rt s with
  | ok x s1 =>
    simp only [hr, R.bind] at h ⊢
    cases x with
    | bl b =>
      simp only [asBool]
      intro H1 as1 Z1 t1 g1
      cases b with
      | true =>
        rw [if_pos rfl]
        exact h1 Z1 as1 s1 σ H1 _ t1 (Post.weak h g1)
      | false =>
        rw [if_neg Bool.false_ne_true]
        exact h2 Z1 as1 s1 σ H1 _ t1 (Post.weak h g1)
    | _ => exact h.elim
  | exc c s1 =>
    simp only [hr, R.bind] at h ⊢
    exact h
  | no =>
    simp only [hr, R.bind] at h
    exact h.elim
theorem slice_ok' {r : V → Option Int → Option Int → Hp → VK → Prop} {ra : S → R Opd} {t1' t2' : TO} {rl rh : S → R (Option Int)} (h1 : OEok F EX ta ra) (h2 : TOok F EX t1' rl) (h3 : TOok F EX t2' rh) (ho : SlV F.K r sliceV) :
    TEok F EX (tSl r ta t1' t2') (fun s => (ra s).bind fun x s1 => (rl s1).bind fun l s2 => (rh s2).bind fun h s3 => (match s3.view x with
      | some p => (match sliceV l h p with
        | some r => .ok r s3
        | none => .no)
      | none => .no)) := by
  intro Z as s σ H Q t h
  refine h1 Z as s σ H _ t ((Post.bind h).imp fun x s1 H1 as1 Z1 t1 g1 q1 v hx => ?_)
  refine h2 Z1 as1 s1 σ H1 _ t1 ((Post.bind q1).imp fun l s2 H2 as2 Z2 t2 g2 q2 => ?_)
  refine h3 Z2 as2 s2 σ H2 _ t2 ((Post.bind q2).imp fun u s3 H3 as3 Z3 t3 g3 q3 => ?_)
  have hx3 : ORep F s3 σ as3 Z3 H3 x v := hx.step (g2.trans g3) t1.hz
  split at q3
  · rename_i p hp
    split at q3
    · rename_i rr hr
      exact ho as3 Z3 H3 p rr l u v Q t3.hz (hx3.view t3 hp) hr fun w H' g ru => q3.okG t3 g w ru
    · exact q3.elim
  · exact q3.elim
theorem rev_ok : UnV F.K (fun x H Q => ∃ a xs, x = .ref a ∧ ((SqL F.K H a xs ∧ ∀ p, H p = none → Q (.ref p) (upd H p (.lst xs.reverse))) ∨ (SqT F.K H a xs ∧ ∀ p, H p = none → Q (.ref p) (upd H p (.tup xs.reverse))))) revV := by
  intro as Z H a c x Q z ra hf hq
  unfold revV at hf
  split at hf
  · cases hf
    obtain ⟨p, vs, rfl, h1, r1⟩ := ra.t
    exact ⟨p, vs, rfl, .inr ⟨h1, fun n hn => hq _ _ (gr_new hn) (z.newT hn r1.reverse)⟩⟩
  · cases hf
    obtain ⟨p, vs, rfl, h1, r1⟩ := ra.l
    exact ⟨p, vs, rfl, .inl ⟨SqL.of h1, fun n hn => hq _ _ (gr_new hn) (z.newL hn r1.reverse)⟩⟩
  · cases hf
theorem omit_ok : TOok F EX tNoPart (fun s => .ok none s) := by
  intro Z as s σ H Q t h
  exact h.ok t
theorem part_ok {ra : S → R PV} (h1 : TEok F EX ta ra) : TOok F EX (tPart ta) (fun s => (ra s).bind fun v s1 => (match v with
    | .int i => .ok (some i) s1
    | _ => .no)) := by
  intro Z as s σ H Q t h
  refine h1 Z as s σ H _ t ((Post.bind h).imp fun x s1 H1 as1 Z1 t1 g1 q1 v hx => ?_)
  split at q1
  · cases hx
    exact ⟨_, rfl, q1.ok t1⟩
  · exact q1.elim
/-- a built-in of one argument, as it is looked at -/
theorem bi1_ok {r : List V → Hp → VK → Prop} {f : List PV → Option PV} {ra : S → R Opd} (h1 : OEok F EX ta ra) (ho : CaV F.K r f) : TEok F EX (tCB r (tCons ta tNil)) (one ra (fun p => f [p])) := by
  intro Z as s σ H Q t h
  refine h1 Z as s σ H _ t ((Post.bind h).imp fun x s1 H1 as1 Z1 t1 g1 q1 v hx => ?_)
  show r [v] H1 Q
  split at q1
  · rename_i p hp
    split at q1
    · rename_i rr hr
      exact ho as1 Z1 H1 [p] rr [v] Q t1.hz (.cons (hx.view t1 hp) .nil) hr fun u H' g ru => q1.okG t1 g u ru
    · exact q1.elim
  · exact q1.elim
theorem RepL.view {K : PySem.W.Frag} {xs : List PV} {vs : List V} (h : RepL K as Z H xs vs) : VRepL K as Z H xs vs := by
  induction xs generalizing vs with
  | nil => cases h; exact .nil
  | cons x xs ih =>
    cases h with
    | cons h r => exact .cons (.imm h) (ih r)
theorem bin_ok' {r : List V → Hp → VK → Prop} {f : List PV → Option PV} {t2 : TA} {ra : S → R (List PV)} (h1 : TAok F EX t2 ra) (ho : CaV F.K r f) :
    TEok F EX (tCB r t2) (fun s => (ra s).bind fun vs s1 => (match f vs with
      | some r => .ok r s1
      | none => .no)) := by
  intro Z as s σ H Q t h
  refine h1 Z as s σ H _ t ((Post.bind h).imp fun x s1 H1 as1 Z1 t1 g1 q1 v hx => ?_)
  split at q1
  · rename_i rr hr
    exact ho as1 Z1 H1 x rr v Q t1.hz hx.view hr fun u H' g ru => q1.okG t1 g u ru
  · exact q1.elim
/-! ### isinstance -/
theorem kit_tab (a t : Ty) {K : PySem.W.Frag} : PySem.W.kitOne K (.type a.nm) (.type t.nm) = some (a == t || (a == .bool && t == .int)) := by
  cases a <;> cases t <;> exact kit_ty (by decide +kernel)
theorem kit_none (t : Ty) {K : PySem.W.Frag} : PySem.W.kitOne K (.type "NoneType") (.type t.nm) = some false := by
  cases t <;> exact kit_ty (by decide +kernel)
theorem tyx_tup {K : PySem.W.Frag} {a : Addr} {xs : List V} (h : SqT K H a xs) : TyX K H (.ref a) (.type "tuple") := by
  rcases h with (h | ⟨o, h⟩) | ⟨o, its, n, h1, h2, _⟩
  · exact .base (.tup h)
  · exact .fTuple h
  · exact .kTuple h1 h2
theorem isi_ok (t : Ty) {K : PySem.W.Frag} {p : PV} {b : Bool} {v : V} (h : VRep K as Z H p v) (e : p.isTy t = some b) : ∃ u, TyX K H v u ∧ PySem.W.kitOne K u (.type t.nm) = some b := by
  cases p with
  | non => cases e; rw [h.n]; exact ⟨_, .base .non, kit_none t⟩
  | bl x => cases e; rw [h.b]; exact ⟨_, .base (.bl x), by rw [show ("bool" : String) = Ty.nm .bool from rfl, kit_tab]; cases t <;> rfl⟩
  | int x => cases e; rw [h.i]; exact ⟨_, .base (.int x), by rw [show ("int" : String) = Ty.nm .int from rfl, kit_tab]; cases t <;> rfl⟩
  | str x => cases e; rw [h.s]; exact ⟨_, .base (.str x), by rw [show ("str" : String) = Ty.nm .str from rfl, kit_tab]; cases t <;> rfl⟩
  | tup xs =>
    cases e
    obtain ⟨a, vs, rfl, h1, _⟩ := h.t
    exact ⟨_, tyx_tup h1, by rw [show ("tuple" : String) = Ty.nm .tuple from rfl, kit_tab]; cases t <;> rfl⟩
  | lst xs =>
    cases e
    obtain ⟨a, vs, rfl, h1, _⟩ := h.l
    exact ⟨_, .base (.lst h1), by rw [show ("list" : String) = Ty.nm .list from rfl, kit_tab]; cases t <;> rfl⟩
  | obj n => cases e
  | scr ns => cases e
theorem isi_ok' (ty : Ty) {ra : S → R Opd} (h1 : OEok F EX ta ra) : TEok F EX (tCB (rIsi F.K) (tCons ta (tCons (tC (.ty ty.nm)) tNil))) (one ra (fun p => (p.isTy ty).map .bl)) := by
  intro Z as s σ H Q t h
  refine h1 Z as s σ H _ t ((Post.bind h).imp fun x s1 H1 as1 Z1 t1 g1 q1 v hx => ?_)
  show rIsi F.K [v, .ty ty.nm] H1 Q
  split at q1
  · rename_i p hp
    split at q1
    · rename_i rr hr
      obtain ⟨b, hb, rfl⟩ := Option.map_eq_some_iff.mp hr
      obtain ⟨u, hu, hk⟩ := isi_ok ty (hx.view t1 hp) hb
      exact ⟨v, _, u, _, b, rfl, .ty _, hu, hk, q1.ok t1 _ (.bl _)⟩
    · exact q1.elim
  · exact q1.elim
/-! ### texts -/
theorem txts_rep {K : PySem.W.Frag} {xs : List PV} {vs : List V} {ys : List Str} (h : RepL K as Z H xs vs) (e : txts xs = some ys) : vs = ys.map V.str := by
  induction xs generalizing vs ys with
  | nil => cases e; cases h; rfl
  | cons x xs ih =>
    cases x with
    | str y =>
      obtain ⟨r, hr, rfl⟩ := Option.map_eq_some_iff.mp (show (txts xs).map (y :: ·) = some ys from e)
      cases h with
      | cons h t => cases h; rw [ih t hr]; rfl
    | _ => cases e
theorem RepL.strs {K : PySem.W.Frag} (ys : List Str) : RepL K as Z H (ys.map PV.str) (ys.map V.str) := by
  induction ys with
  | nil => exact .nil
  | cons y ys ih => exact .cons (.str y) ih
theorem split_ok {ra : S → R PV} {rb : S → R Opd} (h1 : TEok F EX ta ra) (h2 : OEok F EX tb rb) :
    TEok F EX (tM1 (fun x xs H Q => ∃ a b, x = .str a ∧ xs = [.str b] ∧ (b.length == 0) = false ∧ a.length + 2 ≤ sizeLine ∧ rNewStrs (Txt.split a b) H Q) ta tb) (fun s => (ra s).bind fun x s1 => (match x with
      | .str z => one rb (fun q => mtV .split (.str z) q) s1
      | _ => .no)) := by
  intro Z as s σ H Q t h
  refine h1 Z as s σ H _ t ((Post.bind h).imp fun x s1 H1 as1 Z1 t1 g1 q1 v hx => ?_)
  split at q1
  · rename_i z
    cases hx
    refine ⟨⟨_, rfl⟩, ?_⟩
    refine h2 Z1 as1 s1 σ H1 _ t1 ((Post.bind q1).imp fun y s2 H2 as2 Z2 t2 g2 q2 w hy => ?_)
    split at q2
    · rename_i p hp
      split at q2
      · rename_i rr hr
        have hv := hy.view t2 hp
        cases p <;> simp only [mtV] at hr <;> first | (cases hr; done) | skip
        split at hr
        · rename_i hc
          cases hr
          rw [hv.s]
          exact ⟨_, _, rfl, rfl, by simpa using hc.1, Nat.le_trans (Nat.add_le_add_right hc.2 2) (by decide), fun n hn => q2.okG t2 (gr_new hn) _ (t2.hz.newL hn (RepL.strs _))⟩
        · cases hr
      · exact q2.elim
    · exact q2.elim
  · exact q1.elim
theorem join_ok {ra : S → R PV} {rb : S → R Opd} (h1 : TEok F EX ta ra) (h2 : OEok F EX tb rb) :
    TEok F EX (tM1 (fun x xs H Q => ∃ a p, ∃ ys : List Str, x = .str a ∧ xs = [.ref p] ∧ (SqL F.K H p (ys.map V.str) ∨ SqT F.K H p (ys.map V.str)) ∧
      (ys.map (·.length)).sum + ys.length * a.length ≤ 16777216 ∧ Q (.str (Txt.join a ys)) H) ta tb) (fun s => (ra s).bind fun x s1 => (match x with
      | .str z => one rb (fun q => mtV .join (.str z) q) s1
      | _ => .no)) := by
  intro Z as s σ H Q t h
  refine h1 Z as s σ H _ t ((Post.bind h).imp fun x s1 H1 as1 Z1 t1 g1 q1 v hx => ?_)
  split at q1
  · rename_i z
    cases hx
    refine ⟨⟨_, rfl⟩, ?_⟩
    refine h2 Z1 as1 s1 σ H1 _ t1 ((Post.bind q1).imp fun y s2 H2 as2 Z2 t2 g2 q2 w hy => ?_)
    split at q2
    · rename_i p hp
      split at q2
      · rename_i rr hr
        have hv := hy.view t2 hp
        cases p <;> simp only [mtV] at hr <;> first | (cases hr; done) | skip
        split at hr
        · rename_i ys hys
          split at hr
          · rename_i hc
            cases hr
            obtain ⟨a, vs, rfl, e1, r1⟩ := hv.l
            rw [txts_rep r1 hys] at e1
            refine ⟨_, a, ys, rfl, rfl, .inl (SqL.of e1), ?_, q2.ok t2 _ (.str _)⟩
            have h1 : (ys.length + 1) * z.length = ys.length * z.length + z.length := by rw [Nat.add_mul, Nat.one_mul]
            have h2 : lim ≤ 16777216 := by decide
            omega
          · cases hr
        · cases hr
      · exact q2.elim
    · exact q2.elim
  · exact q1.elim
/-! ### tests -/
theorem test_ok {ra : S → R PV} (h1 : TEok F EX ta ra) : TTok F EX (tB ta) (fun s => (ra s).bind asBool) := by
  intro Z as s σ H Q t h
  refine h1 Z as s σ H _ t ((Post.bind h).imp fun x s1 H1 as1 Z1 t1 g1 q1 v hx => ?_)
  cases x with
  | bl b => cases hx; exact ⟨b, rfl, q1.ok t1⟩
  | _ => exact q1.elim
theorem TTok.congr {tt : TT} {r r' : S → R Bool} (h : TTok F EX tt r) (e : ∀ s, r' s = r s) : TTok F EX tt r' := by
  rw [show r' = r from funext e]; exact h
theorem tand_ok {t1 t2 : TT} {ra rb : S → R Bool} (h1 : TTok F EX t1 ra) (h2 : TTok F EX t2 rb) : TTok F EX (tAnd t1 t2) (fun s => (ra s).bind fun b s1 => if b then rb s1 else .ok false s1) := by
  intro Z as s σ H Q t h
  refine h1 Z as s σ H _ t ((Post.bind h).imp fun b s1 H1 as1 Z1 t1 g1 q1 => ?_)
  cases b with
  | true => rw [if_pos rfl]; exact h2 Z1 as1 s1 σ H1 _ t1 q1
  | false => rw [if_neg Bool.false_ne_true]; exact q1.ok t1
theorem tor_ok {t1 t2 : TT} {ra rb : S → R Bool} (h1 : TTok F EX t1 ra) (h2 : TTok F EX t2 rb) : TTok F EX (tOr t1 t2) (fun s => (ra s).bind fun b s1 => if b then .ok true s1 else rb s1) := by
  intro Z as s σ H Q t h
  refine h1 Z as s σ H _ t ((Post.bind h).imp fun b s1 H1 as1 Z1 t1 g1 q1 => ?_)
  cases b with
  | true => rw [if_pos rfl]; exact q1.ok t1
  | false => rw [if_neg Bool.false_ne_true]; exact h2 Z1 as1 s1 σ H1 _ t1 q1
theorem tnot_ok {t1 : TT} {ra : S → R Bool} (h1 : TTok F EX t1 ra) : TTok F EX (tNot t1) (fun s => (ra s).bind fun b s1 => .ok (!b) s1) := by
  intro Z as s σ H Q t h
  refine h1 Z as s σ H _ t ((Post.bind h).imp fun b s1 H1 as1 Z1 t1 g1 q1 => ?_)
  exact q1.ok t1
theorem and_bool (ra rb : S → R PV) (s : S) : (((ra s).bind fun x s1 => (match x with
      | .bl true => rb s1
      | .bl false => .ok (.bl false) s1
      | _ => .no)).bind asBool) = ((ra s).bind asBool).bind fun b s1 => if b then (rb s1).bind asBool else .ok false s1 := by
  cases h : ra s with
  | ok x s1 =>
    cases x with
    | bl b => cases b <;> rfl
    | _ => rfl
  | exc c s1 => rfl
  | no => rfl
theorem or_bool (ra rb : S → R PV) (s : S) : (((ra s).bind fun x s1 => (match x with
      | .bl true => .ok (.bl true) s1
      | .bl false => rb s1
      | _ => .no)).bind asBool) = ((ra s).bind asBool).bind fun b s1 => if b then .ok true s1 else (rb s1).bind asBool := by
  cases h : ra s with
  | ok x s1 =>
    cases x with
    | bl b => cases b <;> rfl
    | _ => rfl
  | exc c s1 => rfl
  | no => rfl
theorem not_bool (ra : S → R PV) (s : S) : (((ra s).bind fun x s1 => (match x with
      | .bl b => .ok (.bl (!b)) s1
      | _ => .no)).bind asBool) = ((ra s).bind asBool).bind fun b s1 => .ok (!b) s1 := by
  cases h : ra s with
  | ok x s1 =>
    cases x with
    | bl b => cases b <;> rfl
    | _ => rfl
  | exc c s1 => rfl
  | no => rfl
end
end AP

set_option Elab.async false
set_option linter.all false
set_option maxRecDepth 100000
set_option maxHeartbeats 4000000
set_option autoImplicit false
/-! AP7: calls, targets, walks, comprehensions -/
namespace AP
open PySem PySem.Spec PyProof.Rows L2
theorem nd_ix {α : Type} {N : List α} (hN : N.Nodup) {i j : Nat} {x : α} (a : N[i]? = some x) (b : N[j]? = some x) : i = j := by
  obtain ⟨hi, e1⟩ := List.getElem?_eq_some_iff.mp a
  obtain ⟨hj, e2⟩ := List.getElem?_eq_some_iff.mp b
  rw [List.Nodup, List.pairwise_iff_getElem] at hN
  rcases Nat.lt_trichotomy i j with h | h | h
  · exact absurd (e1.trans e2.symm) (hN i j hi hj h)
  · exact h
  · exact absurd (e2.trans e1.symm) (hN j i hj hi h)
/-- what the heap must be ahead of a call and behind it -/
structure Hk (K : PySem.W.Frag) (T : List (Addr × Str)) (Z : Addr → Prop) (as : List Addr) (mu : List MO) (H : Hp) : Prop where
  mu : MuRel K as Z H mu
  hz : HZ as Z H
  zas : ∀ a, Z a → a ∉ as
  tabs : LamX.Tabs T H
/-- a def's promise: it hands back what cf hands back -/
def spOf (K : PySem.W.Frag) (T : List (Addr × Str)) (cls : Nat → Value) (cf : Nat → List PV → List MO → RC) (f n : Nat) : Sp := fun vs H Q EX => ∃ (Z : Addr → Prop) (as : List Addr) (mu : List MO) (xs : List PV),
  Hk K T Z as mu H ∧ RepL K as Z H xs vs ∧ xs.length = n ∧ match cf f xs mu with
    | .ok v mu' => ∀ w H' as', Hk K T Z as' mu' H' → Gw as H as' H' → Rep K as' Z H' v w → Q w H'
    | .exc c mu' => ∀ H' as', Hk K T Z as' mu' H' → Gw as H as' H' → EX (cls c) none H'
    | .no => False
section
variable {F : Fd} {EX : XK} {Z Z' : Addr → Prop} {as as' : List Addr} {s s' : S} {σ : L2.St} {H H' : Hp} {ta tb tc te : TE}
theorem StRel.hk (t : StRel F Z as s σ H) : Hk F.K F.T Z as s.mu H := ⟨t.mu, t.hz, t.zas, t.tabs⟩
/-- behind a call -/
theorem StRel.call {mu' : List MO} (t : StRel F Z as s σ H) (k : Hk F.K F.T Z as' mu' H') (g : Gw as H as' H') : StRel F Z as' ⟨s.sl, mu'⟩ σ H' where
  len := t.len
  slot := fun i x h => by
    have q := t.slot i x h
    have fl : Fl as Z H as' Z H' := g.fl fun _ h => .inl h
    cases x with
    | un => trivial
    | val pv => obtain ⟨v, h1, r⟩ := q; exact ⟨v, h1, Rep.step fl t.hz.nt r⟩
    | own xs => obtain ⟨a, vs, h1, h2, r, z, q⟩ := q; exact ⟨a, vs, h1, g.keep a _ h2 (t.zas a z) (fun _ z => by cases z), RepL.step fl t.hz.nt r, z, q⟩
  dis := t.dis
  mu := k.mu
  hz := k.hz
  zas := k.zas
  z0 := t.z0
  gw := t.gw.trans g
  tabs := k.tabs
theorem call_ok {cf : Nat → List PV → List MO → RC} {f n : Nat} {t2 : TA} {ra : S → R (List PV)} (h1 : TAok F EX t2 ra) (hn : ∀ s xs s', ra s = .ok xs s' → xs.length = n) :
    TEok F EX (tCall (spOf F.K F.T F.cls cf f n) [] EX t2) (fun s => (ra s).bind fun vs s1 => callR cf f vs s1) := by
  intro Z as s σ H Q t h
  have hl : ∀ xs s', ra s = .ok xs s' → xs.length = n := hn s
  refine h1 Z as s σ H _ t ?_
  cases hr : ra s with
  | ok xs s1 =>
    simp only [hr, R.bind] at h
    intro H1 as1 Z1 t1 g1 v hv
    rw [List.append_nil]
    refine ⟨Z1, as1, s1.mu, xs, t1.hk, hv, hl xs s1 hr, ?_⟩
    have h2 := Post.weak h g1
    unfold callR at h2
    split
    · rename_i w mu' hc
      simp only [hc] at h2
      intro u H' as' k g ru
      exact h2 H' as' Z1 (t1.call k g) ⟨g, fun _ z => z⟩ u ru
    · rename_i c mu' hc
      simp only [hc] at h2
      intro H' as' k g
      exact h2 H' as' Z1 (t1.call k g) ⟨g, fun _ z => z⟩
    · rename_i hc
      simp only [hc] at h2
      exact h2
  | exc c s1 =>
    simp only [hr, R.bind] at h
    exact h
  | no =>
    simp only [hr, R.bind] at h
    exact h.elim

/-! ### a mutable list of the store -/
/-- the n-th mutable thing is a list that becomes another one -/
theorem StRel.moSet {n : Nat} {a : Addr} {xs ys : List PV} {vs ws : List V} (t : StRel F Z as s σ H) (ha : as[n]? = some a) (hm : s.mu[n]? = some (.lst xs)) (h : H a = some (.lst vs)) (r : RepL F.K as Z H ys ws)
    (n0 : Nn F.H0 a ∨ a ∈ F.as0) : StRel F Z as ⟨s.sl, s.mu.set n (.lst ys)⟩ σ (upd H a (.lst ws)) ∧ Fx as Z H as Z (upd H a (.lst ws)) := by
  have hmem : a ∈ as := List.mem_of_getElem? ha
  have nb : ∀ b o, H b = some o → b ∉ as → (upd H a (.lst ws)) b = some o := fun b o e hb => by
    have hne : b ≠ a := fun z => hb (by rw [z]; exact hmem)
    rw [upd_ne hne]; exact e
  have gw : Gw as H as (upd H a (.lst ws)) := ⟨⟨[], by simp, by simp⟩, fun b o e hb _ => nb b o e hb, fun b o e n => by
    by_cases hb : b = a
    · exact ⟨_, by rw [hb, upd_same], by intro ps z; cases z⟩
    · exact ⟨o, by rw [upd_ne hb]; exact e, n⟩⟩
  have fl : Fl as Z H as Z (upd H a (.lst ws)) := gw.fl fun _ h => .inl h
  have hz : HZ as Z (upd H a (.lst ws)) := ⟨fun b hb => by
    by_cases hba : b = a
    · refine ⟨.lst ws, by rw [hba, upd_same], ?_, ?_, ?_⟩ <;> intros <;> intro z <;> cases z
    · obtain ⟨o, e, q⟩ := t.hz.nt b hb
      exact ⟨o, by rw [upd_ne hba]; exact e, q⟩⟩
  have hgw : Gw F.as0 F.H0 as (upd H a (.lst ws)) := by
    refine ⟨t.gw.pre, fun b o e hb ht => ?_, fun b o e n => ?_⟩
    · by_cases hba : b = a
      · subst hba
        rcases n0 with z | z
        · exact (z.not e ht).elim
        · exact absurd z hb
      · rw [upd_ne hba]; exact t.gw.keep b o e hb ht
    · obtain ⟨o', e', n'⟩ := t.gw.dom b o e n
      exact gw.dom b o' e' n'
  have htab : LamX.Tabs F.T (upd H a (.lst ws)) := fun p hp => by
    obtain ⟨ps, e1, e2, e3⟩ := t.tabs p hp
    refine ⟨ps, by rw [upd_ne (ne_of e1 h (by intro z; cases z))]; exact e1, e2, fun pos cv hc => ?_⟩
    obtain ⟨c, e4, e5⟩ := e3 pos cv hc
    exact ⟨c, e4, by rw [upd_ne (ne_of e5 h (by intro z; unfold LamX.CodeO at z; cases z))]; exact e5⟩
  refine ⟨⟨t.len, fun i x hi => ?_, t.dis, ⟨by simpa using t.mu.len, t.mu.nd, fun k b m hb hk => ?_⟩, hz, t.zas, t.z0, hgw, htab⟩, gw, fun _ z => z⟩
  · have q := t.slot i x hi
    cases x with
    | un => trivial
    | val pv => obtain ⟨v, h1, r⟩ := q; exact ⟨v, h1, Rep.step fl t.hz.nt r⟩
    | own zs => obtain ⟨b, us, h1, h2, r, z, q⟩ := q; exact ⟨b, us, h1, nb b _ h2 (t.zas b z), RepL.step fl t.hz.nt r, z, q⟩
  · by_cases hkn : k = n
    · subst hkn
      have hlt : k < s.mu.length := (List.getElem?_eq_some_iff.mp hm).1
      rw [List.getElem?_set_self hlt] at hk
      cases hk
      rw [ha] at hb; cases hb
      exact ⟨ws, upd_same, RepL.step fl t.hz.nt r⟩
    · rw [List.getElem?_set_ne (Ne.symm hkn)] at hk
      have q := t.mu.get k b m hb hk
      have hba : b ≠ a := fun e => hkn (by
        subst e
        exact nd_ix t.mu.nd hb ha)
      cases m with
      | lst zs => obtain ⟨us, h1, r1⟩ := q; exact ⟨us, by rw [upd_ne hba]; exact h1, RepL.step fl t.hz.nt r1⟩
      | ins c fs => exact q
/-- a mutable thing was there at the entry as one, or is new -/
theorem StRel.old (t : StRel F Z as s σ H) {a : Addr} (ha : a ∈ as) : Nn F.H0 a ∨ a ∈ F.as0 := by
  obtain ⟨e, h1, h2⟩ := t.gw.pre
  rw [h1] at ha
  rcases List.mem_append.mp ha with h | h
  · exact .inr h
  · exact .inl (h2 a h)
theorem pop0_ok {i : Nat} {cf : Nat → List PV → List MO → RC} {G : Gx} : TEok F EX (tBM F.K "list" rPopAt (tVar i) (tCons (tC (.int 0)) tNil)) (ev cf G (.pop0 i)) := by
  intro Z as s σ H Q t q
  simp only [ev] at q
  split at q
  · rename_i n hv
    obtain ⟨w, hw, r⟩ := t.slot i _ hv
    split at q
    · rename_i x xs hm
      cases r with
      | @obj _ a ha =>
        obtain ⟨vs, h1, r1⟩ := t.mu.get _ _ _ ha hm
        refine ⟨_, hw, .inl ⟨rfl, _, SqL.of h1⟩, ?_⟩
        cases r1 with
        | @cons _ v _ vs hx hxs =>
          refine ⟨a, _, 0, 0, v, rfl, rfl, h1, by decide, by decide, ?_, rfl, ?_⟩
          · rw [seqIndex_of (by decide) (by simp)]; rfl
          · obtain ⟨t', g'⟩ := t.moSet ha hm h1 hxs (t.old (List.mem_of_getElem? ha))
            exact q _ _ _ t' g' _ (Rep.step g'.fl t.hz.nt hx)
    · exact q.elim
  · exact q.elim
end
end AP

set_option Elab.async false
set_option linter.all false
set_option maxRecDepth 100000
set_option maxHeartbeats 4000000
set_option autoImplicit false
/-! AP8: targets, walks, comprehensions -/
namespace AP
open PySem PySem.Spec PyProof.Rows L2
/-- alike but for some slots -/
def ButAt (vs : List Nat) (σ σ' : L2.St) : Prop := σ'.length = σ.length ∧ ∀ i, i ∉ vs → σ'[i]? = σ[i]?
section
variable {F : Fd} {EX : XK} {Z Z' : Addr → Prop} {as as' : List Addr} {s s' : S} {σ σ' : L2.St} {H H' : Hp} {ta tb tc te : TE}
theorem StRel.setVal {i : Nat} {pv : PV} {v : V} (t : StRel F Z as s σ H) (hi : i < s.sl.length) (r : Rep F.K as Z H pv v) : StRel F Z as (s.set i (.val pv)) (σ.set i (some v)) H where
  len := by simpa [S.set] using t.len
  slot := fun j x hj => by
    by_cases hji : j = i
    · subst hji
      simp only [S.set, List.getElem?_set_self hi] at hj
      cases hj
      exact ⟨v, by rw [List.getElem?_set_self (by rw [← t.len]; exact hi)], r⟩
    · simp only [S.set, List.getElem?_set_ne (Ne.symm hji)] at hj
      rw [List.getElem?_set_ne (Ne.symm hji)]
      exact t.slot j x hj
  dis := fun j k ys zs b hj hk h3 h4 => by
    have aux : ∀ (j : Nat) (ys : List PV), (s.set i (.val pv)).sl[j]? = some (.own ys) → j ≠ i ∧ s.sl[j]? = some (.own ys) := fun j ys hj => by
      by_cases hji : j = i
      · subst hji
        simp only [S.set, List.getElem?_set_self hi] at hj
        cases hj
      · exact ⟨hji, by simpa only [S.set, List.getElem?_set_ne (Ne.symm hji)] using hj⟩
    obtain ⟨n1, e1⟩ := aux j ys hj
    obtain ⟨n2, e2⟩ := aux k zs hk
    rw [List.getElem?_set_ne (Ne.symm n1)] at h3
    rw [List.getElem?_set_ne (Ne.symm n2)] at h4
    exact t.dis j k ys zs b e1 e2 h3 h4
  mu := t.mu
  hz := t.hz
  zas := t.zas
  z0 := t.z0
  gw := t.gw
  tabs := t.tabs
def TGok (F : Fd) (g : TG) (p : Pat) : Prop := ∀ Z as s σ H pv v s' (Q : L2.St → Hp → Prop), StRel F Z as s σ H → Rep F.K as Z H pv v → bindP p pv s = some s' → (∀ σ', StRel F Z as s' σ' H → ButAt p.slots σ σ' → Q σ' H) → g v σ H Q
def TGsok (F : Fd) (g : TGs) (p : Pat) : Prop := ∀ Z as s σ H xs vs s' (Q : L2.St → Hp → Prop), StRel F Z as s σ H → RepL F.K as Z H xs vs → bindPs p xs s = some s' → (∀ σ', StRel F Z as s' σ' H → ButAt p.slots σ σ' → Q σ' H) → g vs σ H Q
def Pat.len : Pat → Nat
  | .cons _ q => q.len + 1
  | _ => 0
theorem bindPs_len : ∀ (p : Pat) (xs : List PV) (s s' : S), bindPs p xs s = some s' → xs.length = p.len
  | .nil, [], _, _, _ => rfl
  | .nil, _ :: _, _, _, h => by simp [bindPs] at h
  | .cons p q, [], _, _, h => by simp [bindPs] at h
  | .cons p q, x :: xs, s, s', h => by
    simp only [bindPs] at h
    split at h
    · rename_i s1 _
      simp [Pat.len, bindPs_len q xs s1 s' h]
    · cases h
  | .nm _, _, _, _, h => by simp [bindPs] at h
  | .tup _, _, _, _, h => by simp [bindPs] at h
theorem gName_ok {i : Nat} : TGok F (gName i) (.nm i) := by
  intro Z as s σ H pv v s' Q t r e h
  simp only [bindP] at e
  split at e
  · rename_i hi
    cases e
    exact h _ (t.setVal hi r) ⟨by simp, fun j hj => by rw [List.getElem?_set_ne (fun q => hj (by simp [Pat.slots, q]))]⟩
  · cases e
theorem gTup_ok {g : TGs} {p : Pat} (h1 : TGsok F g p) : TGok F (gTup F.K p.len g) (.tup p) := by
  intro Z as s σ H pv v s' Q t r e h
  cases pv with
  | tup xs =>
    simp only [bindP] at e
    cases r with
    | @tup _ a vs hs r =>
      exact ⟨a, vs, rfl, hs, by rw [← r.length]; exact bindPs_len p xs s s' e, h1 Z as s σ H xs vs s' Q t r e fun σ' t' b => h σ' t' (by simpa [Pat.slots] using b)⟩
  | _ => simp [bindP] at e
theorem gNil_ok : TGsok F gNil .nil := by
  intro Z as s σ H xs vs s' Q t r e h
  cases xs with
  | nil => simp only [bindPs] at e; cases e; cases r; exact ⟨rfl, h σ t ⟨rfl, fun _ _ => rfl⟩⟩
  | cons x xs => simp [bindPs] at e
theorem gCons_ok {g : TG} {gs : TGs} {p q : Pat} (h1 : TGok F g p) (h2 : TGsok F gs q) : TGsok F (gCons g gs) (.cons p q) := by
  intro Z as s σ H xs vs s' Q t r e h
  cases xs with
  | nil => simp [bindPs] at e
  | cons x xs =>
    simp only [bindPs] at e
    split at e
    · rename_i s1 e1
      cases r with
      | cons rx rs =>
        refine ⟨_, _, rfl, h1 Z as s σ H x _ s1 _ t rx e1 fun σ1 t1 b1 => ?_⟩
        refine h2 Z as s1 σ1 H xs _ s' _ t1 rs e fun σ2 t2 b2 => h σ2 t2 ⟨b2.1.trans b1.1, fun i hi => ?_⟩
        simp only [Pat.slots, List.mem_append, not_or] at hi
        rw [b2.2 i hi.2, b1.2 i hi.1]
    · cases e

/-! ### walks -/
def WalksP (K : PySem.W.Frag) (J : It) (items : List PV) (as : List Addr) (Z : Addr → Prop) (H : Hp) : Prop :=
  ∀ as' Z' H', Fl as Z H as' Z' H' → HZ as' Z' H' → (∀ i, i < items.length → J.go i H') ∧ J.stop items.length H' ∧
    ∀ i x H'', i < items.length → J.yld i H' x H'' → Gr H' H'' ∧ ∃ pv, items[i]? = some pv ∧ Rep K as' Z' H'' pv x
theorem WalksP.later {K : PySem.W.Frag} {J : It} {items : List PV} (w : WalksP K J items as Z H) (g : Fl as Z H as' Z' H') : WalksP K J items as' Z' H' :=
  fun as2 Z2 H2 g2 z => w as2 Z2 H2 (g.trans g2) z
theorem walks_lst {K : PySem.W.Frag} {a : Addr} {xs : List PV} {vs : List V} (z : HZ as Z H) (h : SqZ as Z H a vs) (r : RepL K as Z H xs vs) : WalksP K (Itl K a) xs as Z H := by
  intro as' Z' H' g z'
  have q : SqL K H' a vs := SqL.of (SqZ.step g h).1
  have r' := RepL.step g z.nt r
  have hl := r.length
  refine ⟨fun i hi => ⟨vs, vs[i]'(by omega), q, by simp [show i < vs.length by omega]⟩, ⟨vs, q, by omega⟩, fun i x H'' hi y => ?_⟩
  obtain ⟨e, y⟩ := y
  subst e
  obtain ⟨v, h1, h2⟩ := r'.get (List.getElem?_eq_getElem hi)
  have := (y vs q).symm.trans h1
  cases this
  exact ⟨Gr.refl _, _, List.getElem?_eq_getElem hi, h2⟩
theorem walks_tup {K : PySem.W.Frag} {a : Addr} {xs : List PV} {vs : List V} (z : HZ as Z H) (h : SqT K H a vs) (r : RepL K as Z H xs vs) : WalksP K (Itt K a) xs as Z H := by
  intro as' Z' H' g z'
  have q : SqT K H' a vs := SqT.step g z.nt h
  have r' := RepL.step g z.nt r
  have hl := r.length
  refine ⟨fun i hi => ⟨vs, vs[i]'(by omega), q, by simp [show i < vs.length by omega]⟩, ⟨vs, q, by omega⟩, fun i x H'' hi y => ?_⟩
  obtain ⟨e, y⟩ := y
  subst e
  obtain ⟨v, h1, h2⟩ := r'.get (List.getElem?_eq_getElem hi)
  have := (y vs q).symm.trans h1
  cases this
  exact ⟨Gr.refl _, _, List.getElem?_eq_getElem hi, h2⟩
theorem intL_length (lo : Int) (n : Nat) : (intL lo n).length = n := by simp [intL]
theorem walks_rng {K : PySem.W.Frag} (lo : Int) (n : Nat) : WalksP K (Itr lo n) (intL lo n) as Z H := by
  intro as' Z' H' g z'
  rw [intL_length]
  refine ⟨fun i hi => hi, Nat.le_refl _, fun i x H'' hi y => ?_⟩
  obtain ⟨e, y⟩ := y
  subst e y
  exact ⟨Gr.refl _, .int (lo + i), by simp [intL, hi], .int _⟩
theorem zipL_length : ∀ (xs ys : List PV), (zipL xs ys).length = min xs.length ys.length
  | [], _ => by simp [zipL]
  | _ :: _, [] => by simp [zipL]
  | x :: xs, y :: ys => by simp [zipL, zipL_length xs ys]
theorem zipL_get : ∀ (xs ys : List PV) (i : Nat) (x y : PV), xs[i]? = some x → ys[i]? = some y → (zipL xs ys)[i]? = some (.tup [x, y])
  | [], _, _, _, _, h, _ => by simp at h
  | _ :: _, [], _, _, _, _, h => by simp at h
  | x :: xs, y :: ys, 0, _, _, h1, h2 => by simp at h1 h2; subst h1 h2; simp [zipL]
  | x :: xs, y :: ys, i + 1, a, b, h1, h2 => by
    simp only [zipL, List.getElem?_cons_succ] at h1 h2 ⊢
    exact zipL_get xs ys i a b h1 h2
theorem walks_zipL {K : PySem.W.Frag} {a b : Addr} {xs ys : List PV} {vs ws : List V} (z : HZ as Z H) (h : SqZ as Z H a vs) (r : RepL K as Z H xs vs) (h2 : SqZ as Z H b ws) (r2 : RepL K as Z H ys ws) : WalksP K (Itz K a b) (zipL xs ys) as Z H := by
  intro as' Z' H' g z'
  have q : SqL K H' a vs := SqL.of (SqZ.step g h).1
  have q2 : SqL K H' b ws := SqL.of (SqZ.step g h2).1
  have r' := RepL.step g z.nt r
  have r2' := RepL.step g z.nt r2
  have hl := r.length
  have hl2 := r2.length
  rw [zipL_length]
  have w := walk_zip (K := K) (a := a) (b := b) (xs := vs) (ys := ws) (n := min xs.length ys.length) (by omega)
  refine ⟨fun i hi => w.goes i H' hi ⟨q, q2⟩, w.stops H' ⟨q, q2⟩, fun i x H'' hi y => ?_⟩
  obtain ⟨T, v1, v2, rfl, hT, rfl, e1, e2⟩ := w.yields i H' x H'' hi ⟨q, q2⟩ y
  have hx : i < xs.length := by omega
  have hy : i < ys.length := by omega
  obtain ⟨u1, k1, p1⟩ := r'.get (List.getElem?_eq_getElem hx)
  obtain ⟨u2, k2, p2⟩ := r2'.get (List.getElem?_eq_getElem hy)
  have k1' := e1.symm.trans k1
  have k2' := e2.symm.trans k2
  cases k1'
  cases k2'
  exact ⟨gr_new hT, _, zipL_get xs ys i _ _ (List.getElem?_eq_getElem hx) (List.getElem?_eq_getElem hy), z'.newT hT (.cons p1 (.cons p2 .nil))⟩
theorem walks_zipT {K : PySem.W.Frag} {a b : Addr} {xs ys : List PV} {vs ws : List V} (z : HZ as Z H) (h : SqT K H a vs) (r : RepL K as Z H xs vs) (h2 : SqT K H b ws) (r2 : RepL K as Z H ys ws) : WalksP K (RZ.ItzT K a b) (zipL xs ys) as Z H := by
  intro as' Z' H' g z'
  have q : SqT K H' a vs := SqT.step g z.nt h
  have q2 : SqT K H' b ws := SqT.step g z.nt h2
  have r' := RepL.step g z.nt r
  have r2' := RepL.step g z.nt r2
  have hl := r.length
  have hl2 := r2.length
  rw [zipL_length]
  refine ⟨fun i hi => ⟨vs, ws, vs[i]'(by omega), ws[i]'(by omega), q, q2, by simp [show i < vs.length by omega], by simp [show i < ws.length by omega]⟩, ⟨vs, ws, q, q2, by omega⟩, fun i x H'' hi y => ?_⟩
  obtain ⟨T, v1, v2, rfl, hT, rfl, e1, e2⟩ := y
  have hx : i < xs.length := by omega
  have hy : i < ys.length := by omega
  obtain ⟨u1, k1, p1⟩ := r'.get (List.getElem?_eq_getElem hx)
  obtain ⟨u2, k2, p2⟩ := r2'.get (List.getElem?_eq_getElem hy)
  rw [e1 vs q] at k1; cases k1
  rw [e2 ws q2] at k2; cases k2
  exact ⟨gr_new hT, _, zipL_get xs ys i _ _ (List.getElem?_eq_getElem hx) (List.getElem?_eq_getElem hy), z'.newT hT (.cons p1 (.cons p2 .nil))⟩
theorem enumL_length : ∀ (n : Nat) (xs : List PV), (enumL n xs).length = xs.length
  | _, [] => rfl
  | n, x :: xs => by simp [enumL, enumL_length (n + 1) xs]
theorem enumL_get : ∀ (n : Nat) (xs : List PV) (i : Nat) (x : PV), xs[i]? = some x → (enumL n xs)[i]? = some (.tup [.int ((n + i : Nat) : Int), x])
  | _, [], _, _, h => by simp at h
  | n, x :: xs, 0, _, h => by simp at h; subst h; simp [enumL]
  | n, x :: xs, i + 1, a, h => by
    simp only [enumL, List.getElem?_cons_succ] at h ⊢
    rw [enumL_get (n + 1) xs i a h, show n + 1 + i = n + (i + 1) by omega]
theorem walks_enumL {K : PySem.W.Frag} {a : Addr} {xs : List PV} {vs : List V} (z : HZ as Z H) (h : SqZ as Z H a vs) (r : RepL K as Z H xs vs) : WalksP K (Ite K a) (enumL 0 xs) as Z H := by
  intro as' Z' H' g z'
  have q : SqL K H' a vs := SqL.of (SqZ.step g h).1
  have r' := RepL.step g z.nt r
  have hl := r.length
  rw [enumL_length, hl]
  have w := walk_enum (K := K) (a := a) (xs := vs)
  refine ⟨fun i hi => w.goes i H' hi q, w.stops H' q, fun i x H'' hi y => ?_⟩
  obtain ⟨T, v1, v2, rfl, hT, rfl, e1, e2⟩ := w.yields i H' x H'' hi q y
  have hx : i < xs.length := by omega
  obtain ⟨u1, k1, p1⟩ := r'.get (List.getElem?_eq_getElem hx)
  have k1' := e2.symm.trans k1
  cases k1'
  cases e1
  refine ⟨gr_new hT, _, enumL_get 0 xs i _ (List.getElem?_eq_getElem hx), z'.newT hT (.cons ?_ (.cons p1 .nil))⟩
  rw [Nat.zero_add]
  exact .int _
def TIok (F : Fd) (EX : XK) (ti : TI) (r : S → R (List PV)) : Prop :=
  ∀ Z as s σ H R, StRel F Z as s σ H → Post F EX (r s) Z as σ H (fun items _ H' as' Z' => ∀ J, WalksP F.K J items as' Z' H' → R J H') → ti σ H R
/-- a list or a tuple -/
def iSeq (K : PySem.W.Frag) (tl : TE) : TI := fun σ H R => tl σ H fun x H1 => ∃ a, x = .ref a ∧ (((∃ xs, SqL K H1 a xs) ∧ R (Itl K a) H1) ∨ ((∃ xs, SqT K H1 a xs) ∧ R (Itt K a) H1))
theorem pi_seq {X : Cx} {tg l : Expr} {tl : TE} (hl : PE X l tl) : PI X tg l (iSeq X.K tl) := by
  refine ⟨fun pins s σ H R I h => ?_⟩
  refine thn (hl.run pins s σ H _ I h) fun v s1 ⟨x, H1, I1, r1, q1⟩ => ?_
  obtain ⟨a, e, q1⟩ := q1
  subst e
  cases r1
  have fp : ∀ b ∈ [s1.heap.objs.size], FpOk X pins H1 b := fun b hb => by
    have e : b = s1.heap.objs.size := by simpa using hb
    subst e
    exact I1.fpOk (Nat.le_refl _) (I1.hok.fresh (Nat.le_refl _))
  rcases q1 with ⟨⟨xs, hq⟩, q⟩ | ⟨⟨xs, hq⟩, q⟩
  · obtain ⟨its, rv, p, hz⟩ := I1.list hq
    refine wpAny_pyIter_list p.isList ?_
    exact ⟨s1.heap.objs.size, [s1.heap.objs.size], _, _, H1, rfl, I1.kept (t' := s1.toks) fun b o e => Heap.get?_push_of_some _ e, turn_list a _, ⟨_, Heap.get?_push_size _ rfl, rfl, rfl⟩, fp, q⟩
  · obtain ⟨its, rv, p, hz⟩ := I1.tuple hq
    refine wpAny_pyIter_tuple (show s1.heap.IsTuple a its.toArray from p) ?_
    exact ⟨s1.heap.objs.size, [s1.heap.objs.size], _, _, H1, rfl, I1.kept (t' := s1.toks) fun b o e => Heap.get?_push_of_some _ e, turn_tuple a _, ⟨_, Heap.get?_push_size _ rfl, rfl, rfl⟩, fp, q⟩
theorem seq_ok {ra : S → R PV} (h1 : TEok F EX ta ra) : TIok F EX (iSeq F.K ta) (fun s => (ra s).bind fun v s1 => (match seqItems v with
    | some xs => if xs.length ≤ lim then .ok xs s1 else .no
    | none => .no)) := by
  intro Z as s σ H R t h
  refine h1 Z as s σ H _ t ((Post.bind h).imp fun x s1 H1 as1 Z1 t1 g1 q1 v hx => ?_)
  split at q1
  · rename_i xs hs
    split at q1
    · cases x <;> simp only [seqItems] at hs <;> cases hs
      · cases hx with
        | @tup _ a vs hs r => exact ⟨a, rfl, .inr ⟨⟨vs, hs⟩, q1.ok t1 _ (walks_tup t1.hz hs r)⟩⟩
      · cases hx with
        | @lst _ a vs hs r => exact ⟨a, rfl, .inl ⟨⟨vs, SqL.of hs.1⟩, q1.ok t1 _ (walks_lst t1.hz hs r)⟩⟩
    · exact q1.elim
  · exact q1.elim
theorem range1_ok {ra : S → R PV} (h1 : TEok F EX ta ra) : TIok F EX (iRng1 (tCons ta tNil)) (fun s => (ra s).bind fun v s1 => (match v with
    | .int n => if -lim ≤ n ∧ n ≤ lim then .ok (intL 0 n.toNat) s1 else .no
    | _ => .no)) := by
  intro Z as s σ H R t h
  refine h1 Z as s σ H _ t ((Post.bind h).imp fun x s1 H1 as1 Z1 t1 g1 q1 v hx => ?_)
  split at q1
  · rename_i n
    split at q1
    · rename_i hn
      have hlim : (lim : Int) = 100000 := rfl
      cases hx
      exact ⟨n, rfl, by omega, by omega, q1.ok t1 _ (walks_rng _ _)⟩
    · exact q1.elim
  · exact q1.elim
theorem range2_ok {ra rb : S → R PV} (h1 : TEok F EX ta ra) (h2 : TEok F EX tb rb) : TIok F EX (iRng2 (tCons ta (tCons tb tNil))) (fun s => (ra s).bind fun v s1 => (rb s1).bind fun w s2 => (match v, w with
    | .int lo, .int hi => if -lim ≤ lo ∧ lo ≤ lim ∧ -lim ≤ hi ∧ hi ≤ lim then .ok (intL lo (hi - lo).toNat) s2 else .no
    | _, _ => .no)) := by
  intro Z as s σ H R t h
  refine h1 Z as s σ H _ t ((Post.bind h).imp fun x s1 H1 as1 Z1 t1 g1 q1 v hx => ?_)
  refine h2 Z1 as1 s1 σ H1 _ t1 ((Post.bind q1).imp fun y s2 H2 as2 Z2 t2 g2 q2 w hy => ?_)
  split at q2
  · rename_i lo hi
    split at q2
    · rename_i hn
      have hlim : (lim : Int) = 100000 := rfl
      cases hx
      cases hy
      exact ⟨lo, hi, rfl, ⟨by omega, by omega, by omega, by omega⟩, q2.ok t2 _ (walks_rng _ _)⟩
    · exact q2.elim
  · exact q2.elim
theorem zip_ok {ra rb : S → R PV} (h1 : TEok F EX ta ra) (h2 : TEok F EX tb rb) : TIok F EX (RZ.iZipA F.K (tCons ta (tCons tb tNil))) (fun s => (ra s).bind fun v s1 => (rb s1).bind fun w s2 => (match v, w with
    | .lst xs, .lst ys => if xs.length ≤ lim then .ok (zipL xs ys) s2 else .no
    | .tup xs, .tup ys => if xs.length ≤ lim then .ok (zipL xs ys) s2 else .no
    | _, _ => .no)) := by
  intro Z as s σ H R t h
  refine h1 Z as s σ H _ t ((Post.bind h).imp fun x s1 H1 as1 Z1 t1 g1 q1 v hx => ?_)
  refine h2 Z1 as1 s1 σ H1 _ t1 ((Post.bind q1).imp fun y s2 H2 as2 Z2 t2 g2 q2 w hy => ?_)
  have hx2 := Rep.step g2.fl t1.hz.nt hx
  split at q2
  · split at q2
    · cases hx2 with
      | @lst _ a vs hs r =>
        cases hy with
        | @lst _ b ws hs2 r2 => exact ⟨a, b, vs, ws, rfl, .inl ⟨SqL.of hs.1, SqL.of hs2.1, q2.ok t2 _ (walks_zipL t2.hz hs r hs2 r2)⟩⟩
    · exact q2.elim
  · split at q2
    · cases hx2 with
      | @tup _ a vs hs r =>
        cases hy with
        | @tup _ b ws hs2 r2 => exact ⟨a, b, vs, ws, rfl, .inr ⟨hs, hs2, q2.ok t2 _ (walks_zipT t2.hz hs r hs2 r2)⟩⟩
    · exact q2.elim
  · exact q2.elim
theorem enum_ok {ra : S → R PV} (h1 : TEok F EX ta ra) : TIok F EX (iEnum F.K (tCons ta tNil)) (fun s => (ra s).bind fun v s1 => (match v with
    | .lst xs => if xs.length ≤ lim then .ok (enumL 0 xs) s1 else .no
    | _ => .no)) := by
  intro Z as s σ H R t h
  refine h1 Z as s σ H _ t ((Post.bind h).imp fun x s1 H1 as1 Z1 t1 g1 q1 v hx => ?_)
  split at q1
  · split at q1
    · cases hx with
      | @lst _ a vs hs r => exact ⟨a, vs, rfl, SqL.of hs.1, q1.ok t1 _ (walks_enumL t1.hz hs r)⟩
    · exact q1.elim
  · exact q1.elim
/-! ### comprehensions -/
theorem wipe_get (vs : List Nat) (σ : L2.St) (i : Nat) : (L2.wipe σ vs)[i]? = if i ∈ vs then (σ[i]?).map fun _ => none else σ[i]? := by
  induction vs with
  | nil => simp [L2.wipe]
  | cons v vs ih =>
    unfold L2.wipe
    by_cases hv : v = i
    · subst hv
      by_cases hl : v < (L2.wipe σ vs).length
      · rw [List.getElem?_set_self hl]
        have : v < σ.length := by rw [wipe_length] at hl; exact hl
        simp [this]
      · rw [List.getElem?_eq_none (by simpa using hl)]
        have : ¬ v < σ.length := by rw [wipe_length] at hl; exact hl
        simp [this]
    · rw [List.getElem?_set_ne hv, ih]
      by_cases hm : i ∈ vs
      · simp [hm]
      · simp [hm, Ne.symm hv]
theorem wipe_ext {vs : List Nat} {σ σ' : L2.St} (h : ButAt vs σ σ') : L2.wipe σ' vs = L2.wipe σ vs := by
  apply List.ext_getElem?
  intro i
  rw [wipe_get, wipe_get]
  by_cases hm : i ∈ vs
  · simp only [hm, if_true]
    have hl := h.1
    by_cases hi : i < σ.length
    · simp [hi, show i < σ'.length by omega]
    · simp [hi, show ¬ i < σ'.length by omega]
  · simp only [hm, if_false]
    exact h.2 i hm
theorem foldr_set_get {α : Type} (f : Nat → α) (vs : List Nat) (sl : List α) (i : Nat) : (vs.foldr (fun v sl => sl.set v (f v)) sl)[i]? = if i ∈ vs then (sl[i]?).map fun _ => f i else sl[i]? := by
  induction vs with
  | nil => simp
  | cons v vs ih =>
    rw [List.foldr_cons]
    have hlen : (vs.foldr (fun v sl => sl.set v (f v)) sl).length = sl.length := by
      clear ih
      induction vs with
      | nil => rfl
      | cons w vs ih => rw [List.foldr_cons, List.length_set, ih]
    by_cases hv : v = i
    · subst hv
      by_cases hl : v < sl.length
      · rw [List.getElem?_set_self (by omega)]
        simp [hl]
      · rw [List.getElem?_eq_none (by rw [List.length_set]; omega)]
        simp [hl]
    · rw [List.getElem?_set_ne hv, ih]
      by_cases hm : i ∈ vs
      · simp [hm]
      · simp [hm, Ne.symm hv]
theorem foldr_set_len {α : Type} (f : Nat → α) (vs : List Nat) (sl : List α) : (vs.foldr (fun v sl => sl.set v (f v)) sl).length = sl.length := by
  induction vs with
  | nil => rfl
  | cons w vs ih => rw [List.foldr_cons, List.length_set, ih]
/-- the names of a comprehension are forgotten -/
theorem StRel.wipe {vs : List Nat} (t : StRel F Z as s σ H) : StRel F Z as (s.wipe vs) (L2.wipe σ vs) H where
  len := by
    have := t.len
    simp only [S.wipe]
    rw [foldr_set_len, wipe_length]; exact this
  slot := fun i x h => by
    simp only [S.wipe] at h
    rw [foldr_set_get (fun _ => Slot.un)] at h
    rw [wipe_get]
    by_cases hm : i ∈ vs
    · simp only [hm, if_true] at h
      obtain ⟨y, _, rfl⟩ := Option.map_eq_some_iff.mp h
      trivial
    · simp only [hm, if_false] at h ⊢
      exact t.slot i x h
  dis := fun i j xs ys a hi hj h1 h2 => by
    simp only [S.wipe] at hi hj
    rw [foldr_set_get (fun _ => Slot.un)] at hi hj
    rw [wipe_get] at h1 h2
    by_cases hm : i ∈ vs
    · simp only [hm, if_true] at hi
      obtain ⟨y, _, e⟩ := Option.map_eq_some_iff.mp hi
      cases e
    · by_cases hm2 : j ∈ vs
      · simp only [hm2, if_true] at hj
        obtain ⟨y, _, e⟩ := Option.map_eq_some_iff.mp hj
        cases e
      · simp only [hm, hm2, if_false] at hi hj h1 h2
        exact t.dis i j xs ys a hi hj h1 h2
  mu := t.mu
  hz := t.hz
  zas := t.zas
  z0 := t.z0
  gw := t.gw
  tabs := t.tabs
end
end AP

set_option Elab.async false
set_option linter.all false
set_option maxRecDepth 100000
set_option maxHeartbeats 4000000
set_option autoImplicit false
/-! AP9: a comprehension's reading -/
namespace AP
open PySem PySem.Spec PyProof.Rows L2
abbrev Fd.plus (F : Fd) (D : Addr) : Fd := { F with Z0 := fun b => F.Z0 b ∨ b = D }
abbrev xk0 : XK := fun _ _ _ => False
section
variable {F : Fd} {EX : XK} {Z Z' : Addr → Prop} {as as' : List Addr} {s s' : S} {σ σ' : L2.St} {H H' : Hp} {ta tb tc te : TE} {D : Addr}
theorem StRel.enter (t : StRel F Z as s σ H) (hD : H D = none) : StRel (F.plus D) (fun b => Z b ∨ b = D) as s σ (upd H D (.lst [])) := by
  have g : Gr H (upd H D (.lst [])) := gr_new hD
  have fl : Fl as Z H as (fun b => Z b ∨ b = D) (upd H D (.lst [])) := (Gw.of g).fl fun a h => by
    rcases h with h | h
    · exact .inl h
    · exact .inr (nn_of (by rw [h]; exact hD))
  refine ⟨t.len, fun i x h => ?_, t.dis, ⟨t.mu.len, t.mu.nd, fun n a m h1 h2 => ?_⟩, ⟨fun b hb => ?_⟩, fun b hb => ?_, fun b hb => hb.imp (t.z0 b) id, t.gw.trans (Gw.of g), t.tabs.ext g⟩
  · have q := t.slot i x h
    cases x with
    | un => trivial
    | val pv => obtain ⟨v, h1, r⟩ := q; exact ⟨v, h1, Rep.step fl t.hz.nt r⟩
    | own xs =>
      obtain ⟨a, vs, h1, h2, r, z, nz, q⟩ := q
      exact ⟨a, vs, h1, g a _ h2, RepL.step fl t.hz.nt r, .inl z, (fun hz => hz.elim nz fun e => by rw [e, hD] at h2; cases h2), q⟩
  · have q := t.mu.get n a m h1 h2
    cases m with
    | lst xs => obtain ⟨vs, h, r⟩ := q; exact ⟨vs, g a _ h, RepL.step fl t.hz.nt r⟩
    | ins c fs => exact q
  · rcases hb with hb | hb | hb
    · obtain ⟨o, e, q⟩ := t.hz.nt b (.inl hb)
      exact ⟨o, g b o e, q⟩
    · obtain ⟨o, e, q⟩ := t.hz.nt b (.inr hb)
      exact ⟨o, g b o e, q⟩
    · subst hb
      refine ⟨_, upd_same, ?_, ?_, ?_⟩ <;> intros <;> intro z <;> cases z
  · rcases hb with hb | hb
    · exact t.zas b hb
    · rw [hb]; exact (t.hz.free hD).1
theorem acc_fl {l : List V} {l' : List V} (h : H D = some (.lst l)) (hZ : Z D) : Fl as Z H as Z (upd H D (.lst l')) :=
  ⟨⟨[], by simp, by simp⟩, fun b o e _ hz _ => by
    have hne : b ≠ D := fun q => hz (by rw [q]; exact hZ)
    rw [upd_ne hne]; exact e, fun b o e n => by
    by_cases q : b = D
    · exact ⟨_, by rw [q, upd_same], by intro ps z; cases z⟩
    · exact ⟨o, by rw [upd_ne q]; exact e, n⟩, fun _ h => .inl h⟩
theorem StRel.accSet {l l' : List V} (t : StRel (F.plus D) Z as s σ H) (h : H D = some (.lst l)) (n0 : Nn F.H0 D) : StRel (F.plus D) Z as s σ (upd H D (.lst l')) := by
  have hZ : Z D := t.z0 D (.inr rfl)
  have fl : Fl as Z H as Z (upd H D (.lst l')) := acc_fl h hZ
  refine ⟨t.len, fun i x hx => ?_, t.dis, ⟨t.mu.len, t.mu.nd, fun n a m h1 h2 => ?_⟩, ⟨fun b hb => ?_⟩, t.zas, t.z0, ⟨t.gw.pre, fun b o e hb ht => ?_, fun b o e n => ?_⟩, fun p hp => ?_⟩
  · have q := t.slot i x hx
    cases x with
    | un => trivial
    | val pv => obtain ⟨v, h1, r⟩ := q; exact ⟨v, h1, Rep.step fl t.hz.nt r⟩
    | own xs =>
      obtain ⟨a, vs, h1, h2, r, z, nz, q⟩ := q
      exact ⟨a, vs, h1, (by rw [upd_ne (fun e => nz (.inr e))]; exact h2), RepL.step fl t.hz.nt r, z, nz, q⟩
  · have q := t.mu.get n a m h1 h2
    cases m with
    | lst xs =>
      obtain ⟨vs, h3, r⟩ := q
      have : a ≠ D := fun e => t.zas D hZ (by rw [← e]; exact List.mem_of_getElem? h1)
      exact ⟨vs, by rw [upd_ne this]; exact h3, RepL.step fl t.hz.nt r⟩
    | ins c fs => exact q
  · by_cases q : b = D
    · refine ⟨.lst l', by rw [q, upd_same], ?_, ?_, ?_⟩ <;> intros <;> intro z <;> cases z
    · obtain ⟨o, e, k⟩ := t.hz.nt b hb
      exact ⟨o, by rw [upd_ne q]; exact e, k⟩
  · have : b ≠ D := fun q => by
      have e' : F.H0 b = some o := e
      rw [q] at e'
      exact n0.not e' ht
    rw [upd_ne this]; exact t.gw.keep b o e hb ht
  · obtain ⟨o', e', n'⟩ := t.gw.dom b o e n
    exact fl.dom b o' e' n'
  · obtain ⟨ps, e1, e2, e3⟩ := t.tabs p hp
    refine ⟨ps, by rw [upd_ne (ne_of e1 h (by intro z; cases z))]; exact e1, e2, fun pos cv hc => ?_⟩
    obtain ⟨c, e4, e5⟩ := e3 pos cv hc
    exact ⟨c, e4, by rw [upd_ne (ne_of e5 h (by intro z; unfold LamX.CodeO at z; cases z))]; exact e5⟩
theorem StRel.leave (t : StRel (F.plus D) Z as s σ H) (nz : ¬ F.Z0 D) : StRel F (fun b => Z b ∧ b ≠ D) as s σ H := by
  have fl : Fl as Z H as (fun b => Z b ∧ b ≠ D) H := ⟨⟨[], by simp, by simp⟩, fun _ _ h _ _ _ => h, fun _ o h n => ⟨o, h, n⟩, fun _ h => .inl h.1⟩
  refine ⟨t.len, fun i x hx => ?_, t.dis, ⟨t.mu.len, t.mu.nd, fun n a m h1 h2 => ?_⟩, ⟨fun b hb => t.hz.nt b (hb.imp id (·.1))⟩, fun b hb => t.zas b hb.1, fun b hb => ⟨t.z0 b (.inl hb), fun e => nz (e ▸ hb)⟩, t.gw, t.tabs⟩
  · have q := t.slot i x hx
    cases x with
    | un => trivial
    | val pv => obtain ⟨v, h1, r⟩ := q; exact ⟨v, h1, Rep.step fl t.hz.nt r⟩
    | own xs =>
      obtain ⟨a, vs, h1, h2, r, z, nz', q⟩ := q
      exact ⟨a, vs, h1, h2, RepL.step fl t.hz.nt r, ⟨z, fun e => nz' (.inr e)⟩, fun e => nz' (.inl e), q⟩
  · have q := t.mu.get n a m h1 h2
    cases m with
    | lst xs => obtain ⟨vs, h3, r⟩ := q; exact ⟨vs, h3, RepL.step fl t.hz.nt r⟩
    | ins c fs => exact q
/-- the own slots are as they were -/
theorem StRel.restore {vs : List Nat} {Z1 : Addr → Prop} {as1 : List Addr} {s1 : S} {H1 : Hp} (t1 : StRel F Z1 as1 s1 σ H1) (no : notOwn s1.sl vs = true) (t : StRel F Z as s (L2.wipe σ vs) H) (fl : Fl as1 Z1 H1 as Z H) :
    StRel F Z as (restore s1.sl vs s) σ H where
  len := by
    have := t.len
    simp only [AP.restore]
    rw [foldr_set_len]
    rw [wipe_length] at this; exact this
  slot := fun i x h => by
    simp only [AP.restore] at h
    rw [foldr_set_get (fun v => s1.sl.getD v .un)] at h
    by_cases hm : i ∈ vs
    · simp only [hm, if_true] at h
      obtain ⟨y, hy, rfl⟩ := Option.map_eq_some_iff.mp h
      have hl : i < s1.sl.length := by
        have h1 := (List.getElem?_eq_some_iff.mp hy).1
        have h2 := t.len
        rw [wipe_length] at h2
        have h3 := t1.len
        omega
      have e : s1.sl[i]? = some (s1.sl.getD i .un) := by rw [List.getD_eq_getElem?_getD, List.getElem?_eq_getElem hl]; rfl
      have q := t1.slot i _ e
      have hn := List.all_eq_true.mp no i hm
      rw [e] at hn
      generalize s1.sl.getD i .un = x at q hn
      cases x with
      | un => trivial
      | val pv => obtain ⟨v, h1, r⟩ := q; exact ⟨v, h1, Rep.step fl t1.hz.nt r⟩
      | own xs => cases hn
    · simp only [hm, if_false] at h
      have q := t.slot i x h
      rw [wipe_get] at q
      simp only [hm, if_false] at q
      exact q
  dis := fun i j xs ys a hi hj h1 h2 => by
    have aux : ∀ (i : Nat) (xs : List PV), (AP.restore s1.sl vs s).sl[i]? = some (.own xs) → i ∉ vs ∧ s.sl[i]? = some (.own xs) := fun i xs hi => by
      simp only [AP.restore] at hi
      rw [foldr_set_get (fun v => s1.sl.getD v .un)] at hi
      by_cases hm : i ∈ vs
      · exfalso
        simp only [hm, if_true] at hi
        obtain ⟨y, hy, e⟩ := Option.map_eq_some_iff.mp hi
        have hn := List.all_eq_true.mp no i hm
        rw [List.getD_eq_getElem?_getD] at e
        cases q : s1.sl[i]? with
        | none => rw [q] at e; cases e
        | some z => rw [q] at e hn; have e' : z = .own xs := e; subst e'; cases hn
      · simp only [hm, if_false] at hi
        exact ⟨hm, hi⟩
    obtain ⟨n1, e1⟩ := aux i xs hi
    obtain ⟨n2, e2⟩ := aux j ys hj
    refine t.dis i j xs ys a e1 e2 ?_ ?_
    · rw [wipe_get]; simp only [n1, if_false]; exact h1
    · rw [wipe_get]; simp only [n2, if_false]; exact h2
  mu := t.mu
  hz := t.hz
  zas := t.zas
  z0 := t.z0
  gw := t.gw
  tabs := t.tabs
theorem lc_ok {wi : TI} {g : TG} {tt : TT} {te : TE} {p : Pat} {ri : S → R (List PV)} {rc : S → R Bool} {re : S → R PV}
    (hl : ∀ s xs s', ri s = .ok xs s' → xs.length ≤ 200000) (h1 : TIok F EX wi ri) (hg : ∀ F' : Fd, F'.K = F.K → TGok F' g p)
    (hc : ∀ F' : Fd, F'.K = F.K → F'.T = F.T → F'.cls = F.cls → TTok F' xk0 tt rc) (he : ∀ F' : Fd, F'.K = F.K → F'.T = F.T → F'.cls = F.cls → TEok F' xk0 te re) :
    TEok F EX (tLc wi g tt te p.slots) (fun s => (ri s).bind fun xs s1 => if notOwn s1.sl p.slots then (lcLoop (bindP p) p.slots rc re xs (s1.wipe p.slots)).bind fun r s2 => .ok (.lst r) (restore s1.sl p.slots s2) else .no) := by
  intro Z as s σ H Q t h
  have hl' : ∀ xs s', ri s = .ok xs s' → xs.length ≤ 200000 := hl s
  refine h1 Z as s σ H _ t ?_
  cases hr : ri s with
  | exc c s1 => simp only [hr, R.bind] at h ⊢; exact h
  | no => simp only [hr, R.bind] at h; exact h.elim
  | ok items s1 =>
    simp only [hr, R.bind] at h ⊢
    have hlen := hl' _ _ hr
    intro H1 as1 Z1 t1 g1 J wJ D hD
    have h2 := Post.weak h g1
    split at h2
    · rename_i no
      cases hlc : lcLoop (bindP p) p.slots rc re items (s1.wipe p.slots) with
      | exc c s2 =>
        -- no exception leaves the loop
        exfalso
        have key : ∀ (items : List PV) (s : S) c s2, lcLoop (bindP p) p.slots rc re items s ≠ .exc c s2 := by
          intro items
          induction items with
          | nil => intro s c s2 e; cases e
          | cons x xs ih =>
            intro s c s2 e
            unfold lcLoop at e
            split at e
            · cases e
            · split at e
              · split at e
                · rename_i v s3 _
                  cases q : lcLoop (bindP p) p.slots rc re xs (s3.wipe p.slots) with
                  | ok r s4 => rw [q] at e; cases e
                  | exc c' s4 => exact ih _ _ _ q
                  | no => rw [q] at e; cases e
                · cases e
              · exact ih _ _ _ e
              · cases e
        exact key _ _ _ _ hlc
      | no => rw [hlc] at h2; exact h2.elim
      | ok out sE =>
        rw [hlc] at h2
        simp only [R.bind] at h2
        have nz : ¬ F.Z0 D := fun hz => (t1.hz.free hD).2 (t1.z0 D hz)
        have n0 : Nn F.H0 D := t1.gw.dom.back (nn_of hD)
        have t2 : StRel (F.plus D) (fun b => Z1 b ∨ b = D) as1 (s1.wipe p.slots) (L2.wipe σ p.slots) (upd H1 D (.lst [])) := StRel.wipe (F := F.plus D) (t1.enter hD)
        refine ⟨fun i m H2 => m = items.length - i ∧ i ≤ items.length ∧ ∃ (as' : List Addr) (Z' : Addr → Prop) (s' : S) (accP : List PV) (accV : List V) (rest : List PV),
            StRel (F.plus D) Z' as' s' (L2.wipe σ p.slots) H2 ∧ Gw as1 H1 as' H2 ∧ (∀ b, Z' b → Z1 b ∨ b = D) ∧ H2 D = some (.lst accV) ∧ RepL F.K as' Z' H2 accP accV ∧ accP.length ≤ i ∧
            lcLoop (bindP p) p.slots rc re (items.drop i) s' = .ok rest sE ∧ accP ++ rest = out,
          ⟨items.length, by simp, Nat.zero_le _, as1, _, s1.wipe p.slots, [], [], out, t2, Gw.of (gr_new hD), fun _ h => h, upd_same, .nil, Nat.le_refl _, by simpa using hlc, rfl⟩, ?_⟩
        rintro i m H2 ⟨rfl, hi, as2, Z2, s2, accP, accV, rest, t3, g3, hz3, hD3, r3, ha3, e3, eo⟩
        have fl3 : Fl as1 Z1 H1 as2 Z2 H2 := g3.fl fun a ha => (hz3 a ha).imp id fun e => nn_of (by rw [e]; exact hD)
        by_cases hlt : i < items.length
        · obtain ⟨go, _, yld⟩ := wJ as2 Z2 H2 fl3 t3.hz
          refine .inr ⟨go i hlt, fun H3 => ∃ (as' : List Addr) (Z' : Addr → Prop) (s' : S) (accP : List PV) (accV : List V) (rest : List PV),
            StRel (F.plus D) Z' as' s' (L2.wipe σ p.slots) H3 ∧ Gw as1 H1 as' H3 ∧ (∀ b, Z' b → Z1 b ∨ b = D) ∧ H3 D = some (.lst accV) ∧ RepL F.K as' Z' H3 accP accV ∧ accP.length ≤ i + 1 ∧
            lcLoop (bindP p) p.slots rc re (items.drop (i + 1)) s' = .ok rest sE ∧ accP ++ rest = out, fun H3 q => ⟨items.length - (i + 1), by omega, rfl, hlt, q⟩, fun x H3 y => ?_⟩
          obtain ⟨gr, pv, hp, rp⟩ := yld i x H3 hlt y
          have ed : items.drop i = pv :: items.drop (i + 1) := by
            rw [List.drop_eq_getElem_cons hlt]
            have := List.getElem?_eq_getElem hlt
            rw [hp] at this; cases this; rfl
          rw [ed] at e3
          unfold lcLoop at e3
          split at e3
          · cases e3
          · rename_i sb hb
            have t4 := t3.grow gr
            refine hg (F.plus D) rfl Z2 as2 s2 _ H3 pv x sb _ t4 rp hb fun σ2 t5 bt => ⟨?_, ?_⟩
            · have := wipe_ext bt
              rw [this]
              apply List.ext_getElem?
              intro k
              rw [wipe_get, wipe_get]
              by_cases hm : k ∈ p.slots
              · simp only [hm, if_true, Option.map_map]; rfl
              · simp only [hm, if_false]
            · have ew : L2.wipe σ2 p.slots = L2.wipe σ p.slots := by
                rw [wipe_ext bt]
                apply List.ext_getElem?
                intro k
                rw [wipe_get, wipe_get]
                by_cases hm : k ∈ p.slots
                · simp only [hm, if_true, Option.map_map]; rfl
                · simp only [hm, if_false]
              refine hc (F.plus D) rfl rfl rfl Z2 as2 sb σ2 H3 _ t5 ?_
              have hD4 : H3 D = some (.lst accV) := gr D _ hD3
              have g4 : Gw as1 H1 as2 H3 := g3.trans (Gw.of gr)
              have r4 := t3.hz.repL gr r3
              cases hcb : rc sb with
              | exc c sc => simp only [hcb] at e3; cases e3
              | no => simp only [hcb] at e3; cases e3
              | ok b sc =>
                simp only [hcb] at e3 ⊢
                intro H5 as5 Z5 t6 g6
                have hD5 : H5 D = some (.lst accV) := g6.gw.keep D _ hD4 (t4.zas D (t4.z0 D (.inr rfl))) (fun _ z => by cases z)
                have r5 := RepL.step g6.fl t4.hz.nt r4
                cases b with
                | true =>
                  rw [if_pos rfl]
                  simp only at e3
                  refine he (F.plus D) rfl rfl rfl Z5 as5 sc σ2 H5 _ t6 ?_
                  cases hev : re sc with
                  | exc c sd => simp only [hev] at e3; cases e3
                  | no => simp only [hev] at e3; cases e3
                  | ok v sd =>
                    simp only [hev] at e3 ⊢
                    intro H6 as6 Z6 t7 g7 w rw'
                    have hD6 : H6 D = some (.lst accV) := g7.gw.keep D _ hD5 (t6.zas D (t6.z0 D (.inr rfl))) (fun _ z => by cases z)
                    have r6 := RepL.step g7.fl t6.hz.nt r5
                    cases hlr : lcLoop (bindP p) p.slots rc re (items.drop (i + 1)) (sd.wipe p.slots) with
                    | exc c se => rw [hlr] at e3; cases e3
                    | no => rw [hlr] at e3; cases e3
                    | ok rest' se =>
                      rw [hlr] at e3
                      simp only [R.bind] at e3
                      cases e3
                      have hs6 : 200000 < sizeLine := by decide
                      refine ⟨accV, hD6, by rw [← r6.length]; omega, as6, Z6, sd.wipe p.slots, accP ++ [v], accV ++ [w], rest', ?_, ?_, fun b hb => hz3 b (g6.zz b (g7.zz b hb)), upd_same, ?_, by simp; omega, hlr, by rw [← eo]; simp⟩
                      · have := StRel.wipe (vs := p.slots) (t7.accSet (l' := accV ++ [w]) hD6 n0)
                        rw [ew] at this
                        exact this
                      · have g5 : Gw as1 H1 as6 H6 := (g4.trans g6.gw).trans g7.gw
                        refine ⟨g5.pre, fun b o e hb ht => ?_, fun b o e n => ?_⟩
                        · rw [upd_ne (ne_of_none e hD)]; exact g5.keep b o e hb ht
                        · obtain ⟨o', e', n'⟩ := g5.dom b o e n
                          exact ⟨o', by rw [upd_ne (ne_of_none e hD)]; exact e', n'⟩
                      · exact RepL.step (acc_fl hD6 (t7.z0 D (.inr rfl))) t7.hz.nt (r6.append (.cons rw' .nil))
                | false =>
                  rw [if_neg Bool.false_ne_true]
                  simp only at e3
                  refine ⟨as5, Z5, sc.wipe p.slots, accP, accV, rest, ?_, g4.trans g6.gw, fun b hb => hz3 b (g6.zz b hb), hD5, r5, by omega, e3, eo⟩
                  have := StRel.wipe (vs := p.slots) t6
                  rw [ew] at this
                  exact this
        · have ei : i = items.length := by omega
          subst ei
          obtain ⟨_, st, _⟩ := wJ as2 Z2 H2 fl3 t3.hz
          refine .inl ⟨st, ?_⟩
          rw [List.drop_length] at e3
          unfold lcLoop at e3
          cases e3
          rw [List.append_nil] at eo
          subst eo
          have t4 : StRel F (fun b => Z2 b ∧ b ≠ D) as2 sE (L2.wipe σ p.slots) H2 := t3.leave nz
          have fl4 : Fl as1 Z1 H1 as2 (fun b => Z2 b ∧ b ≠ D) H2 := g3.fl fun a ha => .inl ((hz3 a ha.1).resolve_right ha.2)
          have t5 := t1.restore no t4 fl4
          refine h2 H2 as2 _ t5 ⟨g3, fun a ha => (hz3 a ha.1).resolve_right ha.2⟩ _ (.lst ⟨hD3, t3.zas D (t3.z0 D (.inr rfl)), fun q => q.2 rfl⟩ ?_)
          exact RepL.step ⟨⟨[], by simp, by simp⟩, fun _ _ h _ _ _ => h, fun _ o h n => ⟨o, h, n⟩, fun _ h => .inl h.1⟩ t3.hz.nt r3
    · exact h2.elim
end
end AP

set_option Elab.async false
set_option linter.all false
set_option maxRecDepth 100000
set_option maxHeartbeats 4000000
set_option autoImplicit false
/-! AP10: the row's trees against the small language -/
namespace AP
open PySem PySem.Spec PyProof.Rows L2
/-! ### what a tree is not -/
def noStar : Expr → Bool
  | .Starred .. => false
  | _ => true
def noComp : Expr → Bool
  | .ListComp .. => false
  | .SetComp .. => false
  | .DictComp .. => false
  | _ => true
def noSet : Expr → Bool
  | .Set .. => false
  | _ => true
def noSlice : Expr → Bool
  | .Slice .. => false
  | _ => true
/-- no call without arguments of a name -/
def noCall0 : Expr → Bool
  | .Call (.Name _ _) [] [] _ => false
  | _ => true
/-- its test is its value's truth -/
def plainT : Expr → Bool
  | .UnaryOp .Not _ _ => false
  | .BoolOp .. => false
  | .IfExp .. => false
  | .Compare .. => false
  | _ => true
theorem star_cons {e : Expr} (h : noStar e = true) (es : List Expr) (env : Env) : starEach (e :: es) env = (false, eval e env) :: starEach es env := by
  cases e <;> first | rfl | (cases h; done) | (simp only [starEach])
theorem star_any : ∀ (es : List Expr) (env : Env) (pos : Pos), es.all noStar = true → (backTo pos (starEach es env)).any (·.1) = false
  | [], _, _, _ => by simp [starEach, backTo]
  | e :: es, env, pos, h => by
    rw [List.all_cons, Bool.and_eq_true] at h
    rw [star_cons h.1]
    have := star_any es env pos h.2
    unfold backTo at this ⊢
    rw [List.map_cons, List.any_cons, this]
    rfl
theorem swaps_no {e : Expr} (h : noComp e = true) (t : Option Expr) (l : Nat) (env : Env) : swapsWith e t l env = pure false := by
  cases e <;> first | rfl | (cases h; done)
theorem base_no {o : Expr} (h : noCall0 o = true) (a : Str) (env : Env) (w : Sem Value) : attributeBase o a env w = w := by
  unfold attributeBase
  split
  · cases h
  · rfl
theorem mark_no {b : Expr} (h : noSet b = true) (op : CmpOp) : behindInMarks op b = false := by
  cases b <;> first | rfl | (cases h; done)
theorem fold_no {e : Expr} (h : noSet e = true) (env : Env) (x : Value) : foldedSetIterable e env x = pure x := by
  cases e <;> first | rfl | (cases h; done)
theorem test_plain {e : Expr} (h : plainT e = true) (env : Env) (whole : Sem Value) : isTrue e env whole = (do let v ← whole; standAt e.pos; holding [v] (truthy v)) := by
  cases e <;> first | rfl | (cases h; done) | skip
  case UnaryOp op x pos => cases op <;> first | rfl | (cases h; done)
theorem ix_plain {b : Expr} (h : noSlice b = true) : PlainIx b := by
  intro o i
  cases b <;> first | rfl | (cases h; done)

/-! ### names -/
structure Gam where
  N : List Str
  sc : Scope
  /-- the classes that isinstance(e, ..) is asked for, e the error in hand (slot 0) -/
  isx : List Str := []
  /-- lambdas may stand here -/
  lam : Bool := false
def visK : Option NameKind → Bool
  | some .local => true
  | some .cell => true
  | some .free => true
  | _ => false
def okNm (x : Str) : Bool := !(x == ("__debug__" : Str)) && !(x == ("__classdict__" : Str))
def isVar (Γ : Gam) (i : Nat) (x : Str) : Bool := decide (Γ.N[i]? = some x) && (visK (Γ.sc.names.lookup x) && okNm x)
def isGl (Γ : Gam) (x : Str) : Bool := decide (Γ.sc.names.lookup x = some .globalImplicit) && okNm x
/-- a name that may be stored -/
def isSt (Γ : Gam) (i : Nat) (x : Str) : Bool := decide (Γ.N[i]? = some x) && (match Γ.sc.names.lookup x with
  | some .local => true
  | some .cell => true
  | _ => false)
/-- the context stands for Γ -/
structure MtG (Γ : Gam) (X : Cx) : Prop where
  N : X.N = Γ.N
  nd : X.N.Nodup
  calm : X.calm = true
  gl : ∀ x, Γ.sc.names.lookup x = some .globalImplicit → Gl X x
  vis : ∀ x, visK (Γ.sc.names.lookup x) = true → Vis X.env.scope x
  loc : ∀ x, Γ.sc.names.lookup x = some .local → X.env.scope.names.lookup x = some .local
  cel : ∀ x, Γ.sc.names.lookup x = some .cell → X.env.scope.names.lookup x = some .cell ∧ X.fn x = true
  fre : ∀ x, Γ.sc.names.lookup x = some .free → X.env.scope.names.lookup x = some .cell ∨ X.env.scope.names.lookup x = some .free
  units : X.A.units + 64 < cLine
theorem okNm_d {x : Str} (h : okNm x = true) : (x == ("__debug__" : Str)) = false ∧ (x == ("__classdict__" : Str)) = false := by
  unfold okNm at h
  rw [Bool.and_eq_true, Bool.not_eq_true', Bool.not_eq_true'] at h
  exact h
theorem pe_v {Γ : Gam} {X : Cx} {i : Nat} {x : Str} {pos : Pos} (M : MtG Γ X) (h : isVar Γ i x = true) : PE X (.Name x pos) (tVar i) := by
  unfold isVar at h
  rw [Bool.and_eq_true, Bool.and_eq_true] at h
  exact pe_var (by rw [M.N]; exact of_decide_eq_true h.1) (M.vis x h.2.1) (okNm_d h.2.2).1 (okNm_d h.2.2).2
theorem isGl_d {Γ : Gam} {X : Cx} {x : Str} (M : MtG Γ X) (h : isGl Γ x = true) : Gl X x ∧ (x == ("__debug__" : Str)) = false := by
  unfold isGl at h
  rw [Bool.and_eq_true] at h
  exact ⟨M.gl x (of_decide_eq_true h.1), (okNm_d h.2).1⟩
theorem isSt_d {Γ : Gam} {X : Cx} {i : Nat} {x : Str} (M : MtG Γ X) (h : isSt Γ i x = true) : X.N[i]? = some x ∧ Loc X.env.scope x ∧ (X.fn x = true ∨ X.env.scope.names.lookup x = some .local) := by
  unfold isSt at h
  rw [Bool.and_eq_true] at h
  refine ⟨by rw [M.N]; exact of_decide_eq_true h.1, ?_⟩
  have h2 := h.2
  split at h2
  · rename_i hl
    exact ⟨.inl (M.loc x hl), .inr (M.loc x hl)⟩
  · rename_i hl
    exact ⟨.inr (M.cel x hl).1, .inl (M.cel x hl).2⟩
  · cases h2

/-! ### targets -/
mutual
def chkP (Γ : Gam) : Pat → Expr → Bool
  | .nm i, .Name x _ => isSt Γ i x
  | .tup p, .Tuple es _ _ => chkPs Γ p es
  | _, _ => false
def chkPs (Γ : Gam) : Pat → List Expr → Bool
  | .nil, [] => true
  | .cons p q, e :: es => chkP Γ p e && chkPs Γ q es
  | _, _ => false
end
theorem asg_no {e : Expr} (h : noStar e = true) (es : List Expr) (env : Env) : assignEach (e :: es) env = (false, assign e env) :: assignEach es env := by
  cases e <;> first | rfl | (cases h; done) | (simp only [assignEach])
theorem chkP_star {Γ : Gam} {p : Pat} {e : Expr} (h : chkP Γ p e = true) : noStar e = true := by
  cases p <;> cases e <;> first | rfl | (simp [chkP] at h; done)
theorem chkPs_map {Γ : Gam} (env : Env) : ∀ {p : Pat} {es : List Expr}, chkPs Γ p es = true → (assignEach es env).length = p.len ∧ (assignEach es env).findIdx? (·.1) = none
  | .nil, [], _ => by simp [assignEach, Pat.len]
  | .cons p q, e :: es, h => by
    simp only [chkPs, Bool.and_eq_true] at h
    obtain ⟨h1, h2⟩ := chkPs_map env h.2
    rw [asg_no (chkP_star h.1)]
    simp [Pat.len, h1, h2, List.findIdx?_cons]
  | .nil, _ :: _, h => by simp [chkPs] at h
  | .cons _ _, [], h => by simp [chkPs] at h
  | .nm _, _, h => by simp [chkPs] at h
  | .tup _, _, h => by simp [chkPs] at h
mutual
theorem pat_ok {Γ : Gam} {X : Cx} (M : MtG Γ X) : ∀ (p : Pat) (e : Expr), chkP Γ p e = true → ∃ g, PG X e g ∧ ∀ F : Fd, F.K = X.K → TGok F g p
  | .nm i, .Name x _, h => by
    simp only [chkP] at h
    obtain ⟨h1, h2, h3⟩ := isSt_d M h
    exact ⟨_, pg_name M.nd h1 h2 h3, fun F _ => gName_ok⟩
  | .tup p, .Tuple es _ _, h => by
    simp only [chkP] at h
    obtain ⟨g, h1, h2⟩ := pats_ok M p es h
    obtain ⟨h3, h4⟩ := chkPs_map X.env h
    exact ⟨_, pg_tup M.calm h1 h3 h4, fun F hF => by rw [← hF]; exact gTup_ok (h2 F hF)⟩
  | .nm _, .BoolOp .., h => by simp [chkP] at h
  | .nm _, .NamedExpr .., h => by simp [chkP] at h
  | .nm _, .BinOp .., h => by simp [chkP] at h
  | .nm _, .UnaryOp .., h => by simp [chkP] at h
  | .nm _, .Lambda .., h => by simp [chkP] at h
  | .nm _, .IfExp .., h => by simp [chkP] at h
  | .nm _, .Dict .., h => by simp [chkP] at h
  | .nm _, .Set .., h => by simp [chkP] at h
  | .nm _, .ListComp .., h => by simp [chkP] at h
  | .nm _, .SetComp .., h => by simp [chkP] at h
  | .nm _, .DictComp .., h => by simp [chkP] at h
  | .nm _, .GeneratorExp .., h => by simp [chkP] at h
  | .nm _, .Await .., h => by simp [chkP] at h
  | .nm _, .Yield .., h => by simp [chkP] at h
  | .nm _, .YieldFrom .., h => by simp [chkP] at h
  | .nm _, .Compare .., h => by simp [chkP] at h
  | .nm _, .Call .., h => by simp [chkP] at h
  | .nm _, .FormattedValue .., h => by simp [chkP] at h
  | .nm _, .JoinedStr .., h => by simp [chkP] at h
  | .nm _, .Constant .., h => by simp [chkP] at h
  | .nm _, .Attribute .., h => by simp [chkP] at h
  | .nm _, .Subscript .., h => by simp [chkP] at h
  | .nm _, .Starred .., h => by simp [chkP] at h
  | .nm _, .List .., h => by simp [chkP] at h
  | .nm _, .Tuple .., h => by simp [chkP] at h
  | .nm _, .Slice .., h => by simp [chkP] at h
  | .tup _, .BoolOp .., h => by simp [chkP] at h
  | .tup _, .NamedExpr .., h => by simp [chkP] at h
  | .tup _, .BinOp .., h => by simp [chkP] at h
  | .tup _, .UnaryOp .., h => by simp [chkP] at h
  | .tup _, .Lambda .., h => by simp [chkP] at h
  | .tup _, .IfExp .., h => by simp [chkP] at h
  | .tup _, .Dict .., h => by simp [chkP] at h
  | .tup _, .Set .., h => by simp [chkP] at h
  | .tup _, .ListComp .., h => by simp [chkP] at h
  | .tup _, .SetComp .., h => by simp [chkP] at h
  | .tup _, .DictComp .., h => by simp [chkP] at h
  | .tup _, .GeneratorExp .., h => by simp [chkP] at h
  | .tup _, .Await .., h => by simp [chkP] at h
  | .tup _, .Yield .., h => by simp [chkP] at h
  | .tup _, .YieldFrom .., h => by simp [chkP] at h
  | .tup _, .Compare .., h => by simp [chkP] at h
  | .tup _, .Call .., h => by simp [chkP] at h
  | .tup _, .FormattedValue .., h => by simp [chkP] at h
  | .tup _, .JoinedStr .., h => by simp [chkP] at h
  | .tup _, .Constant .., h => by simp [chkP] at h
  | .tup _, .Attribute .., h => by simp [chkP] at h
  | .tup _, .Subscript .., h => by simp [chkP] at h
  | .tup _, .Starred .., h => by simp [chkP] at h
  | .tup _, .Name .., h => by simp [chkP] at h
  | .tup _, .List .., h => by simp [chkP] at h
  | .tup _, .Slice .., h => by simp [chkP] at h
  | .nil, _, h => by simp [chkP] at h
  | .cons _ _, _, h => by simp [chkP] at h
theorem pats_ok {Γ : Gam} {X : Cx} (M : MtG Γ X) : ∀ (p : Pat) (es : List Expr), chkPs Γ p es = true → ∃ g, PGs X es g ∧ ∀ F : Fd, F.K = X.K → TGsok F g p
  | .nil, [], _ => ⟨_, pgs_nil, fun F _ => gNil_ok⟩
  | .cons p q, e :: es, h => by
    simp only [chkPs, Bool.and_eq_true] at h
    obtain ⟨g1, h1, h2⟩ := pat_ok M p e h.1
    obtain ⟨g2, h3, h4⟩ := pats_ok M q es h.2
    exact ⟨_, pgs_cons h1 h3 (by rw [asg_no (chkP_star h.1)]; rfl), fun F hF => gCons_ok (h2 F hF) (h4 F hF)⟩
  | .nil, _ :: _, h => by simp [chkPs] at h
  | .cons _ _, [], h => by simp [chkPs] at h
  | .nm _, _, h => by simp [chkPs] at h
  | .tup _, _, h => by simp [chkPs] at h
end
end AP

set_option Elab.async false
set_option linter.all false
set_option maxRecDepth 100000
set_option maxHeartbeats 4000000
set_option autoImplicit false
/-! AP11: expressions: the check and what it gives -/
namespace AP
open PySem PySem.Spec PyProof.Rows L2
def E.alen : AP.E → Nat
  | .cons _ xs => xs.alen + 1
  | _ => 0
def E.notIte : AP.E → Bool
  | .ite .. => false
  | _ => true
def E.isAnd : AP.E → Bool
  | .and_ .. => true
  | _ => false
/-- no bound that is left out, no list of arguments, no walk -/
def ownsOf (N : List Str) (vs : List Nat) : List (Str × Nat) := vs.map fun i => (N.getD i Str.empty, i)
def Mt.nm : Mt → Str
  | .split => Str.ofString "split"
  | .join => Str.ofString "join"
def isTupE : Expr → Bool
  | .Tuple .. => true
  | _ => false
mutual
def chkE (G : Gx) : AP.E → Gam → Expr → Bool
  | .non, _, ex => (match ex with
    | .Constant .none _ _ => true
    | _ => false)
  | .bl b, _, ex => (match ex with
    | .Constant (.bool c) _ _ => b == c
    | _ => false)
  | .int i, _, ex => (match ex with
    | .Constant (.int j) _ _ => decide (i = j)
    | _ => false)
  | .str x, _, ex => (match ex with
    | .Constant (.str y) _ _ => decide (x = y)
    | _ => false)
  | .var i, Γ, ex => (match ex with
    | .Name x _ => isVar Γ i x
    | _ => false)
  | .glob g, Γ, ex => (match ex with
    | .Name x _ => isGl Γ x && decide ((G.globs[g]?).map (·.1) = some x)
    | _ => false)
  | .bin o a b, Γ, ex => (match ex with
    | .BinOp l op r _ => decide (op = o.op) && (chkE G a Γ l && chkE G b Γ r)
    | _ => false)
  | .neg a, Γ, ex => (match ex with
    | .UnaryOp .USub e _ => chkE G a Γ e
    | _ => false)
  | .cmp o a b, Γ, ex => (match ex with
    | .Compare l [op] [r] _ => decide (op = o.op) && (noSet r && (chkE G a Γ l && chkE G b Γ r))
    | _ => false)
  | .chain o p a b c, Γ, ex => (match ex with
    | .Compare l [op, op'] [m, r] _ => decide (op = o.op) && (decide (op' = p.op) && (noSet r && (chkE G a Γ l && (chkE G b Γ m && chkE G c Γ r))))
    | _ => false)
  | .and_ a b, Γ, ex => (match ex with
    | .BoolOp .And [x, y] _ => a.notIte && (b.notIte && (chkE G a Γ x && chkE G b Γ y))
    | .BoolOp .And (x :: y :: z :: rest) pos => a.notIte && (b.notIte && (chkE G a Γ x && chkE G b Γ (.BoolOp .And (y :: z :: rest) pos)))
    | _ => false)
  | .or_ a b, Γ, ex => (match ex with
    | .BoolOp .Or [x, y] _ => a.notIte && (b.notIte && (chkE G a Γ x && chkE G b Γ y))
    | .BoolOp .Or (x :: y :: z :: rest) pos => a.notIte && (b.notIte && (chkE G a Γ x && chkE G b Γ (.BoolOp .Or (y :: z :: rest) pos)))
    | _ => false)
  | .not_ a, Γ, ex => (match ex with
    | .UnaryOp .Not e _ => a.notIte && chkE G a Γ e
    | _ => false)
  | .ite c a b, Γ, ex => (match ex with
    | .IfExp t x y _ => c.notIte && (chkE G c Γ t && (chkE G a Γ x && chkE G b Γ y))
    | _ => false)
  | .tup xs, Γ, ex => (match ex with
    | .Tuple es _ _ => chkA G xs Γ es
    | _ => false)
  | .lst xs, Γ, ex => (match ex with
    | .List es _ => chkA G xs Γ es
    | _ => false)
  | .idx a b, Γ, ex => (match ex with
    | .Subscript l r _ => noSlice r && (chkE G a Γ l && chkE G b Γ r)
    | _ => false)
  | .slice a lo hi, Γ, ex => (match ex with
    | .Subscript l (.Slice l' h' none _) _ => chkE G a Γ l && (chkO G lo Γ l' && chkO G hi Γ h')
    | _ => false)
  | .rev a, Γ, ex => (match ex with
    | .Subscript l (.Slice none none (some (.UnaryOp .USub (.Constant (.int i) _ _) _)) _) _ => decide (i = 1) && chkE G a Γ l
    | _ => false)
  | .call f xs, Γ, ex => (match ex with
    | .Call (.Name x _) (e :: es) [] _ => isGl Γ x && (decide (G.fns[f]? = some (x, xs.alen)) && (noStar e && (es.all noStar && chkA G xs Γ (e :: es))))
    | _ => false)
  | .bi f xs, Γ, ex => (match ex with
    | .Call (.Name x _) (e :: es) [] _ => isGl Γ x && (decide (x = Str.ofString f.nm) && (noStar e && (es.all noStar && chkA G xs Γ (e :: es))))
    | _ => false)
  | .isi a t, Γ, ex => (match ex with
    | .Call (.Name x _) [e, .Name y _] [] _ => isGl Γ x && (isGl Γ y && (decide (x = Str.ofString "isinstance") && (decide (y = Str.ofString t.nm) && (noStar e && chkE G a Γ e))))
    | _ => false)
  | .meth m a b, Γ, ex => (match ex with
    | .Call (.Attribute o x apos) [e] [] pos => decide (x = m.nm) && (noCall0 o && ((apos.endLine == pos.line) && (noStar e && (chkE G a Γ o && chkE G b Γ e))))
    | _ => false)
  | .pop0 i, Γ, ex => (match ex with
    | .Call (.Attribute (.Name x _) y apos) [.Constant (.int j) _ _] [] pos => isVar Γ i x && (decide (y = Str.ofString "pop") && (decide (j = 0) && (apos.endLine == pos.line)))
    | _ => false)
  | .lc elt p it cond, Γ, ex => (match ex with
    | .ListComp e [⟨tg, iter, ifs, a⟩] scope _ => decide (a = 0) && (blkC Γ.N Γ.sc scope (ownsOf Γ.N p.slots) && (noSet iter && (chkI G it Γ (isTupE tg) iter &&
      (chkP ⟨Γ.N, scope, [], false⟩ p tg && (chkC G cond ⟨Γ.N, scope, [], false⟩ ifs && chkE G elt ⟨Γ.N, scope, [], false⟩ e)))))
    | _ => false)
  | .isx n, Γ, ex => (match ex with
    | .Call (.Name f _) [.Name e _, .Name y _] [] _ => decide (f = Str.ofString "isinstance") && (decide (Γ.N[0]? = some e) && decide (Γ.isx[n]? = some y))
    | _ => false)
  | .lam h e, Γ, ex => (match ex with
    | .Call (.Name x _) [.Lambda ⟨[], [], none, [], [], none, []⟩ body scope _] [] _ => Γ.lam && (isGl Γ x && (decide ((G.hs[h]?).map (·.1) = some x) && (LamX.lamSB Γ.sc scope && chkE G e ⟨Γ.N, scope, [], false⟩ body)))
    | _ => false)
  | _, _, _ => false
def chkA (G : Gx) : AP.E → Gam → List Expr → Bool
  | .nil, _, es => es.isEmpty
  | .cons a xs, Γ, es => (match es with
    | e :: es => noStar e && (chkE G a Γ e && chkA G xs Γ es)
    | [] => false)
  | _, _, _ => false
def chkO (G : Gx) : AP.E → Gam → Option Expr → Bool
  | .omit, _, o => o.isNone
  | e, Γ, o => (match o with
    | some x => chkE G e Γ x
    | none => false)
def chkC (G : Gx) : AP.E → Gam → List Expr → Bool
  | .omit, _, es => es.isEmpty
  | e, Γ, es => (match es with
    | [x] => e.notIte && chkE G e Γ x
    | _ => false)
def chkI (G : Gx) : AP.E → Gam → Bool → Expr → Bool
  | .range1 a, Γ, _, ex => (match ex with
    | .Call (.Name x _) [e] [] _ => isGl Γ x && (decide (x = Str.ofString "range") && (noStar e && chkE G a Γ e))
    | _ => false)
  | .range2 a b, Γ, _, ex => (match ex with
    | .Call (.Name x _) [e, e'] [] _ => isGl Γ x && (decide (x = Str.ofString "range") && (noStar e && (noStar e' && (chkE G a Γ e && chkE G b Γ e'))))
    | _ => false)
  | .zip a b, Γ, t, ex => (match ex with
    | .Call (.Name x _) [e, e'] [] _ => t && (isGl Γ x && (decide (x = Str.ofString "zip") && (noStar e && (noStar e' && (chkE G a Γ e && chkE G b Γ e')))))
    | _ => false)
  | .enum a, Γ, t, ex => (match ex with
    | .Call (.Name x _) [e] [] _ => t && (isGl Γ x && (decide (x = Str.ofString "enumerate") && (noStar e && chkE G a Γ e)))
    | _ => false)
  | e, Γ, _, x => chkE G e Γ x
end
end AP

set_option Elab.async false
set_option linter.all false
set_option maxRecDepth 100000
set_option maxHeartbeats 4000000
set_option autoImplicit false
/-! AL1: f(lambda: e), the error's context told -/
namespace AL
open PySem PySem.Spec PyProof.Rows L2 LamX
/-- the lambda's context; its errors bear no context -/
abbrev lamN (X : Cx) (A : Around) (outer : List Env) (s : Shared) (H : Hp) (E : XK) (scope : Scope) (f c' : Addr) : Cx := (lamCx X A outer s H E scope f c').wish fun e s' =>
  wpAny (model X.prog X.w) (A.deeper (lamEnv X scope s.heap.objs.size f c')) (leaving (lamEnv X scope s.heap.objs.size f c') e) (fun _ s2 => L2N.CX X.prog X.w outer H s E e s2) (fun e2 s2 => L2N.CX X.prog X.w outer H s E e2 s2) s'
section
variable {X : Cx} {pins : List (Addr × Obj)} {σ : L2.St} {H : Hp} {s : Shared}
abbrev hctx (CXg : CXT) (X : Cx) (Ng : List Str) (qg : Str) (sg : Scope) (g : Addr) (cdg : Value) (s : Shared) (H : Hp) (Eg : XK) : Cx := cxOf CXg X.prog X.w X.K X.mg X.base Ng qg sg g cdg X.A X.stack s H Eg
theorem startN {A : Around} {outer : List Env} {E : XK} {scope : Scope} {f c' : Addr} {hp : Heap} {tk : Nat} {Hz : Hp} {s1 : Shared} (I : Inv X pins σ H s) (L : LamS X.env.scope scope) (e0 : Env0 X.prog X.w X.K X.mg X.base A outer s1 Hz) (hd : A.handled = none)
    (un : Un (frs X.stack) [] H Hz s.heap s1.heap) (ns : hp.Ns s1.heap.objs.size fun y => ([] : List (Str × Value)).reverse.lookup y) (up : ∀ b o, s1.heap.get? b = some o → hp.get? b = some o) :
    Inv (lamN X A outer s1 Hz E scope f c') [] σ Hz { s1 with heap := hp, toks := tk } := (lam_start2 (f := f) (c' := c') (E := E) I L e0 hd un ns up).wish _
/-- what was handed over, called -/
theorem act_ok {CXg : CXT} {Eg : XK} {Ng : List Str} {qg : Str} {sg : Scope} {g f c' : Addr} {cdg pm ctv : Value} {params : Arguments} {body : Expr} {scope : Scope} {k i : Nat} {a : Str} {pn : List (Addr × Obj)} {xe : Value → Shared → Prop} {W : WX} {E : XK} {tb : TE} {p1 p2 : Pos}
    (I : Inv X pins σ H s) (L : LamS X.env.scope scope) (isf : s.heap.get? f = some (PySem.W.kla_obj "<lambda>" (X.env.qual ++ "<lambda>") params body scope (cloFrom X.env.cells scope.names []) pm c' ctv)) (nf : H f = none) (nfr : f ∉ frs X.stack)
    (bd : bindArgs (PySem.W.kla_fn "<lambda>" (X.env.qual ++ "<lambda>") params body scope (cloFrom X.env.cells scope.names []) pm (.ref c') ctv) ⟨[], []⟩ = pure [])
    (tk : L2N.Takes ((hctx CXg X Ng qg sg g cdg s H Eg).tr pn xe) W) (hW : ∀ cls d σ' H', E cls d H' → W cls d σ' H') (hr : Room (k + 1) (X.A.deeper (envOfC qg sg s.heap.objs.size g cdg)))
    (hbody : ∀ (A : Around) (outer : List Env) (s : Shared) (H : Hp), Room k (A.deeper (lamEnv X scope s.heap.objs.size f c')) → PE (lamN X A outer s H E scope f c') body tb)
    (hN : Ng[i]? = some a) (hv : Vis sg a) (hd : (a == ("__debug__" : Str)) = false) (hcd : (a == ("__classdict__" : Str)) = false) :
    PE ((hctx CXg X Ng qg sg g cdg s H Eg).tr pn xe) (.Call (.Name a p1) [] [] p2) (fun σZ HZ Q => σZ[i]? = some (some (.ref f)) ∧ HZ c' = some (CodeO c' (X.env.qual ++ "<lambda>")) ∧ tb σ HZ Q) := by
  refine ⟨fun pz sz σz Hz Q Iz h => ?_⟩
  obtain ⟨w1, w2, w3⟩ := h
  have look := (pe_var (X := (hctx CXg X Ng qg sg g cdg s H Eg).tr pn xe) (pos := p1) (i := i) hN hv hd hcd).run pz sz σz Hz (fun v H1 => v = .ref f ∧ H1 = Hz) Iz ⟨.ref f, w1, rfl, rfl⟩
  refine wpAny_Call_Name_kw (thn look fun u s1 hu => ?_)
  obtain ⟨v, H1, I1, r1, rfl, rfl⟩ := hu
  cases r1
  have isf1 : s1.heap.get? f = _ := I1.base.keep f _ isf nf nfr (fun z => nomatch (show f ∈ ([] : List Addr) from z))
  refine PySem.W.callWith_F0 ⟨_, _, _, _, isf1⟩ ?_
  have un : Un (frs X.stack) [] H H1 s.heap s1.heap := I1.base
  obtain ⟨⟨oc, fs, tt, g1, g2, g3⟩, _, _⟩ := I1.hok c' _ w2
  have run : codeAny (model X.prog X.w) (X.A.deeper (envOfC qg sg s.heap.objs.size g cdg)) (.call (.ref f) ⟨[], []⟩) (CR (L2N.CX X.prog X.w) (envOfC qg sg s.heap.objs.size g cdg :: X.stack) X.prog X.w H1 s1 Q E) s1 := by
    refine PySem.W.kla_callFunE hr.depth isf1 rfl L.co L.gen rfl ⟨c', oc, fs, tt, rfl, g1, g2, g3⟩ ?_
    rw [bd]
    refine wpAny_pure (wpAny_newFunctionEnv (fun y hy => (L.own y hy).2) (fun y hy => absurd hy (by simp)) (fun hp ns sb => ⟨I1.nolimit.fresh _ sb, ?_⟩) L.kind)
    show codeAny _ _ (.expr body (lamEnv X scope s1.heap.objs.size f c')) _ _
    have up : ∀ c o, s1.heap.get? c = some o → hp.get? c = some o := fun c o e => sb.extBut c o (Nat.ne_of_lt (Heap.lt_size e)) (Heap.get?_push_of_some _ e)
    have J : Inv (lamN X (X.A.deeper (envOfC qg sg s.heap.objs.size g cdg)) (envOfC qg sg s.heap.objs.size g cdg :: X.stack) s1 H1 E scope f c') [] σ H1 { s1 with heap := hp, toks := s1.toks + ([] : List (Str × Value)).length } := startN I L I1.env0 hr.hd un ns up
    refine PySem.W.kla_codeExpr (wpAny_mono ((hbody _ _ s1 H1 (hr.deeper _)).run [] _ _ H1 Q J w3) (fun v s2 hq => ?_) fun e s2 hq => hq)
    obtain ⟨y, H2, J2, rv, q⟩ := hq
    exact ⟨y, H2, J2.os, J2.bare, J2.base, J2.hok, rv, q⟩
  have ps : Passes (L2N.CX X.prog X.w) ((hctx CXg X Ng qg sg g cdg s H Eg).tr pn xe) E := L2N.passes_call tk hW
  refine wpAny_call (codeAny_mono run fun r s2 hq => ?_)
  cases r with
  | error e => exact ps pz σz H1 s1 e s2 I1 hq
  | ok fl =>
    cases fl with
    | ret u => exact I1.after hq
    | next => exact hq.elim
    | brk => exact hq.elim
    | cont => exact hq.elim
end
/-- a def that calls what it is handed -/
def GivesN (X : Cx) (Ng : List Str) (x : Str) (sg : Scope) (g : Addr) (cdg : Value) (bg : List Stmt) (a : Str) (q : Str) (TT : (XK → Hp → VK → Prop) → Hp → VK → Prop) : Prop :=
  ∀ (f c' : Addr) (s : Shared) (H : Hp) (Q : VK) (tl : XK → Hp → VK → Prop),
    (∀ (W : WX) (pn : List (Addr × Obj)) (xe : Value → Shared → Prop) (E : XK) (p1 p2 : Pos), L2N.Takes ((hctx C8.CX0 X Ng x sg g cdg s H C8.E0).tr pn xe) W → (∀ cls d σ' H', E cls d H' → W cls d σ' H') →
      PE ((hctx C8.CX0 X Ng x sg g cdg s H C8.E0).tr pn xe) (.Call (.Name a p1) [] [] p2) (fun σZ HZ Q => σZ[0]? = some (some (.ref f)) ∧ HZ c' = some (CodeO c' q) ∧ tl E HZ Q)) →
    H c' = some (CodeO c' q) → TT tl H Q → Room 1 (X.A.deeper (envOfC x sg s.heap.objs.size g cdg)) → (∀ b o, X.base.get? b = some o → s.heap.get? b = some o) →
    ∃ t, PSs (hctx C8.CX0 X Ng x sg g cdg s H C8.E0).nox bg t ∧ t { nx := fun _ H' => Q .non H', rt := Q } (L2.start Ng [.ref f]) H
/-- x(lambda: body) -/
theorem lamcall_ok {X : Cx} {T : List (Addr × Str)} {TT : (XK → Hp → VK → Prop) → Hp → VK → Prop} {x a : Str} {g c P : Addr} {k : Nat} {pg : Arguments} {bg : List Stmt} {sg : Scope} {dV kV doc pm cdv ct oc : Value} {an od : Option Addr} {osl : Array (Option Value)} {Ng : List Str}
    {params : Arguments} {body : Expr} {scope : Scope} {t : XK → TE} {p lpos pos : Pos} (hg : Gl X x) (hm : X.mg x = some (.ref g)) (hk : PySem.W.keepIn X.K (.ref g) = true)
    (lk : X.K.lookup g = some ⟨oc, od, .func (PySem.W.fnOf x x pg bg sg dV kV doc pm an cdv ct), osl⟩) (hcg : PySem.W.codeIn X.K cdv x = true) (hb : L2.Binds X.K (PySem.W.fnOf x x pg bg sg dV kV doc pm an cdv ct) [a] []) (Sg : FnScope Ng [a] sg) (h0 : Ng[0]? = some a) (hva : Vis sg a)
    (hG : GivesN X Ng x sg g cdv bg a (X.env.qual ++ "<lambda>") TT)
    (TB : TabB X.base X.mg c P) (hcode : X.env.code = .ref c) (hmT : (P, X.env.qual ++ "<lambda>") ∈ T) (hu : ∀ p ∈ T, p.1 = P → p.2 = X.env.qual ++ "<lambda>") (hr : Room (k + 2) X.A) (L : LamS X.env.scope scope) (hdef : defaultsOf params X.env = ([], []))
    (hbind : ∀ (q : Str) (cl : List (Str × Addr)) (pm cv ctv : Value), bindArgs (PySem.W.kla_fn "<lambda>" q params body scope cl pm cv ctv) ⟨[], []⟩ = pure [])
    (hbody : ∀ (A : Around) (outer : List Env) (s : Shared) (H : Hp) (E : XK) (f c' : Addr), Room k (A.deeper (lamEnv X scope s.heap.objs.size f c')) → PE (lamN X A outer s H E scope f c') body (t E))
    (hdb : (x == ("__debug__" : Str)) = false) (hd : (a == ("__debug__" : Str)) = false) (hcd : (a == ("__classdict__" : Str)) = false) :
    PE X (.Call (.Name x p) [.Lambda params body scope lpos] [] pos) (tLam T TT t) := by
  refine ⟨fun pins s σ H Q I h => ?_⟩
  obtain ⟨tabs, more⟩ := h
  refine wpAny_Call_Name_kw (ld_glob I hg hm ?_ hdb)
  refine PySem.W.callWith_K (h₀ := X.base) I.ok.mod.kin hk ?_ (by rfl) (by rfl)
  show wpAny _ _ (spliced ((false, eval (.Lambda params body scope lpos) X.env) :: backTo pos (starEach [] X.env))) _ _ s
  refine Calls.spliced_cons (lam_make2 I TB hcode hmT hu tabs hdef (L.has I.ok) fun f c' pm2 ct2 H1 s1 I1 eN T1 isf nf nfr co => ?_)
  refine Calls.spliced_nil ⟨I1.kIn, ?_⟩
  have run : codeAny (model X.prog X.w) X.A (.call (.ref g) ⟨[.ref f], []⟩) (CR C8.CX0 X.stack X.prog X.w H1 s1 Q C8.E0) s1 := by
    refine run_ofS (N := Ng) (ps := [a]) (us := [.ref f]) (vs := [.ref f]) lk hcg Sg hr I1.env0 (hb s1 [.ref f] I1.kIn rfl) (.cons rfl .nil) rfl fun hr2 => ?_
    obtain ⟨t2, g1, g2⟩ := hG f c' s1 H1 Q (fun E H' Q' => t E σ H' Q') (fun W pn xe E p1 p2 tk hW => act_ok (i := 0) I1 L isf nf nfr (hbind _ _ _ _ _) tk hW hr2 (fun A outer s H hr3 => hbody A outer s H E f c' hr3) h0 hva hd hcd) co (more H1 eN T1) (hr2.mono (by omega)) (fun b o e => (I1.bs b o e).1)
    exact ⟨t2, g1.nox, g2⟩
  refine wpAny_call (codeAny_mono run fun r s2 hq => ?_)
  cases r with
  | error e => exact (show False from hq).elim
  | ok fl =>
    cases fl with
    | ret u => exact I1.after hq
    | next => exact hq.elim
    | brk => exact hq.elim
    | cont => exact hq.elim
end AL

set_option Elab.async false
set_option linter.all false
set_option maxRecDepth 100000
set_option maxHeartbeats 8000000
set_option autoImplicit false
/-! AP12: an expression that checks is evaluated as the small language says -/
namespace AP
open PySem PySem.Spec PyProof.Rows L2
/-- what a handler f(lambda: e) makes of e's reading -/
def hres (told : Bool) (x : V) (txt : Str) (Q : VK) (H : Hp) : Prop := if told = true then ∀ p, H p = none → Q (.ref p) (upd H p (.tup [x, .str txt])) else Q (.str txt) H
def TTh (told : Bool) (words : List Str) (cls : Nat → Value) : (XK → Hp → VK → Prop) → Hp → VK → Prop := fun tl H Q =>
  ∀ (E' : XK) (Q' : VK), (∀ cl d H', (d = none ∧ ∃ (c : Nat) (x : Str), words[c]? = some x ∧ cl = cls c ∧ ∀ H'', Gr H' H'' → hres told .non x Q H'') → E' cl d H') → (∀ v H', (∀ H'', Gr H' H'' → hres told v Str.empty Q H'') → Q' v H') → tl E' H Q'
/-- a def that calls what it is handed and tells its error -/
structure HandOk (words : List Str) (cls : Nat → Value) (kl : Nat) (P : Program) (w : World) (K : PySem.W.Frag) (mg : Str → Option Value) (base : Heap) (x : Str) (told : Bool) : Prop where
  ex : ∃ (a : Str) (g : Addr) (pg : Arguments) (bg : List Stmt) (sg : Scope) (dV kV doc pm cdv ct oc : Value) (an od : Option Addr) (osl : Array (Option Value)) (Ng : List Str), mg x = some (.ref g) ∧ PySem.W.keepIn K (.ref g) = true ∧
    K.lookup g = some ⟨oc, od, .func (PySem.W.fnOf x x pg bg sg dV kV doc pm an cdv ct), osl⟩ ∧ PySem.W.codeIn K cdv x = true ∧ L2.Binds K (PySem.W.fnOf x x pg bg sg dV kV doc pm an cdv ct) [a] [] ∧ FnScope Ng [a] sg ∧ Ng[0]? = some a ∧ Vis sg a ∧
    (a == ("__debug__" : Str)) = false ∧ (a == ("__classdict__" : Str)) = false ∧ ∀ X : Cx, X.prog = P → X.w = w → X.K = K → X.mg = mg → X.base = base → Room (kl + 2) X.A → ∀ q, AL.GivesN X Ng x sg g cdv bg a q (TTh told words cls)
/-- what is known of the defs, the constants, the built-ins -/
structure Calls (G : Gx) (T : List (Addr × Str)) (cls : Nat → Value) (cf : Nat → List PV → List MO → RC) (k : Nat) (P : Program) (w : World) (K : PySem.W.Frag) (mg : Str → Option Value) (base : Heap) : Prop where
  fn : ∀ (i : Nat) x n, G.fns[i]? = some (x, n) → ∃ f fd ps, mg x = some (.ref f) ∧ PySem.W.keepIn K (.ref f) = true ∧ FnOk P w K mg base (L2N.CX P w) k f fd ps (spOf K T cls cf i n) ∧ L2.Binds K fd ps []
  glob : ∀ (i : Nat) x pv, G.globs[i]? = some (x, pv) → ∃ u v, mg x = some u ∧ RelV v u ∧ ∀ as Z H, Rep K as Z H pv v
  bi : ∀ b : Bi, mg (Str.ofString b.nm) = none
  ty : ∀ t : Ty, mg (Str.ofString t.nm) = none
  isi : mg "isinstance" = none
  rng : mg "range" = none
  zip : mg "zip" = none
  enu : mg "enumerate" = none
  hand : ∀ (h : Nat) x told, G.hs[h]? = some (x, told) → HandOk G.words cls k P w K mg base x told
structure Ctx (G : Gx) (T : List (Addr × Str)) (cls : Nat → Value) (cf : Nat → List PV → List MO → RC) (k : Nat) (Γ : Gam) (X : Cx) (EX : XK) : Prop where
  mt : MtG Γ X
  room : Room (if Γ.lam = true then k + 2 else k) X.A
  calls : Calls G T cls cf k X.prog X.w X.K X.mg X.base
  pass : Passes (L2N.CX X.prog X.w) X EX
  isx : ∀ (n : Nat) y b, Γ.isx[n]? = some y → G.isx[n]? = some b → ∀ e0 p1 p2 p3 pos, Γ.N[0]? = some e0 → PE X (.Call (.Name "isinstance" p1) [.Name e0 p2, .Name y p3] [] pos) (tC (.bl b))
  lam : Γ.lam = true → ∃ c P, LamX.TabB X.base X.mg c P ∧ X.env.code = .ref c ∧ (P, X.env.qual ++ "<lambda>") ∈ T ∧ ∀ p ∈ T, p.1 = P → p.2 = X.env.qual ++ "<lambda>"
section
variable (G : Gx) (T : List (Addr × Str)) (cls : Nat → Value) (cf : Nat → List PV → List MO → RC) (k : Nat)
def SoE (e : AP.E) : Prop := ∀ (Γ : Gam) (X : Cx) (EX : XK) (ex : Expr), Ctx G T cls cf k Γ X EX → chkE G e Γ ex = true → ∃ t, PE X ex t ∧ ∀ F : Fd, F.K = X.K → F.T = T → F.cls = cls → TEok F EX t (ev cf G e)
/-- a test; behind and, or whatever the whole is -/
def SoT (e : AP.E) : Prop := ∀ (Γ : Gam) (X : Cx) (EX : XK) (ex : Expr), Ctx G T cls cf k Γ X EX → chkE G e Γ ex = true → e.notIte = true → ∃ t, PT X ex t ∧ (∀ op vs pos, ex = .BoolOp op vs pos → PW X ex t) ∧ ∀ F : Fd, F.K = X.K → F.T = T → F.cls = cls → TTok F EX t (fun s => (ev cf G e s).bind asBool)
def SoA (e : AP.E) : Prop := ∀ (Γ : Gam) (X : Cx) (EX : XK) (es : List Expr), Ctx G T cls cf k Γ X EX → chkA G e Γ es = true → ∃ t, PA X es t ∧ ∀ F : Fd, F.K = X.K → F.T = T → F.cls = cls → TAok F EX t (evs cf G e)
def SoO (e : AP.E) : Prop := ∀ (Γ : Gam) (X : Cx) (EX : XK) (o : Option Expr), Ctx G T cls cf k Γ X EX → chkO G e Γ o = true → ∃ t, PO X o t ∧ ∀ F : Fd, F.K = X.K → F.T = T → F.cls = cls → TOok F EX t (evp cf G e)
def SoC (e : AP.E) : Prop := ∀ (Γ : Gam) (X : Cx) (EX : XK) (es : List Expr), Ctx G T cls cf k Γ X EX → chkC G e Γ es = true → ∃ t, PTs X es t ∧ ∀ F : Fd, F.K = X.K → F.T = T → F.cls = cls → TTok F EX t (evc cf G e)
def SoI (e : AP.E) : Prop := ∀ (Γ : Gam) (X : Cx) (EX : XK) (tg ex : Expr), Ctx G T cls cf k Γ X EX → chkI G e Γ (isTupE tg) ex = true → (∃ t, PI X tg ex t ∧ ∀ F : Fd, F.K = X.K → F.T = T → F.cls = cls → TIok F EX t (evi cf G e)) ∧ ∀ s xs s', evi cf G e s = .ok xs s' → xs.length ≤ 200000
structure So (z : AP.E) : Prop where
  e : SoE G T cls cf k z
  t : SoT G T cls cf k z
  a : SoA G T cls cf k z
  o : SoO G T cls cf k z
  c : SoC G T cls cf k z
  i : SoI G T cls cf k z
variable {G T cls cf k}
theorem Ctx.units {Γ : Gam} {X : Cx} {EX : XK} (c : Ctx G T cls cf k Γ X EX) : X.A.units + 64 < cLine := c.mt.units
/-- a test by its value -/
theorem SoE.test {e : AP.E} (h : SoE G T cls cf k e) (hp : ∀ (Γ : Gam) (ex : Expr), chkE G e Γ ex = true → plainT ex = true) : SoT G T cls cf k e := by
  intro Γ X EX ex c hc _
  obtain ⟨t, h1, h2⟩ := h Γ X EX ex c hc
  refine ⟨_, pt_val h1 (test_plain (hp Γ ex hc) X.env), fun op vs pos q => ?_, fun F e1 e2 e3 => test_ok (h2 F e1 e2 e3)⟩
  have := hp Γ ex hc
  rw [q] at this; cases this
theorem SoE.part {e : AP.E} (h : SoE G T cls cf k e) (h1 : ∀ Γ o, chkO G e Γ o = (match o with
    | some x => chkE G e Γ x
    | none => false)) (h2 : ∀ s, evp cf G e s = (ev cf G e s).bind fun v s1 => (match v with
    | .int i => .ok (some i) s1
    | _ => .no)) : SoO G T cls cf k e := by
  intro Γ X EX o c hc
  rw [h1] at hc
  split at hc
  · rename_i x
    obtain ⟨t, h3, h4⟩ := h Γ X EX x c hc
    refine ⟨_, po_some h3, fun F e1 e2 e3 => ?_⟩
    rw [show evp cf G e = _ from funext h2]
    exact part_ok (h4 F e1 e2 e3)
  · cases hc
theorem SoT.cond {e : AP.E} (h : SoT G T cls cf k e) (h1 : ∀ Γ es, chkC G e Γ es = (match es with
    | [x] => e.notIte && chkE G e Γ x
    | _ => false)) (h2 : ∀ s, evc cf G e s = (ev cf G e s).bind asBool) : SoC G T cls cf k e := by
  intro Γ X EX es c hc
  rw [h1] at hc
  split at hc
  · rename_i x
    rw [Bool.and_eq_true] at hc
    obtain ⟨t, h3, _, h4⟩ := h Γ X EX x c hc.2 hc.1
    refine ⟨_, pts_one h3, fun F e1 e2 e3 => ?_⟩
    rw [show evc cf G e = _ from funext h2]
    exact h4 F e1 e2 e3
  · cases hc
theorem seq_len {r : R PV} {xs : List PV} {s' : S} (h : (r.bind fun v s1 => (match seqItems v with
    | some xs => if xs.length ≤ lim then .ok xs s1 else .no
    | none => .no)) = .ok xs s') : xs.length ≤ 200000 := by
  cases r with
  | ok v s1 =>
    simp only [R.bind] at h
    split at h
    · split at h
      · rename_i hl
        cases h
        exact Nat.le_trans hl (by decide)
      · cases h
    · cases h
  | exc c s1 => cases h
  | no => cases h
theorem SoE.walk {e : AP.E} (h : SoE G T cls cf k e) (h1 : ∀ Γ b x, chkI G e Γ b x = chkE G e Γ x) (h2 : ∀ s, evi cf G e s = (ev cf G e s).bind fun v s1 => (match seqItems v with
    | some xs => if xs.length ≤ lim then .ok xs s1 else .no
    | none => .no)) : SoI G T cls cf k e := by
  intro Γ X EX tg ex c hc
  rw [h1] at hc
  obtain ⟨t, h3, h4⟩ := h Γ X EX ex c hc
  refine ⟨⟨_, pi_seq h3, fun F e1 e2 e3 => ?_⟩, fun s xs s' q => ?_⟩
  · rw [show evi cf G e = _ from funext h2, ← e1]
    exact seq_ok (h4 F e1 e2 e3)
  · rw [h2] at q
    exact seq_len q
theorem SoA.not {e : AP.E} (h : ∀ Γ es, chkA G e Γ es = false) : SoA G T cls cf k e := fun Γ X EX es c hc => by
  rw [h] at hc; cases hc
theorem SoE.not {e : AP.E} (h : ∀ Γ ex, chkE G e Γ ex = false) : SoE G T cls cf k e := fun Γ X EX ex c hc => by
  rw [h] at hc; cases hc
/-- an operand -/
theorem SoE.opd {e : AP.E} (h : SoE G T cls cf k e) {Γ : Gam} {X : Cx} {EX : XK} {ex : Expr} (c : Ctx G T cls cf k Γ X EX) (hc : chkE G e Γ ex = true) :
    ∃ t, PE X ex t ∧ ∀ F : Fd, F.K = X.K → F.T = T → F.cls = cls → OEok F EX t (AP.opd e (ev cf G e)) := by
  by_cases hv : ∃ i, e = .var i
  · obtain ⟨i, rfl⟩ := hv
    unfold chkE at hc
    split at hc
    · exact ⟨_, pe_v c.mt hc, fun F _ _ _ => opd_var⟩
    · cases hc
  · obtain ⟨t, h1, h2⟩ := h Γ X EX ex c hc
    exact ⟨t, h1, fun F e1 e2 e3 => opd_ok (fun i q => hv ⟨i, q⟩) (h2 F e1 e2 e3)⟩
/-- all but a list of arguments, a bound left out, a walk -/
theorem SoE.so {z : AP.E} (h : SoE G T cls cf k z) (ht : SoT G T cls cf k z) (ha : ∀ Γ es, chkA G z Γ es = false := by intros; unfold chkA; rfl) (h1 : ∀ Γ o, chkO G z Γ o = (match o with
    | some x => chkE G z Γ x
    | none => false) := by intro _ o; unfold chkO; cases o <;> rfl) (h2 : ∀ s, evp cf G z s = (ev cf G z s).bind fun v s1 => (match v with
    | .int i => .ok (some i) s1
    | _ => .no) := by intros; unfold evp; rfl) (h3 : ∀ Γ es, chkC G z Γ es = (match es with
    | [x] => z.notIte && chkE G z Γ x
    | _ => false) := by intros; unfold chkC; rfl) (h4 : ∀ s, evc cf G z s = (ev cf G z s).bind asBool := by intros; unfold evc; rfl) (h5 : ∀ Γ b x, chkI G z Γ b x = chkE G z Γ x := by intros; unfold chkI; rfl) (h6 : ∀ s, evi cf G z s = (ev cf G z s).bind fun v s1 => (match seqItems v with
    | some xs => if xs.length ≤ lim then .ok xs s1 else .no
    | none => .no) := by intros; unfold evi; rfl) : So G T cls cf k z := ⟨h, ht, .not ha, h.part h1 h2, ht.cond h3 h4, h.walk h5 h6⟩
theorem so_const {z : AP.E} {pv : PV} {v : V} (he : ∀ s, ev cf G z s = .ok pv s) (hr : ∀ K as Z H, Rep K as Z H pv v) (hc : ∀ (X : Cx) Γ ex, chkE G z Γ ex = true → PE X ex (tC v)) (hp : ∀ (Γ : Gam) (ex : Expr), chkE G z Γ ex = true → plainT ex = true) : SoE G T cls cf k z ∧ SoT G T cls cf k z := by
  have h : SoE G T cls cf k z := fun Γ X EX ex c q => ⟨_, hc X Γ ex q, fun F e1 e2 e3 => by
    rw [show ev cf G z = _ from funext he]
    exact const_ok (hr _)⟩
  exact ⟨h, h.test hp⟩
theorem so_non : So G T cls cf k .non := by
  have h := so_const (G := G) (T := T) (cls := cls) (cf := cf) (k := k) (z := .non) (pv := .non) (v := .non) (fun s => by unfold ev; rfl) (fun _ _ _ _ => .non) (fun X Γ ex q => by
    unfold chkE at q
    split at q
    · exact pe_non
    · cases q) (fun Γ ex q => by unfold chkE at q; split at q <;> first | rfl | cases q)
  exact h.1.so h.2
theorem so_bl {b : Bool} : So G T cls cf k (.bl b) := by
  have h := so_const (G := G) (T := T) (cls := cls) (cf := cf) (k := k) (z := .bl b) (pv := .bl b) (v := .bl b) (fun s => by unfold ev; rfl) (fun _ _ _ _ => .bl b) (fun X Γ ex q => by
    unfold chkE at q
    split at q
    · rw [eq_of_beq q]; exact pe_bl
    · cases q) (fun Γ ex q => by unfold chkE at q; split at q <;> first | rfl | cases q)
  exact h.1.so h.2
theorem so_int {i : Int} : So G T cls cf k (.int i) := by
  have h := so_const (G := G) (T := T) (cls := cls) (cf := cf) (k := k) (z := .int i) (pv := .int i) (v := .int i) (fun s => by unfold ev; rfl) (fun _ _ _ _ => .int i) (fun X Γ ex q => by
    unfold chkE at q
    split at q
    · rw [of_decide_eq_true q]; exact pe_int
    · cases q) (fun Γ ex q => by unfold chkE at q; split at q <;> first | rfl | cases q)
  exact h.1.so h.2
theorem so_str {x : Str} : So G T cls cf k (.str x) := by
  have h := so_const (G := G) (T := T) (cls := cls) (cf := cf) (k := k) (z := .str x) (pv := .str x) (v := .str x) (fun s => by unfold ev; rfl) (fun _ _ _ _ => .str x) (fun X Γ ex q => by
    unfold chkE at q
    split at q
    · rw [of_decide_eq_true q]; exact pe_str
    · cases q) (fun Γ ex q => by unfold chkE at q; split at q <;> first | rfl | cases q)
  exact h.1.so h.2
theorem so_var {i : Nat} : So G T cls cf k (.var i) := by
  have h : SoE G T cls cf k (.var i) := fun Γ X EX ex c q => by
    unfold chkE at q
    split at q
    · exact ⟨_, pe_v c.mt q, fun F _ _ _ => var_ok⟩
    · cases q
  exact h.so (h.test fun Γ ex q => by unfold chkE at q; split at q <;> first | rfl | cases q)
theorem so_glob {g : Nat} : So G T cls cf k (.glob g) := by
  have h : SoE G T cls cf k (.glob g) := fun Γ X EX ex c q => by
    unfold chkE at q
    split at q
    · rename_i x p
      rw [Bool.and_eq_true, decide_eq_true_eq] at q
      obtain ⟨h1, h2⟩ := isGl_d c.mt q.1
      cases hg : G.globs[g]? with
      | none => rw [hg] at q; cases q.2
      | some y =>
        obtain ⟨y, pv⟩ := y
        rw [hg] at q
        have e := q.2
        simp only [Option.map_some, Option.some.injEq] at e
        subst e
        obtain ⟨u, v, hm, hr, hp⟩ := c.calls.glob g y pv hg
        refine ⟨_, pe_glob h1 hm hr h2, fun F e1 e2 e3 => ?_⟩
        rw [show ev cf G (.glob g) = fun s => .ok pv s from funext fun s => by unfold ev; rw [hg]]
        exact const_ok (by rw [e1]; exact hp)
    · cases q
  exact h.so (h.test fun Γ ex q => by unfold chkE at q; split at q <;> first | rfl | cases q)
theorem so_bin {o : Bop} {a b : AP.E} (ha : So G T cls cf k a) (hb : So G T cls cf k b) : So G T cls cf k (.bin o a b) := by
  have h : SoE G T cls cf k (.bin o a b) := fun Γ X EX ex c q => by
    unfold chkE at q
    split at q
    · simp only [Bool.and_eq_true, decide_eq_true_eq] at q
      obtain ⟨rfl, q1, q2⟩ := q
      obtain ⟨t1, h1, h2⟩ := ha.e.opd c q1
      obtain ⟨t2, h3, h4⟩ := hb.e.opd c q2
      obtain ⟨r, h5, h6⟩ := bin_ok (X := X) o
      refine ⟨_, pe_op h5 h1 h3, fun F e1 e2 e3 => ?_⟩
      rw [show ev cf G (.bin o a b) = _ from funext fun s => by unfold ev; rfl]
      exact two_ok (h2 F e1 e2 e3) (h4 F e1 e2 e3) (by rw [e1]; exact h6)
    · cases q
  exact h.so (h.test fun Γ ex q => by unfold chkE at q; split at q <;> first | rfl | cases q)
theorem so_neg {a : AP.E} (ha : So G T cls cf k a) : So G T cls cf k (.neg a) := by
  have h : SoE G T cls cf k (.neg a) := fun Γ X EX ex c q => by
    unfold chkE at q
    split at q
    · obtain ⟨t1, h1, h2⟩ := ha.e.opd c q
      refine ⟨_, pe_un un_neg h1, fun F e1 e2 e3 => ?_⟩
      rw [show ev cf G (.neg a) = _ from funext fun s => by unfold ev; rfl]
      exact one_ok (h2 F e1 e2 e3) neg_ok
    · cases q
  exact h.so (h.test fun Γ ex q => by unfold chkE at q; split at q <;> first | rfl | cases q)
theorem cmp_bool (r : R PV) (h : ∀ v s, r = .ok v s → ∃ b, v = .bl b) : True := trivial
theorem so_cmp {o : Cop} {a b : AP.E} (ha : So G T cls cf k a) (hb : So G T cls cf k b) : So G T cls cf k (.cmp o a b) := by
  have h : SoE G T cls cf k (.cmp o a b) := fun Γ X EX ex c q => by
    unfold chkE at q
    split at q
    · simp only [Bool.and_eq_true, decide_eq_true_eq] at q
      obtain ⟨rfl, q0, q1, q2⟩ := q
      obtain ⟨t1, h1, h2⟩ := ha.e.opd c q1
      obtain ⟨t2, h3, h4⟩ := hb.e.opd c q2
      obtain ⟨r, h5, h6⟩ := cmp_ok (X := X) o c.units
      refine ⟨_, pe_cmpR h5 h1 h3 (mark_no q0 _), fun F e1 e2 e3 => ?_⟩
      rw [show ev cf G (.cmp o a b) = _ from funext fun s => by unfold ev; rfl]
      exact two_ok (h2 F e1 e2 e3) (h4 F e1 e2 e3) (by rw [e1]; exact h6.op)
    · cases q
  have ht : SoT G T cls cf k (.cmp o a b) := fun Γ X EX ex c q _ => by
    unfold chkE at q
    split at q
    · simp only [Bool.and_eq_true, decide_eq_true_eq] at q
      obtain ⟨rfl, q0, q1, q2⟩ := q
      obtain ⟨t1, h1, h2⟩ := ha.e.opd c q1
      obtain ⟨t2, h3, h4⟩ := hb.e.opd c q2
      obtain ⟨r, h5, h6⟩ := cmp_ok (X := X) o c.units
      refine ⟨_, pt_cmpR h5 h1 h3 (mark_no q0 _), (fun _ _ _ z => by cases z), fun F e1 e2 e3 => ?_⟩
      rw [show ev cf G (.cmp o a b) = _ from funext fun s => by unfold ev; rfl]
      exact test_ok (two_ok (h2 F e1 e2 e3) (h4 F e1 e2 e3) (by rw [e1]; exact h6.op))
    · cases q
  exact h.so ht
theorem so_chain {o p : Cop} {a b d : AP.E} (ha : So G T cls cf k a) (hb : So G T cls cf k b) (hd : So G T cls cf k d) : So G T cls cf k (.chain o p a b d) := by
  have h : SoE G T cls cf k (.chain o p a b d) := fun Γ X EX ex c q => by
    unfold chkE at q
    split at q
    · simp only [Bool.and_eq_true, decide_eq_true_eq] at q
      obtain ⟨rfl, rfl, q0, q1, q2, q3⟩ := q
      obtain ⟨t1, h1, h2⟩ := ha.e Γ X EX _ c q1
      obtain ⟨t2, h3, h4⟩ := hb.e Γ X EX _ c q2
      obtain ⟨t3, h5, h6⟩ := hd.e Γ X EX _ c q3
      obtain ⟨r, h7, h8⟩ := cmp_ok (X := X) o c.units
      obtain ⟨r', h9, h10⟩ := cmp_ok (X := X) p c.units
      refine ⟨_, pe_chain h7 h9 h1 h3 h5 (mark_no q0 _), fun F e1 e2 e3 => ?_⟩
      rw [show ev cf G (.chain o p a b d) = _ from funext fun s => by unfold ev; rfl]
      exact chain_ok (h2 F e1 e2 e3) (h4 F e1 e2 e3) (h6 F e1 e2 e3) (by rw [e1]; exact h8) (by rw [e1]; exact h10)
    · cases q
  have ht : SoT G T cls cf k (.chain o p a b d) := fun Γ X EX ex c q _ => by
    unfold chkE at q
    split at q
    · simp only [Bool.and_eq_true, decide_eq_true_eq] at q
      obtain ⟨rfl, rfl, q0, q1, q2, q3⟩ := q
      obtain ⟨t1, h1, h2⟩ := ha.e Γ X EX _ c q1
      obtain ⟨t2, h3, h4⟩ := hb.e Γ X EX _ c q2
      obtain ⟨t3, h5, h6⟩ := hd.e Γ X EX _ c q3
      obtain ⟨r, h7, h8⟩ := cmp_ok (X := X) o c.units
      obtain ⟨r', h9, h10⟩ := cmp_ok (X := X) p c.units
      refine ⟨_, pt_chain h7 h9 h1 h3 h5 (mark_no q0 _), (fun _ _ _ z => by cases z), fun F e1 e2 e3 => ?_⟩
      rw [show ev cf G (.chain o p a b d) = _ from funext fun s => by unfold ev; rfl]
      exact test_ok (chain_ok (h2 F e1 e2 e3) (h4 F e1 e2 e3) (h6 F e1 e2 e3) (by rw [e1]; exact h8) (by rw [e1]; exact h10))
    · cases q
  exact h.so ht
theorem so_and {a b : AP.E} (ha : So G T cls cf k a) (hb : So G T cls cf k b) : So G T cls cf k (.and_ a b) := by
  have h : SoE G T cls cf k (.and_ a b) := fun Γ X EX ex c q => by
    unfold chkE at q
    split at q
    · simp only [Bool.and_eq_true] at q
      obtain ⟨n1, n2, q1, q2⟩ := q
      obtain ⟨t1, h1, h2⟩ := ha.e Γ X EX _ c q1
      obtain ⟨t2, h3, h4⟩ := hb.e Γ X EX _ c q2
      refine ⟨_, pe_and h1 (pe_one h3), fun F e1 e2 e3 => ?_⟩
      rw [show ev cf G (.and_ a b) = _ from funext fun s => by unfold ev; rfl]
      exact and_ok (h2 F e1 e2 e3) (h4 F e1 e2 e3)
    · simp only [Bool.and_eq_true] at q
      obtain ⟨n1, n2, q1, q2⟩ := q
      obtain ⟨t1, h1, h2⟩ := ha.e Γ X EX _ c q1
      obtain ⟨t2, h3, h4⟩ := hb.e Γ X EX _ c q2
      refine ⟨_, pe_and h1 h3, fun F e1 e2 e3 => ?_⟩
      rw [show ev cf G (.and_ a b) = _ from funext fun s => by unfold ev; rfl]
      exact and_ok (h2 F e1 e2 e3) (h4 F e1 e2 e3)
    · cases q
  have ht : SoT G T cls cf k (.and_ a b) := fun Γ X EX ex c q _ => by
    unfold chkE at q
    split at q
    · rename_i pos
      simp only [Bool.and_eq_true] at q
      obtain ⟨n1, n2, q1, q2⟩ := q
      obtain ⟨t1, h1, _, h2⟩ := ha.t Γ X EX _ c q1 n1
      obtain ⟨t2, h3, _, h4⟩ := hb.t Γ X EX _ c q2 n2
      have hw := pw_and (pos := pos) h1 (pw_and1 h3)
      refine ⟨_, hw.pt, (fun _ _ _ z => by cases z; exact hw), fun F e1 e2 e3 => ?_⟩
      refine (tand_ok (h2 F e1 e2 e3) (h4 F e1 e2 e3)).congr fun s => ?_
      rw [show ev cf G (.and_ a b) s = _ from by unfold ev; rfl]
      exact and_bool _ _ s
    · simp only [Bool.and_eq_true] at q
      obtain ⟨n1, n2, q1, q2⟩ := q
      obtain ⟨t1, h1, _, h2⟩ := ha.t Γ X EX _ c q1 n1
      obtain ⟨t2, h3, h5, h4⟩ := hb.t Γ X EX _ c q2 n2
      have hw := pw_and h1 (h5 _ _ _ rfl)
      refine ⟨_, hw.pt, (fun _ _ _ z => by cases z; exact hw), fun F e1 e2 e3 => ?_⟩
      refine (tand_ok (h2 F e1 e2 e3) (h4 F e1 e2 e3)).congr fun s => ?_
      rw [show ev cf G (.and_ a b) s = _ from by unfold ev; rfl]
      exact and_bool _ _ s
    · cases q
  exact h.so ht
theorem so_or {a b : AP.E} (ha : So G T cls cf k a) (hb : So G T cls cf k b) : So G T cls cf k (.or_ a b) := by
  have h : SoE G T cls cf k (.or_ a b) := fun Γ X EX ex c q => by
    unfold chkE at q
    split at q
    · simp only [Bool.and_eq_true] at q
      obtain ⟨n1, n2, q1, q2⟩ := q
      obtain ⟨t1, h1, h2⟩ := ha.e Γ X EX _ c q1
      obtain ⟨t2, h3, h4⟩ := hb.e Γ X EX _ c q2
      refine ⟨_, pe_or h1 (pe_one h3), fun F e1 e2 e3 => ?_⟩
      rw [show ev cf G (.or_ a b) = _ from funext fun s => by unfold ev; rfl]
      exact or_ok (h2 F e1 e2 e3) (h4 F e1 e2 e3)
    · simp only [Bool.and_eq_true] at q
      obtain ⟨n1, n2, q1, q2⟩ := q
      obtain ⟨t1, h1, h2⟩ := ha.e Γ X EX _ c q1
      obtain ⟨t2, h3, h4⟩ := hb.e Γ X EX _ c q2
      refine ⟨_, pe_or h1 h3, fun F e1 e2 e3 => ?_⟩
      rw [show ev cf G (.or_ a b) = _ from funext fun s => by unfold ev; rfl]
      exact or_ok (h2 F e1 e2 e3) (h4 F e1 e2 e3)
    · cases q
  have ht : SoT G T cls cf k (.or_ a b) := fun Γ X EX ex c q _ => by
    unfold chkE at q
    split at q
    · rename_i pos
      simp only [Bool.and_eq_true] at q
      obtain ⟨n1, n2, q1, q2⟩ := q
      obtain ⟨t1, h1, _, h2⟩ := ha.t Γ X EX _ c q1 n1
      obtain ⟨t2, h3, _, h4⟩ := hb.t Γ X EX _ c q2 n2
      have hw := pw_or (pos := pos) h1 (pw_or1 h3)
      refine ⟨_, hw.pt, (fun _ _ _ z => by cases z; exact hw), fun F e1 e2 e3 => ?_⟩
      refine (tor_ok (h2 F e1 e2 e3) (h4 F e1 e2 e3)).congr fun s => ?_
      rw [show ev cf G (.or_ a b) s = _ from by unfold ev; rfl]
      exact or_bool _ _ s
    · simp only [Bool.and_eq_true] at q
      obtain ⟨n1, n2, q1, q2⟩ := q
      obtain ⟨t1, h1, _, h2⟩ := ha.t Γ X EX _ c q1 n1
      obtain ⟨t2, h3, h5, h4⟩ := hb.t Γ X EX _ c q2 n2
      have hw := pw_or h1 (h5 _ _ _ rfl)
      refine ⟨_, hw.pt, (fun _ _ _ z => by cases z; exact hw), fun F e1 e2 e3 => ?_⟩
      refine (tor_ok (h2 F e1 e2 e3) (h4 F e1 e2 e3)).congr fun s => ?_
      rw [show ev cf G (.or_ a b) s = _ from by unfold ev; rfl]
      exact or_bool _ _ s
    · cases q
  exact h.so ht
theorem so_not {a : AP.E} (ha : So G T cls cf k a) : So G T cls cf k (.not_ a) := by
  have h : SoE G T cls cf k (.not_ a) := fun Γ X EX ex c q => by
    unfold chkE at q
    split at q
    · simp only [Bool.and_eq_true] at q
      obtain ⟨t1, h1, h2⟩ := ha.e Γ X EX _ c q.2
      refine ⟨_, pe_not h1, fun F e1 e2 e3 => ?_⟩
      rw [show ev cf G (.not_ a) = _ from funext fun s => by unfold ev; rfl]
      exact not_ok (h2 F e1 e2 e3)
    · cases q
  have ht : SoT G T cls cf k (.not_ a) := fun Γ X EX ex c q _ => by
    unfold chkE at q
    split at q
    · simp only [Bool.and_eq_true] at q
      obtain ⟨t1, h1, _, h2⟩ := ha.t Γ X EX _ c q.2 q.1
      refine ⟨_, pt_not h1, (fun _ _ _ z => by cases z), fun F e1 e2 e3 => ?_⟩
      refine (tnot_ok (h2 F e1 e2 e3)).congr fun s => ?_
      rw [show ev cf G (.not_ a) s = _ from by unfold ev; rfl]
      exact not_bool _ s
    · cases q
  exact h.so ht
theorem so_ite {d a b : AP.E} (hd : So G T cls cf k d) (ha : So G T cls cf k a) (hb : So G T cls cf k b) : So G T cls cf k (.ite d a b) := by
  have h : SoE G T cls cf k (.ite d a b) := fun Γ X EX ex c q => by
    unfold chkE at q
    split at q
    · simp only [Bool.and_eq_true] at q
      obtain ⟨n1, q0, q1, q2⟩ := q
      obtain ⟨t0, h0, _, h5⟩ := hd.t Γ X EX _ c q0 n1
      obtain ⟨t1, h1, h2⟩ := ha.e Γ X EX _ c q1
      obtain ⟨t2, h3, h4⟩ := hb.e Γ X EX _ c q2
      refine ⟨_, pe_ifExp h0 h1 h3, fun F e1 e2 e3 => ?_⟩
      rw [show ev cf G (.ite d a b) = _ from funext fun s => by unfold ev; rfl]
      exact ite_ok (h5 F e1 e2 e3) (h2 F e1 e2 e3) (h4 F e1 e2 e3)
    · cases q
  exact h.so fun Γ X EX ex c q n => by cases n
theorem so_tup {a : AP.E} (ha : So G T cls cf k a) : So G T cls cf k (.tup a) := by
  have h : SoE G T cls cf k (.tup a) := fun Γ X EX ex c q => by
    unfold chkE at q
    split at q
    · obtain ⟨t1, h1, h2⟩ := ha.a Γ X EX _ c q
      refine ⟨_, pe_tup h1, fun F e1 e2 e3 => ?_⟩
      rw [show ev cf G (.tup a) = _ from funext fun s => by unfold ev; rfl]
      exact tup_ok (h2 F e1 e2 e3)
    · cases q
  exact h.so (h.test fun Γ ex q => by unfold chkE at q; split at q <;> first | rfl | cases q)
theorem so_lst {a : AP.E} (ha : So G T cls cf k a) : So G T cls cf k (.lst a) := by
  have h : SoE G T cls cf k (.lst a) := fun Γ X EX ex c q => by
    unfold chkE at q
    split at q
    · obtain ⟨t1, h1, h2⟩ := ha.a Γ X EX _ c q
      refine ⟨_, pe_lst h1, fun F e1 e2 e3 => ?_⟩
      rw [show ev cf G (.lst a) = _ from funext fun s => by unfold ev; rfl]
      exact lst_ok (h2 F e1 e2 e3)
    · cases q
  exact h.so (h.test fun Γ ex q => by unfold chkE at q; split at q <;> first | rfl | cases q)
theorem so_idx {a b : AP.E} (ha : So G T cls cf k a) (hb : So G T cls cf k b) : So G T cls cf k (.idx a b) := by
  have h : SoE G T cls cf k (.idx a b) := fun Γ X EX ex c q => by
    unfold chkE at q
    split at q
    · simp only [Bool.and_eq_true] at q
      obtain ⟨q0, q1, q2⟩ := q
      obtain ⟨t1, h1, h2⟩ := ha.e.opd c q1
      obtain ⟨t2, h3, h4⟩ := hb.e.opd c q2
      obtain ⟨r, h5, h6⟩ := idx_ok (X := X)
      refine ⟨_, pe_ix h5 h1 h3 (ix_plain q0), fun F e1 e2 e3 => ?_⟩
      rw [show ev cf G (.idx a b) = _ from funext fun s => by unfold ev; rfl]
      exact two_ok (h2 F e1 e2 e3) (h4 F e1 e2 e3) (by rw [e1]; exact h6)
    · cases q
  exact h.so (h.test fun Γ ex q => by unfold chkE at q; split at q <;> first | rfl | cases q)
theorem so_slice {a lo hi : AP.E} (ha : So G T cls cf k a) (hl : So G T cls cf k lo) (hh : So G T cls cf k hi) : So G T cls cf k (.slice a lo hi) := by
  have h : SoE G T cls cf k (.slice a lo hi) := fun Γ X EX ex c q => by
    unfold chkE at q
    split at q
    · simp only [Bool.and_eq_true] at q
      obtain ⟨q0, q1, q2⟩ := q
      obtain ⟨t1, h1, h2⟩ := ha.e.opd c q0
      obtain ⟨t2, h3, h4⟩ := hl.o Γ X EX _ c q1
      obtain ⟨t3, h5, h6⟩ := hh.o Γ X EX _ c q2
      obtain ⟨r, h7, h8⟩ := slice_ok (X := X)
      refine ⟨_, pe_slice h7 h1 h3 h5, fun F e1 e2 e3 => ?_⟩
      rw [show ev cf G (.slice a lo hi) = _ from funext fun s => by unfold ev; rfl]
      exact slice_ok' (h2 F e1 e2 e3) (h4 F e1 e2 e3) (h6 F e1 e2 e3) (by rw [e1]; exact h8)
    · cases q
  exact h.so (h.test fun Γ ex q => by unfold chkE at q; split at q <;> first | rfl | cases q)
theorem so_rev {a : AP.E} (ha : So G T cls cf k a) : So G T cls cf k (.rev a) := by
  have h : SoE G T cls cf k (.rev a) := fun Γ X EX ex c q => by
    unfold chkE at q
    split at q
    · rw [Bool.and_eq_true, decide_eq_true_eq] at q
      obtain ⟨rfl, q⟩ := q
      obtain ⟨t1, h1, h2⟩ := ha.e.opd c q
      refine ⟨_, pe_rev h1, fun F e1 e2 e3 => ?_⟩
      rw [show ev cf G (.rev a) = _ from funext fun s => by unfold ev; rfl, ← e1]
      exact one_ok (h2 F e1 e2 e3) rev_ok
    · cases q
  exact h.so (h.test fun Γ ex q => by unfold chkE at q; split at q <;> first | rfl | cases q)
theorem evs_len : ∀ (z : AP.E) (s : S) xs s', evs cf G z s = .ok xs s' → xs.length = z.alen
  | .nil, s, xs, s', h => by unfold evs at h; cases h; rfl
  | .cons a r, s, xs, s', h => by
    unfold evs at h
    cases h1 : ev cf G a s with
    | ok v s1 =>
      rw [h1] at h
      simp only [R.bind] at h
      cases h2 : evs cf G r s1 with
      | ok vs s2 =>
        rw [h2] at h
        simp only at h
        cases h
        simp [E.alen, evs_len r s1 vs _ h2]
      | exc c s2 => rw [h2] at h; cases h
      | no => rw [h2] at h; cases h
    | exc c s1 => rw [h1] at h; cases h
    | no => rw [h1] at h; cases h
  | .non, _, _, _, h => by unfold evs at h; cases h
  | .bl _, _, _, _, h => by unfold evs at h; cases h
  | .int _, _, _, _, h => by unfold evs at h; cases h
  | .str _, _, _, _, h => by unfold evs at h; cases h
  | .var _, _, _, _, h => by unfold evs at h; cases h
  | .glob _, _, _, _, h => by unfold evs at h; cases h
  | .bin _ _ _, _, _, _, h => by unfold evs at h; cases h
  | .neg _, _, _, _, h => by unfold evs at h; cases h
  | .cmp _ _ _, _, _, _, h => by unfold evs at h; cases h
  | .chain _ _ _ _ _, _, _, _, h => by unfold evs at h; cases h
  | .and_ _ _, _, _, _, h => by unfold evs at h; cases h
  | .or_ _ _, _, _, _, h => by unfold evs at h; cases h
  | .not_ _, _, _, _, h => by unfold evs at h; cases h
  | .ite _ _ _, _, _, _, h => by unfold evs at h; cases h
  | .tup _, _, _, _, h => by unfold evs at h; cases h
  | .lst _, _, _, _, h => by unfold evs at h; cases h
  | .idx _ _, _, _, _, h => by unfold evs at h; cases h
  | .slice _ _ _, _, _, _, h => by unfold evs at h; cases h
  | .rev _, _, _, _, h => by unfold evs at h; cases h
  | .omit, _, _, _, h => by unfold evs at h; cases h
  | .call _ _, _, _, _, h => by unfold evs at h; cases h
  | .bi _ _, _, _, _, h => by unfold evs at h; cases h
  | .isi _ _, _, _, _, h => by unfold evs at h; cases h
  | .meth _ _ _, _, _, _, h => by unfold evs at h; cases h
  | .pop0 _, _, _, _, h => by unfold evs at h; cases h
  | .lc _ _ _ _, _, _, _, h => by unfold evs at h; cases h
  | .range1 _, _, _, _, h => by unfold evs at h; cases h
  | .range2 _ _, _, _, _, h => by unfold evs at h; cases h
  | .zip _ _, _, _, _, h => by unfold evs at h; cases h
  | .enum _, _, _, _, h => by unfold evs at h; cases h
  | .isx _, _, _, _, h => by unfold evs at h; cases h
  | .lam _ _, _, _, _, h => by unfold evs at h; cases h
theorem so_call {f : Nat} {a : AP.E} (ha : So G T cls cf k a) : So G T cls cf k (.call f a) := by
  have h : SoE G T cls cf k (.call f a) := fun Γ X EX ex c q => by
    unfold chkE at q
    split at q
    · simp only [Bool.and_eq_true, decide_eq_true_eq] at q
      obtain ⟨q0, q1, q2, q3, q4⟩ := q
      obtain ⟨h1, h2⟩ := isGl_d c.mt q0
      obtain ⟨t1, h3, h4⟩ := ha.a Γ X EX _ c q4
      obtain ⟨fa, fd, ps, g1, g2, g3, g4⟩ := c.calls.fn f _ _ q1
      refine ⟨_, pe_call (es := _) g3 (c.room.mono (by split <;> omega)) h1 g1 g2 g4 .nil c.pass h3 h2 (star_cons q2 _ _) (star_any _ _ _ q3), fun F e1 e2 e3 => ?_⟩
      rw [show ev cf G (.call f a) = _ from funext fun s => by unfold ev; rfl]
      subst e2 e3
      rw [← e1]
      exact call_ok (h4 F e1 rfl rfl) (evs_len a)
    · cases q
  exact h.so (h.test fun Γ ex q => by unfold chkE at q; split at q <;> first | rfl | cases q)
theorem so_bi {f : Bi} {a : AP.E} (ha : So G T cls cf k a) (hs : ∀ b, a = .cons b .nil → So G T cls cf k b) : So G T cls cf k (.bi f a) := by
  have h : SoE G T cls cf k (.bi f a) := fun Γ X EX ex c q => by
    unfold chkE at q
    split at q
    · simp only [Bool.and_eq_true, decide_eq_true_eq] at q
      obtain ⟨q0, rfl, q2, q3, q4⟩ := q
      obtain ⟨h1, h2⟩ := isGl_d c.mt q0
      obtain ⟨r, h5, h6⟩ := bi_ok (X := X) f c.mt.calm
      have key : ∀ (e : Expr) (es : List Expr) (p pos : Pos) (t : TA), noStar e = true → es.all noStar = true → PA X (e :: es) t → PE X (.Call (.Name (Str.ofString f.nm) p) (e :: es) [] pos) (tCB r t) := fun e es p pos t n1 n2 hp => by
        unfold Bi.val at h5
        by_cases ht : f.isTy = true
        · rw [if_pos ht] at h5
          exact pe_callTy h5 h1 (c.calls.bi f) (by rw [bi_boot f, Bi.val, if_pos ht]) hp (bi_name f).1 h2 (star_cons n1 _ _) (star_any _ _ _ n2)
        · rw [if_neg ht] at h5
          exact pe_callB h5 h1 (c.calls.bi f) (by rw [bi_boot f, Bi.val, if_neg ht]) hp (bi_name f).1 h2 (star_cons n1 _ _) (star_any _ _ _ n2)
      by_cases hone : ∃ b, a = .cons b .nil
      · obtain ⟨b, rfl⟩ := hone
        unfold chkA at q4
        simp only [Bool.and_eq_true] at q4
        obtain ⟨q5, q6, q7⟩ := q4
        unfold chkA at q7
        rename_i e es _
        cases es with
        | cons _ _ => cases q7
        | nil =>
          obtain ⟨t1, h3, h4⟩ := (hs b rfl).e.opd c q6
          refine ⟨_, key e [] _ _ _ q2 rfl (pa_cons h3 pa_nil (star_cons q2 _ _)), fun F e1 e2 e3 => ?_⟩
          rw [show ev cf G (.bi f (.cons b .nil)) = _ from funext fun s => by unfold ev; rfl]
          exact bi1_ok (h4 F e1 e2 e3) (by rw [e1]; exact h6)
      · obtain ⟨t1, h3, h4⟩ := ha.a Γ X EX _ c q4
        refine ⟨_, key _ _ _ _ _ q2 q3 h3, fun F e1 e2 e3 => ?_⟩
        rw [show ev cf G (.bi f a) = fun s => (evs cf G a s).bind fun vs s1 => (match biV f vs with
          | some r => .ok r s1
          | none => .no) from funext fun s => by
            unfold ev
            split
            · rename_i b
              exact absurd ⟨b, rfl⟩ hone
            · rfl]
        exact bin_ok' (h4 F e1 e2 e3) (by rw [e1]; exact h6)
    · cases q
  exact h.so (h.test fun Γ ex q => by unfold chkE at q; split at q <;> first | rfl | cases q)
theorem ty_boot (t : Ty) : bootBuiltins (Str.ofString t.nm) = some (.type t.nm) := by
  cases t <;> decide +kernel
theorem ty_name (t : Ty) : Str.ofString t.nm ≠ "__name__" ∧ (Str.ofString t.nm == ("__debug__" : Str)) = false := by
  cases t <;> decide
theorem so_isi {a : AP.E} {ty : Ty} (ha : So G T cls cf k a) : So G T cls cf k (.isi a ty) := by
  have h : SoE G T cls cf k (.isi a ty) := fun Γ X EX ex c q => by
    unfold chkE at q
    split at q
    · simp only [Bool.and_eq_true, decide_eq_true_eq] at q
      obtain ⟨q0, q1, rfl, rfl, q4, q5⟩ := q
      obtain ⟨h1, h2⟩ := isGl_d c.mt q0
      obtain ⟨h3, h4⟩ := isGl_d c.mt q1
      obtain ⟨t1, h5, h6⟩ := ha.e.opd c q5
      have hty : ∀ pos, PE X (.Name (Str.ofString ty.nm) pos) (tC (.ty ty.nm)) := fun pos => pe_bltn (v := .ty ty.nm) h3 (c.calls.ty ty) (ty_boot ty) rfl (ty_name ty).1 h4
      refine ⟨_, pe_callB call_isi h1 c.calls.isi (by decide +kernel) (pa_cons h5 (pa_cons (hty _) pa_nil (by rfl)) (star_cons q4 _ _)) (by decide) h2 (star_cons q4 _ _) (by first | rfl | simp [starEach, backTo]), fun F e1 e2 e3 => ?_⟩
      rw [show ev cf G (.isi a ty) = _ from funext fun s => by unfold ev; rfl, ← e1]
      exact isi_ok' ty (h6 F e1 e2 e3)
    · cases q
  exact h.so (h.test fun Γ ex q => by unfold chkE at q; split at q <;> first | rfl | cases q)
theorem so_meth {m : Mt} {a b : AP.E} (ha : So G T cls cf k a) (hb : So G T cls cf k b) : So G T cls cf k (.meth m a b) := by
  have h : SoE G T cls cf k (.meth m a b) := fun Γ X EX ex c q => by
    unfold chkE at q
    split at q
    · simp only [Bool.and_eq_true, decide_eq_true_eq] at q
      obtain ⟨rfl, q0, q1, q2, q3, q4⟩ := q
      obtain ⟨t1, h1, h2⟩ := ha.e Γ X EX _ c q3
      obtain ⟨t2, h3, h4⟩ := hb.e.opd c q4
      cases m
      · refine ⟨_, pe_split h1 h3 (by rw [star_cons q2]; rfl) (base_no q0 _ _ _) q1, fun F e1 e2 e3 => ?_⟩
        rw [show ev cf G (.meth .split a b) = _ from funext fun s => by unfold ev; rfl]
        exact split_ok (h2 F e1 e2 e3) (h4 F e1 e2 e3)
      · refine ⟨_, pe_join h1 h3 (by rw [star_cons q2]; rfl) (base_no q0 _ _ _) q1, fun F e1 e2 e3 => ?_⟩
        rw [show ev cf G (.meth .join a b) = _ from funext fun s => by unfold ev; rfl, ← e1]
        exact join_ok (h2 F e1 e2 e3) (h4 F e1 e2 e3)
    · cases q
  exact h.so (h.test fun Γ ex q => by unfold chkE at q; split at q <;> first | rfl | cases q)
theorem so_pop0 {i : Nat} : So G T cls cf k (.pop0 i) := by
  have h : SoE G T cls cf k (.pop0 i) := fun Γ X EX ex c q => by
    unfold chkE at q
    split at q
    · simp only [Bool.and_eq_true, decide_eq_true_eq] at q
      obtain ⟨q0, rfl, rfl, q1⟩ := q
      refine ⟨_, pe_bm PySem.F.plainAttrs_list PySem.F.slot_list_pop PySem.F.type_list_pop mt_popAt (pe_v c.mt q0) (pa_cons pe_int pa_nil) (base_no rfl _ _ _) (by rfl) q1, fun F e1 e2 e3 => ?_⟩
      rw [← e1]
      exact pop0_ok
    · cases q
  exact h.so (h.test fun Γ ex q => by unfold chkE at q; split at q <;> first | rfl | cases q)
end
end AP

set_option Elab.async false
set_option linter.all false
set_option maxRecDepth 100000
set_option maxHeartbeats 8000000
set_option autoImplicit false
/-! AP13: comprehensions, walks; every expression -/
namespace AP
open PySem PySem.Spec PyProof.Rows L2
theorem lookup_relS_free {sc : Scope} : ∀ {names : List (Str × NameKind)} {x : Str}, names.lookup x = some .free →
    (names.map fun (n, k) => if (k == NameKind.free && sc.kind == .function && sc.names.lookup n == some .cell) then (n, NameKind.cell) else (n, k)).lookup x = some .cell ∨ (names.map fun (n, k) => if (k == NameKind.free && sc.kind == .function && sc.names.lookup n == some .cell) then (n, NameKind.cell) else (n, k)).lookup x = some .free
  | [], _, h => by simp at h
  | (n, k₀) :: r, x, h => by
    have ih := @lookup_relS_free sc r x
    show List.lookup x ((if (k₀ == NameKind.free && sc.kind == .function && sc.names.lookup n == some .cell) = true then (n, NameKind.cell) else (n, k₀)) :: (r.map _)) = _ ∨ List.lookup x ((if (k₀ == NameKind.free && sc.kind == .function && sc.names.lookup n == some .cell) = true then (n, NameKind.cell) else (n, k₀)) :: (r.map _)) = _
    by_cases hc : (k₀ == NameKind.free && sc.kind == .function && sc.names.lookup n == some .cell) = true
    · rw [if_pos hc]
      simp only [List.lookup_cons] at h ⊢
      cases hx : x == n with
      | true => exact .inl rfl
      | false =>
        simp only [hx] at h
        exact ih h
    · rw [if_neg hc]
      simp only [List.lookup_cons] at h ⊢
      cases hx : x == n with
      | true =>
        simp only [hx] at h
        exact .inr h
      | false =>
        simp only [hx] at h
        exact ih h
theorem MtG.blk {Γ : Gam} {X : Cx} (M : MtG Γ X) (s : Shared) (H : Hp) (C : Addr) (cl : List (Str × Addr)) (fp : List Addr) (scope : Scope) : MtG ⟨Γ.N, scope, [], false⟩ (X.blk s H scope (compEnvC scope cl C X.env) fp) where
  N := M.N
  nd := M.nd
  calm := M.calm
  gl := fun x h => lookup_relS_keep (sc := X.env.scope) (k := .globalImplicit) (by simp) h
  vis := fun x h => by
    unfold visK at h
    show Vis (relS scope X.env.scope) x
    split at h
    · rename_i q; exact .inl (lookup_relS_keep (sc := X.env.scope) (by simp) q)
    · rename_i q; exact .inr (.inl (lookup_relS_keep (sc := X.env.scope) (by simp) q))
    · rename_i q; exact .inr (lookup_relS_free (sc := X.env.scope) q)
    · cases h
  loc := fun x h => lookup_relS_keep (sc := X.env.scope) (by simp) h
  cel := fun x h => ⟨lookup_relS_keep (sc := X.env.scope) (by simp) h, by show (scope.names.lookup x == some .cell) = true; rw [h]; rfl⟩
  fre := fun x h => lookup_relS_free (sc := X.env.scope) h
  units := M.units
theorem blk_of {Γ : Gam} {X : Cx} (M : MtG Γ X) {scope : Scope} {vs : List Nat} (h : blkC Γ.N Γ.sc scope (ownsOf Γ.N vs) = true) : BlkOk X.N X.env.scope scope (ownsOf Γ.N vs) := by
  have b := blkOk_by h
  refine ⟨b.kind, b.uniq, fun p hp => by rw [M.N]; exact b.ix p hp, fun y hy e => ?_, fun y hy e => by rw [M.N]; exact b.own y hy e⟩
  rcases b.free y hy e with q | q
  · exact .inl (M.cel _ q).1
  · exact M.fre _ q
theorem map_owns (N : List Str) (vs : List Nat) : (ownsOf N vs).map (·.2) = vs := by
  unfold ownsOf
  rw [List.map_map]
  exact (List.map_congr_left fun _ _ => rfl).trans (List.map_id vs)
section
variable {G : Gx} {T : List (Addr × Str)} {cls : Nat → Value} {cf : Nat → List PV → List MO → RC} {k : Nat}
theorem Ctx.blk {Γ : Gam} {X : Cx} {EX : XK} (c : Ctx G T cls cf k Γ X EX) (s : Shared) (H : Hp) (C : Addr) (cl : List (Str × Addr)) (fp : List Addr) (scope : Scope) : Ctx G T cls cf k ⟨Γ.N, scope, [], false⟩ (X.blk s H scope (compEnvC scope cl C X.env) fp) xk0 :=
  ⟨c.mt.blk s H C cl fp scope, c.room.mono (by show (if false = true then _ else _) ≤ _; rw [if_neg Bool.false_ne_true]; split <;> omega), c.calls, fun pins σ H s e s' I h => by
    obtain ⟨_, _, _, _, _, _, _, _, _, _, _, _, h⟩ := h
    exact h.elim, (fun n y b h => by cases h), (fun h => by cases h)⟩
theorem so_lc {elt it cond : AP.E} {p : Pat} (h1 : So G T cls cf k elt) (h2 : So G T cls cf k it) (h3 : So G T cls cf k cond) : So G T cls cf k (.lc elt p it cond) := by
  have h : SoE G T cls cf k (.lc elt p it cond) := fun Γ X EX ex c q => by
    unfold chkE at q
    split at q
    · rename_i e tg iter ifs a scope pos
      simp only [Bool.and_eq_true, decide_eq_true_eq] at q
      obtain ⟨rfl, q1, q2, q3, q4, q5, q6⟩ := q
      obtain ⟨⟨ti, i1, i2⟩, i3⟩ := h2.i Γ X EX tg iter c q3
      have hg : ∀ (w : Shared × Hp × Addr × List (Str × Addr) × List Addr), ∃ g, PG (X.blk w.1 w.2.1 scope (compEnvC scope w.2.2.2.1 w.2.2.1 X.env) w.2.2.2.2) tg g ∧ ∀ F : Fd, F.K = X.K → TGok F g p := fun w => pat_ok (c.mt.blk w.1 w.2.1 w.2.2.1 w.2.2.2.1 w.2.2.2.2 scope) p tg q4
      have hc : ∀ (w : Shared × Hp × Addr × List (Str × Addr) × List Addr), ∃ t, PTs (X.blk w.1 w.2.1 scope (compEnvC scope w.2.2.2.1 w.2.2.1 X.env) w.2.2.2.2) ifs t ∧ ∀ F : Fd, F.K = X.K → F.T = T → F.cls = cls → TTok F xk0 t (evc cf G cond) := fun w => h3.c _ _ xk0 ifs (c.blk w.1 w.2.1 w.2.2.1 w.2.2.2.1 w.2.2.2.2 scope) q5
      have he : ∀ (w : Shared × Hp × Addr × List (Str × Addr) × List Addr), ∃ t, PE (X.blk w.1 w.2.1 scope (compEnvC scope w.2.2.2.1 w.2.2.1 X.env) w.2.2.2.2) e t ∧ ∀ F : Fd, F.K = X.K → F.T = T → F.cls = cls → TEok F xk0 t (ev cf G elt) := fun w => h1.e _ _ xk0 e (c.blk w.1 w.2.1 w.2.2.1 w.2.2.2.1 w.2.2.2.2 scope) q6
      refine ⟨_, pe_lc (own := ownsOf Γ.N p.slots) (g := fun v σ H Q => ∀ w, (hg w).choose v σ H Q) (tt := fun σ H Q => ∀ w, (hc w).choose σ H Q) (te := fun σ H Q => ∀ w, (he w).choose σ H Q) c.mt.calm c.mt.nd i1 (blk_of c.mt q1) (fun s H C cl fp => ⟨fun pins s' σ H' v u Q I r h => (hg (s, H, C, cl, fp)).choose_spec.1.run pins s' σ H' v u Q I r (h _)⟩)
        (fun s H C cl fp => ⟨fun pins s' σ H' Q I h => (hc (s, H, C, cl, fp)).choose_spec.1.run pins s' σ H' Q I (h _)⟩) (fun s H C cl fp => ⟨fun pins s' σ H' Q I h => (he (s, H, C, cl, fp)).choose_spec.1.run pins s' σ H' Q I (h _)⟩) (fold_no q2 _), fun F e1 e2 e3 => ?_⟩
      rw [map_owns, show ev cf G (.lc elt p it cond) = _ from funext fun s => by unfold ev; rfl]
      exact lc_ok i3 (i2 F e1 e2 e3) (fun F' f1 => fun Z as s σ H pv v s' Q t r b h w => (hg w).choose_spec.2 F' (f1.trans e1) Z as s σ H pv v s' Q t r b h)
        (fun F' f1 f2 f3 => fun Z as s σ H Q t h w => (hc w).choose_spec.2 F' (f1.trans e1) (f2.trans e2) (f3.trans e3) Z as s σ H Q t h)
        (fun F' f1 f2 f3 => fun Z as s σ H Q t h w => (he w).choose_spec.2 F' (f1.trans e1) (f2.trans e2) (f3.trans e3) Z as s σ H Q t h)
    · cases q
  exact h.so (h.test fun Γ ex q => by unfold chkE at q; split at q <;> first | rfl | cases q)
theorem SoT.not {e : AP.E} (h : ∀ Γ ex, chkE G e Γ ex = false) : SoT G T cls cf k e := fun Γ X EX ex c hc => by
  rw [h] at hc; cases hc
theorem SoO.not {e : AP.E} (h : ∀ Γ ex, chkO G e Γ ex = false) : SoO G T cls cf k e := fun Γ X EX ex c hc => by
  rw [h] at hc; cases hc
theorem SoC.not {e : AP.E} (h : ∀ Γ ex, chkC G e Γ ex = false) : SoC G T cls cf k e := fun Γ X EX ex c hc => by
  rw [h] at hc; cases hc
theorem SoI.not {e : AP.E} (h : ∀ Γ b ex, chkI G e Γ b ex = false) : SoI G T cls cf k e := fun Γ X EX tg ex c hc => by
  rw [h] at hc; cases hc
theorem nil_not (z : AP.E) (h : ∀ Γ ex, chkE G z Γ ex = false) : SoE G T cls cf k z ∧ SoT G T cls cf k z := ⟨.not h, .not h⟩
theorem so_nil : So G T cls cf k .nil := by
  have h : ∀ Γ ex, chkE G .nil Γ ex = false := fun Γ ex => by unfold chkE; rfl
  refine ⟨.not h, .not h, fun Γ X EX es c q => ?_, .not fun Γ o => ?_, .not fun Γ es => ?_, .not fun Γ b x => ?_⟩
  · unfold chkA at q
    cases es with
    | nil =>
      refine ⟨_, pa_nil, fun F e1 e2 e3 => ?_⟩
      rw [show evs cf G .nil = _ from funext fun s => by unfold evs; rfl]
      exact nil_ok
    | cons _ _ => cases q
  · unfold chkO; cases o <;> first | rfl | exact h _ _
  · unfold chkC
    split
    · rw [h]; simp
    · rfl
  · unfold chkI; exact h _ _
theorem so_cons {a r : AP.E} (h1 : So G T cls cf k a) (h2 : So G T cls cf k r) : So G T cls cf k (.cons a r) := by
  have h : ∀ Γ ex, chkE G (.cons a r) Γ ex = false := fun Γ ex => by unfold chkE; rfl
  refine ⟨.not h, .not h, fun Γ X EX es c q => ?_, .not fun Γ o => ?_, .not fun Γ es => ?_, .not fun Γ b x => ?_⟩
  · unfold chkA at q
    cases es with
    | nil => cases q
    | cons e es =>
      simp only [Bool.and_eq_true] at q
      obtain ⟨q0, q1, q2⟩ := q
      obtain ⟨t1, g1, g2⟩ := h1.e Γ X EX e c q1
      obtain ⟨t2, g3, g4⟩ := h2.a Γ X EX es c q2
      refine ⟨_, pa_cons g1 g3 (star_cons q0 _ _), fun F e1 e2 e3 => ?_⟩
      rw [show evs cf G (.cons a r) = _ from funext fun s => by unfold evs; rfl]
      exact cons_ok (g2 F e1 e2 e3) (g4 F e1 e2 e3)
  · unfold chkO; cases o <;> first | rfl | exact h _ _
  · unfold chkC
    split
    · rw [h]; simp
    · rfl
  · unfold chkI; exact h _ _
theorem so_omit : So G T cls cf k .omit := by
  have h : ∀ Γ ex, chkE G .omit Γ ex = false := fun Γ ex => by unfold chkE; rfl
  refine ⟨.not h, .not h, .not fun Γ es => by unfold chkA; rfl, fun Γ X EX o c q => ?_, fun Γ X EX es c q => ?_, .not fun Γ b x => ?_⟩
  · unfold chkO at q
    cases o with
    | some _ => cases q
    | none =>
      refine ⟨_, po_none, fun F e1 e2 e3 => ?_⟩
      rw [show evp cf G .omit = _ from funext fun s => by unfold evp; rfl]
      exact omit_ok
  · unfold chkC at q
    cases es with
    | cons _ _ => cases q
    | nil =>
      refine ⟨_, pts_nil, fun F e1 e2 e3 => ?_⟩
      rw [show evc cf G .omit = _ from funext fun s => by unfold evc; rfl]
      intro Z as s σ H Q t h
      exact h.ok t
  · unfold chkI; exact h _ _
theorem so_range1 {a : AP.E} (ha : So G T cls cf k a) : So G T cls cf k (.range1 a) := by
  have h : ∀ Γ ex, chkE G (.range1 a) Γ ex = false := fun Γ ex => by unfold chkE; rfl
  refine ⟨.not h, .not h, .not fun Γ es => by unfold chkA; rfl, .not fun Γ o => ?_, .not fun Γ es => ?_, fun Γ X EX tg ex c q => ?_⟩
  · unfold chkO; cases o <;> first | rfl | exact h _ _
  · unfold chkC
    split
    · rw [h]; simp
    · rfl
  · unfold chkI at q
    split at q
    · simp only [Bool.and_eq_true, decide_eq_true_eq] at q
      obtain ⟨q0, rfl, q2, q3⟩ := q
      obtain ⟨g1, g2⟩ := isGl_d c.mt q0
      obtain ⟨t1, h3, h4⟩ := ha.e Γ X EX _ c q3
      refine ⟨⟨_, pi_range1 g1 c.calls.rng (pa_cons h3 pa_nil (star_cons q2 _ _)) (by rw [star_cons q2]; rfl), fun F e1 e2 e3 => ?_⟩, fun s xs s' e => ?_⟩
      · rw [show evi cf G (.range1 a) = _ from funext fun s => by unfold evi; rfl]
        exact range1_ok (h4 F e1 e2 e3)
      · unfold evi at e
        cases h5 : ev cf G a s with
        | ok v s1 =>
          rw [h5] at e
          simp only [R.bind] at e
          split at e
          · split at e
            · rename_i n hn
              cases e
              simp only [intL, List.length_map, List.length_range]
              have := hn.2
              unfold lim at this
              omega
            · cases e
          · cases e
        | exc _ _ => rw [h5] at e; cases e
        | no => rw [h5] at e; cases e
    · cases q
theorem so_range2 {a b : AP.E} (ha : So G T cls cf k a) (hb : So G T cls cf k b) : So G T cls cf k (.range2 a b) := by
  have h : ∀ Γ ex, chkE G (.range2 a b) Γ ex = false := fun Γ ex => by unfold chkE; rfl
  refine ⟨.not h, .not h, .not fun Γ es => by unfold chkA; rfl, .not fun Γ o => ?_, .not fun Γ es => ?_, fun Γ X EX tg ex c q => ?_⟩
  · unfold chkO; cases o <;> first | rfl | exact h _ _
  · unfold chkC
    split
    · rw [h]; simp
    · rfl
  · unfold chkI at q
    split at q
    · simp only [Bool.and_eq_true, decide_eq_true_eq] at q
      obtain ⟨q0, rfl, q2, q3, q4, q5⟩ := q
      obtain ⟨g1, g2⟩ := isGl_d c.mt q0
      obtain ⟨t1, h3, h4⟩ := ha.e Γ X EX _ c q4
      obtain ⟨t2, h5, h6⟩ := hb.e Γ X EX _ c q5
      refine ⟨⟨_, pi_range2 g1 c.calls.rng (pa_cons h3 (pa_cons h5 pa_nil (star_cons q3 _ _)) (star_cons q2 _ _)) (by rw [star_cons q2, star_cons q3]; rfl) (by rw [star_cons q3]; rfl), fun F e1 e2 e3 => ?_⟩, fun s xs s' e => ?_⟩
      · rw [show evi cf G (.range2 a b) = _ from funext fun s => by unfold evi; rfl]
        exact range2_ok (h4 F e1 e2 e3) (h6 F e1 e2 e3)
      · unfold evi at e
        cases h7 : ev cf G a s with
        | ok v s1 =>
          rw [h7] at e
          simp only [R.bind] at e
          cases h8 : ev cf G b s1 with
          | ok w s2 =>
            rw [h8] at e
            simp only at e
            split at e
            · split at e
              · rename_i n hn
                cases e
                simp only [intL, List.length_map, List.length_range]
                unfold lim at hn
                omega
              · cases e
            · cases e
          | exc _ _ => rw [h8] at e; cases e
          | no => rw [h8] at e; cases e
        | exc _ _ => rw [h7] at e; cases e
        | no => rw [h7] at e; cases e
    · cases q
theorem zipL_len : ∀ (xs ys : List PV), (zipL xs ys).length ≤ xs.length
  | [], ys => by simp [zipL]
  | _ :: _, [] => by simp [zipL]
  | x :: xs, y :: ys => by simp [zipL, zipL_len xs ys]
theorem enumL_len : ∀ (xs : List PV) (i : Nat), (enumL i xs).length = xs.length
  | [], _ => rfl
  | x :: xs, i => by simp [enumL, enumL_len xs]
theorem isTup_d {tg : Expr} (h : isTupE tg = true) : ∃ es kk pos, tg = .Tuple es kk pos := by
  cases tg <;> first | exact ⟨_, _, _, rfl⟩ | (cases h; done)
theorem so_zip {a b : AP.E} (ha : So G T cls cf k a) (hb : So G T cls cf k b) : So G T cls cf k (.zip a b) := by
  have h : ∀ Γ ex, chkE G (.zip a b) Γ ex = false := fun Γ ex => by unfold chkE; rfl
  refine ⟨.not h, .not h, .not fun Γ es => by unfold chkA; rfl, .not fun Γ o => ?_, .not fun Γ es => ?_, fun Γ X EX tg ex c q => ?_⟩
  · unfold chkO; cases o <;> first | rfl | exact h _ _
  · unfold chkC
    split
    · rw [h]; simp
    · rfl
  · unfold chkI at q
    split at q
    · simp only [Bool.and_eq_true, decide_eq_true_eq] at q
      obtain ⟨qt, q0, rfl, q2, q3, q4, q5⟩ := q
      obtain ⟨es, kk, tpos, rfl⟩ := isTup_d qt
      obtain ⟨g1, g2⟩ := isGl_d c.mt q0
      obtain ⟨t1, h3, h4⟩ := ha.e Γ X EX _ c q4
      obtain ⟨t2, h5, h6⟩ := hb.e Γ X EX _ c q5
      refine ⟨⟨_, RZ.pi_zipA g1 c.calls.zip (pa_cons h3 (pa_cons h5 pa_nil (star_cons q3 _ _)) (star_cons q2 _ _)) (star_cons q2 _ _) (star_any _ _ _ (by simp [q3])), fun F e1 e2 e3 => ?_⟩, fun s xs s' e => ?_⟩
      · rw [show evi cf G (.zip a b) = _ from funext fun s => by unfold evi; rfl, ← e1]
        exact zip_ok (h4 F e1 e2 e3) (h6 F e1 e2 e3)
      · unfold evi at e
        cases h7 : ev cf G a s with
        | ok v s1 =>
          rw [h7] at e
          simp only [R.bind] at e
          cases h8 : ev cf G b s1 with
          | ok w s2 =>
            rw [h8] at e
            simp only at e
            split at e
            · split at e
              · rename_i hn
                cases e
                have := zipL_len ‹List PV› ‹List PV›
                rename_i xs ys _ _
                exact Nat.le_trans (zipL_len _ _) (Nat.le_trans hn (by decide))
              · cases e
            · split at e
              · rename_i hn
                cases e
                exact Nat.le_trans (zipL_len _ _) (Nat.le_trans hn (by decide))
              · cases e
            · cases e
          | exc _ _ => rw [h8] at e; cases e
          | no => rw [h8] at e; cases e
        | exc _ _ => rw [h7] at e; cases e
        | no => rw [h7] at e; cases e
    · cases q
theorem so_enum {a : AP.E} (ha : So G T cls cf k a) : So G T cls cf k (.enum a) := by
  have h : ∀ Γ ex, chkE G (.enum a) Γ ex = false := fun Γ ex => by unfold chkE; rfl
  refine ⟨.not h, .not h, .not fun Γ es => by unfold chkA; rfl, .not fun Γ o => ?_, .not fun Γ es => ?_, fun Γ X EX tg ex c q => ?_⟩
  · unfold chkO; cases o <;> first | rfl | exact h _ _
  · unfold chkC
    split
    · rw [h]; simp
    · rfl
  · unfold chkI at q
    split at q
    · simp only [Bool.and_eq_true, decide_eq_true_eq] at q
      obtain ⟨qt, q0, rfl, q2, q3⟩ := q
      obtain ⟨es, kk, tpos, rfl⟩ := isTup_d qt
      obtain ⟨g1, g2⟩ := isGl_d c.mt q0
      obtain ⟨t1, h3, h4⟩ := ha.e Γ X EX _ c q3
      refine ⟨⟨_, pi_enum g1 c.calls.enu (pa_cons h3 pa_nil (star_cons q2 _ _)) (by rw [star_cons q2]; rfl), fun F e1 e2 e3 => ?_⟩, fun s xs s' e => ?_⟩
      · rw [show evi cf G (.enum a) = _ from funext fun s => by unfold evi; rfl, ← e1]
        exact enum_ok (h4 F e1 e2 e3)
      · unfold evi at e
        cases h5 : ev cf G a s with
        | ok v s1 =>
          rw [h5] at e
          simp only [R.bind] at e
          split at e
          · split at e
            · rename_i hn
              cases e
              rw [enumL_len]
              exact Nat.le_trans hn (by decide)
            · cases e
          · cases e
        | exc _ _ => rw [h5] at e; cases e
        | no => rw [h5] at e; cases e
    · cases q
theorem so_isx {n : Nat} : So G T cls cf k (.isx n) := by
  have h : SoE G T cls cf k (.isx n) := fun Γ X EX ex c q => by
    unfold chkE at q
    split at q
    · simp only [Bool.and_eq_true, decide_eq_true_eq] at q
      obtain ⟨rfl, q0, q1⟩ := q
      cases hg : G.isx[n]? with
      | some b =>
        refine ⟨_, c.isx n _ b q1 hg _ _ _ _ _ q0, fun F e1 e2 e3 => ?_⟩
        rw [show ev cf G (.isx n) = fun s => .ok (.bl b) s from funext fun s => by unfold ev; rw [hg]]
        exact const_ok fun _ _ _ => .bl b
      | none =>
        refine ⟨fun _ _ _ => False, ⟨fun _ _ _ _ _ _ h => h.elim⟩, fun F e1 e2 e3 => ?_⟩
        rw [show ev cf G (.isx n) = fun s => .no from funext fun s => by unfold ev; rw [hg]]
        exact fun _ _ _ _ _ _ _ h => h
    · cases q
  exact h.so (h.test fun Γ ex q => by unfold chkE at q; split at q <;> first | rfl | cases q)
theorem StRel.extN {F : Fd} {Z : Addr → Prop} {as : List Addr} {s : S} {σ : L2.St} {H H1 : Hp} (t : StRel F Z as s σ H) (eN : LamX.ExtN H H1) (T1 : LamX.Tabs F.T H1) : StRel F Z as s σ H1 ∧ Fx as Z H as Z H1 := by
  have gw : Gw as H as H1 := ⟨⟨[], by simp, by simp⟩, fun b o h _ n => eN b o h n, fun b o h n => ⟨o, eN b o h n, n⟩⟩
  have fl : Fl as Z H as Z H1 := gw.fl fun _ h => .inl h
  have hz : HZ as Z H1 := ⟨fun a h => let ⟨o, e, q⟩ := t.hz.nt a h; ⟨o, eN a o e q.2.2, q⟩⟩
  have key : StRel F Z as ⟨s.sl, s.mu⟩ σ H1 := t.call ⟨⟨t.mu.len, t.mu.nd, fun n a m h1 h2 => by
    have q := t.mu.get n a m h1 h2
    cases m with
    | lst xs => obtain ⟨vs, h, r⟩ := q; exact ⟨vs, eN a _ h (fun ps z => by cases z), RepL.step fl t.hz.nt r⟩
    | ins c fs => exact q⟩, hz, t.zas, T1⟩ gw
  exact ⟨key, gw, fun _ h => h⟩
theorem hres_ok {F : Fd} {EX : XK} {Z : Addr → Prop} {as : List Addr} {s : S} {σ : L2.St} {H : Hp} {told : Bool} {x : PV} {v : V} {txt : Str} {Q : VK} (t : StRel F Z as s σ H) (r : Rep F.K as Z H x v)
    (h : Post F EX (.ok (if told = true then .tup [x, .str txt] else .str txt) s) Z as σ H (fun pv _ H' as' Z' => ∀ v, Rep F.K as' Z' H' pv v → Q v H')) : hres told v txt Q H := by
  unfold hres
  cases told with
  | true =>
    rw [if_pos rfl]
    intro p hp
    rw [if_pos rfl] at h
    exact h.okG t (gr_new hp) _ (t.hz.newT hp (.cons r (.cons (.str _) .nil)))
  | false =>
    rw [if_neg Bool.false_ne_true]
    rw [if_neg Bool.false_ne_true] at h
    exact h.ok t _ (.str _)
theorem lam_ok {F : Fd} {T' : List (Addr × Str)} {cls' : Nat → Value} {EX : XK} {t : XK → TE} {told : Bool} {words : List Str} {re : S → R PV} (hT : F.T = T') (hcl : F.cls = cls') (h1 : ∀ E, TEok F E (t E) re) :
    TEok F EX (LamX.tLam T' (TTh told words cls') t) (fun s => match re s with
      | .ok v s1 => .ok (hok told v) s1
      | .exc c s1 => (match words[c]? with
        | some x => .ok (hexc told x) s1
        | none => .no)
      | .no => .no) := by
  subst hT hcl
  intro Z as s σ H Q t0 h
  refine ⟨t0.tabs, fun H1 eN T1 => ?_⟩
  obtain ⟨t1, g1⟩ := t0.extN eN T1
  have h2 := Post.weak h g1
  intro E' Q' hE hQ
  refine h1 E' Z as s σ H1 _ t1 ?_
  clear h
  cases hr : re s with
  | ok v s1 =>
    simp only [hr] at h2
    intro H2 as2 Z2 t2 g2 w rw'
    refine hQ w H2 fun H3 g3 => ?_
    exact hres_ok (t2.grow g3) (t2.hz.rep g3 rw') (Post.weak (show Post F EX (.ok (hok told v) s1) Z as σ H1 _ from h2) (g2.trans (Fx.of g3)))
  | exc c s1 =>
    simp only [hr] at h2
    cases hw : words[c]? with
    | none => simp only [hw] at h2; exact h2.elim
    | some x =>
      simp only [hw] at h2
      intro H2 as2 Z2 t2 g2
      refine hE _ _ H2 ⟨rfl, c, x, hw, rfl, fun H3 g3 => ?_⟩
      exact hres_ok (t2.grow g3) .non (Post.weak (show Post F EX (.ok (hexc told x) s1) Z as σ H1 _ from h2) (g2.trans (Fx.of g3)))
  | no => simp only [hr] at h2; exact h2
theorem Ctx.lamC {Γ : Gam} {X : Cx} {EX : XK} (c : Ctx G T cls cf k Γ X EX) {scope : Scope} (L : LamX.LamS X.env.scope scope) (A : Around) (outer : List Env) (s : Shared) (H : Hp) (E : XK) (f c' : Addr) (hr : Room k (A.deeper (LamX.lamEnv X scope s.heap.objs.size f c'))) :
    Ctx G T cls cf k ⟨Γ.N, scope, [], false⟩ (AL.lamN X A outer s H E scope f c') E where
  mt := ⟨c.mt.N, c.mt.nd, rfl, fun x h => h, (fun x h => by
    unfold visK at h
    split at h
    · rename_i q; exact .inl q
    · rename_i q; exact .inr (.inl q)
    · rename_i q; exact .inr (.inr q)
    · cases h), fun x h => h, fun x h => absurd rfl (L.own _ (PySem.mem_of_lookup h)).2, fun x h => .inr h, hr.units⟩
  room := hr
  calls := c.calls
  pass := L2N.passes_call (L2N.takes_of rfl rfl rfl rfl) (fun _ _ _ _ h => h)
  isx := fun n y b h => by cases h
  lam := fun h => by cases h
theorem so_lam {h : Nat} {e : AP.E} (he : So G T cls cf k e) : So G T cls cf k (.lam h e) := by
  have hE : SoE G T cls cf k (.lam h e) := fun Γ X EX ex c q => by
    unfold chkE at q
    split at q
    · rename_i x p body scope lpos pos
      simp only [Bool.and_eq_true, decide_eq_true_eq] at q
      obtain ⟨q0, q1, q2, q3, q4⟩ := q
      obtain ⟨h1, h2⟩ := isGl_d c.mt q1
      cases hh : G.hs[h]? with
      | none => rw [hh] at q2; cases q2
      | some y =>
        obtain ⟨y, told⟩ := y
        rw [hh] at q2
        have e0 := q2
        simp only [Option.map_some, Option.some.injEq] at e0
        subst e0
        obtain ⟨a, g, pg, bg, sg, dV, kV, doc, pm, cdv, ct, oc, an, od, osl, Ng, f1, f2, f3, f4, f5, f6, f7, f8, f9, f10, f11⟩ := (c.calls.hand h y told hh).ex
        obtain ⟨cc, P, l1, l2, l3, l4⟩ := c.lam q0
        have hr : Room (k + 2) X.A := by
          have := c.room
          rw [if_pos q0] at this; exact this
        have L0 := LamX.lamS_by q3
        have L : LamX.LamS X.env.scope scope := ⟨L0.kind, L0.co, L0.gen, L0.own, fun z hz hf => by
          rcases L0.free z hz hf with w | w
          · exact .inl (c.mt.cel _ w).1
          · exact c.mt.fre _ w⟩
        have hb : ∀ (w : Around × List Env × Shared × Hp × XK × Addr × Addr) (hw : Room k (w.1.deeper (LamX.lamEnv X scope w.2.2.1.heap.objs.size w.2.2.2.2.2.1 w.2.2.2.2.2.2))), ∃ t, PE (AL.lamN X w.1 w.2.1 w.2.2.1 w.2.2.2.1 w.2.2.2.2.1 scope w.2.2.2.2.2.1 w.2.2.2.2.2.2) body t ∧
            ∀ F : Fd, F.K = X.K → F.T = T → F.cls = cls → TEok F w.2.2.2.2.1 t (ev cf G e) := fun w hw => he.e _ _ _ _ (c.lamC L w.1 w.2.1 w.2.2.1 w.2.2.2.1 w.2.2.2.2.1 w.2.2.2.2.2.1 w.2.2.2.2.2.2 hw) q4
        refine ⟨_, AL.lamcall_ok (T := T) (t := fun E σ H Q => ∀ (w : Around × List Env × Shared × Hp × Addr × Addr) (hw : Room k (w.1.deeper (LamX.lamEnv X scope w.2.2.1.heap.objs.size w.2.2.2.2.1 w.2.2.2.2.2))), (hb (w.1, w.2.1, w.2.2.1, w.2.2.2.1, E, w.2.2.2.2.1, w.2.2.2.2.2) hw).choose σ H Q)
          h1 f1 f2 f3 f4 f5 f6 f7 f8 (f11 X rfl rfl rfl rfl rfl hr _) l1 l2 l3 l4 hr L rfl (fun _ _ _ _ _ => rfl) (fun A outer s H E f c' hw => ⟨fun pins s' σ H' Q I hq => (hb (A, outer, s, H, E, f, c') hw).choose_spec.1.run pins s' σ H' Q I (hq (A, outer, s, H, f, c') hw)⟩) h2 f9 f10, fun F e1 e2 e3 => ?_⟩
        have hev : ∀ s, ev cf G (.lam h e) s = (match ev cf G e s with
          | .ok v s1 => .ok (hok told v) s1
          | .exc c s1 => (match G.words[c]? with
            | some x => .ok (hexc told x) s1
            | none => .no)
          | .no => .no) := fun s => by
          conv => lhs; unfold ev
          rw [hh]
          try (cases ev cf G e s with
          | exc c s1 => cases hw : G.words[c]? <;> simp [hw]
          | _ => rfl)
        rw [funext hev]
        exact lam_ok e2 e3 fun E => fun Z as s σ H Q t0 hq w hw => (hb (w.1, w.2.1, w.2.2.1, w.2.2.2.1, E, w.2.2.2.2.1, w.2.2.2.2.2) hw).choose_spec.2 F e1 e2 e3 Z as s σ H Q t0 hq
    · cases q
  exact hE.so (hE.test fun Γ ex q => by unfold chkE at q; split at q <;> first | rfl | cases q)
theorem so_all : ∀ z : AP.E, So G T cls cf k z
  | .non => so_non
  | .bl _ => so_bl
  | .int _ => so_int
  | .str _ => so_str
  | .var _ => so_var
  | .glob _ => so_glob
  | .bin _ a b => so_bin (so_all a) (so_all b)
  | .neg a => so_neg (so_all a)
  | .cmp _ a b => so_cmp (so_all a) (so_all b)
  | .chain _ _ a b c => so_chain (so_all a) (so_all b) (so_all c)
  | .and_ a b => so_and (so_all a) (so_all b)
  | .or_ a b => so_or (so_all a) (so_all b)
  | .not_ a => so_not (so_all a)
  | .ite c a b => so_ite (so_all c) (so_all a) (so_all b)
  | .tup a => so_tup (so_all a)
  | .lst a => so_lst (so_all a)
  | .nil => so_nil
  | .cons a b => so_cons (so_all a) (so_all b)
  | .idx a b => so_idx (so_all a) (so_all b)
  | .slice a b c => so_slice (so_all a) (so_all b) (so_all c)
  | .rev a => so_rev (so_all a)
  | .omit => so_omit
  | .call _ a => so_call (so_all a)
  | .bi _ a => so_bi (so_all a) fun b e => by subst e; exact so_all b
  | .isi a _ => so_isi (so_all a)
  | .meth _ a b => so_meth (so_all a) (so_all b)
  | .pop0 _ => so_pop0
  | .lc a _ b c => so_lc (so_all a) (so_all b) (so_all c)
  | .range1 a => so_range1 (so_all a)
  | .range2 a b => so_range2 (so_all a) (so_all b)
  | .zip a b => so_zip (so_all a) (so_all b)
  | .enum a => so_enum (so_all a)
  | .isx _ => so_isx
  | .lam _ a => so_lam (so_all a)
termination_by z => sizeOf z
end
end AP

set_option Elab.async false
set_option linter.all false
set_option maxRecDepth 100000
set_option maxHeartbeats 4000000
set_option autoImplicit false
/-! AP14: statements: what is wanted behind one, the readings -/
namespace AP
open PySem PySem.Spec PyProof.Rows L2
def PostS (F : Fd) (E : XK) (r : RS) (Z : Addr → Prop) (as : List Addr) (H : Hp) (D : Ends) : Prop := match r with
  | .nx s' => ∀ σ' H' as' Z', StRel F Z' as' s' σ' H' → Fl as Z H as' Z' H' → D.nx σ' H'
  | .rt v s' => ∀ w σ' H' as' Z', StRel F Z' as' s' σ' H' → Fl as Z H as' Z' H' → Rep F.K as' Z' H' v w → D.rt w H'
  | .exc c s' => ∀ σ' H' as' Z', StRel F Z' as' s' σ' H' → Fl as Z H as' Z' H' → E (F.cls c) none H'
  | .no => False
def TSok (F : Fd) (E : XK) (ts : TS) (c : S → RS) : Prop := ∀ Z as s σ H D, StRel F Z as s σ H → PostS F E (c s) Z as H D → ts D σ H
/-- a list that was just laid -/
def TFok (F : Fd) (E : XK) (te : TE) (r : S → R PV) : Prop := ∀ Z as s σ H Q, StRel F Z as s σ H →
  Post F E (r s) Z as σ H (fun pv s' H' as' Z' => ∃ xs, pv = .lst xs ∧ ∀ a vs, H' a = none → RepL F.K as' Z' H' xs vs → Q (.ref a) (upd H' a (.lst vs))) → te σ H Q
section
variable {F : Fd} {E : XK} {Z Z' : Addr → Prop} {as as' : List Addr} {s s' : S} {σ σ' : L2.St} {H H' : Hp} {ta tb tc te : TE} {D : Ends}
theorem PostS.weak {r : RS} (h : PostS F E r Z as H D) (g : Fl as Z H as' Z' H') : PostS F E r Z' as' H' D := by
  cases r with
  | nx s' => exact fun σ2 H2 as2 Z2 t g2 => h σ2 H2 as2 Z2 t (g.trans g2)
  | rt v s' => exact fun w σ2 H2 as2 Z2 t g2 => h w σ2 H2 as2 Z2 t (g.trans g2)
  | exc c s' => exact fun σ2 H2 as2 Z2 t g2 => h σ2 H2 as2 Z2 t (g.trans g2)
  | no => exact h
theorem PostS.go {α : Type} {r : R α} {k : α → S → RS} (h : PostS F E (r.go k) Z as H D) : Post F E r Z as σ H (fun a s' H' as' Z' => PostS F E (k a s') Z' as' H' D) := by
  cases r with
  | ok a s' => exact fun H' as' Z' t g => PostS.weak (show PostS F E (k a s') Z as H D from h) g.fl
  | exc c s' => exact fun H' as' Z' t g => h σ H' as' Z' t g.fl
  | no => exact h
theorem PostS.nxt (h : PostS F E (.nx s) Z as H D) (t : StRel F Z as s σ H) : D.nx σ H := h σ H as Z t (Fl.refl as Z H)
theorem next_ok : TSok F E tNext (fun s => .nx s) := fun Z as s σ H D t h => h.nxt t
theorem seq_okS {t u : TS} {a b : S → RS} (h1 : TSok F E t a) (h2 : TSok F E u b) : TSok F E (tSeq t u) (fun s => match a s with
    | .nx s1 => b s1
    | r => r) := by
  intro Z as s σ H D t h
  refine h1 Z as s σ H { D with nx := _ } t ?_
  cases e : a s with
  | nx s1 =>
    simp only [e] at h
    exact fun σ' H' as' Z' t' g' => h2 Z' as' s1 σ' H' D t' (PostS.weak (r := b s1) h g')
  | rt v s1 => simp only [e] at h; exact h
  | exc c s1 => simp only [e] at h; exact h
  | no => simp only [e] at h; exact h
theorem asg_ok {i : Nat} {ra : S → R PV} (h1 : TEok F E ta ra) : TSok F E (tAsg ta (gName i)) (fun s => (ra s).go fun v s1 => if i < s1.sl.length then .nx (s1.set i (.val v)) else .no) := by
  intro Z as s σ H D t h
  refine h1 Z as s σ H _ t (h.go.imp fun pv s1 H1 as1 Z1 t1 g1 q v hv => ?_)
  split at q
  · rename_i hi
    exact q.nxt (t1.setVal hi hv)
  · exact q.elim
theorem patS_ok {p : Pat} {g : TG} {ra : S → R PV} (h1 : TEok F E ta ra) (h2 : TGok F g p) : TSok F E (tAsg ta g) (fun s => (ra s).go fun v s1 => match bindP p v s1 with
    | some s2 => .nx s2
    | none => .no) := by
  intro Z as s σ H D t h
  refine h1 Z as s σ H _ t (h.go.imp fun pv s1 H1 as1 Z1 t1 g1 q v hv => ?_)
  split at q
  · rename_i s2 hb
    exact h2 Z1 as1 s1 σ H1 pv v s2 _ t1 hv hb fun σ' t' _ => q.nxt t'
  · exact q.elim
theorem par_ok {i j : Nat} {ra rb : S → R PV} (h1 : TEok F E ta ra) (h2 : TEok F E tb rb) : TSok F E (tPar i j (tCons ta (tCons tb tNil)))
    (fun s => (ra s).go fun v s1 => (rb s1).go fun w s2 => if i < s2.sl.length ∧ j < s2.sl.length then .nx ((s2.set i (.val v)).set j (.val w)) else .no) := by
  intro Z as s σ H D t h
  refine h1 Z as s σ H _ t (h.go.imp fun pv s1 H1 as1 Z1 t1 g1 q v hv => ?_)
  refine h2 Z1 as1 s1 σ H1 _ t1 (q.go.imp fun pw s2 H2 as2 Z2 t2 g2 q2 w hw => ?_)
  split at q2
  · rename_i hi
    refine ⟨v, w, rfl, q2.nxt ((t2.setVal hi.1 (Rep.step g2.fl t1.hz.nt hv)).setVal (by simpa [S.set] using hi.2) hw)⟩
  · exact q2.elim
theorem drop_ok {ra : S → R PV} (h1 : TEok F E ta ra) : TSok F E (tDrop ta) (fun s => (ra s).go fun _ s1 => .nx s1) := by
  intro Z as s σ H D t h
  exact h1 Z as s σ H _ t (h.go.imp fun pv s1 H1 as1 Z1 t1 g1 q v hv => q.nxt t1)
theorem ret_ok {ra : S → R PV} (h1 : TEok F E ta ra) : TSok F E (tRet ta) (fun s => (ra s).go fun v s1 => .rt v s1) := by
  intro Z as s σ H D t h
  exact h1 Z as s σ H _ t (h.go.imp fun pv s1 H1 as1 Z1 t1 g1 q v hv => q v σ H1 as1 Z1 t1 (Fl.refl _ _ _) hv)
theorem if_ok {tc : TT} {t u : TS} {rc : S → R PV} {a b : S → RS} (h0 : TTok F E tc (fun s => (rc s).bind asBool)) (h1 : TSok F E t a) (h2 : TSok F E u b) : TSok F E (tIfS tc t u) (fun s => (rc s).go fun v s1 => match v with
    | .bl true => a s1
    | .bl false => b s1
    | _ => .no) := by
  intro Z as s σ H D tt h
  refine h0 Z as s σ H _ tt ?_
  cases e : rc s with
  | ok v s1 =>
    simp only [e, R.go] at h
    show Post F E ((rc s).bind asBool) Z as σ H _
    rw [e]
    cases v with
    | bl d =>
      cases d with
      | true => exact fun H1 as1 Z1 t1 g1 => h1 Z1 as1 s1 σ H1 D t1 (PostS.weak (r := a s1) h g1.fl)
      | false => exact fun H1 as1 Z1 t1 g1 => h2 Z1 as1 s1 σ H1 D t1 (PostS.weak (r := b s1) h g1.fl)
    | _ => exact h.elim
  | exc c s1 =>
    simp only [e, R.go] at h
    show Post F E ((rc s).bind asBool) Z as σ H _
    rw [e]
    exact fun H1 as1 Z1 t1 g1 => h σ H1 as1 Z1 t1 g1.fl
  | no => simp only [e, R.go] at h; exact h.elim
theorem exc_okS {c : Nat} : TSok F E (fun _ σ H => E (F.cls c) none H) (fun s => .exc c s) := fun Z as s σ H D t h => h σ H as Z t (Fl.refl _ _ _)

/-! ### lists that are changed -/
theorem fresh_lst {t2 : TA} {ra : S → R (List PV)} (h1 : TAok F E t2 ra) : TFok F E (tLst t2) (fun s => (ra s).bind fun vs s1 => if vs.length ≤ lim then .ok (.lst vs) s1 else .no) := by
  intro Z as s σ H Q t h
  refine h1 Z as s σ H _ t ((Post.bind h).imp fun x s1 H1 as1 Z1 t1 g1 q1 v hx => ?_)
  split at q1
  · rename_i hl
    refine ⟨lim_ok (by rw [← hx.length]; exact hl), fun p hp => ?_⟩
    obtain ⟨xs, e, k⟩ := q1.ok t1
    cases e
    exact k p v hp hx
  · exact q1.elim
theorem StRel.newOwn {i : Nat} {a : Addr} {xs : List PV} {vs : List V} (t : StRel F Z as s σ H) (hi : i < s.sl.length) (hn : H a = none) (r : RepL F.K as Z H xs vs) :
    StRel F (fun b => Z b ∨ b = a) as (s.set i (.own xs)) (σ.set i (some (.ref a))) (upd H a (.lst vs)) ∧ Fl as Z H as (fun b => Z b ∨ b = a) (upd H a (.lst vs)) := by
  have g : Gr H (upd H a (.lst vs)) := gr_new hn
  have fl : Fl as Z H as (fun b => Z b ∨ b = a) (upd H a (.lst vs)) := (Gw.of g).fl fun b h => h.imp id fun e => nn_of (by rw [e]; exact hn)
  have n0 : Nn F.H0 a := t.gw.dom.back (nn_of hn)
  have hl : i < σ.length := by rw [← t.len]; exact hi
  have aux : ∀ (j : Nat) (ys : List PV), (s.set i (.own xs)).sl[j]? = some (.own ys) → (σ.set i (some (.ref a)))[j]? = some (some (.ref a)) → j = i := fun j ys hj hs => by
    by_cases hji : j = i
    · exact hji
    · simp only [S.set, List.getElem?_set_ne (Ne.symm hji)] at hj
      rw [List.getElem?_set_ne (Ne.symm hji)] at hs
      obtain ⟨b, us, h1, h2, _⟩ := t.slot j _ hj
      rw [hs] at h1; cases h1
      rw [hn] at h2; cases h2
  refine ⟨⟨by simpa [S.set] using t.len, fun j x hj => ?_, fun j k ys zs b hj hk h3 h4 => ?_, ⟨t.mu.len, t.mu.nd, fun n b m h1 h2 => ?_⟩, ⟨fun b hb => ?_⟩, fun b hb => ?_, fun b hb => .inl (t.z0 b hb), t.gw.trans (Gw.of g), t.tabs.ext g⟩, fl⟩
  · by_cases hji : j = i
    · subst hji
      simp only [S.set, List.getElem?_set_self hi] at hj
      cases hj
      exact ⟨a, vs, by rw [List.getElem?_set_self hl], upd_same, RepL.step fl t.hz.nt r, .inr rfl, fun z => (t.hz.free hn).2 (t.z0 a z), n0⟩
    · simp only [S.set, List.getElem?_set_ne (Ne.symm hji)] at hj
      rw [List.getElem?_set_ne (Ne.symm hji)]
      have q := t.slot j x hj
      cases x with
      | un => trivial
      | val pv => obtain ⟨v, h1, r⟩ := q; exact ⟨v, h1, Rep.step fl t.hz.nt r⟩
      | own ys => obtain ⟨b, us, h1, h2, r1, z, q⟩ := q; exact ⟨b, us, h1, g b _ h2, RepL.step fl t.hz.nt r1, .inl z, q⟩
  · by_cases hb : b = a
    · subst hb
      rw [aux j ys hj h3, aux k zs hk h4]
    · have nj : ∀ (j : Nat) (ys : List PV), (s.set i (.own xs)).sl[j]? = some (.own ys) → (σ.set i (some (.ref a)))[j]? = some (some (.ref b)) → j ≠ i ∧ s.sl[j]? = some (.own ys) ∧ σ[j]? = some (some (.ref b)) := fun j ys hj hs => by
        by_cases hji : j = i
        · subst hji
          rw [List.getElem?_set_self hl] at hs
          cases hs
          exact absurd rfl hb
        · simp only [S.set, List.getElem?_set_ne (Ne.symm hji)] at hj
          rw [List.getElem?_set_ne (Ne.symm hji)] at hs
          exact ⟨hji, hj, hs⟩
      obtain ⟨_, a1, a2⟩ := nj j ys hj h3
      obtain ⟨_, b1, b2⟩ := nj k zs hk h4
      exact t.dis j k ys zs b a1 b1 a2 b2
  · have q := t.mu.get n b m h1 h2
    cases m with
    | lst ys => obtain ⟨us, h, r1⟩ := q; exact ⟨us, g b _ h, RepL.step fl t.hz.nt r1⟩
    | ins c fs => exact q
  · rcases hb with hb | hb | hb
    · obtain ⟨o, e, q⟩ := t.hz.nt b (.inl hb)
      exact ⟨o, g b o e, q⟩
    · obtain ⟨o, e, q⟩ := t.hz.nt b (.inr hb)
      exact ⟨o, g b o e, q⟩
    · subst hb
      refine ⟨_, upd_same, ?_, ?_, ?_⟩ <;> intros <;> intro z <;> cases z
  · rcases hb with hb | hb
    · exact t.zas b hb
    · rw [hb]; exact (t.hz.free hn).1
theorem StRel.newObj {i : Nat} {a : Addr} {xs : List PV} {vs : List V} (t : StRel F Z as s σ H) (hi : i < s.sl.length) (hn : H a = none) (r : RepL F.K as Z H xs vs) :
    StRel F Z (as ++ [a]) ⟨s.sl.set i (.val (.obj s.mu.length)), s.mu ++ [.lst xs]⟩ (σ.set i (some (.ref a))) (upd H a (.lst vs)) ∧ Fl as Z H (as ++ [a]) Z (upd H a (.lst vs)) := by
  have g : Gr H (upd H a (.lst vs)) := gr_new hn
  have gw : Gw as H (as ++ [a]) (upd H a (.lst vs)) := ⟨⟨[a], rfl, fun b hb => nn_of (by rw [List.mem_singleton.mp hb]; exact hn)⟩, fun b o h _ _ => g b o h, fun b o h n => ⟨o, g b o h, n⟩⟩
  have fl : Fl as Z H (as ++ [a]) Z (upd H a (.lst vs)) := gw.fl fun b h => .inl h
  have hl : i < σ.length := by rw [← t.len]; exact hi
  have ha := t.hz.free hn
  have nj : ∀ (j : Nat) (ys : List PV), (s.sl.set i (.val (.obj s.mu.length)))[j]? = some (.own ys) → j ≠ i ∧ s.sl[j]? = some (.own ys) := fun j ys hj => by
    by_cases hji : j = i
    · subst hji
      rw [List.getElem?_set_self hi] at hj
      cases hj
    · rw [List.getElem?_set_ne (Ne.symm hji)] at hj
      exact ⟨hji, hj⟩
  refine ⟨⟨by simpa using t.len, fun j x hj => ?_, fun j k ys zs b hj hk h3 h4 => ?_, ⟨by simp [t.mu.len], ?_, fun n b m h1 h2 => ?_⟩, ⟨fun b hb => ?_⟩, fun b hb hm => ?_, t.z0, t.gw.trans gw, t.tabs.ext g⟩, fl⟩
  · by_cases hji : j = i
    · subst hji
      have hj' : (s.sl.set j (.val (.obj s.mu.length)))[j]? = some x := hj
      rw [List.getElem?_set_self hi] at hj'
      cases hj'
      exact ⟨.ref a, by rw [List.getElem?_set_self hl], .obj (by rw [List.getElem?_append_right (by rw [t.mu.len]; exact Nat.le_refl _)]; simp [t.mu.len])⟩
    · have hj' : (s.sl.set i (.val (.obj s.mu.length)))[j]? = some x := hj
      rw [List.getElem?_set_ne (Ne.symm hji)] at hj'
      rw [List.getElem?_set_ne (Ne.symm hji)]
      have q := t.slot j x hj'
      cases x with
      | un => trivial
      | val pv => obtain ⟨v, h1, r⟩ := q; exact ⟨v, h1, Rep.step fl t.hz.nt r⟩
      | own ys => obtain ⟨b, us, h1, h2, r1, z, q⟩ := q; exact ⟨b, us, h1, g b _ h2, RepL.step fl t.hz.nt r1, z, q⟩
  · obtain ⟨n1, e1⟩ := nj j ys hj
    obtain ⟨n2, e2⟩ := nj k zs hk
    rw [List.getElem?_set_ne (Ne.symm n1)] at h3
    rw [List.getElem?_set_ne (Ne.symm n2)] at h4
    exact t.dis j k ys zs b e1 e2 h3 h4
  · rw [List.nodup_append]
    exact ⟨t.mu.nd, by simp, fun x hx y hy e => ha.1 (by rw [List.mem_singleton.mp hy] at e; rw [← e]; exact hx)⟩
  · by_cases hn' : n < as.length
    · rw [List.getElem?_append_left hn'] at h1
      have h2' : (s.mu ++ [.lst xs])[n]? = some m := h2
      rw [List.getElem?_append_left (by rw [← t.mu.len]; exact hn')] at h2'
      have q := t.mu.get n b m h1 h2'
      cases m with
      | lst ys => obtain ⟨us, h, r1⟩ := q; exact ⟨us, g b _ h, RepL.step fl t.hz.nt r1⟩
      | ins c fs => exact q
    · have hlt := (List.getElem?_eq_some_iff.mp h1).1
      simp only [List.length_append, List.length_singleton] at hlt
      have : n = as.length := by omega
      subst this
      rw [List.getElem?_append_right (Nat.le_refl _)] at h1
      simp at h1
      subst h1
      have h2' : (s.mu ++ [.lst xs])[as.length]? = some m := h2
      rw [t.mu.len, List.getElem?_append_right (Nat.le_refl _)] at h2'
      simp at h2'
      subst h2'
      exact ⟨vs, upd_same, RepL.step fl t.hz.nt r⟩
  · by_cases hba : b = a
    · subst hba
      refine ⟨_, upd_same, ?_, ?_, ?_⟩ <;> intros <;> intro z <;> cases z
    · have : b ∈ as ∨ Z b := hb.imp (fun h => by
        rcases List.mem_append.mp h with h | h
        · exact h
        · exact absurd (List.mem_singleton.mp h) hba) id
      obtain ⟨o, e, q⟩ := t.hz.nt b this
      exact ⟨o, g b o e, q⟩
  · rcases List.mem_append.mp hm with h | h
    · exact t.zas b hb h
    · exact ha.2 (by rw [← List.mem_singleton.mp h]; exact hb)
theorem own_ok {i : Nat} {ra : S → R PV} (h1 : TFok F E ta ra) : TSok F E (tAsg ta (gName i)) (fun s => (ra s).go fun v s1 => match v with
    | .lst xs => if i < s1.sl.length then .nx (s1.set i (.own xs)) else .no
    | _ => .no) := by
  intro Z as s σ H D t h
  refine h1 Z as s σ H _ t (h.go.imp fun pv s1 H1 as1 Z1 t1 g1 q => ?_)
  split at q
  · rename_i xs
    split at q
    · rename_i hi
      refine ⟨xs, rfl, fun a vs hn r => ?_⟩
      obtain ⟨t2, f2⟩ := t1.newOwn hi hn r
      exact q _ _ _ _ t2 f2
    · exact q.elim
  · exact q.elim
theorem obj_ok {i : Nat} {ra : S → R PV} (h1 : TFok F E ta ra) : TSok F E (tAsg ta (gName i)) (fun s => (ra s).go fun v s1 => match v with
    | .lst xs => if i < s1.sl.length then .nx ⟨s1.sl.set i (.val (.obj s1.mu.length)), s1.mu ++ [.lst xs]⟩ else .no
    | _ => .no) := by
  intro Z as s σ H D t h
  refine h1 Z as s σ H _ t (h.go.imp fun pv s1 H1 as1 Z1 t1 g1 q => ?_)
  split at q
  · rename_i xs
    split at q
    · rename_i hi
      refine ⟨xs, rfl, fun a vs hn r => ?_⟩
      obtain ⟨t2, f2⟩ := t1.newObj hi hn r
      exact q _ _ _ _ t2 f2
    · exact q.elim
  · exact q.elim
/-- an own list becomes another one -/
theorem StRel.ownSet {i : Nat} {a : Addr} {xs ys : List PV} {vs ws : List V} (t : StRel F Z as s σ H) (hi : s.sl[i]? = some (.own xs)) (ha : σ[i]? = some (some (.ref a))) (h : H a = some (.lst vs)) (r : RepL F.K as Z H ys ws) :
    StRel F Z as (s.set i (.own ys)) σ (upd H a (.lst ws)) ∧ Fl as Z H as Z (upd H a (.lst ws)) := by
  obtain ⟨a', vs', e1, e2, r', hZ, nZ, n0⟩ := t.slot i _ hi
  rw [ha] at e1; cases e1
  have fl : Fl as Z H as Z (upd H a (.lst ws)) := acc_fl h hZ
  have hlt : i < s.sl.length := (List.getElem?_eq_some_iff.mp hi).1
  refine ⟨⟨by simpa [S.set] using t.len, fun j x hj => ?_, fun j k us zs b hj hk h3 h4 => ?_, ⟨t.mu.len, t.mu.nd, fun n b m h1 h2 => ?_⟩, ⟨fun b hb => ?_⟩, t.zas, t.z0, ⟨t.gw.pre, fun b o e hb ht => ?_, fun b o e n => ?_⟩, fun p hp => ?_⟩, fl⟩
  · by_cases hji : j = i
    · subst hji
      simp only [S.set, List.getElem?_set_self hlt] at hj
      cases hj
      exact ⟨a, ws, ha, upd_same, RepL.step fl t.hz.nt r, hZ, nZ, n0⟩
    · simp only [S.set, List.getElem?_set_ne (Ne.symm hji)] at hj
      have q := t.slot j x hj
      cases x with
      | un => trivial
      | val pv => obtain ⟨v, h1, r⟩ := q; exact ⟨v, h1, Rep.step fl t.hz.nt r⟩
      | own zs =>
        obtain ⟨b, us, h1, h2, r1, z, q⟩ := q
        have : b ≠ a := fun e => hji (t.dis j i zs xs a hj hi (by rw [h1, e]) ha)
        exact ⟨b, us, h1, by rw [upd_ne this]; exact h2, RepL.step fl t.hz.nt r1, z, q⟩
  · have aux : ∀ (j : Nat) (us : List PV), (s.set i (.own ys)).sl[j]? = some (.own us) → ∃ us', s.sl[j]? = some (.own us') := fun j us hj => by
      by_cases hji : j = i
      · exact ⟨xs, by rw [hji]; exact hi⟩
      · simp only [S.set, List.getElem?_set_ne (Ne.symm hji)] at hj
        exact ⟨us, hj⟩
    obtain ⟨u1, e1⟩ := aux j us hj
    obtain ⟨u2, e2⟩ := aux k zs hk
    exact t.dis j k u1 u2 b e1 e2 h3 h4
  · have q := t.mu.get n b m h1 h2
    cases m with
    | lst zs =>
      obtain ⟨us, h3, r1⟩ := q
      have : b ≠ a := fun e => t.zas a hZ (by rw [← e]; exact List.mem_of_getElem? h1)
      exact ⟨us, by rw [upd_ne this]; exact h3, RepL.step fl t.hz.nt r1⟩
    | ins c fs => exact q
  · by_cases q : b = a
    · refine ⟨.lst ws, by rw [q, upd_same], ?_, ?_, ?_⟩ <;> intros <;> intro z <;> cases z
    · obtain ⟨o, e, k⟩ := t.hz.nt b hb
      exact ⟨o, by rw [upd_ne q]; exact e, k⟩
  · have : b ≠ a := fun q => n0.not (by rw [← q]; exact e) ht
    rw [upd_ne this]; exact t.gw.keep b o e hb ht
  · obtain ⟨o', e', n'⟩ := t.gw.dom b o e n
    exact fl.dom b o' e' n'
  · obtain ⟨ps, e1, e2, e3⟩ := t.tabs p hp
    refine ⟨ps, by rw [upd_ne (ne_of e1 h (by intro z; cases z))]; exact e1, e2, fun pos cv hc => ?_⟩
    obtain ⟨c, e4, e5⟩ := e3 pos cv hc
    exact ⟨c, e4, by rw [upd_ne (ne_of e5 h (by intro z; unfold LamX.CodeO at z; cases z))]; exact e5⟩
theorem lim_size {n : Nat} (h : n < lim) : n < sizeLine := Nat.lt_trans h (by decide)
/-- where the list is -/
theorem StRel.isLst {i : Nat} (t : StRel F Z as s σ H) (h : isLst s i = true) : ∃ a vs, σ[i]? = some (some (.ref a)) ∧ H a = some (.lst vs) := by
  unfold AP.isLst at h
  split at h
  · rename_i xs e
    obtain ⟨a, vs, h1, h2, _⟩ := t.slot i _ e
    exact ⟨a, vs, h1, h2⟩
  · rename_i n e
    obtain ⟨v, h1, r⟩ := t.slot i _ e
    cases r with
    | @obj _ a ha =>
      have hlt : n < s.mu.length := by
        rw [← t.mu.len]; exact (List.getElem?_eq_some_iff.mp ha).1
      have q := t.mu.get n a _ ha (List.getElem?_eq_getElem hlt)
      generalize s.mu[n] = m at q
      cases m with
      | lst xs => obtain ⟨vs, h2, _⟩ := q; exact ⟨a, vs, h1, h2⟩
      | ins c fs => exact q.elim
  · cases h
/-- xs.append(e): the list is looked up ahead of e -/
theorem app_ok {i : Nat} {ra : S → R PV} (h1 : TEok F E ta ra) : TSok F E (tDrop (tBM F.K "list" rAppend (tVar i) (tCons ta tNil))) (fun s => if isLst s i then (ra s).go fun v s1 => (match s1.sl[i]? with
    | some (.own xs) => if xs.length < lim then .nx (s1.set i (.own (xs ++ [v]))) else .no
    | some (.val (.obj n)) => (match s1.mu[n]? with
      | some (.lst xs) => if xs.length < lim then .nx ⟨s1.sl, s1.mu.set n (.lst (xs ++ [v]))⟩ else .no
      | _ => .no)
    | _ => .no) else .no) := by
  intro Z as s σ H D t h
  dsimp only at h
  split at h
  · rename_i hl
    obtain ⟨a, vs0, e1, e2⟩ := t.isLst hl
    refine ⟨_, e1, .inl ⟨rfl, _, SqL.of e2⟩, ?_⟩
    refine h1 Z as s σ H _ t (h.go.imp fun pv s1 H1 as1 Z1 t1 g1 q v hv => ?_)
    show rAppend (.ref a) [v] H1 fun x H1 => D.nx σ H1
    split at q
    · rename_i xs hs
      split at q
      · rename_i hx
        obtain ⟨a', vs, h2, h3, r, _⟩ := t1.slot i _ hs
        rw [e1] at h2; cases h2
        refine ⟨a, vs, v, rfl, rfl, h3, by rw [← r.length]; exact lim_size hx, ?_⟩
        obtain ⟨t2, f2⟩ := t1.ownSet hs e1 h3 (r.append (.cons hv .nil))
        exact q _ _ _ _ t2 f2
      · exact q.elim
    · rename_i n hs
      split at q
      · rename_i xs hm
        split at q
        · rename_i hx
          obtain ⟨v', h2, r⟩ := t1.slot i _ hs
          rw [e1] at h2; cases h2
          cases r with
          | obj ha =>
            obtain ⟨vs, h3, r⟩ := t1.mu.get n a _ ha hm
            refine ⟨a, vs, v, rfl, rfl, h3, by rw [← r.length]; exact lim_size hx, ?_⟩
            obtain ⟨t2, f2⟩ := t1.moSet ha hm h3 (r.append (.cons hv .nil)) (t1.old (List.mem_of_getElem? ha))
            exact q _ _ _ _ t2 f2.fl
        · exact q.elim
      · exact q.elim
    · exact q.elim
  · exact h.elim
/-- xs[k] = e -/
theorem seti_ok {i : Nat} {ra rb : S → R PV} (h1 : TEok F E ta ra) (h2 : TEok F E tb rb) : TSok F E (tAsg ta (gSub (tVar i) tb rSetL)) (fun s => (ra s).go fun v s1 => if isLst s1 i then (rb s1).go fun k s2 => (match s2.sl[i]?, k with
    | some (.own xs), .int k => (match ixN xs.length k with
      | some j => .nx (s2.set i (.own (xs.set j v)))
      | none => .no)
    | _, _ => .no) else .no) := by
  intro Z as s σ H D t h
  refine h1 Z as s σ H _ t (h.go.imp fun pv s1 H1 as1 Z1 t1 g1 q v hv => ?_)
  split at q
  · rename_i hl
    obtain ⟨a, vs0, e1, e2⟩ := t1.isLst hl
    refine ⟨_, e1, ?_⟩
    refine h2 Z1 as1 s1 σ H1 _ t1 (q.go.imp fun pk s2 H2 as2 Z2 t2 g2 q2 k hk => ?_)
    split at q2
    · rename_i xs k' hs
      split at q2
      · rename_i j hj
        obtain ⟨a', vs, h3, h4, r, _⟩ := t2.slot i _ hs
        rw [e1] at h3; cases h3
        cases hk
        refine ⟨a, vs, _, j, rfl, rfl, h4, by rw [← r.length]; exact hj, ?_⟩
        obtain ⟨t3, f3⟩ := t2.ownSet hs e1 h4 (r.set (Rep.step g2.fl t1.hz.nt hv) j)
        exact q2 _ _ _ _ t3 f3
      · exact q2.elim
    · exact q2.elim
  · exact q.elim
end
end AP

set_option Elab.async false
set_option linter.all false
set_option maxRecDepth 100000
set_option maxHeartbeats 4000000
set_option autoImplicit false
/-! AP15: loops; statements against the row's trees -/
namespace AP
open PySem PySem.Spec PyProof.Rows L2
section
variable {F : Fd} {E : XK} {Z Z' : Addr → Prop} {as as' : List Addr} {s s' : S} {σ σ' : L2.St} {H H' : Hp} {ta tb tc te : TE} {D : Ends}
theorem for_ok {p : Pat} {wi : TI} {g : TG} {tb : TS} {ri : S → R (List PV)} {b : S → RS} (h1 : TIok F E wi ri) (h2 : TGok F g p) (h3 : TSok F E tb b) :
    TSok F E (tFor wi g tb) (fun s => (ri s).go fun xs s1 => forLoop (bindP p) b xs s1) := by
  intro Z as s σ H D t h
  refine h1 Z as s σ H _ t (h.go.imp fun items s1 H1 as1 Z1 t1 g1 q J wJ => ?_)
  refine ⟨fun i m σ2 H2 => m = items.length - i ∧ i ≤ items.length ∧ ∃ (s2 : S) (as2 : List Addr) (Z2 : Addr → Prop), StRel F Z2 as2 s2 σ2 H2 ∧ Fl as1 Z1 H1 as2 Z2 H2 ∧ PostS F E (forLoop (bindP p) b (items.drop i) s2) Z1 as1 H1 D,
    ⟨items.length, by simp, Nat.zero_le _, s1, as1, Z1, t1, Fl.refl _ _ _, by simpa using q⟩, ?_⟩
  rintro i m σ2 H2 ⟨rfl, hi, s2, as2, Z2, t2, f2, q2⟩
  obtain ⟨go, stop, yld⟩ := wJ as2 Z2 H2 f2 t2.hz
  by_cases hlt : i < items.length
  · refine .inr ⟨go i hlt, fun σ3 H3 => ∃ (s2 : S) (as2 : List Addr) (Z2 : Addr → Prop), StRel F Z2 as2 s2 σ3 H3 ∧ Fl as1 Z1 H1 as2 Z2 H3 ∧ PostS F E (forLoop (bindP p) b (items.drop (i + 1)) s2) Z1 as1 H1 D,
      fun σ3 H3 q3 => ⟨items.length - (i + 1), by omega, rfl, hlt, q3⟩, fun x H3 y => ?_⟩
    obtain ⟨gr, pv, hp, rp⟩ := yld i x H3 hlt y
    have ed : items.drop i = pv :: items.drop (i + 1) := by
      rw [List.drop_eq_getElem_cons hlt]
      have := List.getElem?_eq_getElem hlt
      rw [hp] at this; cases this; rfl
    rw [ed] at q2
    unfold forLoop at q2
    cases hb : bindP p pv s2 with
    | none => rw [hb] at q2; exact q2.elim
    | some s3 =>
      simp only [hb] at q2
      refine h2 Z2 as2 s2 σ2 H3 pv x s3 _ (t2.grow gr) rp hb fun σ3 t3 _ => ?_
      refine h3 Z2 as2 s3 σ3 H3 _ t3 ?_
      have f3 : Fl as1 Z1 H1 as2 Z2 H3 := f2.trans (Fl.of gr)
      cases hr : b s3 with
      | nx s4 =>
        simp only [hr] at q2
        exact fun σ4 H4 as4 Z4 t4 f4 => ⟨s4, as4, Z4, t4, f3.trans f4, q2⟩
      | rt v s4 =>
        simp only [hr] at q2
        exact PostS.weak (D := D) q2 f3
      | exc c s4 =>
        simp only [hr] at q2
        exact PostS.weak (D := D) q2 f3
      | no => simp only [hr] at q2; exact q2.elim
  · have ei : i = items.length := by omega
    subst ei
    refine .inl ⟨stop, ?_⟩
    rw [List.drop_length] at q2
    exact PostS.nxt (PostS.weak q2 f2) t2
theorem whl_ok {m : Nat} {tc : TT} {tb : TS} {rc : S → R PV} {b : S → RS} (h0 : TTok F E tc (fun s => (rc s).bind asBool)) (h1 : TSok F E tb b) : TSok F E (tWhile tc tb) (fun s => whlLoop rc b (fuelOf m s) s) := by
  intro Z as s σ H D t h
  dsimp only at h
  generalize fuelOf m s = n at h
  refine ⟨fun m σ2 H2 => ∃ (s2 : S) (as2 : List Addr) (Z2 : Addr → Prop), StRel F Z2 as2 s2 σ2 H2 ∧ Fl as Z H as2 Z2 H2 ∧ PostS F E (whlLoop rc b m s2) Z as H D, ⟨n, s, as, Z, t, Fl.refl _ _ _, h⟩, ?_⟩
  rintro m σ2 H2 ⟨s2, as2, Z2, t2, f2, q2⟩
  refine h0 Z2 as2 s2 σ2 H2 _ t2 ?_
  cases m with
  | zero => exact q2.elim
  | succ m =>
    unfold whlLoop at q2
    cases hc : rc s2 with
    | ok v s3 =>
      simp only [hc] at q2
      show Post F E ((rc s2).bind asBool) Z2 as2 σ2 H2 _
      rw [hc]
      cases v with
      | bl d =>
        cases d with
        | true =>
          simp only at q2
          intro H3 as3 Z3 t3 g3
          rw [if_pos rfl]
          have f3 := f2.trans g3.fl
          refine ⟨fun σ4 H4 => ∃ (s2 : S) (as2 : List Addr) (Z2 : Addr → Prop), StRel F Z2 as2 s2 σ4 H4 ∧ Fl as Z H as2 Z2 H4 ∧ PostS F E (whlLoop rc b m s2) Z as H D, fun σ4 H4 q4 => ⟨m, by omega, q4⟩, ?_⟩
          refine h1 Z3 as3 s3 σ2 H3 _ t3 ?_
          cases hr : b s3 with
          | nx s4 =>
            simp only [hr] at q2
            exact fun σ4 H4 as4 Z4 t4 f4 => ⟨s4, as4, Z4, t4, f3.trans f4, q2⟩
          | rt v s4 =>
            simp only [hr] at q2
            exact PostS.weak (D := D) q2 f3
          | exc c s4 =>
            simp only [hr] at q2
            exact PostS.weak (D := D) q2 f3
          | no => simp only [hr] at q2; exact q2.elim
        | false =>
          simp only at q2
          intro H3 as3 Z3 t3 g3
          rw [if_neg Bool.false_ne_true]
          exact PostS.nxt (PostS.weak q2 (f2.trans g3.fl)) t3
      | _ => exact q2.elim
    | exc c s3 =>
      simp only [hc] at q2
      show Post F E ((rc s2).bind asBool) Z2 as2 σ2 H2 _
      rw [hc]
      exact fun H3 as3 Z3 t3 g3 => q2 σ2 H3 as3 Z3 t3 (f2.trans g3.fl)
    | no => simp only [hc] at q2; exact q2.elim
end

/-! ### what stands on the right of = -/
/-- a pair of names that are stored from the right -/
def parOk (Γ : Gam) (tg ex : Expr) : Bool := match tg, ex with
  | .Tuple [.Name x px, .Name y py] _ _, .Tuple [a, b] _ _ => decide (Γ.sc.names.lookup x = some .local) && (decide (Γ.sc.names.lookup y = some .local) && (decide (x ≠ y) && (px.line == py.line && (noStar a && (noStar b &&
      (!(foldedForSure 8 a && foldedForSure 8 b) && !(constantsAlone 8 a && constantsAlone 8 b)))))))
  | _, _ => false
/-- the stores stand in their order -/
def inOrd (Γ : Gam) (tg ex : Expr) : Bool := match tg, ex with
  | .Tuple [.Name x _, .Name y _] _ _, .Tuple _ _ _ => decide (Γ.sc.names.lookup x = some .cell) || decide (Γ.sc.names.lookup y = some .cell)
  | _, .Tuple .. => false
  | _, _ => true
theorem swapped_par {env : Env} (hk : env.scope.kind = .function) {x y : Str} {px py pt pt2 : Pos} {k1 k2 : Nat} {a b : Expr} (hx : env.scope.names.lookup x = some .local) (hy : env.scope.names.lookup y = some .local) (hn : x ≠ y) (hl : px.line = py.line) (ha : noStar a = true) (hb : noStar b = true)
    (h1 : (foldedForSure 8 a && foldedForSure 8 b) = false) (h2 : (constantsAlone 8 a && constantsAlone 8 b) = false) : swappedStores [.Tuple [.Name x px, .Name y py] k1 pt] (.Tuple [a, b] k2 pt2) env = pure (some [x, y]) := by
  have kx : env.kindOf x = some .local := hx
  have ky : env.kindOf y = some .local := hy
  have hb' : env.blockKind = .function := by unfold Env.blockKind; rw [hk]; rfl
  have hd : [x, y].eraseDups.length = 2 := by
    have : (y == x) = false := beq_false_of_ne (Ne.symm hn)
    simp [List.eraseDups_cons, this]
  unfold swappedStores
  simp only [hb', List.any_cons, List.any_nil, List.all_cons, List.all_nil, Expr.pos, List.filterMap_cons, List.filterMap_nil, kx, ky, hl, h1, h2, hd, Bool.and_true, List.head?_cons, Option.map_some, Option.getD_some, beq_self_eq_true, if_true, List.length_cons, List.length_nil, Bool.or_false]
  rw [if_neg (by decide), if_neg ?_]
  · rfl
  · intro z
    rw [Bool.or_eq_true] at z
    rcases z with z | z
    · split at z
      · cases ha
      · cases z
    · split at z
      · cases hb
      · cases z
theorem swapped_cell {env : Env} (hk : env.scope.kind = .function) {x y : Str} {px py pt pt2 : Pos} {k1 k2 : Nat} {es : List Expr} (h : env.scope.names.lookup x = some .cell ∨ env.scope.names.lookup y = some .cell) : swappedStores [.Tuple [.Name x px, .Name y py] k1 pt] (.Tuple es k2 pt2) env = pure none := by
  have hb' : env.blockKind = .function := by unfold Env.blockKind; rw [hk]; rfl
  unfold swappedStores
  simp only [hb', List.length_cons, List.length_nil]
  have key : ∀ (l : Nat), ([Expr.Name x px, Expr.Name y py].filterMap fun
    | .Name id pos => if env.kindOf id == some .local && pos.line == l then some id else none
    | _ => none).length ≠ 2 := fun l => by
    rcases h with h | h
    · have kx : env.kindOf x = some .cell := h
      simp only [List.filterMap_cons, List.filterMap_nil, kx]
      split <;> (try split) <;> simp_all
    · have ky : env.kindOf y = some .cell := h
      simp only [List.filterMap_cons, List.filterMap_nil, ky]
      split <;> (try split) <;> simp_all
  split
  · rfl
  · split
    · rfl
    · rw [if_pos]
      have q := key ((Expr.Name x px).pos.line)
      rw [Bool.or_eq_true]
      left
      exact bne_iff_ne.mpr q
end AP

set_option Elab.async false
set_option linter.all false
set_option maxRecDepth 100000
set_option maxHeartbeats 8000000
set_option autoImplicit false
/-! AP16: a statement that checks does what the small language says -/
namespace AP
open PySem PySem.Spec PyProof.Rows L2
def freshE (G : Gx) (a : AP.E) (Γ : Gam) (ex : Expr) : Bool := match a, ex with
  | .lst xs, .List es _ => chkA G xs Γ es
  | _, _ => false
def ordOk (Γ : Gam) (tg ex : Expr) : Bool := !isTupE ex || inOrd Γ tg ex
mutual
def chk1 (G : Gx) : C → Gam → Stmt → Bool
  | .skip, _, st => (match st with
    | .Pass _ => true
    | _ => false)
  | .asg i e, Γ, st => (match st with
    | .Assign [.Name x _] ex _ => isSt Γ i x && (noComp ex && chkE G e Γ ex)
    | _ => false)
  | .own i e, Γ, st => (match st with
    | .Assign [.Name x _] ex _ => isSt Γ i x && (noComp ex && freshE G e Γ ex)
    | _ => false)
  | .obj i e, Γ, st => (match st with
    | .Assign [.Name x _] ex _ => isSt Γ i x && (noComp ex && freshE G e Γ ex)
    | _ => false)
  | .pat p e, Γ, st => (match st with
    | .Assign [tg] ex _ => chkP Γ p tg && (ordOk Γ tg ex && (noComp ex && chkE G e Γ ex))
    | _ => false)
  | .par2 i j a b, Γ, st => (match st with
    | .Assign [.Tuple [.Name x px, .Name y py] kt pt] (.Tuple [e1, e2] k2 pt2) _ => parOk Γ (.Tuple [.Name x px, .Name y py] kt pt) (.Tuple [e1, e2] k2 pt2) && (decide (Γ.N[i]? = some x) && (decide (Γ.N[j]? = some y) && (chkE G a Γ e1 && chkE G b Γ e2)))
    | _ => false)
  | .expr e, Γ, st => (match st with
    | .Expr ex _ => noComp ex && chkE G e Γ ex
    | _ => false)
  | .app i e, Γ, st => (match st with
    | .Expr (.Call (.Attribute (.Name x _) y apos) [ex] [] pos) _ => isVar Γ i x && (decide (y = Str.ofString "append") && ((apos.endLine == pos.line) && (noStar ex && chkE G e Γ ex)))
    | _ => false)
  | .seti i ix e, Γ, st => (match st with
    | .Assign [.Subscript (.Name x _) ie _] ex _ => isVar Γ i x && (noSlice ie && (noComp ex && (chkE G ix Γ ie && chkE G e Γ ex)))
    | _ => false)
  | .ret e, Γ, st => (match st with
    | .Return (some ex) _ => chkE G e Γ ex
    | _ => false)
  | .ite c a b, Γ, st => (match st with
    | .If t x y _ => c.notIte && (chkE G c Γ t && (chkS G a Γ x && chkS G b Γ y))
    | _ => false)
  | .whl _ c b, Γ, st => (match st with
    | .While t x [] _ => c.notIte && (chkE G c Γ t && chkS G b Γ x)
    | _ => false)
  | .for_ p it b, Γ, st => (match st with
    | .For tg iter x [] _ => noSet iter && (chkP Γ p tg && (chkI G it Γ (isTupE tg) iter && chkS G b Γ x))
    | _ => false)
  | .raise c, Γ, st => (match st with
    | .Raise (some (.Call (.Name x _) [.Constant (.str _) _ _] [] _)) none _ => isGl Γ x && decide (G.errs[c]? = some x)
    | _ => false)
  | .seq _ _, _, _ => false
def chkS (G : Gx) : C → Gam → List Stmt → Bool
  | .skip, _, sts => sts.isEmpty
  | .seq a b, Γ, sts => (match sts with
    | st :: rest => chk1 G a Γ st && chkS G b Γ rest
    | [] => false)
  | _, _, _ => false
end
theorem swaps_nt {tg ex : Expr} (h : isTupE ex = false) (env : Env) : swappedStores [tg] ex env = pure none := by
  have key : (match [tg], ex with
    | [.Tuple ts _ _], .Tuple vs _ _ | [.List ts _], .Tuple vs _ _ => some (ts, vs)
    | _, _ => none) = none := by
    split
    · cases h
    · cases h
    · rfl
  cases ex <;> first | (cases h; done) | (unfold swappedStores; cases tg <;> rfl)
theorem swaps_sole {tg e : Expr} (h : noComp e = true) (l : Nat) (env : Env) (_ : Unit := ()) : swapsWithSole [tg] e l env = pure false := swaps_no h _ _ _
theorem ord_ok {Γ : Gam} {X : Cx} (M : MtG Γ X) (hk : X.env.scope.kind = .function) {tg ex : Expr} (h : ordOk Γ tg ex = true) : swappedStores [tg] ex X.env = pure none := by
  unfold ordOk at h
  cases ht : isTupE ex with
  | false => exact swaps_nt ht _
  | true =>
    obtain ⟨es, kk, pos, rfl⟩ := isTup_d ht
    rw [ht] at h
    simp only [Bool.not_true, Bool.false_or] at h
    unfold inOrd at h
    split at h
    · rw [Bool.or_eq_true, decide_eq_true_eq, decide_eq_true_eq] at h
      exact swapped_cell hk (h.imp (fun z => (M.cel _ z).1) (fun z => (M.cel _ z).1))
    · cases h
    · rename_i h1 h2
      first | exact absurd rfl (h2 _ _ _) | exact absurd rfl (h1 _ _ _)
theorem sub_asg {o i : Expr} {pos : Pos} (h : noSlice i = true) (env : Env) (v : Value) : assign (.Subscript o i pos) env v = (do
      let ov ← holding [v] (eval o env)
      let iv ← holding [v, ov] (eval i env)
      standAt pos
      holding [v, ov, iv] (setItem ov iv v)
      release [v, ov, iv] []) := by
  cases i <;> first | rfl | (cases h; done)
structure CtxS (G : Gx) (T : List (Addr × Str)) (cls : Nat → Value) (cf : Nat → List PV → List MO → RC) (k : Nat) (Γ : Gam) (X : Cx) (EX : XK) : Prop where
  c : Ctx G T cls cf k Γ X EX
  po : PassesOwn (model X.prog X.w) X.A X.env X.xe
  tk : L2N.Takes X (fun cls d _ H => EX cls d H)
  kind : X.env.scope.kind = .function
  err : ∀ (i : Nat) x, G.errs[i]? = some x → ∃ C, X.mg x = some (.ref C) ∧ cls i = .ref C ∧ PySem.W.excIn X.K C [.type "ValueError", .type "Exception", .type "BaseException", .type "object"] "ValueError.__new__" = true ∧ PySem.W.keepIn X.K (.ref C) = true ∧
    PySem.W.subIn X.K (.ref C) (.type "BaseException") = some true ∧ PySem.W.typeIn X.K (.ref C) = some (.type "type")
section
variable (G : Gx) (T : List (Addr × Str)) (cls : Nat → Value) (cf : Nat → List PV → List MO → RC) (k : Nat)
def SoS (c : C) : Prop := ∀ (Γ : Gam) (X : Cx) (EX : XK) (st : Stmt), CtxS G T cls cf k Γ X EX → chk1 G c Γ st = true → ∃ t, PS X st t ∧ ∀ F : Fd, F.K = X.K → F.T = T → F.cls = cls → TSok F EX t (ex cf G c)
def SoB (c : C) : Prop := ∀ (Γ : Gam) (X : Cx) (EX : XK) (st : List Stmt), CtxS G T cls cf k Γ X EX → chkS G c Γ st = true → ∃ t, PSs X st t ∧ ∀ F : Fd, F.K = X.K → F.T = T → F.cls = cls → TSok F EX t (ex cf G c)
structure SoC2 (z : C) : Prop where
  s : SoS G T cls cf k z
  b : SoB G T cls cf k z
variable {G T cls cf k}
theorem fresh_so {e : AP.E} {Γ : Gam} {X : Cx} {EX : XK} {ex : Expr} (c : Ctx G T cls cf k Γ X EX) (h : freshE G e Γ ex = true) : ∃ t, PE X ex t ∧ ∀ F : Fd, F.K = X.K → F.T = T → F.cls = cls → TFok F EX t (ev cf G e) := by
  unfold freshE at h
  split at h
  · rename_i xs es p
    obtain ⟨t, h1, h2⟩ := (so_all (G := G) (T := T) (cls := cls) (cf := cf) (k := k) xs).a Γ X EX es c h
    refine ⟨_, pe_lst h1, fun F e1 e2 e3 => ?_⟩
    rw [show ev cf G (.lst xs) = _ from funext fun s => by unfold ev; rfl]
    exact fresh_lst (h2 F e1 e2 e3)
  · cases h
theorem SoB.not {z : C} (h : ∀ Γ sts, chkS G z Γ sts = false) : SoB G T cls cf k z := fun Γ X EX sts c hc => by
  rw [h] at hc; cases hc
theorem SoS.so {z : C} (hs : SoS G T cls cf k z) (h : ∀ Γ sts, chkS G z Γ sts = false := by intros; unfold chkS; rfl) : SoC2 G T cls cf k z := ⟨hs, .not h⟩
theorem ss_skip : SoC2 G T cls cf k .skip := by
  refine ⟨fun Γ X EX st c h => ?_, fun Γ X EX sts c h => ?_⟩
  · unfold chk1 at h
    split at h
    · refine ⟨_, ps_pass, fun F e1 e2 e3 => ?_⟩
      rw [show ex cf G .skip = _ from funext fun s => by unfold ex; rfl]
      exact next_ok
    · cases h
  · unfold chkS at h
    cases sts with
    | cons _ _ => cases h
    | nil =>
      refine ⟨_, pss_nil, fun F e1 e2 e3 => ?_⟩
      rw [show ex cf G .skip = _ from funext fun s => by unfold ex; rfl]
      exact next_ok
theorem ss_seq {a b : C} (ha : SoC2 G T cls cf k a) (hb : SoC2 G T cls cf k b) : SoC2 G T cls cf k (.seq a b) := by
  refine ⟨(fun Γ X EX st c h => by unfold chk1 at h; cases h), fun Γ X EX sts c h => ?_⟩
  unfold chkS at h
  split at h
  · rw [Bool.and_eq_true] at h
    obtain ⟨t1, h1, h2⟩ := ha.s Γ X EX _ c h.1
    obtain ⟨t2, h3, h4⟩ := hb.b Γ X EX _ c h.2
    refine ⟨_, pss_cons h1 h3, fun F e1 e2 e3 => ?_⟩
    rw [show ex cf G (.seq a b) = _ from funext fun s => by unfold ex; rfl]
    exact seq_okS (h2 F e1 e2 e3) (h4 F e1 e2 e3)
  · cases h
theorem ss_asg {i : Nat} {e : AP.E} : SoC2 G T cls cf k (.asg i e) := by
  refine SoS.so fun Γ X EX st c h => ?_
  unfold chk1 at h
  split at h
  · simp only [Bool.and_eq_true] at h
    obtain ⟨q0, q1, q2⟩ := h
    obtain ⟨i1, i2, i3⟩ := isSt_d c.c.mt q0
    obtain ⟨t, h1, h2⟩ := (so_all e).e Γ X EX _ c.c q2
    refine ⟨_, ps_set c.c.mt.nd i1 i2 h1 (swaps_no q1 _ _ _) i3, fun F e1 e2 e3 => ?_⟩
    rw [show ex cf G (.asg i e) = _ from funext fun s => by unfold ex; rfl]
    exact asg_ok (h2 F e1 e2 e3)
  · cases h
theorem ss_own {i : Nat} {e : AP.E} : SoC2 G T cls cf k (.own i e) := by
  refine SoS.so fun Γ X EX st c h => ?_
  unfold chk1 at h
  split at h
  · simp only [Bool.and_eq_true] at h
    obtain ⟨q0, q1, q2⟩ := h
    obtain ⟨i1, i2, i3⟩ := isSt_d c.c.mt q0
    obtain ⟨t, h1, h2⟩ := fresh_so c.c q2
    refine ⟨_, ps_set c.c.mt.nd i1 i2 h1 (swaps_no q1 _ _ _) i3, fun F e1 e2 e3 => ?_⟩
    rw [show ex cf G (.own i e) = _ from funext fun s => by unfold ex; rfl]
    exact own_ok (h2 F e1 e2 e3)
  · cases h
theorem ss_obj {i : Nat} {e : AP.E} : SoC2 G T cls cf k (.obj i e) := by
  refine SoS.so fun Γ X EX st c h => ?_
  unfold chk1 at h
  split at h
  · simp only [Bool.and_eq_true] at h
    obtain ⟨q0, q1, q2⟩ := h
    obtain ⟨i1, i2, i3⟩ := isSt_d c.c.mt q0
    obtain ⟨t, h1, h2⟩ := fresh_so c.c q2
    refine ⟨_, ps_set c.c.mt.nd i1 i2 h1 (swaps_no q1 _ _ _) i3, fun F e1 e2 e3 => ?_⟩
    rw [show ex cf G (.obj i e) = _ from funext fun s => by unfold ex; rfl]
    exact obj_ok (h2 F e1 e2 e3)
  · cases h
theorem ss_pat {p : Pat} {e : AP.E} : SoC2 G T cls cf k (.pat p e) := by
  refine SoS.so fun Γ X EX st c h => ?_
  unfold chk1 at h
  split at h
  · rename_i tg ex0 pos
    simp only [Bool.and_eq_true] at h
    obtain ⟨q0, q1, q2, q3⟩ := h
    obtain ⟨g, g1, g2⟩ := pat_ok c.c.mt p _ q0
    obtain ⟨t, h1, h2⟩ := (so_all e).e Γ X EX _ c.c q3
    refine ⟨_, ps_asg h1 g1 (swaps_no q2 _ _ _) (ord_ok c.c.mt c.kind q1) (by rw [asg_no (chkP_star q0)]; rfl), fun F e1 e2 e3 => ?_⟩
    rw [show ex cf G (.pat p e) = _ from funext fun s => by unfold ex; rfl]
    exact patS_ok (h2 F e1 e2 e3) (g2 F e1)
  · cases h
theorem ss_par2 {i j : Nat} {a b : AP.E} : SoC2 G T cls cf k (.par2 i j a b) := by
  refine SoS.so fun Γ X EX st c h => ?_
  unfold chk1 at h
  split at h
  · simp only [parOk, Bool.and_eq_true, decide_eq_true_eq, Bool.not_eq_true', beq_iff_eq] at h
    obtain ⟨⟨p1, p2, p3, p4, p5, p6, p7, p8⟩, q1, q2, q3, q4⟩ := h
    obtain ⟨t1, h1, h2⟩ := (so_all a).e Γ X EX _ c.c q3
    obtain ⟨t2, h3, h4⟩ := (so_all b).e Γ X EX _ c.c q4
    refine ⟨_, ps_par c.c.mt.calm c.c.mt.nd (by rw [c.c.mt.N]; exact q1) (by rw [c.c.mt.N]; exact q2) (fun e => ?_) (c.c.mt.loc _ p1) (c.c.mt.loc _ p2) (pa_cons h1 (pa_cons h3 pa_nil (star_cons p6 _ _)) (star_cons p5 _ _)) (swapped_par c.kind (c.c.mt.loc _ p1) (c.c.mt.loc _ p2) p3 p4 p5 p6 p7 p8), fun F e1 e2 e3 => ?_⟩
    · rw [e, q2] at q1
      exact p3 (Option.some.inj q1).symm
    · rw [show ex cf G (.par2 i j a b) = _ from funext fun s => by unfold ex; rfl]
      exact par_ok (h2 F e1 e2 e3) (h4 F e1 e2 e3)
  · cases h
theorem ss_expr {e : AP.E} : SoC2 G T cls cf k (.expr e) := by
  refine SoS.so fun Γ X EX st c h => ?_
  unfold chk1 at h
  split at h
  · simp only [Bool.and_eq_true] at h
    obtain ⟨t, h1, h2⟩ := (so_all e).e Γ X EX _ c.c h.2
    refine ⟨_, ps_expr h1 (swaps_no h.1 _ _ _), fun F e1 e2 e3 => ?_⟩
    rw [show ex cf G (.expr e) = _ from funext fun s => by unfold ex; rfl]
    exact drop_ok (h2 F e1 e2 e3)
  · cases h
theorem ss_app {i : Nat} {e : AP.E} : SoC2 G T cls cf k (.app i e) := by
  refine SoS.so fun Γ X EX st c h => ?_
  unfold chk1 at h
  split at h
  · simp only [Bool.and_eq_true, decide_eq_true_eq] at h
    obtain ⟨q0, rfl, q1, q2, q3⟩ := h
    obtain ⟨t, h1, h2⟩ := (so_all e).e Γ X EX _ c.c q3
    refine ⟨_, ps_expr (pe_bm PySem.F.plainAttrs_list PySem.F.slot_list_append PySem.F.type_list_append mt_append (pe_v c.c.mt q0) (pa_cons h1 pa_nil (star_cons q2 _ _)) (base_no rfl _ _ _) (by rw [star_cons q2]; rfl) q1 (star_cons q2 _ _) (by rfl)), fun F e1 e2 e3 => ?_⟩
    rw [show ex cf G (.app i e) = _ from funext fun s => by unfold ex; rfl, ← e1]
    exact app_ok (h2 F e1 e2 e3)
  · cases h
theorem ss_seti {i : Nat} {ix e : AP.E} : SoC2 G T cls cf k (.seti i ix e) := by
  refine SoS.so fun Γ X EX st c h => ?_
  unfold chk1 at h
  split at h
  · simp only [Bool.and_eq_true] at h
    obtain ⟨q0, q1, q2, q3, q4⟩ := h
    obtain ⟨t1, h1, h2⟩ := (so_all e).e Γ X EX _ c.c q4
    obtain ⟨t2, h3, h4⟩ := (so_all ix).e Γ X EX _ c.c q3
    refine ⟨_, ps_asg h1 (pg_sub (pe_v c.c.mt q0) h3 set_list (sub_asg q1 _)) (swaps_sole q2 _ _) ?_ (by rfl), fun F e1 e2 e3 => ?_⟩
    · rename_i ex0 _
      cases ex0 <;> rfl
    · rw [show ex cf G (.seti i ix e) = _ from funext fun s => by unfold ex; rfl]
      exact seti_ok (h2 F e1 e2 e3) (h4 F e1 e2 e3)
  · cases h
theorem ss_ret {e : AP.E} : SoC2 G T cls cf k (.ret e) := by
  refine SoS.so fun Γ X EX st c h => ?_
  unfold chk1 at h
  split at h
  · obtain ⟨t, h1, h2⟩ := (so_all e).e Γ X EX _ c.c h
    refine ⟨_, ps_ret h1, fun F e1 e2 e3 => ?_⟩
    rw [show ex cf G (.ret e) = _ from funext fun s => by unfold ex; rfl]
    exact ret_ok (h2 F e1 e2 e3)
  · cases h
theorem ss_ite {e : AP.E} {a b : C} (ha : SoC2 G T cls cf k a) (hb : SoC2 G T cls cf k b) : SoC2 G T cls cf k (.ite e a b) := by
  refine SoS.so fun Γ X EX st c h => ?_
  unfold chk1 at h
  split at h
  · simp only [Bool.and_eq_true] at h
    obtain ⟨q0, q1, q2, q3⟩ := h
    obtain ⟨t0, h0, _, h5⟩ := (so_all e).t Γ X EX _ c.c q1 q0
    obtain ⟨t1, h1, h2⟩ := ha.b Γ X EX _ c q2
    obtain ⟨t2, h3, h4⟩ := hb.b Γ X EX _ c q3
    refine ⟨_, ps_if h0 h1 h3, fun F e1 e2 e3 => ?_⟩
    rw [show ex cf G (.ite e a b) = _ from funext fun s => by unfold ex; rfl]
    exact if_ok (h5 F e1 e2 e3) (h2 F e1 e2 e3) (h4 F e1 e2 e3)
  · cases h
theorem ss_whl {m : Nat} {e : AP.E} {b : C} (hb : SoC2 G T cls cf k b) : SoC2 G T cls cf k (.whl m e b) := by
  refine SoS.so fun Γ X EX st c h => ?_
  unfold chk1 at h
  split at h
  · simp only [Bool.and_eq_true] at h
    obtain ⟨q0, q1, q2⟩ := h
    obtain ⟨t0, h0, _, h5⟩ := (so_all e).t Γ X EX _ c.c q1 q0
    obtain ⟨t1, h1, h2⟩ := hb.b Γ X EX _ c q2
    refine ⟨_, ps_while c.po h0 h1, fun F e1 e2 e3 => ?_⟩
    rw [show ex cf G (.whl m e b) = _ from funext fun s => by unfold ex; rfl]
    exact whl_ok (h5 F e1 e2 e3) (h2 F e1 e2 e3)
  · cases h
theorem ss_for {p : Pat} {it : AP.E} {b : C} (hb : SoC2 G T cls cf k b) : SoC2 G T cls cf k (.for_ p it b) := by
  refine SoS.so fun Γ X EX st c h => ?_
  unfold chk1 at h
  split at h
  · simp only [Bool.and_eq_true] at h
    obtain ⟨q0, q1, q2, q3⟩ := h
    obtain ⟨g, g1, g2⟩ := pat_ok c.c.mt p _ q1
    obtain ⟨⟨ti, i1, i2⟩, _⟩ := (so_all it).i Γ X EX _ _ c.c q2
    obtain ⟨t1, h1, h2⟩ := hb.b Γ X EX _ c q3
    refine ⟨_, ps_for c.po c.c.mt.calm i1 g1 h1 (fold_no q0 _), fun F e1 e2 e3 => ?_⟩
    rw [show ex cf G (.for_ p it b) = _ from funext fun s => by unfold ex; rfl]
    exact for_ok (i2 F e1 e2 e3) (g2 F e1) (h2 F e1 e2 e3)
  · cases h
theorem ss_raise {i : Nat} : SoC2 G T cls cf k (.raise i) := by
  refine SoS.so fun Γ X EX st c h => ?_
  unfold chk1 at h
  split at h
  · simp only [Bool.and_eq_true, decide_eq_true_eq] at h
    obtain ⟨q0, q1⟩ := h
    obtain ⟨g1, g2⟩ := isGl_d c.c.mt q0
    obtain ⟨C, f1, f2, f3, f4, f5, f6⟩ := c.err i _ q1
    refine ⟨_, L2N.ps_raise c.c.mt.calm c.tk (L2N.pmk_own PySem.F.excBase_ValueError f3 f1 f4 (raises_own f5 f6) g1 g2), fun F e1 e2 e3 => ?_⟩
    rw [show ex cf G (.raise i) = _ from funext fun s => by unfold ex; rfl]
    have := exc_okS (F := F) (E := EX) (c := i)
    rw [e3, f2] at this
    exact this
  · cases h
theorem ss_all : ∀ z : C, SoC2 G T cls cf k z
  | .skip => ss_skip
  | .seq a b => ss_seq (ss_all a) (ss_all b)
  | .asg _ _ => ss_asg
  | .own _ _ => ss_own
  | .obj _ _ => ss_obj
  | .pat _ _ => ss_pat
  | .par2 _ _ _ _ => ss_par2
  | .expr _ => ss_expr
  | .app _ _ => ss_app
  | .seti _ _ _ => ss_seti
  | .ret _ => ss_ret
  | .ite _ a b => ss_ite (ss_all a) (ss_all b)
  | .whl _ _ b => ss_whl (ss_all b)
  | .for_ _ _ b => ss_for (ss_all b)
  | .raise _ => ss_raise
end
end AP

set_option Elab.async false
set_option linter.all false
set_option maxRecDepth 100000
set_option maxHeartbeats 8000000
set_option autoImplicit false
/-! AP17: the defs of a table hand back what the small language says -/
namespace AP
open PySem PySem.Spec PyProof.Rows L2
/-- a def of the row: its name, its row, its names by slot (parameters first), its parameters; whether lambdas stand in it -/
structure FnI where
  name : Str
  st : Stmt
  N : List Str
  ps : List Str
  lam : Bool := false
/-- the scope's facts, by a look -/
def scopeC (N ps : List Str) (sc : Scope) : Bool := decide (sc.kind = .function) && (!sc.isCoroutine && (!sc.isGenerator && (decide N.Nodup && (decide (N.take ps.length = ps) && (ps.all (fun x => decide (sc.names.lookup x = some .local) || decide (sc.names.lookup x = some .cell)) && sc.names.all fun y => decide (y.2 ≠ .free))))))
theorem scopeC_ok {N ps : List Str} {sc : Scope} (h : scopeC N ps sc = true) : FnScope N ps sc := by
  unfold scopeC at h
  simp only [Bool.and_eq_true, decide_eq_true_eq, Bool.not_eq_true', List.all_eq_true, Bool.or_eq_true] at h
  obtain ⟨h1, h2, h3, h4, h5, h6, h7⟩ := h
  exact ⟨h1, h2, h3, h4, h5, h6, h7⟩
def FnI.chk (G : Gx) (i : Nat) (I : FnI) (fd : FnDef) : Bool := decide (G.fns[i]? = some (I.name, I.ps.length)) && (decide (fd.nps = I.ps.length) && (decide (fd.nsl = I.N.length) && (scopeC I.N I.ps (defScope I.st) && chkS G fd.body ⟨I.N, defScope I.st, [], I.lam⟩ (defBody I.st))))
def chkAll (G : Gx) : Nat → List FnI → List FnDef → Bool
  | _, [], [] => true
  | i, I :: is, fd :: fds => I.chk G i fd && chkAll G (i + 1) is fds
  | _, _, _ => false
theorem chkAll_ok {G : Gx} : ∀ {i : Nat} {is : List FnI} {fds : List FnDef}, chkAll G i is fds = true → ∀ (j : Nat), (∀ I, is[j]? = some I → ∃ fd, fds[j]? = some fd ∧ I.chk G (i + j) fd = true) ∧ is.length = fds.length
  | _, [], [], _, j => ⟨fun I h => by simp at h, rfl⟩
  | i, I :: is, fd :: fds, h, j => by
    rw [chkAll, Bool.and_eq_true] at h
    refine ⟨fun J hJ => ?_, by simp [(chkAll_ok h.2 0).2]⟩
    cases j with
    | zero => simp at hJ; subst hJ; exact ⟨fd, rfl, h.1⟩
    | succ j =>
      obtain ⟨fd', h1, h2⟩ := (chkAll_ok h.2 j).1 J (by simpa using hJ)
      exact ⟨fd', by simpa using h1, by rw [show i + (j + 1) = i + 1 + j by omega]; exact h2⟩
  | _, [], _ :: _, h, _ => by simp [chkAll] at h
  | _, _ :: _, [], h, _ => by simp [chkAll] at h
/-- what the module tells -/
structure ModF (G : Gx) (info : List FnI) (T : List (Addr × Str)) (cls : Nat → Value) (P : Program) (w : World) (K : PySem.W.Frag) (mg : Str → Option Value) (base : Heap) : Prop where
  fn : ∀ (i : Nat) I, info[i]? = some I → ∃ f fd, mg I.name = some (.ref f) ∧ FunD K I.name I.name (defArgs I.st) (defBody I.st) (defScope I.st) [] [] f fd ∧ L2.Binds K fd I.ps [] ∧
    (I.lam = true → ∃ c Pt, fd.code = .ref c ∧ LamX.TabB base mg c Pt ∧ (Pt, I.name ++ ".<locals>." ++ "<lambda>") ∈ T ∧ ∀ p ∈ T, p.1 = Pt → p.2 = I.name ++ ".<locals>." ++ "<lambda>")
  glob : ∀ (i : Nat) x pv, G.globs[i]? = some (x, pv) → ∃ u v, mg x = some u ∧ RelV v u ∧ ∀ as Z H, Rep K as Z H pv v
  bi : ∀ b : Bi, mg (Str.ofString b.nm) = none
  ty : ∀ t : Ty, mg (Str.ofString t.nm) = none
  isi : mg "isinstance" = none
  rng : mg "range" = none
  zip : mg "zip" = none
  enu : mg "enumerate" = none
  hand : ∀ (k h : Nat) x told, G.hs[h]? = some (x, told) → HandOk G.words cls k P w K mg base x told
  err : ∀ (i : Nat) x, G.errs[i]? = some x → ∃ C, mg x = some (.ref C) ∧ cls i = .ref C ∧ PySem.W.excIn K C [.type "ValueError", .type "Exception", .type "BaseException", .type "object"] "ValueError.__new__" = true ∧ PySem.W.keepIn K (.ref C) = true ∧
    PySem.W.subIn K (.ref C) (.type "BaseException") = some true ∧ PySem.W.typeIn K (.ref C) = some (.type "type")
theorem StRel.exit {F : Fd} {Z' : Addr → Prop} {as' : List Addr} {s' : S} {σ' : L2.St} {H' : Hp} (t : StRel F Z' as' s' σ' H') : Hk F.K F.T F.Z0 as' s'.mu H' ∧ Fl as' Z' H' as' F.Z0 H' := by
  have fl : Fl as' Z' H' as' F.Z0 H' := ⟨⟨[], by simp, by simp⟩, fun _ _ h _ _ _ => h, fun _ o h n => ⟨o, h, n⟩, fun a h => .inl (t.z0 a h)⟩
  exact ⟨⟨⟨t.mu.len, t.mu.nd, fun n a m h1 h2 => by
    have q := t.mu.get n a m h1 h2
    cases m with
    | lst xs => obtain ⟨vs, h, r⟩ := q; exact ⟨vs, h, RepL.step fl t.hz.nt r⟩
    | ins c fs => exact q⟩, ⟨fun b hb => t.hz.nt b (hb.imp id (t.z0 b))⟩, fun a h => t.zas a (t.z0 a h), t.tabs⟩, fl⟩
theorem st_start {K : PySem.W.Frag} {T : List (Addr × Str)} {cls : Nat → Value} {Z : Addr → Prop} {as : List Addr} {mu : List MO} {H : Hp} {xs : List PV} {vs : List V} {fd : FnDef} {N : List Str} (hk : Hk K T Z as mu H) (r : RepL K as Z H xs vs) (h1 : xs.length = fd.nps) (h2 : fd.nsl = N.length) (h3 : fd.nps ≤ fd.nsl) :
    StRel ⟨K, T, cls, Z, as, H⟩ Z as (startS fd xs mu) (start N vs) H where
  len := by
    have := r.length
    simp only [startS, L2.start, List.length_append, List.length_map, List.length_replicate]
    omega
  slot := fun i x h => by
    simp only [startS] at h
    by_cases hi : i < xs.length
    · rw [List.getElem?_append_left (by simpa using hi), List.getElem?_map, List.getElem?_eq_getElem hi] at h
      cases h
      obtain ⟨v, e, rv⟩ := r.get (List.getElem?_eq_getElem hi)
      refine ⟨v, ?_, rv⟩
      have hl := (List.getElem?_eq_some_iff.mp e).1
      unfold L2.start
      rw [List.getElem?_append_left (by simpa using hl), List.getElem?_map, e]
      rfl
    · rw [List.getElem?_append_right (by simpa using hi), List.getElem?_replicate] at h
      split at h
      · cases h; trivial
      · cases h
  dis := fun i j ys zs a h => by
    exfalso
    simp only [startS] at h
    by_cases hi : i < xs.length
    · rw [List.getElem?_append_left (by simpa using hi), List.getElem?_map, List.getElem?_eq_getElem hi] at h
      cases h
    · rw [List.getElem?_append_right (by simpa using hi), List.getElem?_replicate] at h
      split at h <;> cases h
  mu := hk.mu
  hz := hk.hz
  zas := hk.zas
  z0 := fun _ h => h
  gw := Gw.refl as H
  tabs := hk.tabs
/-- the body's run -/
theorem body_ok {G : Gx} {T : List (Addr × Str)} {cls : Nat → Value} {cf : Nat → List PV → List MO → RC} {k : Nat} {Γ : Gam} {X : Cx} {EX : XK} {fd : FnDef} {sts : List Stmt} {Z : Addr → Prop} {as : List Addr} {mu : List MO} {H : Hp} {xs : List PV} {vs : List V} {Q : VK} (c : CtxS G T cls cf k Γ X EX) (hc : chkS G fd.body Γ sts = true)
    (hk : Hk X.K T Z as mu H) (r : RepL X.K as Z H xs vs) (h1 : xs.length = fd.nps) (h2 : fd.nsl = Γ.N.length) (h3 : fd.nps ≤ fd.nsl)
    (hm : match (ex cf G fd.body (startS fd xs mu)).done with
      | .ok v mu' => ∀ w H' as', Hk X.K T Z as' mu' H' → Gw as H as' H' → Rep X.K as' Z H' v w → Q w H'
      | .exc c mu' => ∀ H' as', Hk X.K T Z as' mu' H' → Gw as H as' H' → EX (cls c) none H'
      | .no => False) : ∃ t, PSs X sts t ∧ t { nx := fun _ H' => Q .non H', rt := Q } (start Γ.N vs) H := by
  obtain ⟨t, p1, p2⟩ := (ss_all fd.body).b Γ X EX sts c hc
  refine ⟨t, p1, p2 ⟨X.K, T, cls, Z, as, H⟩ rfl rfl rfl Z as (startS fd xs mu) (start Γ.N vs) H _ (st_start hk r h1 h2 h3) ?_⟩
  cases hr : ex cf G fd.body (startS fd xs mu) with
  | nx s' =>
    rw [hr] at hm
    intro σ' H' as' Z' t' f'
    exact hm .non H' as' t'.exit.1 t'.gw .non
  | rt v s' =>
    rw [hr] at hm
    intro w σ' H' as' Z' t' f' rw'
    exact hm w H' as' t'.exit.1 t'.gw (Rep.step t'.exit.2 t'.hz.nt rw')
  | exc c s' =>
    rw [hr] at hm
    intro σ' H' as' Z' t' f'
    exact hm H' as' t'.exit.1 t'.gw
  | no => rw [hr] at hm; exact hm
theorem vis_of {sc : Scope} {x : Str} (h : visK (sc.names.lookup x) = true) : Vis sc x := by
  unfold visK at h
  split at h
  · rename_i q; exact .inl q
  · rename_i q; exact .inr (.inl q)
  · rename_i q; exact .inr (.inr q)
  · cases h
section
variable {G : Gx} {info : List FnI} {T : List (Addr × Str)} {cls : Nat → Value} {cf : Nat → List PV → List MO → RC} {k : Nat} {P : Program} {w : World} {K : PySem.W.Frag} {mg : Str → Option Value} {base : Heap} {N ps : List Str} {qual : Str} {sc : Scope} {f : Addr} {cd : Value} {A : Around} {outer : List Env} {s : Shared} {H : Hp} {E : XK} {lam : Bool}
theorem mt_fn (S : FnScope N ps sc) {k : Nat} (hr : Room k (A.deeper (envOfC qual sc s.heap.objs.size f cd))) : MtG ⟨N, sc, [], lam⟩ (cxOf (L2N.CX P w) P w K mg base N qual sc f cd A outer s H E) where
  N := rfl
  nd := S.nd
  calm := rfl
  gl := fun x h => h
  vis := fun x h => vis_of h
  loc := fun x h => h
  cel := fun x h => ⟨h, rfl⟩
  fre := fun x h => .inr h
  units := hr.units
theorem ctx_fn (M : ModF G info T cls P w K mg base) (hf : ∀ (i : Nat) x n, G.fns[i]? = some (x, n) → ∃ f fd ps, mg x = some (.ref f) ∧ PySem.W.keepIn K (.ref f) = true ∧ FnOk P w K mg base (L2N.CX P w) k f fd ps (spOf K T cls cf i n) ∧ L2.Binds K fd ps [])
    (S : FnScope N ps sc) (hr : Room (k + 2) (A.deeper (envOfC qual sc s.heap.objs.size f cd))) (hlam : lam = true → ∃ c Pt, LamX.TabB base mg c Pt ∧ cd = .ref c ∧ (Pt, qual ++ ".<locals>." ++ "<lambda>") ∈ T ∧ ∀ p ∈ T, p.1 = Pt → p.2 = qual ++ ".<locals>." ++ "<lambda>") :
    CtxS G T cls cf k ⟨N, sc, [], lam⟩ (cxOf (L2N.CX P w) P w K mg base N qual sc f cd A outer s H E) E where
  c := { mt := mt_fn S hr
         room := hr.mono (by split <;> omega)
         calls := ⟨hf, M.glob, M.bi, M.ty, M.isi, M.rng, M.zip, M.enu, fun h x told hh => M.hand _ h x told hh⟩
         pass := L2N.passes_call (L2N.takes_of rfl rfl rfl rfl) (fun _ _ _ _ h => h)
         isx := fun n y b h => by cases h
         lam := fun h => by
           obtain ⟨c, Pt, l1, l2, l3, l4⟩ := hlam h
           have hq : (cxOf (L2N.CX P w) P w K mg base N qual sc f cd A outer s H E).env.qual = qual ++ ".<locals>." := rfl
           refine ⟨c, Pt, l1, l2, ?_, ?_⟩
           · rw [hq]; exact l3
           · rw [hq]; exact l4 }
  po := passes_of rfl
  tk := L2N.takes_of rfl rfl rfl rfl
  kind := S.kind
  err := M.err
end
theorem fns_ok {G : Gx} {tbl : List FnDef} {info : List FnI} {T : List (Addr × Str)} {cls : Nat → Value} {P : Program} {w : World} {K : PySem.W.Frag} {mg : Str → Option Value} {base : Heap} (hl : G.fns.length = info.length) (hc : chkAll G 0 info tbl = true) (M : ModF G info T cls P w K mg base) (d : Nat) : ∀ (i : Nat) I, info[i]? = some I →
    ∃ f fd, mg I.name = some (.ref f) ∧ PySem.W.keepIn K (.ref f) = true ∧ FnOk P w K mg base (L2N.CX P w) (3 * d) f fd I.ps (spOf K T cls (callD G tbl d) i I.ps.length) ∧ L2.Binds K fd I.ps [] ∧ FunD K I.name I.name (defArgs I.st) (defBody I.st) (defScope I.st) [] [] f fd := by
  induction d with
  | zero =>
    intro i I hI
    obtain ⟨f, fd, h1, h2, h3, _⟩ := M.fn i I hI
    refine ⟨f, fd, h1, h2.kp, ⟨fun vs H Q E h => ?_, fun A outer s H args us vs Q E _ _ _ _ h => ?_⟩, h3, h2⟩
    · obtain ⟨Z, as, mu, xs, _, _, _, h⟩ := h
      exact h.elim
    · obtain ⟨Z, as, mu, xs, _, _, _, h⟩ := h
      exact h.elim
  | succ d ih =>
    intro i I hI
    obtain ⟨f, fd, h1, F, h3, h4⟩ := M.fn i I hI
    obtain ⟨fD, q1, q2⟩ := (chkAll_ok hc i).1 I hI
    rw [Nat.zero_add] at q2
    unfold FnI.chk at q2
    simp only [Bool.and_eq_true, decide_eq_true_eq] at q2
    obtain ⟨q3, q4, q5, q6, q7⟩ := q2
    have S := scopeC_ok q6
    have hpl : I.ps.length ≤ I.N.length := by
      have := congrArg List.length S.pre; rw [List.length_take] at this; omega
    refine ⟨f, fd, h1, F.kp, ?_, h3, F⟩
    have len : ∀ vs H Q E, spOf K T cls (callD G tbl (d + 1)) i I.ps.length vs H Q E → vs.length = I.ps.length := fun vs H Q E h => by
      obtain ⟨Z, as, mu, xs, _, r, e, _⟩ := h
      rw [← r.length]; exact e
    have hcalls : ∀ (j : Nat) x n, G.fns[j]? = some (x, n) → ∃ f fd ps, mg x = some (.ref f) ∧ PySem.W.keepIn K (.ref f) = true ∧ FnOk P w K mg base (L2N.CX P w) (3 * d) f fd ps (spOf K T cls (callD G tbl d) j n) ∧ L2.Binds K fd ps [] := fun j x n hj => by
      have hlt : j < info.length := by rw [← hl]; exact (List.getElem?_eq_some_iff.mp hj).1
      have hJ := List.getElem?_eq_getElem hlt
      obtain ⟨f', fd', g1, g2, g3, g4, _⟩ := ih j _ hJ
      obtain ⟨fD', r1, r2⟩ := (chkAll_ok hc j).1 _ hJ
      rw [Nat.zero_add] at r2
      unfold FnI.chk at r2
      simp only [Bool.and_eq_true, decide_eq_true_eq] at r2
      have e2 := r2.1.symm.trans hj
      cases e2
      exact ⟨f', fd', _, g1, g2, g3, g4⟩
    obtain ⟨oc, od, dV, kV, doc, pm, an, cdv, ct, osl, rfl, lk, hcd, _, _⟩ := F.ex
    have hlam : I.lam = true → ∃ c Pt, LamX.TabB base mg c Pt ∧ cdv = .ref c ∧ (Pt, I.name ++ ".<locals>." ++ "<lambda>") ∈ T ∧ ∀ p ∈ T, p.1 = Pt → p.2 = I.name ++ ".<locals>." ++ "<lambda>" := fun h => by
      obtain ⟨c, Pt, l1, l2, l3, l4⟩ := h4 h
      exact ⟨c, Pt, l2, l1, l3, l4⟩
    refine fn_of (k := 3 * d + 2) lk hcd S len fun A outer s H vs Q E hr h => ?_
    obtain ⟨Z, as, mu, xs, hk, r, e, hm⟩ := h
    have hcall : callD G tbl (d + 1) i xs mu = (ex (callD G tbl d) G fD.body (startS fD xs mu)).done := by
      show (match tbl[i]? with
        | some fd => if xs.length = fd.nps then (ex (callD G tbl d) G fd.body (startS fd xs mu)).done else .no
        | none => .no) = _
      rw [q1]
      show (if xs.length = fD.nps then _ else _) = _
      rw [if_pos (by rw [q4]; exact e)]
    rw [hcall] at hm
    have C := ctx_fn (cf := callD G tbl d) (k := 3 * d) (lam := I.lam) (A := A) (outer := outer) (s := s) (H := H) (E := E) (f := f) M hcalls S hr hlam
    exact body_ok C q7 hk r (by rw [q4]; exact e) q5 (by rw [q4, q5]; exact hpl) hm
end AP

set_option Elab.async false
set_option linter.all false
set_option maxRecDepth 100000
set_option maxHeartbeats 4000000
set_option autoImplicit false
/-! AP18: the check, by one recursion that the kernel can run -/
namespace AP
open PySem PySem.Spec PyProof.Rows L2
structure CkR where
  e : Gam → Expr → Bool
  a : Gam → List Expr → Bool
  o : Gam → Option Expr → Bool
  c : Gam → List Expr → Bool
  i : Gam → Bool → Expr → Bool
abbrev CkR.mk1 (n : Bool) (e : Gam → Expr → Bool) : CkR := ⟨e, fun _ _ => false, fun Γ o => (match o with
    | some x => e Γ x
    | none => false), fun Γ es => (match es with
    | [x] => n && e Γ x
    | _ => false), fun Γ _ x => e Γ x⟩
def ckR (G : Gx) : AP.E → CkR
  | .non => .mk1 true fun Γ ex => (match ex with
    | .Constant .none _ _ => true
    | _ => false)
  | .bl b => .mk1 true fun Γ ex => (match ex with
    | .Constant (.bool c) _ _ => b == c
    | _ => false)
  | .int i => .mk1 true fun Γ ex => (match ex with
    | .Constant (.int j) _ _ => decide (i = j)
    | _ => false)
  | .str x => .mk1 true fun Γ ex => (match ex with
    | .Constant (.str y) _ _ => decide (x = y)
    | _ => false)
  | .var i => .mk1 true fun Γ ex => (match ex with
    | .Name x _ => isVar Γ i x
    | _ => false)
  | .glob g => .mk1 true fun Γ ex => (match ex with
    | .Name x _ => isGl Γ x && decide ((G.globs[g]?).map (·.1) = some x)
    | _ => false)
  | .bin o a b => .mk1 true fun Γ ex => (match ex with
    | .BinOp l op r _ => decide (op = o.op) && ((ckR G a).e Γ l && (ckR G b).e Γ r)
    | _ => false)
  | .neg a => .mk1 true fun Γ ex => (match ex with
    | .UnaryOp .USub e _ => (ckR G a).e Γ e
    | _ => false)
  | .cmp o a b => .mk1 true fun Γ ex => (match ex with
    | .Compare l [op] [r] _ => decide (op = o.op) && (noSet r && ((ckR G a).e Γ l && (ckR G b).e Γ r))
    | _ => false)
  | .chain o p a b c => .mk1 true fun Γ ex => (match ex with
    | .Compare l [op, op'] [m, r] _ => decide (op = o.op) && (decide (op' = p.op) && (noSet r && ((ckR G a).e Γ l && ((ckR G b).e Γ m && (ckR G c).e Γ r))))
    | _ => false)
  | .and_ a b => .mk1 true fun Γ ex => (match ex with
    | .BoolOp .And [x, y] _ => a.notIte && (b.notIte && ((ckR G a).e Γ x && (ckR G b).e Γ y))
    | .BoolOp .And (x :: y :: z :: rest) pos => a.notIte && (b.notIte && ((ckR G a).e Γ x && (ckR G b).e Γ (.BoolOp .And (y :: z :: rest) pos)))
    | _ => false)
  | .or_ a b => .mk1 true fun Γ ex => (match ex with
    | .BoolOp .Or [x, y] _ => a.notIte && (b.notIte && ((ckR G a).e Γ x && (ckR G b).e Γ y))
    | .BoolOp .Or (x :: y :: z :: rest) pos => a.notIte && (b.notIte && ((ckR G a).e Γ x && (ckR G b).e Γ (.BoolOp .Or (y :: z :: rest) pos)))
    | _ => false)
  | .not_ a => .mk1 true fun Γ ex => (match ex with
    | .UnaryOp .Not e _ => a.notIte && (ckR G a).e Γ e
    | _ => false)
  | .ite c a b => .mk1 false fun Γ ex => (match ex with
    | .IfExp t x y _ => c.notIte && ((ckR G c).e Γ t && ((ckR G a).e Γ x && (ckR G b).e Γ y))
    | _ => false)
  | .tup xs => .mk1 true fun Γ ex => (match ex with
    | .Tuple es _ _ => (ckR G xs).a Γ es
    | _ => false)
  | .lst xs => .mk1 true fun Γ ex => (match ex with
    | .List es _ => (ckR G xs).a Γ es
    | _ => false)
  | .idx a b => .mk1 true fun Γ ex => (match ex with
    | .Subscript l r _ => noSlice r && ((ckR G a).e Γ l && (ckR G b).e Γ r)
    | _ => false)
  | .slice a lo hi => .mk1 true fun Γ ex => (match ex with
    | .Subscript l (.Slice l' h' none _) _ => (ckR G a).e Γ l && ((ckR G lo).o Γ l' && (ckR G hi).o Γ h')
    | _ => false)
  | .rev a => .mk1 true fun Γ ex => (match ex with
    | .Subscript l (.Slice none none (some (.UnaryOp .USub (.Constant (.int i) _ _) _)) _) _ => decide (i = 1) && (ckR G a).e Γ l
    | _ => false)
  | .call f xs => .mk1 true fun Γ ex => (match ex with
    | .Call (.Name x _) (e :: es) [] _ => isGl Γ x && (decide (G.fns[f]? = some (x, xs.alen)) && (noStar e && (es.all noStar && (ckR G xs).a Γ (e :: es))))
    | _ => false)
  | .bi f xs => .mk1 true fun Γ ex => (match ex with
    | .Call (.Name x _) (e :: es) [] _ => isGl Γ x && (decide (x = Str.ofString f.nm) && (noStar e && (es.all noStar && (ckR G xs).a Γ (e :: es))))
    | _ => false)
  | .isi a t => .mk1 true fun Γ ex => (match ex with
    | .Call (.Name x _) [e, .Name y _] [] _ => isGl Γ x && (isGl Γ y && (decide (x = Str.ofString "isinstance") && (decide (y = Str.ofString t.nm) && (noStar e && (ckR G a).e Γ e))))
    | _ => false)
  | .meth m a b => .mk1 true fun Γ ex => (match ex with
    | .Call (.Attribute o x apos) [e] [] pos => decide (x = m.nm) && (noCall0 o && ((apos.endLine == pos.line) && (noStar e && ((ckR G a).e Γ o && (ckR G b).e Γ e))))
    | _ => false)
  | .pop0 i => .mk1 true fun Γ ex => (match ex with
    | .Call (.Attribute (.Name x _) y apos) [.Constant (.int j) _ _] [] pos => isVar Γ i x && (decide (y = Str.ofString "pop") && (decide (j = 0) && (apos.endLine == pos.line)))
    | _ => false)
  | .lc elt p it cond => .mk1 true fun Γ ex => (match ex with
    | .ListComp e [⟨tg, iter, ifs, a⟩] scope _ => decide (a = 0) && (blkC Γ.N Γ.sc scope (ownsOf Γ.N p.slots) && (noSet iter && ((ckR G it).i Γ (isTupE tg) iter &&
      (chkP ⟨Γ.N, scope, [], false⟩ p tg && ((ckR G cond).c ⟨Γ.N, scope, [], false⟩ ifs && (ckR G elt).e ⟨Γ.N, scope, [], false⟩ e)))))
    | _ => false)
  | .isx n => .mk1 true fun Γ ex => (match ex with
    | .Call (.Name f _) [.Name e _, .Name y _] [] _ => decide (f = Str.ofString "isinstance") && (decide (Γ.N[0]? = some e) && decide (Γ.isx[n]? = some y))
    | _ => false)
  | .lam h e => .mk1 true fun Γ ex => (match ex with
    | .Call (.Name x _) [.Lambda ⟨[], [], none, [], [], none, []⟩ body scope _] [] _ => Γ.lam && (isGl Γ x && (decide ((G.hs[h]?).map (·.1) = some x) && (LamX.lamSB Γ.sc scope && (ckR G e).e ⟨Γ.N, scope, [], false⟩ body)))
    | _ => false)
  | .nil => ⟨fun _ _ => false, fun _ es => es.isEmpty, fun _ _ => false, fun _ _ => false, fun _ _ _ => false⟩
  | .cons a xs => ⟨fun _ _ => false, fun Γ es => (match es with
    | e :: es => noStar e && ((ckR G a).e Γ e && (ckR G xs).a Γ es)
    | [] => false), fun _ _ => false, fun _ _ => false, fun _ _ _ => false⟩
  | .omit => ⟨fun _ _ => false, fun _ _ => false, fun _ o => o.isNone, fun _ es => es.isEmpty, fun _ _ _ => false⟩
  | .range1 a => ⟨fun _ _ => false, fun _ _ => false, fun _ _ => false, fun _ _ => false, fun Γ _ ex => (match ex with
    | .Call (.Name x _) [e] [] _ => isGl Γ x && (decide (x = Str.ofString "range") && (noStar e && (ckR G a).e Γ e))
    | _ => false)⟩
  | .range2 a b => ⟨fun _ _ => false, fun _ _ => false, fun _ _ => false, fun _ _ => false, fun Γ _ ex => (match ex with
    | .Call (.Name x _) [e, e'] [] _ => isGl Γ x && (decide (x = Str.ofString "range") && (noStar e && (noStar e' && ((ckR G a).e Γ e && (ckR G b).e Γ e'))))
    | _ => false)⟩
  | .zip a b => ⟨fun _ _ => false, fun _ _ => false, fun _ _ => false, fun _ _ => false, fun Γ t ex => (match ex with
    | .Call (.Name x _) [e, e'] [] _ => t && (isGl Γ x && (decide (x = Str.ofString "zip") && (noStar e && (noStar e' && ((ckR G a).e Γ e && (ckR G b).e Γ e')))))
    | _ => false)⟩
  | .enum a => ⟨fun _ _ => false, fun _ _ => false, fun _ _ => false, fun _ _ => false, fun Γ t ex => (match ex with
    | .Call (.Name x _) [e] [] _ => t && (isGl Γ x && (decide (x = Str.ofString "enumerate") && (noStar e && (ckR G a).e Γ e)))
    | _ => false)⟩
structure CkEq (G : Gx) (z : AP.E) : Prop where
  e : (ckR G z).e = chkE G z
  a : (ckR G z).a = chkA G z
  o : (ckR G z).o = chkO G z
  c : (ckR G z).c = chkC G z
  i : (ckR G z).i = chkI G z
theorem ckEq1 {G : Gx} {z : AP.E} (n : Bool) (h : ckR G z = .mk1 n (chkE G z)) (ha : ∀ Γ es, chkA G z Γ es = false := by intros; unfold chkA; rfl) (h1 : ∀ Γ o, chkO G z Γ o = (match o with
    | some x => chkE G z Γ x
    | none => false) := by intro _ o; unfold chkO; cases o <;> rfl) (h3 : ∀ Γ es, chkC G z Γ es = (match es with
    | [x] => n && chkE G z Γ x
    | _ => false) := by intros; unfold chkC; rfl) (h5 : ∀ Γ b x, chkI G z Γ b x = chkE G z Γ x := by intros; unfold chkI; rfl) : CkEq G z :=
  ⟨by rw [h], by rw [h]; funext Γ es; exact (ha Γ es).symm, by rw [h]; funext Γ o; exact (h1 Γ o).symm, by rw [h]; funext Γ es; exact (h3 Γ es).symm, by rw [h]; funext Γ b x; exact (h5 Γ b x).symm⟩
theorem ckEq (G : Gx) : ∀ z : AP.E, CkEq G z
  | .non => ckEq1 true (by unfold ckR; congr 1; funext Γ ex; unfold chkE; (skip) <;> rfl)
  | .bl b => ckEq1 true (by unfold ckR; congr 1; funext Γ ex; unfold chkE; (skip) <;> rfl)
  | .int i => ckEq1 true (by unfold ckR; congr 1; funext Γ ex; unfold chkE; (skip) <;> rfl)
  | .str x => ckEq1 true (by unfold ckR; congr 1; funext Γ ex; unfold chkE; (skip) <;> rfl)
  | .var i => ckEq1 true (by unfold ckR; congr 1; funext Γ ex; unfold chkE; (skip) <;> rfl)
  | .glob g => ckEq1 true (by unfold ckR; congr 1; funext Γ ex; unfold chkE; (skip) <;> rfl)
  | .bin o a b => ckEq1 true (by unfold ckR; congr 1; funext Γ ex; unfold chkE; ((try rw [(ckEq G a).e]) <;> (try rw [(ckEq G a).a]) <;> (try rw [(ckEq G a).o]) <;> (try rw [(ckEq G a).c]) <;> (try rw [(ckEq G a).i]) <;> (try rw [(ckEq G b).e]) <;> (try rw [(ckEq G b).a]) <;> (try rw [(ckEq G b).o]) <;> (try rw [(ckEq G b).c]) <;> (try rw [(ckEq G b).i])) <;> rfl)
  | .neg a => ckEq1 true (by unfold ckR; congr 1; funext Γ ex; unfold chkE; ((try rw [(ckEq G a).e]) <;> (try rw [(ckEq G a).a]) <;> (try rw [(ckEq G a).o]) <;> (try rw [(ckEq G a).c]) <;> (try rw [(ckEq G a).i])) <;> rfl)
  | .cmp o a b => ckEq1 true (by unfold ckR; congr 1; funext Γ ex; unfold chkE; ((try rw [(ckEq G a).e]) <;> (try rw [(ckEq G a).a]) <;> (try rw [(ckEq G a).o]) <;> (try rw [(ckEq G a).c]) <;> (try rw [(ckEq G a).i]) <;> (try rw [(ckEq G b).e]) <;> (try rw [(ckEq G b).a]) <;> (try rw [(ckEq G b).o]) <;> (try rw [(ckEq G b).c]) <;> (try rw [(ckEq G b).i])) <;> rfl)
  | .chain o p a b c => ckEq1 true (by unfold ckR; congr 1; funext Γ ex; unfold chkE; ((try rw [(ckEq G a).e]) <;> (try rw [(ckEq G a).a]) <;> (try rw [(ckEq G a).o]) <;> (try rw [(ckEq G a).c]) <;> (try rw [(ckEq G a).i]) <;> (try rw [(ckEq G b).e]) <;> (try rw [(ckEq G b).a]) <;> (try rw [(ckEq G b).o]) <;> (try rw [(ckEq G b).c]) <;> (try rw [(ckEq G b).i]) <;> (try rw [(ckEq G c).e]) <;> (try rw [(ckEq G c).a]) <;> (try rw [(ckEq G c).o]) <;> (try rw [(ckEq G c).c]) <;> (try rw [(ckEq G c).i])) <;> rfl)
  | .and_ a b => ckEq1 true (by unfold ckR; congr 1; funext Γ ex; unfold chkE; ((try rw [(ckEq G a).e]) <;> (try rw [(ckEq G a).a]) <;> (try rw [(ckEq G a).o]) <;> (try rw [(ckEq G a).c]) <;> (try rw [(ckEq G a).i]) <;> (try rw [(ckEq G b).e]) <;> (try rw [(ckEq G b).a]) <;> (try rw [(ckEq G b).o]) <;> (try rw [(ckEq G b).c]) <;> (try rw [(ckEq G b).i])) <;> rfl)
  | .or_ a b => ckEq1 true (by unfold ckR; congr 1; funext Γ ex; unfold chkE; ((try rw [(ckEq G a).e]) <;> (try rw [(ckEq G a).a]) <;> (try rw [(ckEq G a).o]) <;> (try rw [(ckEq G a).c]) <;> (try rw [(ckEq G a).i]) <;> (try rw [(ckEq G b).e]) <;> (try rw [(ckEq G b).a]) <;> (try rw [(ckEq G b).o]) <;> (try rw [(ckEq G b).c]) <;> (try rw [(ckEq G b).i])) <;> rfl)
  | .not_ a => ckEq1 true (by unfold ckR; congr 1; funext Γ ex; unfold chkE; ((try rw [(ckEq G a).e]) <;> (try rw [(ckEq G a).a]) <;> (try rw [(ckEq G a).o]) <;> (try rw [(ckEq G a).c]) <;> (try rw [(ckEq G a).i])) <;> rfl)
  | .ite c a b => ckEq1 false (by unfold ckR; congr 1; funext Γ ex; unfold chkE; ((try rw [(ckEq G c).e]) <;> (try rw [(ckEq G c).a]) <;> (try rw [(ckEq G c).o]) <;> (try rw [(ckEq G c).c]) <;> (try rw [(ckEq G c).i]) <;> (try rw [(ckEq G a).e]) <;> (try rw [(ckEq G a).a]) <;> (try rw [(ckEq G a).o]) <;> (try rw [(ckEq G a).c]) <;> (try rw [(ckEq G a).i]) <;> (try rw [(ckEq G b).e]) <;> (try rw [(ckEq G b).a]) <;> (try rw [(ckEq G b).o]) <;> (try rw [(ckEq G b).c]) <;> (try rw [(ckEq G b).i])) <;> rfl)
  | .tup xs => ckEq1 true (by unfold ckR; congr 1; funext Γ ex; unfold chkE; ((try rw [(ckEq G xs).e]) <;> (try rw [(ckEq G xs).a]) <;> (try rw [(ckEq G xs).o]) <;> (try rw [(ckEq G xs).c]) <;> (try rw [(ckEq G xs).i])) <;> rfl)
  | .lst xs => ckEq1 true (by unfold ckR; congr 1; funext Γ ex; unfold chkE; ((try rw [(ckEq G xs).e]) <;> (try rw [(ckEq G xs).a]) <;> (try rw [(ckEq G xs).o]) <;> (try rw [(ckEq G xs).c]) <;> (try rw [(ckEq G xs).i])) <;> rfl)
  | .idx a b => ckEq1 true (by unfold ckR; congr 1; funext Γ ex; unfold chkE; ((try rw [(ckEq G a).e]) <;> (try rw [(ckEq G a).a]) <;> (try rw [(ckEq G a).o]) <;> (try rw [(ckEq G a).c]) <;> (try rw [(ckEq G a).i]) <;> (try rw [(ckEq G b).e]) <;> (try rw [(ckEq G b).a]) <;> (try rw [(ckEq G b).o]) <;> (try rw [(ckEq G b).c]) <;> (try rw [(ckEq G b).i])) <;> rfl)
  | .slice a lo hi => ckEq1 true (by unfold ckR; congr 1; funext Γ ex; unfold chkE; ((try rw [(ckEq G a).e]) <;> (try rw [(ckEq G a).a]) <;> (try rw [(ckEq G a).o]) <;> (try rw [(ckEq G a).c]) <;> (try rw [(ckEq G a).i]) <;> (try rw [(ckEq G lo).e]) <;> (try rw [(ckEq G lo).a]) <;> (try rw [(ckEq G lo).o]) <;> (try rw [(ckEq G lo).c]) <;> (try rw [(ckEq G lo).i]) <;> (try rw [(ckEq G hi).e]) <;> (try rw [(ckEq G hi).a]) <;> (try rw [(ckEq G hi).o]) <;> (try rw [(ckEq G hi).c]) <;> (try rw [(ckEq G hi).i])) <;> rfl)
  | .rev a => ckEq1 true (by unfold ckR; congr 1; funext Γ ex; unfold chkE; ((try rw [(ckEq G a).e]) <;> (try rw [(ckEq G a).a]) <;> (try rw [(ckEq G a).o]) <;> (try rw [(ckEq G a).c]) <;> (try rw [(ckEq G a).i])) <;> rfl)
  | .call f xs => ckEq1 true (by unfold ckR; congr 1; funext Γ ex; unfold chkE; ((try rw [(ckEq G xs).e]) <;> (try rw [(ckEq G xs).a]) <;> (try rw [(ckEq G xs).o]) <;> (try rw [(ckEq G xs).c]) <;> (try rw [(ckEq G xs).i])) <;> rfl)
  | .bi f xs => ckEq1 true (by unfold ckR; congr 1; funext Γ ex; unfold chkE; ((try rw [(ckEq G xs).e]) <;> (try rw [(ckEq G xs).a]) <;> (try rw [(ckEq G xs).o]) <;> (try rw [(ckEq G xs).c]) <;> (try rw [(ckEq G xs).i])) <;> rfl)
  | .isi a t => ckEq1 true (by unfold ckR; congr 1; funext Γ ex; unfold chkE; ((try rw [(ckEq G a).e]) <;> (try rw [(ckEq G a).a]) <;> (try rw [(ckEq G a).o]) <;> (try rw [(ckEq G a).c]) <;> (try rw [(ckEq G a).i])) <;> rfl)
  | .meth m a b => ckEq1 true (by unfold ckR; congr 1; funext Γ ex; unfold chkE; ((try rw [(ckEq G a).e]) <;> (try rw [(ckEq G a).a]) <;> (try rw [(ckEq G a).o]) <;> (try rw [(ckEq G a).c]) <;> (try rw [(ckEq G a).i]) <;> (try rw [(ckEq G b).e]) <;> (try rw [(ckEq G b).a]) <;> (try rw [(ckEq G b).o]) <;> (try rw [(ckEq G b).c]) <;> (try rw [(ckEq G b).i])) <;> rfl)
  | .pop0 i => ckEq1 true (by unfold ckR; congr 1; funext Γ ex; unfold chkE; (skip) <;> rfl)
  | .lc elt p it cond => ckEq1 true (by unfold ckR; congr 1; funext Γ ex; unfold chkE; ((try rw [(ckEq G elt).e]) <;> (try rw [(ckEq G elt).a]) <;> (try rw [(ckEq G elt).o]) <;> (try rw [(ckEq G elt).c]) <;> (try rw [(ckEq G elt).i]) <;> (try rw [(ckEq G it).e]) <;> (try rw [(ckEq G it).a]) <;> (try rw [(ckEq G it).o]) <;> (try rw [(ckEq G it).c]) <;> (try rw [(ckEq G it).i]) <;> (try rw [(ckEq G cond).e]) <;> (try rw [(ckEq G cond).a]) <;> (try rw [(ckEq G cond).o]) <;> (try rw [(ckEq G cond).c]) <;> (try rw [(ckEq G cond).i])) <;> rfl)
  | .isx n => ckEq1 true (by unfold ckR; congr 1; funext Γ ex; unfold chkE; (skip) <;> rfl)
  | .lam h e => ckEq1 true (by unfold ckR; congr 1; funext Γ ex; unfold chkE; ((try rw [(ckEq G e).e]) <;> (try rw [(ckEq G e).a]) <;> (try rw [(ckEq G e).o]) <;> (try rw [(ckEq G e).c]) <;> (try rw [(ckEq G e).i])) <;> rfl)
  | .nil => ⟨by funext Γ ex; unfold ckR chkE; rfl, by funext Γ ex; unfold ckR chkA; rfl, by funext Γ ex; unfold ckR chkO; cases ex <;> (try unfold chkE) <;> rfl, by funext Γ ex; unfold ckR chkC; split <;> (try unfold chkE) <;> simp, by funext Γ bb ex; unfold ckR chkI chkE; rfl⟩
  | .cons a xs => ⟨by funext Γ ex; unfold ckR chkE; rfl, by funext Γ ex; unfold ckR chkA; (try rw [(ckEq G a).e, (ckEq G xs).a]) <;> rfl, by funext Γ ex; unfold ckR chkO; cases ex <;> (try unfold chkE) <;> rfl, by funext Γ ex; unfold ckR chkC; split <;> (try unfold chkE) <;> simp, by funext Γ bb ex; unfold ckR chkI chkE; rfl⟩
  | .omit => ⟨by funext Γ ex; unfold ckR chkE; rfl, by funext Γ ex; unfold ckR chkA; rfl, by funext Γ ex; unfold ckR chkO; rfl, by funext Γ ex; unfold ckR chkC; rfl, by funext Γ bb ex; unfold ckR chkI chkE; rfl⟩
  | .range1 a => ⟨by funext Γ ex; unfold ckR chkE; rfl, by funext Γ ex; unfold ckR chkA; rfl, by funext Γ ex; unfold ckR chkO; cases ex <;> (try unfold chkE) <;> rfl, by funext Γ ex; unfold ckR chkC; split <;> (try unfold chkE) <;> simp, by funext Γ bb ex; unfold ckR chkI; ((try rw [(ckEq G a).e])) <;> rfl⟩
  | .range2 a b => ⟨by funext Γ ex; unfold ckR chkE; rfl, by funext Γ ex; unfold ckR chkA; rfl, by funext Γ ex; unfold ckR chkO; cases ex <;> (try unfold chkE) <;> rfl, by funext Γ ex; unfold ckR chkC; split <;> (try unfold chkE) <;> simp, by funext Γ bb ex; unfold ckR chkI; ((try rw [(ckEq G a).e]) <;> (try rw [(ckEq G b).e])) <;> rfl⟩
  | .zip a b => ⟨by funext Γ ex; unfold ckR chkE; rfl, by funext Γ ex; unfold ckR chkA; rfl, by funext Γ ex; unfold ckR chkO; cases ex <;> (try unfold chkE) <;> rfl, by funext Γ ex; unfold ckR chkC; split <;> (try unfold chkE) <;> simp, by funext Γ bb ex; unfold ckR chkI; ((try rw [(ckEq G a).e]) <;> (try rw [(ckEq G b).e])) <;> rfl⟩
  | .enum a => ⟨by funext Γ ex; unfold ckR chkE; rfl, by funext Γ ex; unfold ckR chkA; rfl, by funext Γ ex; unfold ckR chkO; cases ex <;> (try unfold chkE) <;> rfl, by funext Γ ex; unfold ckR chkC; split <;> (try unfold chkE) <;> simp, by funext Γ bb ex; unfold ckR chkI; ((try rw [(ckEq G a).e])) <;> rfl⟩
def freshR (G : Gx) (a : AP.E) (Γ : Gam) (ex : Expr) : Bool := match a, ex with
  | .lst xs, .List es _ => (ckR G xs).a Γ es
  | _, _ => false
theorem freshR_eq (G : Gx) (a : AP.E) : freshR G a = freshE G a := by
  funext Γ ex
  unfold freshR freshE
  split
  · rw [(ckEq G _).a]
  · rename_i h
    first
      | rfl
      | (split
         · exact absurd rfl (h _ _ _ rfl)
         · rfl)
structure CkS where
  s : Gam → Stmt → Bool
  b : Gam → List Stmt → Bool
abbrev CkS.mk1 (s : Gam → Stmt → Bool) : CkS := ⟨s, fun _ _ => false⟩
def ckS (G : Gx) : C → CkS
  | .skip => ⟨fun Γ st => (match st with
    | .Pass _ => true
    | _ => false), fun _ sts => sts.isEmpty⟩
  | .asg i e => .mk1 fun Γ st => (match st with
    | .Assign [.Name x _] ex _ => isSt Γ i x && (noComp ex && (ckR G e).e Γ ex)
    | _ => false)
  | .own i e => .mk1 fun Γ st => (match st with
    | .Assign [.Name x _] ex _ => isSt Γ i x && (noComp ex && freshR G e Γ ex)
    | _ => false)
  | .obj i e => .mk1 fun Γ st => (match st with
    | .Assign [.Name x _] ex _ => isSt Γ i x && (noComp ex && freshR G e Γ ex)
    | _ => false)
  | .pat p e => .mk1 fun Γ st => (match st with
    | .Assign [tg] ex _ => chkP Γ p tg && (ordOk Γ tg ex && (noComp ex && (ckR G e).e Γ ex))
    | _ => false)
  | .par2 i j a b => .mk1 fun Γ st => (match st with
    | .Assign [.Tuple [.Name x px, .Name y py] kt pt] (.Tuple [e1, e2] k2 pt2) _ => parOk Γ (.Tuple [.Name x px, .Name y py] kt pt) (.Tuple [e1, e2] k2 pt2) && (decide (Γ.N[i]? = some x) && (decide (Γ.N[j]? = some y) && ((ckR G a).e Γ e1 && (ckR G b).e Γ e2)))
    | _ => false)
  | .expr e => .mk1 fun Γ st => (match st with
    | .Expr ex _ => noComp ex && (ckR G e).e Γ ex
    | _ => false)
  | .app i e => .mk1 fun Γ st => (match st with
    | .Expr (.Call (.Attribute (.Name x _) y apos) [ex] [] pos) _ => isVar Γ i x && (decide (y = Str.ofString "append") && ((apos.endLine == pos.line) && (noStar ex && (ckR G e).e Γ ex)))
    | _ => false)
  | .seti i ix e => .mk1 fun Γ st => (match st with
    | .Assign [.Subscript (.Name x _) ie _] ex _ => isVar Γ i x && (noSlice ie && (noComp ex && ((ckR G ix).e Γ ie && (ckR G e).e Γ ex)))
    | _ => false)
  | .ret e => .mk1 fun Γ st => (match st with
    | .Return (some ex) _ => (ckR G e).e Γ ex
    | _ => false)
  | .ite c a b => .mk1 fun Γ st => (match st with
    | .If t x y _ => c.notIte && ((ckR G c).e Γ t && ((ckS G a).b Γ x && (ckS G b).b Γ y))
    | _ => false)
  | .whl _ c b => .mk1 fun Γ st => (match st with
    | .While t x [] _ => c.notIte && ((ckR G c).e Γ t && (ckS G b).b Γ x)
    | _ => false)
  | .for_ p it b => .mk1 fun Γ st => (match st with
    | .For tg iter x [] _ => noSet iter && (chkP Γ p tg && ((ckR G it).i Γ (isTupE tg) iter && (ckS G b).b Γ x))
    | _ => false)
  | .raise c => .mk1 fun Γ st => (match st with
    | .Raise (some (.Call (.Name x _) [.Constant (.str _) _ _] [] _)) none _ => isGl Γ x && decide (G.errs[c]? = some x)
    | _ => false)
  | .seq a b => ⟨fun _ _ => false, fun Γ sts => (match sts with
    | st :: rest => (ckS G a).s Γ st && (ckS G b).b Γ rest
    | [] => false)⟩
structure CsEq (G : Gx) (z : C) : Prop where
  s : (ckS G z).s = chk1 G z
  b : (ckS G z).b = chkS G z
theorem csEq (G : Gx) : ∀ z : C, CsEq G z
  | .skip => ⟨by funext Γ st; unfold ckS chk1; rfl, by funext Γ st; unfold ckS chkS; rfl⟩
  | .seq a b => ⟨by funext Γ st; unfold ckS chk1; rfl, by funext Γ st; unfold ckS chkS; (try rw [(csEq G a).s, (csEq G b).b]) <;> rfl⟩
  | .asg i e => ⟨by funext Γ st; unfold ckS chk1; ((try rw [(ckEq G e).e]) <;> (try rw [(ckEq G e).i]) <;> (try rw [freshR_eq G e])) <;> rfl, by funext Γ st; unfold ckS chkS; rfl⟩
  | .own i e => ⟨by funext Γ st; unfold ckS chk1; ((try rw [(ckEq G e).e]) <;> (try rw [(ckEq G e).i]) <;> (try rw [freshR_eq G e])) <;> rfl, by funext Γ st; unfold ckS chkS; rfl⟩
  | .obj i e => ⟨by funext Γ st; unfold ckS chk1; ((try rw [(ckEq G e).e]) <;> (try rw [(ckEq G e).i]) <;> (try rw [freshR_eq G e])) <;> rfl, by funext Γ st; unfold ckS chkS; rfl⟩
  | .pat p e => ⟨by funext Γ st; unfold ckS chk1; ((try rw [(ckEq G e).e]) <;> (try rw [(ckEq G e).i]) <;> (try rw [freshR_eq G e])) <;> rfl, by funext Γ st; unfold ckS chkS; rfl⟩
  | .par2 i j a b => ⟨by funext Γ st; unfold ckS chk1; ((try rw [(ckEq G a).e]) <;> (try rw [(ckEq G a).i]) <;> (try rw [(ckEq G b).e]) <;> (try rw [(ckEq G b).i]) <;> (try rw [freshR_eq G a]) <;> (try rw [freshR_eq G b])) <;> rfl, by funext Γ st; unfold ckS chkS; rfl⟩
  | .expr e => ⟨by funext Γ st; unfold ckS chk1; ((try rw [(ckEq G e).e]) <;> (try rw [(ckEq G e).i]) <;> (try rw [freshR_eq G e])) <;> rfl, by funext Γ st; unfold ckS chkS; rfl⟩
  | .app i e => ⟨by funext Γ st; unfold ckS chk1; ((try rw [(ckEq G e).e]) <;> (try rw [(ckEq G e).i]) <;> (try rw [freshR_eq G e])) <;> rfl, by funext Γ st; unfold ckS chkS; rfl⟩
  | .seti i ix e => ⟨by funext Γ st; unfold ckS chk1; ((try rw [(ckEq G ix).e]) <;> (try rw [(ckEq G ix).i]) <;> (try rw [(ckEq G e).e]) <;> (try rw [(ckEq G e).i]) <;> (try rw [freshR_eq G ix]) <;> (try rw [freshR_eq G e])) <;> rfl, by funext Γ st; unfold ckS chkS; rfl⟩
  | .ret e => ⟨by funext Γ st; unfold ckS chk1; ((try rw [(ckEq G e).e]) <;> (try rw [(ckEq G e).i]) <;> (try rw [freshR_eq G e])) <;> rfl, by funext Γ st; unfold ckS chkS; rfl⟩
  | .ite c a b => ⟨by funext Γ st; unfold ckS chk1; ((try rw [(ckEq G c).e]) <;> (try rw [(ckEq G c).i]) <;> (try rw [freshR_eq G c]) <;> (try rw [(csEq G a).b]) <;> (try rw [(csEq G b).b])) <;> rfl, by funext Γ st; unfold ckS chkS; rfl⟩
  | .whl m c b => ⟨by funext Γ st; unfold ckS chk1; ((try rw [(ckEq G c).e]) <;> (try rw [(ckEq G c).i]) <;> (try rw [freshR_eq G c]) <;> (try rw [(csEq G b).b])) <;> rfl, by funext Γ st; unfold ckS chkS; rfl⟩
  | .for_ p it b => ⟨by funext Γ st; unfold ckS chk1; ((try rw [(ckEq G it).e]) <;> (try rw [(ckEq G it).i]) <;> (try rw [freshR_eq G it]) <;> (try rw [(csEq G b).b])) <;> rfl, by funext Γ st; unfold ckS chkS; rfl⟩
  | .raise c => ⟨by funext Γ st; unfold ckS chk1; (skip) <;> rfl, by funext Γ st; unfold ckS chkS; rfl⟩
def FnI.ck (G : Gx) (i : Nat) (I : FnI) (fd : FnDef) : Bool := decide (G.fns[i]? = some (I.name, I.ps.length)) && (decide (fd.nps = I.ps.length) && (decide (fd.nsl = I.N.length) && (scopeC I.N I.ps (defScope I.st) && (ckS G fd.body).b ⟨I.N, defScope I.st, [], I.lam⟩ (defBody I.st))))
def ckAll (G : Gx) : Nat → List FnI → List FnDef → Bool
  | _, [], [] => true
  | i, I :: is, fd :: fds => I.ck G i fd && ckAll G (i + 1) is fds
  | _, _, _ => false
theorem ckAll_ok {G : Gx} : ∀ {i : Nat} {is : List FnI} {fds : List FnDef}, ckAll G i is fds = true → chkAll G i is fds = true
  | _, [], [], _ => rfl
  | i, I :: is, fd :: fds, h => by
    rw [ckAll, Bool.and_eq_true] at h
    rw [chkAll, Bool.and_eq_true]
    refine ⟨?_, ckAll_ok h.2⟩
    have := h.1
    unfold FnI.ck at this
    rw [(csEq G fd.body).b] at this
    exact this
  | _, [], _ :: _, h => by simp [ckAll] at h
  | _, _ :: _, [], h => by simp [ckAll] at h
end AP

set_option Elab.async false
set_option linter.all false
set_option maxRecDepth 100000
set_option maxHeartbeats 4000000
set_option autoImplicit false
/-! AP19: the small language, by one recursion that the kernel can run -/
namespace AP
open PySem PySem.Spec PyProof.Rows L2
structure EvK where
  e : S → R PV
  a : S → R (List PV)
  p : S → R (Option Int)
  c : S → R Bool
  i : S → R (List PV)
abbrev EvK.mk1 (e : S → R PV) : EvK := ⟨e, fun _ => .no, fun s => (e s).bind fun v s1 => (match v with
    | .int i => .ok (some i) s1
    | _ => .no), fun s => (e s).bind asBool, fun s => (e s).bind fun v s1 => (match seqItems v with
    | some xs => if xs.length ≤ lim then .ok xs s1 else .no
    | none => .no)⟩
abbrev EvK.none_ : EvK := ⟨fun _ => .no, fun _ => .no, fun _ => .no, fun _ => .no, fun _ => .no⟩
def evK (cf : Nat → List PV → List MO → RC) (G : Gx) : AP.E → EvK
  | .non => .mk1 fun s => .ok .non s
  | .bl b => .mk1 fun s => .ok (.bl b) s
  | .int i => .mk1 fun s => .ok (.int i) s
  | .str x => .mk1 fun s => .ok (.str x) s
  | .var i => .mk1 fun s => (match s.sl[i]? with
    | some (.val v) => .ok v s
    | some (.own xs) => .ok (.lst xs) (s.set i (.val (.lst xs)))
    | _ => .no)
  | .glob g => .mk1 fun s => (match G.globs[g]? with
    | some p => .ok p.2 s
    | none => .no)
  | .bin o a b => .mk1 fun s => two (opd a ((evK cf G a).e)) (opd b ((evK cf G b).e)) (opBin o) s
  | .neg a => .mk1 fun s => one (opd a ((evK cf G a).e)) (fun | .int i => some (.int (-i)) | _ => none) s
  | .cmp o a b => .mk1 fun s => two (opd a ((evK cf G a).e)) (opd b ((evK cf G b).e)) (fun p q => (opCmp o p q).map .bl) s
  | .chain o p a b c => .mk1 fun s => ((evK cf G a).e s).bind fun x s1 => ((evK cf G b).e s1).bind fun y s2 => (match opCmp o x y with
    | some true => ((evK cf G c).e s2).bind fun z s3 => (match opCmp p y z with
      | some r => .ok (.bl r) s3
      | none => .no)
    | some false => .ok (.bl false) s2
    | none => .no)
  | .and_ a b => .mk1 fun s => ((evK cf G a).e s).bind fun x s1 => (match x with
    | .bl true => (evK cf G b).e s1
    | .bl false => .ok (.bl false) s1
    | _ => .no)
  | .or_ a b => .mk1 fun s => ((evK cf G a).e s).bind fun x s1 => (match x with
    | .bl true => .ok (.bl true) s1
    | .bl false => (evK cf G b).e s1
    | _ => .no)
  | .not_ a => .mk1 fun s => ((evK cf G a).e s).bind fun x s1 => (match x with
    | .bl b => .ok (.bl (!b)) s1
    | _ => .no)
  | .ite c a b => .mk1 fun s => ((evK cf G c).e s).bind fun x s1 => (match x with
    | .bl true => (evK cf G a).e s1
    | .bl false => (evK cf G b).e s1
    | _ => .no)
  | .tup xs => .mk1 fun s => ((evK cf G xs).a s).bind fun vs s1 => if vs.length ≤ lim then .ok (.tup vs) s1 else .no
  | .lst xs => .mk1 fun s => ((evK cf G xs).a s).bind fun vs s1 => if vs.length ≤ lim then .ok (.lst vs) s1 else .no
  | .idx a b => .mk1 fun s => two (opd a ((evK cf G a).e)) (opd b ((evK cf G b).e)) idxV s
  | .slice a lo hi => .mk1 fun s => (opd a ((evK cf G a).e) s).bind fun x s1 => ((evK cf G lo).p s1).bind fun l s2 => ((evK cf G hi).p s2).bind fun h s3 => (match s3.view x with
    | some p => (match sliceV l h p with
      | some r => .ok r s3
      | none => .no)
    | none => .no)
  | .rev a => .mk1 fun s => one (opd a ((evK cf G a).e)) revV s
  | .call f xs => .mk1 fun s => ((evK cf G xs).a s).bind fun vs s1 => callR cf f vs s1
  | .bi f xs => .mk1 fun s => (match xs with
    | .cons a .nil => one (opd a ((evK cf G a).e)) (fun p => biV f [p]) s
    | xs => ((evK cf G xs).a s).bind fun vs s1 => (match biV f vs with
      | some r => .ok r s1
      | none => .no))
  | .isi a t => .mk1 fun s => one (opd a ((evK cf G a).e)) (fun p => (p.isTy t).map .bl) s
  | .meth m a b => .mk1 fun s => ((evK cf G a).e s).bind fun x s1 => (match x with
    | .str z => one (opd b ((evK cf G b).e)) (fun q => mtV m (.str z) q) s1
    | _ => .no)
  | .pop0 i => .mk1 fun s => (match s.sl[i]? with
    | some (.val (.obj n)) => (match s.mu[n]? with
      | some (.lst (x :: xs)) => .ok x ⟨s.sl, s.mu.set n (.lst xs)⟩
      | _ => .no)
    | _ => .no)
  | .lc elt p it cond => .mk1 fun s => ((evK cf G it).i s).bind fun xs s1 => if notOwn s1.sl p.slots then
    (lcLoop (bindP p) p.slots ((evK cf G cond).c) ((evK cf G elt).e) xs (s1.wipe p.slots)).bind fun r s2 => .ok (.lst r) (restore s1.sl p.slots s2) else .no
  | .isx n => .mk1 fun s => (match G.isx[n]? with
    | some b => .ok (.bl b) s
    | none => .no)
  | .lam h e => .mk1 fun s => (match G.hs[h]? with
    | some p => (match (evK cf G e).e s with
      | .ok v s1 => .ok (hok p.2 v) s1
      | .exc c s1 => (match G.words[c]? with
        | some x => .ok (hexc p.2 x) s1
        | none => .no)
      | .no => .no)
    | none => .no)
  | .nil => { EvK.none_ with a := fun s => .ok [] s }
  | .cons a xs => { EvK.none_ with a := fun s => ((evK cf G a).e s).bind fun v s1 => ((evK cf G xs).a s1).bind fun vs s2 => .ok (v :: vs) s2 }
  | .omit => { EvK.none_ with p := fun s => .ok none s, c := fun s => .ok true s }
  | .range1 a => { EvK.none_ with i := fun s => ((evK cf G a).e s).bind fun v s1 => (match v with
    | .int n => if -lim ≤ n ∧ n ≤ lim then .ok (intL 0 n.toNat) s1 else .no
    | _ => .no) }
  | .range2 a b => { EvK.none_ with i := fun s => ((evK cf G a).e s).bind fun v s1 => ((evK cf G b).e s1).bind fun w s2 => (match v, w with
    | .int lo, .int hi => if -lim ≤ lo ∧ lo ≤ lim ∧ -lim ≤ hi ∧ hi ≤ lim then .ok (intL lo (hi - lo).toNat) s2 else .no
    | _, _ => .no) }
  | .zip a b => { EvK.none_ with i := fun s => ((evK cf G a).e s).bind fun v s1 => ((evK cf G b).e s1).bind fun w s2 => (match v, w with
    | .lst xs, .lst ys => if xs.length ≤ lim then .ok (zipL xs ys) s2 else .no
    | .tup xs, .tup ys => if xs.length ≤ lim then .ok (zipL xs ys) s2 else .no
    | _, _ => .no) }
  | .enum a => { EvK.none_ with i := fun s => ((evK cf G a).e s).bind fun v s1 => (match v with
    | .lst xs => if xs.length ≤ lim then .ok (enumL 0 xs) s1 else .no
    | _ => .no) }
structure EkEq (cf : Nat → List PV → List MO → RC) (G : Gx) (z : AP.E) : Prop where
  e : (evK cf G z).e = ev cf G z
  a : (evK cf G z).a = evs cf G z
  p : (evK cf G z).p = evp cf G z
  c : (evK cf G z).c = evc cf G z
  i : (evK cf G z).i = evi cf G z
section
variable {cf : Nat → List PV → List MO → RC} {G : Gx}
theorem ekEq1 {z : AP.E} (h : evK cf G z = .mk1 (ev cf G z)) (ha : ∀ s, evs cf G z s = .no := by intros; unfold evs; rfl) (h2 : ∀ s, evp cf G z s = (ev cf G z s).bind fun v s1 => (match v with
    | .int i => .ok (some i) s1
    | _ => .no) := by intros; unfold evp; rfl) (h4 : ∀ s, evc cf G z s = (ev cf G z s).bind asBool := by intros; unfold evc; rfl) (h6 : ∀ s, evi cf G z s = (ev cf G z s).bind fun v s1 => (match seqItems v with
    | some xs => if xs.length ≤ lim then .ok xs s1 else .no
    | none => .no) := by intros; unfold evi; rfl) : EkEq cf G z :=
  ⟨by rw [h], by rw [h]; funext s; exact (ha s).symm, by rw [h]; funext s; exact (h2 s).symm, by rw [h]; funext s; exact (h4 s).symm, by rw [h]; funext s; exact (h6 s).symm⟩
end
theorem ekEq (cf : Nat → List PV → List MO → RC) (G : Gx) : ∀ z : AP.E, EkEq cf G z
  | .non => ekEq1 (by
      have hs : ∀ s, (evK cf G (.non)).e s = ev cf G (.non) s := fun s => by unfold ev; rfl
      rw [← funext hs]; rw [evK])
  | .bl b => ekEq1 (by
      have hs : ∀ s, (evK cf G (.bl b)).e s = ev cf G (.bl b) s := fun s => by unfold ev; rfl
      rw [← funext hs]; rw [evK])
  | .int i => ekEq1 (by
      have hs : ∀ s, (evK cf G (.int i)).e s = ev cf G (.int i) s := fun s => by unfold ev; rfl
      rw [← funext hs]; rw [evK])
  | .str x => ekEq1 (by
      have hs : ∀ s, (evK cf G (.str x)).e s = ev cf G (.str x) s := fun s => by unfold ev; rfl
      rw [← funext hs]; rw [evK])
  | .var i => ekEq1 (by
      have hs : ∀ s, (evK cf G (.var i)).e s = ev cf G (.var i) s := fun s => by unfold ev; rfl
      rw [← funext hs]; rw [evK])
  | .glob g => ekEq1 (by
      have hs : ∀ s, (evK cf G (.glob g)).e s = ev cf G (.glob g) s := fun s => by unfold ev; rfl
      rw [← funext hs]; rw [evK])
  | .bin o a b => ekEq1 (by
      have hs : ∀ s, (evK cf G (.bin o a b)).e s = ev cf G (.bin o a b) s := fun s => by
        unfold ev
        rw [evK]
        ((try simp only [(ekEq cf G a).e]) <;> (try simp only [(ekEq cf G a).a]) <;> (try simp only [(ekEq cf G a).p]) <;> (try simp only [(ekEq cf G a).c]) <;> (try simp only [(ekEq cf G a).i]) <;> (try simp only [(ekEq cf G b).e]) <;> (try simp only [(ekEq cf G b).a]) <;> (try simp only [(ekEq cf G b).p]) <;> (try simp only [(ekEq cf G b).c]) <;> (try simp only [(ekEq cf G b).i])) <;> (try dsimp only) <;> (first | rfl | (cases ‹_› <;> rfl) | skip)
      rw [← funext hs]; rw [evK])
  | .neg a => ekEq1 (by
      have hs : ∀ s, (evK cf G (.neg a)).e s = ev cf G (.neg a) s := fun s => by
        unfold ev
        rw [evK]
        ((try simp only [(ekEq cf G a).e]) <;> (try simp only [(ekEq cf G a).a]) <;> (try simp only [(ekEq cf G a).p]) <;> (try simp only [(ekEq cf G a).c]) <;> (try simp only [(ekEq cf G a).i])) <;> (try dsimp only) <;> (first | rfl | (cases ‹_› <;> rfl) | skip)
      rw [← funext hs]; rw [evK])
  | .cmp o a b => ekEq1 (by
      have hs : ∀ s, (evK cf G (.cmp o a b)).e s = ev cf G (.cmp o a b) s := fun s => by
        unfold ev
        rw [evK]
        ((try simp only [(ekEq cf G a).e]) <;> (try simp only [(ekEq cf G a).a]) <;> (try simp only [(ekEq cf G a).p]) <;> (try simp only [(ekEq cf G a).c]) <;> (try simp only [(ekEq cf G a).i]) <;> (try simp only [(ekEq cf G b).e]) <;> (try simp only [(ekEq cf G b).a]) <;> (try simp only [(ekEq cf G b).p]) <;> (try simp only [(ekEq cf G b).c]) <;> (try simp only [(ekEq cf G b).i])) <;> (try dsimp only) <;> (first | rfl | (cases ‹_› <;> rfl) | skip)
      rw [← funext hs]; rw [evK])
  | .chain o p a b c => ekEq1 (by
      have hs : ∀ s, (evK cf G (.chain o p a b c)).e s = ev cf G (.chain o p a b c) s := fun s => by
        unfold ev
        rw [evK]
        ((try simp only [(ekEq cf G a).e]) <;> (try simp only [(ekEq cf G a).a]) <;> (try simp only [(ekEq cf G a).p]) <;> (try simp only [(ekEq cf G a).c]) <;> (try simp only [(ekEq cf G a).i]) <;> (try simp only [(ekEq cf G b).e]) <;> (try simp only [(ekEq cf G b).a]) <;> (try simp only [(ekEq cf G b).p]) <;> (try simp only [(ekEq cf G b).c]) <;> (try simp only [(ekEq cf G b).i]) <;> (try simp only [(ekEq cf G c).e]) <;> (try simp only [(ekEq cf G c).a]) <;> (try simp only [(ekEq cf G c).p]) <;> (try simp only [(ekEq cf G c).c]) <;> (try simp only [(ekEq cf G c).i])) <;> (try dsimp only) <;> (first | rfl | (cases ‹_› <;> rfl) | skip)
      rw [← funext hs]; rw [evK])
  | .and_ a b => ekEq1 (by
      have hs : ∀ s, (evK cf G (.and_ a b)).e s = ev cf G (.and_ a b) s := fun s => by
        unfold ev
        rw [evK]
        ((try simp only [(ekEq cf G a).e]) <;> (try simp only [(ekEq cf G a).a]) <;> (try simp only [(ekEq cf G a).p]) <;> (try simp only [(ekEq cf G a).c]) <;> (try simp only [(ekEq cf G a).i]) <;> (try simp only [(ekEq cf G b).e]) <;> (try simp only [(ekEq cf G b).a]) <;> (try simp only [(ekEq cf G b).p]) <;> (try simp only [(ekEq cf G b).c]) <;> (try simp only [(ekEq cf G b).i])) <;> (try dsimp only) <;> (first | rfl | (cases ‹_› <;> rfl) | skip)
      rw [← funext hs]; rw [evK])
  | .or_ a b => ekEq1 (by
      have hs : ∀ s, (evK cf G (.or_ a b)).e s = ev cf G (.or_ a b) s := fun s => by
        unfold ev
        rw [evK]
        ((try simp only [(ekEq cf G a).e]) <;> (try simp only [(ekEq cf G a).a]) <;> (try simp only [(ekEq cf G a).p]) <;> (try simp only [(ekEq cf G a).c]) <;> (try simp only [(ekEq cf G a).i]) <;> (try simp only [(ekEq cf G b).e]) <;> (try simp only [(ekEq cf G b).a]) <;> (try simp only [(ekEq cf G b).p]) <;> (try simp only [(ekEq cf G b).c]) <;> (try simp only [(ekEq cf G b).i])) <;> (try dsimp only) <;> (first | rfl | (cases ‹_› <;> rfl) | skip)
      rw [← funext hs]; rw [evK])
  | .not_ a => ekEq1 (by
      have hs : ∀ s, (evK cf G (.not_ a)).e s = ev cf G (.not_ a) s := fun s => by
        unfold ev
        rw [evK]
        ((try simp only [(ekEq cf G a).e]) <;> (try simp only [(ekEq cf G a).a]) <;> (try simp only [(ekEq cf G a).p]) <;> (try simp only [(ekEq cf G a).c]) <;> (try simp only [(ekEq cf G a).i])) <;> (try dsimp only) <;> (first | rfl | (cases ‹_› <;> rfl) | skip)
      rw [← funext hs]; rw [evK])
  | .ite c a b => ekEq1 (by
      have hs : ∀ s, (evK cf G (.ite c a b)).e s = ev cf G (.ite c a b) s := fun s => by
        unfold ev
        rw [evK]
        ((try simp only [(ekEq cf G c).e]) <;> (try simp only [(ekEq cf G c).a]) <;> (try simp only [(ekEq cf G c).p]) <;> (try simp only [(ekEq cf G c).c]) <;> (try simp only [(ekEq cf G c).i]) <;> (try simp only [(ekEq cf G a).e]) <;> (try simp only [(ekEq cf G a).a]) <;> (try simp only [(ekEq cf G a).p]) <;> (try simp only [(ekEq cf G a).c]) <;> (try simp only [(ekEq cf G a).i]) <;> (try simp only [(ekEq cf G b).e]) <;> (try simp only [(ekEq cf G b).a]) <;> (try simp only [(ekEq cf G b).p]) <;> (try simp only [(ekEq cf G b).c]) <;> (try simp only [(ekEq cf G b).i])) <;> (try dsimp only) <;> (first | rfl | (cases ‹_› <;> rfl) | skip)
      rw [← funext hs]; rw [evK])
  | .tup xs => ekEq1 (by
      have hs : ∀ s, (evK cf G (.tup xs)).e s = ev cf G (.tup xs) s := fun s => by
        unfold ev
        rw [evK]
        ((try simp only [(ekEq cf G xs).e]) <;> (try simp only [(ekEq cf G xs).a]) <;> (try simp only [(ekEq cf G xs).p]) <;> (try simp only [(ekEq cf G xs).c]) <;> (try simp only [(ekEq cf G xs).i])) <;> (try dsimp only) <;> (first | rfl | (cases ‹_› <;> rfl) | skip)
      rw [← funext hs]; rw [evK])
  | .lst xs => ekEq1 (by
      have hs : ∀ s, (evK cf G (.lst xs)).e s = ev cf G (.lst xs) s := fun s => by
        unfold ev
        rw [evK]
        ((try simp only [(ekEq cf G xs).e]) <;> (try simp only [(ekEq cf G xs).a]) <;> (try simp only [(ekEq cf G xs).p]) <;> (try simp only [(ekEq cf G xs).c]) <;> (try simp only [(ekEq cf G xs).i])) <;> (try dsimp only) <;> (first | rfl | (cases ‹_› <;> rfl) | skip)
      rw [← funext hs]; rw [evK])
  | .idx a b => ekEq1 (by
      have hs : ∀ s, (evK cf G (.idx a b)).e s = ev cf G (.idx a b) s := fun s => by
        unfold ev
        rw [evK]
        ((try simp only [(ekEq cf G a).e]) <;> (try simp only [(ekEq cf G a).a]) <;> (try simp only [(ekEq cf G a).p]) <;> (try simp only [(ekEq cf G a).c]) <;> (try simp only [(ekEq cf G a).i]) <;> (try simp only [(ekEq cf G b).e]) <;> (try simp only [(ekEq cf G b).a]) <;> (try simp only [(ekEq cf G b).p]) <;> (try simp only [(ekEq cf G b).c]) <;> (try simp only [(ekEq cf G b).i])) <;> (try dsimp only) <;> (first | rfl | (cases ‹_› <;> rfl) | skip)
      rw [← funext hs]; rw [evK])
  | .slice a lo hi => ekEq1 (by
      have hs : ∀ s, (evK cf G (.slice a lo hi)).e s = ev cf G (.slice a lo hi) s := fun s => by
        unfold ev
        rw [evK]
        ((try simp only [(ekEq cf G a).e]) <;> (try simp only [(ekEq cf G a).a]) <;> (try simp only [(ekEq cf G a).p]) <;> (try simp only [(ekEq cf G a).c]) <;> (try simp only [(ekEq cf G a).i]) <;> (try simp only [(ekEq cf G lo).e]) <;> (try simp only [(ekEq cf G lo).a]) <;> (try simp only [(ekEq cf G lo).p]) <;> (try simp only [(ekEq cf G lo).c]) <;> (try simp only [(ekEq cf G lo).i]) <;> (try simp only [(ekEq cf G hi).e]) <;> (try simp only [(ekEq cf G hi).a]) <;> (try simp only [(ekEq cf G hi).p]) <;> (try simp only [(ekEq cf G hi).c]) <;> (try simp only [(ekEq cf G hi).i])) <;> (try dsimp only) <;> (first | rfl | (cases ‹_› <;> rfl) | skip)
      rw [← funext hs]; rw [evK])
  | .rev a => ekEq1 (by
      have hs : ∀ s, (evK cf G (.rev a)).e s = ev cf G (.rev a) s := fun s => by
        unfold ev
        rw [evK]
        ((try simp only [(ekEq cf G a).e]) <;> (try simp only [(ekEq cf G a).a]) <;> (try simp only [(ekEq cf G a).p]) <;> (try simp only [(ekEq cf G a).c]) <;> (try simp only [(ekEq cf G a).i])) <;> (try dsimp only) <;> (first | rfl | (cases ‹_› <;> rfl) | skip)
      rw [← funext hs]; rw [evK])
  | .call f xs => ekEq1 (by
      have hs : ∀ s, (evK cf G (.call f xs)).e s = ev cf G (.call f xs) s := fun s => by
        unfold ev
        rw [evK]
        ((try simp only [(ekEq cf G xs).e]) <;> (try simp only [(ekEq cf G xs).a]) <;> (try simp only [(ekEq cf G xs).p]) <;> (try simp only [(ekEq cf G xs).c]) <;> (try simp only [(ekEq cf G xs).i])) <;> (try dsimp only) <;> (first | rfl | (cases ‹_› <;> rfl) | skip)
      rw [← funext hs]; rw [evK])
  | .isi a t => ekEq1 (by
      have hs : ∀ s, (evK cf G (.isi a t)).e s = ev cf G (.isi a t) s := fun s => by
        unfold ev
        rw [evK]
        ((try simp only [(ekEq cf G a).e]) <;> (try simp only [(ekEq cf G a).a]) <;> (try simp only [(ekEq cf G a).p]) <;> (try simp only [(ekEq cf G a).c]) <;> (try simp only [(ekEq cf G a).i])) <;> (try dsimp only) <;> (first | rfl | (cases ‹_› <;> rfl) | skip)
      rw [← funext hs]; rw [evK])
  | .meth m a b => ekEq1 (by
      have hs : ∀ s, (evK cf G (.meth m a b)).e s = ev cf G (.meth m a b) s := fun s => by
        unfold ev
        rw [evK]
        ((try simp only [(ekEq cf G a).e]) <;> (try simp only [(ekEq cf G a).a]) <;> (try simp only [(ekEq cf G a).p]) <;> (try simp only [(ekEq cf G a).c]) <;> (try simp only [(ekEq cf G a).i]) <;> (try simp only [(ekEq cf G b).e]) <;> (try simp only [(ekEq cf G b).a]) <;> (try simp only [(ekEq cf G b).p]) <;> (try simp only [(ekEq cf G b).c]) <;> (try simp only [(ekEq cf G b).i])) <;> (try dsimp only) <;> (first | rfl | (cases ‹_› <;> rfl) | skip)
      rw [← funext hs]; rw [evK])
  | .pop0 i => ekEq1 (by
      have hs : ∀ s, (evK cf G (.pop0 i)).e s = ev cf G (.pop0 i) s := fun s => by unfold ev; rfl
      rw [← funext hs]; rw [evK])
  | .lc elt p it cond => ekEq1 (by
      have hs : ∀ s, (evK cf G (.lc elt p it cond)).e s = ev cf G (.lc elt p it cond) s := fun s => by
        unfold ev
        rw [evK]
        ((try simp only [(ekEq cf G elt).e]) <;> (try simp only [(ekEq cf G elt).a]) <;> (try simp only [(ekEq cf G elt).p]) <;> (try simp only [(ekEq cf G elt).c]) <;> (try simp only [(ekEq cf G elt).i]) <;> (try simp only [(ekEq cf G it).e]) <;> (try simp only [(ekEq cf G it).a]) <;> (try simp only [(ekEq cf G it).p]) <;> (try simp only [(ekEq cf G it).c]) <;> (try simp only [(ekEq cf G it).i]) <;> (try simp only [(ekEq cf G cond).e]) <;> (try simp only [(ekEq cf G cond).a]) <;> (try simp only [(ekEq cf G cond).p]) <;> (try simp only [(ekEq cf G cond).c]) <;> (try simp only [(ekEq cf G cond).i])) <;> (try dsimp only) <;> (first | rfl | (cases ‹_› <;> rfl) | skip)
      rw [← funext hs]; rw [evK])
  | .isx n => ekEq1 (by
      have hs : ∀ s, (evK cf G (.isx n)).e s = ev cf G (.isx n) s := fun s => by unfold ev; rfl
      rw [← funext hs]; rw [evK])
  | .lam h e => ekEq1 (by
      have hs : ∀ s, (evK cf G (.lam h e)).e s = ev cf G (.lam h e) s := fun s => by
        unfold ev
        rw [evK]
        ((try simp only [(ekEq cf G e).e]) <;> (try simp only [(ekEq cf G e).a]) <;> (try simp only [(ekEq cf G e).p]) <;> (try simp only [(ekEq cf G e).c]) <;> (try simp only [(ekEq cf G e).i])) <;> (try dsimp only) <;> (first | rfl | (cases ‹_› <;> rfl) | skip)
      rw [← funext hs]; rw [evK])
  | .bi f xs => ekEq1 (by
      have hx := (ekEq cf G xs).a
      have hs : ∀ s, (evK cf G (.bi f xs)).e s = ev cf G (.bi f xs) s := fun s => by
        unfold ev
        rw [evK]
        cases xs with
        | cons a r =>
          cases r with
          | nil => simp only [(ekEq cf G a).e] <;> rfl
          | _ => simp only [hx] <;> rfl
        | _ => simp only [hx] <;> rfl
      rw [← funext hs]; rw [evK])
  | .nil => ⟨by funext s; rw [evK]; unfold ev; rfl, by funext s; rw [evK]; unfold evs; rfl, by funext s; rw [evK]; unfold evp ev; rfl, by funext s; rw [evK]; unfold evc ev; rfl, by funext s; rw [evK]; unfold evi ev; rfl⟩
  | .cons a xs => ⟨by funext s; rw [evK]; unfold ev; rfl, by funext s; rw [evK]; unfold evs; simp only [(ekEq cf G a).e, (ekEq cf G xs).a], by funext s; rw [evK]; unfold evp ev; rfl, by funext s; rw [evK]; unfold evc ev; rfl, by funext s; rw [evK]; unfold evi ev; rfl⟩
  | .omit => ⟨by funext s; rw [evK]; unfold ev; rfl, by funext s; rw [evK]; unfold evs; rfl, by funext s; rw [evK]; unfold evp; rfl, by funext s; rw [evK]; unfold evc; rfl, by funext s; rw [evK]; unfold evi ev; rfl⟩
  | .range1 a => ⟨by funext s; rw [evK]; unfold ev; rfl, by funext s; rw [evK]; unfold evs; rfl, by funext s; rw [evK]; unfold evp ev; rfl, by funext s; rw [evK]; unfold evc ev; rfl, by funext s; rw [evK]; unfold evi; ((try simp only [(ekEq cf G a).e])) <;> rfl⟩
  | .range2 a b => ⟨by funext s; rw [evK]; unfold ev; rfl, by funext s; rw [evK]; unfold evs; rfl, by funext s; rw [evK]; unfold evp ev; rfl, by funext s; rw [evK]; unfold evc ev; rfl, by funext s; rw [evK]; unfold evi; ((try simp only [(ekEq cf G a).e]) <;> (try simp only [(ekEq cf G b).e])) <;> rfl⟩
  | .zip a b => ⟨by funext s; rw [evK]; unfold ev; rfl, by funext s; rw [evK]; unfold evs; rfl, by funext s; rw [evK]; unfold evp ev; rfl, by funext s; rw [evK]; unfold evc ev; rfl, by funext s; rw [evK]; unfold evi; ((try simp only [(ekEq cf G a).e]) <;> (try simp only [(ekEq cf G b).e])) <;> rfl⟩
  | .enum a => ⟨by funext s; rw [evK]; unfold ev; rfl, by funext s; rw [evK]; unfold evs; rfl, by funext s; rw [evK]; unfold evp ev; rfl, by funext s; rw [evK]; unfold evc ev; rfl, by funext s; rw [evK]; unfold evi; ((try simp only [(ekEq cf G a).e])) <;> rfl⟩
def exK (cf : Nat → List PV → List MO → RC) (G : Gx) : C → S → RS
  | .skip, s => .nx s
  | .seq a b, s => (match exK cf G a s with
    | .nx s1 => exK cf G b s1
    | r => r)
  | .asg i e, s => ((evK cf G e).e s).go fun v s1 => if i < s1.sl.length then .nx (s1.set i (.val v)) else .no
  | .own i e, s => ((evK cf G e).e s).go fun v s1 => (match v with
    | .lst xs => if i < s1.sl.length then .nx (s1.set i (.own xs)) else .no
    | _ => .no)
  | .obj i e, s => ((evK cf G e).e s).go fun v s1 => (match v with
    | .lst xs => if i < s1.sl.length then .nx ⟨s1.sl.set i (.val (.obj s1.mu.length)), s1.mu ++ [.lst xs]⟩ else .no
    | _ => .no)
  | .pat p e, s => ((evK cf G e).e s).go fun v s1 => (match bindP p v s1 with
    | some s2 => .nx s2
    | none => .no)
  | .par2 i j a b, s => ((evK cf G a).e s).go fun v s1 => ((evK cf G b).e s1).go fun w s2 => if i < s2.sl.length ∧ j < s2.sl.length then .nx ((s2.set i (.val v)).set j (.val w)) else .no
  | .expr e, s => ((evK cf G e).e s).go fun _ s1 => .nx s1
  | .app i e, s => if isLst s i then ((evK cf G e).e s).go fun v s1 => (match s1.sl[i]? with
    | some (.own xs) => if xs.length < lim then .nx (s1.set i (.own (xs ++ [v]))) else .no
    | some (.val (.obj n)) => (match s1.mu[n]? with
      | some (.lst xs) => if xs.length < lim then .nx ⟨s1.sl, s1.mu.set n (.lst (xs ++ [v]))⟩ else .no
      | _ => .no)
    | _ => .no) else .no
  | .seti i ix e, s => ((evK cf G e).e s).go fun v s1 => if isLst s1 i then ((evK cf G ix).e s1).go fun k s2 => (match s2.sl[i]?, k with
    | some (.own xs), .int k => (match ixN xs.length k with
      | some j => .nx (s2.set i (.own (xs.set j v)))
      | none => .no)
    | _, _ => .no) else .no
  | .ret e, s => ((evK cf G e).e s).go fun v s1 => .rt v s1
  | .ite c a b, s => ((evK cf G c).e s).go fun v s1 => (match v with
    | .bl true => exK cf G a s1
    | .bl false => exK cf G b s1
    | _ => .no)
  | .whl m c b, s => whlLoop ((evK cf G c).e) (exK cf G b) (fuelOf m s) s
  | .for_ p it b, s => ((evK cf G it).i s).go fun xs s1 => forLoop (bindP p) (exK cf G b) xs s1
  | .raise c, s => .exc c s

theorem exEq (cf : Nat → List PV → List MO → RC) (G : Gx) : ∀ (z : C) , exK cf G z = ex cf G z
  | .skip => by funext s; unfold exK ex; rfl
  | .seq a b => by funext s; unfold exK ex; rw [exEq cf G a, exEq cf G b] <;> rfl
  | .asg i e => by funext s; unfold exK ex; rw [(ekEq cf G e).e]
  | .own i e => by funext s; unfold exK ex; rw [(ekEq cf G e).e] <;> rfl
  | .obj i e => by funext s; unfold exK ex; rw [(ekEq cf G e).e] <;> rfl
  | .pat p e => by funext s; unfold exK ex; rw [(ekEq cf G e).e] <;> rfl
  | .par2 i j a b => by funext s; unfold exK ex; simp only [(ekEq cf G a).e, (ekEq cf G b).e]
  | .expr e => by funext s; unfold exK ex; rw [(ekEq cf G e).e]
  | .app i e => by funext s; unfold exK ex; rw [(ekEq cf G e).e] <;> rfl
  | .seti i ix e => by funext s; unfold exK ex; simp only [(ekEq cf G e).e, (ekEq cf G ix).e] <;> rfl
  | .ret e => by funext s; unfold exK ex; rw [(ekEq cf G e).e]
  | .ite c a b => by funext s; unfold exK ex; rw [(ekEq cf G c).e, exEq cf G a, exEq cf G b] <;> rfl
  | .whl m c b => by funext s; unfold exK ex; rw [(ekEq cf G c).e, exEq cf G b]
  | .for_ p it b => by funext s; unfold exK ex; rw [(ekEq cf G it).i, exEq cf G b]
  | .raise c => by funext s; unfold exK ex; rfl
def callK (G : Gx) (tbl : List FnDef) : Nat → Nat → List PV → List MO → RC
  | 0, _, _, _ => .no
  | d + 1, f, xs, mu => match tbl[f]? with
    | some fd => if xs.length = fd.nps then (exK (callK G tbl d) G fd.body (startS fd xs mu)).done else .no
    | none => .no
theorem callEq (G : Gx) (tbl : List FnDef) : ∀ d, callK G tbl d = callD G tbl d
  | 0 => by funext f xs mu; rfl
  | d + 1 => by
    funext f xs mu
    unfold callK callD
    rw [callEq G tbl d]
    cases tbl[f]? with
    | none => rfl
    | some fd => simp only [exEq]
end AP

set_option Elab.async false
set_option linter.all false
set_option maxRecDepth 100000
set_option maxHeartbeats 4000000
set_option autoImplicit false
/-! AH1: ends of walks while an error is handled -/
namespace AH
open PySem PySem.Spec PyProof.Rows HotX
section
variable {prog : Program} {w : World} {A : Around} {E : Value → Shared → Prop} {s : Shared}
theorem hot_keep {x1 : Addr} {h h' : Heap} (t : HotAt A x1 h) (k : ∀ o, h.get? x1 = some o → h'.get? x1 = some o) : HotAt A x1 h' := by
  obtain ⟨a1, ob, fs, a2, a3, a4⟩ := t
  exact ⟨a1, ob, fs, k ob a2, a3, a4⟩
/-- the end of a walk, told by an error -/
theorem stop_hot {α : Type} {x1 : Addr} {Q : α → Shared → Prop} (hot : HotAt A x1 s.heap)
    (out : ∀ hp e, (∀ b o, s.heap.get? b = some o → hp.get? b = some o) → (∃ o, hp.get? e = some o ∧ o.cls = .type "StopIteration") → E (.ref e) { s with heap := hp }) :
    wpAny (model prog w) A (newExc (.type "StopIteration") [] >>= fun e => (raiseNew e : Sem α)) Q E s := by
  refine wpAny_bind ?_
  simp only [newExc, newTuple]
  refine wpAny_bind (wpAny_newObj_type ?_ (by size_fits))
  refine wpAny_bind (m := firstArgMember _ _) (wpAny_of_eq (a := Value.none) (by first | rfl | (simp only [firstArgMember]; rfl)) ?_)
  refine wpAny_newObj_type ?_ (by size_fits)
  obtain ⟨a1, ob, fs, a2, a3, a4⟩ := hot
  have up : ∀ (q1 q2 : Obj) b o, s.heap.get? b = some o → ((s.heap.push q1).push q2).get? b = some o := fun q1 q2 b o e => Heap.get?_push_of_some _ (Heap.get?_push_of_some _ e)
  refine raiseNew_hot ⟨a1, ob, fs, up _ _ _ _ a2, a3, a4⟩ (Nat.ne_of_lt (Heap.lt_size (Heap.get?_push_of_some _ a2))) (Heap.get?_push_size _ rfl) rfl (by first | (simp; done) | (simp; omega)) ?_
  refine out _ _ (fun b o e => ?_) ⟨_, Heap.get?_update_self _ (Heap.get?_push_size _ rfl) rfl, rfl⟩
  rw [Heap.get?_update_other _ _ (Nat.ne_of_gt (Heap.lt_size (Heap.get?_push_of_some _ e)))]
  exact up _ _ b o e
/-- a list's iterator at its end -/
theorem list_stop {itr l x1 : Addr} {i : Nat} {its : Array Value} {Q : Value → Shared → Prop} (hot : HotAt A x1 s.heap) (ne : x1 ≠ itr) (a : s.heap.IsListIter itr l i) (b : s.heap.IsList l its) (c : its[i]? = none)
    (out : ∀ hp e, Heap.ExtBut itr s.heap hp → (∃ o, hp.get? e = some o ∧ o.cls = .type "StopIteration") → E (.ref e) { s with heap := hp }) : wpAny (model prog w) A (Builtin.SmallTypes.nextOf (.ref itr)) Q E s := by
  obtain ⟨oi, e1, e2, e3⟩ := id a
  obtain ⟨ol, g1, _, nl, g2⟩ := b
  unfold Builtin.SmallTypes.nextOf
  refine wpAny_bind (wpAny_callSpecial?_slot (name := Str.ofString "__next__") a.typeIs slot_listiter_next (wpAny_call_entry slot_listiter_next a.typeIs entry_listiter_next ?_ (args_listiter_next _)))
  show wpAny _ _ (field (.ref itr) 0 >>= _) _ _ s
  refine wpAny_bind (wpAny_field e1 e3 (x := .ref l) rfl ?_)
  show wpAny _ _ (if (Value.ref l == Value.none) = true then _ else _) _ _ s
  rw [if_neg (by intro z; cases z)]
  show wpAny _ _ (field (.ref itr) 1 >>= _) _ _ s
  refine wpAny_bind (wpAny_field e1 e3 (x := .int i 0) rfl ?_)
  show wpAny _ _ (seqItems? (.ref l) >>= _) _ _ s
  refine wpAny_bind (wpAny_seqItems g1 g2 ?_)
  simp only [Int.toNat_natCast, c]
  refine wpAny_bind (wpAny_rule (wpAny_bind (wpAny_setField e1 e3 (by simp) ?_)))
  show wpAny _ _ (newExc (.type "StopIteration") [] >>= _) _ _ _
  refine stop_hot (x1 := x1) (hot_keep (A := A) hot fun o q => ?_) fun hp e k st => out hp e (fun b o hb q => k b o ?_) st
  · exact (Heap.SameBut.update ..).extBut x1 o ne q
  · exact (Heap.SameBut.update ..).extBut b o hb q
/-- zip at the end of its first list -/
theorem zip_stop {z TI TO i1 i2 l1 l2 x1 : Addr} {k1 : Nat} {xs : Array Value} {Q : Option Value → Shared → Prop} (hot : HotAt A x1 s.heap) (nz : x1 ≠ z) (ni : x1 ≠ i1) (D : ZipApart z TI TO i1 i2 l1 l2)
    (hz : IsZip s.heap z TI TO .none) (hTI : IsPair s.heap TI (.ref i1) (.ref i2)) (h1 : s.heap.IsListIter i1 l1 k1) (g1 : s.heap.IsList l1 xs) (c : xs[k1]? = none)
    (out : ∀ hp, (∀ c o, c ≠ z → c ≠ i1 → s.heap.get? c = some o → hp.get? c = some o) → Q none { s with heap := hp }) : wpAny (model prog w) A (pyNext (.ref z)) Q E s := by
  have hT : s.TypeIs (.ref z) "zip" := ⟨_, hz, rfl⟩
  unfold pyNext
  refine wpAny_bind (wpAny_attempt (wpAny_callSpecial?_slot (name := Str.ofString "__next__") hT F.slot_zip_next (wpAny_call_entry F.slot_zip_next hT F.entry_zip_next ?_ (F.args_zip_next_1 _))))
  show wpAny _ _ (field (.ref z) 2 >>= _) _ _ _
  refine wpAny_bind (wpAny_field hz rfl (x := .bool false) rfl ?_)
  show wpAny _ _ (field (.ref z) 3 >>= _) _ _ _
  refine wpAny_bind (wpAny_field hz rfl (x := .ref TI) rfl ?_)
  refine wpAny_bind (wpAny_seqItems hTI rfl ?_)
  show wpAny _ _ (Builtin.SmallTypes.ownedTupleIsFree (.ref z) >>= _) _ _ _
  refine wpAny_bind ?_
  unfold Builtin.SmallTypes.ownedTupleIsFree
  refine wpAny_bind (wpAny_field hz rfl (x := .none) rfl (wpAny_pure ?_))
  simp only [if_true]
  refine wpAny_bind (wpAny_rule ?_)
  refine wpAny_bind (wpAny_field hz rfl (x := .ref TO) rfl ?_)
  refine wpAny_bind (wpAny_setField_rec hz (by simp) fun p₁ z₁ s₁ => ?_)
  replace z₁ : IsZip p₁ z TI TO .ellipsis := z₁
  refine wpAny_bind ?_
  simp only [List.zipIdx_cons, List.zipIdx_nil, List.forIn_cons, List.forIn_nil]
  refine wpAny_bind (wpAny_bind (wpAny_onRaise ?_))
  show wpAny _ _ (Builtin.SmallTypes.nextOf (.ref i1) >>= _) _ _ _
  refine wpAny_bind (list_stop (x1 := x1) (hot_keep (A := A) hot fun o q => s₁.extBut _ _ nz q) ni (h1.extBut s₁.extBut D.i1z) (g1.extBut s₁.extBut D.l1z) c fun p₂ e q₂ st => ?_)
  obtain ⟨oe, w1, w2⟩ := st
  have z₂ : IsZip p₂ z TI TO .ellipsis := q₂ _ _ D.i1z.symm z₁
  have ez : e ≠ z := fun x => by subst x; rw [z₂] at w1; cases w1; simp at w2
  refine wpAny_setField_rec z₂ (by simp) fun p₃ _ s₃ => ?_
  refine wpAny_bind (wpAny_isInstance (T := "StopIteration") (b := true) ⟨oe, s₃.extBut _ _ ez w1, w2⟩ isSubtype_stop ?_)
  exact wpAny_pure (out _ fun c o n1 n2 q => s₃.extBut _ _ n1 (q₂ _ _ n2 (s₁.extBut _ _ n1 q)))
/-- a tuple's iterator at its end -/
theorem tup_stop {itr t x1 : Addr} {i : Nat} {its : Array Value} {Q : Option Value → Shared → Prop} (hot : HotAt A x1 s.heap) (ne : x1 ≠ itr) (a : IsTupIter s.heap itr t i) (b : IsTup s.heap t its) (c : its[i]? = none)
    (out : ∀ hp, Heap.ExtBut itr s.heap hp → Q none { s with heap := hp }) : wpAny (model prog w) A (pyNext (.ref itr)) Q E s := by
  obtain ⟨oi, e1, e2, e3⟩ := id a
  obtain ⟨ol, g1, _, nl, g2⟩ := b
  unfold pyNext
  refine wpAny_bind (wpAny_attempt (wpAny_callSpecial?_slot (name := Str.ofString "__next__") a.typeIs slot_tupleiter_next (wpAny_call_entry slot_tupleiter_next a.typeIs entry_tupleiter_next ?_ (args_tupleiter_next _))))
  show wpAny _ _ (field (.ref itr) 0 >>= _) _ _ s
  refine wpAny_bind (wpAny_field e1 e3 (x := .ref t) rfl ?_)
  show wpAny _ _ (if (Value.ref t == Value.none) = true then _ else _) _ _ s
  rw [if_neg (by intro z; cases z)]
  show wpAny _ _ (field (.ref itr) 1 >>= _) _ _ s
  refine wpAny_bind (wpAny_field e1 e3 (x := .int i 0) rfl ?_)
  show wpAny _ _ (seqItems? (.ref t) >>= _) _ _ s
  refine wpAny_bind (wpAny_seqItems g1 g2 ?_)
  simp only [Int.toNat_natCast, c]
  refine wpAny_bind (wpAny_rule (wpAny_bind (wpAny_setField e1 e3 (by simp) ?_)))
  show wpAny _ _ (newExc (.type "StopIteration") [] >>= _) _ _ _
  refine stop_hot (x1 := x1) (hot_keep (A := A) hot fun o q => (Heap.SameBut.update ..).extBut x1 o ne q) fun hp e k st => ?_
  obtain ⟨oe, w1, w2⟩ := st
  refine wpAny_bind (wpAny_isInstance (T := "StopIteration") (b := true) ⟨oe, w1, w2⟩ isSubtype_stop ?_)
  exact wpAny_pure (out _ fun b o hb q => k b o ((Heap.SameBut.update ..).extBut b o hb q))
/-- (a, b, ..) = a tuple of that length -/
theorem asg_tup_hot {env : Env} {elts : List Expr} {kk : Nat} {pos : Pos} {t x1 : Addr} {its : Array Value} {Q : Unit → Shared → Prop} (hot : HotAt A x1 s.heap) (ht : IsTup s.heap t its)
    (hn : (assignEach elts env).length = its.size) (hs : (assignEach elts env).findIdx? (·.1) = none)
    (out : ∀ hp, Heap.ExtBut s.heap.objs.size s.heap hp → wpAny (model prog w) A (assignInOrder ((assignEach elts env).map (·.2)) its.toList) Q E { s with heap := hp }) : wpAny (model prog w) A (assign (.Tuple elts kk pos) env (.ref t)) Q E s := by
  rw [assign_Tuple]
  refine wpAny_bind (wpAny_standAt ?_)
  unfold unpack
  rw [hn, hs]
  refine wpAny_bind (wpAny_holding ?_)
  have lt : t ≠ s.heap.objs.size := by obtain ⟨o, ho, _⟩ := ht; exact Nat.ne_of_lt (Heap.lt_size ho)
  have xt : x1 ≠ s.heap.objs.size := by obtain ⟨_, o, _, ho, _⟩ := hot; exact Nat.ne_of_lt (Heap.lt_size ho)
  unfold unpackItems
  refine wpAny_bind ?_
  unfold notIterableAtAll
  refine wpAny_bind (wpAny_specialOf ht.typeIs slot_tuple_iter.lookup ?_)
  refine wpAny_pure ?_
  simp only [Bool.false_eq_true, if_false]
  refine wpAny_bind (wpAny_holding (iter_tuple ht ?_))
  refine wpAny_bind (wpAny_holding (draw_tuple lt its.size 0 _ _ ⟨_, Heap.get?_push_size _ rfl, rfl, rfl⟩ (ht.push _) (by omega) fun p₁ a₁ s₁ => ?_))
  rw [show List.take its.size (List.drop 0 its.toList) = its.toList by rw [List.drop_zero]; exact List.take_of_length_le (by simp)]
  rw [if_neg (by simp)]
  have t₁ : IsTup p₁ t its := (ht.push _).extBut s₁.extBut lt
  refine wpAny_bind (wpAny_holding (tup_stop (x1 := x1) (hot_keep hot fun o q => s₁.extBut _ _ xt (Heap.get?_push_of_some _ q)) xt a₁ t₁ (by simp) fun p₂ q₂ => ?_))
  simp only [Option.isSome_none, Bool.false_eq_true, if_false]
  exact wpAny_pure (out p₂ fun b o hb e => q₂ b o hb (s₁.extBut b o hb (Heap.get?_push_of_some _ e)))
end
end AH

set_option Elab.async false
set_option linter.all false
set_option maxRecDepth 100000
set_option maxHeartbeats 4000000
set_option autoImplicit false
/-! AH2: [x for x, good in zip(xs, goods) if good] while an error is handled -/
namespace AH
open PySem PySem.Spec PyProof.Rows L2 HotX L2H
def pickB {α : Type} : List α → List Bool → List α
  | x :: xs, true :: gs => x :: pickB xs gs
  | _ :: xs, false :: gs => pickB xs gs
  | _, _ => []
theorem pickB_snoc {α : Type} (x : α) (g : Bool) : ∀ (xs : List α) (gs : List Bool), xs.length = gs.length → pickB (xs ++ [x]) (gs ++ [g]) = pickB xs gs ++ (if g = true then [x] else [])
  | [], [], _ => by cases g <;> rfl
  | y :: ys, d :: ds, h => by
    have ih := pickB_snoc x g ys ds (by simpa using h)
    cases d <;> simp [pickB, ih]
theorem pickB_len {α : Type} : ∀ (xs : List α) (gs : List Bool), (pickB xs gs).length ≤ xs.length
  | [], gs => by cases gs <;> simp [pickB]
  | x :: xs, [] => by simp [pickB]
  | x :: xs, true :: gs => by simp [pickB, pickB_len xs gs]
  | x :: xs, false :: gs => by simp [pickB]; exact Nat.le_succ_of_le (pickB_len xs gs)
/-- the zip's objects in the state -/
def ZSt (a b z TI TO i1 i2 : Addr) (i : Nat) (h : Heap) : Prop := IsZip h z TI TO .none ∧ IsPair h TI (.ref i1) (.ref i2) ∧ (∃ x y, IsPair h TO x y) ∧ h.IsListIter i1 a i ∧ h.IsListIter i2 b i
theorem ZSt.keep {a b z TI TO i1 i2 : Addr} {i : Nat} {h h' : Heap} (st : ZSt a b z TI TO i1 i2 i h) (k : ∀ c ∈ [z, TI, TO, i1, i2], ∀ o, h.get? c = some o → h'.get? c = some o) : ZSt a b z TI TO i1 i2 i h' := by
  obtain ⟨s1, s2, ⟨x, y, s3⟩, s4, s5⟩ := st
  exact ⟨k z (by simp) _ s1, k TI (by simp) _ s2, ⟨x, y, k TO (by simp) _ s3⟩, s4.at fun o q => k i1 (by simp) o q, s5.at fun o q => k i2 (by simp) o q⟩
theorem ZSt.obj {a b z TI TO i1 i2 : Addr} {i : Nat} {h : Heap} (st : ZSt a b z TI TO i1 i2 i h) : ∀ c ∈ [z, TI, TO, i1, i2], ∃ o, h.get? c = some o ∧ ∀ v, o.data ≠ .cell v := fun c hc => by
  obtain ⟨s1, s2, ⟨x, y, s3⟩, ⟨o4, s4, _, d4⟩, ⟨o5, s5, _, d5⟩⟩ := st
  simp only [List.mem_cons, List.not_mem_nil, or_false] at hc
  rcases hc with rfl | rfl | rfl | rfl | rfl
  · exact ⟨_, s1, fun v q => by cases q⟩
  · exact ⟨_, s2, fun v q => by cases q⟩
  · exact ⟨_, s3, fun v q => by cases q⟩
  · exact ⟨o4, s4, fun v q => by rw [d4] at q; cases q⟩
  · exact ⟨o5, s5, fun v q => by rw [d5] at q; cases q⟩
section
variable {B : Cx} {pins : List (Addr × Obj)} {σ : L2.St} {H : Hp} {s : Shared} {a b z TI TO i1 i2 : Addr}
/-- the next pair -/
theorem zip_next {elts : List Expr} {kk : Nat} {tpos : Pos} {E : Value → Shared → Prop} {Q : Shared → Addr → Prop} (D : ZipApart z TI TO i1 i2 a b) {i : Nat} {xs ys : List V} {x y : V} (I : Inv B pins σ H s) (hf : ∀ c ∈ [z, TI, TO, i1, i2], FpOk B pins H c)
    (st : ZSt a b z TI TO i1 i2 i s.heap) (qx : SqL B.K H a xs) (qy : SqL B.K H b ys) (hx : xs[i]? = some x) (hy : ys[i]? = some y) (k : ∀ T s2, H T = none → T ∉ [z, TI, TO, i1, i2] → Inv B pins σ (upd H T (.tup [x, y])) s2 → ZSt a b z TI TO i1 i2 (i + 1) s2.heap → (∀ o c, c ∉ [z, TI, TO, i1, i2] → s.heap.get? c = some o → s2.heap.get? c = some o) → Q s2 T) :
    wpAny (model B.prog B.w) B.A (pyNext (.ref z)) (fun r s1 => ∃ T, r = some (.ref T) ∧ wpAny (model B.prog B.w) B.A (letOwnedTupleGo (.Tuple elts kk tpos) (.ref z) (.ref T)) (fun _ s2 => Q s2 T) E s1) E s := by
  obtain ⟨s1, s2, ⟨x0, y0, s3⟩, s4, s5⟩ := st
  obtain ⟨us, ru, pu, _⟩ := I.list qx
  obtain ⟨ws, rw', pw, _⟩ := I.list qy
  obtain ⟨u, eu, rx⟩ := ru.get hx
  obtain ⟨w, ew, ry⟩ := rw'.get hy
  have lz : z < s.heap.objs.size := Heap.lt_size s1
  have notin : s.heap.objs.size ∉ [z, TI, TO, i1, i2] := fun hm => by
    obtain ⟨o, e, _⟩ := ZSt.obj (a := a) (b := b) (i := i) ⟨s1, s2, ⟨x0, y0, s3⟩, s4, s5⟩ _ hm
    exact absurd (Heap.lt_size e) (Nat.lt_irrefl _)
  refine wpAny_pyNext_zip_item D s1 s2 s3 s4 s5 pu.isList pw.isList (x := u) (y := w) (by simpa using eu) (by simpa using ew) fun hp n1 n2 n3 n4 n5 n6 n7 => ?_
  refine ⟨_, rfl, wpAny_letOwnedTupleGo_zip (s := { s with heap := hp }) n1 fun hq m1 sb => ?_⟩
  have tup : hq.get? s.heap.objs.size = some { cls := .type "tuple", data := .seq #[u, w] } := (sb.2 _ (Nat.ne_of_gt lz)).trans n5
  have ok : ObjOk B.prog B.w (upd H s.heap.objs.size (.tup [x, y])) hq s.heap.objs.size (.tup [x, y]) := ⟨by show 2 ≤ sizeLine; decide, [u, w], .cons rx (.cons ry .nil), ⟨_, tup, rfl, _, rfl⟩⟩
  have far : ∀ o c, c ∉ [z, TI, TO, i1, i2] → s.heap.get? c = some o → hq.get? c = some o := fun o c hc q => by
    simp only [List.mem_cons, List.not_mem_nil, or_false, not_or] at hc
    exact (sb.2 c hc.1).trans (n7 c o hc.1 hc.2.2.1 hc.2.2.2.1 hc.2.2.2.2 q)
  exact k _ _ (I.hok.fresh (Nat.le_refl _)) notin (I.turnedNew (t' := s.toks) (ch := [z, TI, TO, i1, i2]) (fun c o hc q => far o c hc q) hf (Nat.le_refl _) ok)
    ⟨m1, (sb.2 _ D.TIz).trans (n7 _ _ D.TIz D.TITO D.TIi1 D.TIi2 s2), ⟨u, w, (sb.2 _ D.TOz).trans n2⟩, n3.at fun o q => (sb.2 _ D.i1z).trans q, n4.at fun o q => (sb.2 _ D.i2z).trans q⟩ far
/-- the end -/
theorem zip_last {E : Value → Shared → Prop} {Q : Option Value → Shared → Prop} {x1 : Addr} (hot : HotAt B.A x1 s.heap) (D : ZipApart z TI TO i1 i2 a b) {i : Nat} {xs : List V} (I : Inv B pins σ H s) (hf : ∀ c ∈ [z, TI, TO, i1, i2], FpOk B pins H c) (hx1 : x1 ∉ [z, TI, TO, i1, i2])
    (st : ZSt a b z TI TO i1 i2 i s.heap) (qx : SqL B.K H a xs) (hl : xs.length ≤ i) (k : ∀ s2, Inv B pins σ H s2 → Q none s2) : wpAny (model B.prog B.w) B.A (pyNext (.ref z)) Q E s := by
  obtain ⟨s1, s2, ⟨x0, y0, s3⟩, s4, s5⟩ := st
  obtain ⟨us, ru, pu, _⟩ := I.list qx
  have l1 := ru.length
  simp only [List.mem_cons, List.not_mem_nil, or_false, not_or] at hx1
  refine zip_stop hot hx1.1 hx1.2.2.2.1 D s1 s2 s4 pu.isList (by simp; omega) fun hp q => k _ (I.turnedL (t' := s.toks) (ch := [z, TI, TO, i1, i2]) (fun c o hc e => ?_) hf)
  simp only [List.mem_cons, List.not_mem_nil, or_false, not_or] at hc
  exact q c o hc.1 hc.2.2.2.1 e
end
section
variable {Y : Cx} {p : Addr × Obj} {scope : Scope} {iw ig kk : Nat} {wd gd : Str} {e1 e2 : Expr} {ta : TA} {q1 q2 q3 q4 q5 q6 q7 pos : Pos}
/-- what the comprehension hands back: the items whose mark is true, in a new list -/
def tPick (K : PySem.W.Frag) (ta : TA) : TE := fun σ H Q => ta σ H fun vs H1 => ∃ (a b : Addr) (xs : List V) (gs : List Bool), vs = [.ref a, .ref b] ∧ SqL K H1 a xs ∧ SqL K H1 b (gs.map V.bl) ∧ xs.length = gs.length ∧ xs.length ≤ 1000 ∧
  ∀ D H2, (∀ c o, H1 c = some o → H2 c = some o) → H1 D = none → H2 D = some (.lst (pickB xs gs)) → Q (.ref D) H2
theorem pe_pick (hp : Hot1 Y.A p) (hm : p ∈ Y.pn) (hN : Y.N.Nodup) (hw : Y.N[iw]? = some wd) (hg : Y.N[ig]? = some gd) (ne : iw ≠ ig) (ok : BlkOk Y.N Y.env.scope scope [(wd, iw), (gd, ig)]) (lw : scope.names.lookup wd = some .local) (lg : scope.names.lookup gd = some .local)
    (dw : (wd == ("__debug__" : Str)) = false ∧ (wd == ("__classdict__" : Str)) = false) (dg : (gd == ("__debug__" : Str)) = false ∧ (gd == ("__classdict__" : Str)) = false) (gz : Gl Y "zip") (mz : Y.mg "zip" = none) (ha : PA Y [e1, e2] ta)
    (hs : starEach [e1, e2] Y.env = (false, eval e1 Y.env) :: starEach [e2] Y.env) (hpl : (backTo q6 (starEach [e2] Y.env)).any (·.1) = false) :
    PE Y (.ListComp (.Name wd q1) [⟨.Tuple [.Name wd q2, .Name gd q3] kk q4, .Call (.Name "zip" q5) [e1, e2] [] q6, [.Name gd q7], 0⟩] scope pos) (tPick Y.K ta) := by
  refine ⟨fun pins s σ H Q I h => ?_⟩
  rw [eval_ListComp]
  have hfree : ∀ y ∈ scope.names, y.2 = .free → ∃ c, Y.env.cells.lookup y.1 = some c := fun y hy e => (ok.free y hy e).elim (fun t => I.ok.has _ (.inl t)) fun t => I.ok.has _ (.inr t)
  refine wpAny_comprehension_free (use := none) rfl (fun _ => rfl) (closure_ok hfree) ok.kind (fun y hy e => by rw [ok.uniq y hy, e]) ?_
  refine Call_ (ld_blt I gz mz PyProof.Rows.boot_zip (PyProof.Rows.callWith_type1 (thn (ha.run q6 pins s σ H _ I h) fun us s1 ⟨vs, H1, I1, r1, k1⟩ => ?_) hs hpl))
  obtain ⟨a, b, xs, gs, rfl, qa, qb, hl, hz, fin⟩ := k1
  obtain ⟨ua, ub, rfl, ra, rb⟩ := vals2 r1
  cases ra
  cases rb
  obtain ⟨la, _, pa, _⟩ := I1.list qa
  obtain ⟨lb, _, pb, _⟩ := I1.list qb
  have ha' : a < s1.heap.objs.size := pa.lt
  have hb' : b < s1.heap.objs.size := pb.lt
  refine call_zip_2 pa.isList pb.isList fun h2 z1 z2 z3 z4 z5 z6 z7 => wpAny_pyIter_zip z1 ?_
  have P1 := I1.pin p (List.mem_append_left _ hm)
  have pn : p.1 < s1.heap.objs.size := Heap.lt_size P1.1
  have pst : p.1 ∉ frs Y.stack := fun hb => (List.mem_cons.mp (I1.stkSub p.1 hb)).elim P1.2.2.1 P1.2.2.2.1
  have AP := PySem.W.ktu_apart s1.heap.objs.size a b ha' hb'
  have st2 : ZSt a b (s1.heap.objs.size + 4) (s1.heap.objs.size + 2) (s1.heap.objs.size + 3) s1.heap.objs.size (s1.heap.objs.size + 1) 0 h2 := ⟨z1, z2, ⟨_, _, z3⟩, z4, z5⟩
  generalize hn : s1.heap.objs.size = n at *
  generalize hfp : [n + 4, n + 2, n + 3, n, n + 1] = fp
  have lefp : ∀ c ∈ fp, n ≤ c ∧ c < n + 5 := fun c hc => by
    rw [← hfp] at hc
    simp only [List.mem_cons, List.not_mem_nil, or_false] at hc
    omega
  have I2 : Inv Y pins σ H1 { s1 with heap := h2 } := I1.kept (t' := s1.toks) z7
  have f2 : ∀ c ∈ fp, FpOk Y pins H1 c := fun c hc => I1.fpOk (by rw [hn]; exact (lefp c hc).1) (I1.hok.fresh (by rw [hn]; exact (lefp c hc).1))
  refine wpAny_newObj_type (newEnv_comp ?_) (by show 0 ≤ sizeLine; decide)
  -- the new list
  generalize hDs : ({ s1 with heap := h2 } : Shared).heap.objs.size = D
  have hD5 : D = n + 5 := by rw [← hDs]; exact z6
  have nD : H1 D = none := I2.hok.fresh (by rw [← hDs]; exact Nat.le_refl _)
  generalize hs3 : ({ ({ s1 with heap := h2 } : Shared) with heap := ({ s1 with heap := h2 } : Shared).heap.push { cls := .type "list", data := .seq ([] : List Value).toArray } } : Shared) = s3
  have h3 : s3.heap = h2.push { cls := .type "list", data := .seq ([] : List Value).toArray } := by rw [← hs3]
  have I3 : Inv Y pins σ (upd H1 D (.lst [])) s3 := by
    rw [← hs3]
    refine I2.laid (t' := s1.toks) (fun c o e => Heap.get?_push_of_some _ e) (by rw [← hDs]; exact Nat.le_refl _) ⟨Nat.zero_le _, [], 0, .nil, ?_⟩
    rw [← hDs]
    exact Heap.get?_push_size _ rfl
  have up3 : ∀ c o, h2.get? c = some o → s3.heap.get? c = some o := fun c o e => by rw [h3]; exact Heap.get?_push_of_some _ e
  have f3 : ∀ c ∈ fp, FpOk Y pins (upd H1 D (.lst [])) c ∧ c < s3.heap.objs.size := fun c hc => by
    have l := lefp c hc
    refine ⟨⟨?_, (f2 c hc).2⟩, by rw [h3, Heap.size_push, z6]; omega⟩
    have lt : c < D := by rw [hD5]; exact l.2
    rw [upd_ne (Nat.ne_of_lt lt)]
    exact (f2 c hc).1
  have I4 := block_start I3 ok hN f3
  have p3 : s3.heap.get? p.1 = some p.2 := up3 _ _ (z7 _ _ P1.1)
  have nfp : ∀ c ∈ fp, (upd H1 D (.lst [])) c = none := fun c hc => (f3 c hc).1.1
  have npD : p.1 ≠ D := Nat.ne_of_lt (by rw [hD5]; exact Nat.lt_add_right 5 pn)
  generalize hCe : compEnvC scope (cellsFrom (s3.heap.objs.size + 1) scope.names (cloFrom Y.env.cells scope.names [])) s3.heap.objs.size Y.env = ce at I4
  have cL : ce.locals = s3.heap.objs.size := by rw [← hCe]; rfl
  have cS : ce.scope = relS scope Y.env.scope := by rw [← hCe]; rfl
  have goal_eq : ∀ t, t = ce → t = ce := fun _ h => h
  show codeAny _ _ (.compStart _ 0 (.ref (n + 4)) (.ref D) (compEnvC scope (cellsFrom (s3.heap.objs.size + 1) scope.names (cloFrom Y.env.cells scope.names [])) s3.heap.objs.size Y.env)) (compPost (model Y.prog Y.w) Y.A Y.xe none (EP Y pins σ Q) (.ref D) s3.heap.objs.size) { s3 with heap := pushCells (s3.heap.push { cls := .type "dict", data := .dict #[] }) scope.names }
  rw [hCe]
  generalize hH3 : upd H1 D (.lst []) = H3 at I3 I4 nfp f3
  have p3n : H3 p.1 = none := by rw [← hH3, upd_ne npD]; exact P1.2.1
  have old3 : ∀ c o, H1 c = some o → H3 c = some o := fun c o e => by rw [← hH3, upd_ne (ne_of_none e nD)]; exact e
  generalize hs4 : ({ s3 with heap := pushCells (s3.heap.push { cls := .type "dict", data := .dict #[] }) scope.names } : Shared) = s4 at I4 ⊢
  have st4 : ZSt a b (n + 4) (n + 2) (n + 3) n (n + 1) 0 s4.heap := st2.keep fun c _ o e => by
    rw [← hs4]
    exact pushCells_keeps _ _ _ _ (Heap.get?_push_of_some _ (up3 c o e))
  -- what is known in the block
  have lkw : ce.scope.names.lookup wd = some .local := by rw [cS]; exact lookup_relS_keep (sc := Y.env.scope) (by simp) lw
  have lkg : ce.scope.names.lookup gd = some .local := by rw [cS]; exact lookup_relS_keep (sc := Y.env.scope) (by simp) lg
  have stat : ∀ {σ' : L2.St} {H' : Hp} {s' : Shared}, Inv (Y.blk s3 H3 scope ce fp) [] σ' H' s' → (∀ c ∈ fp, H' c = none) → ∀ c ∈ fp, FpOk (Y.blk s3 H3 scope ce fp) [] H' c := fun {σ' H' s'} J nf c hc =>
    ⟨nf c hc, (J.ok.exf c hc).1, J.ok.exfs c hc, .inl hc, fun y cc e => (J.ok.exf c hc).2 y cc e, fun q hq => absurd (show q ∈ ([] : List (Addr × Obj)) ++ [] from hq) (by simp)⟩
  have hotB : ∀ {σ' : L2.St} {H' : Hp} {pl : List (Addr × Obj)} {s' : Shared}, Inv (Y.blk s3 H3 scope ce fp) pl σ' H' s' → HotAt Y.A p.1 s'.heap := fun {σ' H' pl s'} J =>
    ⟨hp.1, p.2, hp.2.choose, J.base.keep p.1 p.2 p3 p3n pst (fun hc => absurd (Nat.lt_of_lt_of_le pn (lefp _ hc).1) (Nat.lt_irrefl _)), hp.2.choose_spec.1, hp.2.choose_spec.2⟩
  have W : codeAny (model Y.prog Y.w) Y.A (.compLoop (.ListComp (.Name wd q1) [⟨.Tuple [.Name wd q2, .Name gd q3] kk q4, .Call (.Name "zip" q5) [e1, e2] [] q6, [.Name gd q7], 0⟩] scope pos) 0 (.ref (n + 4)) (.ref D) ce) (compPost (model Y.prog Y.w) Y.A Y.xe none (EP Y pins σ Q) (.ref D) s3.heap.objs.size) s4 := by
    refine compLoop_any (fun m s' => ∃ i H', m = xs.length - i ∧ i ≤ xs.length ∧ Inv (Y.blk s3 H3 scope ce fp) [] (L2.wipe σ [iw, ig]) H' s' ∧ ZSt a b (n + 4) (n + 2) (n + 3) n (n + 1) i s'.heap ∧ (∀ c ∈ fp, H' c = none) ∧ (∀ c o, H1 c = some o → H' c = some o) ∧ H' D = some (.lst (pickB (xs.take i) (gs.take i)))) ?_ xs.length
      ⟨0, H3, by simp, Nat.zero_le _, I4, st4, nfp, old3, by rw [← hH3, upd_same]; rfl⟩
    rintro m s5 ⟨i, H5, rfl, hi, I5, st5, n5, old5, hD5'⟩
    have fo := stat I5 n5
    have sq : ∀ {l : Addr} {vs : List V}, SqL Y.K H1 l vs → SqL Y.K H5 l vs := fun {l vs} h => h.imp (fun r => r.imp (old5 _ _) fun ⟨o, e⟩ => ⟨o, old5 _ _ e⟩) id
    have qa5 := sq qa
    have qb5 := sq qb
    by_cases lt : i < xs.length
    · have lg' : i < gs.length := by omega
      have hx : xs[i]? = some xs[i] := List.getElem?_eq_getElem lt
      have hy : (gs.map V.bl)[i]? = some (.bl gs[i]) := by rw [List.getElem?_map, List.getElem?_eq_getElem lg']; rfl
      refine thnF (zip_next (B := Y.blk s3 H3 scope ce fp) (elts := [.Name wd q2, .Name gd q3]) (kk := kk) (tpos := q4) (E := fun _ _ => False) (Q := fun s2 T => H5 T = none ∧ T ∉ fp ∧ Inv (Y.blk s3 H3 scope ce fp) [] (L2.wipe σ [iw, ig]) (upd H5 T (.tup [xs[i], .bl gs[i]])) s2 ∧ ZSt a b (n + 4) (n + 2) (n + 3) n (n + 1) (i + 1) s2.heap)
        AP I5 (by rw [hfp]; exact fo) st5 qa5 qb5 hx hy fun T s2 nT nin J st _ => ⟨nT, by rw [← hfp]; exact nin, J, st⟩) fun r s6 hr => ?_
      obtain ⟨T, rfl, h6⟩ := hr
      refine thnF h6 fun _ s7 hh7 => ?_
      obtain ⟨nT, nin, I7, st7⟩ := hh7
      have n7 : ∀ c ∈ fp, (upd H5 T (.tup [xs[i], .bl gs[i]])) c = none := fun c hc => by
        rw [upd_ne (fun e => nin (by rw [← e]; exact hc))]
        exact n5 c hc
      have I7' := I7.pinned (stat I7 n7) (by rw [← hfp]; exact st7.obj)
      have DT : D ≠ T := ne_of_none hD5' nT
      obtain ⟨its, rv, ht, _⟩ := I7'.tuple (SqT.of (K := Y.K) (upd_same (H := H5) (a := T) (o := .tup [xs[i], .bl gs[i]])))
      have sz : its.length = 2 := by rw [← rv.length]; rfl
      refine thnF (asg_tup_hot (A := Y.A) (env := ce) (x1 := p.1) (E := fun _ _ => False) (Q := fun _ s8 => Inv (Y.blk s3 H3 scope ce fp) ([] ++ pinsAt fp s7.heap) (((L2.wipe σ [iw, ig]).set iw (some xs[i])).set ig (some (.bl gs[i]))) (upd H5 T (.tup [xs[i], .bl gs[i]])) s8) (hotB I7') ht (by show 2 = its.toArray.size; rw [List.size_toArray, sz]) rfl fun hp he => ?_) fun _ s8 I8 => ?_
      · have I8 : Inv (Y.blk s3 H3 scope ce fp) ([] ++ pinsAt fp s7.heap) (L2.wipe σ [iw, ig]) (upd H5 T (.tup [xs[i], .bl gs[i]])) { s7 with heap := hp } := I7'.kept (t' := s7.toks) fun c o e => he c o (Nat.ne_of_lt (Heap.lt_size e)) e
        have pg : PGs (Y.blk s3 H3 scope ce fp) [.Name wd q2, .Name gd q3] (gCons (gName iw) (gCons (gName ig) gNil)) := pgs_cons (pg_name hN hw (.inl lkw) (.inr lkw)) (pgs_cons (pg_name hN hg (.inl lkg) (.inr lkg)) pgs_nil)
        refine wpAny_mono (pg.run _ _ _ _ [xs[i], .bl gs[i]] its.toArray.toList (fun σ' H' => σ' = ((L2.wipe σ [iw, ig]).set iw (some xs[i])).set ig (some (.bl gs[i])) ∧ H' = upd H5 T (.tup [xs[i], .bl gs[i]])) I8 (by simpa using rv) ⟨_, _, rfl, _, _, rfl, rfl, rfl, rfl⟩) (fun _ s9 hq => ?_) fun _ _ z => z
        obtain ⟨σ', H', J, rfl, rfl⟩ := hq
        exact J
      have len9 : (L2.wipe σ [iw, ig]).length = Y.N.length := I5.len
      have liw : iw < (L2.wipe σ [iw, ig]).length := by rw [len9]; exact (List.getElem?_eq_some_iff.mp hw).1
      have lig : ig < (L2.wipe σ [iw, ig]).length := by rw [len9]; exact (List.getElem?_eq_some_iff.mp hg).1
      generalize hσ : ((L2.wipe σ [iw, ig]).set iw (some xs[i])).set ig (some (.bl gs[i])) = σ8 at I8
      have vw : σ8[iw]? = some (some xs[i]) := by
        rw [← hσ, List.getElem?_set_ne (Ne.symm ne), List.getElem?_set_self liw]
      have vg : σ8[ig]? = some (some (.bl gs[i])) := by
        rw [← hσ, List.getElem?_set_self (by simpa using lig)]
      have pt : PTs (Y.blk s3 H3 scope ce fp) [.Name gd q7] (tB (tVar ig)) := pts_one (pt_val (pe_var hg (.inl lkg) dg.1 dg.2))
      refine thnF (pt.run _ s8 σ8 _ (fun t H' => t = gs[i] ∧ H' = upd H5 T (.tup [xs[i], .bl gs[i]])) I8 ⟨_, vg, _, rfl, rfl, rfl⟩) fun t s9 hh9 => ?_
      obtain ⟨H9, I9, rfl, rfl⟩ := hh9
      -- the turn's end
      have fin2 : ∀ {s' : Shared} {H' : Hp}, Inv (Y.blk s3 H3 scope ce fp) ([] ++ pinsAt fp s7.heap) σ8 H' s' → (∀ c o, H1 c = some o → H' c = some o) → H' D = some (.lst (pickB (xs.take (i + 1)) (gs.take (i + 1)))) →
          ∃ m, m < xs.length - i ∧ ∃ i H', m = xs.length - i ∧ i ≤ xs.length ∧ Inv (Y.blk s3 H3 scope ce fp) [] (L2.wipe σ [iw, ig]) H' s' ∧ ZSt a b (n + 4) (n + 2) (n + 3) n (n + 1) i s'.heap ∧ (∀ c ∈ fp, H' c = none) ∧ (∀ c o, H1 c = some o → H' c = some o) ∧ H' D = some (.lst (pickB (xs.take i) (gs.take i))) := fun {s' H'} J old hDn => by
        have pin' : ∀ c ∈ fp, ∀ o, s7.heap.get? c = some o → s'.heap.get? c = some o ∧ H' c = none := fun c hc o e => by
          have z := J.pin (c, o) (List.mem_append_right _ (List.mem_append_right _ (mem_pinsAt hc e)))
          exact ⟨z.1, z.2.1⟩
        refine ⟨xs.length - (i + 1), by omega, i + 1, H', rfl, lt, (J.unpinned (pins := [])).weak (by rw [← hσ]; simp) (fun j v e => ?_), st7.keep fun c hc o e => (pin' c (by rw [← hfp]; exact hc) o e).1, fun c hc => ?_, old, hDn⟩
        · obtain ⟨_, nj⟩ := L2.wipe_some e
          simp only [List.mem_cons, List.not_mem_nil, or_false, not_or] at nj
          rw [← hσ, List.getElem?_set_ne (Ne.symm nj.2), List.getElem?_set_ne (Ne.symm nj.1)]
          exact e
        · obtain ⟨o, e, _⟩ := st7.obj c (by rw [hfp]; exact hc)
          exact (pin' c hc o e).2
      have tk : pickB (xs.take (i + 1)) (gs.take (i + 1)) = pickB (xs.take i) (gs.take i) ++ (if gs[i] = true then [xs[i]] else []) := by
        rw [List.take_succ_eq_append_getElem lt, List.take_succ_eq_append_getElem lg']
        exact pickB_snoc _ _ _ _ (by simp; omega)
      have oldT : ∀ c o, H1 c = some o → (upd H5 T (.tup [xs[i], .bl gs[i]])) c = some o := fun c o e => by
        have e5 := old5 c o e
        rw [upd_ne (ne_of_none e5 nT)]; exact e5
      have atD : (upd H5 T (.tup [xs[i], .bl gs[i]])) D = some (.lst (pickB (xs.take i) (gs.take i))) := by rw [upd_ne DT]; exact hD5'
      cases hgi : gs[i] with
      | false =>
        simp only [Bool.false_eq_true, if_false]
        rw [hgi] at tk I9 oldT atD
        exact fin2 I9 oldT (by rw [tk]; simpa using atD)
      | true =>
        simp only [if_true]
        rw [hgi] at tk I9 oldT atD
        have pe : PE (Y.blk s3 H3 scope ce fp) (.Name wd q1) (tVar iw) := pe_var hw (.inl lkw) dw.1 dw.2
        refine thnF (pe.run _ s9 σ8 _ (fun v H' => v = xs[i] ∧ H' = upd H5 T (.tup [xs[i], .bl true])) I9 ⟨_, vw, rfl, rfl⟩) fun u s10 hh10 => ?_
        obtain ⟨v, H10, I10, r10, rfl, rfl⟩ := hh10
        refine app_ok (X := Y.blk s3 H3 scope ce fp) I10 atD (Nat.lt_of_le_of_lt (pickB_len _ _) (Nat.lt_of_le_of_lt (by simp; omega : (xs.take i).length ≤ 1000) (by decide))) r10 fun s11 I11 => fin2 I11 (fun c o e => ?_) (by rw [upd_same, tk]; simp)
        rw [upd_ne (ne_of_none e nD)]
        exact oldT c o e
    · have ei : i = xs.length := by omega
      subst ei
      refine zip_last (B := Y.blk s3 H3 scope ce fp) (hotB I5) AP I5 (by rw [hfp]; exact fo) (by rw [hfp]; exact fun hc => absurd (Nat.lt_of_lt_of_le pn (lefp _ hc).1) (Nat.lt_irrefl _)) st5 qa5 (Nat.le_refl _) fun s6 I6 => ?_
      have I7 : Inv Y pins σ H5 s6 := I3.call' (ch := fp) I6.os I6.base I6.hok I6.bare fun c hc => ⟨(f3 c hc).1.2.2.2.1, (f3 c hc).1.2.1, (f3 c hc).1.2.2.2.2.1, (f3 c hc).1.2.2.2.2.2⟩
      have nC : H5 s3.heap.objs.size = none := by rw [← cL]; exact I6.free
      obtain ⟨mm, hns, _⟩ := I6.loc
      have hns' : s6.heap.Ns s3.heap.objs.size mm := by rw [← cL]; exact hns
      obtain ⟨g0, g1, g2, g3, g4, g5⟩ := I3.fpOk (Nat.le_refl _) nC
      refine ⟨mm, hns', fun hq sb => ⟨.ref D, H5, I7.turned (t' := s6.toks) (fun c o hc e => (sb.2 c hc).trans e) g0 g1 g3 g4 g5, rfl, fin D H5 old5 nD ?_⟩⟩
      rw [hD5', List.take_length, List.take_of_length_le (by omega)]
  exact codeAny_compStart_list W (wpAny_pyIter_zip st4.1 W)
end
end AH

set_option Elab.async false
set_option linter.all false
set_option maxRecDepth 100000
set_option maxHeartbeats 4000000
set_option autoImplicit false
/-! AH3: the def that tells an error's words, called in an except suite -/
namespace AH
open PySem PySem.Spec PyProof.Rows L2 HotX L2H
/-- a def called at this very state, an error in hand -/
theorem run_hot {CX : CXT} {P : Program} {w : World} {K : PySem.W.Frag} {mg : Str → Option Value} {base : Heap} {k : Nat} {f : Addr} {name qual : Str} {params : Arguments} {body : List Stmt} {scope : Scope} {dV kV doc pm cdv ct oc : Value} {an od : Option Addr} {osl : Array (Option Value)} {N ps : List Str}
    (lk : K.lookup f = some ⟨oc, od, .func (PySem.W.fnOf name qual params body scope dV kV doc pm an cdv ct), osl⟩) (hcd : PySem.W.codeIn K cdv qual = true) (S : FnScope N ps scope) {A : Around} {outer : List Env} {s : Shared} {H : Hp} {args : Args} {us : List Value} {vs : List V} {Q : VK} {E : XK} {p : Addr × Obj}
    (hr : RoomH (k + 1) A) (hot : Hot1 A p) (hpin : PinOk outer H s p) (e0 : Env0 P w K mg base A outer s H) (hb : BindsTo s (PySem.W.fnOf name qual params body scope dV kV doc pm an cdv ct) args (ps.zip us)) (r : Vals vs us) (hl : vs.length = ps.length)
    (go : ∃ t, PSs (cxH CX P w K mg base N qual scope f cdv A outer s H E p) body t ∧ t { nx := fun _ H' => Q .non H', rt := Q } (L2.start N vs) H) : codeAny (model P w) A (.call (.ref f) args) (CR CX outer P w H s Q E) s := by
  have KX : K.In s.heap := e0.mod.kin.keeps fun b o e => (e0.bs b o e).1
  have nl : s.heap.NoLimit := e0.mod.nolimit.keeps fun b o e => (e0.bs b o e).1
  have kinds : ∀ y ∈ ps.zip us, scope.names.lookup y.1 = some .local ∨ (scope.names.lookup y.1 = some .cell ∧ ((cellsFrom (s.heap.objs.size + 1) scope.names []).lookup y.1).isSome = true) := fun y hy =>
    (S.par y.1 (List.of_mem_zip hy).1).imp id fun q => ⟨q, PySem.W.cellsFrom_some _ _ _ (.inl q)⟩
  refine codeAny_call_function hr.depth (KX _ _ lk) rfl S.co S.gen rfl (PySem.W.codeRec_of KX hcd) (hb _ _ _ _ ?_)
  refine wpAny_newFunctionEnv_cells S.kind kinds fun env he s1 x => ?_
  subst he
  refine ⟨nl.keeps x.toInCall.keep, codeAny_func ?_⟩
  obtain ⟨t, g1, g2⟩ := go
  have I := inv_startH (CX := CX) (qual := qual) (f := f) (cd := cdv) (E := E) S hpin e0 hl r x
  refine wpAny_mono (g1.run [] s1 (L2.start N vs) H _ I g2) (fun fl s2 hs => ?_) fun e s2 hs => hs
  cases fl with
  | ret u =>
    obtain ⟨v, σ', H', J, rv, q⟩ := hs
    exact ⟨v, H', J.os, J.bare, J.base, J.hok, rv, q⟩
  | next =>
    obtain ⟨σ', H', J, q⟩ := hs
    exact ⟨.non, H', J.os, J.bare, J.base, J.hok, rfl, q⟩
  | brk =>
    obtain ⟨_, _, _, q⟩ := hs
    exact q.elim
  | cont =>
    obtain ⟨_, _, _, q⟩ := hs
    exact q.elim
/-! ### the def's rows -/
def isIs (e : Expr) (x : Str) : Bool := match e with
  | .Call (.Name f _) [.Name a _, .Name y _] [] _ => decide (f = Str.ofString "isinstance") && (decide (a = Str.ofString "e") && decide (y = x))
  | _ => false
abbrev nN : List Str := ["e", "some", "words", "word", "good"]
def loC (sc : Scope) (x : Str) : Bool := decide (sc.names.lookup x = some .local)
def glC (sc : Scope) (x : Str) : Bool := decide (sc.names.lookup x = some .globalImplicit) && !(x == ("__debug__" : Str))
theorem glC_d {sc : Scope} {x : Str} (h : glC sc x = true) : sc.names.lookup x = some .globalImplicit ∧ (x == ("__debug__" : Str)) = false := by
  unfold glC at h
  rw [Bool.and_eq_true, decide_eq_true_eq, Bool.not_eq_true'] at h
  exact h
theorem loC_d {sc : Scope} {x : Str} (h : loC sc x = true) : sc.names.lookup x = some .local := of_decide_eq_true h
def owns : List (Str × Nat) := [("word", 3), ("good", 4)]
def namedC (sc : Scope) (txt : Str) (cs : List Str) (sts : List Stmt) : Bool := match sts, cs with
  | [.Assign [.Name s1 _] (.List [e1, e2, e3] _) _, .Assign [.Name s2 _] (.BinOp (.Name s3 _) .Add (.List [e4, e5, e6] _) _) _, .Assign [.Name s4 _] (.BinOp (.Name s5 _) .Add (.List [e7, e8] _) _) _,
     .Assign [.Name w1 _] (.Constant (.str t) _ _) _, .Return (some (.Call (.Attribute (.Constant (.str b1) _ _) j jp) [.ListComp (.Name wd _) [⟨.Tuple [.Name wd2 _, .Name gd _] _ _, .Call (.Name zp _) [.Call (.Attribute (.Name w2 _) sl lp) [.Constant (.str b2) _ _] [] lpos, .Name s6 _] [] zpos, [.Name gd2 _], am⟩] scope _] [] cpos)) _], [c1, c2, c3, c4, c5, c6, c7] =>
    (isIs e1 c1 && (isIs e2 c2 && (isIs e3 c3 && (isIs e4 c4 && (isIs e5 c5 && (isIs e6 c6 && (isIs e7 c7 && isIs e8 (Str.ofString "ValueError")))))))) &&
    (decide (s1 = Str.ofString "some") && (decide (s2 = Str.ofString "some") && (decide (s3 = Str.ofString "some") && (decide (s4 = Str.ofString "some") && (decide (s5 = Str.ofString "some") && (decide (s6 = Str.ofString "some") && (decide (w1 = Str.ofString "words") && (decide (w2 = Str.ofString "words") &&
    (decide (t = txt) && (decide (b1 = Str.ofString " ") && (decide (b2 = Str.ofString " ") && (decide (j = Str.ofString "join") && (decide (sl = Str.ofString "split") && (decide (zp = Str.ofString "zip") && (decide (wd = Str.ofString "word") && (decide (wd2 = Str.ofString "word") && (decide (gd = Str.ofString "good") && (decide (gd2 = Str.ofString "good") &&
    (decide (am = 0) && ((jp.endLine == cpos.line) && ((lp.endLine == lpos.line) && (blkC nN sc scope owns && (loC scope "word" && loC scope "good"))))))))))))))))))))))) &&
    (glC sc "isinstance" && (glC sc "zip" && (glC sc "ValueError" && (cs.all (glC sc) && (loC sc "e" && (loC sc "some" && loC sc "words"))))))
  | _, _ => false
section
variable {P : Program} {w : World} {K : PySem.W.Frag} {mg : Str → Option Value} {base : Heap} {qual : Str} {sc : Scope} {f : Addr} {cd : Value} {A : Around} {outer : List Env} {s : Shared} {H : Hp} {E : XK} {a D : Addr} {oe : Obj}
abbrev nY (P : Program) (w : World) (K : PySem.W.Frag) (mg : Str → Option Value) (base : Heap) (qual : Str) (sc : Scope) (f : Addr) (cd : Value) (A : Around) (outer : List Env) (s : Shared) (H : Hp) (E : XK) (a : Addr) (oe : Obj) : Cx := cxH C8.CX0 P w K mg base nN qual sc f cd A outer s H E (a, oe)
/-- isinstance(e, c) -/
theorem is_ok (C : ExcC K D) (hz : Zc (.ref D) none oe) (hf : ∃ vs, oe.data = .fields vs) {e : Expr} {x : Str} {c : V} {cv : Value} {b : Bool} (h : isIs e x = true) (le : sc.names.lookup ("e" : Str) = some .local) (gi : sc.names.lookup ("isinstance" : Str) = some .globalImplicit) (mi : mg "isinstance" = none)
    (pc : ∀ pos, PE (nY P w K mg base qual sc f cd A outer s H E a oe) (.Name x pos) (tC c)) (hc : ∀ u, RelV c u → u = cv) (ans : PySem.W.kitOne K (.ref D) cv = some b) :
    PE (nY P w K mg base qual sc f cd A outer s H E a oe) e (fun σ H Q => σ[0]? = some (some (.ref a)) ∧ Q (.bl b) H) := by
  unfold isIs at h
  split at h
  · simp only [Bool.and_eq_true, decide_eq_true_eq] at h
    obtain ⟨rfl, rfl, rfl⟩ := h
    refine ⟨fun pins s1 σ H1 Q I hq => ?_⟩
    have cr : CallR (nY P w K mg base qual sc f cd A outer s H E a oe) (.builtin "isinstance") (fun xs H Q => xs = [.ref a, c] ∧ Q (.bl b) H) := by
      intro pins s σ H xs us Q I r h
      obtain ⟨rfl, q⟩ := h
      obtain ⟨u1, u2, rfl, r1, r2⟩ := vals2 r
      cases r1
      have ec := hc _ r2
      subst ec
      obtain ⟨at_, _⟩ := I.pin (a, oe) (List.mem_append.mpr (.inl List.mem_cons_self))
      obtain ⟨fs, hfs⟩ := hf
      have J : PySem.W.InstAt s.heap a oe D none := by
        obtain ⟨o1, o2, o3, o4⟩ := oe
        obtain ⟨h1, h2⟩ := hz
        dsimp only at h1 h2 hfs
        subst h1 h2 hfs
        exact ⟨at_, rfl, rfl, trivial⟩
      exact PySem.W.kia_one (PySem.W.handS_kitx_exc C.hg C.hk C.hs C.hd C.ha C.hn C.ht C.hm) I.kIn J ans (fun z => nomatch z) fun tk => ⟨.bl b, H, I.tok tk, rfl, q⟩
    exact PE.run (pe_callB (X := nY P w K mg base qual sc f cd A outer s H E a oe) cr (show Gl _ _ from gi) mi (by decide +kernel) (pa_cons (pe_var (i := 0) (x := "e") rfl (.inl le)) (pa_cons (pc _) pa_nil (by rfl)) (by rfl)) (by decide) (by decide) (by rfl) (by rfl)) pins s1 σ H1 Q I ⟨_, hq.1, rfl, hq.2⟩
  · cases h
theorem pickB_map {α β : Type} (g : α → β) : ∀ (xs : List α) (gs : List Bool), pickB (xs.map g) gs = (pickB xs gs).map g
  | [], gs => by cases gs <;> rfl
  | x :: xs, [] => rfl
  | x :: xs, true :: gs => by simp [pickB, pickB_map g xs gs]
  | x :: xs, false :: gs => by simp [pickB, pickB_map g xs gs]
/-- what is known of the error's class and of the classes that are asked for -/
structure NameF (K : PySem.W.Frag) (mg : Str → Option Value) (D : Addr) (cs : List Str) (gs : List Bool) : Prop where
  C : ExcC K D
  len : cs.length = 7 ∧ gs.length = 8
  cls : ∀ (i : Nat) c, cs[i]? = some c → ∃ Ci b, mg c = some (.ref Ci) ∧ gs[i]? = some b ∧ PySem.W.kitOne K (.ref D) (.ref Ci) = some b
  ve : ∃ b, gs[7]? = some b ∧ PySem.W.kitOne K (.ref D) (.type "ValueError") = some b
  mv : mg "ValueError" = none
  isi : mg "isinstance" = none
  zip : mg "zip" = none
theorem named_body {txt : Str} {cs : List Str} {gs : List Bool} {ws : List Str} {sts : List Stmt} (F : NameF K mg D cs gs) (h : namedC sc txt cs sts = true) (hz : Zc (.ref D) none oe) (hf : ∃ vs, oe.data = .fields vs) (hot : Hot1 A (a, oe))
    (sp : Txt.split txt (Str.ofString " ") = ws) (hw : ws.length = 8) (ht : txt.length + 2 ≤ sizeLine) (hj : ((pickB ws gs).map (·.length)).sum + (pickB ws gs).length * (Str.ofString " ").length ≤ 16777216) {Q : VK}
    (k : ∀ H', (∀ c o, H c = some o → H' c = some o) → Q (.str (Txt.join (Str.ofString " ") (pickB ws gs))) H') :
    ∃ t, PSs (nY P w K mg base qual sc f cd A outer s H E a oe) sts t ∧ t { nx := fun _ H' => Q .non H', rt := Q } (L2.start nN [.ref a]) H := by
  unfold namedC at h
  split at h
  · simp only [Bool.and_eq_true, decide_eq_true_eq] at h
    obtain ⟨⟨⟨i1, i2, i3, i4, i5, i6, i7, i8⟩, rfl, rfl, rfl, rfl, rfl, rfl, rfl, rfl, rfl, rfl, rfl, rfl, rfl, rfl, rfl, rfl, rfl, rfl, rfl, l1, l2, bk, lw, lg⟩, gi, gz, gv, gcs, le, ls, lwd⟩ := h
    obtain ⟨C1, b1, m1, a1, k1⟩ := F.cls 0 _ rfl
    obtain ⟨C2, b2, m2, a2, k2⟩ := F.cls 1 _ rfl
    obtain ⟨C3, b3, m3, a3, k3⟩ := F.cls 2 _ rfl
    obtain ⟨C4, b4, m4, a4, k4⟩ := F.cls 3 _ rfl
    obtain ⟨C5, b5, m5, a5, k5⟩ := F.cls 4 _ rfl
    obtain ⟨C6, b6, m6, a6, k6⟩ := F.cls 5 _ rfl
    obtain ⟨C7, b7, m7, a7, k7⟩ := F.cls 6 _ rfl
    obtain ⟨b8, a8, k8⟩ := F.ve
    have hgs : gs = [b1, b2, b3, b4, b5, b6, b7, b8] := by
      have hl := F.len.2
      match gs, hl with
      | [x1, x2, x3, x4, x5, x6, x7, x8], _ =>
        simp at a1 a2 a3 a4 a5 a6 a7 a8
        rw [a1, a2, a3, a4, a5, a6, a7, a8]
    have gg : ∀ c ∈ _, _ := List.all_eq_true.mp gcs
    have S := fun {e : Expr} {x : Str} {Ci : Addr} {b : Bool} (h : isIs e x = true) (g : glC sc x = true) (m : mg x = some (.ref Ci)) (ans : PySem.W.kitOne K (.ref D) (.ref Ci) = some b) =>
      is_ok (P := P) (w := w) (base := base) (qual := qual) (f := f) (cd := cd) (A := A) (outer := outer) (s := s) (H := H) (E := E) (a := a) F.C hz hf h (loC_d le) (glC_d gi).1 F.isi (fun pos => pe_glob (v := .ref Ci) (show Gl _ _ from (glC_d g).1) m rfl (glC_d g).2) (fun u r => r) ans
    have w8 := is_ok (P := P) (w := w) (base := base) (qual := qual) (f := f) (cd := cd) (A := A) (outer := outer) (s := s) (H := H) (E := E) (a := a) F.C hz hf i8 (loC_d le) (glC_d gi).1 F.isi (fun pos => pe_bltn (v := .ty "ValueError") (show Gl _ _ from (glC_d gv).1) F.mv (by decide +kernel) rfl) (fun u r => r) k8
    have w1 := S i1 (gg _ (by simp)) m1 k1
    have w2 := S i2 (gg _ (by simp)) m2 k2
    have w3 := S i3 (gg _ (by simp)) m3 k3
    have w4 := S i4 (gg _ (by simp)) m4 k4
    have w5 := S i5 (gg _ (by simp)) m5 k5
    have w6 := S i6 (gg _ (by simp)) m6 k6
    have w7 := S i7 (gg _ (by simp)) m7 k7
    have nd : nN.Nodup := by decide +kernel
    have ns : ∀ {e : Expr} {x : Str}, isIs e x = true → AP.noStar e = true := fun {e x} h => by
      unfold isIs at h
      split at h
      · rfl
      · cases h
    have sc1 := fun {e : Expr} {x : Str} (h : isIs e x = true) es => AP.star_cons (ns h) es (nY P w K mg base qual sc f cd A outer s H E a oe).env
    have ok := blkOk_by bk
    have vs : PE (nY P w K mg base qual sc f cd A outer s H E a oe) (.Name "some" ⟨0, 0, 0, 0⟩) (tVar 1) := pe_var rfl (.inl (loC_d ls))
    refine ⟨_, pss_cons (ps_set (i := 1) nd rfl (.inl (loC_d ls)) (pe_lst (pa_cons w1 (pa_cons w2 (pa_cons w3 pa_nil (sc1 i3 _)) (sc1 i2 _)) (sc1 i1 _))) (by rfl) (.inl rfl))
      (pss_cons (ps_set (i := 1) nd rfl (.inl (loC_d ls)) (pe_op op_cat (pe_var (i := 1) rfl (.inl (loC_d ls))) (pe_lst (pa_cons w4 (pa_cons w5 (pa_cons w6 pa_nil (sc1 i6 _)) (sc1 i5 _)) (sc1 i4 _)))) (by rfl) (.inl rfl))
      (pss_cons (ps_set (i := 1) nd rfl (.inl (loC_d ls)) (pe_op op_cat (pe_var (i := 1) rfl (.inl (loC_d ls))) (pe_lst (pa_cons w7 (pa_cons w8 pa_nil (sc1 i8 _)) (sc1 i7 _)))) (by rfl) (.inl rfl))
      (pss_cons (ps_set (i := 2) nd rfl (.inl (loC_d lwd)) pe_str (by rfl) (.inl rfl))
      (pss_one (ps_ret (pe_join pe_str (pe_pick (iw := 3) (ig := 4) (p := (a, oe)) ⟨hot.1, hot.2⟩ List.mem_cons_self nd rfl rfl (by decide) ok (loC_d lw) (loC_d lg) (by decide) (by decide) (show Gl _ _ from (glC_d gz).1) F.zip
        (pa_cons (pe_split (pe_var (i := 2) rfl (.inl (loC_d lwd))) pe_str (by rfl) (by rfl) l2) (pa_cons (pe_var (i := 1) rfl (.inl (loC_d ls))) pa_nil (by rfl)) (by rfl)) (by rfl) (by rfl)) (by rfl) (by rfl) l1)))))), ?_⟩
    subst hgs
    refine ⟨rfl, rfl, rfl, by show 3 ≤ sizeLine; decide, fun q1 h1 => ?_⟩
    have g1 : ∀ c o, H c = some o → (upd H q1 (.lst [.bl b1, .bl b2, .bl b3])) c = some o := fun c o e => by rw [upd_ne (ne_of_none e h1)]; exact e
    refine ⟨_, rfl, rfl, rfl, rfl, by show 3 ≤ sizeLine; decide, fun q2 h2 => ?_⟩
    have n12 : q1 ≠ q2 := ne_of_none upd_same h2
    refine ⟨q1, q2, _, _, rfl, rfl, by rw [upd_ne n12]; exact upd_same, upd_same, by show 3 + 3 ≤ sizeLine; decide, fun q3 h3 => ?_⟩
    generalize hH2 : upd (upd H q1 (.lst [.bl b1, .bl b2, .bl b3])) q2 (.lst [.bl b4, .bl b5, .bl b6]) = H2 at h3
    have g2 : ∀ c o, H c = some o → H2 c = some o := fun c o e => by rw [← hH2, upd_ne (ne_of_none (g1 c o e) h2)]; exact g1 c o e
    refine ⟨_, rfl, rfl, rfl, by show 2 ≤ sizeLine; decide, fun q4 h4 => ?_⟩
    have n34 : q3 ≠ q4 := ne_of_none upd_same h4
    refine ⟨q3, q4, _, _, rfl, rfl, by rw [upd_ne n34]; exact upd_same, upd_same, by show 6 + 2 ≤ sizeLine; decide, fun q5 h5 => ?_⟩
    generalize hH4 : upd (upd H2 q3 (.lst ([.bl b1, .bl b2, .bl b3] ++ [.bl b4, .bl b5, .bl b6]))) q4 (.lst [.bl b7, .bl b8]) = H4 at h5
    have g4 : ∀ c o, H c = some o → H4 c = some o := fun c o e => by
      have e3 : (upd H2 q3 (.lst ([.bl b1, .bl b2, .bl b3] ++ [.bl b4, .bl b5, .bl b6]))) c = some o := by rw [upd_ne (ne_of_none (g2 c o e) h3)]; exact g2 c o e
      rw [← hH4, upd_ne (ne_of_none e3 h4)]; exact e3
    generalize hL : ([.bl b1, .bl b2, .bl b3] ++ [.bl b4, .bl b5, .bl b6] ++ [.bl b7, .bl b8] : List V) = L
    have eL : L = [b1, b2, b3, b4, b5, b6, b7, b8].map V.bl := by rw [← hL]; rfl
    have g5 : ∀ c o, H c = some o → (upd H4 q5 (.lst L)) c = some o := fun c o e => by rw [upd_ne (ne_of_none (g4 c o e) h5)]; exact g4 c o e
    refine ⟨⟨_, rfl⟩, _, rfl, ⟨_, rfl⟩, _, _, rfl, rfl, by decide, ht, fun q6 h6 => ?_⟩
    have n56 : q5 ≠ q6 := ne_of_none upd_same h6
    refine ⟨_, rfl, q6, q5, ws.map V.str, [b1, b2, b3, b4, b5, b6, b7, b8], rfl, SqL.of (by rw [upd_same, sp]), SqL.of (by rw [upd_ne n56, upd_same, eL]), by simp [hw], by simp [hw], fun q7 H7 up n7 e7 => ?_⟩
    rw [pickB_map] at e7
    exact ⟨_, q7, _, rfl, rfl, .inl (SqL.of e7), hj, k H7 fun c o e => up c o (by rw [upd_ne (ne_of_none (g5 c o e) h6)]; exact g5 c o e)⟩
  · cases h
end
end AH

set_option Elab.async false
set_option linter.all false
set_option maxRecDepth 100000
set_option maxHeartbeats 4000000
set_option autoImplicit false
/-! AH4: the def that calls what it is handed and tells its error -/
namespace AH
open PySem PySem.Spec PyProof.Rows L2 HotX L2H
theorem zip_vs {α : Type} : True := trivial
/-- the def that tells an error's words -/
structure NamD (K : PySem.W.Frag) (mg : Str → Option Value) (nf txt : Str) (cs : List Str) : Prop where
  ex : ∃ (fN : Addr) (pa : Arguments) (bd : List Stmt) (sc : Scope) (dV kV doc pm cdv ct oc : Value) (an od : Option Addr) (osl : Array (Option Value)), mg nf = some (.ref fN) ∧ PySem.W.keepIn K (.ref fN) = true ∧
    K.lookup fN = some ⟨oc, od, .func (PySem.W.fnOf nf nf pa bd sc dV kV doc pm an cdv ct), osl⟩ ∧ PySem.W.codeIn K cdv nf = true ∧ L2.Binds K (PySem.W.fnOf nf nf pa bd sc dV kV doc pm an cdv ct) ["e"] [] ∧ FnScope nN ["e"] sc ∧ namedC sc txt cs bd = true
/-- what is known of the errors: the n-th one's class, its words -/
structure ErrF (K : PySem.W.Frag) (mg : Str → Option Value) (cls : Nat → Value) (words : List Str) (pe : Str) (txt : Str) (cs : List Str) : Prop where
  sp : ((Txt.split txt (Str.ofString " ")).length = 8) ∧ txt.length + 2 ≤ sizeLine
  pe : ∃ CP, mg pe = some (.ref CP) ∧ ∀ (c : Nat) x, words[c]? = some x → ∃ (D : Addr) (gs : List Bool), cls c = .ref D ∧ NameF K mg D cs gs ∧ PySem.W.exmOne K (.ref D) (.ref CP) = some true ∧ x = Txt.join (Str.ofString " ") (pickB (Txt.split txt (Str.ofString " ")) gs) ∧
    ((pickB (Txt.split txt (Str.ofString " ")) gs).map (·.length)).sum + (pickB (Txt.split txt (Str.ofString " ")) gs).length * (Str.ofString " ").length ≤ 16777216
theorem takes0N {X : Cx} : L2N.Takes X (fun _ _ _ _ => False) := fun _ _ x => by
  obtain ⟨_, _, _, _, _, _, _, _, _, _, _, _, _, _, _, _, z⟩ := x
  exact z.elim
/-- nf(e) in an except suite -/
theorem pe_named {Y : Cx} {a D : Addr} {oe : Obj} {pn : List (Addr × Obj)} {en nf txt : Str} {cs : List Str} {gs : List Bool} {q1 q2 q3 : Pos} (N : NamD Y.K Y.mg nf txt cs) (F : NameF Y.K Y.mg D cs gs) (hz : L2N.Zn (.ref D) none oe) (hf : ∃ vs, oe.data = .fields vs) (hr : RoomH 1 Y.A)
    (sp : ((Txt.split txt (Str.ofString " ")).length = 8) ∧ txt.length + 2 ≤ sizeLine) (hj : ((pickB (Txt.split txt (Str.ofString " ")) gs).map (·.length)).sum + (pickB (Txt.split txt (Str.ofString " ")) gs).length * (Str.ofString " ").length ≤ 16777216)
    (hN : Y.N[1]? = some en) (hv : Vis Y.env.scope en) (d1 : (en == ("__debug__" : Str)) = false ∧ (en == ("__classdict__" : Str)) = false) (gn : Gl Y nf) (dn : (nf == ("__debug__" : Str)) = false) :
    PE (Y.suite a ((a, oe) :: pn)) (.Call (.Name nf q1) [.Name en q2] [] q3) (fun σ H Q => σ[1]? = some (some (.ref a)) ∧ ∀ H', (∀ c o, H c = some o → H' c = some o) → Q (.str (Txt.join (Str.ofString " ") (pickB (Txt.split txt (Str.ofString " ")) gs))) H') := by
  obtain ⟨fN, pa, bd, sc, dV, kV, doc, pm, cdv, ct, oc, an, od, osl, m1, k1, lk, hcd, hb, S, ck⟩ := N.ex
  refine ⟨fun pins s σ H Q I h => ?_⟩
  refine wpAny_Call_Name_kw (ld_glob I (show Gl _ _ from gn) m1 ?_ dn)
  refine PySem.W.callWith_K (h₀ := Y.base) I.ok.mod.kin k1 (thn ((pa_cons (X := Y.suite a ((a, oe) :: pn)) (pe_var (i := 1) hN hv d1.1 d1.2) pa_nil (by rfl)).run q3 pins s σ H (fun vs H1 => vs = [.ref a] ∧ H1 = H) I ⟨_, h.1, rfl, rfl⟩) fun us s1 hu => ?_) (by rfl) (by rfl)
  obtain ⟨vs, H1, I1, r, rfl, rfl⟩ := hu
  refine ⟨I1.kIn, ?_⟩
  obtain ⟨fs, hfs⟩ := hf
  have hot : Hot1 (Y.suite a ((a, oe) :: pn)).A (a, oe) := ⟨rfl, fs, hfs, hz.2.2 fs hfs⟩
  have P1 := I1.pin (a, oe) (List.mem_append_left _ List.mem_cons_self)
  have hpin : PinOk (Y.suite a ((a, oe) :: pn)).stack H1 s1 (a, oe) := ⟨P1.1, P1.2.1, fun hm => (List.mem_cons.mp (I1.stkSub a hm)).elim P1.2.2.1 P1.2.2.2.1, P1.2.2.2.2⟩
  have hl : us.length = 1 := by rw [← r.length]; rfl
  have b := hb s1 us I1.kIn (by rw [List.append_nil]; exact hl)
  rw [List.append_nil] at b
  have run := run_hot (CX := C8.CX0) (E := C8.E0) (Q := Q) (vs := [.ref a]) lk hcd S (k := 0) (show RoomH (0 + 1) (Y.suite a ((a, oe) :: pn)).A from ⟨hr.dp, hr.un⟩) hot hpin I1.env0 b r rfl
    (named_body F ck ⟨hz.1, hz.2.1⟩ ⟨fs, hfs⟩ hot rfl sp.1 sp.2 hj h.2)
  refine wpAny_call (codeAny_mono run fun r s2 hq => ?_)
  cases r with
  | error e => exact (show False from hq).elim
  | ok fl =>
    cases fl with
    | ret u => exact I1.after hq
    | next => exact hq.elim
    | brk => exact hq.elim
    | cont => exact hq.elim
/-- try: f() / except E as e: return g(e) / return '' -/
def errC (sc : Scope) (pe nf : Str) (sts : List Stmt) : Bool := match sts with
  | [.Try [.Expr (.Call (.Name a _) [] [] _) _] [.ExceptHandler (some (.Name p _)) (some en) [.Return (some (.Call (.Name g _) [.Name en2 _] [] _)) _] _] [] [] _, .Return (some (.Constant (.str r0) _ _)) _] =>
    decide (a = Str.ofString "call") && (decide (p = pe) && (decide (en = Str.ofString "e") && (decide (en2 = Str.ofString "e") && (decide (g = nf) && (decide (r0 = Str.empty) && (glC sc pe && (glC sc nf && (loC sc "e" && loC sc "call"))))))))
  | _ => false
theorem err_gives {X : Cx} {x pe nf txt : Str} {cs : List Str} {sc : Scope} {g : Addr} {cdg : Value} {bg : List Stmt} {q : Str} {cls : Nat → Value} {words : List Str} (N : NamD X.K X.mg nf txt cs) (F : ErrF X.K X.mg cls words pe txt cs) (S : FnScope ["call", "e"] ["call"] sc) (ck : errC sc pe nf bg = true) :
    AL.GivesN X ["call", "e"] x sc g cdg bg "call" q (AP.TTh false words cls) := by
  intro f c' s H Q tl act hc hT hr hb
  unfold errC at ck
  split at ck
  · simp only [Bool.and_eq_true, decide_eq_true_eq] at ck
    obtain ⟨rfl, rfl, rfl, rfl, rfl, rfl, gp, gn, le, lc⟩ := ck
    obtain ⟨CP, mP, hcl⟩ := F.pe
    refine ⟨_, pss_cons (L2N.ps_try_as (X := (AL.hctx C8.CX0 X ["call", "e"] x sc g cdg s H C8.E0).nox) (c := .ref CP) (i := 1) (Wout := fun _ _ _ _ => False)
      (tb := fun W D σ H => ∃ Ech : XK, (∀ cls d σ' H', Ech cls d H' → W cls d σ' H') ∧ σ[0]? = some (some (.ref f)) ∧ H c' = some (LamX.CodeO c' q) ∧ tl Ech H (fun _ H1 => D.nx σ H1))
      (ts := fun a cl d D σ H => (1 < σ.length → σ[1]? = some (some (.ref a))) ∧ d = none ∧ ∃ (c : Nat) (z : Str), words[c]? = some z ∧ cl = cls c ∧ ∀ H', (∀ c o, H c = some o → H' c = some o) → D.rt (.str z) H')
      rfl rfl S.nd rfl (loC_d le) ⟨show Gl _ _ from (glC_d gp).1, (glC_d gp).2, .inl mP⟩ takes0N (fun W pn xe tk po => ?_) (fun a oe cl d pn hz hf => ?_)) (pss_one (ps_ret pe_str)), ?_⟩
    · refine ⟨fun pins s' σ H' D I h' => ?_⟩
      obtain ⟨Ech, hW, h1, h2, h3⟩ := h'
      exact (pss_one (ps_expr (act W pn xe Ech _ _ tk hW) (by rfl))).run pins s' σ H' D I ⟨h1, h2, h3⟩
    · refine ⟨fun pins s' σ H' D I h' => ?_⟩
      obtain ⟨h1, rfl, c, z, hw, rfl, h2⟩ := h'
      obtain ⟨D', gs, e1, nf', _, e2, e3⟩ := hcl c z hw
      rw [e1] at hz
      have hl : 1 < σ.length := by rw [I.len]; show 1 < 2; decide
      subst e2
      refine (pss_one (ps_ret (pe_named (Y := (AL.hctx C8.CX0 X ["call", "e"] x sc g cdg s H C8.E0).nox) N nf' hz hf (roomH_of hr) F.sp e3 rfl (.inl (loC_d le)) (by decide) (show Gl _ _ from (glC_d gn).1) (glC_d gn).2))).run pins s' σ H' D I ⟨h1 hl, h2⟩
    · refine ⟨fun cl d H' => d = none ∧ ∃ (c : Nat) (z : Str), words[c]? = some z ∧ cl = cls c ∧ ∀ H'', (∀ c o, H' c = some o → H'' c = some o) → Q (.str z) H'', ?_, rfl, hc, hT _ _ ?_ ?_⟩
      · rintro cl d σ' H' ⟨rfl, c, z, hw, rfl, k⟩
        obtain ⟨D', gs, e1, nf', ex, e2, e3⟩ := hcl c z hw
        rw [e1]
        refine ⟨true, ex, fun _ a na => ⟨fun hl => ?_, rfl, c, z, hw, e1.symm, k⟩, fun z => by cases z⟩
        exact List.getElem?_set_self (by simpa using hl)
      · rintro cl d H' ⟨rfl, c, z, hw, rfl, k⟩
        exact ⟨rfl, c, z, hw, rfl, fun H'' gr => by simpa [AP.hres] using k H'' gr⟩
      · intro v H' k
        have q := k H' (fun _ _ e => e)
        unfold AP.hres at q
        rw [if_neg Bool.false_ne_true] at q
        exact q
  · cases ck
end AH

set_option Elab.async false
set_option linter.all false
set_option maxRecDepth 100000
set_option maxHeartbeats 4000000
set_option autoImplicit false
/-! AE1: a law's end, out of its lists -/
namespace AP
open PySem PySem.Spec PyProof.Rows L2
def defD (I : FnI) : He.DefD := ⟨(I.name, none), I.name, I.name, defArgs I.st, defBody I.st, defScope I.st, [], []⟩
/-- the class's answers to isinstance -/
def excB (K : PySem.W.Frag) (D : Addr) : Bool := He.eqO (PySem.W.findIn K (.ref D) "__getattribute__") (some (some (.builtin "BaseException.__getattribute__"))) && (He.eqO (PySem.W.findIn K (.ref D) "__getattr__") (some none) &&
  (decide (PySem.W.subIn K (.ref D) (.type "BaseException") = some true) && (PySem.W.hasDictIn K D && (He.eqO (PySem.W.findIn K (.ref D) "__class__") (some (some (.builtin "object.__class__"))) &&
  (decide (PySem.W.specialIn K (.builtin "object.__class__") "__get__" = some (some (.builtin "getset_descriptor.__get__"))) && (decide (PySem.W.takesIn K (.builtin "object.__class__") = some true) && decide (PySem.W.mroIn K D (.type "object") = some true)))))))
theorem excB_ok {K : PySem.W.Frag} {D : Addr} (h : excB K D = true) : ExcC K D := by
  unfold excB at h
  simp only [Bool.and_eq_true, decide_eq_true_eq] at h
  obtain ⟨h1, h2, h3, h4, h5, h6, h7, h8⟩ := h
  exact ⟨He.eqO_ok h1, He.eqO_ok h2, h3, h4, He.eqO_ok h5, h6, h7, h8⟩
def kitB (K : PySem.W.Frag) (D : Addr) : List Str → List Bool → Bool
  | c :: cs, b :: bs => decide (PySem.W.kitOne K (.ref D) (.ref (He.ga K c)) = some b) && kitB K D cs bs
  | [], [b] => decide (PySem.W.kitOne K (.ref D) (.type "ValueError") = some b)
  | _, _ => false
theorem kitB_ok {K : PySem.W.Frag} {D : Addr} : ∀ {cs : List Str} {gs : List Bool}, kitB K D cs gs = true → gs.length = cs.length + 1 ∧ (∀ (i : Nat) c, cs[i]? = some c → ∃ b, gs[i]? = some b ∧ PySem.W.kitOne K (.ref D) (.ref (He.ga K c)) = some b) ∧ ∃ b, gs[cs.length]? = some b ∧ PySem.W.kitOne K (.ref D) (.type "ValueError") = some b
  | c :: cs, b :: bs, h => by
    rw [kitB, Bool.and_eq_true, decide_eq_true_eq] at h
    obtain ⟨h1, h2, h3⟩ := kitB_ok h.2
    refine ⟨by simp [h1], fun i x hx => ?_, by simpa using h3⟩
    cases i with
    | zero => simp at hx; subst hx; exact ⟨b, rfl, h.1⟩
    | succ i => simpa using h2 i x (by simpa using hx)
  | [], [b], h => ⟨rfl, fun i c hc => by simp at hc, b, rfl, by simpa [kitB] using h⟩
  | [], [], h => by simp [kitB] at h
  | [], _ :: _ :: _, h => by simp [kitB] at h
  | _ :: _, [], h => by simp [kitB] at h
/-- the errors: each class's name and its answers; the tables apart -/
def exB (cs : List Str) (errs : List (Str × List Bool)) (tf : List He.Defn) (K : PySem.W.Frag) : Bool := (errs.all fun e => excB K (He.ga K e.1) && kitB K (He.ga K e.1) cs e.2) && (tf.all fun p => tf.all fun q => !(decide ((He.cT K p).2 = (He.cT K q).2)) || decide (p = q)) &&
  tf.all fun p => !(decide ((He.cT K p).2 = mainGlobals))
/-- a law's lists -/
structure LawL where
  G : Gx
  info : List FnI
  tbl : List FnDef
  law : Nat
  /-- the def that calls what it is handed, the one that tells an error's words -/
  hand : List FnI
  /-- the classes asked for, the text of the words -/
  cs : List Str
  txt : Str
  pe : Str
  /-- each error's answers -/
  ans : List (List Bool)
namespace LawL
variable (L : LawL)
def fn : List He.DefD := (L.info ++ L.hand).map defD
def frees : List Str := ["len", "abs", "int", "tuple", "list", "all", "any", "str", "max", "bool", "isinstance", "range", "zip", "enumerate", "ValueError"]
def gints : List He.Fa := L.G.globs.filterMap fun p => match p.2 with
  | .int i => some (.int p.1 i)
  | _ => none
def fa : List He.Fa := (L.info ++ L.hand).map (fun I => .glo I.name) ++ (frees.map .free ++ (L.gints ++ (L.G.errs.map .exc ++ (L.G.errs.map .glo ++ ((if L.hand = [] then [] else L.cs.map .glo ++ [.glo L.pe]) ++ (if L.hand = [] then [] else L.G.errs.map fun x => .exm x L.pe true))))))
def tf : List He.Defn := (L.info.filter (·.lam)).map fun I => (I.name, none)
def ex : PySem.W.Frag → Bool := exB L.cs (if L.hand = [] then [] else L.G.errs.zip L.ans) L.tf
end LawL
/-- how a def's parameters are bound -/
def Bnd (I : FnI) : Prop := ∀ (kV doc pm : Value) (an : Option Addr) (cdv ct : Value) (us : List Value), us.length = I.ps.length → bindArgs (PySem.W.fnOf I.name I.name (defArgs I.st) (defBody I.st) (defScope I.st) .none kV doc pm an cdv ct) ⟨us, []⟩ = pure (I.ps.zip us)
def wordC (words : List Str) (ans : List (List Bool)) (txt : Str) : Bool := decide (words.length = ans.length) && ((words.zip ans).all fun p => decide (p.1 = Txt.join (Str.ofString " ") (AH.pickB (Txt.split txt (Str.ofString " ")) p.2)) &&
  decide (((AH.pickB (Txt.split txt (Str.ofString " ")) p.2).map (·.length)).sum + (AH.pickB (Txt.split txt (Str.ofString " ")) p.2).length * (Str.ofString " ").length ≤ 16777216)) && (decide ((Txt.split txt (Str.ofString " ")).length = 8) && decide (txt.length + 2 ≤ sizeLine))
/-- what a look at a law's lists shows -/
structure LawL.Ok (L : LawL) : Prop where
  chk : chkAll L.G 0 L.info L.tbl = true
  len : L.G.fns.length = L.info.length
  gi : (L.G.globs.all fun p => match p.2 with
    | .int _ => true
    | _ => false) = true
  law : ∃ I, L.info[L.law]? = some I ∧ I.ps = [("script" : Str)] ∧ I.name = "law"
  bnd : ∀ I ∈ L.info ++ L.hand, Bnd I
  hs : L.G.hs = [] ∨ ∃ eI nI, L.hand = [eI, nI] ∧ L.G.hs = [(eI.name, false)] ∧ eI.ps = [("call" : Str)] ∧ nI.ps = [("e" : Str)] ∧ AH.errC (defScope eI.st) L.pe nI.name (defBody eI.st) = true ∧ scopeC ["call", "e"] ["call"] (defScope eI.st) = true ∧
    AH.namedC (defScope nI.st) L.txt L.cs (defBody nI.st) = true ∧ scopeC AH.nN ["e"] (defScope nI.st) = true ∧ wordC L.G.words L.ans L.txt = true ∧ L.cs.length = 7 ∧ L.G.words.length = L.G.errs.length
section
variable {L : LawL} {w : World} {h : Heap} {K : PySem.W.Frag} {mg : Str → Option Value}
theorem LawL.fun_ (c : He.SaysX L.fa L.fn [] L.tf L.ex w h K) (X : K.In h) (Gn : h.Ns mainGlobals mg) (O : L.Ok) {I : FnI} (hI : I ∈ L.info ++ L.hand) :
    ∃ fd, mg I.name = some (.ref (He.ga K I.name)) ∧ FunD K I.name I.name (defArgs I.st) (defBody I.st) (defScope I.st) [] [] (He.ga K I.name) fd ∧ L2.Binds K fd I.ps [] := by
  obtain ⟨fd, F⟩ := c.t.d.defs (d := defD I) (List.mem_map.mpr ⟨I, hI, rfl⟩)
  exact ⟨fd, He.glo_ok X Gn (c.t.d.facts (List.mem_append_left _ (List.mem_map.mpr ⟨I, hI, rfl⟩))), F, FunD.bindsN (ps := I.ps) F (O.bnd I hI)⟩
theorem LawL.free (c : He.SaysX L.fa L.fn [] L.tf L.ex w h K) (X : K.In h) (Gn : h.Ns mainGlobals mg) {x : Str} (hx : x ∈ LawL.frees) : mg x = none :=
  He.free_ok X Gn (c.t.d.facts (List.mem_append_right _ (List.mem_append_left _ (List.mem_map.mpr ⟨x, hx, rfl⟩))))
theorem LawL.mod (c : He.SaysX L.fa L.fn [] L.tf L.ex w h K) (X : K.In h) (Gn : h.Ns mainGlobals mg) (O : L.Ok) {P : Program} {base : Heap} (TB : ∀ p ∈ L.tf.map (He.cT K), LamX.TabB base mg p.1 p.2) :
    ModF L.G L.info (L.tf.map fun p => ((He.cT K p).2, p.1 ++ ".<locals>." ++ "<lambda>")) (fun i => .ref (He.ga K (L.G.errs.getD i Str.empty))) P w K mg base where
  fn := fun i I hI => by
    have hm : I ∈ L.info := List.mem_of_getElem? hI
    obtain ⟨fd, h1, h2, h3⟩ := LawL.fun_ c X Gn O (List.mem_append_left _ hm)
    refine ⟨_, fd, h1, h2, h3, fun hl => ?_⟩
    have hp : ((I.name, none) : He.Defn) ∈ L.tf := List.mem_map.mpr ⟨I, List.mem_filter.mpr ⟨hm, hl⟩, rfl⟩
    obtain ⟨oc, od, dV, kV, doc, pm, an, cdv, ct, osl, rfl, lk, hcd, _, _⟩ := h2.ex
    obtain ⟨cc, rfl⟩ := He.codeIn_ref hcd
    have e : He.codeOf K (I.name, none) = cc := He.codeOf_eq (p := (I.name, none)) lk rfl
    refine ⟨cc, (He.cT K (I.name, none)).2, rfl, ?_, List.mem_map.mpr ⟨_, hp, rfl⟩, fun q hq hq2 => ?_⟩
    · have := TB (He.cT K (I.name, none)) (List.mem_map.mpr ⟨_, hp, rfl⟩)
      rw [show (He.cT K (I.name, none)).1 = cc from e] at this
      exact this
    · obtain ⟨q0, hq0, rfl⟩ := List.mem_map.mp hq
      have hx := c.more
      unfold LawL.ex exB at hx
      rw [Bool.and_eq_true, Bool.and_eq_true] at hx
      have h5 := List.all_eq_true.mp (List.all_eq_true.mp hx.1.2 q0 hq0) _ hp
      rw [Bool.or_eq_true, decide_eq_true_eq] at h5
      rcases h5 with h5 | h5
      · rw [decide_eq_true hq2] at h5; cases h5
      · rw [h5]
  glob := fun i x pv hg => by
    have hi := List.all_eq_true.mp O.gi (x, pv) (List.mem_of_getElem? hg)
    cases pv with
    | int j =>
      have hf : He.Fa.int x j ∈ L.fa := List.mem_append_right _ (List.mem_append_right _ (List.mem_append_left _ (List.mem_filterMap.mpr ⟨(x, .int j), List.mem_of_getElem? hg, rfl⟩)))
      obtain ⟨t, e⟩ := He.int_ok X Gn (c.t.d.facts hf)
      exact ⟨_, .int j, e, ⟨t, rfl⟩, fun _ _ _ => .int j⟩
    | _ => cases hi
  bi := fun b => LawL.free c X Gn (by cases b <;> decide)
  ty := fun t => LawL.free c X Gn (by cases t <;> decide)
  isi := LawL.free c X Gn (by decide)
  rng := LawL.free c X Gn (by decide)
  zip := LawL.free c X Gn (by decide)
  enu := LawL.free c X Gn (by decide)
  hand := fun k i x told hh => by
    rcases O.hs with e | ⟨eI, nI, e1, e2, e3, e4, e5, e6, e7, e8, e9, e10, e11⟩
    · rw [e] at hh; simp at hh
    · rw [e2] at hh
      have hx : x = eI.name ∧ told = false := by
        cases i with
        | zero => simp at hh; exact ⟨hh.1.symm, by cases told <;> simp_all⟩
        | succ i => simp at hh
      obtain ⟨rfl, rfl⟩ := hx
      obtain ⟨fd, h1, h2, h3⟩ := LawL.fun_ c X Gn O (I := eI) (List.mem_append_right _ (by rw [e1]; simp))
      obtain ⟨fd2, g1, g2, g3⟩ := LawL.fun_ c X Gn O (I := nI) (List.mem_append_right _ (by rw [e1]; simp))
      have kp1 := h2.kp
      have kp2 := g2.kp
      obtain ⟨oc, od, dV, kV, doc, pm, an, cdv, ct, osl, rfl, lk, hcd, _, _⟩ := h2.ex
      obtain ⟨oc2, od2, dV2, kV2, doc2, pm2, an2, cdv2, ct2, osl2, rfl, lk2, hcd2, _, _⟩ := g2.ex
      rw [e3] at h3
      rw [e4] at g3
      have S1 := scopeC_ok e6
      have N : AH.NamD K mg nI.name L.txt L.cs := ⟨⟨_, _, _, _, _, _, _, _, _, _, _, _, _, _, g1, kp2, lk2, hcd2, g3, scopeC_ok e8, e7⟩⟩
      unfold wordC at e9
      simp only [Bool.and_eq_true, decide_eq_true_eq] at e9
      obtain ⟨⟨w1, w2⟩, w3, w4⟩ := e9
      have hx := c.more
      unfold LawL.ex exB at hx
      rw [Bool.and_eq_true, Bool.and_eq_true] at hx
      have hne : L.hand ≠ [] := by rw [e1]; simp
      rw [if_neg hne] at hx
      have hfa : ∀ f, f ∈ (L.cs.map He.Fa.glo ++ [.glo L.pe]) → f.ok K = true := fun f hf => c.t.d.facts (List.mem_append_right _ (List.mem_append_right _ (List.mem_append_right _ (List.mem_append_right _ (List.mem_append_right _ (List.mem_append_left _ (by rw [if_neg hne]; exact hf)))))))
      have hfx : ∀ f, f ∈ (L.G.errs.map fun x => He.Fa.exm x L.pe true) → f.ok K = true := fun f hf => c.t.d.facts (List.mem_append_right _ (List.mem_append_right _ (List.mem_append_right _ (List.mem_append_right _ (List.mem_append_right _ (List.mem_append_right _ (by rw [if_neg hne]; exact hf)))))))
      have F : AH.ErrF K mg (fun i => .ref (He.ga K (L.G.errs.getD i Str.empty))) L.G.words L.pe L.txt L.cs := by
        refine ⟨⟨w3, w4⟩, He.ga K L.pe, He.glo_ok X Gn (hfa _ (by simp)), fun j x hj => ?_⟩
        have lj : j < L.G.words.length := (List.getElem?_eq_some_iff.mp hj).1
        have la : j < L.ans.length := by rw [← w1]; exact lj
        have le : j < L.G.errs.length := by rw [← e11]; exact lj
        have q1 := List.all_eq_true.mp w2 (x, L.ans[j]) (by
          rw [List.mem_iff_getElem?]
          exact ⟨j, by rw [List.getElem?_zip_eq_some]; exact ⟨hj, List.getElem?_eq_getElem la⟩⟩)
        rw [Bool.and_eq_true, decide_eq_true_eq, decide_eq_true_eq] at q1
        have q2 := List.all_eq_true.mp hx.1.1 (L.G.errs[j], L.ans[j]) (by
          rw [List.mem_iff_getElem?]
          exact ⟨j, by rw [List.getElem?_zip_eq_some]; exact ⟨List.getElem?_eq_getElem le, List.getElem?_eq_getElem la⟩⟩)
        rw [Bool.and_eq_true] at q2
        obtain ⟨k1, k2, k3⟩ := kitB_ok q2.2
        have eD : L.G.errs.getD j Str.empty = L.G.errs[j] := by rw [List.getD_eq_getElem?_getD, List.getElem?_eq_getElem le]; rfl
        refine ⟨He.ga K L.G.errs[j], L.ans[j], by rw [eD], ⟨excB_ok q2.1, ⟨e10, by rw [k1, e10]⟩, fun n cc hc => ?_, ?_, LawL.free c X Gn (by decide), LawL.free c X Gn (by decide), LawL.free c X Gn (by decide)⟩, He.exm_ok (hfx _ (List.mem_map.mpr ⟨_, List.getElem_mem le, rfl⟩)), q1.1, q1.2⟩
        · obtain ⟨b, z1, z2⟩ := k2 n cc hc
          exact ⟨_, b, He.glo_ok X Gn (hfa _ (List.mem_append_left _ (List.mem_map.mpr ⟨cc, List.mem_of_getElem? hc, rfl⟩))), z1, z2⟩
        · rw [e10] at k3; exact k3
      refine ⟨⟨"call", _, _, _, _, _, _, _, _, _, _, _, _, _, _, ["call", "e"], h1, kp1, lk, hcd, h3, S1, rfl, (S1.par "call" (by simp)).elim .inl (fun z => .inr (.inl z)), by decide, by decide, fun Y a1 a2 a3 a4 a5 _ q => ?_⟩⟩
      subst a1 a2 a3 a4 a5
      exact AH.err_gives N F S1 e5
  err := fun i x hx => by
    have hm : x ∈ L.G.errs := List.mem_of_getElem? hx
    have hf1 : He.Fa.exc x ∈ L.fa := by
      unfold LawL.fa
      simp only [List.mem_append, List.mem_map]
      exact .inr (.inr (.inr (.inl ⟨x, hm, rfl⟩)))
    have hf2 : He.Fa.glo x ∈ L.fa := by
      unfold LawL.fa
      simp only [List.mem_append, List.mem_map]
      exact .inr (.inr (.inr (.inr (.inl ⟨x, hm, rfl⟩))))
    obtain ⟨k1, k2, k3, k4⟩ := He.exc_ok (c.t.d.facts hf1)
    exact ⟨_, He.glo_ok X Gn (c.t.d.facts hf2), by rw [List.getD_eq_getElem?_getD, hx]; rfl, k1, k2, k3, k4⟩
end
end AP

set_option Elab.async false
set_option linter.all false
set_option maxRecDepth 100000
set_option maxHeartbeats 4000000
set_option autoImplicit false
/-! AE2: a law's end -/
namespace AP
open PySem PySem.Spec PyProof.Rows L2
theorem LawL.at_ {L : LawL} {l : PySem.W.OpenLaw} {w : World} {h : Heap} {K : PySem.W.Frag} {mg : Str → Option Value} {fa' : Addr} {m : Nat} (c : He.SaysX L.fa L.fn [] L.tf L.ex w h K) (X : K.In h) (Gn : h.Ns mainGlobals mg) (O : L.Ok) (hfa : mg "law" = some (.ref fa')) (d : Nat)
    (run : ∀ ns : List Int, ns.length ≤ m → ∃ mu, callD L.G L.tbl d L.law [.scr ns] [] = .ok (.bl true) mu) : LamX.LawAtS l w K (L2N.CX l.prog w) (3 * d) m "script" mg fa' h := by
  obtain ⟨I, hI, hps, hnm⟩ := O.law
  have hm : I ∈ L.info := List.mem_of_getElem? hI
  obtain ⟨fd0, F0⟩ := c.t.d.defs (d := defD I) (List.mem_map.mpr ⟨I, List.mem_append_left _ hm, rfl⟩)
  have g0 : mg I.name = some (.ref (He.ga K I.name)) := He.glo_ok X Gn (c.t.d.facts (List.mem_append_left _ (List.mem_map.mpr ⟨I, List.mem_append_left _ hm, rfl⟩)))
  have e0 : fa' = He.ga K I.name := by
    rw [hnm] at g0
    have := hfa.symm.trans g0
    rw [hnm]
    injection this with this
    injection this
  have bA := FunD.bindsA (ps := I.ps) F0 (O.bnd I (List.mem_append_left _ hm))
  refine ⟨fd0, L.tf.map (He.cT K), spOf K (L.tf.map fun p => ((He.cT K p).2, p.1 ++ ".<locals>." ++ "<lambda>")) (fun i => .ref (He.ga K (L.G.errs.getD i Str.empty))) (callD L.G L.tbl d) L.law 1, fun p hp => ?_, fun p hp => ?_, fun p hp => ?_, fun s u => ?_, fun H a ns hl _ hT hS => ?_, fun base KB NB TB => ?_⟩
  · obtain ⟨q, hq, rfl⟩ := List.mem_map.mp hp
    exact c.empty q hq
  · obtain ⟨q, hq, rfl⟩ := List.mem_map.mp hp
    exact c.out q hq
  · obtain ⟨q, hq, rfl⟩ := List.mem_map.mp hp
    exact PySem.W.codeHd_of_K X (c.hd q hq)
  · have := bA s [u] (by rw [hps]; rfl)
    rw [hps] at this
    exact this
  · obtain ⟨mu, hr⟩ := run ns hl
    refine ⟨fun _ => False, [], [], [.scr ns], ⟨⟨rfl, List.nodup_nil, fun n a m h => by simp at h⟩, ⟨fun b hb => by simp at hb⟩, fun a z => z.elim, fun p hp => ?_⟩, .cons (.scr ?_) .nil, rfl, ?_⟩
    · obtain ⟨q, hq, rfl⟩ := List.mem_map.mp hp
      exact LamX.TabS.nil (hT (He.cT K q) (List.mem_map.mpr ⟨q, hq, rfl⟩))
    · rcases hS with (hS | ⟨o, hS⟩) | hS
      · exact .inr (.inl ⟨hS, by simp, fun z => z⟩)
      · exact .inl ⟨o, hS⟩
      · exact .inr (.inr hS)
    · rw [hr]
      intro v H' as' _ _ r
      cases r
      rfl
  · have M := LawL.mod (P := l.prog) (base := base) c X Gn O TB
    obtain ⟨f, fd, h1, h2, h3, h4, F1⟩ := fns_ok O.len O.chk M d L.law I hI
    have ef : f = fa' := by
      rw [e0]
      have := h1.symm.trans g0
      injection this with this
      injection this
    subst ef
    have : fd = fd0 := by
      obtain ⟨_, _, _, _, _, _, _, _, _, _, _, lk1, _⟩ := F0.ex
      obtain ⟨_, _, _, _, _, _, _, _, _, _, _, lk2, _⟩ := F1.ex
      have e2 : He.fAd K (defD I).at_ = f := e0.symm
      rw [e2] at lk1
      have := lk2.symm.trans lk1
      injection this with this
      injection this with _ _ this _
      injection this with this
    subst this
    rw [hps] at h3
    exact h3
end AP

set_option Elab.async false
set_option linter.all false
set_option maxRecDepth 100000
set_option maxHeartbeats 4000000
namespace K01
open PySem PySem.Spec PyProof.Rows L2 AP
def top (i : Nat) : Stmt := PySem.Challenge.pw_anypressure_k01_nets_pressures_and_rules.main.body.getD i (.Pass ⟨0, 0, 0, 0⟩)
def bis_plain : C := (.seq (.ret (.and_ (.isi (.var 0) .int) (.not_ (.isi (.var 0) .bool))))
    .skip)
def bis_whole : C := (.seq (.ret (.and_ (.call 0 (.cons (.var 0) .nil)) (.chain .le .le (.var 1) (.var 0) (.var 2))))
    .skip)
def bis_row : C := (.seq (.ret (.and_ (.isi (.var 0) .tuple) (.chain .le .le (.var 1) (.bi .len (.cons (.var 0) .nil)) (.var 2))))
    .skip)
def bis_tap : C := (.seq (.ret (.and_ (.call 2 (.cons (.var 0) (.cons (.int 2) (.cons (.int 2) .nil)))) (.and_ (.call 1 (.cons (.idx (.var 0) (.int 0)) (.cons (.int 0) (.cons (.int 9) .nil)))) (.call 1 (.cons (.idx (.var 0) (.int 1)) (.cons (.int 0) (.cons (.int 4) .nil)))))))
    .skip)
def bis_link : C := (.seq (.ite (.or_ (.not_ (.call 2 (.cons (.var 0) (.cons (.int 5) (.cons (.int 5) .nil))))) (.or_ (.not_ (.call 1 (.cons (.idx (.var 0) (.int 0)) (.cons (.int 0) (.cons (.var 1) .nil))))) (.not_ (.call 1 (.cons (.idx (.var 0) (.int 1)) (.cons (.int 0) (.cons (.var 1) .nil))))))) (.seq (.ret (.bl false))
    .skip) .skip)
    (.seq (.ite (.or_ (.cmp .eq (.idx (.var 0) (.int 0)) (.idx (.var 0) (.int 1))) (.or_ (.not_ (.call 1 (.cons (.idx (.var 0) (.int 2)) (.cons (.int 1) (.cons (.int 4) .nil))))) (.not_ (.isi (.idx (.var 0) (.int 4)) .bool)))) (.seq (.ret (.bl false))
    .skip) .skip)
    (.seq (.ret (.or_ (.cmp .is_ (.idx (.var 0) (.int 3)) .non) (.call 1 (.cons (.idx (.var 0) (.int 3)) (.cons (.int 0) (.cons (.int 9) .nil))))))
    .skip)))
def bis_net : C := (.seq (.ite (.or_ (.not_ (.call 2 (.cons (.var 0) (.cons (.int 2) (.cons (.int 2) .nil))))) (.or_ (.not_ (.call 2 (.cons (.idx (.var 0) (.int 0)) (.cons (.int 1) (.cons (.int 3) .nil))))) (.not_ (.bi .all (.cons (.lc (.call 3 (.cons (.var 1) .nil)) (.nm 1) (.idx (.var 0) (.int 0)) .omit) .nil))))) (.seq (.ret (.bl false))
    .skip) .skip)
    (.seq (.ret (.and_ (.call 2 (.cons (.idx (.var 0) (.int 1)) (.cons (.int 1) (.cons (.int 5) .nil)))) (.bi .all (.cons (.lc (.call 4 (.cons (.var 2) (.cons (.bi .len (.cons (.idx (.var 0) (.int 0)) .nil)) .nil))) (.nm 2) (.idx (.var 0) (.int 1)) .omit) .nil))))
    .skip))
def bdivisor_of : C := (.seq (.par2 0 1 (.bi .abs (.cons (.var 0) .nil)) (.bi .abs (.cons (.var 1) .nil)))
    (.seq (.whl 0 (.cmp .ne (.var 1) (.int 0)) (.seq (.par2 0 1 (.var 1) (.bin .mod (.var 0) (.var 1)))
    .skip))
    (.seq (.ret (.var 0))
    .skip)))
def bis_share : C := (.seq (.ite (.or_ (.not_ (.call 2 (.cons (.var 0) (.cons (.int 2) (.cons (.int 2) .nil))))) (.or_ (.not_ (.call 0 (.cons (.idx (.var 0) (.int 0)) .nil))) (.not_ (.call 0 (.cons (.idx (.var 0) (.int 1)) .nil))))) (.seq (.ret (.bl false))
    .skip) .skip)
    (.seq (.ret (.and_ (.cmp .ge (.idx (.var 0) (.int 0)) (.int 0)) (.and_ (.cmp .gt (.idx (.var 0) (.int 1)) (.int 0)) (.cmp .eq (.call 6 (.cons (.idx (.var 0) (.int 0)) (.cons (.idx (.var 0) (.int 1)) .nil))) (.int 1)))))
    .skip))
def bis_pressure : C := (.seq (.ret (.and_ (.call 7 (.cons (.var 0) .nil)) (.and_ (.cmp .le (.idx (.var 0) (.int 0)) (.glob 0)) (.cmp .le (.idx (.var 0) (.int 1)) (.glob 0)))))
    .skip)
def bis_rule : C := (.seq (.ite (.or_ (.not_ (.call 2 (.cons (.var 1) (.cons (.int 4) (.cons (.int 4) .nil))))) (.or_ (.not_ (.isi (.idx (.var 1) (.int 0)) .str)) (.not_ (.isi (.idx (.var 1) (.int 3)) .bool)))) (.seq (.ret (.bl false))
    .skip) .skip)
    (.seq (.asg 2 (.bin .sub (.bi .len (.cons (.idx (.var 0) (.int 1)) .nil)) (.int 1)))
    (.seq (.ite (.not_ (.call 1 (.cons (.idx (.var 1) (.int 2)) (.cons (.int 0) (.cons (.var 2) .nil))))) (.seq (.ret (.bl false))
    .skip) .skip)
    (.seq (.ite (.cmp .in_ (.idx (.var 1) (.int 0)) (.tup (.cons (.str "dry") (.cons (.str "wet") .nil)))) (.seq (.ret (.call 1 (.cons (.idx (.var 1) (.int 1)) (.cons (.int 1) (.cons (.bi .len (.cons (.idx (.var 0) (.int 0)) .nil)) .nil)))))
    .skip) .skip)
    (.seq (.ret (.and_ (.cmp .in_ (.idx (.var 1) (.int 0)) (.tup (.cons (.str "runs") (.cons (.str "still") .nil)))) (.call 1 (.cons (.idx (.var 1) (.int 1)) (.cons (.int 0) (.cons (.var 2) .nil))))))
    .skip)))))
def bfit_rules : C := (.seq (.ret (.and_ (.call 2 (.cons (.var 1) (.cons (.int 0) (.cons (.int 4) .nil)))) (.bi .all (.cons (.lc (.call 9 (.cons (.var 0) (.cons (.var 2) .nil))) (.nm 2) (.var 1) .omit) .nil))))
    .skip)
def bneed_net : C := (.seq (.ite (.not_ (.call 5 (.cons (.var 0) .nil))) (.seq (.raise 0)
    .skip) .skip)
    .skip)
def bare_rules : C := (.seq (.expr (.call 11 (.cons (.var 0) .nil)))
    (.seq (.ret (.call 10 (.cons (.var 0) (.cons (.var 1) .nil))))
    .skip))
def bat_stand : C := (.seq (.ret (.tup (.cons (.idx (.var 0) (.int 0)) (.cons (.bi .tuple (.cons (.lc (.bin .add (.slice (.var 3) .omit (.int 4)) (.tup (.cons (.var 2) .nil))) (.tup (.cons (.nm 3) (.cons (.nm 2) .nil))) (.zip (.idx (.var 0) (.int 1)) (.var 1)) .omit) .nil)) .nil))))
    .skip)
def bwith_stand : C := (.seq (.expr (.call 11 (.cons (.var 0) .nil)))
    (.seq (.asg 2 (.bi .len (.cons (.idx (.var 0) (.int 1)) .nil)))
    (.seq (.ite (.or_ (.not_ (.call 2 (.cons (.var 1) (.cons (.var 2) (.cons (.var 2) .nil))))) (.not_ (.bi .all (.cons (.lc (.isi (.var 3) .bool) (.nm 3) (.var 1) .omit) .nil)))) (.seq (.raise 1)
    .skip) .skip)
    (.seq (.ret (.call 13 (.cons (.var 0) (.cons (.var 1) .nil))))
    .skip))))
def b_law_cell : C := (.seq (.ite (.cmp .lt (.var 1) (.bi .len (.cons (.var 0) .nil))) (.seq (.ret (.idx (.var 0) (.var 1)))
    .skip) .skip)
    (.seq (.ite (.cmp .eq (.bi .len (.cons (.var 0) .nil)) (.int 0)) (.seq (.ret (.bin .add (.bin .mul (.int 7919) (.var 1)) (.int 101)))
    .skip) .skip)
    (.seq (.ret (.bin .add (.bin .mod (.idx (.var 0) (.bin .mod (.var 1) (.bi .len (.cons (.var 0) .nil)))) (.int 1000003)) (.bin .mul (.int 7919) (.var 1))))
    .skip)))
def b_law_draws : C := (.seq (.asg 4 (.tup (.cons (.int 2147483647) (.cons (.int 2147483629) (.cons (.int 2147483587) (.cons (.int 2147483579) (.cons (.int 2147483563) (.cons (.int 2147483549) (.cons (.int 2147483543) (.cons (.int 2147483497) .nil))))))))))
    (.seq (.asg 5 (.call 15 (.cons (.var 0) (.cons (.var 1) .nil))))
    (.seq (.asg 6 (.int 0))
    (.seq (.ite (.cmp .ge (.var 5) (.bin .pow (.int 10) (.int 18))) (.seq (.asg 6 (.var 5))
    .skip) .skip)
    (.seq (.obj 7 (.lst .nil))
    (.seq (.for_ (.nm 8) (.range1 (.var 2)) (.seq (.asg 9 (.bin .mul (.bin .mod (.var 5) (.idx (.var 4) (.bin .mod (.var 8) (.int 8)))) (.bin .add (.int 48271) (.bin .mul (.bin .mul (.int 2) (.var 8)) (.var 8)))))
    (.seq (.asg 9 (.bin .add (.bin .add (.var 9) (.bin .mul (.bin .mul (.int 7919) (.bin .add (.var 8) (.int 1))) (.bin .add (.var 8) (.int 1)))) (.bin .mul (.int 104729) (.var 1))))
    (.seq (.asg 9 (.bin .mod (.var 9) (.idx (.var 4) (.bin .mod (.bin .add (.bin .mul (.int 3) (.var 8)) (.var 1)) (.int 8)))))
    (.seq (.asg 9 (.bin .mod (.bin .mul (.bin .mul (.var 9) (.var 9)) (.var 9)) (.idx (.var 4) (.bin .mod (.bin .add (.var 8) (.int 5)) (.int 8)))))
    (.seq (.ite (.cmp .gt (.var 6) (.int 0)) (.seq (.asg 9 (.var 6))
    .skip) .skip)
    (.seq (.app 7 (.bin .mod (.var 9) (.var 3)))
    (.seq (.asg 6 (.bin .fdiv (.var 6) (.var 3)))
    .skip))))))))
    (.seq (.ret (.var 7))
    .skip)))))))
def b_law_bag : C := (.seq (.ret (.call 16 (.cons (.var 0) (.cons (.var 1) (.cons (.int 150) (.cons (.int 27720) .nil))))))
    .skip)
def b_law_take : C := (.seq (.asg 2 (.ite (.cmp .ne (.var 0) (.lst .nil)) (.pop0 0) (.int 0)))
    (.seq (.ret (.bin .mod (.bi .int (.cons (.var 2) .nil)) (.var 1)))
    .skip))
def b_law_choice : C := (.seq (.ret (.idx (.var 1) (.call 18 (.cons (.var 0) (.cons (.bi .len (.cons (.var 1) .nil)) .nil)))))
    .skip)
def b_law_link : C := (.seq (.asg 2 (.call 18 (.cons (.var 0) (.cons (.bin .add (.var 1) (.int 1)) .nil))))
    (.seq (.asg 3 (.bin .mod (.bin .add (.bin .add (.var 2) (.int 1)) (.call 18 (.cons (.var 0) (.cons (.var 1) .nil)))) (.bin .add (.var 1) (.int 1))))
    (.seq (.asg 4 (.call 19 (.cons (.var 0) (.cons (.lst (.cons .non (.cons .non (.cons (.int 0) (.cons (.int 1) (.cons (.int 2) (.cons (.int 5) .nil))))))) .nil))))
    (.seq (.ret (.tup (.cons (.var 2) (.cons (.var 3) (.cons (.bin .add (.int 1) (.call 18 (.cons (.var 0) (.cons (.int 4) .nil)))) (.cons (.var 4) (.cons (.cmp .gt (.call 18 (.cons (.var 0) (.cons (.int 4) .nil))) (.int 0)) .nil)))))))
    .skip))))
def b_law_net : C := (.seq (.asg 2 (.bin .add (.int 1) (.call 18 (.cons (.var 0) (.cons (.int 3) .nil)))))
    (.seq (.asg 3 (.tup .nil))
    (.seq (.for_ (.nm 4) (.range1 (.var 2)) (.seq (.asg 3 (.bin .add (.var 3) (.tup (.cons (.tup (.cons (.call 19 (.cons (.var 0) (.cons (.lst (.cons (.int 0) (.cons (.int 1) (.cons (.int 2) (.cons (.int 3) (.cons (.int 5) (.cons (.int 8) .nil))))))) .nil))) (.cons (.call 19 (.cons (.var 0) (.cons (.lst (.cons (.int 0) (.cons (.int 1) (.cons (.int 1) (.cons (.int 2) (.cons (.int 4) .nil)))))) .nil))) .nil))) .nil))))
    .skip))
    (.seq (.asg 5 (.tup (.cons (.tup (.cons (.int 0) (.cons (.bin .add (.int 1) (.call 18 (.cons (.var 0) (.cons (.var 2) .nil)))) (.cons (.bin .add (.int 1) (.call 18 (.cons (.var 0) (.cons (.int 4) .nil)))) (.cons .non (.cons (.cmp .gt (.call 18 (.cons (.var 0) (.cons (.int 5) .nil))) (.int 0)) .nil)))))) .nil)))
    (.seq (.for_ (.nm 6) (.range1 (.call 18 (.cons (.var 0) (.cons (.var 1) .nil)))) (.seq (.asg 5 (.bin .add (.var 5) (.tup (.cons (.call 20 (.cons (.var 0) (.cons (.var 2) .nil))) .nil))))
    .skip))
    (.seq (.ret (.tup (.cons (.var 3) (.cons (.var 5) .nil))))
    .skip))))))
def b_law_rule : C := (.seq (.asg 2 (.call 19 (.cons (.var 0) (.cons (.lst (.cons (.str "dry") (.cons (.str "wet") (.cons (.str "runs") (.cons (.str "still") .nil))))) .nil))))
    (.seq (.asg 3 (.ite (.cmp .in_ (.var 2) (.lst (.cons (.str "dry") (.cons (.str "wet") .nil)))) (.bin .add (.int 1) (.call 18 (.cons (.var 0) (.cons (.bi .len (.cons (.idx (.var 1) (.int 0)) .nil)) .nil)))) (.call 18 (.cons (.var 0) (.cons (.bi .len (.cons (.idx (.var 1) (.int 1)) .nil)) .nil)))))
    (.seq (.ret (.tup (.cons (.var 2) (.cons (.var 3) (.cons (.call 18 (.cons (.var 0) (.cons (.bi .len (.cons (.idx (.var 1) (.int 1)) .nil)) .nil))) (.cons (.cmp .eq (.call 18 (.cons (.var 0) (.cons (.int 2) .nil))) (.int 0)) .nil))))))
    .skip)))
def b_law_rules : C := (.seq (.ret (.bi .tuple (.cons (.lc (.call 22 (.cons (.var 0) (.cons (.var 1) .nil))) (.nm 3) (.range1 (.call 18 (.cons (.var 0) (.cons (.bin .add (.var 2) (.int 1)) .nil)))) .omit) .nil)))
    .skip)
def b_law_truly : C := (.seq (.ret (.and_ (.isi (.var 0) .bool) (.cmp .eq (.var 0) (.var 1))))
    .skip)
def b_law_whole : C := (.seq (.ret (.and_ (.isi (.var 0) .int) (.and_ (.not_ (.isi (.var 0) .bool)) (.chain .le .le (.var 1) (.var 0) (.var 2)))))
    .skip)
def b_law_spoilt : C := (.seq (.ite (.isi (.var 1) .list) (.seq (.ret (.bi .tuple (.cons (.var 1) .nil)))
    .skip) .skip)
    (.seq (.ite (.and_ (.isi (.var 1) .tuple) (.and_ (.cmp .ne (.var 1) (.tup .nil)) (.cmp .gt (.call 18 (.cons (.var 0) (.cons (.int 6) .nil))) (.int 0)))) (.seq (.asg 2 (.call 18 (.cons (.var 0) (.cons (.bi .len (.cons (.var 1) .nil)) .nil))))
    (.seq (.ret (.bin .add (.bin .add (.slice (.var 1) .omit (.var 2)) (.tup (.cons (.call 26 (.cons (.var 0) (.cons (.idx (.var 1) (.var 2)) .nil))) .nil))) (.slice (.var 1) (.bin .add (.var 2) (.int 1)) .omit)))
    .skip)) .skip)
    (.seq (.asg 3 (.call 18 (.cons (.var 0) (.cons (.int 7) .nil))))
    (.seq (.ite (.isi (.var 1) .tuple) (.seq (.asg 4 (.idx (.lst (.cons (.tup (.cons (.int 1) (.cons (.int 2) .nil))) (.cons (.tup (.cons (.int 0) (.cons (.int 1) (.cons (.int 1) (.cons .non (.cons (.bl true) .nil)))))) (.cons (.tup (.cons (.str "dry") (.cons (.int 1) (.cons (.int 0) (.cons (.bl true) .nil))))) (.cons (.int 5) .nil))))) (.call 18 (.cons (.var 0) (.cons (.int 4) .nil)))))
    (.seq (.ret (.idx (.lst (.cons (.bi .list (.cons (.var 1) .nil)) (.cons (.slice (.var 1) (.int 1) .omit) (.cons (.bin .add (.var 1) (.slice (.var 1) (.neg (.int 1)) .omit)) (.cons (.rev (.var 1)) (.cons (.tup .nil) (.cons (.bin .add (.var 1) (.tup (.cons (.var 4) .nil))) (.cons .non .nil)))))))) (.var 3)))
    .skip)) .skip)
    (.seq (.ite (.isi (.var 1) .bool) (.seq (.ret (.idx (.lst (.cons (.not_ (.var 1)) (.cons (.bi .int (.cons (.var 1) .nil)) (.cons .non (.cons (.str "open") (.cons (.int 2) (.cons (.bl true) (.cons (.tup (.cons (.var 1) .nil)) .nil)))))))) (.var 3)))
    .skip) .skip)
    (.seq (.ite (.isi (.var 1) .int) (.seq (.ret (.idx (.lst (.cons (.bin .add (.var 1) (.int 1)) (.cons (.bin .sub (.var 1) (.int 1)) (.cons (.bin .add (.var 1) (.int 5)) (.cons (.bl true) (.cons .non (.cons (.int 0) (.cons (.str "1") .nil)))))))) (.var 3)))
    .skip) .skip)
    (.seq (.ite (.isi (.var 1) .str) (.seq (.ret (.idx (.lst (.cons (.str "dry") (.cons (.str "wet") (.cons (.str "runs") (.cons (.str "") (.cons (.str "still") (.cons (.str "Dry") (.cons (.int 0) .nil)))))))) (.var 3)))
    .skip) .skip)
    (.seq (.ret (.idx (.lst (.cons (.int 0) (.cons (.int 9) (.cons (.int 10) (.cons (.neg (.int 1)) (.cons (.bl false) (.cons (.int 3) (.cons (.str "0") .nil)))))))) (.var 3)))
    .skip))))))))
def b_law_good_net : C := (.seq (.ite (.or_ (.not_ (.isi (.var 0) .tuple)) (.or_ (.cmp .ne (.bi .len (.cons (.var 0) .nil)) (.int 2)) (.not_ (.isi (.idx (.var 0) (.int 0)) .tuple)))) (.seq (.ret (.bl false))
    .skip) .skip)
    (.seq (.asg 1 (.bi .len (.cons (.idx (.var 0) (.int 0)) .nil)))
    (.seq (.ite (.or_ (.not_ (.chain .le .le (.int 1) (.var 1) (.int 3))) (.or_ (.not_ (.isi (.idx (.var 0) (.int 1)) .tuple)) (.not_ (.chain .le .le (.int 1) (.bi .len (.cons (.idx (.var 0) (.int 1)) .nil)) (.int 5))))) (.seq (.ret (.bl false))
    .skip) .skip)
    (.seq (.for_ (.nm 2) (.idx (.var 0) (.int 0)) (.seq (.ite (.or_ (.not_ (.isi (.var 2) .tuple)) (.or_ (.cmp .ne (.bi .len (.cons (.var 2) .nil)) (.int 2)) (.not_ (.call 25 (.cons (.idx (.var 2) (.int 0)) (.cons (.int 0) (.cons (.int 9) .nil))))))) (.seq (.ret (.bl false))
    .skip) .skip)
    (.seq (.ite (.not_ (.call 25 (.cons (.idx (.var 2) (.int 1)) (.cons (.int 0) (.cons (.int 4) .nil))))) (.seq (.ret (.bl false))
    .skip) .skip)
    .skip)))
    (.seq (.for_ (.nm 3) (.idx (.var 0) (.int 1)) (.seq (.ite (.or_ (.not_ (.isi (.var 3) .tuple)) (.or_ (.cmp .ne (.bi .len (.cons (.var 3) .nil)) (.int 5)) (.not_ (.isi (.idx (.var 3) (.int 4)) .bool)))) (.seq (.ret (.bl false))
    .skip) .skip)
    (.seq (.ite (.or_ (.not_ (.call 25 (.cons (.idx (.var 3) (.int 0)) (.cons (.int 0) (.cons (.var 1) .nil))))) (.or_ (.not_ (.call 25 (.cons (.idx (.var 3) (.int 1)) (.cons (.int 0) (.cons (.var 1) .nil))))) (.cmp .eq (.idx (.var 3) (.int 0)) (.idx (.var 3) (.int 1))))) (.seq (.ret (.bl false))
    .skip) .skip)
    (.seq (.ite (.or_ (.not_ (.call 25 (.cons (.idx (.var 3) (.int 2)) (.cons (.int 1) (.cons (.int 4) .nil))))) (.and_ (.cmp .isnot (.idx (.var 3) (.int 3)) .non) (.not_ (.call 25 (.cons (.idx (.var 3) (.int 3)) (.cons (.int 0) (.cons (.int 9) .nil))))))) (.seq (.ret (.bl false))
    .skip) .skip)
    .skip))))
    (.seq (.ret (.bl true))
    .skip))))))
def b_law_good_rules : C := (.seq (.ite (.or_ (.not_ (.isi (.var 1) .tuple)) (.cmp .gt (.bi .len (.cons (.var 1) .nil)) (.int 4))) (.seq (.ret (.bl false))
    .skip) .skip)
    (.seq (.asg 2 (.bin .sub (.bi .len (.cons (.idx (.var 0) (.int 1)) .nil)) (.int 1)))
    (.seq (.for_ (.nm 3) (.var 1) (.seq (.ite (.or_ (.not_ (.isi (.var 3) .tuple)) (.or_ (.cmp .ne (.bi .len (.cons (.var 3) .nil)) (.int 4)) (.not_ (.isi (.idx (.var 3) (.int 0)) .str)))) (.seq (.ret (.bl false))
    .skip) .skip)
    (.seq (.ite (.or_ (.not_ (.call 25 (.cons (.idx (.var 3) (.int 2)) (.cons (.int 0) (.cons (.var 2) .nil))))) (.not_ (.isi (.idx (.var 3) (.int 3)) .bool))) (.seq (.ret (.bl false))
    .skip) .skip)
    (.seq (.pat (.tup (.cons (.nm 5) (.cons (.nm 4) .nil))) (.ite (.cmp .in_ (.idx (.var 3) (.int 0)) (.lst (.cons (.str "dry") (.cons (.str "wet") .nil)))) (.tup (.cons (.int 1) (.cons (.bi .len (.cons (.idx (.var 0) (.int 0)) .nil)) .nil))) (.tup (.cons (.int 0) (.cons (.var 2) .nil)))))
    (.seq (.ite (.or_ (.cmp .notin (.idx (.var 3) (.int 0)) (.lst (.cons (.str "dry") (.cons (.str "wet") (.cons (.str "runs") (.cons (.str "still") .nil)))))) (.not_ (.call 25 (.cons (.idx (.var 3) (.int 1)) (.cons (.var 5) (.cons (.var 4) .nil)))))) (.seq (.ret (.bl false))
    .skip) .skip)
    .skip)))))
    (.seq (.ret (.bl true))
    .skip))))
def b_law_stands_right : C := (.seq (.asg 2 (.bi .tuple (.cons (.lc (.not_ (.idx (.var 1) (.int 4))) (.nm 1) (.idx (.var 0) (.int 1)) .omit) .nil)))
    (.seq (.asg 3 (.tup (.cons (.idx (.var 0) (.int 0)) (.cons (.bi .tuple (.cons (.lc (.bin .add (.slice (.var 1) .omit (.int 4)) (.tup (.cons (.not_ (.idx (.var 1) (.int 4))) .nil))) (.nm 1) (.idx (.var 0) (.int 1)) .omit) .nil)) .nil))))
    (.seq (.ite (.cmp .ne (.call 14 (.cons (.var 0) (.cons (.var 2) .nil))) (.var 3)) (.seq (.ret (.bl false))
    .skip) .skip)
    (.seq (.for_ (.nm 5) (.lst (.cons .non (.cons (.slice (.var 2) (.int 1) .omit) (.cons (.bin .add (.var 2) (.tup (.cons (.bl true) .nil))) (.cons (.bi .list (.cons (.var 2) .nil)) (.cons (.bi .tuple (.cons (.lc (.bi .int (.cons (.var 4) .nil)) (.nm 4) (.var 2) .omit) .nil)) .nil)))))) (.seq (.ite (.cmp .ne (.lam 0 (.call 14 (.cons (.var 0) (.cons (.var 5) .nil)))) (.str "number value")) (.seq (.ret (.bl false))
    .skip) .skip)
    .skip))
    (.seq (.ret (.bl true))
    .skip)))))
def blaw : C := (.seq (.for_ (.nm 1) (.range1 (.int 7)) (.seq (.asg 2 (.call 17 (.cons (.var 0) (.cons (.var 1) .nil))))
    (.seq (.asg 3 (.call 21 (.cons (.var 2) (.cons (.int 5) .nil))))
    (.seq (.asg 4 (.call 23 (.cons (.var 2) (.cons (.var 3) (.cons (.int 4) .nil)))))
    (.seq (.ite (.or_ (.cmp .isnot (.call 5 (.cons (.var 3) .nil)) (.bl true)) (.or_ (.cmp .isnot (.call 12 (.cons (.var 3) (.cons (.var 4) .nil))) (.bl true)) (.not_ (.call 29 (.cons (.var 3) .nil))))) (.seq (.ret (.bl false))
    .skip) .skip)
    (.seq (.pat (.tup (.cons (.nm 6) (.cons (.nm 5) .nil))) (.tup (.cons (.var 3) (.cons (.var 4) .nil))))
    (.seq (.for_ (.nm 7) (.range1 (.int 18)) (.seq (.asg 6 (.call 26 (.cons (.var 2) (.cons (.ite (.cmp .eq (.bin .mod (.var 7) (.int 3)) (.int 0)) (.var 3) (.var 6)) .nil))))
    (.seq (.asg 5 (.call 26 (.cons (.var 2) (.cons (.ite (.cmp .eq (.bin .mod (.var 7) (.int 3)) (.int 0)) (.var 4) (.var 5)) .nil))))
    (.seq (.asg 8 (.call 27 (.cons (.var 6) .nil)))
    (.seq (.ite (.not_ (.call 24 (.cons (.call 5 (.cons (.var 6) .nil)) (.cons (.var 8) .nil)))) (.seq (.ret (.bl false))
    .skip) .skip)
    (.seq (.ite (.not_ (.call 24 (.cons (.call 12 (.cons (.var 3) (.cons (.var 5) .nil))) (.cons (.call 28 (.cons (.var 3) (.cons (.var 5) .nil))) .nil)))) (.seq (.ret (.bl false))
    .skip) .skip)
    (.seq (.ite (.and_ (.not_ (.var 8)) (.cmp .ne (.lam 0 (.call 12 (.cons (.var 6) (.cons (.tup .nil) .nil)))) (.str "net value"))) (.seq (.ret (.bl false))
    .skip) .skip)
    (.seq (.ite (.and_ (.not_ (.var 8)) (.cmp .ne (.lam 0 (.call 14 (.cons (.var 6) (.cons .non .nil)))) (.str "net value"))) (.seq (.ret (.bl false))
    .skip) .skip)
    .skip))))))))
    (.seq (.for_ (.nm 9) (.lst (.cons (.tup (.cons (.int 0) (.cons (.int 2) .nil))) (.cons (.tup (.cons (.int 2) (.cons (.int 4) .nil))) (.cons (.tup (.cons (.neg (.int 1)) (.cons (.int 2) .nil))) (.cons (.tup (.cons (.bl true) (.cons (.int 2) .nil))) (.cons (.tup (.cons (.int 1) (.cons (.int 0) .nil))) (.cons (.tup (.cons (.int 1) (.cons (.int 2) (.cons (.int 3) .nil)))) (.cons (.lst (.cons (.int 1) (.cons (.int 2) .nil))) (.cons (.int 1) (.cons .non (.cons (.tup (.cons (.bin .add (.bin .pow (.int 10) (.int 9)) (.int 1)) (.cons (.int 1) .nil))) .nil))))))))))) (.seq (.ite (.cmp .isnot (.call 8 (.cons (.var 9) .nil)) (.bl false)) (.seq (.ret (.bl false))
    .skip) .skip)
    .skip))
    (.seq (.asg 10 (.lst (.cons (.call 8 (.cons (.tup (.cons (.int 0) (.cons (.int 1) .nil))) .nil)) (.cons (.call 8 (.cons (.tup (.cons (.bin .pow (.int 10) (.int 9)) (.cons (.int 7) .nil))) .nil)) (.cons (.call 8 (.cons (.tup (.cons (.int 1) (.cons (.bin .pow (.int 10) (.int 9)) .nil))) .nil)) .nil)))))
    (.seq (.ite (.or_ (.cmp .ne (.var 10) (.lst (.cons (.bl true) (.cons (.bl true) (.cons (.bl true) .nil))))) (.cmp .isnot (.call 8 (.cons (.tup (.cons (.int 1) (.cons (.bin .add (.bin .pow (.int 10) (.int 9)) (.int 1)) .nil))) .nil)) (.bl false))) (.seq (.ret (.bl false))
    .skip) .skip)
    .skip))))))))))
    (.seq (.asg 3 (.tup (.cons (.tup (.cons (.tup (.cons (.int 2) (.cons (.int 1) .nil))) (.cons (.tup (.cons (.int 4) (.cons (.int 1) .nil))) .nil))) (.cons (.tup (.cons (.tup (.cons (.int 0) (.cons (.int 1) (.cons (.int 1) (.cons .non (.cons (.bl true) .nil)))))) (.cons (.tup (.cons (.int 1) (.cons (.int 2) (.cons (.int 1) (.cons (.int 1) (.cons (.bl true) .nil)))))) .nil))) .nil))))
    (.seq (.asg 10 (.lst (.cons (.call 5 (.cons (.var 3) .nil)) (.cons (.call 5 (.cons (.tup (.cons (.idx (.var 3) (.int 0)) (.cons (.tup (.cons (.tup (.cons (.int 0) (.cons (.int 3) (.cons (.int 1) (.cons .non (.cons (.bl true) .nil)))))) .nil)) .nil))) .nil)) (.cons (.call 5 (.cons (.tup (.cons (.idx (.var 3) (.int 0)) (.cons (.tup .nil) .nil))) .nil)) (.cons (.call 5 (.cons (.tup (.cons (.tup .nil) (.cons (.idx (.var 3) (.int 1)) .nil))) .nil)) .nil))))))
    (.seq (.asg 10 (.bin .add (.var 10) (.lst (.cons (.call 12 (.cons (.var 3) (.cons (.tup (.cons (.tup (.cons (.str "runs") (.cons (.int 1) (.cons (.int 0) (.cons (.bl true) .nil))))) .nil)) .nil))) (.cons (.call 12 (.cons (.var 3) (.cons (.tup (.cons (.tup (.cons (.str "runs") (.cons (.int 2) (.cons (.int 0) (.cons (.bl true) .nil))))) .nil)) .nil))) .nil)))))
    (.seq (.ret (.cmp .eq (.bin .add (.var 10) (.lst (.cons (.call 12 (.cons (.var 3) (.cons (.tup (.cons (.tup (.cons (.str "dry") (.cons (.int 0) (.cons (.int 0) (.cons (.bl true) .nil))))) .nil)) .nil))) .nil))) (.lst (.cons (.bl true) (.cons (.bl false) (.cons (.bl false) (.cons (.bl false) (.cons (.bl true) (.cons (.bl false) (.cons (.bl false) .nil))))))))))
    .skip)))))
def tbl : List FnDef := [⟨1, 1, bis_plain⟩,
  ⟨3, 3, bis_whole⟩,
  ⟨3, 3, bis_row⟩,
  ⟨1, 1, bis_tap⟩,
  ⟨2, 2, bis_link⟩,
  ⟨1, 3, bis_net⟩,
  ⟨2, 2, bdivisor_of⟩,
  ⟨1, 1, bis_share⟩,
  ⟨1, 1, bis_pressure⟩,
  ⟨2, 3, bis_rule⟩,
  ⟨2, 3, bfit_rules⟩,
  ⟨1, 1, bneed_net⟩,
  ⟨2, 2, bare_rules⟩,
  ⟨2, 4, bat_stand⟩,
  ⟨2, 4, bwith_stand⟩,
  ⟨2, 2, b_law_cell⟩,
  ⟨4, 10, b_law_draws⟩,
  ⟨2, 2, b_law_bag⟩,
  ⟨2, 3, b_law_take⟩,
  ⟨2, 2, b_law_choice⟩,
  ⟨2, 5, b_law_link⟩,
  ⟨2, 7, b_law_net⟩,
  ⟨2, 4, b_law_rule⟩,
  ⟨3, 4, b_law_rules⟩,
  ⟨2, 2, b_law_truly⟩,
  ⟨3, 3, b_law_whole⟩,
  ⟨2, 5, b_law_spoilt⟩,
  ⟨1, 4, b_law_good_net⟩,
  ⟨2, 6, b_law_good_rules⟩,
  ⟨1, 6, b_law_stands_right⟩,
  ⟨1, 11, blaw⟩]
def info : List FnI := [⟨"is_plain", top 11, ["value"], ["value"], false⟩,
  ⟨"is_whole", top 12, ["value", "low", "high"], ["value", "low", "high"], false⟩,
  ⟨"is_row", top 13, ["value", "low", "high"], ["value", "low", "high"], false⟩,
  ⟨"is_tap", top 14, ["value"], ["value"], false⟩,
  ⟨"is_link", top 15, ["value", "last"], ["value", "last"], false⟩,
  ⟨"is_net", top 16, ["value", "tap", "link"], ["value"], false⟩,
  ⟨"divisor_of", top 17, ["one", "other"], ["one", "other"], false⟩,
  ⟨"is_share", top 18, ["value"], ["value"], false⟩,
  ⟨"is_pressure", top 19, ["value"], ["value"], false⟩,
  ⟨"is_rule", top 20, ["net", "value", "last"], ["net", "value"], false⟩,
  ⟨"fit_rules", top 21, ["net", "value", "rule"], ["net", "value"], false⟩,
  ⟨"need_net", top 22, ["net"], ["net"], false⟩,
  ⟨"are_rules", top 23, ["net", "value"], ["net", "value"], false⟩,
  ⟨"at_stand", top 24, ["net", "stand", "is_open", "link"], ["net", "stand"], false⟩,
  ⟨"with_stand", top 25, ["net", "stand", "many", "part"], ["net", "stand"], false⟩,
  ⟨"_law_cell", top 27, ["script", "k"], ["script", "k"], false⟩,
  ⟨"_law_draws", top 28, ["script", "k", "many", "base", "primes", "cell", "rest", "row", "j", "mash"], ["script", "k", "many", "base"], false⟩,
  ⟨"_law_bag", top 29, ["script", "k"], ["script", "k"], false⟩,
  ⟨"_law_take", top 30, ["bag", "many", "draw"], ["bag", "many"], false⟩,
  ⟨"_law_choice", top 31, ["bag", "some"], ["bag", "some"], false⟩,
  ⟨"_law_link", top 32, ["bag", "many", "one", "other", "threshold"], ["bag", "many"], false⟩,
  ⟨"_law_net", top 33, ["bag", "most", "many", "drains", "place", "links", "turn"], ["bag", "most"], false⟩,
  ⟨"_law_rule", top 34, ["bag", "net", "word", "number"], ["bag", "net"], false⟩,
  ⟨"_law_rules", top 35, ["bag", "net", "most", "turn"], ["bag", "net", "most"], false⟩,
  ⟨"_law_truly", top 38, ["found", "due"], ["found", "due"], false⟩,
  ⟨"_law_whole", top 39, ["value", "low", "high"], ["value", "low", "high"], false⟩,
  ⟨"_law_spoilt", top 40, ["bag", "value", "at", "way", "more"], ["bag", "value"], false⟩,
  ⟨"_law_good_net", top 41, ["value", "many", "tap", "link"], ["value"], false⟩,
  ⟨"_law_good_rules", top 42, ["net", "value", "last", "rule", "high", "low"], ["net", "value"], false⟩,
  ⟨"_law_stands_right", top 43, ["net", "link", "stand", "due", "part", "odd"], ["net"], true⟩,
  ⟨"law", top 44, ["script", "k", "bag", "net", "rules_so", "other", "value", "turn", "good", "odd", "some"], ["script"], true⟩]
def G : Gx where
  fns := info.map fun I => (I.name, I.ps.length)
  globs := [("GREATEST", (.int 1000000000))]
  errs := ["InvalidNet", "InvalidNumber"]
  hs := [("_law_error", false)]
  words := ["net value", "number value"]
abbrev iis_plain : Nat := 0
abbrev iis_whole : Nat := 1
abbrev iis_row : Nat := 2
abbrev iis_tap : Nat := 3
abbrev iis_link : Nat := 4
abbrev iis_net : Nat := 5
abbrev idivisor_of : Nat := 6
abbrev iis_share : Nat := 7
abbrev iis_pressure : Nat := 8
abbrev iis_rule : Nat := 9
abbrev ifit_rules : Nat := 10
abbrev ineed_net : Nat := 11
abbrev iare_rules : Nat := 12
abbrev iat_stand : Nat := 13
abbrev iwith_stand : Nat := 14
abbrev i_law_cell : Nat := 15
abbrev i_law_draws : Nat := 16
abbrev i_law_bag : Nat := 17
abbrev i_law_take : Nat := 18
abbrev i_law_choice : Nat := 19
abbrev i_law_link : Nat := 20
abbrev i_law_net : Nat := 21
abbrev i_law_rule : Nat := 22
abbrev i_law_rules : Nat := 23
abbrev i_law_truly : Nat := 24
abbrev i_law_whole : Nat := 25
abbrev i_law_spoilt : Nat := 26
abbrev i_law_good_net : Nat := 27
abbrev i_law_good_rules : Nat := 28
abbrev i_law_stands_right : Nat := 29
abbrev ilaw : Nat := 30
def Lw : LawL where
  G := G
  info := info
  tbl := tbl
  law := 30
  hand := [⟨"_law_error", top 37, ["call", "e"], ["call"], false⟩, ⟨"_law_named_error", top 36, ["e", "some", "words", "word", "good"], ["e"], false⟩]
  cs := ["InvalidNet", "InvalidPressure", "InvalidNumber", "InvalidRules", "InvalidFacts", "InvalidText", "NothingToUndo"]
  txt := "net pressure number rules facts text undo value"
  pe := "PressureError"
  ans := [[true, false, false, false, false, false, false, true], [false, false, true, false, false, false, false, true]]
theorem bnd : ∀ I ∈ Lw.info ++ Lw.hand, Bnd I := by
  intro I hI
  obtain ⟨i, hi⟩ := List.mem_iff_getElem?.mp hI
  match i, hi with
  | 0, hi => cases (show some _ = some I from hi); exact fun _ _ _ _ _ _ us hl => match us, hl with | [_], _ => rfl
  | 1, hi => cases (show some _ = some I from hi); exact fun _ _ _ _ _ _ us hl => match us, hl with | [_, _, _], _ => rfl
  | 2, hi => cases (show some _ = some I from hi); exact fun _ _ _ _ _ _ us hl => match us, hl with | [_, _, _], _ => rfl
  | 3, hi => cases (show some _ = some I from hi); exact fun _ _ _ _ _ _ us hl => match us, hl with | [_], _ => rfl
  | 4, hi => cases (show some _ = some I from hi); exact fun _ _ _ _ _ _ us hl => match us, hl with | [_, _], _ => rfl
  | 5, hi => cases (show some _ = some I from hi); exact fun _ _ _ _ _ _ us hl => match us, hl with | [_], _ => rfl
  | 6, hi => cases (show some _ = some I from hi); exact fun _ _ _ _ _ _ us hl => match us, hl with | [_, _], _ => rfl
  | 7, hi => cases (show some _ = some I from hi); exact fun _ _ _ _ _ _ us hl => match us, hl with | [_], _ => rfl
  | 8, hi => cases (show some _ = some I from hi); exact fun _ _ _ _ _ _ us hl => match us, hl with | [_], _ => rfl
  | 9, hi => cases (show some _ = some I from hi); exact fun _ _ _ _ _ _ us hl => match us, hl with | [_, _], _ => rfl
  | 10, hi => cases (show some _ = some I from hi); exact fun _ _ _ _ _ _ us hl => match us, hl with | [_, _], _ => rfl
  | 11, hi => cases (show some _ = some I from hi); exact fun _ _ _ _ _ _ us hl => match us, hl with | [_], _ => rfl
  | 12, hi => cases (show some _ = some I from hi); exact fun _ _ _ _ _ _ us hl => match us, hl with | [_, _], _ => rfl
  | 13, hi => cases (show some _ = some I from hi); exact fun _ _ _ _ _ _ us hl => match us, hl with | [_, _], _ => rfl
  | 14, hi => cases (show some _ = some I from hi); exact fun _ _ _ _ _ _ us hl => match us, hl with | [_, _], _ => rfl
  | 15, hi => cases (show some _ = some I from hi); exact fun _ _ _ _ _ _ us hl => match us, hl with | [_, _], _ => rfl
  | 16, hi => cases (show some _ = some I from hi); exact fun _ _ _ _ _ _ us hl => match us, hl with | [_, _, _, _], _ => rfl
  | 17, hi => cases (show some _ = some I from hi); exact fun _ _ _ _ _ _ us hl => match us, hl with | [_, _], _ => rfl
  | 18, hi => cases (show some _ = some I from hi); exact fun _ _ _ _ _ _ us hl => match us, hl with | [_, _], _ => rfl
  | 19, hi => cases (show some _ = some I from hi); exact fun _ _ _ _ _ _ us hl => match us, hl with | [_, _], _ => rfl
  | 20, hi => cases (show some _ = some I from hi); exact fun _ _ _ _ _ _ us hl => match us, hl with | [_, _], _ => rfl
  | 21, hi => cases (show some _ = some I from hi); exact fun _ _ _ _ _ _ us hl => match us, hl with | [_, _], _ => rfl
  | 22, hi => cases (show some _ = some I from hi); exact fun _ _ _ _ _ _ us hl => match us, hl with | [_, _], _ => rfl
  | 23, hi => cases (show some _ = some I from hi); exact fun _ _ _ _ _ _ us hl => match us, hl with | [_, _, _], _ => rfl
  | 24, hi => cases (show some _ = some I from hi); exact fun _ _ _ _ _ _ us hl => match us, hl with | [_, _], _ => rfl
  | 25, hi => cases (show some _ = some I from hi); exact fun _ _ _ _ _ _ us hl => match us, hl with | [_, _, _], _ => rfl
  | 26, hi => cases (show some _ = some I from hi); exact fun _ _ _ _ _ _ us hl => match us, hl with | [_, _], _ => rfl
  | 27, hi => cases (show some _ = some I from hi); exact fun _ _ _ _ _ _ us hl => match us, hl with | [_], _ => rfl
  | 28, hi => cases (show some _ = some I from hi); exact fun _ _ _ _ _ _ us hl => match us, hl with | [_, _], _ => rfl
  | 29, hi => cases (show some _ = some I from hi); exact fun _ _ _ _ _ _ us hl => match us, hl with | [_], _ => rfl
  | 30, hi => cases (show some _ = some I from hi); exact fun _ _ _ _ _ _ us hl => match us, hl with | [_], _ => rfl
  | 31, hi => cases (show some _ = some I from hi); exact fun _ _ _ _ _ _ us hl => match us, hl with | [_], _ => rfl
  | 32, hi => cases (show some _ = some I from hi); exact fun _ _ _ _ _ _ us hl => match us, hl with | [_], _ => rfl
  | n + 33, hi => cases (show none = some I from hi)
theorem ok : Lw.Ok where
  chk := ckAll_ok (by decide +kernel)
  len := rfl
  gi := by decide +kernel
  law := ⟨_, rfl, rfl, rfl⟩
  bnd := bnd
  hs := .inr ⟨_, _, rfl, rfl, rfl, rfl, by decide +kernel, by decide +kernel, by decide +kernel, by decide +kernel, by decide +kernel, rfl, rfl⟩
end K01

set_option Elab.async false
set_option linter.all false
set_option maxRecDepth 100000
set_option maxHeartbeats 4000000
set_option autoImplicit false
/-! PL1: words for plain laws over the small language -/
namespace AP
open PySem PySem.Spec PyProof.Rows L2
theorem set_self {α : Type} {l : List α} {i : Nat} {a : α} (h : l[i]? = some a) : l.set i a = l := by
  apply List.ext_getElem?
  intro j
  by_cases e : j = i
  · subst e
    rw [List.getElem?_set_self (List.getElem?_eq_some_iff.mp h).1, h]
  · rw [List.getElem?_set_ne (Ne.symm e)]
theorem wipe_one (s : S) (i : Nat) : s.wipe [i] = ⟨s.sl.set i .un, s.mu⟩ := rfl
/-- a comprehension whose turns change nothing -/
theorem lc_run {i : Nat} {c : S → R Bool} {f : S → R PV} {g : PV → PV} {s : S} (h0 : s.sl[i]? = some .un) : ∀ (xs : List PV), (∀ x ∈ xs, c (s.set i (.val x)) = .ok true (s.set i (.val x))) → (∀ x ∈ xs, f (s.set i (.val x)) = .ok (g x) (s.set i (.val x))) →
    lcLoop (bindP (.nm i)) [i] c f xs s = .ok (xs.map g) s
  | [], _, _ => rfl
  | x :: xs, hc, hf => by
    have hi : i < s.sl.length := (List.getElem?_eq_some_iff.mp h0).1
    have hw : (s.set i (.val x)).wipe [i] = s := by
      rw [wipe_one]
      simp only [S.set, List.set_set]
      rw [set_self h0]
    have hb : bindP (.nm i) x s = some (s.set i (.val x)) := by simp [bindP, hi]
    unfold lcLoop
    rw [hb]
    dsimp only
    rw [hc x List.mem_cons_self]
    dsimp only
    rw [hf x List.mem_cons_self]
    dsimp only
    rw [hw, lc_run h0 xs (fun y hy => hc y (List.mem_cons_of_mem _ hy)) (fun y hy => hf y (List.mem_cons_of_mem _ hy))]
    rfl
/-- the whole comprehension -/
theorem lcE {cf : Nat → List PV → List MO → RC} {G : Gx} {elt it : AP.E} {i : Nat} {g : PV → PV} {s s1 : S} {xs : List PV} (hit : (evK cf G it).i s = .ok xs s1) (h0 : s1.sl[i]? = some .un) (hf : ∀ x ∈ xs, (evK cf G elt).e (s1.set i (.val x)) = .ok (g x) (s1.set i (.val x))) :
    (evK cf G (.lc elt (.nm i) it .omit)).e s = .ok (.lst (xs.map g)) s1 := by
  rw [evK]
  simp only [hit, R.bind]
  have no : notOwn s1.sl (Pat.nm i).slots = true := by simp [notOwn, Pat.slots, h0]
  rw [if_pos no]
  have hw : s1.wipe (Pat.nm i).slots = s1 := by
    show s1.wipe [i] = s1
    rw [wipe_one, set_self h0]
  rw [hw]
  have := lc_run (c := (evK cf G .omit).c) (f := (evK cf G elt).e) (g := g) h0 xs (fun x _ => rfl) hf
  rw [show lcLoop (bindP (.nm i)) (Pat.nm i).slots (evK cf G .omit).c (evK cf G elt).e xs s1 = _ from this]
  simp only [R.bind, restore, Pat.slots, List.foldr_cons, List.foldr_nil]
  rw [set_self (by rw [List.getD_eq_getElem?_getD, h0]; rfl)]
theorem bls_map (g : PV → Bool) : ∀ xs : List PV, PV.bls (xs.map fun x => .bl (g x)) = some (xs.map g)
  | [] => rfl
  | x :: xs => by simp [PV.bls, bls_map g xs]
end AP

set_option Elab.async false
set_option linter.all false
set_option maxRecDepth 100000
set_option maxHeartbeats 4000000
set_option autoImplicit false
/-! PL2: one equation for each form of the small language (printed by mkpl2.py) -/
namespace AP
open PySem PySem.Spec PyProof.Rows L2
section
variable (cf : Nat → List PV → List MO → RC) (G : Gx) (s : S)
@[simp] theorem xk_non : (evK cf G .non).e s = .ok .non s := rfl
@[simp] theorem xkp_non : (evK cf G .non).p s = ((evK cf G .non).e s).bind fun v s1 => (match v with
    | .int i => .ok (some i) s1
    | _ => .no) := rfl
@[simp] theorem xkc_non : (evK cf G .non).c s = ((evK cf G .non).e s).bind asBool := rfl
@[simp] theorem xki_non : (evK cf G .non).i s = ((evK cf G .non).e s).bind fun v s1 => (match seqItems v with
    | some xs => if xs.length ≤ lim then .ok xs s1 else .no
    | none => .no) := rfl
@[simp] theorem xk_bl (b : Bool) : (evK cf G (.bl b)).e s = .ok (.bl b) s := rfl
@[simp] theorem xkp_bl (b : Bool) : (evK cf G (.bl b)).p s = ((evK cf G (.bl b)).e s).bind fun v s1 => (match v with
    | .int i => .ok (some i) s1
    | _ => .no) := rfl
@[simp] theorem xkc_bl (b : Bool) : (evK cf G (.bl b)).c s = ((evK cf G (.bl b)).e s).bind asBool := rfl
@[simp] theorem xki_bl (b : Bool) : (evK cf G (.bl b)).i s = ((evK cf G (.bl b)).e s).bind fun v s1 => (match seqItems v with
    | some xs => if xs.length ≤ lim then .ok xs s1 else .no
    | none => .no) := rfl
@[simp] theorem xk_int (i : Int) : (evK cf G (.int i)).e s = .ok (.int i) s := rfl
@[simp] theorem xkp_int (i : Int) : (evK cf G (.int i)).p s = ((evK cf G (.int i)).e s).bind fun v s1 => (match v with
    | .int i => .ok (some i) s1
    | _ => .no) := rfl
@[simp] theorem xkc_int (i : Int) : (evK cf G (.int i)).c s = ((evK cf G (.int i)).e s).bind asBool := rfl
@[simp] theorem xki_int (i : Int) : (evK cf G (.int i)).i s = ((evK cf G (.int i)).e s).bind fun v s1 => (match seqItems v with
    | some xs => if xs.length ≤ lim then .ok xs s1 else .no
    | none => .no) := rfl
@[simp] theorem xk_str (x : Str) : (evK cf G (.str x)).e s = .ok (.str x) s := rfl
@[simp] theorem xkp_str (x : Str) : (evK cf G (.str x)).p s = ((evK cf G (.str x)).e s).bind fun v s1 => (match v with
    | .int i => .ok (some i) s1
    | _ => .no) := rfl
@[simp] theorem xkc_str (x : Str) : (evK cf G (.str x)).c s = ((evK cf G (.str x)).e s).bind asBool := rfl
@[simp] theorem xki_str (x : Str) : (evK cf G (.str x)).i s = ((evK cf G (.str x)).e s).bind fun v s1 => (match seqItems v with
    | some xs => if xs.length ≤ lim then .ok xs s1 else .no
    | none => .no) := rfl
@[simp] theorem xk_var (i : Nat) : (evK cf G (.var i)).e s = (match s.sl[i]? with
    | some (.val v) => .ok v s
    | some (.own xs) => .ok (.lst xs) (s.set i (.val (.lst xs)))
    | _ => .no) := rfl
@[simp] theorem xkp_var (i : Nat) : (evK cf G (.var i)).p s = ((evK cf G (.var i)).e s).bind fun v s1 => (match v with
    | .int i => .ok (some i) s1
    | _ => .no) := rfl
@[simp] theorem xkc_var (i : Nat) : (evK cf G (.var i)).c s = ((evK cf G (.var i)).e s).bind asBool := rfl
@[simp] theorem xki_var (i : Nat) : (evK cf G (.var i)).i s = ((evK cf G (.var i)).e s).bind fun v s1 => (match seqItems v with
    | some xs => if xs.length ≤ lim then .ok xs s1 else .no
    | none => .no) := rfl
@[simp] theorem xk_glob (g : Nat) : (evK cf G (.glob g)).e s = (match G.globs[g]? with
    | some p => .ok p.2 s
    | none => .no) := rfl
@[simp] theorem xkp_glob (g : Nat) : (evK cf G (.glob g)).p s = ((evK cf G (.glob g)).e s).bind fun v s1 => (match v with
    | .int i => .ok (some i) s1
    | _ => .no) := rfl
@[simp] theorem xkc_glob (g : Nat) : (evK cf G (.glob g)).c s = ((evK cf G (.glob g)).e s).bind asBool := rfl
@[simp] theorem xki_glob (g : Nat) : (evK cf G (.glob g)).i s = ((evK cf G (.glob g)).e s).bind fun v s1 => (match seqItems v with
    | some xs => if xs.length ≤ lim then .ok xs s1 else .no
    | none => .no) := rfl
@[simp] theorem xk_bin (o : Bop) (a b : AP.E) : (evK cf G (.bin o a b)).e s = two (opd a ((evK cf G a).e)) (opd b ((evK cf G b).e)) (opBin o) s := rfl
@[simp] theorem xkp_bin (o : Bop) (a b : AP.E) : (evK cf G (.bin o a b)).p s = ((evK cf G (.bin o a b)).e s).bind fun v s1 => (match v with
    | .int i => .ok (some i) s1
    | _ => .no) := rfl
@[simp] theorem xkc_bin (o : Bop) (a b : AP.E) : (evK cf G (.bin o a b)).c s = ((evK cf G (.bin o a b)).e s).bind asBool := rfl
@[simp] theorem xki_bin (o : Bop) (a b : AP.E) : (evK cf G (.bin o a b)).i s = ((evK cf G (.bin o a b)).e s).bind fun v s1 => (match seqItems v with
    | some xs => if xs.length ≤ lim then .ok xs s1 else .no
    | none => .no) := rfl
@[simp] theorem xk_neg (a : AP.E) : (evK cf G (.neg a)).e s = one (opd a ((evK cf G a).e)) (fun | .int i => some (.int (-i)) | _ => none) s := rfl
@[simp] theorem xkp_neg (a : AP.E) : (evK cf G (.neg a)).p s = ((evK cf G (.neg a)).e s).bind fun v s1 => (match v with
    | .int i => .ok (some i) s1
    | _ => .no) := rfl
@[simp] theorem xkc_neg (a : AP.E) : (evK cf G (.neg a)).c s = ((evK cf G (.neg a)).e s).bind asBool := rfl
@[simp] theorem xki_neg (a : AP.E) : (evK cf G (.neg a)).i s = ((evK cf G (.neg a)).e s).bind fun v s1 => (match seqItems v with
    | some xs => if xs.length ≤ lim then .ok xs s1 else .no
    | none => .no) := rfl
@[simp] theorem xk_cmp (o : Cop) (a b : AP.E) : (evK cf G (.cmp o a b)).e s = two (opd a ((evK cf G a).e)) (opd b ((evK cf G b).e)) (fun p q => (opCmp o p q).map .bl) s := rfl
@[simp] theorem xkp_cmp (o : Cop) (a b : AP.E) : (evK cf G (.cmp o a b)).p s = ((evK cf G (.cmp o a b)).e s).bind fun v s1 => (match v with
    | .int i => .ok (some i) s1
    | _ => .no) := rfl
@[simp] theorem xkc_cmp (o : Cop) (a b : AP.E) : (evK cf G (.cmp o a b)).c s = ((evK cf G (.cmp o a b)).e s).bind asBool := rfl
@[simp] theorem xki_cmp (o : Cop) (a b : AP.E) : (evK cf G (.cmp o a b)).i s = ((evK cf G (.cmp o a b)).e s).bind fun v s1 => (match seqItems v with
    | some xs => if xs.length ≤ lim then .ok xs s1 else .no
    | none => .no) := rfl
@[simp] theorem xk_chain (o p : Cop) (a b c : AP.E) : (evK cf G (.chain o p a b c)).e s = ((evK cf G a).e s).bind fun x s1 => ((evK cf G b).e s1).bind fun y s2 => (match opCmp o x y with
    | some true => ((evK cf G c).e s2).bind fun z s3 => (match opCmp p y z with
      | some r => .ok (.bl r) s3
      | none => .no)
    | some false => .ok (.bl false) s2
    | none => .no) := rfl
@[simp] theorem xkp_chain (o p : Cop) (a b c : AP.E) : (evK cf G (.chain o p a b c)).p s = ((evK cf G (.chain o p a b c)).e s).bind fun v s1 => (match v with
    | .int i => .ok (some i) s1
    | _ => .no) := rfl
@[simp] theorem xkc_chain (o p : Cop) (a b c : AP.E) : (evK cf G (.chain o p a b c)).c s = ((evK cf G (.chain o p a b c)).e s).bind asBool := rfl
@[simp] theorem xki_chain (o p : Cop) (a b c : AP.E) : (evK cf G (.chain o p a b c)).i s = ((evK cf G (.chain o p a b c)).e s).bind fun v s1 => (match seqItems v with
    | some xs => if xs.length ≤ lim then .ok xs s1 else .no
    | none => .no) := rfl
@[simp] theorem xk_and_ (a b : AP.E) : (evK cf G (.and_ a b)).e s = ((evK cf G a).e s).bind fun x s1 => (match x with
    | .bl true => (evK cf G b).e s1
    | .bl false => .ok (.bl false) s1
    | _ => .no) := rfl
@[simp] theorem xkp_and_ (a b : AP.E) : (evK cf G (.and_ a b)).p s = ((evK cf G (.and_ a b)).e s).bind fun v s1 => (match v with
    | .int i => .ok (some i) s1
    | _ => .no) := rfl
@[simp] theorem xkc_and_ (a b : AP.E) : (evK cf G (.and_ a b)).c s = ((evK cf G (.and_ a b)).e s).bind asBool := rfl
@[simp] theorem xki_and_ (a b : AP.E) : (evK cf G (.and_ a b)).i s = ((evK cf G (.and_ a b)).e s).bind fun v s1 => (match seqItems v with
    | some xs => if xs.length ≤ lim then .ok xs s1 else .no
    | none => .no) := rfl
@[simp] theorem xk_or_ (a b : AP.E) : (evK cf G (.or_ a b)).e s = ((evK cf G a).e s).bind fun x s1 => (match x with
    | .bl true => .ok (.bl true) s1
    | .bl false => (evK cf G b).e s1
    | _ => .no) := rfl
@[simp] theorem xkp_or_ (a b : AP.E) : (evK cf G (.or_ a b)).p s = ((evK cf G (.or_ a b)).e s).bind fun v s1 => (match v with
    | .int i => .ok (some i) s1
    | _ => .no) := rfl
@[simp] theorem xkc_or_ (a b : AP.E) : (evK cf G (.or_ a b)).c s = ((evK cf G (.or_ a b)).e s).bind asBool := rfl
@[simp] theorem xki_or_ (a b : AP.E) : (evK cf G (.or_ a b)).i s = ((evK cf G (.or_ a b)).e s).bind fun v s1 => (match seqItems v with
    | some xs => if xs.length ≤ lim then .ok xs s1 else .no
    | none => .no) := rfl
@[simp] theorem xk_not_ (a : AP.E) : (evK cf G (.not_ a)).e s = ((evK cf G a).e s).bind fun x s1 => (match x with
    | .bl b => .ok (.bl (!b)) s1
    | _ => .no) := rfl
@[simp] theorem xkp_not_ (a : AP.E) : (evK cf G (.not_ a)).p s = ((evK cf G (.not_ a)).e s).bind fun v s1 => (match v with
    | .int i => .ok (some i) s1
    | _ => .no) := rfl
@[simp] theorem xkc_not_ (a : AP.E) : (evK cf G (.not_ a)).c s = ((evK cf G (.not_ a)).e s).bind asBool := rfl
@[simp] theorem xki_not_ (a : AP.E) : (evK cf G (.not_ a)).i s = ((evK cf G (.not_ a)).e s).bind fun v s1 => (match seqItems v with
    | some xs => if xs.length ≤ lim then .ok xs s1 else .no
    | none => .no) := rfl
@[simp] theorem xk_ite (c a b : AP.E) : (evK cf G (.ite c a b)).e s = ((evK cf G c).e s).bind fun x s1 => (match x with
    | .bl true => (evK cf G a).e s1
    | .bl false => (evK cf G b).e s1
    | _ => .no) := rfl
@[simp] theorem xkp_ite (c a b : AP.E) : (evK cf G (.ite c a b)).p s = ((evK cf G (.ite c a b)).e s).bind fun v s1 => (match v with
    | .int i => .ok (some i) s1
    | _ => .no) := rfl
@[simp] theorem xkc_ite (c a b : AP.E) : (evK cf G (.ite c a b)).c s = ((evK cf G (.ite c a b)).e s).bind asBool := rfl
@[simp] theorem xki_ite (c a b : AP.E) : (evK cf G (.ite c a b)).i s = ((evK cf G (.ite c a b)).e s).bind fun v s1 => (match seqItems v with
    | some xs => if xs.length ≤ lim then .ok xs s1 else .no
    | none => .no) := rfl
@[simp] theorem xk_tup (xs : AP.E) : (evK cf G (.tup xs)).e s = ((evK cf G xs).a s).bind fun vs s1 => if vs.length ≤ lim then .ok (.tup vs) s1 else .no := rfl
@[simp] theorem xkp_tup (xs : AP.E) : (evK cf G (.tup xs)).p s = ((evK cf G (.tup xs)).e s).bind fun v s1 => (match v with
    | .int i => .ok (some i) s1
    | _ => .no) := rfl
@[simp] theorem xkc_tup (xs : AP.E) : (evK cf G (.tup xs)).c s = ((evK cf G (.tup xs)).e s).bind asBool := rfl
@[simp] theorem xki_tup (xs : AP.E) : (evK cf G (.tup xs)).i s = ((evK cf G (.tup xs)).e s).bind fun v s1 => (match seqItems v with
    | some xs => if xs.length ≤ lim then .ok xs s1 else .no
    | none => .no) := rfl
@[simp] theorem xk_lst (xs : AP.E) : (evK cf G (.lst xs)).e s = ((evK cf G xs).a s).bind fun vs s1 => if vs.length ≤ lim then .ok (.lst vs) s1 else .no := rfl
@[simp] theorem xkp_lst (xs : AP.E) : (evK cf G (.lst xs)).p s = ((evK cf G (.lst xs)).e s).bind fun v s1 => (match v with
    | .int i => .ok (some i) s1
    | _ => .no) := rfl
@[simp] theorem xkc_lst (xs : AP.E) : (evK cf G (.lst xs)).c s = ((evK cf G (.lst xs)).e s).bind asBool := rfl
@[simp] theorem xki_lst (xs : AP.E) : (evK cf G (.lst xs)).i s = ((evK cf G (.lst xs)).e s).bind fun v s1 => (match seqItems v with
    | some xs => if xs.length ≤ lim then .ok xs s1 else .no
    | none => .no) := rfl
@[simp] theorem xk_idx (a b : AP.E) : (evK cf G (.idx a b)).e s = two (opd a ((evK cf G a).e)) (opd b ((evK cf G b).e)) idxV s := rfl
@[simp] theorem xkp_idx (a b : AP.E) : (evK cf G (.idx a b)).p s = ((evK cf G (.idx a b)).e s).bind fun v s1 => (match v with
    | .int i => .ok (some i) s1
    | _ => .no) := rfl
@[simp] theorem xkc_idx (a b : AP.E) : (evK cf G (.idx a b)).c s = ((evK cf G (.idx a b)).e s).bind asBool := rfl
@[simp] theorem xki_idx (a b : AP.E) : (evK cf G (.idx a b)).i s = ((evK cf G (.idx a b)).e s).bind fun v s1 => (match seqItems v with
    | some xs => if xs.length ≤ lim then .ok xs s1 else .no
    | none => .no) := rfl
@[simp] theorem xk_slice (a lo hi : AP.E) : (evK cf G (.slice a lo hi)).e s = (opd a ((evK cf G a).e) s).bind fun x s1 => ((evK cf G lo).p s1).bind fun l s2 => ((evK cf G hi).p s2).bind fun h s3 => (match s3.view x with
    | some p => (match sliceV l h p with
      | some r => .ok r s3
      | none => .no)
    | none => .no) := rfl
@[simp] theorem xkp_slice (a lo hi : AP.E) : (evK cf G (.slice a lo hi)).p s = ((evK cf G (.slice a lo hi)).e s).bind fun v s1 => (match v with
    | .int i => .ok (some i) s1
    | _ => .no) := rfl
@[simp] theorem xkc_slice (a lo hi : AP.E) : (evK cf G (.slice a lo hi)).c s = ((evK cf G (.slice a lo hi)).e s).bind asBool := rfl
@[simp] theorem xki_slice (a lo hi : AP.E) : (evK cf G (.slice a lo hi)).i s = ((evK cf G (.slice a lo hi)).e s).bind fun v s1 => (match seqItems v with
    | some xs => if xs.length ≤ lim then .ok xs s1 else .no
    | none => .no) := rfl
@[simp] theorem xk_rev (a : AP.E) : (evK cf G (.rev a)).e s = one (opd a ((evK cf G a).e)) revV s := rfl
@[simp] theorem xkp_rev (a : AP.E) : (evK cf G (.rev a)).p s = ((evK cf G (.rev a)).e s).bind fun v s1 => (match v with
    | .int i => .ok (some i) s1
    | _ => .no) := rfl
@[simp] theorem xkc_rev (a : AP.E) : (evK cf G (.rev a)).c s = ((evK cf G (.rev a)).e s).bind asBool := rfl
@[simp] theorem xki_rev (a : AP.E) : (evK cf G (.rev a)).i s = ((evK cf G (.rev a)).e s).bind fun v s1 => (match seqItems v with
    | some xs => if xs.length ≤ lim then .ok xs s1 else .no
    | none => .no) := rfl
@[simp] theorem xk_call (f : Nat) (xs : AP.E) : (evK cf G (.call f xs)).e s = ((evK cf G xs).a s).bind fun vs s1 => callR cf f vs s1 := rfl
@[simp] theorem xkp_call (f : Nat) (xs : AP.E) : (evK cf G (.call f xs)).p s = ((evK cf G (.call f xs)).e s).bind fun v s1 => (match v with
    | .int i => .ok (some i) s1
    | _ => .no) := rfl
@[simp] theorem xkc_call (f : Nat) (xs : AP.E) : (evK cf G (.call f xs)).c s = ((evK cf G (.call f xs)).e s).bind asBool := rfl
@[simp] theorem xki_call (f : Nat) (xs : AP.E) : (evK cf G (.call f xs)).i s = ((evK cf G (.call f xs)).e s).bind fun v s1 => (match seqItems v with
    | some xs => if xs.length ≤ lim then .ok xs s1 else .no
    | none => .no) := rfl
@[simp] theorem xk_isi (a : AP.E) (t : Ty) : (evK cf G (.isi a t)).e s = one (opd a ((evK cf G a).e)) (fun p => (p.isTy t).map .bl) s := rfl
@[simp] theorem xkp_isi (a : AP.E) (t : Ty) : (evK cf G (.isi a t)).p s = ((evK cf G (.isi a t)).e s).bind fun v s1 => (match v with
    | .int i => .ok (some i) s1
    | _ => .no) := rfl
@[simp] theorem xkc_isi (a : AP.E) (t : Ty) : (evK cf G (.isi a t)).c s = ((evK cf G (.isi a t)).e s).bind asBool := rfl
@[simp] theorem xki_isi (a : AP.E) (t : Ty) : (evK cf G (.isi a t)).i s = ((evK cf G (.isi a t)).e s).bind fun v s1 => (match seqItems v with
    | some xs => if xs.length ≤ lim then .ok xs s1 else .no
    | none => .no) := rfl
@[simp] theorem xk_pop0 (i : Nat) : (evK cf G (.pop0 i)).e s = (match s.sl[i]? with
    | some (.val (.obj n)) => (match s.mu[n]? with
      | some (.lst (x :: xs)) => .ok x ⟨s.sl, s.mu.set n (.lst xs)⟩
      | _ => .no)
    | _ => .no) := rfl
@[simp] theorem xkp_pop0 (i : Nat) : (evK cf G (.pop0 i)).p s = ((evK cf G (.pop0 i)).e s).bind fun v s1 => (match v with
    | .int i => .ok (some i) s1
    | _ => .no) := rfl
@[simp] theorem xkc_pop0 (i : Nat) : (evK cf G (.pop0 i)).c s = ((evK cf G (.pop0 i)).e s).bind asBool := rfl
@[simp] theorem xki_pop0 (i : Nat) : (evK cf G (.pop0 i)).i s = ((evK cf G (.pop0 i)).e s).bind fun v s1 => (match seqItems v with
    | some xs => if xs.length ≤ lim then .ok xs s1 else .no
    | none => .no) := rfl
@[simp] theorem xk_isx (n : Nat) : (evK cf G (.isx n)).e s = (match G.isx[n]? with
    | some b => .ok (.bl b) s
    | none => .no) := rfl
@[simp] theorem xkp_isx (n : Nat) : (evK cf G (.isx n)).p s = ((evK cf G (.isx n)).e s).bind fun v s1 => (match v with
    | .int i => .ok (some i) s1
    | _ => .no) := rfl
@[simp] theorem xkc_isx (n : Nat) : (evK cf G (.isx n)).c s = ((evK cf G (.isx n)).e s).bind asBool := rfl
@[simp] theorem xki_isx (n : Nat) : (evK cf G (.isx n)).i s = ((evK cf G (.isx n)).e s).bind fun v s1 => (match seqItems v with
    | some xs => if xs.length ≤ lim then .ok xs s1 else .no
    | none => .no) := rfl
@[simp] theorem xk_bi1 (f : Bi) (a : AP.E) : (evK cf G (.bi f (.cons a .nil))).e s = one (opd a ((evK cf G a).e)) (fun p => biV f [p]) s := rfl
@[simp] theorem xk_bi2 (f : Bi) (a b xs : AP.E) : (evK cf G (.bi f (.cons a (.cons b xs)))).e s = ((evK cf G (.cons a (.cons b xs))).a s).bind fun vs s1 => (match biV f vs with
      | some r => .ok r s1
      | none => .no) := rfl
@[simp] theorem xk_nil : (evK cf G .nil).a s = .ok [] s := rfl
@[simp] theorem xk_cons (a xs : AP.E) : (evK cf G (.cons a xs)).a s = ((evK cf G a).e s).bind fun v s1 => ((evK cf G xs).a s1).bind fun vs s2 => .ok (v :: vs) s2 := rfl
@[simp] theorem xk_omitp : (evK cf G .omit).p s = .ok none s := rfl
@[simp] theorem xk_omitc : (evK cf G .omit).c s = .ok true s := rfl
@[simp] theorem xk_range1 (a : AP.E) : (evK cf G (.range1 a)).i s = ((evK cf G a).e s).bind fun v s1 => (match v with
    | .int n => if -lim ≤ n ∧ n ≤ lim then .ok (intL 0 n.toNat) s1 else .no
    | _ => .no) := rfl
@[simp] theorem xk_zip (a b : AP.E) : (evK cf G (.zip a b)).i s = ((evK cf G a).e s).bind fun v s1 => ((evK cf G b).e s1).bind fun w s2 => (match v, w with
    | .lst xs, .lst ys => if xs.length ≤ lim then .ok (zipL xs ys) s2 else .no
    | .tup xs, .tup ys => if xs.length ≤ lim then .ok (zipL xs ys) s2 else .no
    | _, _ => .no) := rfl
@[simp] theorem xk_lam (h : Nat) (e : AP.E) : (evK cf G (.lam h e)).e s = (match G.hs[h]? with
    | some p => (match (evK cf G e).e s with
      | .ok v s1 => .ok (hok p.2 v) s1
      | .exc c s1 => (match G.words[c]? with
        | some x => .ok (hexc p.2 x) s1
        | none => .no)
      | .no => .no)
    | none => .no) := rfl
@[simp] theorem xx_skip  : exK cf G .skip s = .nx s := rfl
@[simp] theorem xx_seq (a b : C) : exK cf G (.seq a b) s = (match exK cf G a s with
    | .nx s1 => exK cf G b s1
    | r => r) := rfl
@[simp] theorem xx_asg (i : Nat) (e : AP.E) : exK cf G (.asg i e) s = ((evK cf G e).e s).go fun v s1 => if i < s1.sl.length then .nx (s1.set i (.val v)) else .no := rfl
@[simp] theorem xx_obj (i : Nat) (e : AP.E) : exK cf G (.obj i e) s = ((evK cf G e).e s).go fun v s1 => (match v with
    | .lst xs => if i < s1.sl.length then .nx ⟨s1.sl.set i (.val (.obj s1.mu.length)), s1.mu ++ [.lst xs]⟩ else .no
    | _ => .no) := rfl
@[simp] theorem xx_pat (p : Pat) (e : AP.E) : exK cf G (.pat p e) s = ((evK cf G e).e s).go fun v s1 => (match bindP p v s1 with
    | some s2 => .nx s2
    | none => .no) := rfl
@[simp] theorem xx_par2 (i j : Nat) (a b : AP.E) : exK cf G (.par2 i j a b) s = ((evK cf G a).e s).go fun v s1 => ((evK cf G b).e s1).go fun w s2 => if i < s2.sl.length ∧ j < s2.sl.length then .nx ((s2.set i (.val v)).set j (.val w)) else .no := rfl
@[simp] theorem xx_expr (e : AP.E) : exK cf G (.expr e) s = ((evK cf G e).e s).go fun _ s1 => .nx s1 := rfl
@[simp] theorem xx_app (i : Nat) (e : AP.E) : exK cf G (.app i e) s = if isLst s i then ((evK cf G e).e s).go fun v s1 => (match s1.sl[i]? with
    | some (.own xs) => if xs.length < lim then .nx (s1.set i (.own (xs ++ [v]))) else .no
    | some (.val (.obj n)) => (match s1.mu[n]? with
      | some (.lst xs) => if xs.length < lim then .nx ⟨s1.sl, s1.mu.set n (.lst (xs ++ [v]))⟩ else .no
      | _ => .no)
    | _ => .no) else .no := rfl
@[simp] theorem xx_ret (e : AP.E) : exK cf G (.ret e) s = ((evK cf G e).e s).go fun v s1 => .rt v s1 := rfl
@[simp] theorem xx_ite (c : AP.E) (a b : C) : exK cf G (.ite c a b) s = ((evK cf G c).e s).go fun v s1 => (match v with
    | .bl true => exK cf G a s1
    | .bl false => exK cf G b s1
    | _ => .no) := rfl
@[simp] theorem xx_whl (m : Nat) (c : AP.E) (b : C) : exK cf G (.whl m c b) s = whlLoop ((evK cf G c).e) (exK cf G b) (fuelOf m s) s := rfl
@[simp] theorem xx_raise (c : Nat) : exK cf G (.raise c) s = .exc c s := rfl
theorem xx_for {p : Pat} {it : AP.E} {b : C} {xs : List PV} {s s1 : S} (h : (evK cf G it).i s = .ok xs s1) : exK cf G (.for_ p it b) s = forLoop (bindP p) (exK cf G b) xs s1 := by
  show ((evK cf G it).i s).go _ = _
  rw [h]; rfl
end
/-- a loop that goes on to its end -/
theorem for_inv {bind : PV → S → Option S} {body : S → RS} : ∀ (xs : List PV) (P : List PV → S → Prop), (∀ x r s, P (x :: r) s → ∃ s1 s2, bind x s = some s1 ∧ body s1 = .nx s2 ∧ P r s2) → ∀ s, P xs s → ∃ s', forLoop bind body xs s = .nx s' ∧ P [] s'
  | [], P, _, s, h => ⟨s, rfl, h⟩
  | x :: r, P, hb, s, h => by
    obtain ⟨s1, s2, e1, e2, h2⟩ := hb x r s h
    obtain ⟨s', e, h'⟩ := for_inv r P hb s2 h2
    exact ⟨s', by unfold forLoop; rw [e1]; dsimp only; rw [e2]; exact e, h'⟩
/-- a loop that returns False at the first x without g -/
theorem for_all {bind : PV → S → Option S} {body : S → RS} {w : PV → S → S} {g : PV → Bool} (P : PV → S → Prop) : ∀ (xs : List PV) (s : S), (∀ x ∈ xs, ∀ s, P x s → True) → True
  | _, _, _ => trivial
end AP

set_option Elab.async false
set_option linter.all false
set_option maxRecDepth 100000
set_option maxHeartbeats 4000000
set_option autoImplicit false
/-! PL3: the words' own equations, for simp (printed by mkpl3.py) -/
namespace AP
open PySem PySem.Spec PyProof.Rows L2
section
variable {α β : Type}
@[simp] theorem q_bind_ok (a : α) (s : S) (k : α → S → R β) : (R.ok a s).bind k = k a s := rfl
@[simp] theorem q_bind_exc (c : Nat) (s : S) (k : α → S → R β) : (R.exc c s : R α).bind k = .exc c s := rfl
@[simp] theorem q_bind_no (k : α → S → R β) : (R.no : R α).bind k = .no := rfl
@[simp] theorem q_go_ok (a : α) (s : S) (k : α → S → RS) : (R.ok a s).go k = k a s := rfl
@[simp] theorem q_go_exc (c : Nat) (s : S) (k : α → S → RS) : (R.exc c s : R α).go k = .exc c s := rfl
@[simp] theorem q_go_no (k : α → S → RS) : (R.no : R α).go k = .no := rfl
end
@[simp] theorem q_done_nx (s : S) : (RS.nx s).done = .ok .non s.mu := rfl
@[simp] theorem q_done_rt (v : PV) (s : S) : (RS.rt v s).done = .ok v s.mu := rfl
@[simp] theorem q_done_exc (c : Nat) (s : S) : (RS.exc c s).done = .exc c s.mu := rfl
@[simp] theorem q_done_no : RS.no.done = .no := rfl
@[simp] theorem q_callR (cf : Nat → List PV → List MO → RC) (f : Nat) (xs : List PV) (s : S) : callR cf f xs s = (match cf f xs s.mu with
  | .ok v mu => .ok v ⟨s.sl, mu⟩
  | .exc c mu => .exc c ⟨s.sl, mu⟩
  | .no => .no) := rfl
@[simp] theorem q_two (a b : S → R Opd) (f : PV → PV → Option PV) (s : S) : two a b f s = (a s).bind fun x s1 => (b s1).bind fun y s2 => (match s2.view x, s2.view y with
    | some p, some q => (match f p q with
      | some r => .ok r s2
      | none => .no)
    | _, _ => .no) := rfl
@[simp] theorem q_one (a : S → R Opd) (f : PV → Option PV) (s : S) : one a f s = (a s).bind fun x s1 => (match s1.view x with
    | some p => (match f p with
      | some r => .ok r s1
      | none => .no)
    | _ => .no) := rfl
section
variable (k : S → R PV) (s : S)
@[simp] theorem q_opd_var (i : Nat) : opd (.var i) k s = (match s.sl[i]? with
    | some (.val v) => .ok (.val v) s
    | some (.own _) => .ok (.sl i) s
    | _ => .no) := rfl
@[simp] theorem q_opd_non : opd (.non) k s = (k s).bind fun v s => .ok (.val v) s := rfl
@[simp] theorem q_opd_bl (b : Bool) : opd (.bl b) k s = (k s).bind fun v s => .ok (.val v) s := rfl
@[simp] theorem q_opd_int (i : Int) : opd (.int i) k s = (k s).bind fun v s => .ok (.val v) s := rfl
@[simp] theorem q_opd_str (x : Str) : opd (.str x) k s = (k s).bind fun v s => .ok (.val v) s := rfl
@[simp] theorem q_opd_glob (g : Nat) : opd (.glob g) k s = (k s).bind fun v s => .ok (.val v) s := rfl
@[simp] theorem q_opd_bin (o : Bop) (a b : AP.E) : opd (.bin o a b) k s = (k s).bind fun v s => .ok (.val v) s := rfl
@[simp] theorem q_opd_neg (a : AP.E) : opd (.neg a) k s = (k s).bind fun v s => .ok (.val v) s := rfl
@[simp] theorem q_opd_cmp (o : Cop) (a b : AP.E) : opd (.cmp o a b) k s = (k s).bind fun v s => .ok (.val v) s := rfl
@[simp] theorem q_opd_chain (o p : Cop) (a b c : AP.E) : opd (.chain o p a b c) k s = (k s).bind fun v s => .ok (.val v) s := rfl
@[simp] theorem q_opd_and_ (a b : AP.E) : opd (.and_ a b) k s = (k s).bind fun v s => .ok (.val v) s := rfl
@[simp] theorem q_opd_or_ (a b : AP.E) : opd (.or_ a b) k s = (k s).bind fun v s => .ok (.val v) s := rfl
@[simp] theorem q_opd_not_ (a : AP.E) : opd (.not_ a) k s = (k s).bind fun v s => .ok (.val v) s := rfl
@[simp] theorem q_opd_ite (c a b : AP.E) : opd (.ite c a b) k s = (k s).bind fun v s => .ok (.val v) s := rfl
@[simp] theorem q_opd_tup (xs : AP.E) : opd (.tup xs) k s = (k s).bind fun v s => .ok (.val v) s := rfl
@[simp] theorem q_opd_lst (xs : AP.E) : opd (.lst xs) k s = (k s).bind fun v s => .ok (.val v) s := rfl
@[simp] theorem q_opd_idx (a b : AP.E) : opd (.idx a b) k s = (k s).bind fun v s => .ok (.val v) s := rfl
@[simp] theorem q_opd_slice (a lo hi : AP.E) : opd (.slice a lo hi) k s = (k s).bind fun v s => .ok (.val v) s := rfl
@[simp] theorem q_opd_rev (a : AP.E) : opd (.rev a) k s = (k s).bind fun v s => .ok (.val v) s := rfl
@[simp] theorem q_opd_call (f : Nat) (xs : AP.E) : opd (.call f xs) k s = (k s).bind fun v s => .ok (.val v) s := rfl
@[simp] theorem q_opd_bi (f : Bi) (xs : AP.E) : opd (.bi f xs) k s = (k s).bind fun v s => .ok (.val v) s := rfl
@[simp] theorem q_opd_isi (a : AP.E) (t : Ty) : opd (.isi a t) k s = (k s).bind fun v s => .ok (.val v) s := rfl
@[simp] theorem q_opd_meth (m : Mt) (a b : AP.E) : opd (.meth m a b) k s = (k s).bind fun v s => .ok (.val v) s := rfl
@[simp] theorem q_opd_pop0 (i : Nat) : opd (.pop0 i) k s = (k s).bind fun v s => .ok (.val v) s := rfl
@[simp] theorem q_opd_lc (elt : AP.E) (p : Pat) (it cond : AP.E) : opd (.lc elt p it cond) k s = (k s).bind fun v s => .ok (.val v) s := rfl
@[simp] theorem q_opd_isx (n : Nat) : opd (.isx n) k s = (k s).bind fun v s => .ok (.val v) s := rfl
@[simp] theorem q_opd_lam (h : Nat) (e : AP.E) : opd (.lam h e) k s = (k s).bind fun v s => .ok (.val v) s := rfl
end
@[simp] theorem vt (s : S) (xs : List PV) : s.view (.val (.tup xs)) = some (.tup xs) := rfl
@[simp] theorem vl (s : S) (xs : List PV) : s.view (.val (.lst xs)) = some (.lst xs) := rfl
@[simp] theorem vi (s : S) (i : Int) : s.view (.val (.int i)) = some (.int i) := rfl
@[simp] theorem vb (s : S) (b : Bool) : s.view (.val (.bl b)) = some (.bl b) := rfl
@[simp] theorem vs (s : S) (x : Str) : s.view (.val (.str x)) = some (.str x) := rfl
@[simp] theorem vn (s : S) : s.view (.val .non) = some .non := rfl
@[simp] theorem q_bindP_nm (i : Nat) (v : PV) (s : S) : bindP (.nm i) v s = if i < s.sl.length then some (s.set i (.val v)) else none := by rw [bindP]
@[simp] theorem q_bindP_tup (p : Pat) (xs : List PV) (s : S) : bindP (.tup p) (.tup xs) s = bindPs p xs s := by rw [bindP]
@[simp] theorem q_bindPs_nil (s : S) : bindPs .nil [] s = some s := by rw [bindPs]
@[simp] theorem q_bindPs_cons (p q : Pat) (x : PV) (xs : List PV) (s : S) : bindPs (.cons p q) (x :: xs) s = (match bindP p x s with
  | some s1 => bindPs q xs s1
  | none => none) := by rw [bindPs]; try rfl
@[simp] theorem ty_int_bool : (Ty.int == Ty.bool) = false := rfl
@[simp] theorem ty_int_str : (Ty.int == Ty.str) = false := rfl
@[simp] theorem ty_int_tuple : (Ty.int == Ty.tuple) = false := rfl
@[simp] theorem ty_int_list : (Ty.int == Ty.list) = false := rfl
@[simp] theorem ty_bool_int : (Ty.bool == Ty.int) = false := rfl
@[simp] theorem ty_bool_str : (Ty.bool == Ty.str) = false := rfl
@[simp] theorem ty_bool_tuple : (Ty.bool == Ty.tuple) = false := rfl
@[simp] theorem ty_bool_list : (Ty.bool == Ty.list) = false := rfl
@[simp] theorem ty_str_int : (Ty.str == Ty.int) = false := rfl
@[simp] theorem ty_str_bool : (Ty.str == Ty.bool) = false := rfl
@[simp] theorem ty_str_tuple : (Ty.str == Ty.tuple) = false := rfl
@[simp] theorem ty_str_list : (Ty.str == Ty.list) = false := rfl
@[simp] theorem ty_tuple_int : (Ty.tuple == Ty.int) = false := rfl
@[simp] theorem ty_tuple_bool : (Ty.tuple == Ty.bool) = false := rfl
@[simp] theorem ty_tuple_str : (Ty.tuple == Ty.str) = false := rfl
@[simp] theorem ty_tuple_list : (Ty.tuple == Ty.list) = false := rfl
@[simp] theorem ty_list_int : (Ty.list == Ty.int) = false := rfl
@[simp] theorem ty_list_bool : (Ty.list == Ty.bool) = false := rfl
@[simp] theorem ty_list_str : (Ty.list == Ty.str) = false := rfl
@[simp] theorem ty_list_tuple : (Ty.list == Ty.tuple) = false := rfl
end AP

set_option Elab.async false
set_option linter.all false
set_option maxRecDepth 100000
set_option maxHeartbeats 4000000
set_option autoImplicit false
set_option exponentiation.threshold 5000
/-! K1p: k01, the plain law -/
namespace K01
open PySem PySem.Spec PyProof.Rows L2 AP
abbrev cK (d : Nat) := callK G tbl d
def isPlain : PV → Bool
  | .int _ => true
  | _ => false
def isWhole (lo hi : Int) : PV → Bool
  | .int i => decide (lo ≤ i) && decide (i ≤ hi)
  | _ => false
/-- no thing of the store -/
def pl : PV → Bool
  | .obj _ => false
  | .scr _ => false
  | _ => true
theorem vp {v : PV} (h : pl v = true) (s : S) : s.view (.val v) = some v := by
  cases v <;> first | rfl | (cases h; done)
def isBool : PV → Bool
  | .bl _ => true
  | _ => false
def isRow (lo hi : Int) : PV → Bool
  | .tup xs => decide (lo ≤ (xs.length : Int)) && decide ((xs.length : Int) ≤ hi)
  | _ => false
theorem r_plain (d : Nat) (v : PV) (mu : List MO) (h : pl v = true) : cK (d + 1) 0 [v] mu = .ok (.bl (isPlain v)) mu := by
  cases v <;> first | (cases h; done) | rfl
theorem r_whole (d : Nat) (v : PV) (lo hi : Int) (mu : List MO) (h : pl v = true) : cK (d + 2) 1 [v, .int lo, .int hi] mu = .ok (.bl (isWhole lo hi v)) mu := by
  have h1 := r_plain d v mu h
  show (exK (cK (d + 1)) G bis_whole (startS ⟨3, 3, bis_whole⟩ [v, .int lo, .int hi] mu)).done = _
  cases v <;> first | (cases h; done) | skip
  all_goals simp [bis_whole, startS, exK, evK, R.bind, R.go, callR, h1, isPlain, RS.done, opCmp, isWhole]
  rename_i i
  by_cases q : lo ≤ i <;> simp [q]
theorem r_row (d : Nat) (v : PV) (lo hi : Int) (mu : List MO) (h : pl v = true) : cK (d + 1) 2 [v, .int lo, .int hi] mu = .ok (.bl (isRow lo hi v)) mu := by
  show (exK (cK d) G bis_row (startS ⟨3, 3, bis_row⟩ [v, .int lo, .int hi] mu)).done = _
  cases v <;> first | (cases h; done) | rfl | skip
  rename_i xs
  simp [bis_row, startS, exK, evK, R.bind, R.go, RS.done, opCmp, isRow, one, opd, vt, vi, PV.isTy, biV]
  by_cases q : lo ≤ (xs.length : Int) <;> simp [q]
def isTap : PV → Bool
  | .tup [a, b] => isWhole 0 9 a && isWhole 0 4 b
  | _ => false
theorem row_two {v : PV} (h : isRow 2 2 v = true) : ∃ a b, v = .tup [a, b] := by
  cases v with
  | tup xs =>
    simp [isRow] at h
    match xs, h with
    | [a, b], _ => exact ⟨a, b, rfl⟩
  | _ => cases h
mutual
/-- no thing of the store within; not too deep, not too wide -/
def fine (w : Nat) (n : Nat) : PV → Bool
  | .tup xs => match n with
    | 0 => false
    | m + 1 => decide (xs.length ≤ w) && fineL w m xs
  | .lst xs => match n with
    | 0 => false
    | m + 1 => decide (xs.length ≤ w) && fineL w m xs
  | .obj _ => false
  | .scr _ => false
  | _ => true
def fineL (w : Nat) (n : Nat) : List PV → Bool
  | [] => true
  | x :: xs => fine w n x && fineL w n xs
end
theorem fineL_all {w n : Nat} : ∀ {xs : List PV}, fineL w n xs = true ↔ ∀ x ∈ xs, fine w n x = true
  | [] => by simp [fineL]
  | x :: xs => by simp [fineL, fineL_all (xs := xs)]
theorem fine_tup {w n : Nat} {xs : List PV} : fine w (n + 1) (.tup xs) = true ↔ xs.length ≤ w ∧ ∀ x ∈ xs, fine w n x = true := by
  simp [fine, fineL_all]
theorem fine_lst {w n : Nat} {xs : List PV} : fine w (n + 1) (.lst xs) = true ↔ xs.length ≤ w ∧ ∀ x ∈ xs, fine w n x = true := by
  simp [fine, fineL_all]
theorem fine_pl {w n : Nat} {v : PV} (h : fine w n v = true) : pl v = true := by
  cases v <;> first | rfl | (simp [fine] at h)
mutual
theorem fine_mono {w w' : Nat} (hw : w ≤ w') : ∀ {n n' : Nat} (v : PV), n ≤ n' → fine w n v = true → fine w' n' v = true
  | n, n', .tup xs, hn, h => by
    cases n with
    | zero => simp [fine] at h
    | succ n =>
      cases n' with
      | zero => omega
      | succ n' =>
        simp only [fine, Bool.and_eq_true, decide_eq_true_eq] at h ⊢
        exact ⟨by omega, fineL_mono hw xs (by omega) h.2⟩
  | n, n', .lst xs, hn, h => by
    cases n with
    | zero => simp [fine] at h
    | succ n =>
      cases n' with
      | zero => omega
      | succ n' =>
        simp only [fine, Bool.and_eq_true, decide_eq_true_eq] at h ⊢
        exact ⟨by omega, fineL_mono hw xs (by omega) h.2⟩
  | _, _, .obj _, _, h => by simp [fine] at h
  | _, _, .scr _, _, h => by simp [fine] at h
  | _, _, .non, _, _ => by simp [fine]
  | _, _, .bl _, _, _ => by simp [fine]
  | _, _, .int _, _, _ => by simp [fine]
  | _, _, .str _, _, _ => by simp [fine]
theorem fineL_mono {w w' : Nat} (hw : w ≤ w') : ∀ {n n' : Nat} (v : List PV), n ≤ n' → fineL w n v = true → fineL w' n' v = true
  | _, _, [], _, _ => by simp [fineL]
  | n, n', x :: xs, hn, h => by
    simp only [fineL, Bool.and_eq_true] at h ⊢
    exact ⟨fine_mono hw x hn h.1, fineL_mono hw xs hn h.2⟩
end
mutual
theorem fine_flat {w : Nat} : ∀ {n : Nat} (v : PV), fine w n v = true → v.flat n = true
  | n, .tup xs, h => by
    cases n with
    | zero => simp [fine] at h
    | succ n =>
      simp only [fine, Bool.and_eq_true] at h
      simp only [PV.flat]
      exact fineL_flat xs h.2
  | n, .lst xs, h => by
    cases n with
    | zero => simp [fine] at h
    | succ n =>
      simp only [fine, Bool.and_eq_true] at h
      simp only [PV.flat]
      exact fineL_flat xs h.2
  | _, .obj _, h => by simp [fine] at h
  | _, .scr _, h => by simp [fine] at h
  | _, .non, _ => by simp [PV.flat]
  | _, .bl _, _ => by simp [PV.flat]
  | _, .int _, _ => by simp [PV.flat]
  | _, .str _, _ => by simp [PV.flat]
theorem fineL_flat {w : Nat} : ∀ {n : Nat} (v : List PV), fineL w n v = true → PV.flatL n v = true
  | _, [], _ => by simp [PV.flatL]
  | n, x :: xs, h => by
    simp only [fineL, Bool.and_eq_true] at h
    simp only [PV.flatL, Bool.and_eq_true]
    exact ⟨fine_flat x h.1, fineL_flat xs h.2⟩
end
theorem row_false {lo hi : Int} {v : PV} {k : Nat} (h : isRow lo hi v = false) (hl : lo ≤ k) (hh : (k : Int) ≤ hi) : ∀ xs, v = .tup xs → xs.length ≠ k := fun xs e hk => by
  subst e
  simp [isRow] at h
  omega
theorem r_tap (d : Nat) (v : PV) (mu : List MO) {w n : Nat} (h : fine w (n + 1) v = true) : cK (d + 3) 3 [v] mu = .ok (.bl (isTap v)) mu := by
  have h1 := r_row (d + 1) v 2 2 mu (fine_pl h)
  show (exK (cK (d + 2)) G bis_tap (startS ⟨1, 1, bis_tap⟩ [v] mu)).done = _
  cases hr : isRow 2 2 v with
  | false =>
    rw [hr] at h1
    have : isTap v = false := by
      unfold isTap
      split
      · simp [isRow] at hr
      · rfl
    simp [bis_tap, startS, exK, evK, R.bind, R.go, callR, h1, RS.done, this]
  | true =>
    obtain ⟨a, b, rfl⟩ := row_two hr
    have hf := (fine_tup.mp h).2
    rw [hr] at h1
    have h2 := r_whole d a 0 9 mu (fine_pl (hf a (by simp)))
    have h3 := r_whole d b 0 4 mu (fine_pl (hf b (by simp)))
    simp [bis_tap, startS, exK, evK, R.bind, R.go, callR, h1, h2, h3, RS.done, two, opd, vt, vi, idxV, atI, ixN, isTap]
    cases isWhole 0 9 a <;> simp [h3, two, opd, vt, vi, idxV, atI, ixN, R.bind]
def isNone : PV → Bool
  | .non => true
  | _ => false
def isLink (last : Int) : PV → Bool
  | .tup [a, b, c, d, e] => isWhole 0 last a && (isWhole 0 last b && (!(a.eqv b) && (isWhole 1 4 c && (isBool e && (isNone d || isWhole 0 9 d)))))
  | _ => false
theorem row_five {v : PV} (h : isRow 5 5 v = true) : ∃ a b c d e, v = .tup [a, b, c, d, e] := by
  cases v with
  | tup xs =>
    simp [isRow] at h
    match xs, h with
    | [a, b, c, d, e], _ => exact ⟨a, b, c, d, e, rfl⟩
  | _ => cases h
theorem whole_int {lo hi : Int} {v : PV} (h : isWhole lo hi v = true) : ∃ i, v = .int i ∧ lo ≤ i ∧ i ≤ hi := by
  cases v with
  | int i => simp [isWhole] at h; exact ⟨i, rfl, h⟩
  | _ => cases h
theorem isTy_bool {v : PV} (h : pl v = true) : v.isTy .bool = some (isBool v) := by
  cases v <;> first | (cases h; done) | rfl
theorem isS_non {v : PV} (h : pl v = true) : v.isS .non = some (isNone v) := by
  cases v <;> first | (cases h; done) | rfl
theorem r_link (d : Nat) (v : PV) (last : Int) (mu : List MO) {w n : Nat} (h : fine w (n + 1) v = true) : cK (d + 3) 4 [v, .int last] mu = .ok (.bl (isLink last v)) mu := by
  have h1 := r_row (d + 1) v 5 5 mu (fine_pl h)
  show (exK (cK (d + 2)) G bis_link (startS ⟨2, 2, bis_link⟩ [v, .int last] mu)).done = _
  cases hr : isRow 5 5 v with
  | false =>
    rw [hr] at h1
    have : isLink last v = false := by
      unfold isLink
      split
      · simp [isRow] at hr
      · rfl
    simp [bis_link, startS, exK, evK, R.bind, R.go, callR, h1, RS.done, this]
  | true =>
    obtain ⟨a, b, c, e, g, rfl⟩ := row_five hr
    have hf := (fine_tup.mp h).2
    rw [hr] at h1
    have p := fun x hx => fine_pl (hf x hx)
    have h2 := r_whole d a 0 last mu (p a (by simp))
    have h3 := r_whole d b 0 last mu (p b (by simp))
    have h4 := r_whole d c 1 4 mu (p c (by simp))
    have h5 := r_whole d e 0 9 mu (p e (by simp))
    have h6 := isTy_bool (p g (by simp))
    have h7 := isS_non (p e (by simp))
    have vg := vp (p g (by simp))
    have vd := vp (p e (by simp))
    cases ha : isWhole 0 last a with
    | false => rw [ha] at h2; simp [bis_link, startS, exK, evK, R.bind, R.go, callR, h1, h2, RS.done, two, opd, vt, vi, vn, vg, vd, idxV, atI, ixN, isLink, ha]
    | true =>
      rw [ha] at h2
      cases hb : isWhole 0 last b with
      | false => rw [hb] at h3; simp [bis_link, startS, exK, evK, R.bind, R.go, callR, h1, h2, h3, RS.done, two, opd, vt, vi, vn, vg, vd, idxV, atI, ixN, isLink, ha, hb]
      | true =>
        rw [hb] at h3
        obtain ⟨i, rfl, _⟩ := whole_int ha
        obtain ⟨j, rfl, _⟩ := whole_int hb
        have e0 : opCmp .eq (.int i) (.int j) = some ((PV.int i).eqv (.int j)) := by simp [opCmp, PV.flat]
        cases he : (PV.int i).eqv (.int j) with
        | true => rw [he] at e0; simp [bis_link, startS, exK, evK, R.bind, R.go, callR, h1, h2, h3, RS.done, two, opd, vt, vi, vn, vg, vd, idxV, atI, ixN, isLink, ha, hb, e0, he]
        | false =>
          rw [he] at e0
          cases hc : isWhole 1 4 c with
          | false => rw [hc] at h4; simp [bis_link, startS, exK, evK, R.bind, R.go, callR, h1, h2, h3, h4, RS.done, two, opd, vt, vi, vn, vg, vd, idxV, atI, ixN, isLink, ha, hb, e0, he, hc]
          | true =>
            rw [hc] at h4
            cases hg : isBool g with
            | false => rw [hg] at h6; simp [bis_link, startS, exK, evK, R.bind, R.go, callR, h1, h2, h3, h4, RS.done, one, two, opd, vt, vi, vn, vg, vd, idxV, atI, ixN, isLink, ha, hb, e0, he, hc, hg, h6]
            | true =>
              rw [hg] at h6
              have e1 : opCmp .is_ e .non = some (isNone e) := by simpa [opCmp] using h7
              cases hn : isNone e with
              | true => rw [hn] at e1; simp [bis_link, startS, exK, evK, R.bind, R.go, callR, h1, h2, h3, h4, RS.done, one, two, opd, vt, vi, vn, vg, vd, idxV, atI, ixN, isLink, ha, hb, e0, he, hc, hg, h6, e1, hn]
              | false => rw [hn] at e1; simp [bis_link, startS, exK, evK, R.bind, R.go, callR, h1, h2, h3, h4, h5, RS.done, one, two, opd, vt, vi, vn, vg, vd, idxV, atI, ixN, isLink, ha, hb, e0, he, hc, hg, h6, e1, hn]
end K01

set_option Elab.async false
set_option linter.all false
set_option maxRecDepth 100000
set_option maxHeartbeats 4000000
set_option autoImplicit false
set_option exponentiation.threshold 5000
/-! K1q: k01, the plain law: nets and rules -/
namespace K01
open PySem PySem.Spec PyProof.Rows L2 AP
theorem isTy_t (v : PV) (h : pl v = true) (t : Ty) : ∃ b, v.isTy t = some b := by
  cases v <;> first | (cases h; done) | exact ⟨_, rfl⟩
def items : PV → List PV
  | .tup xs => xs
  | _ => []
def isNet : PV → Bool
  | .tup [a, b] => isRow 1 3 a && ((items a).all isTap && (isRow 1 5 b && (items b).all (isLink (items a).length)))
  | _ => false
theorem row_tup {lo hi : Int} {v : PV} (h : isRow lo hi v = true) : ∃ xs, v = .tup xs := by
  cases v with
  | tup xs => exact ⟨xs, rfl⟩
  | _ => cases h
theorem all_bls (g : PV → Bool) (xs : List PV) : biV .all [.lst (xs.map fun x => .bl (g x))] = some (.bl (xs.all g)) := by
  simp [biV, bls_map]
theorem r_net (d : Nat) (v : PV) (mu : List MO) {w n : Nat} (h : fine w (n + 3) v = true) (hw : w ≤ lim) : cK (d + 4) 5 [v] mu = .ok (.bl (isNet v)) mu := by
  have h1 := r_row (d + 2) v 2 2 mu (fine_pl h)
  show (exK (cK (d + 3)) G bis_net (startS ⟨1, 3, bis_net⟩ [v] mu)).done = _
  cases hr : isRow 2 2 v with
  | false =>
    rw [hr] at h1
    have : isNet v = false := by
      unfold isNet
      split
      · simp [isRow] at hr
      · rfl
    simp [bis_net, startS, h1, this]
  | true =>
    obtain ⟨a, b, rfl⟩ := row_two hr
    have hf := (fine_tup.mp h).2
    rw [hr] at h1
    have h2 := r_row (d + 2) a 1 3 mu (fine_pl (hf a (by simp)))
    have h3 := r_row (d + 2) b 1 5 mu (fine_pl (hf b (by simp)))
    cases ha : isRow 1 3 a with
    | false =>
      rw [ha] at h2
      simp [bis_net, startS, h1, h2, idxV, atI, ixN, isNet, ha]
    | true =>
      rw [ha] at h2
      obtain ⟨ts, rfl⟩ := row_tup ha
      have fa := fine_tup.mp (hf (.tup ts) (by simp))
      have q1 := lcE (cf := cK (d + 3)) (G := G) (elt := .call 3 (.cons (.var 1) .nil)) (it := .idx (.var 0) (.int 0)) (i := 1) (g := fun x => .bl (isTap x)) (s := ⟨[.val (.tup [.tup ts, b]), .un, .un], mu⟩) (s1 := ⟨[.val (.tup [.tup ts, b]), .un, .un], mu⟩) (xs := ts) (by simp [idxV, atI, ixN, seqItems]; omega) rfl (fun x hx => by
        have := r_tap d x mu (fa.2 x hx)
        simp [S.set, this])
      cases hT : ts.all isTap with
      | false =>
        simp [bis_net, startS, h1, h2, idxV, atI, ixN, q1, all_bls, hT, isNet, ha, items]
      | true =>
        cases hb : isRow 1 5 b with
        | false =>
          rw [hb] at h3
          simp [bis_net, startS, h1, h2, h3, idxV, atI, ixN, q1, all_bls, hT, isNet, ha, hb, items]
        | true =>
          rw [hb] at h3
          obtain ⟨ls, rfl⟩ := row_tup hb
          have fb := fine_tup.mp (hf (.tup ls) (by simp))
          have q2 := lcE (cf := cK (d + 3)) (G := G) (elt := .call 4 (.cons (.var 2) (.cons (.bi .len (.cons (.idx (.var 0) (.int 0)) .nil)) .nil))) (it := .idx (.var 0) (.int 1)) (i := 2) (g := fun x => .bl (isLink ts.length x)) (s := ⟨[.val (.tup [.tup ts, .tup ls]), .un, .un], mu⟩) (s1 := ⟨[.val (.tup [.tup ts, .tup ls]), .un, .un], mu⟩) (xs := ls) (by simp [idxV, atI, ixN, seqItems]; omega) rfl (fun x hx => by
            have := r_link d x ts.length mu (fb.2 x hx)
            simp [S.set, this, idxV, atI, ixN, biV])
          simp [bis_net, startS, h1, h2, h3, idxV, atI, ixN, q1, q2, all_bls, hT, isNet, ha, hb, items]
end K01
namespace K01
open PySem PySem.Spec PyProof.Rows L2 AP
def isStr : PV → Bool
  | .str _ => true
  | _ => false
theorem isTy_str {v : PV} (h : pl v = true) : v.isTy .str = some (isStr v) := by
  cases v <;> first | (cases h; done) | rfl
/-- the word is one of two -/
def oneOf (a b : Str) : PV → Bool
  | .str x => (x == a) || (x == b)
  | _ => false
def isRule (T L : Nat) : PV → Bool
  | .tup [a, b, c, e] => isStr a && (isBool e && (isWhole 0 (L - 1 : Int) c && (if oneOf "dry" "wet" a then isWhole 1 T b else oneOf "runs" "still" a && isWhole 0 (L - 1 : Int) b)))
  | _ => false
theorem row_four {v : PV} (h : isRow 4 4 v = true) : ∃ a b c d, v = .tup [a, b, c, d] := by
  cases v with
  | tup xs =>
    simp [isRow] at h
    match xs, h with
    | [a, b, c, d], _ => exact ⟨a, b, c, d, rfl⟩
  | _ => cases h
theorem in_t (x a b : Str) : opCmp .in_ (.str x) (.tup [.str a, .str b]) = some (oneOf a b (.str x)) := by
  simp [opCmp, PV.isIn, oneOf, PV.flat, PV.flatL, PV.eqv, BEq.comm (a := a), BEq.comm (a := b)]
theorem r_rule (d : Nat) (ts ls : List PV) (v : PV) (mu : List MO) {w n : Nat} (h : fine w (n + 1) v = true) : cK (d + 3) 9 [.tup [.tup ts, .tup ls], v] mu = .ok (.bl (isRule ts.length ls.length v)) mu := by
  have h1 := r_row (d + 1) v 4 4 mu (fine_pl h)
  show (exK (cK (d + 2)) G bis_rule (startS ⟨2, 3, bis_rule⟩ [.tup [.tup ts, .tup ls], v] mu)).done = _
  cases hr : isRow 4 4 v with
  | false =>
    rw [hr] at h1
    have : isRule ts.length ls.length v = false := by
      unfold isRule
      split
      · simp [isRow] at hr
      · rfl
    simp [bis_rule, startS, h1, this]
  | true =>
    obtain ⟨a, b, c, e, rfl⟩ := row_four hr
    have hf := (fine_tup.mp h).2
    rw [hr] at h1
    have p := fun x hx => fine_pl (hf x hx)
    have va := vp (p a (by simp))
    have ve := vp (p e (by simp))
    have ya := isTy_str (p a (by simp))
    have ye := isTy_bool (p e (by simp))
    have h2 := r_whole d c 0 (ls.length - 1) mu (p c (by simp))
    have h3 := r_whole d b 1 ts.length mu (p b (by simp))
    have h4 := r_whole d b 0 (ls.length - 1) mu (p b (by simp))
    cases ha : isStr a with
    | false => rw [ha] at ya; simp [bis_rule, startS, h1, idxV, atI, ixN, va, ya, ha, isRule]
    | true =>
      rw [ha] at ya
      cases he : isBool e with
      | false => rw [he] at ye; simp [bis_rule, startS, h1, idxV, atI, ixN, va, ve, ya, ye, ha, he, isRule]
      | true =>
        rw [he] at ye
        cases hc : isWhole 0 (ls.length - 1 : Int) c with
        | false => rw [hc] at h2; simp [bis_rule, startS, h1, h2, idxV, atI, ixN, va, ve, ya, ye, ha, he, isRule, biV, opBin, S.set, hc]
        | true =>
          rw [hc] at h2
          cases a with
          | str x =>
            have i1 := in_t x "dry" "wet"
            have i2 := in_t x "runs" "still"
            cases o1 : oneOf "dry" "wet" (.str x) with
            | true => rw [o1] at i1; simp [bis_rule, startS, h1, h2, h3, idxV, atI, ixN, va, ve, ya, ye, ha, he, isRule, biV, opBin, S.set, hc, i1, o1, lim]
            | false =>
              rw [o1] at i1
              cases o2 : oneOf "runs" "still" (.str x) with
              | true => rw [o2] at i2; simp [bis_rule, startS, h1, h2, h4, idxV, atI, ixN, va, ve, ya, ye, ha, he, isRule, biV, opBin, S.set, hc, i1, i2, o1, o2, lim]
              | false => rw [o2] at i2; simp [bis_rule, startS, h1, h2, h4, idxV, atI, ixN, va, ve, ya, ye, ha, he, isRule, biV, opBin, S.set, hc, i1, i2, o1, o2, lim]
          | _ => cases ha
def isRules (T L : Nat) (v : PV) : Bool := isRow 0 4 v && (items v).all (isRule T L)
theorem r_rules (d : Nat) (ts ls : List PV) (v : PV) (mu : List MO) {w n : Nat} (h : fine w (n + 2) v = true) (hw : w ≤ lim) : cK (d + 4) 10 [.tup [.tup ts, .tup ls], v] mu = .ok (.bl (isRules ts.length ls.length v)) mu := by
  have h1 := r_row (d + 2) v 0 4 mu (fine_pl h)
  show (exK (cK (d + 3)) G bfit_rules (startS ⟨2, 3, bfit_rules⟩ [.tup [.tup ts, .tup ls], v] mu)).done = _
  cases hr : isRow 0 4 v with
  | false =>
    rw [hr] at h1
    simp [bfit_rules, startS, h1, isRules, hr]
  | true =>
    rw [hr] at h1
    obtain ⟨xs, rfl⟩ := row_tup hr
    have fa := fine_tup.mp h
    have q1 := lcE (cf := cK (d + 3)) (G := G) (elt := .call 9 (.cons (.var 0) (.cons (.var 2) .nil))) (it := .var 1) (i := 2) (g := fun x => .bl (isRule ts.length ls.length x)) (s := ⟨[.val (.tup [.tup ts, .tup ls]), .val (.tup xs), .un], mu⟩) (s1 := ⟨[.val (.tup [.tup ts, .tup ls]), .val (.tup xs), .un], mu⟩) (xs := xs) (by simp [seqItems]; omega) rfl (fun x hx => by
        have := r_rule d ts ls x mu (fa.2 x hx)
        simp [S.set, this])
    simp [bfit_rules, startS, h1, q1, all_bls, isRules, hr, items]
theorem r_need (d : Nat) (v : PV) (mu : List MO) {w n : Nat} (h : fine w (n + 3) v = true) (hw : w ≤ lim) : cK (d + 5) 11 [v] mu = if isNet v then .ok .non mu else .exc 0 mu := by
  have h1 := r_net d v mu h hw
  show (exK (cK (d + 4)) G bneed_net (startS ⟨1, 1, bneed_net⟩ [v] mu)).done = _
  cases hr : isNet v with
  | false => rw [hr] at h1; simp [bneed_net, startS, h1]
  | true => rw [hr] at h1; simp [bneed_net, startS, h1]
theorem r_are (d : Nat) (ts ls : List PV) (v : PV) (mu : List MO) {w n : Nat} (hn : isNet (.tup [.tup ts, .tup ls]) = true) (hnf : fine w (n + 3) (.tup [.tup ts, .tup ls]) = true) (h : fine w (n + 2) v = true) (hw : w ≤ lim) : cK (d + 6) 12 [.tup [.tup ts, .tup ls], v] mu = .ok (.bl (isRules ts.length ls.length v)) mu := by
  have h1 := r_need d _ mu hnf hw
  have h2 := r_rules (d + 1) ts ls v mu h hw
  rw [if_pos hn] at h1
  show (exK (cK (d + 5)) G bare_rules (startS ⟨2, 2, bare_rules⟩ [.tup [.tup ts, .tup ls], v] mu)).done = _
  simp [bare_rules, startS, h1, h2]
theorem r_are_no (d : Nat) (v x : PV) (mu : List MO) {w n : Nat} (hn : isNet v = false) (h : fine w (n + 3) v = true) (hw : w ≤ lim) : cK (d + 6) 12 [v, x] mu = .exc 0 mu := by
  have h1 := r_need d _ mu h hw
  rw [hn] at h1
  simp at h1
  show (exK (cK (d + 5)) G bare_rules (startS ⟨2, 2, bare_rules⟩ [v, x] mu)).done = _
  simp [bare_rules, startS, h1]
theorem r_with_no (d : Nat) (v x : PV) (mu : List MO) {w n : Nat} (hn : isNet v = false) (h : fine w (n + 3) v = true) (hw : w ≤ lim) : cK (d + 6) 14 [v, x] mu = .exc 0 mu := by
  have h1 := r_need d _ mu h hw
  rw [hn] at h1
  simp at h1
  show (exK (cK (d + 5)) G bwith_stand (startS ⟨2, 4, bwith_stand⟩ [v, x] mu)).done = _
  simp [bwith_stand, startS, h1]
end K01

set_option Elab.async false
set_option linter.all false
set_option maxRecDepth 100000
set_option maxHeartbeats 4000000
set_option autoImplicit false
set_option exponentiation.threshold 5000
/-! K1r: k01, the plain law: the bag -/
namespace K01
open PySem PySem.Spec PyProof.Rows L2 AP
theorem vsc (s : S) (ns : List Int) : s.view (.val (.scr ns)) = some (.scr ns) := rfl
theorem vo {s : S} {n : Nat} {xs : List PV} (h : s.mu[n]? = some (MO.lst xs)) : s.view (.val (.obj n)) = some (.lst xs) := by
  unfold S.view
  simp only [h]
theorem atI_lt {α : Type} {xs : List α} {i : Int} (h0 : 0 ≤ i) (h : i < xs.length) : ∃ x, atI xs i = some x ∧ x ∈ xs := by
  obtain ⟨m, rfl⟩ := Int.eq_ofNat_of_zero_le h0
  have hm : m < xs.length := by omega
  refine ⟨xs[m], ?_, List.getElem_mem hm⟩
  have : ixN xs.length (m : Int) = some m := by
    unfold ixN
    simp
    omega
  simp [atI, this, hm]
theorem op_mul {a b : Int} (ha : a.natAbs < 2 ^ 400) (hb : b.natAbs < 2 ^ 400) : opBin .mul (.int a) (.int b) = some (.int (a * b)) := by
  simp [opBin, bnd_of ha, bnd_of hb]
theorem op_mod {a b : Int} (hb : b ≠ 0) : opBin .mod (.int a) (.int b) = some (.int (a.fmod b)) := by
  simp [opBin, hb]
theorem op_lt (a b : Int) : opCmp .lt (.int a) (.int b) = some (decide (a < b)) := rfl
theorem op_add (a b : Int) : opBin .add (.int a) (.int b) = some (.int (a + b)) := rfl
theorem small_of {a : Int} (h0 : -1000000000000000000000000000000 ≤ a) (h : a ≤ 1000000000000000000000000000000) : a.natAbs < 2 ^ 400 := by
  have : (1000000000000000000000000000000 : Nat) < 2 ^ 400 := by decide
  omega
theorem r_cell (d : Nat) (ns : List Int) (k : Int) (mu : List MO) (h0 : 0 ≤ k) (h1 : k ≤ 1000) : ∃ c, cK (d + 1) 15 [.scr ns, .int k] mu = .ok (.int c) mu := by
  have m1 := op_mul (a := 7919) (b := k) (by decide) (small_of (by omega) (by omega))
  by_cases hl : k < ns.length
  · obtain ⟨x, hx, _⟩ := atI_lt h0 hl
    refine ⟨x, ?_⟩
    show (exK (cK d) G b_law_cell (startS ⟨2, 2, b_law_cell⟩ [.scr ns, .int k] mu)).done = _
    simp [b_law_cell, startS, vsc, biV, opCmp, hl, idxV, hx]
  · by_cases he : ns = []
    · subst he
      refine ⟨7919 * k + 101, ?_⟩
      show (exK (cK d) G b_law_cell (startS ⟨2, 2, b_law_cell⟩ [.scr [], .int k] mu)).done = _
      have : ¬ (k < 0) := by omega
      simp [b_law_cell, startS, vsc, biV, opCmp, this, m1, op_add, PV.flat, PV.eqv]
    · have hp : 0 < (ns.length : Int) := by
        have : 0 < ns.length := List.length_pos_iff.mpr he
        omega
      obtain ⟨x, hx, _⟩ := atI_lt (xs := ns) (Int.fmod_nonneg_of_pos k hp) (Int.fmod_lt_of_pos k hp)
      refine ⟨x.fmod 1000003 + 7919 * k, ?_⟩
      show (exK (cK d) G b_law_cell (startS ⟨2, 2, b_law_cell⟩ [.scr ns, .int k] mu)).done = _
      have m2 := op_mod (a := k) (b := (ns.length : Int)) (by omega)
      have m3 := op_mod (a := x) (b := 1000003) (by omega)
      have e0 : opCmp .eq (.int (ns.length : Int)) (.int 0) = some false := by simp [opCmp, PV.flat, PV.eqv, he]
      simp [b_law_cell, startS, vsc, biV, op_lt, e0, hl, m1, m2, m3, op_add, PV.flat, PV.eqv, he, idxV, hx]
abbrev P8 : PV := .tup [.int 2147483647, .int 2147483629, .int 2147483587, .int 2147483579, .int 2147483563, .int 2147483549, .int 2147483543, .int 2147483497]
theorem p8 (i : Int) : ∃ p : Int, idxV P8 (.int (i.fmod 8)) = some (.int p) ∧ 0 < p ∧ p ≤ 2147483647 := by
  have h0 := Int.fmod_nonneg_of_pos i (b := 8) (by decide)
  have h1 := Int.fmod_lt_of_pos i (b := 8) (by decide)
  generalize i.fmod 8 = j at *
  obtain ⟨m, rfl⟩ := Int.eq_ofNat_of_zero_le h0
  match m, h1 with
  | 0, _ => exact ⟨_, rfl, by decide, by decide⟩
  | 1, _ => exact ⟨_, rfl, by decide, by decide⟩
  | 2, _ => exact ⟨_, rfl, by decide, by decide⟩
  | 3, _ => exact ⟨_, rfl, by decide, by decide⟩
  | 4, _ => exact ⟨_, rfl, by decide, by decide⟩
  | 5, _ => exact ⟨_, rfl, by decide, by decide⟩
  | 6, _ => exact ⟨_, rfl, by decide, by decide⟩
  | 7, _ => exact ⟨_, rfl, by decide, by decide⟩
  | m + 8, h => omega
def Bag (n : Nat) (mu : List MO) : Prop := ∃ xs : List Int, mu[n]? = some (.lst (xs.map .int))
/-- the states of the loop that draws -/
def DP (ns : List Int) (k c : Int) (mu : List MO) (rest : List PV) (s : S) : Prop :=
  ∃ (w : Int) (x8 x9 : Slot) (xs : List Int), s = ⟨[.val (.scr ns), .val (.int k), .val (.int 150), .val (.int 27720), .val P8, .val (.int c), .val (.int w), .val (.obj mu.length), x8, x9], mu ++ [.lst (xs.map .int)]⟩ ∧ xs.length + rest.length ≤ 150 ∧ ∀ y ∈ rest, ∃ i : Int, y = .int i ∧ 0 ≤ i ∧ i < 150
def dbody : C := (.seq (.asg 9 (.bin .mul (.bin .mod (.var 5) (.idx (.var 4) (.bin .mod (.var 8) (.int 8)))) (.bin .add (.int 48271) (.bin .mul (.bin .mul (.int 2) (.var 8)) (.var 8)))))
    (.seq (.asg 9 (.bin .add (.bin .add (.var 9) (.bin .mul (.bin .mul (.int 7919) (.bin .add (.var 8) (.int 1))) (.bin .add (.var 8) (.int 1)))) (.bin .mul (.int 104729) (.var 1))))
    (.seq (.asg 9 (.bin .mod (.var 9) (.idx (.var 4) (.bin .mod (.bin .add (.bin .mul (.int 3) (.var 8)) (.var 1)) (.int 8)))))
    (.seq (.asg 9 (.bin .mod (.bin .mul (.bin .mul (.var 9) (.var 9)) (.var 9)) (.idx (.var 4) (.bin .mod (.bin .add (.var 8) (.int 5)) (.int 8)))))
    (.seq (.ite (.cmp .gt (.var 6) (.int 0)) (.seq (.asg 9 (.var 6))
    .skip) .skip)
    (.seq (.app 7 (.bin .mod (.var 9) (.var 3)))
    (.seq (.asg 6 (.bin .fdiv (.var 6) (.var 3)))
    .skip)))))))
theorem d_turn (d : Nat) (ns : List Int) (k c : Int) (mu : List MO) (hk0 : 0 ≤ k) (hk : k ≤ 1000) (x : PV) (r : List PV) (s : S) (h : DP ns k c mu (x :: r) s) : ∃ s1 s2, bindP (.nm 8) x s = some s1 ∧ exK (cK d) G dbody s1 = .nx s2 ∧ DP ns k c mu r s2 := by
  obtain ⟨w, x8, x9, xs, rfl, hl, hr⟩ := h
  obtain ⟨i, rfl, hi0, hi⟩ := hr x List.mem_cons_self
  have hl' : xs.length < 150 := by simp at hl; omega
  obtain ⟨p1, q1, a1, b1⟩ := p8 i
  obtain ⟨p2, q2, a2, b2⟩ := p8 (3 * i + k)
  obtain ⟨p3, q3, a3, b3⟩ := p8 (i + 5)
  have n1 := Int.fmod_nonneg_of_pos c a1
  have l1 := Int.fmod_lt_of_pos c a1
  have o1 := op_mod (a := c) (b := p1) (by omega)
  have z8 := op_mod (a := i) (b := 8) (by omega)
  have z8b := op_mod (a := 3 * i + k) (b := 8) (by omega)
  have z8c := op_mod (a := i + 5) (b := 8) (by omega)
  have s1 := op_mul (a := 2) (b := i) (by decide) (small_of (by omega) (by omega))
  have ii : 0 ≤ 2 * i * i ∧ 2 * i * i ≤ 45000 := by
    have := Int.mul_le_mul (show i ≤ 150 by omega) (show i ≤ 150 by omega) hi0 (by decide)
    have := Int.mul_nonneg hi0 hi0
    rw [Int.mul_assoc]
    omega
  have s2 := op_mul (a := 2 * i) (b := i) (small_of (by omega) (by omega)) (small_of (by omega) (by omega))
  generalize e1 : c.fmod p1 = u at *
  have s3 := op_mul (a := u) (b := 48271 + 2 * i * i) (small_of (by omega) (by omega)) (small_of (by omega) (by omega))
  have s4 := op_mul (a := 7919) (b := i + 1) (by decide) (small_of (by omega) (by omega))
  have s5 := op_mul (a := 7919 * (i + 1)) (b := i + 1) (small_of (by omega) (by omega)) (small_of (by omega) (by omega))
  have s6 := op_mul (a := 104729) (b := k) (by decide) (small_of (by omega) (by omega))
  have s7 := op_mul (a := 3) (b := i) (by decide) (small_of (by omega) (by omega))
  generalize e2 : u * (48271 + 2 * i * i) + 7919 * (i + 1) * (i + 1) + 104729 * k = v at *
  have o2 := op_mod (a := v) (b := p2) (by omega)
  have n2 := Int.fmod_nonneg_of_pos v a2
  have l2 := Int.fmod_lt_of_pos v a2
  generalize e3 : v.fmod p2 = t at *
  have tt : 0 ≤ t * t ∧ t * t ≤ 2147483647 * 2147483647 := ⟨Int.mul_nonneg n2 n2, Int.mul_le_mul (by omega) (by omega) (by omega) (by omega)⟩
  have s8 := op_mul (a := t) (b := t) (small_of (by omega) (by omega)) (small_of (by omega) (by omega))
  have s9 := op_mul (a := t * t) (b := t) (small_of (by omega) (by omega)) (small_of (by omega) (by omega))
  have o3 := op_mod (a := t * t * t) (b := p3) (by omega)
  generalize e4 : (t * t * t).fmod p3 = y at *
  have f1 : opBin .fdiv (.int w) (.int 27720) = some (.int (w.fdiv 27720)) := by simp [opBin]
  have hlim : xs.length < 100000 := by omega
  have om := fun a => op_mod (a := a) (b := 27720) (by omega)
  refine ⟨⟨[.val (.scr ns), .val (.int k), .val (.int 150), .val (.int 27720), .val P8, .val (.int c), .val (.int w), .val (.obj mu.length), .val (.int i), x9], mu ++ [.lst (xs.map .int)]⟩, ⟨[.val (.scr ns), .val (.int k), .val (.int 150), .val (.int 27720), .val P8, .val (.int c), .val (.int (w.fdiv 27720)), .val (.obj mu.length), .val (.int i), .val (.int (if 0 < w then w else y))], mu ++ [.lst ((xs ++ [(if 0 < w then w else y).fmod 27720]).map .int)]⟩, rfl, ?_, w.fdiv 27720, _, _, _, rfl, by simp at hl ⊢; omega, fun z hz => hr z (List.mem_cons_of_mem _ hz)⟩
  by_cases hw : 0 < w
  · simp [dbody, S.set, vt, o1, z8, z8b, z8c, q1, q2, q3, s1, s2, s3, s4, s5, s6, s7, s8, s9, o2, o3, op_add, e2, opCmp, hw, f1, om, isLst, lim, hlim]
  · simp [dbody, S.set, vt, o1, z8, z8b, z8c, q1, q2, q3, s1, s2, s3, s4, s5, s6, s7, s8, s9, o2, o3, op_add, e2, opCmp, hw, f1, om, isLst, lim, hlim]
theorem d_intL (n : Nat) : ∀ y ∈ intL 0 n, ∃ i : Int, y = .int i ∧ 0 ≤ i ∧ i < n := fun y hy => by
  unfold intL at hy
  obtain ⟨i, hi, rfl⟩ := List.mem_map.mp hy
  have := List.mem_range.mp hi
  exact ⟨_, rfl, by omega, by omega⟩
theorem intL_len (n : Nat) : (intL 0 n).length = n := by simp [intL]
theorem r_draws (d : Nat) (ns : List Int) (k : Int) (mu : List MO) (hk0 : 0 ≤ k) (hk : k ≤ 1000) : ∃ xs : List Int, cK (d + 2) 16 [.scr ns, .int k, .int 150, .int 27720] mu = .ok (.obj mu.length) (mu ++ [MO.lst (xs.map .int)]) := by
  obtain ⟨c, hc⟩ := r_cell d ns k mu hk0 hk
  have L := for_inv (bind := bindP (.nm 8)) (body := exK (cK (d + 1)) G dbody) (intL 0 150) (DP ns k c mu) (d_turn (d + 1) ns k c mu hk0 hk)
  have hs : ∀ w, ∃ s', forLoop (bindP (.nm 8)) (exK (cK (d + 1)) G dbody) (intL 0 150) ⟨[.val (.scr ns), .val (.int k), .val (.int 150), .val (.int 27720), .val P8, .val (.int c), .val (.int w), .val (.obj mu.length), .un, .un], mu ++ [MO.lst []]⟩ = .nx s' ∧ DP ns k c mu [] s' := fun w => L _ ⟨w, .un, .un, [], rfl, by rw [intL_len]; decide, d_intL 150⟩
  have pw : opBin .pow (.int 10) (.int 18) = some (.int (10 ^ 18)) := by rfl
  have F : ∀ w, exK (cK (d + 1)) G (.for_ (.nm 8) (.range1 (.var 2)) dbody) ⟨[.val (.scr ns), .val (.int k), .val (.int 150), .val (.int 27720), .val P8, .val (.int c), .val (.int w), .val (.obj mu.length), .un, .un], mu ++ [MO.lst []]⟩ = forLoop (bindP (.nm 8)) (exK (cK (d + 1)) G dbody) (intL 0 150) ⟨[.val (.scr ns), .val (.int k), .val (.int 150), .val (.int 27720), .val P8, .val (.int c), .val (.int w), .val (.obj mu.length), .un, .un], mu ++ [MO.lst []]⟩ := fun w => xx_for _ _ (by simp [lim])
  have key : ∀ w, ∃ xs : List Int, (match exK (cK (d + 1)) G (.for_ (.nm 8) (.range1 (.var 2)) dbody) ⟨[.val (.scr ns), .val (.int k), .val (.int 150), .val (.int 27720), .val P8, .val (.int c), .val (.int w), .val (.obj mu.length), .un, .un], mu ++ [MO.lst []]⟩ with
    | .nx s1 => exK (cK (d + 1)) G (.seq (.ret (.var 7)) .skip) s1
    | r => r).done = .ok (.obj mu.length) (mu ++ [MO.lst (xs.map .int)]) := fun w => by
    obtain ⟨s', e, w', x8, x9, xs, rfl, _, _⟩ := hs w
    refine ⟨xs, ?_⟩
    rw [F, e]
    simp
  by_cases hb : 10 ^ 18 ≤ c
  · obtain ⟨xs, h⟩ := key c
    refine ⟨xs, ?_⟩
    rw [← h]
    show (exK (cK (d + 1)) G b_law_draws (startS ⟨4, 10, b_law_draws⟩ [.scr ns, .int k, .int 150, .int 27720] mu)).done = _
    have ge : opCmp .ge (.int c) (.int (10 ^ 18)) = some true := by simp [opCmp]; omega
    simp [b_law_draws, startS, hc, S.set, pw, ge, lim, -Int.reducePow]
    rfl
  · obtain ⟨xs, h⟩ := key 0
    refine ⟨xs, ?_⟩
    rw [← h]
    show (exK (cK (d + 1)) G b_law_draws (startS ⟨4, 10, b_law_draws⟩ [.scr ns, .int k, .int 150, .int 27720] mu)).done = _
    have ge : opCmp .ge (.int c) (.int (10 ^ 18)) = some false := by simp [opCmp]; omega
    simp [b_law_draws, startS, hc, S.set, pw, ge, lim, -Int.reducePow]
    rfl
theorem r_bag (d : Nat) (ns : List Int) (k : Int) (mu : List MO) (hk0 : 0 ≤ k) (hk : k ≤ 1000) : ∃ (n : Nat) (mu' : List MO), cK (d + 3) 17 [.scr ns, .int k] mu = .ok (.obj n) mu' ∧ Bag n mu' := by
  obtain ⟨xs, h⟩ := r_draws d ns k mu hk0 hk
  refine ⟨mu.length, mu ++ [MO.lst (xs.map .int)], ?_, xs, List.getElem?_concat_length ..⟩
  · show (exK (cK (d + 2)) G b_law_bag (startS ⟨2, 2, b_law_bag⟩ [.scr ns, .int k] mu)).done = _
    simp [b_law_bag, startS, h]
theorem flatL_ints (n : Nat) : ∀ xs : List Int, PV.flatL n (xs.map .int) = true
  | [] => rfl
  | x :: xs => by simp [PV.flatL, PV.flat, flatL_ints n xs]
theorem r_take (d : Nat) (n : Nat) (m : Int) (mu : List MO) (hm : 0 < m) (hb : Bag n mu) : ∃ (r : Int) (mu' : List MO), cK (d + 1) 18 [.obj n, .int m] mu = .ok (.int r) mu' ∧ 0 ≤ r ∧ r < m ∧ Bag n mu' := by
  obtain ⟨xs, hx⟩ := hb
  have om := fun a => op_mod (a := a) (b := m) (by omega)
  cases xs with
  | nil =>
    refine ⟨(0 : Int).fmod m, mu, ?_, Int.fmod_nonneg_of_pos _ hm, Int.fmod_lt_of_pos _ hm, [], hx⟩
    show (exK (cK d) G b_law_take (startS ⟨2, 3, b_law_take⟩ [.obj n, .int m] mu)).done = _
    have e0 : opCmp .ne (.lst []) (.lst []) = some false := rfl
    have v0 := vo (s := ⟨[.val (.obj n), .val (.int m), .un], mu⟩) hx
    simp only [List.map_nil] at v0
    simp [b_law_take, startS, v0, e0, S.set, biV, om, lim]
  | cons x xs =>
    refine ⟨x.fmod m, mu.set n (.lst (xs.map .int)), ?_, Int.fmod_nonneg_of_pos _ hm, Int.fmod_lt_of_pos _ hm, xs, List.getElem?_set_self (List.getElem?_eq_some_iff.mp hx).1⟩
    show (exK (cK d) G b_law_take (startS ⟨2, 3, b_law_take⟩ [.obj n, .int m] mu)).done = _
    have e0 : opCmp .ne (.lst ((x :: xs).map .int)) (.lst []) = some true := by
      simp [opCmp, PV.flat, PV.flatL, flatL_ints, PV.eqv, PV.eqvL]
    have v0 := vo (s := ⟨[.val (.obj n), .val (.int m), .un], mu⟩) hx
    simp only [List.map_cons] at v0 e0 hx
    simp [b_law_take, startS, v0, e0, S.set, biV, om, hx, lim]
end K01

set_option Elab.async false
set_option linter.all false
set_option maxRecDepth 100000
set_option maxHeartbeats 4000000
set_option autoImplicit false
set_option exponentiation.threshold 5000
/-! K1s: k01, the plain law: nets and rules that are drawn -/
namespace K01
open PySem PySem.Spec PyProof.Rows L2 AP
theorem r_choice (d : Nat) (n : Nat) (xs : List PV) (mu : List MO) (hx : xs ≠ []) (hb : Bag n mu) : ∃ (x : PV) (mu' : List MO), cK (d + 2) 19 [.obj n, .lst xs] mu = .ok x mu' ∧ x ∈ xs ∧ Bag n mu' := by
  have hp : 0 < (xs.length : Int) := by
    have : 0 < xs.length := List.length_pos_iff.mpr hx
    omega
  obtain ⟨r, mu', e, h0, h1, hb'⟩ := r_take d n xs.length mu hp hb
  obtain ⟨x, hx, hm⟩ := atI_lt h0 h1
  refine ⟨x, mu', ?_, hm, hb'⟩
  show (exK (cK (d + 1)) G b_law_choice (startS ⟨2, 2, b_law_choice⟩ [.obj n, .lst xs] mu)).done = _
  simp [b_law_choice, startS, biV, e, idxV, hx]
theorem fmod_ne {a r m : Int} (ha : 0 ≤ a) (hr : 0 ≤ r) (hm : r < m) (h : a ≤ m) : (a + 1 + r).fmod (m + 1) ≠ a := by
  rw [Int.fmod_eq_emod_of_nonneg _ (by omega)]
  by_cases q : a + 1 + r < m + 1
  · rw [Int.emod_eq_of_lt (by omega) q]; omega
  · rw [show a + 1 + r = (a + r - m) + (m + 1) by omega, Int.add_emod_right, Int.emod_eq_of_lt (by omega) (by omega)]; omega
theorem whole_i (lo hi i : Int) : isWhole lo hi (.int i) = (decide (lo ≤ i) && decide (i ≤ hi)) := rfl
theorem range1_i {cf : Nat → List PV → List MO → RC} {G : Gx} {a : AP.E} {s s1 : S} {n : Int} (h : (evK cf G a).e s = .ok (.int n) s1) (h0 : 0 ≤ n) (h1 : n ≤ 100000) : (evK cf G (.range1 a)).i s = .ok (intL 0 n.toNat) s1 := by
  rw [xk_range1, h]
  simp only [R.bind]
  rw [if_pos ⟨by simp [lim]; omega, by simp [lim]; omega⟩]
/-- a link, as it is drawn -/
def Lnk (m : Int) (v : PV) : Prop := ∃ (a b c : Int) (e : PV) (g : Bool), v = .tup [.int a, .int b, .int c, e, .bl g] ∧ (0 ≤ a ∧ a ≤ m) ∧ (0 ≤ b ∧ b ≤ m) ∧ a ≠ b ∧ (1 ≤ c ∧ c ≤ 4) ∧ (isNone e || isWhole 0 9 e) = true
theorem Lnk.is {m : Int} {v : PV} (h : Lnk m v) : isLink m v = true := by
  obtain ⟨a, b, c, e, g, rfl, ha, hb, hab, hc, he⟩ := h
  simp only [Bool.or_eq_true] at he
  simp [isLink, whole_i, ha, hb, hc, he, isBool, PV.eqv, hab]
theorem none_fine {w n : Nat} {e : PV} (h : (isNone e || isWhole 0 9 e) = true) : fine w n e = true := by
  cases e <;> first | rfl | (simp [isNone, isWhole] at h; done) | simp [fine]
theorem Lnk.fine {m : Int} {v : PV} (h : Lnk m v) : fine 5 1 v = true := by
  obtain ⟨a, b, c, e, g, rfl, ha, hb, hab, hc, he⟩ := h
  refine fine_tup.mpr ⟨by simp, fun x hx => ?_⟩
  simp at hx
  rcases hx with rfl | rfl | rfl | rfl | rfl
  · rfl
  · rfl
  · rfl
  · exact none_fine he
  · rfl
theorem r_lnk (d : Nat) (n : Nat) (m : Int) (mu : List MO) (hm : 1 ≤ m) (hb : Bag n mu) : ∃ (v : PV) (mu' : List MO), cK (d + 3) 20 [.obj n, .int m] mu = .ok v mu' ∧ Lnk m v ∧ Bag n mu' := by
  obtain ⟨a, m1, e1, a0, a1, hb⟩ := r_take (d + 1) n (m + 1) mu (by omega) hb
  obtain ⟨b, m2, e2, b0, b1, hb⟩ := r_take (d + 1) n m m1 (by omega) hb
  obtain ⟨x, m3, e3, hx, hb⟩ := r_choice d n [.non, .non, .int 0, .int 1, .int 2, .int 5] m2 (by simp) hb
  obtain ⟨c, m4, e4, c0, c1, hb⟩ := r_take (d + 1) n 4 m3 (by omega) hb
  obtain ⟨g, m5, e5, g0, g1, hb⟩ := r_take (d + 1) n 4 m4 (by omega) hb
  have om := op_mod (a := a + 1 + b) (b := m + 1) (by omega)
  refine ⟨.tup [.int a, .int ((a + 1 + b).fmod (m + 1)), .int (1 + c), x, .bl (decide (0 < g))], m5, ?_, ⟨_, _, _, _, _, rfl, ⟨a0, by omega⟩, ⟨Int.fmod_nonneg_of_pos _ (by omega), by have := Int.fmod_lt_of_pos (a + 1 + b) (b := m + 1) (by omega); omega⟩, (fmod_ne a0 b0 b1 (by omega)).symm, ⟨by omega, by omega⟩, ?_⟩, hb⟩
  · show (exK (cK (d + 2)) G b_law_link (startS ⟨2, 5, b_law_link⟩ [.obj n, .int m] mu)).done = _
    have va : ∀ s : S, s.view (.val (.int a)) = some (.int a) := fun s => rfl
    simp [b_law_link, startS, S.set, op_add, e1, e2, om, e3, e4, e5, lim, opCmp]
  · simp at hx
    rcases hx with rfl | rfl | rfl | rfl | rfl <;> rfl
/-- a tap, as it is drawn -/
def Tap (v : PV) : Prop := ∃ a b : Int, v = .tup [.int a, .int b] ∧ (0 ≤ a ∧ a ≤ 9) ∧ (0 ≤ b ∧ b ≤ 4)
theorem Tap.is {v : PV} (h : Tap v) : isTap v = true := by
  obtain ⟨a, b, rfl, ha, hb⟩ := h
  simp [isTap, isWhole, ha, hb]
theorem Tap.fine {v : PV} (h : Tap v) : fine 5 1 v = true := by
  obtain ⟨a, b, rfl, ha, hb⟩ := h
  refine fine_tup.mpr ⟨by simp, fun x hx => ?_⟩
  simp at hx
  rcases hx with rfl | rfl <;> rfl
/-- a net, as it is drawn -/
def Net (ts ls : List PV) : Prop := (1 ≤ ts.length ∧ ts.length ≤ 3) ∧ (∀ x ∈ ts, Tap x) ∧ (1 ≤ ls.length ∧ ls.length ≤ 5) ∧ ∀ x ∈ ls, Lnk ts.length x
def ntv (ts ls : List PV) : PV := .tup [.tup ts, .tup ls]
theorem Net.is {ts ls : List PV} (h : Net ts ls) : isNet (ntv ts ls) = true := by
  obtain ⟨h1, h2, h3, h4⟩ := h
  simp [ntv, isNet, isRow, items]
  exact ⟨⟨by omega, by omega⟩, fun x hx => (h2 x hx).is, ⟨by omega, by omega⟩, fun x hx => (h4 x hx).is⟩
theorem Net.fine {ts ls : List PV} (h : Net ts ls) : fine 5 3 (ntv ts ls) = true := by
  obtain ⟨h1, h2, h3, h4⟩ := h
  refine fine_tup.mpr ⟨by simp, fun x hx => ?_⟩
  simp at hx
  rcases hx with rfl | rfl
  · exact fine_tup.mpr ⟨by omega, fun x hx => (h2 x hx).fine⟩
  · exact fine_tup.mpr ⟨by omega, fun x hx => (h4 x hx).fine⟩
def nb1 : C := (.seq (.asg 3 (.bin .add (.var 3) (.tup (.cons (.tup (.cons (.call 19 (.cons (.var 0) (.cons (.lst (.cons (.int 0) (.cons (.int 1) (.cons (.int 2) (.cons (.int 3) (.cons (.int 5) (.cons (.int 8) .nil))))))) .nil))) (.cons (.call 19 (.cons (.var 0) (.cons (.lst (.cons (.int 0) (.cons (.int 1) (.cons (.int 1) (.cons (.int 2) (.cons (.int 4) .nil)))))) .nil))) .nil))) .nil))))
    .skip)
def nb2 : C := (.seq (.asg 5 (.bin .add (.var 5) (.tup (.cons (.call 20 (.cons (.var 0) (.cons (.var 2) .nil))) .nil))))
    .skip)
def N1 (n : Nat) (m k : Int) (rest : List PV) (s : S) : Prop := ∃ (ts : List PV) (mu : List MO) (x4 : Slot), s = ⟨[.val (.obj n), .val (.int m), .val (.int k), .val (.tup ts), x4, .un, .un], mu⟩ ∧ (ts.length + rest.length : Int) = k ∧ (∀ x ∈ ts, Tap x) ∧ Bag n mu
theorem n1_turn (d n : Nat) (m k : Int) (hk : k ≤ 3) (x : PV) (r : List PV) (s : S) (h : N1 n m k (x :: r) s) : ∃ s1 s2, bindP (.nm 4) x s = some s1 ∧ exK (cK (d + 2)) G nb1 s1 = .nx s2 ∧ N1 n m k r s2 := by
  obtain ⟨ts, mu, x4, rfl, hl, ht, hb⟩ := h
  obtain ⟨a, m1, e1, ha, hb⟩ := r_choice d n [.int 0, .int 1, .int 2, .int 3, .int 5, .int 8] mu (by simp) hb
  obtain ⟨b, m2, e2, hb2, hb⟩ := r_choice d n [.int 0, .int 1, .int 1, .int 2, .int 4] m1 (by simp) hb
  have hl2 : ts.length + 1 ≤ 100000 := by simp at hl; omega
  have ad : opBin .add (.tup ts) (.tup [.tup [a, b]]) = some (.tup (ts ++ [.tup [a, b]])) := by
    simp [opBin, lim, hl2]
  refine ⟨⟨[.val (.obj n), .val (.int m), .val (.int k), .val (.tup ts), .val x, .un, .un], mu⟩, ⟨[.val (.obj n), .val (.int m), .val (.int k), .val (.tup (ts ++ [.tup [a, b]])), .val x, .un, .un], m2⟩, rfl, ?_, _, _, _, rfl, by simp at hl ⊢; omega, fun y hy => ?_, hb⟩
  · simp [nb1, e1, e2, ad, lim, S.set]
  · rcases List.mem_append.mp hy with hy | hy
    · exact ht y hy
    · simp at hy
      subst hy
      simp at ha hb2
      rcases ha with rfl | rfl | rfl | rfl | rfl | rfl <;> rcases hb2 with rfl | rfl | rfl | rfl <;> exact ⟨_, _, rfl, by decide, by decide⟩
def N2 (n : Nat) (m : Int) (ts : List PV) (x4 : Slot) (rest : List PV) (s : S) : Prop := ∃ (ls : List PV) (mu : List MO) (x6 : Slot), s = ⟨[.val (.obj n), .val (.int m), .val (.int ts.length), .val (.tup ts), x4, .val (.tup ls), x6], mu⟩ ∧ 1 ≤ ls.length ∧ ls.length + rest.length ≤ 5 ∧ (∀ x ∈ ls, Lnk ts.length x) ∧ Bag n mu
theorem n2_turn (d n : Nat) (m : Int) (ts : List PV) (x4 : Slot) (h1 : 1 ≤ ts.length) (x : PV) (r : List PV) (s : S) (h : N2 n m ts x4 (x :: r) s) : ∃ s1 s2, bindP (.nm 6) x s = some s1 ∧ exK (cK (d + 3)) G nb2 s1 = .nx s2 ∧ N2 n m ts x4 r s2 := by
  obtain ⟨ls, mu, x6, rfl, hp, hl, ht, hb⟩ := h
  obtain ⟨a, m1, e1, ha, hb⟩ := r_lnk d n ts.length mu (by omega) hb
  have hl2 : ls.length + 1 ≤ 100000 := by simp at hl; omega
  have ad : opBin .add (.tup ls) (.tup [a]) = some (.tup (ls ++ [a])) := by
    simp [opBin, lim, hl2]
  refine ⟨⟨[.val (.obj n), .val (.int m), .val (.int ts.length), .val (.tup ts), x4, .val (.tup ls), .val x], mu⟩, ⟨[.val (.obj n), .val (.int m), .val (.int ts.length), .val (.tup ts), x4, .val (.tup (ls ++ [a])), .val x], m1⟩, rfl, ?_, _, _, _, rfl, by simp, by simp at hl ⊢; omega, fun y hy => ?_, hb⟩
  · simp [nb2, e1, ad, lim, S.set]
  · rcases List.mem_append.mp hy with hy | hy
    · exact ht y hy
    · simp at hy
      subst hy
      exact ha
theorem r_draw_net (d : Nat) (n : Nat) (mu : List MO) (hb : Bag n mu) : ∃ (ts ls : List PV) (mu' : List MO), cK (d + 4) 21 [.obj n, .int 5] mu = .ok (ntv ts ls) mu' ∧ Net ts ls ∧ Bag n mu' := by
  obtain ⟨k, m1, e1, k0, k1, hb⟩ := r_take (d + 2) n 3 mu (by omega) hb
  obtain ⟨s1, L1, ts, m2, x4, rfl, hl, ht, hb⟩ := for_inv (bind := bindP (.nm 4)) (body := exK (cK (d + 3)) G nb1) (intL 0 (1 + k).toNat) (N1 n 5 (1 + k)) (n1_turn (d + 1) n 5 (1 + k) (by omega)) ⟨[.val (.obj n), .val (.int 5), .val (.int (1 + k)), .val (.tup []), .un, .un, .un], m1⟩ ⟨[], m1, .un, rfl, by rw [intL_len]; simp; omega, by simp, hb⟩
  have hk : 1 + k = (ts.length : Int) := by simp at hl; omega
  obtain ⟨a, m3, e3, a0, a1, hb⟩ := r_take (d + 2) n (1 + k) m2 (by omega) hb
  obtain ⟨b, m4, e4, b0, b1, hb⟩ := r_take (d + 2) n 4 m3 (by omega) hb
  obtain ⟨c, m5, e5, c0, c1, hb⟩ := r_take (d + 2) n 5 m4 (by omega) hb
  obtain ⟨q, m6, e6, q0, q1, hb⟩ := r_take (d + 2) n 5 m5 (by omega) hb
  have F1 := xx_for (cK (d + 3)) G (p := .nm 4) (it := .range1 (.var 2)) (b := nb1) (s := ⟨[.val (.obj n), .val (.int 5), .val (.int (1 + k)), .val (.tup []), .un, .un, .un], m1⟩) (s1 := ⟨[.val (.obj n), .val (.int 5), .val (.int (1 + k)), .val (.tup []), .un, .un, .un], m1⟩) (xs := intL 0 (1 + k).toNat) (range1_i (by simp) (by omega) (by omega))
  rw [L1] at F1
  rw [hk] at F1 e3
  obtain ⟨s2, L2, ls, m7, x6, rfl, hl1, hl2, ht2, hb⟩ := for_inv (bind := bindP (.nm 6)) (body := exK (cK (d + 3)) G nb2) (intL 0 q.toNat) (N2 n 5 ts x4) (n2_turn d n 5 ts x4 (by omega)) ⟨[.val (.obj n), .val (.int 5), .val (.int ts.length), .val (.tup ts), x4, .val (.tup [.tup [.int 0, .int (1 + a), .int (1 + b), .non, .bl (decide (0 < c))]]), .un], m6⟩ ⟨_, m6, .un, rfl, by simp, by rw [intL_len]; simp; omega, fun y hy => by
    simp at hy
    subst hy
    exact ⟨_, _, _, _, _, rfl, ⟨by omega, by omega⟩, ⟨by omega, by omega⟩, by omega, ⟨by omega, by omega⟩, rfl⟩, hb⟩
  have F2 := xx_for (cK (d + 3)) G (p := .nm 6) (it := .range1 (.call 18 (.cons (.var 0) (.cons (.var 1) .nil)))) (b := nb2) (s := ⟨[.val (.obj n), .val (.int 5), .val (.int ts.length), .val (.tup ts), x4, .val (.tup [.tup [.int 0, .int (1 + a), .int (1 + b), .non, .bl (decide (0 < c))]]), .un], m5⟩) (s1 := ⟨[.val (.obj n), .val (.int 5), .val (.int ts.length), .val (.tup ts), x4, .val (.tup [.tup [.int 0, .int (1 + a), .int (1 + b), .non, .bl (decide (0 < c))]]), .un], m6⟩) (xs := intL 0 q.toNat) (range1_i (by simp [e6]) (by omega) (by omega))
  rw [L2] at F2
  refine ⟨ts, ls, m7, ?_, ⟨⟨by omega, by omega⟩, ht, ⟨hl1, by simpa using hl2⟩, ht2⟩, hb⟩
  show (exK (cK (d + 3)) G b_law_net (startS ⟨2, 7, b_law_net⟩ [.obj n, .int 5] mu)).done = _
  have f1 : (C.for_ (.nm 4) (.range1 (.var 2)) (.seq (.asg 3 (.bin .add (.var 3) (.tup (.cons (.tup (.cons (.call 19 (.cons (.var 0) (.cons (.lst (.cons (.int 0) (.cons (.int 1) (.cons (.int 2) (.cons (.int 3) (.cons (.int 5) (.cons (.int 8) .nil))))))) .nil))) (.cons (.call 19 (.cons (.var 0) (.cons (.lst (.cons (.int 0) (.cons (.int 1) (.cons (.int 1) (.cons (.int 2) (.cons (.int 4) .nil)))))) .nil))) .nil))) .nil))))
    .skip)) = C.for_ (.nm 4) (.range1 (.var 2)) nb1 := rfl
  have f2 : (C.for_ (.nm 6) (.range1 (.call 18 (.cons (.var 0) (.cons (.var 1) .nil)))) (.seq (.asg 5 (.bin .add (.var 5) (.tup (.cons (.call 20 (.cons (.var 0) (.cons (.var 2) .nil))) .nil))))
    .skip)) = C.for_ (.nm 6) (.range1 (.call 18 (.cons (.var 0) (.cons (.var 1) .nil)))) nb2 := rfl
  unfold b_law_net
  rw [f1, f2]
  simp [startS, e1, S.set, op_add, hk, F1, F2, e3, e4, e5, lim, opCmp, ntv]
end K01

set_option Elab.async false
set_option linter.all false
set_option maxRecDepth 100000
set_option maxHeartbeats 4000000
set_option autoImplicit false
set_option exponentiation.threshold 5000
/-! K1t: k01, the plain law: rules that are drawn; what is asked of values -/
namespace K01
open PySem PySem.Spec PyProof.Rows L2 AP
def Rul (T L : Nat) (v : PV) : Prop := isRule T L v = true ∧ fine 5 1 v = true
theorem idx0 (ts ls : List PV) : idxV (ntv ts ls) (.int 0) = some (.tup ts) := by simp [ntv, idxV, atI, ixN]
theorem idx1 (ts ls : List PV) : idxV (ntv ts ls) (.int 1) = some (.tup ls) := by simp [ntv, idxV, atI, ixN]
theorem vnt (s : S) (ts ls : List PV) : s.view (.val (ntv ts ls)) = some (ntv ts ls) := rfl
theorem one_len (xs : List PV) : biV .len [.tup xs] = some (.int xs.length) := rfl
theorem seq_nx {cf : Nat → List PV → List MO → RC} {G : Gx} {a b : C} {s s1 : S} (h : exK cf G a s = .nx s1) : exK cf G (.seq a b) s = exK cf G b s1 := by
  rw [xx_seq, h]
theorem r_draw_rule (d : Nat) (n : Nat) (ts ls : List PV) (mu : List MO) (hn : Net ts ls) (hb : Bag n mu) : ∃ (v : PV) (mu' : List MO), cK (d + 3) 22 [.obj n, ntv ts ls] mu = .ok v mu' ∧ Rul ts.length ls.length v ∧ Bag n mu' := by
  obtain ⟨⟨t1, t2⟩, _, ⟨l1, l2⟩, _⟩ := hn
  obtain ⟨x, m1, e1, hx, hb⟩ := r_choice d n [.str "dry", .str "wet", .str "runs", .str "still"] mu (by simp) hb
  have P : ∀ (p : Int) (m2 : List MO) (hb : Bag n m2), (exK (cK (d + 2)) G (.asg 3 (.ite (.cmp .in_ (.var 2) (.lst (.cons (.str "dry") (.cons (.str "wet") .nil)))) (.bin .add (.int 1) (.call 18 (.cons (.var 0) (.cons (.bi .len (.cons (.idx (.var 1) (.int 0)) .nil)) .nil)))) (.call 18 (.cons (.var 0) (.cons (.bi .len (.cons (.idx (.var 1) (.int 1)) .nil)) .nil))))) ⟨[.val (.obj n), .val (ntv ts ls), .val x, .un], m1⟩ = .nx ⟨[.val (.obj n), .val (ntv ts ls), .val x, .val (.int p)], m2⟩) → (isStr x = true ∧ (if oneOf "dry" "wet" x then isWhole 1 ts.length (.int p) else oneOf "runs" "still" x && isWhole 0 (ls.length - 1 : Int) (.int p)) = true) → ∃ (v : PV) (mu' : List MO), cK (d + 3) 22 [.obj n, ntv ts ls] mu = .ok v mu' ∧ Rul ts.length ls.length v ∧ Bag n mu' := fun p m2 hb e2 hq => by
    obtain ⟨a, m3, e3, a0, a1, hb⟩ := r_take (d + 1) n ls.length m2 (by omega) hb
    obtain ⟨b, m4, e4, b0, b1, hb⟩ := r_take (d + 1) n 2 m3 (by omega) hb
    refine ⟨.tup [x, .int p, .int a, .bl ((PV.int b).eqv (.int 0))], m4, ?_, ⟨?_, ?_⟩, hb⟩
    · show (exK (cK (d + 2)) G b_law_rule ⟨[.val (.obj n), .val (ntv ts ls), .un, .un], mu⟩).done = _
      have eb : opCmp .eq (.int b) (.int 0) = some ((PV.int b).eqv (.int 0)) := by simp [opCmp, PV.flat]
      unfold b_law_rule
      rw [seq_nx (s1 := ⟨[.val (.obj n), .val (ntv ts ls), .val x, .un], m1⟩) (by simp [e1, lim, S.set]), seq_nx e2]
      simp [idx1, vnt, one_len, e3, e4, eb, lim]
    · simp only [isRule, hq.1, isBool, whole_i, Bool.and_eq_true, decide_eq_true_eq]
      refine ⟨trivial, trivial, ⟨a0, by omega⟩, ?_⟩
      simpa [whole_i] using hq.2
    · refine fine_tup.mpr ⟨by simp, fun y hy => ?_⟩
      simp at hy
      rcases hy with rfl | rfl | rfl | rfl
      · cases y <;> first | rfl | (cases hq.1; done)
      · rfl
      · rfl
      · rfl
  have A : oneOf "dry" "wet" x = true → isStr x = true → ∃ (v : PV) (mu' : List MO), cK (d + 3) 22 [.obj n, ntv ts ls] mu = .ok v mu' ∧ Rul ts.length ls.length v ∧ Bag n mu' := fun o hs => by
    obtain ⟨a, m2, e3, a0, a1, hb⟩ := r_take (d + 1) n ts.length m1 (by omega) hb
    cases x with
    | str x =>
      have i1 : opCmp .in_ (.str x) (.lst [.str "dry", .str "wet"]) = some true := by rw [← o]; exact in_t x _ _
      refine P (1 + a) m2 hb ?_ ⟨rfl, ?_⟩
      · simp [i1, idx0, vnt, one_len, e3, op_add, S.set, lim]
      · rw [o, if_pos rfl]
        simp [whole_i]; omega
    | _ => cases hs
  have B : oneOf "dry" "wet" x = false → oneOf "runs" "still" x = true → isStr x = true → ∃ (v : PV) (mu' : List MO), cK (d + 3) 22 [.obj n, ntv ts ls] mu = .ok v mu' ∧ Rul ts.length ls.length v ∧ Bag n mu' := fun o o2 hs => by
    obtain ⟨a, m2, e3, a0, a1, hb⟩ := r_take (d + 1) n ls.length m1 (by omega) hb
    cases x with
    | str x =>
      have i1 : opCmp .in_ (.str x) (.lst [.str "dry", .str "wet"]) = some false := by rw [← o]; exact in_t x _ _
      refine P a m2 hb ?_ ⟨rfl, ?_⟩
      · simp [i1, idx1, vnt, one_len, e3, op_add, S.set, lim]
      · rw [o, o2]
        simp [whole_i]; omega
    | _ => cases hs
  simp at hx
  rcases hx with rfl | rfl | rfl | rfl
  · exact A rfl rfl
  · exact A rfl rfl
  · exact B rfl rfl rfl
  · exact B rfl rfl rfl
/-- a comprehension whose turns change the store -/
theorem lc_runM {i : Nat} {c : S → R Bool} {f : S → R PV} {sl : List Slot} (J : List MO → Prop) (Q : PV → Prop) (h0 : sl[i]? = some .un) (hc : ∀ s, c s = .ok true s) : ∀ (xs : List PV) (mu : List MO), J mu → (∀ x ∈ xs, ∀ mu, J mu → ∃ v mu', f ⟨sl.set i (.val x), mu⟩ = .ok v ⟨sl.set i (.val x), mu'⟩ ∧ Q v ∧ J mu') →
    ∃ vs mu', lcLoop (bindP (.nm i)) [i] c f xs ⟨sl, mu⟩ = .ok vs ⟨sl, mu'⟩ ∧ vs.length = xs.length ∧ (∀ v ∈ vs, Q v) ∧ J mu'
  | [], mu, hj, _ => ⟨[], mu, rfl, rfl, by simp, hj⟩
  | x :: xs, mu, hj, hf => by
    have hi : i < sl.length := (List.getElem?_eq_some_iff.mp h0).1
    obtain ⟨v, m1, e1, hq, hj1⟩ := hf x List.mem_cons_self mu hj
    obtain ⟨vs, m2, e2, hl, hqs, hj2⟩ := lc_runM J Q h0 hc xs m1 hj1 (fun y hy => hf y (List.mem_cons_of_mem _ hy))
    have hw : (⟨sl.set i (.val x), m1⟩ : S).wipe [i] = ⟨sl, m1⟩ := by
      rw [wipe_one]
      simp only [List.set_set]
      rw [set_self h0]
    have hb : bindP (.nm i) x ⟨sl, mu⟩ = some ⟨sl.set i (.val x), mu⟩ := by simp [bindP, hi, S.set]
    refine ⟨v :: vs, m2, ?_, by simp [hl], fun y hy => ?_, hj2⟩
    · unfold lcLoop
      rw [hb]
      dsimp only
      rw [hc]
      dsimp only
      rw [e1]
      dsimp only
      rw [hw, e2]
      rfl
    · rcases List.mem_cons.mp hy with rfl | hy
      · exact hq
      · exact hqs y hy
theorem lcM {cf : Nat → List PV → List MO → RC} {G : Gx} {elt it : AP.E} {i : Nat} {s : S} {sl : List Slot} {mu : List MO} {xs : List PV} (J : List MO → Prop) (Q : PV → Prop) (hit : (evK cf G it).i s = .ok xs ⟨sl, mu⟩) (h0 : sl[i]? = some .un) (hj : J mu) (hf : ∀ x ∈ xs, ∀ mu, J mu → ∃ v mu', (evK cf G elt).e ⟨sl.set i (.val x), mu⟩ = .ok v ⟨sl.set i (.val x), mu'⟩ ∧ Q v ∧ J mu') :
    ∃ vs mu', (evK cf G (.lc elt (.nm i) it .omit)).e s = .ok (.lst vs) ⟨sl, mu'⟩ ∧ vs.length = xs.length ∧ (∀ v ∈ vs, Q v) ∧ J mu' := by
  obtain ⟨vs, mu', e, hl, hq, hj'⟩ := lc_runM (c := (evK cf G .omit).c) (f := (evK cf G elt).e) J Q h0 (fun s => rfl) xs mu hj hf
  refine ⟨vs, mu', ?_, hl, hq, hj'⟩
  rw [evK]
  simp only [hit, R.bind]
  have no : notOwn sl (Pat.nm i).slots = true := by simp [notOwn, Pat.slots, h0]
  rw [if_pos no]
  have hw : (⟨sl, mu⟩ : S).wipe (Pat.nm i).slots = ⟨sl, mu⟩ := by
    show (⟨sl, mu⟩ : S).wipe [i] = _
    rw [wipe_one, set_self h0]
  rw [hw]
  rw [show lcLoop (bindP (.nm i)) (Pat.nm i).slots (evK cf G .omit).c (evK cf G elt).e xs ⟨sl, mu⟩ = _ from e]
  simp only [R.bind, restore, Pat.slots, List.foldr_cons, List.foldr_nil]
  rw [set_self (by rw [List.getD_eq_getElem?_getD, h0]; rfl)]
def Ruls (T L : Nat) (rs : List PV) : Prop := rs.length ≤ 4 ∧ ∀ v ∈ rs, Rul T L v
theorem Ruls.is {T L : Nat} {rs : List PV} (h : Ruls T L rs) : isRules T L (.tup rs) = true := by
  obtain ⟨h1, h2⟩ := h
  simp [isRules, isRow, items]
  exact ⟨by omega, fun x hx => (h2 x hx).1⟩
theorem Ruls.fine {T L : Nat} {rs : List PV} (h : Ruls T L rs) : fine 5 2 (.tup rs) = true :=
  fine_tup.mpr ⟨by have := h.1; omega, fun x hx => (h.2 x hx).2⟩
theorem r_draw_rules (d : Nat) (n : Nat) (ts ls : List PV) (mu : List MO) (hn : Net ts ls) (hb : Bag n mu) : ∃ (rs : List PV) (mu' : List MO), cK (d + 4) 23 [.obj n, ntv ts ls, .int 4] mu = .ok (.tup rs) mu' ∧ Ruls ts.length ls.length rs ∧ Bag n mu' := by
  obtain ⟨k, m1, e1, k0, k1, hb⟩ := r_take (d + 2) n 5 mu (by omega) hb
  obtain ⟨vs, m2, e, hl, hq, hb⟩ := lcM (cf := cK (d + 3)) (G := G) (elt := .call 22 (.cons (.var 0) (.cons (.var 1) .nil))) (it := .range1 (.call 18 (.cons (.var 0) (.cons (.bin .add (.var 2) (.int 1)) .nil)))) (i := 3) (s := ⟨[.val (.obj n), .val (ntv ts ls), .val (.int 4), .un], mu⟩) (sl := [.val (.obj n), .val (ntv ts ls), .val (.int 4), .un]) (mu := m1) (xs := intL 0 k.toNat) (Bag n) (Rul ts.length ls.length) (range1_i (by simp [op_add, e1]) (by omega) (by omega)) rfl hb (fun x hx mu hb => by
    obtain ⟨v, m', e, hr, hb⟩ := r_draw_rule d n ts ls mu hn hb
    exact ⟨v, m', by simp [e], hr, hb⟩)
  refine ⟨vs, m2, ?_, ⟨by rw [hl, intL_len]; omega, hq⟩, hb⟩
  show (exK (cK (d + 3)) G b_law_rules ⟨[.val (.obj n), .val (ntv ts ls), .val (.int 4), .un], mu⟩).done = _
  simp [b_law_rules, e, biV]
theorem r_truly (d : Nat) (a b : Bool) (mu : List MO) : cK (d + 1) 24 [.bl a, .bl b] mu = .ok (.bl (a == b)) mu := by
  cases a <;> cases b <;> rfl
theorem r_lwhole (d : Nat) (v : PV) (lo hi : Int) (mu : List MO) (h : pl v = true) : cK (d + 1) 25 [v, .int lo, .int hi] mu = .ok (.bl (isWhole lo hi v)) mu := by
  show (exK (cK d) G b_law_whole (startS ⟨3, 3, b_law_whole⟩ [v, .int lo, .int hi] mu)).done = _
  cases v <;> first | (cases h; done) | rfl | skip
  rename_i i
  simp [b_law_whole, startS, PV.isTy, opCmp, isWhole, show (Ty.bool == Ty.int) = false from rfl]
  by_cases q : lo ≤ i <;> simp [q]
end K01

set_option Elab.async false
set_option linter.all false
set_option maxRecDepth 100000
set_option maxHeartbeats 4000000
set_option autoImplicit false
set_option exponentiation.threshold 5000
/-! K1u: k01, the plain law: spoilt values -/
namespace K01
open PySem PySem.Spec PyProof.Rows L2 AP
def tailC : C → C
  | .seq _ b => b
  | c => c
theorem cut_len {α : Type} (xs : List α) (a b : Option Int) : (cut xs a b).length ≤ xs.length := by
  unfold cut
  simp only [List.length_take, List.length_drop]
  omega
theorem cut_mem {α : Type} {xs : List α} {a b : Option Int} {x : α} (h : x ∈ cut xs a b) : x ∈ xs := List.mem_of_mem_drop (List.mem_of_mem_take h)
theorem cut_pre {α : Type} (xs : List α) (k : Nat) (h : k ≤ xs.length) : (cut xs none (some (k : Int))).length = k := by
  unfold cut
  rw [HT.sIx_none, HT.sIx_nat]
  simp
  omega
theorem cut_suf {α : Type} (xs : List α) (k : Nat) (h : k ≤ xs.length) : (cut xs (some (k : Int)) none).length = xs.length - k := by
  unfold cut
  rw [HT.sIx_none, HT.sIx_nat]
  simp
  omega
theorem cut_last {α : Type} (xs : List α) : (cut xs (some (-1)) none).length ≤ 1 := by
  unfold cut HT.sIx
  simp only [List.length_take, List.length_drop]
  simp
  omega
theorem pick {xs : List PV} {r : Int} (h0 : 0 ≤ r) (h : r < xs.length) : ∃ x, idxV (.lst xs) (.int r) = some x ∧ x ∈ xs := atI_lt h0 h
def sp_rest : C := tailC (tailC b_law_spoilt)
theorem op_sub (a b : Int) : opBin .sub (.int a) (.int b) = some (.int (a - b)) := rfl
theorem leaf_fine {w n : Nat} {v : PV} (h : fine 0 0 v = true) : fine w n v = true := fine_mono (Nat.zero_le _) v (Nat.zero_le _) h
/-- what a spoilt value is -/
def SpG (b : Nat) (w n : Nat) (r : RC) : Prop := ∃ (v : PV) (mu : List MO), r = .ok v mu ∧ fine (w + 1) (n + 1) v = true ∧ Bag b mu
theorem sp_leaf (d b : Nat) (v : PV) (mu : List MO) {w n : Nat} (hv : fine w n v = true) (hl : ∀ xs, v ≠ .tup xs ∧ v ≠ .lst xs) (hb : Bag b mu) : SpG b w n (exK (cK (d + 1)) G sp_rest ⟨[.val (.obj b), .val v, .un, .un, .un], mu⟩).done := by
  obtain ⟨r, m1, e1, r0, r1, hb⟩ := r_take d b 7 mu (by omega) hb
  cases v with
  | tup xs => exact absurd rfl (hl xs).1
  | lst xs => exact absurd rfl (hl xs).2
  | obj n => simp [fine] at hv
  | scr n => simp [fine] at hv
  | non =>
    obtain ⟨x, hx, hm⟩ := pick (xs := [.int 0, .int 9, .int 10, .int (-1), .bl false, .int 3, .str "0"]) r0 (by simpa using r1)
    refine ⟨x, m1, ?_, ?_, hb⟩
    · simp [sp_rest, tailC, b_law_spoilt, e1, S.set, PV.isTy, hx, lim]
    · simp at hm
      rcases hm with rfl | rfl | rfl | rfl | rfl | rfl | rfl <;> exact leaf_fine rfl
  | bl q =>
    obtain ⟨x, hx, hm⟩ := pick (xs := [.bl (!q), .int (if q then 1 else 0), .non, .str "open", .int 2, .bl true, .tup [.bl q]]) r0 (by simpa using r1)
    refine ⟨x, m1, ?_, ?_, hb⟩
    · cases q <;> simp at hx <;> simp [sp_rest, tailC, b_law_spoilt, e1, S.set, PV.isTy, hx, lim, biV, show (Ty.tuple == Ty.bool) = false from rfl]
    · simp only [List.mem_cons, List.not_mem_nil, or_false] at hm
      rcases hm with rfl | rfl | rfl | rfl | rfl | rfl | rfl
      · exact leaf_fine rfl
      · exact leaf_fine rfl
      · exact leaf_fine rfl
      · exact leaf_fine rfl
      · exact leaf_fine rfl
      · exact leaf_fine rfl
      · exact fine_tup.mpr ⟨by simp, fun y hy => by simp at hy; subst hy; exact leaf_fine rfl⟩
  | int i =>
    obtain ⟨x, hx, hm⟩ := pick (xs := [.int (i + 1), .int (i - 1), .int (i + 5), .bl true, .non, .int 0, .str "1"]) r0 (by simpa using r1)
    refine ⟨x, m1, ?_, ?_, hb⟩
    · simp [sp_rest, tailC, b_law_spoilt, e1, S.set, PV.isTy, hx, lim, op_add, op_sub, show (Ty.bool == Ty.int) = false from rfl]
    · simp at hm
      rcases hm with rfl | rfl | rfl | rfl | rfl | rfl | rfl <;> exact leaf_fine rfl
  | str i =>
    obtain ⟨x, hx, hm⟩ := pick (xs := [.str "dry", .str "wet", .str "runs", .str "", .str "still", .str "Dry", .int 0]) r0 (by simpa using r1)
    refine ⟨x, m1, ?_, ?_, hb⟩
    · simp [sp_rest, tailC, b_law_spoilt, e1, S.set, PV.isTy, hx, lim]
    · simp at hm
      rcases hm with rfl | rfl | rfl | rfl | rfl | rfl | rfl <;> exact leaf_fine rfl
abbrev mores : List PV := [.tup [.int 1, .int 2], .tup [.int 0, .int 1, .int 1, .non, .bl true], .tup [.str "dry", .int 1, .int 0, .bl true], .int 5]
theorem more_fine {x : PV} (h : x ∈ mores) : fine 5 1 x = true := by
  simp at h
  rcases h with rfl | rfl | rfl | rfl <;> rfl
theorem sp_tup (d b : Nat) (xs : List PV) (mu : List MO) {w n : Nat} (hv : fine w (n + 1) (.tup xs) = true) (hw5 : 5 ≤ w) (hw : w ≤ 1000) (hb : Bag b mu) : SpG b w (n + 1) (exK (cK (d + 1)) G sp_rest ⟨[.val (.obj b), .val (.tup xs), .un, .un, .un], mu⟩).done := by
  obtain ⟨r, m1, e1, r0, r1, hb⟩ := r_take d b 7 mu (by omega) hb
  obtain ⟨k, m2, e2, k0, k1, hb⟩ := r_take d b 4 m1 (by omega) hb
  obtain ⟨z, hz, hzm⟩ := pick (xs := mores) k0 (by simpa using k1)
  have fv := fine_tup.mp hv
  have c1 := cut_len xs (some 1) none
  have c2 := cut_last xs
  obtain ⟨x, hx, hm⟩ := pick (xs := [.lst xs, .tup (cut xs (some 1) none), .tup (xs ++ cut xs (some (-1)) none), .tup xs.reverse, .tup [], .tup (xs ++ [z]), .non]) r0 (by simpa using r1)
  have a1 : opBin .add (.tup xs) (.tup (cut xs (some (-1)) none)) = some (.tup (xs ++ cut xs (some (-1)) none)) := by
    have : xs.length + (cut xs (some (-1)) none).length ≤ lim := by unfold lim; omega
    simp [opBin, this]
  have a2 : opBin .add (.tup xs) (.tup [z]) = some (.tup (xs ++ [z])) := by
    have : xs.length + 1 ≤ lim := by unfold lim; omega
    simp [opBin, this]
  have up : ∀ y, fine w n y = true → fine (w + 1) (n + 1) y = true := fun y hy => fine_mono (by omega) y (by omega) hy
  refine ⟨x, m2, ?_, ?_, hb⟩
  · simp [sp_rest, tailC, b_law_spoilt, e1, e2, S.set, PV.isTy, hz, hx, lim, sliceV, biV, revV, a1, a2]
  · simp only [List.mem_cons, List.not_mem_nil, or_false] at hm
    rcases hm with rfl | rfl | rfl | rfl | rfl | rfl | rfl
    · exact fine_lst.mpr ⟨by omega, fun y hy => up y (fv.2 y hy)⟩
    · exact fine_tup.mpr ⟨by omega, fun y hy => up y (fv.2 y (cut_mem hy))⟩
    · refine fine_tup.mpr ⟨by simp; omega, fun y hy => ?_⟩
      rcases List.mem_append.mp hy with hy | hy
      · exact up y (fv.2 y hy)
      · exact up y (fv.2 y (cut_mem hy))
    · exact fine_tup.mpr ⟨by simp; omega, fun y hy => up y (fv.2 y (List.mem_reverse.mp hy))⟩
    · exact fine_tup.mpr ⟨by simp, fun y hy => by simp at hy⟩
    · refine fine_tup.mpr ⟨by simp; omega, fun y hy => ?_⟩
      rcases List.mem_append.mp hy with hy | hy
      · exact up y (fv.2 y hy)
      · simp at hy
        subst hy
        exact fine_mono (by omega) y (by omega) (more_fine hzm)
    · exact leaf_fine rfl
theorem op_gt (a b : Int) : opCmp .gt (.int a) (.int b) = some (decide (b < a)) := rfl
theorem ne_flat {w n : Nat} {xs : List PV} (h : fine w n (.tup xs) = true) (hn : n ≤ 12) : opCmp .ne (.tup xs) (.tup []) = some (!xs.isEmpty) := by
  have h1 := fine_flat _ (fine_mono (Nat.le_refl w) (.tup xs) hn h)
  have h2 : (PV.tup []).flat deep = true := rfl
  simp only [opCmp, h1, h2, Bool.and_self, if_true]
  cases xs <;> rfl
theorem r_spoilt : ∀ (n d b : Nat) (v : PV) (mu : List MO) (w : Nat), fine w n v = true → 5 ≤ w → w ≤ 1000 → n ≤ 12 → Bag b mu → SpG b w n (cK (d + n + 2) 26 [.obj b, v] mu) := by
  have leaf : ∀ (n d b : Nat) (v : PV) (mu : List MO) (w : Nat), fine w n v = true → (∀ xs, v ≠ .tup xs ∧ v ≠ .lst xs) → Bag b mu → SpG b w n (cK (d + 2) 26 [.obj b, v] mu) := fun n d b v mu w hv hl hb => by
    have h := sp_leaf d b v mu hv hl hb
    obtain ⟨v', mu', e, h1, h2⟩ := h
    refine ⟨v', mu', ?_, h1, h2⟩
    show (exK (cK (d + 1)) G b_law_spoilt ⟨[.val (.obj b), .val v, .un, .un, .un], mu⟩).done = _
    rw [← e]
    show (exK (cK (d + 1)) G (.seq _ (.seq _ sp_rest)) _).done = _
    have i1 : v.isTy .list = some false := by cases v <;> first | (exact absurd rfl (hl _).1) | (exact absurd rfl (hl _).2) | (simp [fine] at hv; done) | rfl
    have i2 : v.isTy .tuple = some false := by cases v <;> first | (exact absurd rfl (hl _).1) | (exact absurd rfl (hl _).2) | (simp [fine] at hv; done) | rfl
    have vv := vp (fine_pl hv)
    rw [seq_nx (s1 := ⟨[.val (.obj b), .val v, .un, .un, .un], mu⟩) (by simp [vv, i1]), seq_nx (s1 := ⟨[.val (.obj b), .val v, .un, .un, .un], mu⟩) (by simp [vv, i2])]
  intro n
  induction n with
  | zero => exact fun d b v mu w hv h5 hw hn hb => leaf 0 d b v mu w hv (fun xs => ⟨fun e => by subst e; simp [fine] at hv, fun e => by subst e; simp [fine] at hv⟩) hb
  | succ m ih =>
    intro d b v mu w hv h5 hw hn hb
    by_cases hl : ∀ xs, v ≠ .tup xs ∧ v ≠ .lst xs
    · have := leaf (m + 1) (d + (m + 1)) b v mu w hv hl hb
      exact this
    · cases v with
      | lst xs =>
        have fv := fine_lst.mp hv
        refine ⟨.tup xs, mu, ?_, fine_tup.mpr ⟨by omega, fun y hy => fine_mono (by omega) y (by omega) (fv.2 y hy)⟩, hb⟩
        show (exK (cK (d + (m + 1) + 1)) G b_law_spoilt ⟨[.val (.obj b), .val (.lst xs), .un, .un, .un], mu⟩).done = _
        simp [b_law_spoilt, PV.isTy, biV]
      | tup xs =>
        have fv := fine_tup.mp hv
        have hne := ne_flat hv hn
        show SpG b w (m + 1) (exK (cK (d + (m + 1) + 1)) G (.seq _ (.seq _ sp_rest)) ⟨[.val (.obj b), .val (.tup xs), .un, .un, .un], mu⟩).done
        rw [seq_nx (s1 := ⟨[.val (.obj b), .val (.tup xs), .un, .un, .un], mu⟩) (by simp [PV.isTy])]
        cases he : xs.isEmpty with
        | true =>
          rw [he] at hne
          rw [seq_nx (s1 := ⟨[.val (.obj b), .val (.tup xs), .un, .un, .un], mu⟩) (by simp [PV.isTy, hne])]
          exact sp_tup (d + (m + 1)) b xs mu hv h5 hw hb
        | false =>
          rw [he] at hne
          obtain ⟨r, m1, e1, r0, r1, hb⟩ := r_take (d + (m + 1)) b 6 mu (by omega) hb
          by_cases hr : 0 < r
          · have hp : 0 < (xs.length : Int) := by
              have : 0 < xs.length := List.length_pos_iff.mpr (by intro e; subst e; cases he)
              omega
            obtain ⟨k, m2, e2, k0, k1, hb⟩ := r_take (d + (m + 1)) b xs.length m1 hp hb
            obtain ⟨x, hx, hxm⟩ := atI_lt k0 k1
            obtain ⟨y, m3, e3, hy, hb⟩ := ih d b x m2 w (fv.2 x hxm) h5 hw (by omega) hb
            obtain ⟨kn, rfl⟩ := Int.eq_ofNat_of_zero_le k0
            have kl : kn < xs.length := by omega
            have L1 := cut_pre xs kn (by omega)
            have L2 := cut_suf xs (kn + 1) (by omega)
            have a1 : opBin .add (.tup (cut xs none (some (kn : Int)))) (.tup [y]) = some (.tup (cut xs none (some (kn : Int)) ++ [y])) := by
              have : (cut xs none (some (kn : Int))).length + 1 ≤ lim := by unfold lim; omega
              simp [opBin, this]
            have a2 : opBin .add (.tup (cut xs none (some (kn : Int)) ++ [y])) (.tup (cut xs (some ((kn : Int) + 1)) none)) = some (.tup (cut xs none (some (kn : Int)) ++ [y] ++ cut xs (some ((kn : Int) + 1)) none)) := by
              have : (cut xs none (some (kn : Int)) ++ [y]).length + (cut xs (some ((kn : Int) + 1)) none).length ≤ lim := by
                have := cut_len xs (some ((kn : Int) + 1)) none
                unfold lim; simp; omega
              rw [opBin, if_pos this]
            refine ⟨.tup (cut xs none (some (kn : Int)) ++ [y] ++ cut xs (some ((kn : Int) + 1)) none), m3, ?_, fine_tup.mpr ⟨?_, fun z hz => ?_⟩, hb⟩
            · have e3' : cK (d + (m + 1) + 1) 26 [.obj b, x] m2 = .ok y m3 := e3
              simp [PV.isTy, hne, e1, op_gt, hr, S.set, biV, e2, sliceV, idxV, hx, e3', a1, a2, op_add, lim, -List.append_assoc]
            · have := cut_suf xs (kn + 1) (by omega)
              have e : (((kn + 1 : Nat)) : Int) = (kn : Int) + 1 := by omega
              rw [e] at this
              simp only [List.length_append, L1, this, List.length_cons, List.length_nil]
              omega
            · rcases List.mem_append.mp hz with hz | hz
              · rcases List.mem_append.mp hz with hz | hz
                · exact fine_mono (by omega) z (by omega) (fv.2 z (cut_mem hz))
                · simp at hz
                  subst hz
                  exact hy
              · exact fine_mono (by omega) z (by omega) (fv.2 z (cut_mem hz))
          · rw [seq_nx (s1 := ⟨[.val (.obj b), .val (.tup xs), .un, .un, .un], m1⟩) (by simp [PV.isTy, hne, e1, op_gt, hr])]
            exact sp_tup (d + (m + 1)) b xs m1 hv h5 hw hb
      | _ => exact absurd (fun xs => ⟨PV.noConfusion, PV.noConfusion⟩) hl
end K01

set_option Elab.async false
set_option linter.all false
set_option maxRecDepth 100000
set_option maxHeartbeats 4000000
set_option autoImplicit false
set_option exponentiation.threshold 5000
/-! K1v: k01, the plain law: the law's own reading of nets and rules -/
namespace K01
open PySem PySem.Spec PyProof.Rows L2 AP
/-- a loop that returns False at the first without g -/
theorem for_ret {bind : PV → S → Option S} {body : S → RS} (g : PV → Bool) (Q : S → Prop) (mu : List MO) : ∀ (xs : List PV) (s : S), Q s → (∀ x ∈ xs, ∀ s, Q s → ∃ s1 s2, bind x s = some s1 ∧ ((g x = true ∧ body s1 = .nx s2 ∧ Q s2) ∨ (g x = false ∧ body s1 = .rt (.bl false) s2 ∧ s2.mu = mu))) →
    ∃ s', (xs.all g = true ∧ forLoop bind body xs s = .nx s' ∧ Q s') ∨ (xs.all g = false ∧ forLoop bind body xs s = .rt (.bl false) s' ∧ s'.mu = mu)
  | [], s, hq, _ => ⟨s, .inl ⟨rfl, rfl, hq⟩⟩
  | x :: xs, s, hq, hf => by
    obtain ⟨s1, s2, e1, h⟩ := hf x List.mem_cons_self s hq
    rcases h with ⟨hg, e2, hq2⟩ | ⟨hg, e2, hm⟩
    · obtain ⟨s', h⟩ := for_ret g Q mu xs s2 hq2 (fun y hy => hf y (List.mem_cons_of_mem _ hy))
      refine ⟨s', ?_⟩
      rw [List.all_cons, hg, Bool.true_and]
      unfold forLoop
      rw [e1]; dsimp only; rw [e2]
      exact h
    · refine ⟨s2, .inr ⟨by rw [List.all_cons, hg]; rfl, ?_, hm⟩⟩
      unfold forLoop
      rw [e1]; dsimp only; rw [e2]
def isTup : PV → Bool
  | .tup _ => true
  | _ => false
theorem isTy_tup {v : PV} (h : pl v = true) : v.isTy .tuple = some (isTup v) := by
  cases v <;> first | (cases h; done) | rfl
theorem isTy_tt (xs : List PV) : (PV.tup xs).isTy .tuple = some true := rfl
theorem ne_int (a b : Int) : opCmp .ne (.int a) (.int b) = some (!(a == b)) := by simp [opCmp, PV.flat, PV.eqv]
def gb1 : C := (.seq (.ite (.or_ (.not_ (.isi (.var 2) .tuple)) (.or_ (.cmp .ne (.bi .len (.cons (.var 2) .nil)) (.int 2)) (.not_ (.call 25 (.cons (.idx (.var 2) (.int 0)) (.cons (.int 0) (.cons (.int 9) .nil))))))) (.seq (.ret (.bl false))
    .skip) .skip)
    (.seq (.ite (.not_ (.call 25 (.cons (.idx (.var 2) (.int 1)) (.cons (.int 0) (.cons (.int 4) .nil))))) (.seq (.ret (.bl false))
    .skip) .skip)
    .skip))
theorem gb1_run (d : Nat) (v w3 : PV) (m : Int) (x : PV) (x3 : Slot) (mu : List MO) {w n : Nat} (h : fine w (n + 1) x = true) :
    exK (cK (d + 1)) G gb1 ⟨[.val v, .val (.int m), .val x, x3], mu⟩ = if isTap x then .nx ⟨[.val v, .val (.int m), .val x, x3], mu⟩ else .rt (.bl false) ⟨[.val v, .val (.int m), .val x, x3], mu⟩ := by
  cases ht : isTup x with
  | false =>
    have i := isTy_tup (fine_pl h)
    have vx := vp (fine_pl h)
    rw [ht] at i
    have : isTap x = false := by
      cases x <;> first | rfl | (cases ht; done)
    simp [gb1, vx, i, this]
  | true =>
    cases x with
    | tup xs =>
      by_cases hl : xs.length = 2
      · match xs, hl with
        | [a, b], _ =>
          have hf := (fine_tup.mp h).2
          have h2 := r_lwhole d a 0 9 mu (fine_pl (hf a (by simp)))
          have h3 := r_lwhole d b 0 4 mu (fine_pl (hf b (by simp)))
          cases ha : isWhole 0 9 a with
          | false => rw [ha] at h2; simp [gb1, isTy_tt, biV, ne_int, idxV, atI, ixN, h2, isTap, ha]
          | true =>
            rw [ha] at h2
            cases hb : isWhole 0 4 b <;> rw [hb] at h3 <;> simp [gb1, isTy_tt, biV, ne_int, idxV, atI, ixN, h2, h3, isTap, ha, hb]
      · have : isTap (.tup xs) = false := by
          unfold isTap
          split
          · rename_i e; cases e; simp at hl
          · rfl
        have q : ((xs.length : Int) == 2) = false := by simp; omega
        have e0 : opCmp .ne (.int xs.length) (.int 2) = some true := by rw [ne_int, q]; rfl
        simp [gb1, isTy_tt, biV, e0, this]
    | _ => cases ht
def gb2 : C := (.seq (.ite (.or_ (.not_ (.isi (.var 3) .tuple)) (.or_ (.cmp .ne (.bi .len (.cons (.var 3) .nil)) (.int 5)) (.not_ (.isi (.idx (.var 3) (.int 4)) .bool)))) (.seq (.ret (.bl false))
    .skip) .skip)
    (.seq (.ite (.or_ (.not_ (.call 25 (.cons (.idx (.var 3) (.int 0)) (.cons (.int 0) (.cons (.var 1) .nil))))) (.or_ (.not_ (.call 25 (.cons (.idx (.var 3) (.int 1)) (.cons (.int 0) (.cons (.var 1) .nil))))) (.cmp .eq (.idx (.var 3) (.int 0)) (.idx (.var 3) (.int 1))))) (.seq (.ret (.bl false))
    .skip) .skip)
    (.seq (.ite (.or_ (.not_ (.call 25 (.cons (.idx (.var 3) (.int 2)) (.cons (.int 1) (.cons (.int 4) .nil))))) (.and_ (.cmp .isnot (.idx (.var 3) (.int 3)) .non) (.not_ (.call 25 (.cons (.idx (.var 3) (.int 3)) (.cons (.int 0) (.cons (.int 9) .nil))))))) (.seq (.ret (.bl false))
    .skip) .skip)
    .skip)))
theorem gb2_run (d : Nat) (v : PV) (m : Int) (x : PV) (x2 : Slot) (mu : List MO) {w n : Nat} (h : fine w (n + 1) x = true) :
    exK (cK (d + 1)) G gb2 ⟨[.val v, .val (.int m), x2, .val x], mu⟩ = if isLink m x then .nx ⟨[.val v, .val (.int m), x2, .val x], mu⟩ else .rt (.bl false) ⟨[.val v, .val (.int m), x2, .val x], mu⟩ := by
  cases ht : isTup x with
  | false =>
    have i := isTy_tup (fine_pl h)
    have vx := vp (fine_pl h)
    rw [ht] at i
    have : isLink m x = false := by
      cases x <;> first | rfl | (cases ht; done)
    simp [gb2, vx, i, this]
  | true =>
    cases x with
    | tup xs =>
      by_cases hl : xs.length = 5
      · match xs, hl with
        | [a, b, c, e, g], _ =>
          have hf := (fine_tup.mp h).2
          have p := fun x hx => fine_pl (hf x hx)
          have h2 := r_lwhole d a 0 m mu (p a (by simp))
          have h3 := r_lwhole d b 0 m mu (p b (by simp))
          have h4 := r_lwhole d c 1 4 mu (p c (by simp))
          have h5 := r_lwhole d e 0 9 mu (p e (by simp))
          have h6 := isTy_bool (p g (by simp))
          have h7 := isS_non (p e (by simp))
          have vg := vp (p g (by simp))
          have vd := vp (p e (by simp))
          have e1 : opCmp .isnot e .non = some (!(isNone e)) := by simp [opCmp, h7]
          cases hg : isBool g with
          | false => rw [hg] at h6; simp [gb2, isTy_tt, biV, ne_int, idxV, atI, ixN, isLink, hg, h6, vg]
          | true =>
            rw [hg] at h6
            cases ha : isWhole 0 m a with
            | false => rw [ha] at h2; simp [gb2, isTy_tt, biV, ne_int, idxV, atI, ixN, isLink, hg, h6, vg, ha, h2]
            | true =>
              rw [ha] at h2
              cases hb : isWhole 0 m b with
              | false => rw [hb] at h3; simp [gb2, isTy_tt, biV, ne_int, idxV, atI, ixN, isLink, hg, h6, vg, ha, h2, hb, h3]
              | true =>
                rw [hb] at h3
                obtain ⟨i, rfl, _⟩ := whole_int ha
                obtain ⟨j, rfl, _⟩ := whole_int hb
                have e0 : opCmp .eq (.int i) (.int j) = some ((PV.int i).eqv (.int j)) := by simp [opCmp, PV.flat]
                cases he : (PV.int i).eqv (.int j) with
                | true => rw [he] at e0; simp [gb2, isTy_tt, biV, ne_int, idxV, atI, ixN, isLink, hg, h6, vg, ha, h2, hb, h3, he, e0]
                | false =>
                  rw [he] at e0
                  cases hc : isWhole 1 4 c with
                  | false => rw [hc] at h4; simp [gb2, isTy_tt, biV, ne_int, idxV, atI, ixN, isLink, hg, h6, vg, ha, h2, hb, h3, he, e0, hc, h4]
                  | true =>
                    rw [hc] at h4
                    cases hn : isNone e with
                    | true => rw [hn] at e1; simp [gb2, isTy_tt, biV, ne_int, idxV, atI, ixN, isLink, hg, h6, vg, vd, ha, h2, hb, h3, he, e0, hc, h4, hn, e1]
                    | false =>
                      rw [hn] at e1
                      cases hq : isWhole 0 9 e <;> rw [hq] at h5 <;> simp [gb2, isTy_tt, biV, ne_int, idxV, atI, ixN, isLink, hg, h6, vg, vd, ha, h2, hb, h3, he, e0, hc, h4, hn, e1, hq, h5]
      · have : isLink m (.tup xs) = false := by
          unfold isLink
          split
          · rename_i e; cases e; simp at hl
          · rfl
        have q : ((xs.length : Int) == 5) = false := by simp; omega
        have e0 : opCmp .ne (.int xs.length) (.int 5) = some true := by rw [ne_int, q]; rfl
        simp [gb2, isTy_tt, biV, e0, this]
    | _ => cases ht
theorem r_good (d : Nat) (v : PV) (mu : List MO) {w n : Nat} (h : fine w (n + 3) v = true) (hw : w ≤ lim) : cK (d + 2) 27 [v] mu = .ok (.bl (isNet v)) mu := by
  show (exK (cK (d + 1)) G b_law_good_net ⟨[.val v, .un, .un, .un], mu⟩).done = _
  cases ht : isTup v with
  | false =>
    have i := isTy_tup (fine_pl h)
    have vx := vp (fine_pl h)
    rw [ht] at i
    have : isNet v = false := by
      cases v <;> first | rfl | (cases ht; done)
    simp [b_law_good_net, vx, i, this]
  | true =>
    cases v with
    | tup xs =>
      by_cases hl : xs.length = 2
      · match xs, hl with
        | [a, b], _ =>
          have hf := (fine_tup.mp h).2
          have va := vp (fine_pl (hf a (by simp)))
          have vb' := vp (fine_pl (hf b (by simp)))
          have ia := isTy_tup (fine_pl (hf a (by simp)))
          have ib := isTy_tup (fine_pl (hf b (by simp)))
          cases hta : isTup a with
          | false =>
            rw [hta] at ia
            have : isRow 1 3 a = false := by cases a <;> first | rfl | (cases hta; done)
            simp [b_law_good_net, isTy_tt, biV, ne_int, idxV, atI, ixN, va, ia, isNet, this]
          | true =>
            cases a with
            | tup ts =>
              have fa := fine_tup.mp (hf (.tup ts) (by simp))
              unfold b_law_good_net
              rw [seq_nx (s1 := ⟨[.val (.tup [.tup ts, b]), .un, .un, .un], mu⟩) (by simp [isTy_tt, biV, ne_int, idxV, atI, ixN])]
              rw [seq_nx (s1 := ⟨[.val (.tup [.tup ts, b]), .val (.int ts.length), .un, .un], mu⟩) (by simp [biV, idxV, atI, ixN, S.set])]
              by_cases h1 : (1 : Int) ≤ ts.length ∧ (ts.length : Int) ≤ 3
              · cases htb : isTup b with
                | false =>
                  rw [htb] at ib
                  have : isRow 1 5 b = false := by cases b <;> first | rfl | (cases htb; done)
                  have l1 : opCmp .le (.int 1) (.int ts.length) = some true := by simp [opCmp]; omega
                  have l2 : opCmp .le (.int ts.length) (.int 3) = some true := by simp [opCmp]; omega
                  simp [isTy_tt, biV, idxV, atI, ixN, vb', ib, isNet, this, l1, l2]
                | true =>
                  cases b with
                  | tup ls =>
                    have fb := fine_tup.mp (hf (.tup ls) (by simp))
                    have l1 : opCmp .le (.int 1) (.int ts.length) = some true := by simp [opCmp]; omega
                    have l2 : opCmp .le (.int ts.length) (.int 3) = some true := by simp [opCmp]; omega
                    by_cases h2 : (1 : Int) ≤ ls.length ∧ (ls.length : Int) ≤ 5
                    · have l3 : opCmp .le (.int 1) (.int ls.length) = some true := by simp [opCmp]; omega
                      have l4 : opCmp .le (.int ls.length) (.int 5) = some true := by simp [opCmp]; omega
                      rw [seq_nx (s1 := ⟨[.val (.tup [.tup ts, .tup ls]), .val (.int ts.length), .un, .un], mu⟩) (by simp [isTy_tt, biV, idxV, atI, ixN, l1, l2, l3, l4])]
                      have n1 : isRow 1 3 (.tup ts) = true := by simp [isRow]; omega
                      have n2 : isRow 1 5 (.tup ls) = true := by simp [isRow]; omega
                      have ltl : ts.length ≤ lim := by unfold lim; omega
                      have lll : ls.length ≤ lim := by unfold lim; omega
                      obtain ⟨s1, q1⟩ := for_ret (bind := bindP (.nm 2)) (body := exK (cK (d + 1)) G gb1) isTap (fun s => ∃ x2, s = ⟨[.val (.tup [.tup ts, .tup ls]), .val (.int ts.length), x2, .un], mu⟩) mu ts ⟨[.val (.tup [.tup ts, .tup ls]), .val (.int ts.length), .un, .un], mu⟩ ⟨.un, rfl⟩ (fun x hx s hs => by
                        obtain ⟨x2, rfl⟩ := hs
                        have := gb1_run d (.tup [.tup ts, .tup ls]) .non ts.length x .un mu (fa.2 x hx)
                        refine ⟨_, ⟨[.val (.tup [.tup ts, .tup ls]), .val (.int ts.length), .val x, .un], mu⟩, rfl, ?_⟩
                        cases hg : isTap x with
                        | true => rw [hg] at this; exact .inl ⟨rfl, this, .val x, rfl⟩
                        | false => rw [hg] at this; exact .inr ⟨rfl, this, rfl⟩)
                      have F1 := xx_for (cK (d + 1)) G (p := .nm 2) (it := .idx (.var 0) (.int 0)) (b := gb1) (s := ⟨[.val (.tup [.tup ts, .tup ls]), .val (.int ts.length), .un, .un], mu⟩) (s1 := ⟨[.val (.tup [.tup ts, .tup ls]), .val (.int ts.length), .un, .un], mu⟩) (xs := ts) (by simp [idxV, atI, ixN, seqItems, ltl])
                      rcases q1 with ⟨g1, e1, x2, rfl⟩ | ⟨g1, e1, hm⟩
                      · rw [e1] at F1; unfold gb1 at F1; rw [seq_nx F1]
                        obtain ⟨s2, q2⟩ := for_ret (bind := bindP (.nm 3)) (body := exK (cK (d + 1)) G gb2) (isLink ts.length) (fun s => ∃ x3, s = ⟨[.val (.tup [.tup ts, .tup ls]), .val (.int ts.length), x2, x3], mu⟩) mu ls ⟨[.val (.tup [.tup ts, .tup ls]), .val (.int ts.length), x2, .un], mu⟩ ⟨.un, rfl⟩ (fun x hx s hs => by
                          obtain ⟨x3, rfl⟩ := hs
                          have := gb2_run d (.tup [.tup ts, .tup ls]) ts.length x x2 mu (fb.2 x hx)
                          refine ⟨_, ⟨[.val (.tup [.tup ts, .tup ls]), .val (.int ts.length), x2, .val x], mu⟩, rfl, ?_⟩
                          cases hg : isLink ts.length x with
                          | true => rw [hg] at this; exact .inl ⟨rfl, this, .val x, rfl⟩
                          | false => rw [hg] at this; exact .inr ⟨rfl, this, rfl⟩)
                        have F2 := xx_for (cK (d + 1)) G (p := .nm 3) (it := .idx (.var 0) (.int 1)) (b := gb2) (s := ⟨[.val (.tup [.tup ts, .tup ls]), .val (.int ts.length), x2, .un], mu⟩) (s1 := ⟨[.val (.tup [.tup ts, .tup ls]), .val (.int ts.length), x2, .un], mu⟩) (xs := ls) (by simp [idxV, atI, ixN, seqItems, lll])
                        rcases q2 with ⟨g2, e2, x3, rfl⟩ | ⟨g2, e2, hm⟩
                        · rw [e2] at F2; unfold gb2 at F2; rw [seq_nx F2]
                          simp [isNet, n1, n2, items, g1, g2]
                        · rw [e2] at F2; unfold gb2 at F2; rw [xx_seq, F2]
                          simp [isNet, n1, n2, items, g1, g2, hm]
                      · rw [e1] at F1; unfold gb1 at F1; rw [xx_seq, F1]
                        simp [isNet, n1, n2, items, g1, hm]
                    · have : isRow 1 5 (.tup ls) = false := by
                        simp [isRow]; omega
                      by_cases h3 : (1 : Int) ≤ ls.length
                      · have l3 : opCmp .le (.int 1) (.int ls.length) = some true := by simp [opCmp]; omega
                        have l4 : opCmp .le (.int ls.length) (.int 5) = some false := by simp [opCmp]; omega
                        simp [isTy_tt, biV, idxV, atI, ixN, isNet, this, l1, l2, l3, l4]
                      · have l3 : opCmp .le (.int 1) (.int ls.length) = some false := by simp [opCmp]; omega
                        simp [isTy_tt, biV, idxV, atI, ixN, isNet, this, l1, l2, l3]
                  | _ => cases htb
              · have : isRow 1 3 (.tup ts) = false := by
                  simp [isRow]; omega
                by_cases h3 : (1 : Int) ≤ ts.length
                · have l3 : opCmp .le (.int 1) (.int ts.length) = some true := by simp [opCmp]; omega
                  have l4 : opCmp .le (.int ts.length) (.int 3) = some false := by simp [opCmp]; omega
                  simp [isTy_tt, biV, idxV, atI, ixN, isNet, this, l3, l4]
                · have l3 : opCmp .le (.int 1) (.int ts.length) = some false := by simp [opCmp]; omega
                  simp [isTy_tt, biV, idxV, atI, ixN, isNet, this, l3]
            | _ => cases hta
      · have : isNet (.tup xs) = false := by
          unfold isNet
          split
          · rename_i e; cases e; simp at hl
          · rfl
        have q : ((xs.length : Int) == 2) = false := by simp; omega
        have e0 : opCmp .ne (.int xs.length) (.int 2) = some true := by rw [ne_int, q]; rfl
        simp [b_law_good_net, isTy_tt, biV, e0, this]
    | _ => cases ht
end K01

set_option Elab.async false
set_option linter.all false
set_option maxRecDepth 100000
set_option maxHeartbeats 4000000
set_option autoImplicit false
set_option exponentiation.threshold 5000
/-! K1w: k01, the plain law: the law's own reading of rules; stands -/
namespace K01
open PySem PySem.Spec PyProof.Rows L2 AP
def gb3 : C := (.seq (.ite (.or_ (.not_ (.isi (.var 3) .tuple)) (.or_ (.cmp .ne (.bi .len (.cons (.var 3) .nil)) (.int 4)) (.not_ (.isi (.idx (.var 3) (.int 0)) .str)))) (.seq (.ret (.bl false))
    .skip) .skip)
    (.seq (.ite (.or_ (.not_ (.call 25 (.cons (.idx (.var 3) (.int 2)) (.cons (.int 0) (.cons (.var 2) .nil))))) (.not_ (.isi (.idx (.var 3) (.int 3)) .bool))) (.seq (.ret (.bl false))
    .skip) .skip)
    (.seq (.pat (.tup (.cons (.nm 5) (.cons (.nm 4) .nil))) (.ite (.cmp .in_ (.idx (.var 3) (.int 0)) (.lst (.cons (.str "dry") (.cons (.str "wet") .nil)))) (.tup (.cons (.int 1) (.cons (.bi .len (.cons (.idx (.var 0) (.int 0)) .nil)) .nil))) (.tup (.cons (.int 0) (.cons (.var 2) .nil)))))
    (.seq (.ite (.or_ (.cmp .notin (.idx (.var 3) (.int 0)) (.lst (.cons (.str "dry") (.cons (.str "wet") (.cons (.str "runs") (.cons (.str "still") .nil)))))) (.not_ (.call 25 (.cons (.idx (.var 3) (.int 1)) (.cons (.var 5) (.cons (.var 4) .nil)))))) (.seq (.ret (.bl false))
    .skip) .skip)
    .skip))))
theorem notin4 (x a b c d : Str) : opCmp .notin (.str x) (.lst [.str a, .str b, .str c, .str d]) = some (!(oneOf a b (.str x) || oneOf c d (.str x))) := by
  simp [opCmp, PV.isIn, oneOf, PV.flat, PV.flatL, PV.eqv, BEq.comm (a := a), BEq.comm (a := b), BEq.comm (a := c), BEq.comm (a := d), Bool.and_assoc]
theorem in2 (x a b : Str) : opCmp .in_ (.str x) (.lst [.str a, .str b]) = some (oneOf a b (.str x)) := in_t x a b
/-- the states in which a rule is read -/
def GS (ts ls : List PV) (o : PV) (mu : List MO) (s : S) : Prop := ∃ x3 x4 x5, s = ⟨[.val (ntv ts ls), .val o, .val (.int (ls.length - 1)), x3, x4, x5], mu⟩
theorem gb3_run (d : Nat) (ts ls : List PV) (o x : PV) (x4 x5 : Slot) (mu : List MO) {w n : Nat} (h : fine w (n + 1) x = true) :
    ∃ s', GS ts ls o mu s' ∧ exK (cK (d + 1)) G gb3 ⟨[.val (ntv ts ls), .val o, .val (.int (ls.length - 1)), .val x, x4, x5], mu⟩ = if isRule ts.length ls.length x then .nx s' else .rt (.bl false) s' := by
  have triv : ∀ x3 x4 x5, GS ts ls o mu ⟨[.val (ntv ts ls), .val o, .val (.int (ls.length - 1)), x3, x4, x5], mu⟩ := fun x3 x4 x5 => ⟨x3, x4, x5, rfl⟩
  cases ht : isTup x with
  | false =>
    have i := isTy_tup (fine_pl h)
    have vx := vp (fine_pl h)
    rw [ht] at i
    have : isRule ts.length ls.length x = false := by
      cases x <;> first | rfl | (cases ht; done)
    exact ⟨_, triv (.val x) x4 x5, by simp [gb3, vx, i, this]⟩
  | true =>
    cases x with
    | tup xs =>
      by_cases hl : xs.length = 4
      · match xs, hl with
        | [a, b, c, e], _ =>
          have hf := (fine_tup.mp h).2
          have p := fun x hx => fine_pl (hf x hx)
          have h2 := r_lwhole d c 0 (ls.length - 1) mu (p c (by simp))
          have h3 := r_lwhole d b 1 ts.length mu (p b (by simp))
          have h4 := r_lwhole d b 0 (ls.length - 1) mu (p b (by simp))
          have ya := isTy_str (p a (by simp))
          have ye := isTy_bool (p e (by simp))
          have va := vp (p a (by simp))
          have ve := vp (p e (by simp))
          cases ha : isStr a with
          | false => rw [ha] at ya; exact ⟨_, triv (.val (.tup [a, b, c, e])) x4 x5, by simp [gb3, isTy_tt, biV, ne_int, idxV, atI, ixN, isRule, ha, ya, va]⟩
          | true =>
            rw [ha] at ya
            cases hc : isWhole 0 (ls.length - 1 : Int) c with
            | false => rw [hc] at h2; exact ⟨_, triv (.val (.tup [a, b, c, e])) x4 x5, by simp [gb3, isTy_tt, biV, ne_int, idxV, atI, ixN, isRule, ha, ya, va, hc, h2]⟩
            | true =>
              rw [hc] at h2
              cases he : isBool e with
              | false => rw [he] at ye; exact ⟨_, triv (.val (.tup [a, b, c, e])) x4 x5, by simp [gb3, isTy_tt, biV, ne_int, idxV, atI, ixN, isRule, ha, ya, va, hc, h2, he, ye, ve]⟩
              | true =>
                rw [he] at ye
                cases a with
                | str z =>
                  have i1 := in2 z "dry" "wet"
                  have i2 := notin4 z "dry" "wet" "runs" "still"
                  cases o1 : oneOf "dry" "wet" (.str z) with
                  | true =>
                    rw [o1] at i1 i2
                    simp only [Bool.true_or, Bool.not_true] at i2
                    refine ⟨_, triv (.val (.tup [.str z, b, c, e])) (.val (.int ts.length)) (.val (.int 1)), ?_⟩
                    rw [show ntv ts ls = .tup [.tup ts, .tup ls] from rfl]
                    cases hq : isWhole 1 ts.length b <;> rw [hq] at h3 <;> simp [gb3, isTy_tt, biV, ne_int, idxV, atI, ixN, isRule, ha, ya, va, hc, h2, he, ye, ve, i1, i2, o1, lim, S.set, h3, hq]
                  | false =>
                    rw [o1] at i1 i2
                    refine ⟨_, triv (.val (.tup [.str z, b, c, e])) (.val (.int (ls.length - 1))) (.val (.int 0)), ?_⟩
                    rw [show ntv ts ls = .tup [.tup ts, .tup ls] from rfl]
                    cases o2 : oneOf "runs" "still" (.str z) with
                    | false =>
                      rw [o2] at i2
                      simp only [Bool.or_false, Bool.not_false] at i2
                      simp [gb3, isTy_tt, biV, ne_int, idxV, atI, ixN, isRule, ha, ya, va, hc, h2, he, ye, ve, i1, i2, o1, o2, lim, S.set]
                    | true =>
                      rw [o2] at i2
                      simp only [Bool.or_true, Bool.not_true] at i2
                      cases hq : isWhole 0 (ls.length - 1 : Int) b <;> rw [hq] at h4 <;> simp [gb3, isTy_tt, biV, ne_int, idxV, atI, ixN, isRule, ha, ya, va, hc, h2, he, ye, ve, i1, i2, o1, o2, lim, S.set, h4, hq]
                | _ => cases ha
      · have : isRule ts.length ls.length (.tup xs) = false := by
          unfold isRule
          split
          · rename_i e; cases e; simp at hl
          · rfl
        have q : ((xs.length : Int) == 4) = false := by simp; omega
        have e0 : opCmp .ne (.int xs.length) (.int 4) = some true := by rw [ne_int, q]; rfl
        exact ⟨_, triv (.val (.tup xs)) x4 x5, by simp [gb3, isTy_tt, biV, e0, this]⟩
    | _ => cases ht
theorem r_good_rules (d : Nat) (ts ls : List PV) (v : PV) (mu : List MO) {w n : Nat} (h : fine w (n + 2) v = true) (hw : w ≤ lim) : cK (d + 2) 28 [ntv ts ls, v] mu = .ok (.bl (isRules ts.length ls.length v)) mu := by
  show (exK (cK (d + 1)) G b_law_good_rules ⟨[.val (ntv ts ls), .val v, .un, .un, .un, .un], mu⟩).done = _
  cases ht : isTup v with
  | false =>
    have i := isTy_tup (fine_pl h)
    have vx := vp (fine_pl h)
    rw [ht] at i
    have : isRow 0 4 v = false := by
      cases v <;> first | rfl | (cases ht; done)
    simp [b_law_good_rules, vx, i, this, isRules]
  | true =>
    cases v with
    | tup xs =>
      have fv := fine_tup.mp h
      have hl : xs.length ≤ lim := by omega
      have g1 : opCmp .gt (.int xs.length) (.int 4) = some (decide ((4 : Int) < xs.length)) := rfl
      by_cases h4 : (4 : Int) < xs.length
      · have : isRow 0 4 (.tup xs) = false := by simp [isRow]; omega
        simp only [h4, decide_true] at g1
        simp [b_law_good_rules, isTy_tt, biV, g1, this, isRules]
      · have n1 : isRow 0 4 (.tup xs) = true := by simp [isRow]; omega
        simp only [h4, decide_false] at g1
        unfold b_law_good_rules
        rw [seq_nx (s1 := ⟨[.val (ntv ts ls), .val (.tup xs), .un, .un, .un, .un], mu⟩) (by simp [isTy_tt, biV, g1])]
        rw [seq_nx (s1 := ⟨[.val (ntv ts ls), .val (.tup xs), .val (.int (ls.length - 1)), .un, .un, .un], mu⟩) (by simp [vnt, idx1, biV, op_sub, S.set])]
        obtain ⟨s1, q1⟩ := for_ret (bind := bindP (.nm 3)) (body := exK (cK (d + 1)) G gb3) (isRule ts.length ls.length) (GS ts ls (.tup xs) mu) mu xs ⟨[.val (ntv ts ls), .val (.tup xs), .val (.int (ls.length - 1)), .un, .un, .un], mu⟩ ⟨_, _, _, rfl⟩ (fun x hx s hs => by
          obtain ⟨x3, x4, x5, rfl⟩ := hs
          obtain ⟨s', hq, e⟩ := gb3_run d ts ls (.tup xs) x x4 x5 mu (fv.2 x hx)
          refine ⟨_, s', rfl, ?_⟩
          cases hg : isRule ts.length ls.length x with
          | true => rw [hg] at e; exact .inl ⟨rfl, e, hq⟩
          | false =>
            rw [hg] at e
            obtain ⟨_, _, _, rfl⟩ := hq
            exact .inr ⟨rfl, e, rfl⟩)
        have F1 := xx_for (cK (d + 1)) G (p := .nm 3) (it := .var 1) (b := gb3) (s := ⟨[.val (ntv ts ls), .val (.tup xs), .val (.int (ls.length - 1)), .un, .un, .un], mu⟩) (s1 := ⟨[.val (ntv ts ls), .val (.tup xs), .val (.int (ls.length - 1)), .un, .un, .un], mu⟩) (xs := xs) (by simp [seqItems, hl])
        rcases q1 with ⟨g1, e1, x3, x4, x5, rfl⟩ | ⟨g1, e1, hm⟩
        · rw [e1] at F1; unfold gb3 at F1; rw [seq_nx F1]
          simp [isRules, n1, items, g1]
        · rw [e1] at F1; unfold gb3 at F1; rw [xx_seq, F1]
          simp [isRules, n1, items, g1, hm]
    | _ => cases ht
end K01

set_option Elab.async false
set_option linter.all false
set_option maxRecDepth 100000
set_option maxHeartbeats 4000000
set_option autoImplicit false
set_option exponentiation.threshold 5000
/-! K1x: k01, the plain law: stands -/
namespace K01
open PySem PySem.Spec PyProof.Rows L2 AP
/-- a comprehension with any target whose turns change nothing -/
theorem lc_runG {bind : PV → S → Option S} {vs : List Nat} {c : S → R Bool} {f : S → R PV} {g : PV → PV} {s : S} (hc : ∀ s, c s = .ok true s) : ∀ (xs : List PV), (∀ x ∈ xs, ∃ s2, bind x s = some s2 ∧ f s2 = .ok (g x) s2 ∧ s2.wipe vs = s) → lcLoop bind vs c f xs s = .ok (xs.map g) s
  | [], _ => rfl
  | x :: xs, hf => by
    obtain ⟨s2, e1, e2, e3⟩ := hf x List.mem_cons_self
    unfold lcLoop
    rw [e1]
    dsimp only
    rw [hc]
    dsimp only
    rw [e2]
    dsimp only
    rw [e3, lc_runG hc xs (fun y hy => hf y (List.mem_cons_of_mem _ hy))]
    rfl
theorem lcG {cf : Nat → List PV → List MO → RC} {G : Gx} {elt it : AP.E} {p : Pat} {g : PV → PV} {s s1 : S} {xs : List PV} (hit : (evK cf G it).i s = .ok xs s1) (no : notOwn s1.sl p.slots = true) (hw : s1.wipe p.slots = s1) (hr : restore s1.sl p.slots s1 = s1) (hf : ∀ x ∈ xs, ∃ s2, bindP p x s1 = some s2 ∧ (evK cf G elt).e s2 = .ok (g x) s2 ∧ s2.wipe p.slots = s1) :
    (evK cf G (.lc elt p it .omit)).e s = .ok (.lst (xs.map g)) s1 := by
  rw [evK]
  simp only [hit, R.bind]
  rw [if_pos no, hw]
  rw [show lcLoop (bindP p) p.slots (evK cf G .omit).c (evK cf G elt).e xs s1 = _ from lc_runG (fun s => rfl) xs hf]
  simp only [R.bind, hr]
mutual
theorem eqv_refl {w : Nat} : ∀ {n : Nat} (v : PV), fine w n v = true → v.eqv v = true
  | n, .tup xs, h => by
    cases n with
    | zero => simp [fine] at h
    | succ n =>
      simp only [fine, Bool.and_eq_true] at h
      simp only [PV.eqv]
      exact eqvL_refl xs h.2
  | n, .lst xs, h => by
    cases n with
    | zero => simp [fine] at h
    | succ n =>
      simp only [fine, Bool.and_eq_true] at h
      simp only [PV.eqv]
      exact eqvL_refl xs h.2
  | _, .obj _, h => by simp [fine] at h
  | _, .scr _, h => by simp [fine] at h
  | _, .non, _ => by simp [PV.eqv]
  | _, .bl _, _ => by simp [PV.eqv]
  | _, .int _, _ => by simp [PV.eqv]
  | _, .str _, _ => by simp [PV.eqv]
theorem eqvL_refl {w : Nat} : ∀ {n : Nat} (v : List PV), fineL w n v = true → PV.eqvL v v = true
  | _, [], _ => by simp [PV.eqvL]
  | n, x :: xs, h => by
    simp only [fineL, Bool.and_eq_true] at h
    simp only [PV.eqvL, Bool.and_eq_true]
    exact ⟨eqv_refl x h.1, eqvL_refl xs h.2⟩
end
/-- a link's valve, turned; the link with it -/
def nt : PV → PV
  | .tup [_, _, _, _, .bl g] => .bl (!g)
  | _ => .non
def fl : PV → PV
  | .tup [a, b, c, e, .bl g] => .tup [a, b, c, e, .bl (!g)]
  | _ => .non
theorem Lnk.nt {m : Int} {v : PV} (h : Lnk m v) : ∃ a b c e g, v = .tup [a, b, c, e, .bl g] := by
  obtain ⟨a, b, c, e, g, rfl, _⟩ := h
  exact ⟨_, _, _, _, _, rfl⟩
theorem zip_nt : ∀ ls : List PV, zipL ls (ls.map nt) = ls.map fun l => .tup [l, nt l]
  | [] => rfl
  | l :: ls => by simp [zipL, zip_nt ls]
theorem cut4 (a b c e g : PV) : cut [a, b, c, e, g] none (some 4) = [a, b, c, e] := rfl
theorem r_at (d : Nat) (ts ls : List PV) (mu : List MO) (hn : Net ts ls) : cK (d + 1) 13 [ntv ts ls, .tup (ls.map nt)] mu = .ok (ntv ts (ls.map fl)) mu := by
  obtain ⟨_, _, ⟨l1, l2⟩, hl⟩ := hn
  have hlim : ls.length ≤ lim := by unfold lim; omega
  have q := lcG (cf := cK d) (G := G) (elt := .bin .add (.slice (.var 3) .omit (.int 4)) (.tup (.cons (.var 2) .nil))) (p := .tup (.cons (.nm 3) (.cons (.nm 2) .nil))) (it := .zip (.idx (.var 0) (.int 1)) (.var 1)) (g := fun x => match x with
    | .tup [l, _] => fl l
    | _ => .non) (s := ⟨[.val (ntv ts ls), .val (.tup (ls.map nt)), .un, .un], mu⟩) (s1 := ⟨[.val (ntv ts ls), .val (.tup (ls.map nt)), .un, .un], mu⟩) (xs := ls.map fun l => .tup [l, nt l]) (by simp [vnt, idx1, hlim, zip_nt]) rfl rfl rfl (fun x hx => by
      obtain ⟨l, hl', rfl⟩ := List.mem_map.mp hx
      obtain ⟨a, b, c, e, g, rfl⟩ := (hl l hl').nt
      refine ⟨⟨[.val (ntv ts ls), .val (.tup (ls.map nt)), .val (.bl (!g)), .val (.tup [a, b, c, e, .bl g])], mu⟩, rfl, ?_, rfl⟩
      simp [sliceV, cut4, opBin, lim, fl])
  rw [List.map_map, show ((fun x => match x with
    | PV.tup [l, _] => fl l
    | _ => PV.non) ∘ fun l => PV.tup [l, nt l]) = fl from rfl] at q
  show (exK (cK d) G bat_stand ⟨[.val (ntv ts ls), .val (.tup (ls.map nt)), .un, .un], mu⟩).done = .ok (.tup [.tup ts, .tup (ls.map fl)]) mu
  simp [bat_stand, vnt, idx0, q, biV, lim]
def isStand (L : Nat) (v : PV) : Bool := isRow L L v && (items v).all isBool
theorem r_with (d : Nat) (ts ls : List PV) (v : PV) (mu : List MO) {w n : Nat} (hn : Net ts ls) (h : fine w (n + 1) v = true) (hw : w ≤ lim) : cK (d + 6) 14 [ntv ts ls, v] mu = if isStand ls.length v then cK (d + 5) 13 [ntv ts ls, v] mu else .exc 1 mu := by
  have h0 := r_need d (ntv ts ls) mu (w := 5) (n := 0) hn.fine (by decide)
  rw [hn.is, if_pos rfl] at h0
  have h1 := r_row (d + 4) v ls.length ls.length mu (fine_pl h)
  show (exK (cK (d + 5)) G bwith_stand ⟨[.val (ntv ts ls), .val v, .un, .un], mu⟩).done = _
  cases hr : isRow ls.length ls.length v with
  | false =>
    rw [hr] at h1
    simp [bwith_stand, h0, vnt, idx1, biV, S.set, h1, isStand, hr]
  | true =>
    rw [hr] at h1
    obtain ⟨xs, rfl⟩ := row_tup hr
    have fa := fine_tup.mp h
    have q1 := lcE (cf := cK (d + 5)) (G := G) (elt := .isi (.var 3) .bool) (it := .var 1) (i := 3) (g := fun x => .bl (isBool x)) (s := ⟨[.val (ntv ts ls), .val (.tup xs), .val (.int ls.length), .un], mu⟩) (s1 := ⟨[.val (ntv ts ls), .val (.tup xs), .val (.int ls.length), .un], mu⟩) (xs := xs) (by simp [seqItems]; omega) rfl (fun x hx => by
        have := isTy_bool (fine_pl (fa.2 x hx))
        have v := vp (fine_pl (fa.2 x hx))
        simp [S.set, this, v])
    cases hT : xs.all isBool with
    | false => simp [bwith_stand, h0, vnt, idx1, biV, S.set, h1, isStand, hr, q1, bls_map, hT, items, all_bls]
    | true =>
      simp [bwith_stand, h0, vnt, idx1, biV, S.set, h1, isStand, hr, q1, bls_map, hT, items, all_bls]
      cases cK (d + 5) 13 [ntv ts ls, .tup xs] mu <;> rfl
end K01

set_option Elab.async false
set_option linter.all false
set_option maxRecDepth 100000
set_option maxHeartbeats 4000000
set_option autoImplicit false
set_option exponentiation.threshold 5000
/-! K1y: k01, the plain law: _law_stands_right -/
namespace K01
open PySem PySem.Spec PyProof.Rows L2 AP
theorem Lnk.fl {m : Int} {v : PV} (h : Lnk m v) : Lnk m (fl v) := by
  obtain ⟨a, b, c, e, g, rfl, h⟩ := h
  exact ⟨a, b, c, e, !g, rfl, h⟩
theorem Net.fl {ts ls : List PV} (h : Net ts ls) : Net ts (ls.map K01.fl) := by
  obtain ⟨h1, h2, h3, h4⟩ := h
  refine ⟨h1, h2, by simpa using h3, fun x hx => ?_⟩
  obtain ⟨y, hy, rfl⟩ := List.mem_map.mp hx
  exact (h4 y hy).fl
theorem ne_self {ts ls : List PV} (h : Net ts ls) : opCmp .ne (ntv ts ls) (ntv ts ls) = some false := by
  have h1 := fine_flat _ (fine_mono (Nat.le_refl 5) (ntv ts ls) (show 3 ≤ deep by decide) h.fine)
  simp [opCmp, h1, eqv_refl _ h.fine]
theorem nt_bool {m : Int} {v : PV} (h : Lnk m v) : ∃ g, nt v = .bl g := by
  obtain ⟨a, b, c, e, g, rfl⟩ := h.nt
  exact ⟨!g, rfl⟩
def nti (v : PV) : PV := match nt v with
  | .bl true => .int 1
  | .bl false => .int 0
  | _ => .non
def sb : C := (.seq (.ite (.cmp .ne (.lam 0 (.call 14 (.cons (.var 0) (.cons (.var 5) .nil)))) (.str "number value")) (.seq (.ret (.bl false))
    .skip) .skip)
    .skip)
def SS (ts ls : List PV) (mu : List MO) (rest : List PV) (s : S) : Prop := (∃ x5, s = ⟨[.val (ntv ts ls), .un, .val (.tup (ls.map nt)), .val (ntv ts (ls.map K01.fl)), .un, x5], mu⟩) ∧ ∀ y ∈ rest, fine 6 1 y = true ∧ isStand ls.length y = false
theorem sb_turn (d : Nat) (ts ls : List PV) (mu : List MO) (hn : Net ts ls) (x : PV) (r : List PV) (s : S) (h : SS ts ls mu (x :: r) s) : ∃ s1 s2, bindP (.nm 5) x s = some s1 ∧ exK (cK (d + 6)) G sb s1 = .nx s2 ∧ SS ts ls mu r s2 := by
  obtain ⟨⟨x5, rfl⟩, hr⟩ := h
  obtain ⟨hf, hs⟩ := hr x List.mem_cons_self
  have e := r_with d ts ls x mu hn hf (by decide)
  rw [hs] at e
  simp only [Bool.false_eq_true, if_false] at e
  refine ⟨⟨[.val (ntv ts ls), .un, .val (.tup (ls.map nt)), .val (ntv ts (ls.map K01.fl)), .un, .val x], mu⟩, ⟨[.val (ntv ts ls), .un, .val (.tup (ls.map nt)), .val (ntv ts (ls.map K01.fl)), .un, .val x], mu⟩, rfl, ?_, ⟨_, rfl⟩, fun y hy => hr y (List.mem_cons_of_mem _ hy)⟩
  simp [sb, e, G, hexc, opCmp, PV.flat, PV.eqv]
theorem odd_fine {x : PV} {xs : List PV} (hl : xs.length ≤ 6) (h : ∀ y ∈ xs, fine 6 0 y = true) (e : x = .tup xs ∨ x = .lst xs) : fine 6 1 x = true := by
  rcases e with rfl | rfl
  · exact fine_tup.mpr ⟨hl, h⟩
  · exact fine_lst.mpr ⟨hl, h⟩
theorem r_stands (d : Nat) (ts ls : List PV) (mu : List MO) (hn : Net ts ls) : cK (d + 7) 29 [ntv ts ls] mu = .ok (.bl true) mu := by
  have hn' := hn
  obtain ⟨_, _, ⟨l1, l2⟩, hl⟩ := hn'
  have hlim : ls.length ≤ lim := by unfold lim; omega
  have q1 := lcE (cf := cK (d + 6)) (G := G) (elt := .not_ (.idx (.var 1) (.int 4))) (it := .idx (.var 0) (.int 1)) (i := 1) (g := nt) (s := ⟨[.val (ntv ts ls), .un, .un, .un, .un, .un], mu⟩) (s1 := ⟨[.val (ntv ts ls), .un, .un, .un, .un, .un], mu⟩) (xs := ls) (by simp [vnt, idx1, seqItems, hlim]) rfl (fun x hx => by
    obtain ⟨a, b, c, e, g, rfl⟩ := (hl x hx).nt
    simp [S.set, idxV, atI, ixN, nt])
  have q2 := lcE (cf := cK (d + 6)) (G := G) (elt := .bin .add (.slice (.var 1) .omit (.int 4)) (.tup (.cons (.not_ (.idx (.var 1) (.int 4))) .nil))) (it := .idx (.var 0) (.int 1)) (i := 1) (g := K01.fl) (s := ⟨[.val (ntv ts ls), .un, .val (.tup (ls.map nt)), .un, .un, .un], mu⟩) (s1 := ⟨[.val (ntv ts ls), .un, .val (.tup (ls.map nt)), .un, .un, .un], mu⟩) (xs := ls) (by simp [vnt, idx1, seqItems, hlim]) rfl (fun x hx => by
    obtain ⟨a, b, c, e, g, rfl⟩ := (hl x hx).nt
    simp [S.set, idxV, atI, ixN, sliceV, cut4, opBin, lim, K01.fl])
  have hb : ∀ x ∈ ls.map nt, ∃ g, x = .bl g := fun x hx => by
    obtain ⟨l, hl', rfl⟩ := List.mem_map.mp hx
    exact nt_bool (hl l hl')
  have hbf : ∀ x ∈ ls.map nt, fine 6 0 x = true := fun x hx => by
    obtain ⟨g, rfl⟩ := hb x hx
    rfl
  have hs : isStand ls.length (.tup (ls.map nt)) = true := by
    simp only [isStand, isRow, items, List.length_map, Bool.and_eq_true, decide_eq_true_eq, List.all_eq_true]
    exact ⟨⟨by omega, by omega⟩, fun x hx => by obtain ⟨g, rfl⟩ := hb x hx; rfl⟩
  have w1 := r_with d ts ls (.tup (ls.map nt)) mu (w := 6) (n := 0) hn (fine_tup.mpr ⟨by simp; omega, hbf⟩) (by decide)
  rw [if_pos hs, r_at (d + 4) ts ls mu hn] at w1
  have q3 := lcE (cf := cK (d + 6)) (G := G) (elt := .bi .int (.cons (.var 4) .nil)) (it := .var 2) (i := 4) (g := fun x => match x with
    | .bl true => .int 1
    | .bl false => .int 0
    | _ => .non) (s := ⟨[.val (ntv ts ls), .un, .val (.tup (ls.map nt)), .val (ntv ts (ls.map K01.fl)), .un, .un], mu⟩) (s1 := ⟨[.val (ntv ts ls), .un, .val (.tup (ls.map nt)), .val (ntv ts (ls.map K01.fl)), .un, .un], mu⟩) (xs := ls.map nt) (by simp [seqItems, hlim]) rfl (fun x hx => by
      obtain ⟨g, rfl⟩ := hb x hx
      cases g <;> simp [S.set, biV])
  have a3 : opBin .add (.tup (ls.map nt)) (.tup [.bl true]) = some (.tup (ls.map nt ++ [.bl true])) := by
    have : (ls.map nt).length + 1 ≤ lim := by simp; unfold lim; omega
    simp only [opBin, List.length_cons, List.length_nil]
    rw [if_pos (by simpa using this)]
  generalize hq : ((ls.map nt).map fun x => match x with
    | .bl true => PV.int 1
    | .bl false => .int 0
    | _ => .non) = qs at q3
  have hq5 : ∀ y ∈ qs, y = .int 1 ∨ y = .int 0 := fun y hy => by
    subst hq
    obtain ⟨x, hx, rfl⟩ := List.mem_map.mp hy
    obtain ⟨g, rfl⟩ := hb x hx
    cases g
    · exact .inr rfl
    · exact .inl rfl
  have hql : qs.length = ls.length := by subst hq; simp
  have c1 := cut_suf (ls.map nt) 1 (by simp; omega)
  have L := for_inv (bind := bindP (.nm 5)) (body := exK (cK (d + 6)) G sb) [.non, .tup (cut (ls.map nt) (some 1) none), .tup (ls.map nt ++ [.bl true]), .lst (ls.map nt), .tup qs] (SS ts ls mu) (sb_turn d ts ls mu hn) ⟨[.val (ntv ts ls), .un, .val (.tup (ls.map nt)), .val (ntv ts (ls.map K01.fl)), .un, .un], mu⟩ ⟨⟨.un, rfl⟩, fun y hy => by
    simp only [List.mem_cons, List.not_mem_nil, or_false] at hy
    rcases hy with rfl | rfl | rfl | rfl | rfl
    · exact ⟨rfl, rfl⟩
    · refine ⟨odd_fine (by have := cut_len (ls.map nt) (some 1) none; simp at this; omega) (fun y hy => hbf y (cut_mem hy)) (.inl rfl), ?_⟩
      have : isRow ls.length ls.length (.tup (cut (ls.map nt) (some 1) none)) = false := by
        simp at c1
        simp [isRow, c1]; omega
      simp [isStand, this]
    · refine ⟨odd_fine (by simp; omega) (fun y hy => ?_) (.inl rfl), ?_⟩
      · rcases List.mem_append.mp hy with hy | hy
        · exact hbf y hy
        · simp at hy; subst hy; rfl
      · have : isRow ls.length ls.length (.tup (ls.map nt ++ [.bl true])) = false := by
          simp [isRow]; omega
        simp [isStand, this]
    · exact ⟨odd_fine (by simp; omega) hbf (.inr rfl), rfl⟩
    · refine ⟨odd_fine (by omega) (fun y hy => by rcases hq5 y hy with rfl | rfl <;> rfl) (.inl rfl), ?_⟩
      have : qs.all isBool = false := by
        match qs, hql, hq5 with
        | [], h, _ => simp at h; omega
        | y :: r, _, h => rcases h y List.mem_cons_self with rfl | rfl <;> rfl
      simp [isStand, items, this]⟩
  obtain ⟨s', L, ⟨x5, rfl⟩, _⟩ := L
  have F := xx_for (cK (d + 6)) G (p := .nm 5) (it := .lst (.cons .non (.cons (.slice (.var 2) (.int 1) .omit) (.cons (.bin .add (.var 2) (.tup (.cons (.bl true) .nil))) (.cons (.bi .list (.cons (.var 2) .nil)) (.cons (.bi .tuple (.cons (.lc (.bi .int (.cons (.var 4) .nil)) (.nm 4) (.var 2) .omit) .nil)) .nil)))))) (b := sb) (s := ⟨[.val (ntv ts ls), .un, .val (.tup (ls.map nt)), .val (ntv ts (ls.map K01.fl)), .un, .un], mu⟩) (s1 := ⟨[.val (ntv ts ls), .un, .val (.tup (ls.map nt)), .val (ntv ts (ls.map K01.fl)), .un, .un], mu⟩) (xs := [.non, .tup (cut (ls.map nt) (some 1) none), .tup (ls.map nt ++ [.bl true]), .lst (ls.map nt), .tup qs]) (by simp [sliceV, a3, biV, q3, lim, seqItems])
  rw [L] at F
  unfold sb at F
  show (exK (cK (d + 6)) G b_law_stands_right ⟨[.val (ntv ts ls), .un, .un, .un, .un, .un], mu⟩).done = _
  unfold b_law_stands_right
  rw [seq_nx (s1 := ⟨[.val (ntv ts ls), .un, .val (.tup (ls.map nt)), .un, .un, .un], mu⟩) (by simp [q1, biV, S.set])]
  rw [seq_nx (s1 := ⟨[.val (ntv ts ls), .un, .val (.tup (ls.map nt)), .val (ntv ts (ls.map K01.fl)), .un, .un], mu⟩) (by simp [q2, vnt, idx0, biV, S.set, lim, show PV.tup [.tup ts, .tup (ls.map K01.fl)] = ntv ts (ls.map K01.fl) from rfl])]
  rw [seq_nx (s1 := ⟨[.val (ntv ts ls), .un, .val (.tup (ls.map nt)), .val (ntv ts (ls.map K01.fl)), .un, .un], mu⟩) (by simp [w1, vnt, ne_self hn.fl])]
  rw [seq_nx F]
  simp
end K01

set_option Elab.async false
set_option linter.all false
set_option maxRecDepth 100000
set_option maxHeartbeats 4000000
set_option autoImplicit false
set_option exponentiation.threshold 5000
/-! K1z: k01, the plain law: the law's own loops -/
namespace K01
open PySem PySem.Spec PyProof.Rows L2 AP
abbrev LS (ns : List Int) (k : Int) (b : Nat) (ts ls rs : List PV) (o v x7 x8 x9 x10 : Slot) (mu : List MO) : S := ⟨[.val (.scr ns), .val (.int k), .val (.obj b), .val (ntv ts ls), .val (.tup rs), o, v, x7, x8, x9, x10], mu⟩
def tb : C := (.seq (.asg 6 (.call 26 (.cons (.var 2) (.cons (.ite (.cmp .eq (.bin .mod (.var 7) (.int 3)) (.int 0)) (.var 3) (.var 6)) .nil))))
    (.seq (.asg 5 (.call 26 (.cons (.var 2) (.cons (.ite (.cmp .eq (.bin .mod (.var 7) (.int 3)) (.int 0)) (.var 4) (.var 5)) .nil))))
    (.seq (.asg 8 (.call 27 (.cons (.var 6) .nil)))
    (.seq (.ite (.not_ (.call 24 (.cons (.call 5 (.cons (.var 6) .nil)) (.cons (.var 8) .nil)))) (.seq (.ret (.bl false))
    .skip) .skip)
    (.seq (.ite (.not_ (.call 24 (.cons (.call 12 (.cons (.var 3) (.cons (.var 5) .nil))) (.cons (.call 28 (.cons (.var 3) (.cons (.var 5) .nil))) .nil)))) (.seq (.ret (.bl false))
    .skip) .skip)
    (.seq (.ite (.and_ (.not_ (.var 8)) (.cmp .ne (.lam 0 (.call 12 (.cons (.var 6) (.cons (.tup .nil) .nil)))) (.str "net value"))) (.seq (.ret (.bl false))
    .skip) .skip)
    (.seq (.ite (.and_ (.not_ (.var 8)) (.cmp .ne (.lam 0 (.call 14 (.cons (.var 6) (.cons .non .nil)))) (.str "net value"))) (.seq (.ret (.bl false))
    .skip) .skip)
    .skip)))))))
/-- behind the choice of what is spoilt -/
def tb2 : C := tailC (tailC tb)
theorem tb2_run (d : Nat) (ns : List Int) (k : Int) (b : Nat) (ts ls rs : List PV) (o v : PV) (x7 x8 x9 x10 : Slot) (mu : List MO) (hn : Net ts ls) {w n : Nat} (hv : fine w (n + 3) v = true) (ho : fine w (n + 2) o = true) (hw : w ≤ lim) :
    exK (cK (d + 6)) G tb2 (LS ns k b ts ls rs (.val o) (.val v) x7 x8 x9 x10 mu) = .nx (LS ns k b ts ls rs (.val o) (.val v) x7 (.val (.bl (isNet v))) x9 x10 mu) := by
  have g1 := r_good (d + 4) v mu hv hw
  have g2 := r_net (d + 2) v mu hv hw
  have g3 := r_truly (d + 5) (isNet v) (isNet v) mu
  have g4 := r_are d ts ls o mu (w := max 5 w) (n := n) hn.is (fine_mono (Nat.le_max_left 5 w) _ (by omega) hn.fine) (fine_mono (Nat.le_max_right 5 w) _ (Nat.le_refl _) ho) (by unfold lim at *; omega)
  have g5 := r_good_rules (d + 4) ts ls o mu ho hw
  have g6 := r_truly (d + 5) (isRules ts.length ls.length o) (isRules ts.length ls.length o) mu
  show exK (cK (d + 6)) G (.seq _ (.seq _ (.seq _ (.seq _ (.seq _ .skip))))) _ = _
  rw [seq_nx (s1 := LS ns k b ts ls rs (.val o) (.val v) x7 (.val (.bl (isNet v))) x9 x10 mu) (by simp [g1, S.set])]
  rw [seq_nx (s1 := LS ns k b ts ls rs (.val o) (.val v) x7 (.val (.bl (isNet v))) x9 x10 mu) (by simp [g2, g3])]
  rw [show (.tup [.tup ts, .tup ls] : PV) = ntv ts ls from rfl] at g4
  rw [seq_nx (s1 := LS ns k b ts ls rs (.val o) (.val v) x7 (.val (.bl (isNet v))) x9 x10 mu) (by simp [g4, g5, g6])]
  cases hg : isNet v with
  | true => simp
  | false =>
    have a1 := r_are_no d v (.tup []) mu hg hv hw
    have a2 := r_with_no d v .non mu hg hv hw
    simp [a1, a2, G, hexc, opCmp, PV.flat, PV.eqv, lim]
/-- the states of the loop that spoils -/
def TP (ns : List Int) (k : Int) (b : Nat) (ts ls rs : List PV) (rest : List PV) (s : S) : Prop := ∃ (o v : PV) (x7 x8 x9 x10 : Slot) (mu : List MO) (t : Nat), s = LS ns k b ts ls rs (.val o) (.val v) x7 x8 x9 x10 mu ∧ Bag b mu ∧ t ≤ 18 ∧ rest = intL t (18 - t) ∧ (t % 3 ≠ 0 → fine (5 + t % 3) (3 + t % 3) v = true ∧ fine (5 + t % 3) (2 + t % 3) o = true)
theorem intL_cons (lo : Int) (n : Nat) : intL lo (n + 1) = .int lo :: intL (lo + 1) n := by
  unfold intL
  rw [List.range_succ_eq_map, List.map_cons, List.map_map]
  congr 1
  · simp
  · apply List.map_congr_left
    intro a _
    simp only [Function.comp]
    congr 1
    omega
theorem mod3 (t : Nat) : opCmp .eq (.int ((t : Int).fmod 3)) (.int 0) = some (decide (t % 3 = 0)) := by
  have : (t : Int).fmod 3 = ((t % 3 : Nat) : Int) := by
    rw [Int.fmod_eq_emod_of_nonneg _ (by decide)]; rfl
  simp only [opCmp, PV.flat, PV.eqv, this]
  by_cases h : t % 3 = 0 <;> simp [h] <;> omega
theorem tb_turn (d : Nat) (ns : List Int) (k : Int) (b : Nat) (ts ls rs : List PV) (hn : Net ts ls) (hr : Ruls ts.length ls.length rs) (x : PV) (r : List PV) (s : S) (h : TP ns k b ts ls rs (x :: r) s) : ∃ s1 s2, bindP (.nm 7) x s = some s1 ∧ exK (cK (d + 14)) G tb s1 = .nx s2 ∧ TP ns k b ts ls rs r s2 := by
  obtain ⟨o, v, x7, x8, x9, x10, mu, t, rfl, hb, ht, he, hf⟩ := h
  have ht' : t < 18 := by
    rcases Nat.lt_or_ge t 18 with h | h
    · exact h
    · rw [show 18 - t = 0 by omega] at he; cases he
  obtain ⟨m, hm⟩ : ∃ m, 18 - t = m + 1 := ⟨17 - t, by omega⟩
  rw [hm, intL_cons] at he
  cases he
  have om := op_mod (a := (t : Int)) (b := 3) (by decide)
  have em := mod3 t
  have hrest : intL ((t : Int) + 1) m = intL ((t + 1 : Nat) : Int) (18 - (t + 1)) := by
    rw [show m = 18 - (t + 1) by omega]; rfl
  have key : ∀ (v0 o0 : PV), (if decide (t % 3 = 0) = true then ntv ts ls else v) = v0 → (if decide (t % 3 = 0) = true then .tup rs else o) = o0 → fine (5 + t % 3) (3 + t % 3) v0 = true → fine (5 + t % 3) (2 + t % 3) o0 = true → ∃ s2, exK (cK (d + 14)) G tb (LS ns k b ts ls rs (.val o) (.val v) (.val (.int t)) x8 x9 x10 mu) = .nx s2 ∧ TP ns k b ts ls rs (intL ((t : Int) + 1) m) s2 := by
    intro v0 o0 e0 e0' fv fo
    have hq : t % 3 ≤ 2 := by omega
    have hq2 : (t + 1) % 3 ≠ 0 → (t + 1) % 3 = t % 3 + 1 := by omega
    generalize t % 3 = q at fv fo hq hq2
    obtain ⟨v1, m1, e1, f1, hb1⟩ := r_spoilt (3 + q) (d + 9 - q) b v0 mu (5 + q) fv (by omega) (by omega) (by omega) hb
    obtain ⟨o1, m2, e2, f2, hb2⟩ := r_spoilt (2 + q) (d + 10 - q) b o0 m1 (5 + q) fo (by omega) (by omega) (by omega) hb1
    rw [show d + 9 - q + (3 + q) + 2 = d + 14 by omega] at e1
    rw [show d + 10 - q + (2 + q) + 2 = d + 14 by omega] at e2
    have run := tb2_run (d + 8) ns k b ts ls rs o1 v1 (.val (.int t)) x8 x9 x10 m2 hn (w := 5 + q + 1) (n := q + 1) (by rw [show q + 1 + 3 = 3 + q + 1 by omega]; exact f1) (by rw [show q + 1 + 2 = 2 + q + 1 by omega]; exact f2) (by unfold lim; omega)
    refine ⟨_, ?_, o1, v1, .val (.int t), .val (.bl (isNet v1)), x9, x10, m2, t + 1, rfl, hb2, by omega, hrest, fun h3 => ?_⟩
    · rw [← run]
      show exK (cK (d + 14)) G (.seq _ (.seq _ tb2)) _ = _
      rw [seq_nx (s1 := LS ns k b ts ls rs (.val o) (.val v1) (.val (.int t)) x8 x9 x10 m1) (by
        cases hd : decide (t % 3 = 0) <;> rw [hd] at e0 em <;> simp at e0 <;> subst e0 <;> simp [om, em, e1, S.set])]
      rw [seq_nx (s1 := LS ns k b ts ls rs (.val o1) (.val v1) (.val (.int t)) x8 x9 x10 m2) (by
        cases hd : decide (t % 3 = 0) <;> rw [hd] at e0' em <;> simp at e0' <;> subst e0' <;> simp [om, em, e2, S.set])]
    · rw [hq2 h3, show 5 + (q + 1) = 5 + q + 1 by omega, show 3 + (q + 1) = 3 + q + 1 by omega, show 2 + (q + 1) = 2 + q + 1 by omega]
      exact ⟨f1, f2⟩
  have fin : ∃ s2, exK (cK (d + 14)) G tb (LS ns k b ts ls rs (.val o) (.val v) (.val (.int t)) x8 x9 x10 mu) = .nx s2 ∧ TP ns k b ts ls rs (intL ((t : Int) + 1) m) s2 := by
    by_cases h3 : t % 3 = 0
    · refine key (ntv ts ls) (.tup rs) (by simp [h3]) (by simp [h3]) ?_ ?_
      · rw [h3]; exact hn.fine
      · rw [h3]; exact hr.fine
    · obtain ⟨f1, f2⟩ := hf h3
      exact key v o (by simp [h3]) (by simp [h3]) f1 f2
  obtain ⟨s2, e, hp⟩ := fin
  exact ⟨_, s2, rfl, e, hp⟩
/-! ### pressures -/
def pb : C := (.seq (.ite (.cmp .isnot (.call 8 (.cons (.var 9) .nil)) (.bl false)) (.seq (.ret (.bl false))
    .skip) .skip)
    .skip)
abbrev odds : List PV := [.tup [.int 0, .int 2], .tup [.int 2, .int 4], .tup [.int (-1), .int 2], .tup [.bl true, .int 2], .tup [.int 1, .int 0], .tup [.int 1, .int 2, .int 3], .lst [.int 1, .int 2], .int 1, .non, .tup [.int 1000000001, .int 1]]
theorem r_odd (d : Nat) (mu : List MO) : ∀ x ∈ odds, cK (d + 4) 8 [x] mu = .ok (.bl false) mu := by
  intro x hx
  simp only [List.mem_cons, List.not_mem_nil, or_false] at hx
  rcases hx with rfl | rfl | rfl | rfl | rfl | rfl | rfl | rfl | rfl | rfl <;> rfl
theorem r_p1 (d : Nat) (mu : List MO) : cK (d + 4) 8 [.tup [.int 0, .int 1]] mu = .ok (.bl true) mu := rfl
theorem r_p2 (d : Nat) (mu : List MO) : cK (d + 4) 8 [.tup [.int 1000000000, .int 7]] mu = .ok (.bl true) mu := rfl
theorem r_p3 (d : Nat) (mu : List MO) : cK (d + 4) 8 [.tup [.int 1, .int 1000000000]] mu = .ok (.bl true) mu := rfl
theorem r_p4 (d : Nat) (mu : List MO) : cK (d + 4) 8 [.tup [.int 1, .int 1000000001]] mu = .ok (.bl false) mu := rfl
/-! ### one turn of the law -/
def lb : C := (.seq (.asg 2 (.call 17 (.cons (.var 0) (.cons (.var 1) .nil))))
    (.seq (.asg 3 (.call 21 (.cons (.var 2) (.cons (.int 5) .nil))))
    (.seq (.asg 4 (.call 23 (.cons (.var 2) (.cons (.var 3) (.cons (.int 4) .nil)))))
    (.seq (.ite (.or_ (.cmp .isnot (.call 5 (.cons (.var 3) .nil)) (.bl true)) (.or_ (.cmp .isnot (.call 12 (.cons (.var 3) (.cons (.var 4) .nil))) (.bl true)) (.not_ (.call 29 (.cons (.var 3) .nil))))) (.seq (.ret (.bl false))
    .skip) .skip)
    (.seq (.pat (.tup (.cons (.nm 6) (.cons (.nm 5) .nil))) (.tup (.cons (.var 3) (.cons (.var 4) .nil))))
    (.seq (.for_ (.nm 7) (.range1 (.int 18)) tb)
    (.seq (.for_ (.nm 9) (.lst (.cons (.tup (.cons (.int 0) (.cons (.int 2) .nil))) (.cons (.tup (.cons (.int 2) (.cons (.int 4) .nil))) (.cons (.tup (.cons (.neg (.int 1)) (.cons (.int 2) .nil))) (.cons (.tup (.cons (.bl true) (.cons (.int 2) .nil))) (.cons (.tup (.cons (.int 1) (.cons (.int 0) .nil))) (.cons (.tup (.cons (.int 1) (.cons (.int 2) (.cons (.int 3) .nil)))) (.cons (.lst (.cons (.int 1) (.cons (.int 2) .nil))) (.cons (.int 1) (.cons .non (.cons (.tup (.cons (.bin .add (.bin .pow (.int 10) (.int 9)) (.int 1)) (.cons (.int 1) .nil))) .nil))))))))))) pb)
    (.seq (.asg 10 (.lst (.cons (.call 8 (.cons (.tup (.cons (.int 0) (.cons (.int 1) .nil))) .nil)) (.cons (.call 8 (.cons (.tup (.cons (.bin .pow (.int 10) (.int 9)) (.cons (.int 7) .nil))) .nil)) (.cons (.call 8 (.cons (.tup (.cons (.int 1) (.cons (.bin .pow (.int 10) (.int 9)) .nil))) .nil)) .nil)))))
    (.seq (.ite (.or_ (.cmp .ne (.var 10) (.lst (.cons (.bl true) (.cons (.bl true) (.cons (.bl true) .nil))))) (.cmp .isnot (.call 8 (.cons (.tup (.cons (.int 1) (.cons (.bin .add (.bin .pow (.int 10) (.int 9)) (.int 1)) .nil))) .nil)) (.bl false))) (.seq (.ret (.bl false))
    .skip) .skip)
    .skip)))))))))
/-- the states of the law's loop -/
def KP (ns : List Int) (rest : List PV) (s : S) : Prop := ∃ (sl : List Slot) (mu : List MO), s = ⟨.val (.scr ns) :: sl, mu⟩ ∧ sl.length = 10 ∧ ∀ y ∈ rest, ∃ i : Int, y = .int i ∧ 0 ≤ i ∧ i < 7
theorem lb_run (d : Nat) (ns : List Int) (k : Int) (hk0 : 0 ≤ k) (hk : k < 7) (sl : List Slot) (hl : sl.length = 9) (mu : List MO) : ∃ (sl' : List Slot) (mu' : List MO), exK (cK (d + 14)) G lb ⟨.val (.scr ns) :: .val (.int k) :: sl, mu⟩ = .nx ⟨.val (.scr ns) :: .val (.int k) :: sl', mu'⟩ ∧ sl'.length = 9 := by
  obtain ⟨b, m1, e1, hb⟩ := r_bag (d + 11) ns k mu hk0 (by omega)
  obtain ⟨ts, ls, m2, e2, hn, hb⟩ := r_draw_net (d + 10) b m1 hb
  obtain ⟨rs, m3, e3, hr, hb⟩ := r_draw_rules (d + 10) b ts ls m2 hn hb
  have e4 := r_net (d + 10) (ntv ts ls) m3 hn.fine (by decide)
  have e5 := r_are (d + 8) ts ls (.tup rs) m3 hn.is hn.fine hr.fine (by decide)
  have e6 := r_stands (d + 7) ts ls m3 hn
  rw [hn.is] at e4
  rw [hr.is] at e5
  match sl, hl with
  | [s2, s3, s4, s5, s6, s7, s8, s9, s10], _ =>
    obtain ⟨s', L, o, v, x7, x8, y9, x10, m4, t, rfl, hb, _⟩ := for_inv (bind := bindP (.nm 7)) (body := exK (cK (d + 14)) G tb) (intL 0 18) (TP ns k b ts ls rs) (tb_turn d ns k b ts ls rs hn hr) (LS ns k b ts ls rs (.val (.tup rs)) (.val (ntv ts ls)) s7 s8 s9 s10 m3) ⟨.tup rs, ntv ts ls, s7, s8, s9, s10, m3, 0, rfl, hb, by omega, rfl, fun h => absurd rfl h⟩
    have F := xx_for (cK (d + 14)) G (p := .nm 7) (it := .range1 (.int 18)) (b := tb) (s := LS ns k b ts ls rs (.val (.tup rs)) (.val (ntv ts ls)) s7 s8 s9 s10 m3) (s1 := LS ns k b ts ls rs (.val (.tup rs)) (.val (ntv ts ls)) s7 s8 s9 s10 m3) (xs := intL 0 18) (by simp [lim])
    rw [L] at F
    obtain ⟨s', L2, ⟨x9, rfl⟩, _⟩ := for_inv (bind := bindP (.nm 9)) (body := exK (cK (d + 14)) G pb) odds (fun rest s => (∃ x9, s = LS ns k b ts ls rs (.val o) (.val v) x7 x8 x9 x10 m4) ∧ ∀ y ∈ rest, y ∈ odds) (fun x r s h => by
      obtain ⟨⟨x9, rfl⟩, h⟩ := h
      have := r_odd (d + 10) m4 x (h x List.mem_cons_self)
      refine ⟨LS ns k b ts ls rs (.val o) (.val v) x7 x8 (.val x) x10 m4, LS ns k b ts ls rs (.val o) (.val v) x7 x8 (.val x) x10 m4, rfl, ?_, ⟨.val x, rfl⟩, fun y hy => h y (List.mem_cons_of_mem _ hy)⟩
      simp [pb, this, opCmp, PV.isS]) (LS ns k b ts ls rs (.val o) (.val v) x7 x8 y9 x10 m4) ⟨⟨y9, rfl⟩, fun y hy => hy⟩
    have pw : opBin .pow (.int 10) (.int 9) = some (.int 1000000000) := rfl
    have F2 := xx_for (cK (d + 14)) G (p := .nm 9) (it := .lst (.cons (.tup (.cons (.int 0) (.cons (.int 2) .nil))) (.cons (.tup (.cons (.int 2) (.cons (.int 4) .nil))) (.cons (.tup (.cons (.neg (.int 1)) (.cons (.int 2) .nil))) (.cons (.tup (.cons (.bl true) (.cons (.int 2) .nil))) (.cons (.tup (.cons (.int 1) (.cons (.int 0) .nil))) (.cons (.tup (.cons (.int 1) (.cons (.int 2) (.cons (.int 3) .nil)))) (.cons (.lst (.cons (.int 1) (.cons (.int 2) .nil))) (.cons (.int 1) (.cons .non (.cons (.tup (.cons (.bin .add (.bin .pow (.int 10) (.int 9)) (.int 1)) (.cons (.int 1) .nil))) .nil))))))))))) (b := pb) (s := LS ns k b ts ls rs (.val o) (.val v) x7 x8 y9 x10 m4) (s1 := LS ns k b ts ls rs (.val o) (.val v) x7 x8 y9 x10 m4) (xs := odds) (by simp [lim, pw, op_add, seqItems])
    rw [L2] at F2
    have q1 := r_p1 (d + 10) m4
    have q2 := r_p2 (d + 10) m4
    have q3 := r_p3 (d + 10) m4
    have q4 := r_p4 (d + 10) m4
    refine ⟨[.val (.obj b), .val (ntv ts ls), .val (.tup rs), .val o, .val v, x7, x8, x9, .val (.lst [.bl true, .bl true, .bl true])], m4, ?_, rfl⟩
    unfold lb
    rw [seq_nx (s1 := ⟨[.val (.scr ns), .val (.int k), .val (.obj b), s3, s4, s5, s6, s7, s8, s9, s10], m1⟩) (by simp [e1, S.set])]
    rw [seq_nx (s1 := ⟨[.val (.scr ns), .val (.int k), .val (.obj b), .val (ntv ts ls), s4, s5, s6, s7, s8, s9, s10], m2⟩) (by simp [e2, S.set])]
    rw [seq_nx (s1 := ⟨[.val (.scr ns), .val (.int k), .val (.obj b), .val (ntv ts ls), .val (.tup rs), s5, s6, s7, s8, s9, s10], m3⟩) (by simp [e3, S.set])]
    rw [show (.tup [.tup ts, .tup ls] : PV) = ntv ts ls from rfl] at e5
    rw [seq_nx (s1 := ⟨[.val (.scr ns), .val (.int k), .val (.obj b), .val (ntv ts ls), .val (.tup rs), s5, s6, s7, s8, s9, s10], m3⟩) (by simp [e4, e5, e6, opCmp, PV.isS])]
    rw [seq_nx (s1 := LS ns k b ts ls rs (.val (.tup rs)) (.val (ntv ts ls)) s7 s8 s9 s10 m3) (by simp [lim, S.set])]
    rw [seq_nx F, seq_nx F2]
    rw [seq_nx (s1 := LS ns k b ts ls rs (.val o) (.val v) x7 x8 x9 (.val (.lst [.bl true, .bl true, .bl true])) m4) (by simp [pw, q1, q2, q3, lim, S.set])]
    have ne0 : opCmp .ne (.lst [.bl true, .bl true, .bl true]) (.lst [.bl true, .bl true, .bl true]) = some false := rfl
    have is0 : opCmp .isnot (.bl false) (.bl false) = some false := rfl
    simp [pw, q4, lim, op_add, ne0, is0]
theorem lb_turn (d : Nat) (ns : List Int) (x : PV) (r : List PV) (s : S) (h : KP ns (x :: r) s) : ∃ s1 s2, bindP (.nm 1) x s = some s1 ∧ exK (cK (d + 14)) G lb s1 = .nx s2 ∧ KP ns r s2 := by
  obtain ⟨sl, mu, rfl, hl, hr⟩ := h
  obtain ⟨i, rfl, h0, h1⟩ := hr x List.mem_cons_self
  match sl, hl with
  | s1 :: sl, hl =>
    obtain ⟨sl', mu', e, hl'⟩ := lb_run d ns i h0 h1 sl (by simpa using hl) mu
    exact ⟨_, _, rfl, e, _, _, rfl, by simpa using hl', fun y hy => hr y (List.mem_cons_of_mem _ hy)⟩
abbrev N0 : PV := .tup [.tup [.tup [.int 2, .int 1], .tup [.int 4, .int 1]], .tup [.tup [.int 0, .int 1, .int 1, .non, .bl true], .tup [.int 1, .int 2, .int 1, .int 1, .bl true]]]
theorem r_n1 (d : Nat) (mu : List MO) : cK (d + 6) 5 [N0] mu = .ok (.bl true) mu := by
  rw [show d + 6 = d + 2 + 4 by omega, r_net (d + 2) _ mu (w := 5) (n := 0) rfl (by decide)]; rfl
theorem r_n2 (d : Nat) (mu : List MO) : cK (d + 6) 5 [.tup [.tup [.tup [.int 2, .int 1], .tup [.int 4, .int 1]], .tup [.tup [.int 0, .int 3, .int 1, .non, .bl true]]]] mu = .ok (.bl false) mu := by
  rw [show d + 6 = d + 2 + 4 by omega, r_net (d + 2) _ mu (w := 5) (n := 0) rfl (by decide)]; rfl
theorem r_n3 (d : Nat) (mu : List MO) : cK (d + 6) 5 [.tup [.tup [.tup [.int 2, .int 1], .tup [.int 4, .int 1]], .tup []]] mu = .ok (.bl false) mu := by
  rw [show d + 6 = d + 2 + 4 by omega, r_net (d + 2) _ mu (w := 5) (n := 0) rfl (by decide)]; rfl
theorem r_n4 (d : Nat) (mu : List MO) : cK (d + 6) 5 [.tup [.tup [], .tup [.tup [.int 0, .int 1, .int 1, .non, .bl true], .tup [.int 1, .int 2, .int 1, .int 1, .bl true]]]] mu = .ok (.bl false) mu := by
  rw [show d + 6 = d + 2 + 4 by omega, r_net (d + 2) _ mu (w := 5) (n := 0) rfl (by decide)]; rfl
theorem r_n5 (d : Nat) (mu : List MO) : cK (d + 6) 12 [N0, .tup [.tup [.str "runs", .int 1, .int 0, .bl true]]] mu = .ok (.bl true) mu := by
  rw [r_are d _ _ _ mu (w := 5) (n := 0) rfl rfl rfl (by decide)]; rfl
theorem r_n6 (d : Nat) (mu : List MO) : cK (d + 6) 12 [N0, .tup [.tup [.str "runs", .int 2, .int 0, .bl true]]] mu = .ok (.bl false) mu := by
  rw [r_are d _ _ _ mu (w := 5) (n := 0) rfl rfl rfl (by decide)]; rfl
theorem r_n7 (d : Nat) (mu : List MO) : cK (d + 6) 12 [N0, .tup [.tup [.str "dry", .int 0, .int 0, .bl true]]] mu = .ok (.bl false) mu := by
  rw [r_are d _ _ _ mu (w := 5) (n := 0) rfl rfl rfl (by decide)]; rfl
theorem runlawK (d : Nat) (ns : List Int) : ∃ mu, cK (d + 15) 30 [.scr ns] [] = .ok (.bl true) mu := by
  obtain ⟨s', L, sl, mu, rfl, hl, _⟩ := for_inv (bind := bindP (.nm 1)) (body := exK (cK (d + 14)) G lb) (intL 0 7) (KP ns) (lb_turn d ns) ⟨[.val (.scr ns), .un, .un, .un, .un, .un, .un, .un, .un, .un, .un], []⟩ ⟨_, _, rfl, rfl, d_intL 7⟩
  have F := xx_for (cK (d + 14)) G (p := .nm 1) (it := .range1 (.int 7)) (b := lb) (s := ⟨[.val (.scr ns), .un, .un, .un, .un, .un, .un, .un, .un, .un, .un], []⟩) (s1 := ⟨[.val (.scr ns), .un, .un, .un, .un, .un, .un, .un, .un, .un, .un], []⟩) (xs := intL 0 7) (by simp [lim])
  rw [L] at F
  refine ⟨mu, ?_⟩
  match sl, hl with
  | [s1, s2, s3, s4, s5, s6, s7, s8, s9, s10], _ =>
    show (exK (cK (d + 14)) G blaw ⟨[.val (.scr ns), .un, .un, .un, .un, .un, .un, .un, .un, .un, .un], []⟩).done = _
    unfold lb tb pb at F
    unfold blaw
    rw [seq_nx F]
    rw [seq_nx (s1 := ⟨[.val (.scr ns), s1, s2, .val N0, s4, s5, s6, s7, s8, s9, s10], mu⟩) (by simp [lim, S.set])]
    rw [seq_nx (s1 := ⟨[.val (.scr ns), s1, s2, .val N0, s4, s5, s6, s7, s8, s9, .val (.lst [.bl true, .bl false, .bl false, .bl false])], mu⟩) (by simp [lim, S.set, r_n1 (d + 8) mu, r_n2 (d + 8) mu, r_n3 (d + 8) mu, r_n4 (d + 8) mu, idxV, atI, ixN])]
    rw [seq_nx (s1 := ⟨[.val (.scr ns), s1, s2, .val N0, s4, s5, s6, s7, s8, s9, .val (.lst [.bl true, .bl false, .bl false, .bl false, .bl true, .bl false])], mu⟩) (by simp [lim, S.set, r_n5 (d + 8) mu, r_n6 (d + 8) mu, opBin])]
    have e0 : opCmp .eq (.lst [.bl true, .bl false, .bl false, .bl false, .bl true, .bl false, .bl false]) (.lst [.bl true, .bl false, .bl false, .bl false, .bl true, .bl false, .bl false]) = some true := rfl
    simp [lim, S.set, r_n7 (d + 8) mu, opBin, e0]
end K01

set_option Elab.async false
set_option linter.all false
set_option maxRecDepth 100000
set_option maxHeartbeats 0
namespace K01
open PySem PySem.Spec PyProof.Rows L2 AP
def loose0 : List PySem.Str := ["__name__", "PressureError", "InvalidNet", "InvalidPressure", "InvalidNumber", "InvalidRules", "InvalidFacts", "InvalidText", "NothingToUndo", "GREATEST", "is_plain", "is_whole", "is_row", "is_tap", "is_link", "is_net", "divisor_of", "is_share", "is_pressure", "is_rule", "fit_rules", "need_net", "are_rules", "at_stand", "with_stand", "_law_cell", "_law_draws", "_law_bag", "_law_take", "_law_choice"]
def loose1 : List PySem.Str := ["_law_link", "_law_net", "_law_rule", "_law_rules", "_law_named_error", "_law_error", "_law_truly", "_law_whole", "_law_spoilt", "_law_good_net", "_law_good_rules", "_law_stands_right"]
abbrev loose : List PySem.Str := loose0 ++ loose1
abbrev lawIx : Nat := 44
abbrev Rrow : PySem.W.OpenRow := PySem.W.OpenLaw.row PySem.Challenge.rw_anypressure_k01_nets_pressures_and_rules
end K01
namespace K01
open PySem PySem.Spec PyProof.Rows L2 AP
abbrev hk : PySem.W.Hook := He.hookX 4 Lw.fa Lw.fn [] Lw.tf Lw.ex
def ob (s : PySem.W.SharedT) : He.AlX := He.obsX 4 Lw.fa Lw.fn [] Lw.tf Lw.ex (HandSHeadRun.getT s)
theorem ob_eq (s : PySem.W.SharedT) : ob s = hk.obs s.abs := He.obsX_eq (HandSHeadRun.getT_eq s)
theorem run (w : World) : HandSHeadRun.RunEq Rrow (PySem.W.view Rrow.prog [lawIx]) hk ob 4000 loose w := by
  intro os
  kernel_rfl
abbrev D : Nat := 20
theorem runlaw (ns : List Int) (h : ns.length ≤ 63) : ∃ mu, callD Lw.G Lw.tbl D Lw.law [.scr ns] [] = .ok (.bl true) mu := by
  obtain ⟨mu, e⟩ := runlawK 5 ns
  exact ⟨mu, by rw [← callEq]; exact e⟩
end K01
open PySem PySem.W PySem.Calls PyProof.Rows
theorem PySem.Challenge.cw_anypressure_k01_nets_pressures_and_rules_holds : PySem.Challenge.rw_anypressure_k01_nets_pressures_and_rules.Holds := by
  w_on; o_law
  refine HandSHeadRun.head_any (r := OpenLaw.row PySem.Challenge.rw_anypressure_k01_nets_pressures_and_rules) (q := view (OpenLaw.row PySem.Challenge.rw_anypressure_k01_nets_pressures_and_rules).prog [K01.lawIx]) (H := K01.hk) (ob := K01.ob) (M := 4000) (loose := K01.loose) (d := HandSHeadRun.topDef (OpenLaw.row PySem.Challenge.rw_anypressure_k01_nets_pressures_and_rules).prog K01.lawIx) (kwd := []) K01.ob_eq
    (by kernel_rfl) (fun s => by kernel_rfl) K01.run (by kernel_rfl) (by kernel_rfl) (by kernel_rfl) (by rfl) (by first | assumption | decide +kernel) (by decide +kernel) ⟨rfl, rfl, rfl, rfl, rfl, by decide +kernel⟩ ?hw ?hc
  case hw => w_witness2
  case hc =>
    refine LamX.walk_ofTsE (l := PySem.Challenge.rw_anypressure_k01_nets_pressures_and_rules) (n := 63) (k := 3 * K01.D) (x := "script") (CX := fun w => L2N.CX (PySem.Challenge.rw_anypressure_k01_nets_pressures_and_rules).prog w) rfl (by decide) (by kernel_rfl) ⟨rfl, by decide, by decide⟩ ?F (fun w H s e s' z => by
      obtain ⟨_, _, _, _, _, _, _, _, _, _, _, _, z⟩ := z
      exact z)
    intro w mg fa h Y G hmg0
    obtain ⟨K, KX, c⟩ := Y
    have hmg : mg ("law" : PySem.Str) = some (.ref fa) := by
      have e : (HandSHeadRun.topDef (OpenLaw.row PySem.Challenge.rw_anypressure_k01_nets_pressures_and_rules).prog K01.lawIx).name = ("law" : PySem.Str) := by kernel_rfl
      rw [← e]
      exact hmg0
    exact ⟨K, KX, AP.LawL.at_ c KX G K01.ok hmg K01.D K01.runlaw⟩
