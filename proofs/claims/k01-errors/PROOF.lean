import PyProof.Rows.All
import Wide.All
import OpenK.AllK
import Wide.FinOn
import PyProof.EqAt
import PyProof.EqKinds
import PyProof.TupleCall
import KE.DataEq
import HandS.ForMost
import HandS.Exc
import HandS.TryOnly
import HandS.ExcOwn
import HandS.WordsExc
import HandS.Walk
import HandS.Zip
import HandS.IsInst
import HandS.TupAny
import HandS.TupMul
import HandS.Deep
import HandS.Lambda
import KE.GoesMore
import PyProof.AutoSeq1
import PyProof.AutoListH
import PyProof.ListOps
import HandS.SortInts
import HandS.Style
import HandS.ExcIs
import HandS.EndOwn
import HandS.SetFor
import HandS.Strs
import HandS.DictComp
import HandS.More
import HandS.Conv
import PyProof.ReprRoads
import PySem.Challenge.RW_stilltold_k01_errors
import PyProof.ReprLen
import PyProof.Rows.StrDigits
import HandS.ForDict
set_option Elab.async false
set_option linter.all false
set_option maxRecDepth 100000
/-! E1: data without heap (D), what stands for it (R), the state of a def's slots (SR), results (Re), the judgements. -/
namespace Dn
open PySem L2

/-- a value as data -/
inductive D where
  | non | bl (b : Bool) | int (i : Int) | str (s : Str)
  | tup (xs : List D) | lst (xs : List D) | dic (ks vs : List D) | box

abbrev Frag := PySem.W.Frag
/-- a tuple, a list of the module's own top -/
def KT (K : Frag) (a : Addr) (xs : List V) : Prop := ∃ (o : Obj) (its : Array Value) (n : Nat), K.lookup a = some o ∧ o.cls = .type "tuple" ∧ o.data = .seq its n ∧ its.size ≤ sizeLine ∧ Vals xs its.toList
def KL (K : Frag) (a : Addr) (xs : List V) : Prop := ∃ (o : Obj) (its : Array Value) (n : Nat), K.lookup a = some o ∧ o.cls = .type "list" ∧ o.dict = none ∧ o.data = .seq its n ∧ its.size ≤ sizeLine ∧ Vals xs its.toList

/-- what a function's activation knows: the module's part, the address of the drawing box, the classes of errors -/
structure Bs where
  box : Option Addr
  T : List (Addr × Str)
  F : List Addr
/-- what stays known: the box, what the numbers of functions mean -/
def Bs.kn (β : Bs) : Addr ⊕ (Nat × Addr) → Prop
  | .inl b => β.box = some b
  | .inr p => β.F[p.1]? = some p.2
def Bs.ex (β : Bs) (a : Addr) : Prop := β.box = some a ∨ a ∈ β.T.map Prod.fst
structure Cg where
  K : Frag
  β : Bs
  cl : Nat → Value

mutual
/-- the value v stands for the data d, by objects that are not among U -/
inductive R (c : Cg) (U : List Addr) (H : Hp) : V → D → Prop
  | non : R c U H .non .non
  | bl (b : Bool) : R c U H (.bl b) (.bl b)
  | int (i : Int) : R c U H (.int i) (.int i)
  | str (x : Str) : R c U H (.str x) (.str x)
  | tup {a : Addr} {xs : List V} {ds : List D} : Rd H a (.tup xs) → a ∉ U → xs.length ≤ sizeLine → Rs c U H xs ds → R c U H (.ref a) (.tup ds)
  | ktup {a : Addr} {xs : List V} {ds : List D} : KT c.K a xs → Rs c U H xs ds → R c U H (.ref a) (.tup ds)
  | lst {a : Addr} {xs : List V} {ds : List D} : Rd H a (.lst xs) → a ∉ U → xs.length ≤ sizeLine → Rs c U H xs ds → R c U H (.ref a) (.lst ds)
  | klst {a : Addr} {xs : List V} {ds : List D} : KL c.K a xs → Rs c U H xs ds → R c U H (.ref a) (.lst ds)
  | box {b : Addr} : c.β.box = some b → R c U H (.ref b) .box
inductive Rs (c : Cg) (U : List Addr) (H : Hp) : List V → List D → Prop
  | nil : Rs c U H [] []
  | cons {v : V} {vs : List V} {d : D} {ds : List D} : R c U H v d → Rs c U H vs ds → Rs c U H (v :: vs) (d :: ds)
end

/-- a change that keeps what stands for data -/
structure Chg (c c' : Cg) (U U' : List Addr) (H H' : Hp) : Prop where
  K : c.K = c'.K
  b : ∀ b, c.β.kn b → c'.β.kn b
  t : ∀ a o, H a = some o → a ∉ U → H' a = some o ∧ a ∉ U'

section
variable {c c' : Cg} {U U' : List Addr} {H H' : Hp}
theorem Chg.rd (g : Chg c c' U U' H H') {a : Addr} {o : HO} (h : Rd H a o) (n : a ∉ U) : Rd H' a o ∧ a ∉ U' := by
  rcases h with h | ⟨ob, h⟩
  · obtain ⟨h1, h2⟩ := g.t a _ h n
    exact ⟨.inl h1, h2⟩
  · obtain ⟨h1, h2⟩ := g.t a _ h n
    exact ⟨.inr ⟨ob, h1⟩, h2⟩
mutual
theorem R.chg (g : Chg c c' U U' H H') : ∀ (d : D) (v : V), R c U H v d → R c' U' H' v d
  | .non, _, h => by cases h; exact .non
  | .bl b, _, h => by cases h; exact .bl b
  | .int i, _, h => by cases h; exact .int i
  | .str x, _, h => by cases h; exact .str x
  | .tup ds, _, h => by
    cases h with
    | tup h1 h2 hl h3 =>
      obtain ⟨q1, q2⟩ := g.rd h1 h2
      exact .tup q1 q2 hl (Rs.chg g ds _ h3)
    | ktup h1 h3 => exact .ktup (by rw [← g.K]; exact h1) (Rs.chg g ds _ h3)
  | .lst ds, _, h => by
    cases h with
    | lst h1 h2 hl h3 =>
      obtain ⟨q1, q2⟩ := g.rd h1 h2
      exact .lst q1 q2 hl (Rs.chg g ds _ h3)
    | klst h1 h3 => exact .klst (by rw [← g.K]; exact h1) (Rs.chg g ds _ h3)
  | .dic _ _, _, h => by cases h
  | .box, _, h => by cases h with | box e => exact .box (g.b (.inl _) e)
theorem Rs.chg (g : Chg c c' U U' H H') : ∀ (ds : List D) (vs : List V), Rs c U H vs ds → Rs c' U' H' vs ds
  | [], _, h => by cases h; exact .nil
  | d :: ds, _, h => by
    cases h with
    | cons h1 h2 => exact .cons (R.chg g d _ h1) (Rs.chg g ds _ h2)
end
theorem Rs.length : ∀ {vs : List V} {ds : List D}, Rs c U H vs ds → vs.length = ds.length
  | _, _, .nil => rfl
  | _, _, .cons _ t => by simp [Rs.length t]
theorem Rs.get : ∀ {vs : List V} {ds : List D} {i : Nat} {d : D}, Rs c U H vs ds → ds[i]? = some d → ∃ v, vs[i]? = some v ∧ R c U H v d
  | _, _, i, d, .nil, e => by simp at e
  | _, _, 0, d, .cons h _, e => by simp at e; subst e; exact ⟨_, rfl, h⟩
  | _, _, i + 1, d, .cons _ t, e => by
    obtain ⟨v, h1, h2⟩ := Rs.get (i := i) t (by simpa using e)
    exact ⟨v, by simpa using h1, h2⟩
theorem Rs.get' : ∀ {vs : List V} {ds : List D} {i : Nat} {v : V}, Rs c U H vs ds → vs[i]? = some v → ∃ d, ds[i]? = some d ∧ R c U H v d
  | _, _, i, d, .nil, e => by simp at e
  | _, _, 0, d, .cons h _, e => by simp at e; subst e; exact ⟨_, rfl, h⟩
  | _, _, i + 1, d, .cons _ t, e => by
    obtain ⟨v, h1, h2⟩ := Rs.get' (i := i) t (by simpa using e)
    exact ⟨v, by simpa using h1, h2⟩
theorem Rs.append : ∀ {vs ws : List V} {ds es : List D}, Rs c U H vs ds → Rs c U H ws es → Rs c U H (vs ++ ws) (ds ++ es)
  | _, _, _, _, .nil, h => h
  | _, _, _, _, .cons h t, h' => .cons h (Rs.append t h')
theorem Rs.take : ∀ {vs : List V} {ds : List D} (n : Nat), Rs c U H vs ds → Rs c U H (vs.take n) (ds.take n)
  | _, _, 0, _ => .nil
  | _, _, _ + 1, .nil => .nil
  | _, _, n + 1, .cons h t => .cons h (Rs.take n t)
theorem Rs.drop : ∀ {vs : List V} {ds : List D} (n : Nat), Rs c U H vs ds → Rs c U H (vs.drop n) (ds.drop n)
  | _, _, 0, h => h
  | _, _, _ + 1, .nil => .nil
  | _, _, n + 1, .cons _ t => Rs.drop n t
theorem Rs.set : ∀ {vs : List V} {ds : List D} (i : Nat) {v : V} {d : D}, Rs c U H vs ds → R c U H v d → Rs c U H (vs.set i v) (ds.set i d)
  | _, _, _, _, _, .nil, _ => .nil
  | _, _, 0, _, _, .cons _ t, q => .cons q t
  | _, _, i + 1, _, _, .cons h t, q => .cons h (Rs.set i t q)
theorem Rs.reverse : ∀ {vs : List V} {ds : List D}, Rs c U H vs ds → Rs c U H vs.reverse ds.reverse
  | _, _, .nil => .nil
  | _, _, .cons h t => by
    rw [List.reverse_cons, List.reverse_cons]
    exact (Rs.reverse t).append (.cons h .nil)
theorem Rs.dropLast {vs : List V} {ds : List D} (h : Rs c U H vs ds) : Rs c U H vs.dropLast ds.dropLast := by
  rw [List.dropLast_eq_take, List.dropLast_eq_take, h.length]
  exact h.take _
theorem Rs.eraseIdx : ∀ {vs : List V} {ds : List D} (i : Nat), Rs c U H vs ds → Rs c U H (vs.eraseIdx i) (ds.eraseIdx i)
  | _, _, _, .nil => by simp; exact .nil
  | _, _, 0, .cons _ t => t
  | _, _, i + 1, .cons h t => .cons h (Rs.eraseIdx i t)
end

/-- the heap grows, but for the box -/
def Fr (β : Bs) (H H' : Hp) : Prop := ∀ a o, H a = some o → ¬ β.ex a → H' a = some o
/-- the box holds g -/
abbrev G := List Int
def Bx (β : Bs) (H : Hp) (g : G) : Prop := (∀ b, β.box = some b → H b = some (.lst (g.map V.int))) ∧ LamX.Tabs β.T H
theorem Bx.at {β : Bs} {H : Hp} {g : G} (b : Bx β H g) {a : Addr} (e : β.ex a) : H a ≠ none := by
  rcases e with e | e
  · rw [b.1 a e]; exact fun z => by cases z
  · obtain ⟨p, hp, rfl⟩ := List.mem_map.mp e
    obtain ⟨ps, h, _⟩ := b.2 p hp
    rw [h]; exact fun z => by cases z
theorem Fr.refl (β : Bs) (H : Hp) : Fr β H H := fun _ _ h _ => h
theorem Fr.trans {β : Bs} {H H1 H2 : Hp} (a : Fr β H H1) (b : Fr β H1 H2) : Fr β H H2 := fun p o h n => b p o (a p o h n) n
theorem Fr.upd {β : Bs} {H : Hp} {p : Addr} {o : HO} (h : H p = none) : Fr β H (upd H p o) := fun a o' e _ => by
  rw [upd_ne (ne_of_none e h)]
  exact e
theorem Fr.free {β : Bs} {H H' : Hp} (f : Fr β H H') {p : Addr} (n : ¬ β.ex p) (h : H' p = none) : H p = none := by
  cases e : H p with
  | none => rfl
  | some o =>
    rw [f p o e n] at h
    cases h
theorem Bx.fr {β : Bs} {H H' : Hp} {g : G} (b : Bx β H g) (k : ∀ a o, H a = some o → H' a = some o) : Bx β H' g := ⟨fun p e => k p _ (b.1 p e), b.2.ext k⟩
/-- a write at p, which is not exceptional -/
theorem Bx.upd {β : Bs} {H : Hp} {g : G} {p : Addr} {o o' : HO} (b : Bx β H g) (n : ¬ β.ex p) (hp : H p = some o') (hc : ∀ q, o' ≠ LamX.CodeO p q) : Bx β (upd H p o) g := by
  refine ⟨fun q e => ?_, fun x hx => ?_⟩
  · rw [upd_ne (fun z => n (by rw [← z]; exact .inl e))]; exact b.1 q e
  · obtain ⟨ps, h1, h2, h3⟩ := b.2 x hx
    refine ⟨ps, ?_, h2, fun pos cv hcv => ?_⟩
    · rw [upd_ne (fun z => n (by rw [← z]; exact .inr (List.mem_map.mpr ⟨x, hx, rfl⟩)))]; exact h1
    · obtain ⟨c0, e1, e2⟩ := h3 pos cv hcv
      refine ⟨c0, e1, ?_⟩
      rw [upd_ne (fun z => ?_)]
      · exact e2
      · rw [z, hp] at e2
        exact hc _ (by rw [Option.some.inj e2])
theorem codeO_lst {p : Addr} {xs : List V} : ∀ q, HO.lst xs ≠ LamX.CodeO p q := fun q z => by unfold LamX.CodeO at z; cases z
theorem Bx.write {β : Bs} {H : Hp} {g g' : G} {p : Addr} (b : Bx β H g) (e : β.box = some p) : Bx β (L2.upd H p (.lst (g'.map V.int))) g' := by
  have hp := b.1 p e
  refine ⟨fun q e' => ?_, fun x hx => ?_⟩
  · rw [e] at e'; cases e'; exact upd_same
  · obtain ⟨ps, h1, h2, h3⟩ := b.2 x hx
    refine ⟨ps, ?_, h2, fun pos cv hcv => ?_⟩
    · rw [upd_ne (fun z => by rw [z, hp] at h1; cases h1)]; exact h1
    · obtain ⟨c0, e1, e2⟩ := h3 pos cv hcv
      refine ⟨c0, e1, ?_⟩
      rw [upd_ne (fun z => ?_)]
      · exact e2
      · rw [z, hp] at e2
        exact codeO_lst _ (Option.some.inj e2)
/-- the content of an object that one slot owns -/
def Cont (c : Cg) (U : List Addr) (H : Hp) (p : Addr) : D → Prop
  | .lst ds => ∃ xs, H p = some (.lst xs) ∧ xs.length ≤ sizeLine ∧ Rs c U H xs ds
  | _ => False
theorem Cont.chg {c c' : Cg} {U U' : List Addr} {H H' : Hp} (g : Chg c c' U U' H H') {p : Addr} (k : ∀ o, H p = some o → H' p = some o) : ∀ {d : D}, Cont c U H p d → Cont c' U' H' p d
  | .lst ds, ⟨xs, h1, hl, h2⟩ => ⟨xs, k _ h1, hl, h2.chg g ds _⟩
theorem Cont.there {c : Cg} {U : List Addr} {H : Hp} {p : Addr} : ∀ {d : D}, Cont c U H p d → H p ≠ none
  | .lst ds, ⟨xs, h1, _, _⟩ => by rw [h1]; exact fun z => by cases z

/-- a value that may be an owned object -/
def RB (c : Cg) (U : List Addr) (H : Hp) (v : V) (d : D) : Prop := R c U H v d ∨ ∃ p, v = .ref p ∧ ¬ c.β.ex p ∧ Cont c U H p d
/-- fz: stands for data for good; bw: may be owned by a slot; fr: a new object, owned by nobody -/
inductive Kd where | fz | bw | fr
abbrev KD := Kd × D
def KR (c : Cg) (U : List Addr) (Hs : Hp) (k : Kd) (H : Hp) (v : V) (d : D) : Prop := match k with
  | .fz => R c U H v d
  | .bw => RB c U H v d
  | .fr => ∃ p, v = .ref p ∧ Hs p = none ∧ ¬ c.β.ex p ∧ p ∉ U ∧ Cont c (p :: U) H p d

section
variable {c : Cg} {U : List Addr} {Hs H H' : Hp} {v : V} {d : D} {k : Kd}
theorem Chg.less {U' : List Addr} (h : ∀ a, a ∈ U' → a ∈ U) : Chg c c U U' H H := ⟨rfl, fun _ e => e, fun a o e n => ⟨e, fun z => n (h a z)⟩⟩
theorem Chg.grow (f : Fr c.β H H') (hb : ∀ b, c.β.ex b → b ∈ U) : Chg c c U U H H' := ⟨rfl, fun _ e => e, fun a o e n => ⟨f a o e (fun z => n (hb a z)), n⟩⟩
theorem Chg.ext (f : ∀ a o, H a = some o → H' a = some o) : Chg c c U U H H' := ⟨rfl, fun _ e => e, fun a o e n => ⟨f a o e, n⟩⟩
theorem Chg.fresh {p : Addr} (h : H p = none) : Chg c c U (p :: U) H H := ⟨rfl, fun _ e => e, fun a o e n => ⟨e, fun z => by
  rcases List.mem_cons.mp z with rfl | z
  · rw [h] at e; cases e
  · exact n z⟩⟩
theorem KR.toRB (h : KR c U Hs k H v d) : RB c U H v d := by
  cases k with
  | fz => exact .inl h
  | bw => exact h
  | fr =>
    obtain ⟨p, rfl, h1, hb, h2, h3⟩ := h
    exact .inr ⟨p, rfl, hb, h3.chg (Chg.less fun a z => List.mem_cons_of_mem _ z) fun _ e => e⟩
theorem frR {p : Addr} (h2 : p ∉ U) : ∀ {d : D}, Cont c (p :: U) H p d → R c U H (.ref p) d
  | .lst ds, ⟨xs, h3, hl, h4⟩ => .lst (.inl h3) h2 hl (h4.chg (Chg.less fun a z => List.mem_cons_of_mem _ z) ds _)
theorem KR.toR (h : KR c U Hs k H v d) (hk : k ≠ .bw) : R c U H v d := by
  cases k with
  | fz => exact h
  | bw => exact absurd rfl hk
  | fr =>
    obtain ⟨p, rfl, h1, _, h2, h3⟩ := h
    exact frR h2 h3
theorem RB.chg {U' : List Addr} (g : Chg c c U U' H H') (k : ∀ p o, v = .ref p → H p = some o → H' p = some o) (h : RB c U H v d) : RB c U' H' v d := by
  rcases h with h | ⟨p, rfl, hb, h⟩
  · exact .inl (h.chg g d v)
  · exact .inr ⟨p, rfl, hb, h.chg g fun o e => k p o rfl e⟩
end

/-- a slot: no value; a value; an object of the slot's own -/
inductive Sl where | un | fz (d : D) | ow (d : D) | rf (n : Nat)
abbrev Env := List Sl
inductive RSl (c : Cg) (U : List Addr) (H : Hp) : Option V → Sl → Option Addr → Prop
  | un {x : Option V} : RSl c U H x .un none
  | fz {v : V} {d : D} : R c U H v d → RSl c U H (some v) (.fz d) none
  | ow {p : Addr} {d : D} : Cont c U H p d → RSl c U H (some (.ref p)) (.ow d) (some p)
  | rf {a : Addr} {n : Nat} : c.β.F[n]? = some a → RSl c U H (some (.ref a)) (.rf n) none
inductive RSls (c : Cg) (U : List Addr) (H : Hp) : St → Env → List (Option Addr) → Prop
  | nil : RSls c U H [] [] []
  | cons {x : Option V} {σ : St} {s : Sl} {ρ : Env} {p : Option Addr} {ps : List (Option Addr)} : RSl c U H x s p → RSls c U H σ ρ ps → RSls c U H (x :: σ) (s :: ρ) (p :: ps)
abbrev Ps := List (Option Addr)
def owns (ps : Ps) : List Addr := ps.filterMap id
theorem mem_owns {ps : Ps} {p : Addr} : p ∈ owns ps ↔ some p ∈ ps := by simp [owns, List.mem_filterMap]
/-- the state: slots, heap, box. W: addresses that no value may lean on (the box is one) -/
structure SR (c : Cg) (W : List Addr) (ps : Ps) (σ : St) (H : Hp) (ρ : Env) (g : G) : Prop where
  sl : RSls c (owns ps ++ W) H σ ρ ps
  nd : (owns ps).Nodup
  dj : ∀ p ∈ owns ps, p ∉ W
  old : ∀ a ∈ W, H a ≠ none
  bx : Bx c.β H g
  bo : ∀ b, c.β.ex b → b ∈ W
section
variable {c : Cg} {U U' W : List Addr} {ps : Ps} {H H' : Hp} {σ : St} {ρ : Env} {g g' : G}
theorem RSl.chg {c' : Cg} {x : Option V} {s : Sl} {p : Option Addr} (g : Chg c c' U U' H H') (k : ∀ q, p = some q → ∀ o, H q = some o → H' q = some o) (h : RSl c U H x s p) : RSl c' U' H' x s p := by
  cases h with
  | un => exact .un
  | fz h => exact .fz (h.chg g _ _)
  | ow h => exact .ow (h.chg g (k _ rfl))
  | rf h => exact .rf (g.b (.inr (_, _)) h)
theorem RSls.chg {c' : Cg} (g : Chg c c' U U' H H') : ∀ {σ : St} {ρ : Env} {ps : Ps}, (∀ q, some q ∈ ps → ∀ o, H q = some o → H' q = some o) → RSls c U H σ ρ ps → RSls c' U' H' σ ρ ps
  | _, _, _, _, .nil => .nil
  | _, _, _, k, .cons h t => .cons (h.chg g fun q e => k q (e ▸ List.mem_cons_self)) (RSls.chg g (fun q z => k q (List.mem_cons_of_mem _ z)) t)
theorem RSls.get : ∀ {σ : St} {ρ : Env} {ps : Ps} {i : Nat} {s : Sl}, RSls c U H σ ρ ps → ρ[i]? = some s → ∃ x p, σ[i]? = some x ∧ ps[i]? = some p ∧ RSl c U H x s p
  | _, _, _, i, s, .nil, e => by simp at e
  | _, _, _, 0, s, .cons h _, e => by simp at e; subst e; exact ⟨_, _, rfl, rfl, h⟩
  | _, _, _, i + 1, s, .cons _ t, e => by
    obtain ⟨x, p, h1, h2, h3⟩ := RSls.get (i := i) t (by simpa using e)
    exact ⟨x, p, by simpa using h1, by simpa using h2, h3⟩
theorem RSls.set : ∀ {σ : St} {ρ : Env} {ps : Ps} (i : Nat) {x : Option V} {s : Sl} {p : Option Addr}, RSls c U H σ ρ ps → RSl c U H x s p → RSls c U H (σ.set i x) (ρ.set i s) (ps.set i p)
  | _, _, _, _, _, _, _, .nil, _ => .nil
  | _, _, _, 0, _, _, _, .cons _ t, q => .cons q t
  | _, _, _, i + 1, _, _, _, .cons h t, q => .cons h (RSls.set i t q)
theorem RSls.lens : ∀ {σ : St} {ρ : Env} {ps : Ps}, RSls c U H σ ρ ps → σ.length = ρ.length ∧ ps.length = ρ.length
  | _, _, _, .nil => ⟨rfl, rfl⟩
  | _, _, _, .cons _ t => by simp [(RSls.lens t).1, (RSls.lens t).2]
/-- all owned objects stand -/
theorem RSls.owned : ∀ {σ : St} {ρ : Env} {ps : Ps}, RSls c U H σ ρ ps → ∀ q, some q ∈ ps → H q ≠ none
  | _, _, _, .nil, q, z => by simp at z
  | _, _, _, .cons h t, q, z => by
    rcases List.mem_cons.mp z with e | z
    · cases h with
      | un => cases e
      | fz _ => cases e
      | rf _ => cases e
      | ow h => cases e; exact h.there
    · exact RSls.owned t q z
theorem SR.there (S : SR c W ps σ H ρ g) : ∀ a ∈ owns ps ++ W, H a ≠ none := fun a z => by
  rcases List.mem_append.mp z with z | z
  · exact S.sl.owned a (mem_owns.mp z)
  · exact S.old a z
theorem SR.bU (S : SR c W ps σ H ρ g) : ∀ b, c.β.ex b → b ∈ owns ps ++ W := fun b e => List.mem_append_right _ (S.bo b e)
/-- an expression has run -/
theorem SR.step (S : SR c W ps σ H ρ g) (f : Fr c.β H H') (b : Bx c.β H' g') : SR c W ps σ H' ρ g' := by
  refine ⟨S.sl.chg (Chg.grow f S.bU) (fun q z o e => f q o e fun y => S.dj q (mem_owns.mpr z) (S.bo q y)), S.nd, S.dj, fun a z => ?_, b, S.bo⟩
  by_cases hb : c.β.ex a
  · exact b.at hb
  · cases e : H a with
    | none => exact absurd e (S.old a z)
    | some o => rw [f a o e hb]; exact fun z => by cases z
end

/-! ### results -/
inductive Re (α : Type) where
  | ok (a : α) (g : G)
  | ex (n : Nat) (g : G)
  | no
def Re.bind {α β : Type} (r : Re α) (f : α → G → Re β) : Re β := match r with
  | .ok a g => f a g
  | .ex n g => .ex n g
  | .no => .no
@[simp] theorem Re.bind_ok {α β : Type} {a : α} {g : G} {f : α → G → Re β} : (Re.ok a g).bind f = f a g := (rfl)
@[simp] theorem Re.bind_ex {α β : Type} {n : Nat} {g : G} {f : α → G → Re β} : (Re.ex n g : Re α).bind f = .ex n g := (rfl)
@[simp] theorem Re.bind_no {α β : Type} {f : α → G → Re β} : (Re.no : Re α).bind f = .no := (rfl)
abbrev DE := Env → G → Re KD
abbrev DT := Env → G → Re Bool
abbrev DA := Env → G → Re (List KD)
inductive Fl where
  | nx (ρ : Env) | rt (k : Kd) (d : D) | bk (ρ : Env) | ct (ρ : Env)
abbrev DS := Env → G → Re Fl
abbrev DF := List D → G → Re KD

/-! ### the judgements -/
/-- what is wanted behind an expression whose result is r -/
def WantE (c : Cg) (W' : WX) (U : List Addr) (σ : St) (H : Hp) (Q : VK) : Re KD → Prop
  | .ok x g' => ∀ v H', Fr c.β H H' → Bx c.β H' g' → KR c U H x.1 H' v x.2 → Q v H'
  | .ex n g' => ∀ H', Fr c.β H H' → Bx c.β H' g' → W' (c.cl n) none σ H'
  | .no => False
def tE (c : Cg) (W' : WX) (ρ : Env) (g : G) (r : Re KD) : TE := fun σ H Q => ∃ W ps, SR c W ps σ H ρ g ∧ WantE c W' (owns ps ++ W) σ H Q r
def SE (c : Cg) (X : Cx) (W' : WX) (e : Expr) (δ : DE) : Prop := ∀ ρ g, PE X e (tE c W' ρ g (δ ρ g))
def WantT (c : Cg) (W' : WX) (σ : St) (H : Hp) (Q : Bool → Hp → Prop) : Re Bool → Prop
  | .ok b g' => ∀ H', Fr c.β H H' → Bx c.β H' g' → Q b H'
  | .ex n g' => ∀ H', Fr c.β H H' → Bx c.β H' g' → W' (c.cl n) none σ H'
  | .no => False
def tT (c : Cg) (W' : WX) (ρ : Env) (g : G) (r : Re Bool) : TT := fun σ H Q => ∃ W ps, SR c W ps σ H ρ g ∧ WantT c W' σ H Q r
def ST (c : Cg) (X : Cx) (W' : WX) (e : Expr) (δ : DT) : Prop := ∀ ρ g, PT X e (tT c W' ρ g (δ ρ g))
/-- arguments -/
abbrev KRs (c : Cg) (U : List Addr) (Hs H : Hp) : List V → List KD → Prop := Paired fun v x => KR c U Hs x.1 H v x.2
def WantA (c : Cg) (W' : WX) (U : List Addr) (σ : St) (H : Hp) (Q : List V → Hp → Prop) : Re (List KD) → Prop
  | .ok xs g' => ∀ vs H', Fr c.β H H' → Bx c.β H' g' → KRs c U H H' vs xs → Q vs H'
  | .ex n g' => ∀ H', Fr c.β H H' → Bx c.β H' g' → W' (c.cl n) none σ H'
  | .no => False
def tA (c : Cg) (W' : WX) (ρ : Env) (g : G) (r : Re (List KD)) : TA := fun σ H Q => ∃ W ps, SR c W ps σ H ρ g ∧ WantA c W' (owns ps ++ W) σ H Q r
def SA (c : Cg) (X : Cx) (W' : WX) (es : List Expr) (δ : DA) : Prop := ∀ ρ g, PA X es (tA c W' ρ g (δ ρ g))

theorem PE.imp {X : Cx} {e : Expr} {t t' : TE} (h : PE X e t) (i : ∀ σ H Q, t' σ H Q → t σ H Q) : PE X e t' := ⟨fun pins s σ H Q I q => h.run pins s σ H Q I (i σ H Q q)⟩
theorem PT.imp {X : Cx} {e : Expr} {t t' : TT} (h : PT X e t) (i : ∀ σ H Q, t' σ H Q → t σ H Q) : PT X e t' := ⟨fun pins s σ H Q I q => h.run pins s σ H Q I (i σ H Q q)⟩
theorem PA.imp {X : Cx} {e : List Expr} {t t' : TA} (h : PA X e t) (i : ∀ σ H Q, t' σ H Q → t σ H Q) : PA X e t' := ⟨fun pos pins s σ H Q I q => h.run pos pins s σ H Q I (i σ H Q q)⟩
theorem PS.imp {X : Cx} {e : Stmt} {t t' : TS} (h : PS X e t) (i : ∀ D σ H, t' D σ H → t D σ H) : PS X e t' := ⟨fun pins s σ H D I q => h.run pins s σ H D I (i D σ H q)⟩
theorem PSs.imp {X : Cx} {e : List Stmt} {t t' : TS} (h : PSs X e t) (i : ∀ D σ H, t' D σ H → t D σ H) : PSs X e t' := ⟨fun pins s σ H D I q => h.run pins s σ H D I (i D σ H q)⟩
theorem PW.imp {X : Cx} {e : Expr} {t t' : TT} (h : PW X e t) (i : ∀ σ H Q, t' σ H Q → t σ H Q) : PW X e t' := ⟨fun wh pins s σ H Q I q => h.run wh pins s σ H Q I (i σ H Q q)⟩
theorem PE.no {X : Cx} {e : Expr} {t : TE} (i : ∀ σ H Q, ¬ t σ H Q) : PE X e t := ⟨fun pins s σ H Q I q => (i σ H Q q).elim⟩
theorem PT.no {X : Cx} {e : Expr} {t : TT} (i : ∀ σ H Q, ¬ t σ H Q) : PT X e t := ⟨fun pins s σ H Q I q => (i σ H Q q).elim⟩
theorem PA.no {X : Cx} {e : List Expr} {t : TA} (i : ∀ σ H Q, ¬ t σ H Q) : PA X e t := ⟨fun pos pins s σ H Q I q => (i σ H Q q).elim⟩
theorem PS.no {X : Cx} {e : Stmt} {t : TS} (i : ∀ D σ H, ¬ t D σ H) : PS X e t := ⟨fun pins s σ H D I q => (i D σ H q).elim⟩
end Dn

set_option Elab.async false
set_option linter.all false
set_option maxRecDepth 100000
/-! E2: expressions: names, constants, operators, tests, displays, subscripts, slices, calls. -/
namespace Dn
open PySem L2

section
variable {c : Cg} {X : Cx} {W' : WX} {pos : Pos}

theorem SR.kr {W : List Addr} {ps : Ps} {σ : St} {H H' : Hp} {ρ : Env} {g : G} (S : SR c W ps σ H ρ g) (f : Fr c.β H H') : Chg c c (owns ps ++ W) (owns ps ++ W) H H' := Chg.grow f S.bU
theorem ext_fr {β : Bs} {H H' : Hp} (f : ∀ a o, H a = some o → H' a = some o) : Fr β H H' := fun a o e _ => f a o e
theorem tE.no' {ρ : Env} {g : G} {σ : St} {H : Hp} {Q : VK} (h : tE c W' ρ g .no σ H Q) : False := by
  obtain ⟨_, _, _, h⟩ := h
  exact h
theorem tT.no' {ρ : Env} {g : G} {σ : St} {H : Hp} {Q : Bool → Hp → Prop} (h : tT c W' ρ g .no σ H Q) : False := by
  obtain ⟨_, _, _, h⟩ := h
  exact h
theorem tA.no' {ρ : Env} {g : G} {σ : St} {H : Hp} {Q : List V → Hp → Prop} (h : tA c W' ρ g .no σ H Q) : False := by
  obtain ⟨_, _, _, h⟩ := h
  exact h
/-- what stands for a value before a step that keeps all but the box stands for it behind it -/
theorem SR.keepRB {W : List Addr} {ps : Ps} {σ : St} {H H' : Hp} {ρ : Env} {g : G} {v : V} {d : D} (S : SR c W ps σ H ρ g) (f : Fr c.β H H') (h : RB c (owns ps ++ W) H v d) : RB c (owns ps ++ W) H' v d := by
  rcases h with h | ⟨p, rfl, hb, h⟩
  · exact .inl (h.chg (S.kr f) d v)
  · exact .inr ⟨p, rfl, hb, h.chg (S.kr f) fun o e => f p o e hb⟩
/-- a kind told at a later start -/
theorem KR.back {U : List Addr} {H0 H1 H : Hp} {k : Kd} {v : V} {d : D} (f : Fr c.β H0 H1) (h : KR c U H1 k H v d) : KR c U H0 k H v d := by
  cases k with
  | fz => exact h
  | bw => exact h
  | fr =>
    obtain ⟨p, rfl, h1, hb, h2, h3⟩ := h
    exact ⟨p, rfl, f.free hb h1, hb, h2, h3⟩
theorem OpR.none {f : Value → Value → Sem Value} : OpR X f (fun _ _ _ _ => False) := fun _ _ _ _ _ _ _ _ _ _ _ _ h => h.elim

/-! ### names, constants -/
def dvar (i : Nat) : DE := fun ρ g => match ρ[i]? with
  | some (.fz d) => .ok (.fz, d) g
  | some (.ow d) => .ok (.bw, d) g
  | _ => .no
theorem se_var (i : Nat) {x : Str} {pos : Pos} (hN : X.N[i]? = some x := by rfl) (hv : Vis X.env.scope x := by first | exact Or.inl rfl | exact Or.inr (Or.inl rfl) | exact Or.inr (Or.inr rfl)) (hd : (x == ("__debug__" : Str)) = false := by decide)
    (hcd : (x == ("__classdict__" : Str)) = false := by decide) : SE c X W' (.Name x pos) (dvar i) := fun ρ g => by
  refine PE.imp (pe_var (i := i) hN hv hd hcd) fun σ H Q h => ?_
  obtain ⟨W, ps, S, h⟩ := h
  unfold dvar at h
  cases e : ρ[i]? with
  | none => rw [e] at h; exact h.elim
  | some s =>
    rw [e] at h
    obtain ⟨x, p, h1, h2, h3⟩ := S.sl.get e
    cases h3 with
    | un => exact h.elim
    | rf _ => exact h.elim
    | fz r => exact ⟨_, h1, h _ H (Fr.refl _ _) S.bx r⟩
    | ow r =>
      rename_i q d
      refine ⟨_, h1, h _ H (Fr.refl _ _) S.bx (.inr ⟨_, rfl, fun z => ?_, r⟩)⟩
      exact S.dj q (mem_owns.mpr (List.mem_of_getElem? h2)) (S.bo _ z)
def dlit (d : D) : DE := fun _ g => .ok (.fz, d) g
theorem se_C {e : Expr} {v : V} {d : D} (h : PE X e (tC v)) (r : ∀ U H, R c U H v d) : SE c X W' e (dlit d) := fun ρ g =>
  PE.imp h fun σ H Q ⟨W, ps, S, h⟩ => h v H (Fr.refl _ _) S.bx (r _ _)
theorem se_int {i j pos} : SE c X W' (.Constant (.int i) j pos) (dlit (.int i)) := se_C pe_int fun _ _ => .int i
theorem se_bl {b j pos} : SE c X W' (.Constant (.bool b) j pos) (dlit (.bl b)) := se_C pe_bl fun _ _ => .bl b
theorem se_str {x j pos} : SE c X W' (.Constant (.str x) j pos) (dlit (.str x)) := se_C pe_str fun _ _ => .str x
theorem se_non {j pos} : SE c X W' (.Constant .none j pos) (dlit .non) := se_C pe_non fun _ _ => .non
/-- a constant of the module -/
theorem se_glob {x : Str} {u : Value} {v : V} {d : D} (hg : Gl X x) (hm : X.mg x = some u) (r : RelV v u) (rd : ∀ U H, R c U H v d) (hd : (x == ("__debug__" : Str)) = false := by decide) : SE c X W' (.Name x pos) (dlit d) := se_C (pe_glob hg hm r hd) rd

/-! ### operators -/
def d2 (op : D → D → Option KD) (a b : DE) : DE := fun ρ g => (a ρ g).bind fun x g => (b ρ g).bind fun y g => match op x.2 y.2 with | some z => .ok z g | none => .no
/-- the reading of an operation on values whose data are d1 and d2, with the result z -/
def rr2 (c : Cg) (z : KD) (d1 d2 : D) : R2 := fun x y H Q => ∃ U, (∀ a ∈ U, H a ≠ none) ∧ (∀ b, c.β.ex b → b ∈ U) ∧ RB c U H x d1 ∧ RB c U H y d2 ∧ ∀ v H', (∀ a o, H a = some o → H' a = some o) → KR c U H z.1 H' v z.2 → Q v H'
def OpS (c : Cg) (X : Cx) (f : Value → Value → Sem Value) (op : D → D → Option KD) : Prop := ∀ d1 d2 z, op d1 d2 = some z → OpR X f (rr2 c z d1 d2)
/-- two values, one behind the other: what tOp asks -/
theorem two_of {a b : DE} {op : D → D → Option KD} {ρ : Env} {g g1 g2 : G} {x y z : KD} {σ : St} {H : Hp} {Q : VK} (ea : a ρ g = .ok x g1) (eb : b ρ g1 = .ok y g2) (eo : op x.2 y.2 = some z) (h : tE c W' ρ g (d2 op a b ρ g) σ H Q) :
    tOp (rr2 c z x.2 y.2) (tE c W' ρ g (a ρ g)) (tE c W' ρ g1 (b ρ g1)) σ H Q := by
  obtain ⟨W, ps, S, h⟩ := h
  have hd : d2 op a b ρ g = .ok z g2 := by
    unfold d2
    rw [ea, Re.bind_ok, eb, Re.bind_ok, eo]
  rw [hd] at h
  rw [ea, eb]
  refine ⟨W, ps, S, fun v1 H1 f1 b1 k1 => ?_⟩
  have S1 := S.step f1 b1
  refine ⟨W, ps, S1, fun v2 H2 f2 b2 k2 => ?_⟩
  have S2 := S1.step f2 b2
  refine ⟨owns ps ++ W, S2.there, S2.bU, S1.keepRB f2 k1.toRB, k2.toRB, fun v H' k hz => ?_⟩
  exact h v H' ((f1.trans f2).trans (ext_fr k)) (b2.fr k) (KR.back (f1.trans f2) hz)
theorem two_r {op : D → D → Option KD} {da db : DE} (Good : R2 → Prop) (h0 : Good fun _ _ _ _ => False) (h1 : ∀ d1 d2 z, op d1 d2 = some z → Good (rr2 c z d1 d2)) (ρ : Env) (g : G) :
    ∃ r g1, Good r ∧ ∀ σ H Q, tE c W' ρ g (d2 op da db ρ g) σ H Q → tOp r (tE c W' ρ g (da ρ g)) (tE c W' ρ g1 (db ρ g1)) σ H Q := by
  cases ea : da ρ g with
  | no => exact ⟨_, g, h0, fun σ H Q h => by unfold d2 at h; rw [ea] at h; exact h.no'.elim⟩
  | ex n g1 =>
    refine ⟨_, g, h0, fun σ H Q h => ?_⟩
    unfold d2 at h
    rw [ea] at h
    exact h
  | ok x g1 =>
    cases eb : db ρ g1 with
    | no => exact ⟨_, g1, h0, fun σ H Q h => by unfold d2 at h; rw [ea, Re.bind_ok, eb] at h; exact h.no'.elim⟩
    | ex n g2 =>
      refine ⟨_, g1, h0, fun σ H Q h => ?_⟩
      unfold d2 at h
      rw [ea, Re.bind_ok, eb] at h
      obtain ⟨W, ps, S, h⟩ := h
      show tE c W' ρ g _ σ H fun x H1 => tE c W' ρ g1 (db ρ g1) σ H1 _
      rw [eb]
      exact ⟨W, ps, S, fun v1 H1 f1 b1 k1 => ⟨W, ps, S.step f1 b1, fun H2 f2 b2 => h H2 (f1.trans f2) b2⟩⟩
    | ok y g2 =>
      cases eo : op x.2 y.2 with
      | none => exact ⟨_, g1, h0, fun σ H Q h => by unfold d2 at h; rw [ea, Re.bind_ok, eb, Re.bind_ok, eo] at h; exact h.no'.elim⟩
      | some z => exact ⟨_, g1, h1 _ _ _ eo, fun σ H Q h => by
          have q := two_of ea eb eo h
          rw [ea] at q
          exact q⟩
theorem se_bin {op : D → D → Option KD} {aop : Operator} {a b : Expr} {da db : DE} (ho : OpS c X (binaryOp aop) op) (ha : SE c X W' a da) (hb : SE c X W' b db) : SE c X W' (.BinOp a aop b pos) (d2 op da db) := fun ρ g => by
  obtain ⟨r, g1, hr, i⟩ := two_r (c := c) (W' := W') (da := da) (db := db) (fun r => OpR X (binaryOp aop) r) OpR.none ho ρ g
  exact PE.imp (pe_op hr (ha ρ g) (hb ρ g1)) i
theorem se_cmp {op : D → D → Option KD} {aop : CmpOp} {a b : Expr} {da db : DE} (ho : OpS c X (compareOp aop) op) (ha : SE c X W' a da) (hb : SE c X W' b db) (hm : behindInMarks aop b = false := by first | exact nomark _ | rfl) : SE c X W' (.Compare a [aop] [b] pos) (d2 op da db) := fun ρ g => by
  obtain ⟨r, g1, hr, i⟩ := two_r (c := c) (W' := W') (da := da) (db := db) (fun r => OpR X (compareOp aop) r) OpR.none ho ρ g
  exact PE.imp (pe_cmpR hr (ha ρ g) (hb ρ g1) hm) i
/-- a subscript -/
def IxS (c : Cg) (X : Cx) (op : D → D → Option KD) : Prop := ∀ d1 d2 z, op d1 d2 = some z → IxR X (rr2 c z d1 d2)
theorem se_ix {op : D → D → Option KD} {a b : Expr} {da db : DE} (ho : IxS c X op) (ha : SE c X W' a da) (hb : SE c X W' b db) (hs : PlainIx b := by exact fun _ _ => rfl) : SE c X W' (.Subscript a b pos) (d2 op da db) := fun ρ g => by
  obtain ⟨r, g1, hr, i⟩ := two_r (c := c) (W' := W') (da := da) (db := db) (fun r => IxR X r) (fun _ _ _ _ _ _ _ _ _ _ _ _ _ _ h _ => h.elim) ho ρ g
  exact PE.imp (pe_ix hr (ha ρ g) (hb ρ g1) hs) i

/-! ### tests -/
def dtv (a : DE) : DT := fun ρ g => (a ρ g).bind fun x g => match x.2 with | .bl b => .ok b g | _ => .no
theorem KR.isbl {U : List Addr} {Hs H : Hp} {k : Kd} {v : V} {b : Bool} (h : KR c U Hs k H v (.bl b)) : v = .bl b := by
  rcases h.toRB with h | ⟨p, _, _, h⟩
  · cases h; rfl
  · exact h.elim
theorem KR.isint {U : List Addr} {Hs H : Hp} {k : Kd} {v : V} {i : Int} (h : KR c U Hs k H v (.int i)) : v = .int i := by
  rcases h.toRB with h | ⟨p, _, _, h⟩
  · cases h; rfl
  · exact h.elim
theorem tT_dtv {a : DE} {ρ : Env} {g : G} {σ : St} {H : Hp} {Q : Bool → Hp → Prop} (h : tT c W' ρ g (dtv a ρ g) σ H Q) : tE c W' ρ g (a ρ g) σ H fun x H' => ∃ k, x = .bl k ∧ Q k H' := by
  obtain ⟨W, ps, S, h⟩ := h
  refine ⟨W, ps, S, ?_⟩
  unfold dtv at h
  cases ea : a ρ g with
  | no => rw [ea] at h; exact h.elim
  | ex n g1 => rw [ea] at h; exact h
  | ok x g1 =>
    rw [ea, Re.bind_ok] at h
    obtain ⟨k, d⟩ := x
    cases d with
    | bl b => exact fun v H' f b' hk => ⟨b, hk.isbl, h H' f b'⟩
    | _ => exact h.elim
theorem st_cmp {op : D → D → Option KD} {aop : CmpOp} {a b : Expr} {da db : DE} (ho : OpS c X (compareOp aop) op) (ha : SE c X W' a da) (hb : SE c X W' b db) (hm : behindInMarks aop b = false := by first | exact nomark _ | rfl) : ST c X W' (.Compare a [aop] [b] pos) (dtv (d2 op da db)) := fun ρ g => by
  obtain ⟨r, g1, hr, i⟩ := two_r (c := c) (W' := W') (da := da) (db := db) (fun r => OpR X (compareOp aop) r) OpR.none ho ρ g
  exact PT.imp (pt_cmpR hr (ha ρ g) (hb ρ g1) hm) fun σ H Q h => i σ H _ (tT_dtv h)
theorem st_val {e : Expr} {a : DE} (h : SE c X W' e a) (he : ∀ whole, isTrue e X.env whole = (do let v ← whole; standAt e.pos; holding [v] (truthy v)) := by intro _; rfl) : ST c X W' e (dtv a) := fun ρ g =>
  PT.imp (pt_val (h ρ g) he) fun σ H Q h => tT_dtv h
def dnot (a : DT) : DT := fun ρ g => (a ρ g).bind fun b g => .ok (!b) g
theorem st_not {a : Expr} {da : DT} (ha : ST c X W' a da) : ST c X W' (.UnaryOp .Not a pos) (dnot da) := fun ρ g =>
  PT.imp (pt_not (ha ρ g)) fun σ H Q ⟨W, ps, S, h⟩ => by
    refine ⟨W, ps, S, ?_⟩
    unfold dnot at h
    cases ea : da ρ g with
    | no => rw [ea] at h; exact h.elim
    | ex n g1 => rw [ea] at h; exact h
    | ok x g1 => rw [ea, Re.bind_ok] at h; exact h
def SW (c : Cg) (X : Cx) (W' : WX) (e : Expr) (δ : DT) : Prop := ∀ ρ g, PW X e (tT c W' ρ g (δ ρ g))
theorem st_W {e : Expr} {δ : DT} (h : SW c X W' e δ) : ST c X W' e δ := fun ρ g => (h ρ g).pt
def dand (a b : DT) : DT := fun ρ g => (a ρ g).bind fun x g => if x = true then b ρ g else .ok false g
def dor (a b : DT) : DT := fun ρ g => (a ρ g).bind fun x g => if x = true then .ok true g else b ρ g
theorem sw_and1 {a : Expr} {da : DT} (ha : ST c X W' a da) : SW c X W' (.BoolOp .And [a] pos) da := fun ρ g => pw_and1 (ha ρ g)
theorem sw_or1 {a : Expr} {da : DT} (ha : ST c X W' a da) : SW c X W' (.BoolOp .Or [a] pos) da := fun ρ g => pw_or1 (ha ρ g)
theorem sw_and {a b : Expr} {rest : List Expr} {da db : DT} (ha : ST c X W' a da) (hb : SW c X W' (.BoolOp .And (b :: rest) pos) db) : SW c X W' (.BoolOp .And (a :: b :: rest) pos) (dand da db) := fun ρ g => by
  cases ea : da ρ g with
  | no => exact PW.imp (pw_and (ha ρ g) (hb ρ g)) fun σ H Q h => by unfold dand at h; rw [ea] at h; exact h.no'.elim
  | ex n g1 =>
    exact PW.imp (pw_and (ha ρ g) (hb ρ g)) fun σ H Q h => by
      unfold dand at h
      rw [ea] at h
      show tT c W' ρ g (da ρ g) σ H _
      rw [ea]
      exact h
  | ok x g1 =>
    exact PW.imp (pw_and (ha ρ g) (hb ρ g1)) fun σ H Q h => by
      unfold dand at h
      rw [ea, Re.bind_ok] at h
      obtain ⟨W, ps, S, h⟩ := h
      show tT c W' ρ g (da ρ g) σ H _
      rw [ea]
      refine ⟨W, ps, S, fun H1 f1 b1 => ?_⟩
      cases x with
      | false =>
        rw [if_neg Bool.false_ne_true] at h ⊢
        exact h H1 f1 b1
      | true =>
        rw [if_pos rfl] at h ⊢
        refine ⟨W, ps, S.step f1 b1, ?_⟩
        cases eb : db ρ g1 with
        | no => rw [eb] at h; exact h
        | ex n g2 => rw [eb] at h; exact fun H2 f2 b2 => h H2 (f1.trans f2) b2
        | ok y g2 => rw [eb] at h; exact fun H2 f2 b2 => h H2 (f1.trans f2) b2
theorem sw_or {a b : Expr} {rest : List Expr} {da db : DT} (ha : ST c X W' a da) (hb : SW c X W' (.BoolOp .Or (b :: rest) pos) db) : SW c X W' (.BoolOp .Or (a :: b :: rest) pos) (dor da db) := fun ρ g => by
  cases ea : da ρ g with
  | no => exact PW.imp (pw_or (ha ρ g) (hb ρ g)) fun σ H Q h => by unfold dor at h; rw [ea] at h; exact h.no'.elim
  | ex n g1 =>
    exact PW.imp (pw_or (ha ρ g) (hb ρ g)) fun σ H Q h => by
      unfold dor at h
      rw [ea] at h
      show tT c W' ρ g (da ρ g) σ H _
      rw [ea]
      exact h
  | ok x g1 =>
    exact PW.imp (pw_or (ha ρ g) (hb ρ g1)) fun σ H Q h => by
      unfold dor at h
      rw [ea, Re.bind_ok] at h
      obtain ⟨W, ps, S, h⟩ := h
      show tT c W' ρ g (da ρ g) σ H _
      rw [ea]
      refine ⟨W, ps, S, fun H1 f1 b1 => ?_⟩
      cases x with
      | true =>
        rw [if_pos rfl] at h ⊢
        exact h H1 f1 b1
      | false =>
        rw [if_neg Bool.false_ne_true] at h ⊢
        refine ⟨W, ps, S.step f1 b1, ?_⟩
        cases eb : db ρ g1 with
        | no => rw [eb] at h; exact h
        | ex n g2 => rw [eb] at h; exact fun H2 f2 b2 => h H2 (f1.trans f2) b2
        | ok y g2 => rw [eb] at h; exact fun H2 f2 b2 => h H2 (f1.trans f2) b2
/-- behind a first part that has run -/
theorem WantE.later {U : List Addr} {σ : St} {H H1 : Hp} {Q : VK} {r : Re KD} (f : Fr c.β H H1) (h : WantE c W' U σ H Q r) : WantE c W' U σ H1 Q r := by
  cases r with
  | no => exact h
  | ex n g => exact fun H2 f2 b2 => h H2 (f.trans f2) b2
  | ok x g => exact fun v H2 f2 b2 k => h v H2 (f.trans f2) b2 (KR.back f k)
theorem WantT.later {σ : St} {H H1 : Hp} {Q : Bool → Hp → Prop} {r : Re Bool} (f : Fr c.β H H1) (h : WantT c W' σ H Q r) : WantT c W' σ H1 Q r := by
  cases r with
  | no => exact h
  | ex n g => exact fun H2 f2 b2 => h H2 (f.trans f2) b2
  | ok x g => exact fun H2 f2 b2 => h H2 (f.trans f2) b2
/-- and, or, not as values (of truth values) -/
def dandv (a b : DE) : DE := fun ρ g => (a ρ g).bind fun x g => match x.2 with | .bl true => b ρ g | .bl false => .ok (.fz, .bl false) g | _ => .no
def dorv (a b : DE) : DE := fun ρ g => (a ρ g).bind fun x g => match x.2 with | .bl true => .ok (.fz, .bl true) g | .bl false => b ρ g | _ => .no
def dnotv (a : DE) : DE := fun ρ g => (a ρ g).bind fun x g => match x.2 with | .bl b => .ok (.fz, .bl (!b)) g | _ => .no
theorem se_one {op} {a : Expr} {da : DE} (ha : SE c X W' a da) : SE c X W' (.BoolOp op [a] pos) da := fun ρ g => pe_one (ha ρ g)
theorem se_and {a b : Expr} {rest : List Expr} {da db : DE} (ha : SE c X W' a da) (hb : SE c X W' (.BoolOp .And (b :: rest) pos) db) : SE c X W' (.BoolOp .And (a :: b :: rest) pos) (dandv da db) := fun ρ g => by
  cases ea : da ρ g with
  | no => exact PE.imp (pe_and (ha ρ g) (hb ρ g)) fun σ H Q h => by unfold dandv at h; rw [ea] at h; exact h.no'.elim
  | ex n g1 =>
    exact PE.imp (pe_and (ha ρ g) (hb ρ g)) fun σ H Q h => by
      unfold dandv at h
      rw [ea] at h
      show tE c W' ρ g (da ρ g) σ H _
      rw [ea]
      exact h
  | ok x g1 =>
    exact PE.imp (pe_and (ha ρ g) (hb ρ g1)) fun σ H Q h => by
      unfold dandv at h
      rw [ea, Re.bind_ok] at h
      obtain ⟨W, ps, S, h⟩ := h
      show tE c W' ρ g (da ρ g) σ H _
      rw [ea]
      refine ⟨W, ps, S, fun v H1 f1 b1 k => ?_⟩
      obtain ⟨kx, d⟩ := x
      cases d with
      | bl t =>
        refine ⟨t, k.isbl, ?_⟩
        cases t with
        | false =>
          rw [if_neg Bool.false_ne_true]
          exact h _ H1 f1 b1 (R.bl _)
        | true =>
          rw [if_pos rfl]
          exact ⟨W, ps, S.step f1 b1, WantE.later f1 h⟩
      | _ => exact h.elim
theorem se_or {a b : Expr} {rest : List Expr} {da db : DE} (ha : SE c X W' a da) (hb : SE c X W' (.BoolOp .Or (b :: rest) pos) db) : SE c X W' (.BoolOp .Or (a :: b :: rest) pos) (dorv da db) := fun ρ g => by
  cases ea : da ρ g with
  | no => exact PE.imp (pe_or (ha ρ g) (hb ρ g)) fun σ H Q h => by unfold dorv at h; rw [ea] at h; exact h.no'.elim
  | ex n g1 =>
    exact PE.imp (pe_or (ha ρ g) (hb ρ g)) fun σ H Q h => by
      unfold dorv at h
      rw [ea] at h
      show tE c W' ρ g (da ρ g) σ H _
      rw [ea]
      exact h
  | ok x g1 =>
    exact PE.imp (pe_or (ha ρ g) (hb ρ g1)) fun σ H Q h => by
      unfold dorv at h
      rw [ea, Re.bind_ok] at h
      obtain ⟨W, ps, S, h⟩ := h
      show tE c W' ρ g (da ρ g) σ H _
      rw [ea]
      refine ⟨W, ps, S, fun v H1 f1 b1 k => ?_⟩
      obtain ⟨kx, d⟩ := x
      cases d with
      | bl t =>
        refine ⟨t, k.isbl, ?_⟩
        cases t with
        | true =>
          rw [if_pos rfl]
          exact h _ H1 f1 b1 (R.bl _)
        | false =>
          rw [if_neg Bool.false_ne_true]
          exact ⟨W, ps, S.step f1 b1, WantE.later f1 h⟩
      | _ => exact h.elim
theorem se_not {a : Expr} {da : DE} (ha : SE c X W' a da) : SE c X W' (.UnaryOp .Not a pos) (dnotv da) := fun ρ g =>
  PE.imp (pe_not (ha ρ g)) fun σ H Q ⟨W, ps, S, h⟩ => by
    refine ⟨W, ps, S, ?_⟩
    unfold dnotv at h
    cases ea : da ρ g with
    | no => rw [ea] at h; exact h.elim
    | ex n g1 => rw [ea] at h; exact h
    | ok x g1 =>
      rw [ea, Re.bind_ok] at h
      obtain ⟨kx, d⟩ := x
      cases d with
      | bl t => exact fun v H1 f1 b1 k => ⟨t, k.isbl, h _ H1 f1 b1 (R.bl _)⟩
      | _ => exact h.elim
/-- a if t else b -/
def dite' (t : DT) (a b : DE) : DE := fun ρ g => (t ρ g).bind fun x g => if x = true then a ρ g else b ρ g
theorem se_ite {t a b : Expr} {dt : DT} {da db : DE} (ht : ST c X W' t dt) (ha : SE c X W' a da) (hb : SE c X W' b db) : SE c X W' (.IfExp t a b pos) (dite' dt da db) := fun ρ g => by
  cases ea : dt ρ g with
  | no => exact PE.imp (pe_ifExp (ht ρ g) (ha ρ g) (hb ρ g)) fun σ H Q h => by unfold dite' at h; rw [ea] at h; exact h.no'.elim
  | ex n g1 =>
    exact PE.imp (pe_ifExp (ht ρ g) (ha ρ g) (hb ρ g)) fun σ H Q h => by
      unfold dite' at h
      rw [ea] at h
      show tT c W' ρ g (dt ρ g) σ H _
      rw [ea]
      exact h
  | ok x g1 =>
    exact PE.imp (pe_ifExp (ht ρ g) (ha ρ g1) (hb ρ g1)) fun σ H Q h => by
      unfold dite' at h
      rw [ea, Re.bind_ok] at h
      obtain ⟨W, ps, S, h⟩ := h
      show tT c W' ρ g (dt ρ g) σ H _
      rw [ea]
      refine ⟨W, ps, S, fun H1 f1 b1 => ?_⟩
      cases x with
      | true =>
        rw [if_pos rfl] at h ⊢
        exact ⟨W, ps, S.step f1 b1, WantE.later f1 h⟩
      | false =>
        rw [if_neg Bool.false_ne_true] at h ⊢
        exact ⟨W, ps, S.step f1 b1, WantE.later f1 h⟩
/-- one value -/
def d1 (op : D → Option KD) (a : DE) : DE := fun ρ g => (a ρ g).bind fun x g => match op x.2 with | some z => .ok z g | none => .no
def rr1 (c : Cg) (z : KD) (d : D) : V → Hp → VK → Prop := fun x H Q => ∃ U, (∀ a ∈ U, H a ≠ none) ∧ (∀ b, c.β.ex b → b ∈ U) ∧ RB c U H x d ∧ ∀ v H', (∀ a o, H a = some o → H' a = some o) → KR c U H z.1 H' v z.2 → Q v H'
def UnS (c : Cg) (X : Cx) (f : Value → Sem Value) (op : D → Option KD) : Prop := ∀ d z, op d = some z → UnR X f (rr1 c z d)
theorem se_un {op : D → Option KD} {aop : UnaryOp} {a : Expr} {da : DE} (ho : UnS c X (unaryOp aop) op) (ha : SE c X W' a da) : SE c X W' (.UnaryOp aop a pos) (d1 op da) := fun ρ g => by
  have h0 : UnR X (unaryOp aop) (fun _ _ _ => False) := fun _ _ _ _ _ _ _ _ _ h => h.elim
  cases ea : da ρ g with
  | no => exact PE.no fun σ H Q h => by unfold d1 at h; rw [ea] at h; exact h.no'
  | ex n g1 =>
    refine PE.imp (pe_un h0 (ha ρ g)) fun σ H Q h => ?_
    unfold d1 at h
    rw [ea] at h
    show tE c W' ρ g (da ρ g) σ H _
    rw [ea]
    exact h
  | ok x g1 =>
    cases eo : op x.2 with
    | none => exact PE.no fun σ H Q h => by unfold d1 at h; rw [ea, Re.bind_ok, eo] at h; exact h.no'
    | some z =>
      refine PE.imp (pe_un (ho _ _ eo) (ha ρ g)) fun σ H Q h => ?_
      unfold d1 at h
      rw [ea, Re.bind_ok, eo] at h
      obtain ⟨W, ps, S, h⟩ := h
      show tE c W' ρ g (da ρ g) σ H _
      rw [ea]
      refine ⟨W, ps, S, fun v H1 f1 b1 k => ?_⟩
      have S1 := S.step f1 b1
      exact ⟨owns ps ++ W, S1.there, S1.bU, k.toRB, fun v' H' kk hz => h v' H' (f1.trans (ext_fr kk)) (b1.fr kk) (KR.back f1 hz)⟩

/-! ### arguments, displays -/
def dnil : DA := fun _ g => .ok [] g
def dcons (a : DE) (as : DA) : DA := fun ρ g => (a ρ g).bind fun x g => (as ρ g).bind fun xs g => .ok (x :: xs) g
theorem sa_nil : SA c X W' [] dnil := fun ρ g => PA.imp pa_nil fun σ H Q ⟨W, ps, S, h⟩ => h [] H (Fr.refl _ _) S.bx .nil
theorem SR.keepKR {W : List Addr} {ps : Ps} {σ : St} {Hs H H' : Hp} {ρ : Env} {g : G} {k : Kd} {v : V} {d : D} (S : SR c W ps σ H ρ g) (f : Fr c.β H H') (h : KR c (owns ps ++ W) Hs k H v d) : KR c (owns ps ++ W) Hs k H' v d := by
  cases k with
  | fz => exact h.chg (S.kr f) d v
  | bw => exact S.keepRB f h
  | fr =>
    obtain ⟨p, rfl, h1, hb, h2, h3⟩ := h
    refine ⟨p, rfl, h1, hb, h2, h3.chg (Chg.grow f fun b e => List.mem_cons_of_mem _ (S.bU b e)) fun o e => f p o e hb⟩
theorem sa_cons {e : Expr} {es : List Expr} {a : DE} {as : DA} (ha : SE c X W' e a) (has : SA c X W' es as) (hs : starEach (e :: es) X.env = (false, eval e X.env) :: starEach es X.env := by rfl) : SA c X W' (e :: es) (dcons a as) := fun ρ g => by
  cases ea : a ρ g with
  | no => exact PA.no fun σ H Q h => by unfold dcons at h; rw [ea] at h; exact h.no'
  | ex n g1 =>
    refine PA.imp (pa_cons (ha ρ g) (has ρ g) hs) fun σ H Q h => ?_
    unfold dcons at h
    rw [ea] at h
    show tE c W' ρ g (a ρ g) σ H _
    rw [ea]
    exact h
  | ok x g1 =>
    refine PA.imp (pa_cons (ha ρ g) (has ρ g1) hs) fun σ H Q h => ?_
    unfold dcons at h
    rw [ea, Re.bind_ok] at h
    obtain ⟨W, ps, S, h⟩ := h
    show tE c W' ρ g (a ρ g) σ H _
    rw [ea]
    refine ⟨W, ps, S, fun v H1 f1 b1 k1 => ⟨W, ps, S.step f1 b1, ?_⟩⟩
    cases eb : as ρ g1 with
    | no => rw [eb] at h; exact h
    | ex n g2 => rw [eb] at h; exact fun H2 f2 b2 => h H2 (f1.trans f2) b2
    | ok xs g2 =>
      rw [eb] at h
      refine fun vs H2 f2 b2 ks => h (v :: vs) H2 (f1.trans f2) b2 (.cons ((S.step f1 b1).keepKR f2 k1) ?_)
      exact L2.Paired.mapP ks fun _ _ q => KR.back f1 q
/-- the values of arguments that are nobody's -/
def vals : List KD → Option (List D)
  | [] => some []
  | (.bw, _) :: _ => none
  | (_, d) :: xs => (vals xs).map (d :: ·)
@[simp] theorem vals_nil : vals [] = some [] := (rfl)
@[simp] theorem vals_fz {d : D} {xs : List KD} : vals ((.fz, d) :: xs) = (vals xs).map (d :: ·) := (rfl)
@[simp] theorem vals_fr {d : D} {xs : List KD} : vals ((.fr, d) :: xs) = (vals xs).map (d :: ·) := (rfl)
theorem vals_rs {U : List Addr} {Hs H : Hp} : ∀ {xs : List KD} {vs : List V} {ds : List D}, vals xs = some ds → KRs c U Hs H vs xs → Rs c U H vs ds
  | [], _, _, e, .nil => by cases e; exact .nil
  | (k, d) :: xs, _, dd, e, .cons h t => by
    have hk : k ≠ .bw := fun z => by subst z; cases e
    have e' : (vals xs).map (d :: ·) = some dd := by
      cases k with
      | fz => exact e
      | fr => exact e
      | bw => exact absurd rfl hk
    cases q : vals xs with
    | none => rw [q] at e'; cases e'
    | some ds' =>
      rw [q] at e'
      cases e'
      exact .cons (h.toR hk) (vals_rs q t)
def dtup (as : DA) : DE := fun ρ g => (as ρ g).bind fun xs g => match vals xs with
  | some ds => if ds.length ≤ 1000 then .ok (.fz, .tup ds) g else .no
  | none => .no
def dlst (as : DA) : DE := fun ρ g => (as ρ g).bind fun xs g => match vals xs with
  | some ds => if ds.length ≤ 1000 then .ok (.fr, .lst ds) g else .no
  | none => .no
theorem le_line {n : Nat} (h : n ≤ 1000) : n ≤ sizeLine := Nat.le_of_lt (small1000 h)
theorem se_tup {es : List Expr} {x1} {as : DA} (h : SA c X W' es as) : SE c X W' (.Tuple es x1 pos) (dtup as) := fun ρ g =>
  PE.imp (pe_tup (h ρ g)) fun σ H Q ⟨W, ps, S, h⟩ => by
    refine ⟨W, ps, S, ?_⟩
    unfold dtup at h
    cases ea : as ρ g with
    | no => rw [ea] at h; exact h.elim
    | ex n g1 => rw [ea] at h; exact h
    | ok xs g1 =>
      rw [ea, Re.bind_ok] at h
      cases ev : vals xs with
      | none => rw [ev] at h; exact h.elim
      | some ds =>
        rw [ev] at h
        dsimp only at h
        refine fun vs H1 f1 b1 ks => ?_
        have rs := vals_rs ev ks
        by_cases hl : ds.length ≤ 1000
        · rw [if_pos hl] at h
          refine ⟨by rw [rs.length]; exact le_line hl, fun p np => h _ _ (f1.trans (Fr.upd np)) (b1.fr fun a o e => by rw [upd_ne (ne_of_none e np)]; exact e) ?_⟩
          exact .tup (.inl upd_same) (fun z => (S.step f1 b1).there p z np) (by rw [rs.length]; exact le_line hl) (rs.chg (Chg.ext fun a o e => by rw [upd_ne (ne_of_none e np)]; exact e) ds _)
        · rw [if_neg hl] at h; exact h.elim
theorem se_lst {es : List Expr} {as : DA} (h : SA c X W' es as) : SE c X W' (.List es pos) (dlst as) := fun ρ g =>
  PE.imp (pe_lst (h ρ g)) fun σ H Q ⟨W, ps, S, h⟩ => by
    refine ⟨W, ps, S, ?_⟩
    unfold dlst at h
    cases ea : as ρ g with
    | no => rw [ea] at h; exact h.elim
    | ex n g1 => rw [ea] at h; exact h
    | ok xs g1 =>
      rw [ea, Re.bind_ok] at h
      cases ev : vals xs with
      | none => rw [ev] at h; exact h.elim
      | some ds =>
        rw [ev] at h
        dsimp only at h
        refine fun vs H1 f1 b1 ks => ?_
        have rs := vals_rs ev ks
        have S1 := S.step f1 b1
        by_cases hl : ds.length ≤ 1000
        · rw [if_pos hl] at h
          refine ⟨by rw [rs.length]; exact le_line hl, fun p np => h _ _ (f1.trans (Fr.upd np)) (b1.fr fun a o e => by rw [upd_ne (ne_of_none e np)]; exact e) ?_⟩
          have nb : ¬ c.β.ex p := fun z => S1.there p (S1.bU p z) np
          refine ⟨p, rfl, f1.free nb np, nb, fun z => S1.there p z np, vs, upd_same, (by rw [rs.length]; exact le_line hl), ?_⟩
          exact (rs.chg (Chg.fresh np) ds _).chg (Chg.ext fun a o e => by rw [upd_ne (ne_of_none e np)]; exact e) ds _
        · rw [if_neg hl] at h; exact h.elim

/-! ### calls of built-ins -/
def dprim (o : List D → Option KD) (as : DA) : DE := fun ρ g => (as ρ g).bind fun xs g => match o (xs.map (·.2)) with | some z => .ok z g | none => .no
def rrC (c : Cg) (z : KD) (ds : List D) : List V → Hp → VK → Prop := fun vs H Q => ∃ U, (∀ a ∈ U, H a ≠ none) ∧ (∀ b, c.β.ex b → b ∈ U) ∧ Paired (RB c U H) vs ds ∧ ∀ v H', (∀ a o, H a = some o → H' a = some o) → KR c U H z.1 H' v z.2 → Q v H'
def CallS (c : Cg) (X : Cx) (f : Value) (o : List D → Option KD) : Prop := ∀ ds z, o ds = some z → CallR X f (rrC c z ds)
theorem krs_rb {U : List Addr} {Hs H : Hp} : ∀ {xs : List KD} {vs : List V}, KRs c U Hs H vs xs → Paired (RB c U H) vs (xs.map (·.2))
  | _, _, .nil => .nil
  | _, _, .cons h t => .cons h.toRB (krs_rb t)
theorem prim_r {o : List D → Option KD} {as : DA} (Good : (List V → Hp → VK → Prop) → Prop) (h0 : Good fun _ _ _ => False) (h1 : ∀ ds z, o ds = some z → Good (rrC c z ds)) (ρ : Env) (g : G) :
    ∃ r, Good r ∧ ∀ σ H Q, tE c W' ρ g (dprim o as ρ g) σ H Q → tCB r (tA c W' ρ g (as ρ g)) σ H Q := by
  cases ea : as ρ g with
  | no => exact ⟨_, h0, fun σ H Q h => by unfold dprim at h; rw [ea] at h; exact h.no'.elim⟩
  | ex n g1 => exact ⟨_, h0, fun σ H Q h => by unfold dprim at h; rw [ea] at h; exact h⟩
  | ok xs g1 =>
    cases eo : o (xs.map (·.2)) with
    | none => exact ⟨_, h0, fun σ H Q h => by unfold dprim at h; rw [ea, Re.bind_ok, eo] at h; exact h.no'.elim⟩
    | some z =>
      refine ⟨_, h1 _ _ eo, fun σ H Q h => ?_⟩
      unfold dprim at h
      rw [ea, Re.bind_ok, eo] at h
      obtain ⟨W, ps, S, h⟩ := h
      refine ⟨W, ps, S, fun vs H1 f1 b1 ks => ?_⟩
      have S1 := S.step f1 b1
      exact ⟨owns ps ++ W, S1.there, S1.bU, krs_rb ks, fun v H' k hz => h v H' (f1.trans (ext_fr k)) (b1.fr k) (KR.back f1 hz)⟩
theorem CallR.none {f : Value} : CallR X f (fun _ _ _ => False) := fun _ _ _ _ _ _ _ _ _ h => h.elim
theorem se_callB {id : String} {x : Str} {p : Pos} {e : Expr} {es : List Expr} {o : List D → Option KD} {as : DA} (hc : CallS c X (.builtin id) o) (hg : Gl X x) (hm : X.mg x = Option.none) (hv : bootBuiltins x = some (.builtin id)) (ha : SA c X W' (e :: es) as) (hn : x ≠ "__name__" := by decide) (hdb : (x == ("__debug__" : Str)) = false := by decide)
    (he : starEach (e :: es) X.env = (false, eval e X.env) :: starEach es X.env := by rfl) (hpl : (backTo pos (starEach es X.env)).any (·.1) = false := by rfl) : SE c X W' (.Call (.Name x p) (e :: es) [] pos) (dprim o as) := fun ρ g => by
  obtain ⟨r, hr, i⟩ := prim_r (c := c) (W' := W') (as := as) (fun r => CallR X (.builtin id) r) CallR.none hc ρ g
  exact PE.imp (pe_callB hr hg hm hv (ha ρ g) hn hdb he hpl) i
theorem se_callTy {T : String} {x : Str} {p : Pos} {e : Expr} {es : List Expr} {o : List D → Option KD} {as : DA} (hc : CallS c X (.type T) o) (hg : Gl X x) (hm : X.mg x = Option.none) (hv : bootBuiltins x = some (.type T)) (ha : SA c X W' (e :: es) as) (hn : x ≠ "__name__" := by decide) (hdb : (x == ("__debug__" : Str)) = false := by decide)
    (he : starEach (e :: es) X.env = (false, eval e X.env) :: starEach es X.env := by rfl) (hpl : (backTo pos (starEach es X.env)).any (·.1) = false := by rfl) : SE c X W' (.Call (.Name x p) (e :: es) [] pos) (dprim o as) := fun ρ g => by
  obtain ⟨r, hr, i⟩ := prim_r (c := c) (W' := W') (as := as) (fun r => CallR X (.type T) r) CallR.none hc ρ g
  exact PE.imp (pe_callTy hr hg hm hv (ha ρ g) hn hdb he hpl) i

/-! ### calls of defs -/
/-- what a def's function promises -/
def WantF (c : Cg) (W : List Addr) (H : Hp) (Q : VK) (E : XK) : Re KD → Prop
  | .ok x g' => ∀ v H', Fr c.β H H' → Bx c.β H' g' → KR c W H x.1 H' v x.2 → Q v H'
  | .ex n g' => ∀ H', Fr c.β H H' → Bx c.β H' g' → E (c.cl n) none H'
  | .no => False
/-- the def's function is φ (n parameters) -/
def spF (K : Frag) (cl : Nat → Value) (n : Nat) (φ : DF) : Sp := fun vs H Q E => ∃ (β : Bs) (W : List Addr) (ds : List D) (g : G),
  vs.length = n ∧ Rs ⟨K, β, cl⟩ W H vs ds ∧ (∀ a ∈ W, H a ≠ none) ∧ (∀ b, β.ex b → b ∈ W) ∧ Bx β H g ∧ WantF ⟨K, β, cl⟩ W H Q E (φ ds g)
def dcall (φ : DF) (as : DA) : DE := fun ρ g => (as ρ g).bind fun xs g => match vals xs with | some ds => φ ds g | none => .no
theorem se_call {φ : DF} {k n : Nat} {f : Addr} {fd : FuncData} {pn : List Str} {x : Str} {p : Pos} {e : Expr} {es : List Expr} {as : DA} (F : FnOk X.prog X.w X.K X.mg X.base (L2.CX X.prog X.w) k f fd pn (spF c.K c.cl n φ)) (hn : (e :: es).length = n) (hr : Room k X.A) (hg : Gl X x) (hm : X.mg x = some (.ref f)) (hk : PySem.W.keepIn X.K (.ref f) = true) (hb : Binds X.K fd pn [])
    (tk : Takes X W') (ha : SA c X W' (e :: es) as) (hln : ∀ ρ g xs g', as ρ g = .ok xs g' → xs.length = n) (hdb : (x == ("__debug__" : Str)) = false := by decide) (he : starEach (e :: es) X.env = (false, eval e X.env) :: starEach es X.env := by rfl) (hpl : (backTo pos (starEach es X.env)).any (·.1) = false := by rfl) :
    SE c X W' (.Call (.Name x p) (e :: es) [] pos) (dcall φ as) := fun ρ g =>
  PE.imp (pe_callS F hr hg hm hk hb (fun σ => passAt tk σ) (ha ρ g) hdb he hpl) fun σ H Q ⟨W, ps, S, h⟩ => by
    refine ⟨W, ps, S, ?_⟩
    unfold dcall at h
    cases ea : as ρ g with
    | no => rw [ea] at h; exact h.elim
    | ex m g1 => rw [ea] at h; exact h
    | ok xs g1 =>
      rw [ea, Re.bind_ok] at h
      cases ev : vals xs with
      | none => rw [ev] at h; exact h.elim
      | some ds =>
        rw [ev] at h
        dsimp only at h
        refine fun vs H1 f1 b1 ks => ?_
        have S1 := S.step f1 b1
        have hl : vs.length = n := (Paired.length ks).trans (hln ρ g xs g1 ea)
        refine ⟨c.β, owns ps ++ W, ds, g1, hl, vals_rs ev ks, S1.there, S1.bU, b1, ?_⟩
        cases er : φ ds g1 with
        | no => rw [er] at h; exact h
        | ex m g2 => rw [er] at h; exact fun H2 f2 b2 => h H2 (f1.trans f2) b2
        | ok z g2 => rw [er] at h; exact fun v H2 f2 b2 kz => h v H2 (f1.trans f2) b2 (KR.back f1 kz)
theorem len_nil {ρ : Env} {g : G} : ∀ xs g', dnil ρ g = .ok xs g' → xs.length = 0 := fun xs g' e => by cases e; rfl
theorem len_cons {a : DE} {as : DA} {n : Nat} (h : ∀ ρ g xs g', as ρ g = .ok xs g' → xs.length = n) : ∀ ρ g xs g', dcons a as ρ g = .ok xs g' → xs.length = n + 1 := fun ρ g xs g' e => by
  unfold dcons at e
  cases ea : a ρ g with
  | no => rw [ea] at e; cases e
  | ex m g1 => rw [ea] at e; cases e
  | ok x g1 =>
    rw [ea, Re.bind_ok] at e
    cases eb : as ρ g1 with
    | no => rw [eb] at e; cases e
    | ex m g2 => rw [eb] at e; cases e
    | ok ys g2 =>
      rw [eb, Re.bind_ok] at e
      cases e
      rw [List.length_cons, h ρ g1 ys _ eb]

/-! ### slices -/
abbrev DO := Env → G → Re (Option Int)
def WantO (c : Cg) (W' : WX) (σ : St) (H : Hp) (Q : Option Int → Hp → Prop) : Re (Option Int) → Prop
  | .ok o g' => ∀ H', Fr c.β H H' → Bx c.β H' g' → Q o H'
  | .ex n g' => ∀ H', Fr c.β H H' → Bx c.β H' g' → W' (c.cl n) none σ H'
  | .no => False
def tO' (c : Cg) (W' : WX) (ρ : Env) (g : G) (r : Re (Option Int)) : TO := fun σ H Q => ∃ W ps, SR c W ps σ H ρ g ∧ WantO c W' σ H Q r
def SO (c : Cg) (X : Cx) (W' : WX) (e : Option Expr) (δ : DO) : Prop := ∀ ρ g, PO X e (tO' c W' ρ g (δ ρ g))
theorem PO.imp {e : Option Expr} {t t' : TO} (h : PO X e t) (i : ∀ σ H Q, t' σ H Q → t σ H Q) : PO X e t' := ⟨fun pins s σ H Q I q => h.run pins s σ H Q I (i σ H Q q)⟩
def dnop : DO := fun _ g => .ok none g
def dpart (a : DE) : DO := fun ρ g => (a ρ g).bind fun x g => match x.2 with | .int i => .ok (some i) g | _ => .no
theorem so_none : SO c X W' Option.none dnop := fun ρ g => PO.imp po_none fun σ H Q ⟨W, ps, S, h⟩ => h H (Fr.refl _ _) S.bx
theorem so_some {e : Expr} {a : DE} (h : SE c X W' e a) : SO c X W' (some e) (dpart a) := fun ρ g => PO.imp (po_some (h ρ g)) fun σ H Q ⟨W, ps, S, h⟩ => by
  refine ⟨W, ps, S, ?_⟩
  unfold dpart at h
  cases ea : a ρ g with
  | no => rw [ea] at h; exact h.elim
  | ex n g1 => rw [ea] at h; exact h
  | ok x g1 =>
    rw [ea, Re.bind_ok] at h
    obtain ⟨k, d⟩ := x
    cases d with
    | int i => exact fun v H' f b' hk => ⟨i, hk.isint, h H' f b'⟩
    | _ => exact h.elim
def dsl (op : D → Option Int → Option Int → Option KD) (a : DE) (lo hi : DO) : DE := fun ρ g => (a ρ g).bind fun x g => (lo ρ g).bind fun l g => (hi ρ g).bind fun u g => match op x.2 l u with | some z => .ok z g | none => .no
def SlS (c : Cg) (X : Cx) (op : D → Option Int → Option Int → Option KD) : Prop := ∀ d l u z, op d l u = some z → SlR X (fun x lo hi H Q => lo = l ∧ hi = u ∧ rr1 c z d x H Q)
theorem se_sl {op : D → Option Int → Option Int → Option KD} {e : Expr} {lo hi : Option Expr} {p2 : Pos} {a : DE} {dl dh : DO} (ho : SlS c X op) (he : SE c X W' e a) (hl : SO c X W' lo dl) (hh : SO c X W' hi dh) : SE c X W' (.Subscript e (.Slice lo hi none p2) pos) (dsl op a dl dh) := fun ρ g => by
  have h0 : SlR X (fun _ _ _ _ _ => False) := fun _ _ _ _ _ _ _ _ _ _ _ _ _ _ _ _ _ h => h.elim
  cases ea : a ρ g with
  | no => exact PE.no fun σ H Q h => by unfold dsl at h; rw [ea] at h; exact h.no'
  | ex n g1 =>
    exact PE.imp (pe_slice h0 (he ρ g) (hl ρ g) (hh ρ g)) fun σ H Q h => by
      unfold dsl at h
      rw [ea] at h
      show tE c W' ρ g (a ρ g) σ H _
      rw [ea]
      exact h
  | ok x g1 =>
    cases el : dl ρ g1 with
    | no => exact PE.no fun σ H Q h => by unfold dsl at h; rw [ea, Re.bind_ok, el] at h; exact h.no'
    | ex n g2 =>
      exact PE.imp (pe_slice h0 (he ρ g) (hl ρ g1) (hh ρ g)) fun σ H Q h => by
        unfold dsl at h
        rw [ea, Re.bind_ok, el] at h
        obtain ⟨W, ps, S, h⟩ := h
        show tE c W' ρ g (a ρ g) σ H fun x H1 => tO' c W' ρ g1 (dl ρ g1) σ H1 _
        rw [ea, el]
        exact ⟨W, ps, S, fun v1 H1 f1 b1 k1 => ⟨W, ps, S.step f1 b1, fun H2 f2 b2 => h H2 (f1.trans f2) b2⟩⟩
    | ok l g2 =>
      cases eh : dh ρ g2 with
      | no => exact PE.no fun σ H Q h => by unfold dsl at h; rw [ea, Re.bind_ok, el, Re.bind_ok, eh] at h; exact h.no'
      | ex n g3 =>
        exact PE.imp (pe_slice h0 (he ρ g) (hl ρ g1) (hh ρ g2)) fun σ H Q h => by
          unfold dsl at h
          rw [ea, Re.bind_ok, el, Re.bind_ok, eh] at h
          obtain ⟨W, ps, S, h⟩ := h
          show tE c W' ρ g (a ρ g) σ H fun x H1 => tO' c W' ρ g1 (dl ρ g1) σ H1 fun l H2 => tO' c W' ρ g2 (dh ρ g2) σ H2 _
          rw [ea, el, eh]
          exact ⟨W, ps, S, fun v1 H1 f1 b1 k1 => ⟨W, ps, S.step f1 b1, fun H2 f2 b2 => ⟨W, ps, (S.step f1 b1).step f2 b2, fun H3 f3 b3 => h H3 ((f1.trans f2).trans f3) b3⟩⟩⟩
      | ok u g3 =>
        cases eo : op x.2 l u with
        | none => exact PE.no fun σ H Q h => by unfold dsl at h; rw [ea, Re.bind_ok, el, Re.bind_ok, eh, Re.bind_ok, eo] at h; exact h.no'
        | some z =>
          exact PE.imp (pe_slice (ho _ _ _ _ eo) (he ρ g) (hl ρ g1) (hh ρ g2)) fun σ H Q h => by
            unfold dsl at h
            rw [ea, Re.bind_ok, el, Re.bind_ok, eh, Re.bind_ok, eo] at h
            obtain ⟨W, ps, S, h⟩ := h
            show tE c W' ρ g (a ρ g) σ H fun x H1 => tO' c W' ρ g1 (dl ρ g1) σ H1 fun l H2 => tO' c W' ρ g2 (dh ρ g2) σ H2 _
            rw [ea, el, eh]
            refine ⟨W, ps, S, fun v1 H1 f1 b1 k1 => ⟨W, ps, S.step f1 b1, fun H2 f2 b2 => ⟨W, ps, (S.step f1 b1).step f2 b2, fun H3 f3 b3 => ⟨rfl, rfl, ?_⟩⟩⟩⟩
            have S1 := S.step f1 b1
            have S3 := (S1.step f2 b2).step f3 b3
            exact ⟨owns ps ++ W, S3.there, S3.bU, S1.keepRB (f2.trans f3) k1.toRB, fun v H' k hz => h v H' (((f1.trans f2).trans f3).trans (ext_fr k)) (b3.fr k) (KR.back ((f1.trans f2).trans f3) hz)⟩
end
end Dn

set_option Elab.async false
set_option linter.all false
set_option maxRecDepth 100000
/-! E3: statements. -/
namespace Dn
open PySem L2

/-- what was nobody's stays -/
def Fs (β : Bs) (ps : Ps) (H H' : Hp) : Prop := ∀ a o, H a = some o → a ∉ owns ps → ¬ β.ex a → H' a = some o
structure Stp (β : Bs) (ps : Ps) (H : Hp) (ps' : Ps) (H' : Hp) : Prop where
  fs : Fs β ps H H'
  nw : ∀ p ∈ owns ps', p ∈ owns ps ∨ H p = none
def KRt (c : Cg) (W : List Addr) (ps : Ps) (Hs : Hp) (k : Kd) (H : Hp) (v : V) (d : D) : Prop := match k with
  | .fz => R c W H v d
  | .bw => False
  | .fr => ∃ p, v = .ref p ∧ (p ∈ owns ps ∨ Hs p = none) ∧ ¬ c.β.ex p ∧ p ∉ W ∧ Cont c (p :: W) H p d
def WantS (c : Cg) (W' : WX) (W : List Addr) (ps : Ps) (H : Hp) (D : Ends) : Re Fl → Prop
  | .ok (.nx ρ') g' => ∀ σ' H' ps', SR c W ps' σ' H' ρ' g' → Stp c.β ps H ps' H' → D.nx σ' H'
  | .ok (.bk ρ') g' => ∀ σ' H' ps', SR c W ps' σ' H' ρ' g' → Stp c.β ps H ps' H' → D.bk σ' H'
  | .ok (.ct ρ') g' => ∀ σ' H' ps', SR c W ps' σ' H' ρ' g' → Stp c.β ps H ps' H' → D.ct σ' H'
  | .ok (.rt k d) g' => ∀ v H', Fs c.β ps H H' → Bx c.β H' g' → KRt c W ps H k H' v d → D.rt v H'
  | .ex n g' => ∀ σ' H', Fs c.β ps H H' → Bx c.β H' g' → W' (c.cl n) none σ' H'
  | .no => False
def tS (c : Cg) (W' : WX) (ρ : Env) (g : G) (r : Re Fl) : TS := fun D σ H => ∃ W ps, SR c W ps σ H ρ g ∧ WantS c W' W ps H D r
def SSs (c : Cg) (X : Cx) (W' : WX) (sts : List Stmt) (δ : DS) : Prop := ∀ ρ g, PSs X sts (tS c W' ρ g (δ ρ g))
def SS (c : Cg) (X : Cx) (W' : WX) (st : Stmt) (δ : DS) : Prop := ∀ ρ g, PS X st (tS c W' ρ g (δ ρ g))

section
variable {c : Cg} {X : Cx} {W' : WX} {pos : Pos}
theorem Fs.of {β : Bs} {ps : Ps} {H H' : Hp} (f : Fr β H H') : Fs β ps H H' := fun a o e _ n => f a o e n
theorem Stp.of {β : Bs} {ps : Ps} {H H' : Hp} (f : Fr β H H') : Stp β ps H ps H' := ⟨Fs.of f, fun _ z => .inl z⟩
theorem Fs.trans {β : Bs} {ps ps1 : Ps} {H H1 H2 : Hp} (a : Stp β ps H ps1 H1) (b : Fs β ps1 H1 H2) : Fs β ps H H2 := fun p o e n nb =>
  b p o (a.fs p o e n nb) (fun z => (a.nw p z).elim n fun z => by rw [e] at z; cases z) nb
theorem Stp.back {β : Bs} {ps ps1 : Ps} {H H1 : Hp} (a : Stp β ps H ps1 H1) {p : Addr} (nb : ¬ β.ex p) (h : p ∈ owns ps1 ∨ H1 p = none) : p ∈ owns ps ∨ H p = none := by
  rcases h with h | h
  · exact a.nw p h
  · by_cases q : p ∈ owns ps
    · exact .inl q
    · refine .inr ?_
      cases e : H p with
      | none => rfl
      | some o =>
        rw [a.fs p o e q nb] at h
        cases h
theorem Stp.trans {β : Bs} {ps ps1 ps2 : Ps} {H H1 H2 : Hp} (a : Stp β ps H ps1 H1) (b : Stp β ps1 H1 ps2 H2) (nb : ∀ p ∈ owns ps2, ¬ β.ex p) : Stp β ps H ps2 H2 :=
  ⟨Fs.trans a b.fs, fun p z => a.back (nb p z) (b.nw p z)⟩
theorem SR.nb {W : List Addr} {ps : Ps} {σ : L2.St} {H : Hp} {ρ : Env} {g : G} (S : SR c W ps σ H ρ g) : ∀ p ∈ owns ps, ¬ c.β.ex p := fun p z e => S.dj p z (S.bo p e)
theorem KRt.back {W : List Addr} {ps ps1 : Ps} {H H1 H2 : Hp} {k : Kd} {v : V} {d : D} (a : Stp c.β ps H ps1 H1) (h : KRt c W ps1 H1 k H2 v d) : KRt c W ps H k H2 v d := by
  cases k with
  | fz => exact h
  | bw => exact h
  | fr =>
    obtain ⟨p, rfl, h1, h2, h3⟩ := h
    exact ⟨p, rfl, a.back h2 h1, h2, h3⟩
theorem WantS.later {W : List Addr} {ps ps1 : Ps} {H H1 : Hp} {D : Ends} {r : Re Fl} (a : Stp c.β ps H ps1 H1) (h : WantS c W' W ps H D r) : WantS c W' W ps1 H1 D r := by
  cases r with
  | no => exact h
  | ex n g => exact fun σ' H' f b => h σ' H' (Fs.trans a f) b
  | ok f g =>
    cases f with
    | nx ρ => exact fun σ' H' ps' S st => h σ' H' ps' S (a.trans st S.nb)
    | bk ρ => exact fun σ' H' ps' S st => h σ' H' ps' S (a.trans st S.nb)
    | ct ρ => exact fun σ' H' ps' S st => h σ' H' ps' S (a.trans st S.nb)
    | rt k d => exact fun v H' f b kr => h v H' (Fs.trans a f) b (KRt.back a kr)
/-- what is wanted behind a part that went through (nx): the rest's wants -/
theorem WantS.mono {W : List Addr} {ps : Ps} {H : Hp} {D D' : Ends} {r : Re Fl} (h : WantS c W' W ps H D r) (h1 : ∀ σ H, D.nx σ H → D'.nx σ H) (h2 : ∀ v H, D.rt v H → D'.rt v H) (h3 : ∀ σ H, D.bk σ H → D'.bk σ H) (h4 : ∀ σ H, D.ct σ H → D'.ct σ H) : WantS c W' W ps H D' r := by
  cases r with
  | no => exact h
  | ex n g => exact h
  | ok f g =>
    cases f with
    | nx ρ => exact fun σ' H' ps' S st => h1 _ _ (h σ' H' ps' S st)
    | bk ρ => exact fun σ' H' ps' S st => h3 _ _ (h σ' H' ps' S st)
    | ct ρ => exact fun σ' H' ps' S st => h4 _ _ (h σ' H' ps' S st)
    | rt k d => exact fun v H' f b kr => h2 _ _ (h v H' f b kr)
theorem tS.no' {ρ : Env} {g : G} {D : Ends} {σ : L2.St} {H : Hp} (h : tS c W' ρ g .no D σ H) : False := by
  obtain ⟨_, _, _, h⟩ := h
  exact h

/-! ### blocks -/
def dskip : DS := fun ρ g => .ok (.nx ρ) g
def dseq (s t : DS) : DS := fun ρ g => (s ρ g).bind fun f g => match f with | .nx ρ' => t ρ' g | f => .ok f g
theorem sss_nil : SSs c X W' [] dskip := fun ρ g => PSs.imp pss_nil fun D σ H ⟨W, ps, S, h⟩ => h σ H ps S (Stp.of (Fr.refl _ _))
theorem sss_one {st : Stmt} {δ : DS} (h : SS c X W' st δ) : SSs c X W' [st] δ := fun ρ g => pss_one (h ρ g)
theorem sss_cons {st : Stmt} {rest : List Stmt} {s t : DS} (h1 : SS c X W' st s) (h2 : SSs c X W' rest t) : SSs c X W' (st :: rest) (dseq s t) := fun ρ g => by
  cases es : s ρ g with
  | no =>
    refine PSs.imp (pss_cons (h1 ρ g) (h2 ρ g)) fun D σ H h => ?_
    unfold dseq at h
    rw [es] at h
    exact h.no'.elim
  | ex n g1 =>
    refine PSs.imp (pss_cons (h1 ρ g) (h2 ρ g)) fun D σ H h => ?_
    unfold dseq at h
    rw [es] at h
    show tS c W' ρ g (s ρ g) _ σ H
    rw [es]
    exact h
  | ok f g1 =>
    cases f with
    | nx ρ1 =>
      refine PSs.imp (pss_cons (h1 ρ g) (h2 ρ1 g1)) fun D σ H h => ?_
      unfold dseq at h
      rw [es, Re.bind_ok] at h
      obtain ⟨W, ps, S, h⟩ := h
      show tS c W' ρ g (s ρ g) _ σ H
      rw [es]
      exact ⟨W, ps, S, fun σ1 H1 ps1 S1 st => ⟨W, ps1, S1, WantS.later st h⟩⟩
    | bk ρ1 =>
      refine PSs.imp (pss_cons (h1 ρ g) (h2 ρ g)) fun D σ H h => ?_
      unfold dseq at h
      rw [es] at h
      show tS c W' ρ g (s ρ g) _ σ H
      rw [es]
      exact h
    | ct ρ1 =>
      refine PSs.imp (pss_cons (h1 ρ g) (h2 ρ g)) fun D σ H h => ?_
      unfold dseq at h
      rw [es] at h
      show tS c W' ρ g (s ρ g) _ σ H
      rw [es]
      exact h
    | rt k d =>
      refine PSs.imp (pss_cons (h1 ρ g) (h2 ρ g)) fun D σ H h => ?_
      unfold dseq at h
      rw [es] at h
      show tS c W' ρ g (s ρ g) _ σ H
      rw [es]
      exact h
theorem ss_pass : SS c X W' (.Pass pos) dskip := fun ρ g => PS.imp ps_pass fun D σ H ⟨W, ps, S, h⟩ => h σ H ps S (Stp.of (Fr.refl _ _))
def dbrk : DS := fun ρ g => .ok (.bk ρ) g
def dcnt : DS := fun ρ g => .ok (.ct ρ) g
theorem ss_brk : SS c X W' (.Break pos) dbrk := fun ρ g => PS.imp ps_break fun D σ H ⟨W, ps, S, h⟩ => h σ H ps S (Stp.of (Fr.refl _ _))
theorem ss_cnt : SS c X W' (.Continue pos) dcnt := fun ρ g => PS.imp ps_continue fun D σ H ⟨W, ps, S, h⟩ => h σ H ps S (Stp.of (Fr.refl _ _))
theorem ss_doc {x j pos pos'} : SS c X W' (.Expr (.Constant (.str x) j pos) pos') dskip := fun ρ g => PS.imp ps_doc fun D σ H ⟨W, ps, S, h⟩ => h σ H ps S (Stp.of (Fr.refl _ _))
/-- an expression whose value is dropped -/
def ddrop (a : DE) : DS := fun ρ g => (a ρ g).bind fun _ g => .ok (.nx ρ) g
theorem WantE.exS {W : List Addr} {ps : Ps} {H : Hp} {D : Ends} {σ : L2.St} {n : Nat} {g : G} {Q : VK} (h : WantS c W' W ps H D (.ex n g)) : WantE c W' (owns ps ++ W) σ H Q (.ex n g) := fun H' f b => h σ H' (Fs.of f) b
theorem ss_expr {e : Expr} {a : DE} (he : SE c X W' e a) (hs : swapsWith e none pos.line X.env = pure false := by rfl) : SS c X W' (.Expr e pos) (ddrop a) := fun ρ g => PS.imp (ps_expr (he ρ g) hs) fun D σ H ⟨W, ps, S, h⟩ => by
  refine ⟨W, ps, S, ?_⟩
  unfold ddrop at h
  cases ea : a ρ g with
  | no => rw [ea] at h; exact h
  | ex n g1 => rw [ea] at h; exact WantE.exS h
  | ok x g1 => rw [ea] at h; exact fun v H1 f1 b1 k => h σ H1 ps (S.step f1 b1) (Stp.of f1)
/-! ### return -/
def dret (a : DE) : DS := fun ρ g => (a ρ g).bind fun x g => match x.1 with | .bw => .no | k => .ok (.rt k x.2) g
theorem KR.toRt {W : List Addr} {ps : Ps} {H H' : Hp} {k : Kd} {v : V} {d : D} (h : KR c (owns ps ++ W) H k H' v d) (hk : k ≠ .bw) : KRt c W ps H k H' v d := by
  cases k with
  | fz => exact h.chg (Chg.less fun a z => List.mem_append_right _ z) d v
  | bw => exact absurd rfl hk
  | fr =>
    obtain ⟨p, rfl, h1, hb, h2, h3⟩ := h
    refine ⟨p, rfl, .inr h1, hb, fun z => h2 (List.mem_append_right _ z), h3.chg (Chg.less fun a z => ?_) fun _ e => e⟩
    rcases List.mem_cons.mp z with rfl | z
    · exact List.mem_cons_self
    · exact List.mem_cons_of_mem _ (List.mem_append_right _ z)
theorem ss_ret {e : Expr} {a : DE} (he : SE c X W' e a) : SS c X W' (.Return (some e) pos) (dret a) := fun ρ g => PS.imp (ps_ret (he ρ g)) fun D σ H ⟨W, ps, S, h⟩ => by
  refine ⟨W, ps, S, ?_⟩
  unfold dret at h
  cases ea : a ρ g with
  | no => rw [ea] at h; exact h
  | ex n g1 => rw [ea] at h; exact WantE.exS h
  | ok x g1 =>
    rw [ea, Re.bind_ok] at h
    obtain ⟨k, d⟩ := x
    cases k with
    | bw => exact h.elim
    | fz => exact fun v H1 f1 b1 kr => h v H1 (Fs.of f1) b1 (KR.toRt kr (by intro z; cases z))
    | fr => exact fun v H1 f1 b1 kr => h v H1 (Fs.of f1) b1 (KR.toRt kr (by intro z; cases z))
/-- return x: an owned object is handed on -/
def dretv (i : Nat) : DS := fun ρ g => match ρ[i]? with
  | some (.fz d) => .ok (.rt .fz d) g
  | some (.ow d) => .ok (.rt .fr d) g
  | _ => .no
theorem ss_retv (i : Nat) {x : Str} {pos' : Pos} (hN : X.N[i]? = some x := by rfl) (hv : Vis X.env.scope x := by first | exact Or.inl rfl | exact Or.inr (Or.inl rfl) | exact Or.inr (Or.inr rfl)) (hd : (x == ("__debug__" : Str)) = false := by decide)
    (hcd : (x == ("__classdict__" : Str)) = false := by decide) : SS c X W' (.Return (some (.Name x pos')) pos) (dretv i) := fun ρ g => PS.imp (ps_ret (pe_var (i := i) hN hv hd hcd)) fun D σ H ⟨W, ps, S, h⟩ => by
  unfold dretv at h
  cases e : ρ[i]? with
  | none => rw [e] at h; exact h.elim
  | some s =>
    rw [e] at h
    obtain ⟨x, p, h1, h2, h3⟩ := S.sl.get e
    cases h3 with
    | un => exact h.elim
    | rf _ => exact h.elim
    | fz r => exact ⟨_, h1, h _ H (Fs.of (Fr.refl _ _)) S.bx (r.chg (Chg.less fun a z => List.mem_append_right _ z) _ _)⟩
    | ow r =>
      rename_i q d
      have hq : q ∈ owns ps := mem_owns.mpr (List.mem_of_getElem? h2)
      refine ⟨_, h1, h _ H (Fs.of (Fr.refl _ _)) S.bx ⟨q, rfl, .inl hq, S.nb q hq, S.dj q hq, r.chg (Chg.less fun a z => ?_) fun _ e => e⟩⟩
      rcases List.mem_cons.mp z with rfl | z
      · exact List.mem_append_left _ hq
      · exact List.mem_append_right _ z
def dretN : DS := fun ρ g => .ok (.rt .fz .non) g
theorem ss_retN : SS c X W' (.Return none pos) dretN := fun ρ g => PS.imp ps_retN fun D σ H ⟨W, ps, S, h⟩ => h .non H (Fs.of (Fr.refl _ _)) S.bx .non
/-! ### if -/
def dif (t : DT) (a b : DS) : DS := fun ρ g => (t ρ g).bind fun x g => if x = true then a ρ g else b ρ g
theorem ss_if {t : Expr} {sa sb : List Stmt} {dt : DT} {da db : DS} (ht : ST c X W' t dt) (ha : SSs c X W' sa da) (hb : SSs c X W' sb db) : SS c X W' (.If t sa sb pos) (dif dt da db) := fun ρ g => by
  cases ea : dt ρ g with
  | no =>
    refine PS.imp (ps_if (ht ρ g) (ha ρ g) (hb ρ g)) fun D σ H h => ?_
    unfold dif at h
    rw [ea] at h
    exact h.no'.elim
  | ex n g1 =>
    refine PS.imp (ps_if (ht ρ g) (ha ρ g) (hb ρ g)) fun D σ H h => ?_
    unfold dif at h
    rw [ea] at h
    obtain ⟨W, ps, S, h⟩ := h
    show tT c W' ρ g (dt ρ g) σ H _
    rw [ea]
    exact ⟨W, ps, S, fun H' f b => h σ H' (Fs.of f) b⟩
  | ok x g1 =>
    refine PS.imp (ps_if (ht ρ g) (ha ρ g1) (hb ρ g1)) fun D σ H h => ?_
    unfold dif at h
    rw [ea, Re.bind_ok] at h
    obtain ⟨W, ps, S, h⟩ := h
    show tT c W' ρ g (dt ρ g) σ H _
    rw [ea]
    refine ⟨W, ps, S, fun H1 f1 b1 => ?_⟩
    cases x with
    | true =>
      rw [if_pos rfl] at h ⊢
      exact ⟨W, ps, S.step f1 b1, WantS.later (Stp.of f1) h⟩
    | false =>
      rw [if_neg Bool.false_ne_true] at h ⊢
      exact ⟨W, ps, S.step f1 b1, WantS.later (Stp.of f1) h⟩

/-! ### a name is stored -/
theorem owns_set_none {ps : Ps} {i : Nat} {p : Addr} (h : p ∈ owns (ps.set i none)) : p ∈ owns ps := by
  rw [mem_owns] at h ⊢
  rcases List.mem_or_eq_of_mem_set h with h | h
  · exact h
  · cases h
theorem owns_set_some {ps : Ps} {i : Nat} {p q : Addr} (h : p ∈ owns (ps.set i (some q))) : p ∈ owns ps ∨ p = q := by
  rw [mem_owns] at h
  rcases List.mem_or_eq_of_mem_set h with h | h
  · exact .inl (mem_owns.mpr h)
  · exact .inr (Option.some.inj h)
theorem owns_nd_none : ∀ {ps : Ps} {i : Nat}, (owns ps).Nodup → (owns (ps.set i none)).Nodup
  | [], _, h => h
  | none :: ps, 0, h => h
  | some a :: ps, 0, h => by
    have h' : (a :: owns ps).Nodup := h
    exact (List.nodup_cons.mp h').2
  | none :: ps, i + 1, h => owns_nd_none (ps := ps) (i := i) h
  | some a :: ps, i + 1, h => by
    have h' : (a :: owns ps).Nodup := h
    obtain ⟨h1, h2⟩ := List.nodup_cons.mp h'
    show (a :: owns (ps.set i none)).Nodup
    exact List.nodup_cons.mpr ⟨fun z => h1 (owns_set_none z), owns_nd_none h2⟩
theorem owns_nd_some {q : Addr} : ∀ {ps : Ps} {i : Nat}, (owns ps).Nodup → q ∉ owns ps → (owns (ps.set i (some q))).Nodup
  | [], _, h, _ => h
  | none :: ps, 0, h, n => by
    show (q :: owns ps).Nodup
    exact List.nodup_cons.mpr ⟨n, h⟩
  | some a :: ps, 0, h, n => by
    have h' : (a :: owns ps).Nodup := h
    show (q :: owns ps).Nodup
    exact List.nodup_cons.mpr ⟨fun z => n (List.mem_cons_of_mem _ z), (List.nodup_cons.mp h').2⟩
  | none :: ps, i + 1, h, n => owns_nd_some (ps := ps) (i := i) h n
  | some a :: ps, i + 1, h, n => by
    have h' : (a :: owns ps).Nodup := h
    obtain ⟨h1, h2⟩ := List.nodup_cons.mp h'
    show (a :: owns (ps.set i (some q))).Nodup
    refine List.nodup_cons.mpr ⟨fun z => ?_, owns_nd_some h2 fun z => n (List.mem_cons_of_mem _ z)⟩
    rcases owns_set_some z with z | z
    · exact h1 z
    · subst z; exact n List.mem_cons_self
/-- the slot that the value goes to -/
def KD.sl (x : KD) : Option Sl := match x.1 with | .fz => some (.fz x.2) | .bw => none | .fr => some (.ow x.2)
/-- a value is stored in slot i -/
theorem SR.store {W : List Addr} {ps : Ps} {σ : L2.St} {H H1 : Hp} {ρ : Env} {g g1 : G} {k : Kd} {v : V} {d : D} {s : Sl} (i : Nat) (S : SR c W ps σ H ρ g) (f : Fr c.β H H1) (b : Bx c.β H1 g1) (h : KR c (owns ps ++ W) H k H1 v d) (hs : KD.sl (k, d) = some s) :
    ∃ ps', SR c W ps' (σ.set i (some v)) H1 (ρ.set i s) g1 ∧ Stp c.β ps H ps' H1 := by
  have S1 := S.step f b
  cases k with
  | bw => cases hs
  | fz =>
    cases hs
    refine ⟨ps.set i none, ⟨(S1.sl.set i (.fz h)).chg (Chg.less fun a z => ?_) fun _ _ _ e => e, owns_nd_none S1.nd, fun p z => S1.dj p (owns_set_none z), S1.old, S1.bx, S1.bo⟩, ⟨Fs.of f, fun p z => .inl (owns_set_none z)⟩⟩
    rcases List.mem_append.mp z with z | z
    · exact List.mem_append_left _ (owns_set_none z)
    · exact List.mem_append_right _ z
  | fr =>
    cases hs
    obtain ⟨p, rfl, h1, hb, h2, h3⟩ := h
    have npo : p ∉ owns ps := fun z => h2 (List.mem_append_left _ z)
    have T : RSls c (p :: (owns ps ++ W)) H1 σ ρ ps := (S.sl.chg (Chg.fresh h1) fun _ _ _ e => e).chg (Chg.grow f fun b e => List.mem_cons_of_mem _ (S.bU b e)) fun q z o e => f q o e (S.nb q (mem_owns.mpr z))
    refine ⟨ps.set i (some p), ⟨(T.set i (.ow h3)).chg (Chg.less fun a z => ?_) fun _ _ _ e => e, owns_nd_some S1.nd npo, fun q z => ?_, S1.old, S1.bx, S1.bo⟩, ⟨Fs.of f, fun q z => ?_⟩⟩
    · rcases List.mem_append.mp z with z | z
      · rcases owns_set_some z with z | z
        · exact List.mem_cons_of_mem _ (List.mem_append_left _ z)
        · rw [z]; exact List.mem_cons_self
      · exact List.mem_cons_of_mem _ (List.mem_append_right _ z)
    · rcases owns_set_some z with z | z
      · exact S1.dj q z
      · subst z; exact fun y => h2 (List.mem_append_right _ y)
    · rcases owns_set_some z with z | z
      · exact .inl z
      · subst z; exact .inr h1
def dset (i : Nat) (a : DE) : DS := fun ρ g => (a ρ g).bind fun x g => match KD.sl x with | some s => .ok (.nx (ρ.set i s)) g | none => .no
theorem set_r {i : Nat} {a : DE} {ρ : Env} {g : G} {D : Ends} {σ : L2.St} {H : Hp} (h : tS c W' ρ g (dset i a ρ g) D σ H) : tE c W' ρ g (a ρ g) σ H fun x H1 => gName i x σ H1 D.nx := by
  obtain ⟨W, ps, S, h⟩ := h
  refine ⟨W, ps, S, ?_⟩
  unfold dset at h
  cases ea : a ρ g with
  | no => rw [ea] at h; exact h
  | ex n g1 => rw [ea] at h; exact WantE.exS h
  | ok x g1 =>
    rw [ea, Re.bind_ok] at h
    obtain ⟨k, d⟩ := x
    cases es : KD.sl (k, d) with
    | none => rw [es] at h; exact h.elim
    | some s =>
      rw [es] at h
      intro v H1 f1 b1 kr
      obtain ⟨ps', S', st⟩ := S.store i f1 b1 kr es
      exact h _ H1 ps' S' st
theorem ss_set (i : Nat) {x : Str} {e : Expr} {a : DE} {pos' : Pos} (hN : X.N.Nodup) (he : SE c X W' e a) (hi : X.N[i]? = some x := by rfl) (hx : Loc X.env.scope x := by first | exact Or.inl rfl | exact Or.inr rfl) (hs : swapsWith e (some (.Name x pos')) pos.line X.env = pure false := by rfl)
    (hf : X.fn x = true ∨ X.env.scope.names.lookup x = some .local := by first | exact .inl rfl | exact .inr rfl) : SS c X W' (.Assign [.Name x pos'] e pos) (dset i a) := fun ρ g =>
  PS.imp (ps_set (i := i) hN hi hx (he ρ g) hs hf) fun D σ H h => set_r h
/-- x op= e -/
def IpS (c : Cg) (X : Cx) (op : Operator) (o : D → D → Option KD) : Prop := ∀ d1 d2 z, o d1 d2 = some z → PIp X op (rr2 c z d1 d2)
def daug (i : Nat) (o : D → D → Option KD) (a : DE) : DS := dset i (d2 o (dvar i) a)
theorem ss_aug (i : Nat) {x : Str} {e : Expr} {a : DE} {op : Operator} {o : D → D → Option KD} {pos' : Pos} (hN : X.N.Nodup) (ho : IpS c X op o) (he : SE c X W' e a) (hi : X.N[i]? = some x := by rfl) (hx : Loc X.env.scope x := by first | exact Or.inl rfl | exact Or.inr rfl)
    (hf : X.fn x = true ∨ X.env.scope.names.lookup x = some .local := by first | exact .inl rfl | exact .inr rfl) : SS c X W' (.AugAssign (.Name x pos') op e pos) (daug i o a) := fun ρ g => by
  obtain ⟨r, g1, hr, ii⟩ := two_r (c := c) (W' := W') (da := dvar i) (db := a) (fun r => PIp X op r) (fun _ _ _ _ _ _ _ _ _ _ _ _ h => h.elim) ho ρ g
  cases ev : dvar i ρ g with
  | no =>
    refine PS.imp (ps_aug (i := i) hN hi hx (he ρ g) hr hf) fun D σ H h => ?_
    unfold daug dset d2 at h
    rw [ev] at h
    exact h.no'.elim
  | ex n g2 =>
    unfold dvar at ev
    split at ev <;> cases ev
  | ok y g2 =>
    have eg : g2 = g := by
      unfold dvar at ev
      split at ev <;> cases ev <;> rfl
    subst eg
    obtain ⟨r, g1, hr, ii⟩ := two_r (c := c) (W' := W') (da := fun _ g => Re.ok y g) (db := a) (fun r => PIp X op r) (fun _ _ _ _ _ _ _ _ _ _ _ _ h => h.elim) ho ρ g2
    refine PS.imp (ps_aug (i := i) hN hi hx (he ρ g1) hr hf) fun D σ H h => ?_
    have q := set_r h
    have e2 : d2 o (dvar i) a ρ g2 = d2 o (fun _ g => Re.ok y g) a ρ g2 := by
      unfold d2
      rw [ev]
    rw [e2] at q
    have q2 := ii σ H _ q
    obtain ⟨W, ps, S, q2⟩ := q2
    have wv : ∃ v, σ[i]? = some (some v) ∧ KR c (owns ps ++ W) H y.1 H v y.2 := by
      unfold dvar at ev
      cases e : ρ[i]? with
      | none => rw [e] at ev; cases ev
      | some s =>
        rw [e] at ev
        obtain ⟨x, p, h1, h2, h3⟩ := S.sl.get e
        cases h3 with
        | un => cases ev
        | rf _ => cases ev
        | fz r => cases ev; exact ⟨_, h1, r⟩
        | ow r =>
          cases ev
          exact ⟨_, h1, .inr ⟨_, rfl, S.nb _ (mem_owns.mpr (List.mem_of_getElem? h2)), r⟩⟩
    obtain ⟨v, hv, kv⟩ := wv
    exact ⟨v, hv, q2 v H (Fr.refl _ _) S.bx kv⟩
/-- an owned object is no longer the slot's own -/
def dfreeze (i : Nat) (s : DS) : DS := fun ρ g => match ρ[i]? with | some (.ow d) => s (ρ.set i (.fz d)) g | _ => s ρ g
theorem getElem_set_ne_none {ps : Ps} {i : Nat} {q : Addr} (h : ps[i]? = some (some q)) : ∀ (nd : (owns ps).Nodup), q ∉ owns (ps.set i none) := by
  induction ps generalizing i with
  | nil => simp at h
  | cons a ps ih =>
    intro nd
    cases i with
    | zero =>
      simp at h
      subst h
      have h' : (q :: owns ps).Nodup := nd
      exact (List.nodup_cons.mp h').1
    | succ i =>
      have hq : ps[i]? = some (some q) := by simpa using h
      cases a with
      | none => exact ih hq nd
      | some a =>
        have h' : (a :: owns ps).Nodup := nd
        obtain ⟨h1, h2⟩ := List.nodup_cons.mp h'
        intro z
        have z' : q ∈ a :: owns (ps.set i none) := z
        rcases List.mem_cons.mp z' with e | z'
        · subst e
          exact h1 (mem_owns.mpr (List.mem_of_getElem? hq))
        · exact ih hq h2 z'
theorem SR.freeze {W : List Addr} {ps : Ps} {σ : L2.St} {H : Hp} {ρ : Env} {g : G} {i : Nat} {d : D} (S : SR c W ps σ H ρ g) (e : ρ[i]? = some (.ow d)) : SR c W (ps.set i none) σ H (ρ.set i (.fz d)) g := by
  obtain ⟨x, p, h1, h2, h3⟩ := S.sl.get e
  cases h3 with
  | ow r =>
    rename_i q
    have nq := getElem_set_ne_none h2 S.nd
    have hq : q ∈ owns ps := mem_owns.mpr (List.mem_of_getElem? h2)
    have sub : ∀ a, a ∈ owns (ps.set i none) ++ W → a ∈ owns ps ++ W := fun a z => by
      rcases List.mem_append.mp z with z | z
      · exact List.mem_append_left _ (owns_set_none z)
      · exact List.mem_append_right _ z
    have nU : q ∉ owns (ps.set i none) ++ W := fun z => by
      rcases List.mem_append.mp z with z | z
      · exact nq z
      · exact S.dj q hq z
    have rq : R c (owns (ps.set i none) ++ W) H (.ref q) d := by
      refine frR nU (r.chg (Chg.less fun a z => ?_) fun _ e => e)
      rcases List.mem_cons.mp z with rfl | z
      · exact List.mem_append_left _ hq
      · exact sub a z
    have T := (S.sl.chg (Chg.less sub) fun _ _ _ e => e).set i (RSl.fz rq)
    have es : σ.set i (some (.ref q)) = σ := by
      refine List.ext_getElem? fun j => ?_
      rw [List.getElem?_set]
      by_cases ej : i = j
      · subst ej
        rw [if_pos rfl]
        have hl : i < σ.length := (List.getElem?_eq_some_iff.mp h1).1
        rw [if_pos hl, h1]
      · rw [if_neg ej]
    rw [es] at T
    exact ⟨T, owns_nd_none S.nd, fun p z => S.dj p (owns_set_none z), S.old, S.bx, S.bo⟩
theorem sss_freeze (i : Nat) {sts : List Stmt} {s : DS} (h : SSs c X W' sts s) : SSs c X W' sts (dfreeze i s) := fun ρ g => by
  cases e : ρ[i]? with
  | none => unfold dfreeze; rw [e]; exact h ρ g
  | some sl =>
    cases sl with
    | un => unfold dfreeze; rw [e]; exact h ρ g
    | rf _ => unfold dfreeze; rw [e]; exact h ρ g
    | fz d => unfold dfreeze; rw [e]; exact h ρ g
    | ow d =>
      have e1 : dfreeze i s ρ g = s (ρ.set i (.fz d)) g := by
        unfold dfreeze
        rw [e]
      rw [e1]
      exact PSs.imp (h _ g) fun D σ H ⟨W, ps, S, w⟩ => ⟨W, ps.set i none, S.freeze e, WantS.later ⟨fun a o e _ _ => e, fun p z => .inl (owns_set_none z)⟩ w⟩
end
end Dn

set_option Elab.async false
set_option linter.all false
set_option maxRecDepth 100000
/-! E4: targets, loops, comprehensions. -/
namespace Dn
open PySem L2

/-! ### targets -/
abbrev DG := D → Env → Option Env
abbrev DGs := List D → Env → Option Env
/-- only the slots is have changed -/
def Chs {α : Type} (is : List Nat) (σ σ' : List α) : Prop := σ'.length = σ.length ∧ ∀ j, j ∉ is → σ'[j]? = σ[j]?
theorem Chs.refl {α : Type} (is : List Nat) (σ : List α) : Chs is σ σ := ⟨rfl, fun _ _ => rfl⟩
theorem Chs.trans {α : Type} {is : List Nat} {σ σ1 σ2 : List α} (a : Chs is σ σ1) (b : Chs is σ1 σ2) : Chs is σ σ2 := ⟨b.1.trans a.1, fun j h => (b.2 j h).trans (a.2 j h)⟩
theorem Chs.more {α : Type} {is js : List Nat} {σ σ' : List α} (a : Chs is σ σ') (h : ∀ i ∈ is, i ∈ js) : Chs js σ σ' := ⟨a.1, fun j n => a.2 j fun z => n (h j z)⟩
def tG (c : Cg) (is : List Nat) (d : D) (ρ ρ' : Env) : TG := fun v σ H Q => ∃ W ps g, SR c W ps σ H ρ g ∧ R c (owns ps ++ W) H v d ∧ ∀ σ' ps', SR c W ps' σ' H ρ' g → (∀ p ∈ owns ps', p ∈ owns ps) → Chs is σ σ' → Chs is ps ps' → Q σ' H
def SG (c : Cg) (X : Cx) (is : List Nat) (tg : Expr) (γ : DG) : Prop := ∀ d ρ ρ', γ d ρ = some ρ' → PG X tg (tG c is d ρ ρ')
def tGs (c : Cg) (is : List Nat) (ds : List D) (ρ ρ' : Env) : TGs := fun vs σ H Q => ∃ W ps g, SR c W ps σ H ρ g ∧ Rs c (owns ps ++ W) H vs ds ∧ ∀ σ' ps', SR c W ps' σ' H ρ' g → (∀ p ∈ owns ps', p ∈ owns ps) → Chs is σ σ' → Chs is ps ps' → Q σ' H
def SGs (c : Cg) (X : Cx) (is : List Nat) (tgs : List Expr) (γ : DGs) : Prop := ∀ ds ρ ρ', γ ds ρ = some ρ' → PGs X tgs (tGs c is ds ρ ρ')
section
variable {c : Cg} {X : Cx} {W' : WX} {pos : Pos} {is : List Nat}
theorem PG.imp {tg : Expr} {t t' : TG} (h : PG X tg t) (i : ∀ v σ H Q, t' v σ H Q → t v σ H Q) : PG X tg t' := ⟨fun pins s σ H v u Q I r q => h.run pins s σ H v u Q I r (i v σ H Q q)⟩
theorem PGs.imp {tg : List Expr} {t t' : TGs} (h : PGs X tg t) (i : ∀ v σ H Q, t' v σ H Q → t v σ H Q) : PGs X tg t' := ⟨fun pins s σ H v u Q I r q => h.run pins s σ H v u Q I r (i v σ H Q q)⟩
def gname (i : Nat) : DG := fun d ρ => some (ρ.set i (.fz d))
theorem sg_name (i : Nat) {x : Str} (hN : X.N.Nodup) (hi : X.N[i]? = some x := by rfl) (hx : Loc X.env.scope x := by first | exact Or.inl rfl | exact Or.inr rfl) (hm : i ∈ is := by decide) (hf : X.fn x = true ∨ X.env.scope.names.lookup x = some .local := by first | exact .inl rfl | exact .inr rfl) :
    SG c X is (.Name x pos) (gname i) := fun d ρ ρ' e => by
  cases e
  refine PG.imp (pg_name (i := i) hN hi hx hf) fun v σ H Q ⟨W, ps, g, S, r, h⟩ => ?_
  obtain ⟨ps', S', st⟩ := S.store (k := .fz) i (Fr.refl _ _) S.bx r rfl
  have e : ∃ ps', SR c W ps' (σ.set i (some v)) H (ρ.set i (.fz d)) g ∧ (∀ p ∈ owns ps', p ∈ owns ps) ∧ Chs is ps ps' := by
    refine ⟨ps.set i none, ⟨(S.sl.set i (.fz r)).chg (Chg.less fun a z => ?_) fun _ _ _ e => e, owns_nd_none S.nd, fun p z => S.dj p (owns_set_none z), S.old, S.bx, S.bo⟩, fun p z => owns_set_none z, List.length_set, fun j n => List.getElem?_set_ne fun z => n (by rw [← z]; exact hm)⟩
    rcases List.mem_append.mp z with z | z
    · exact List.mem_append_left _ (owns_set_none z)
    · exact List.mem_append_right _ z
  obtain ⟨ps', S', sub, chp⟩ := e
  exact h _ ps' S' sub ⟨List.length_set, fun j n => List.getElem?_set_ne fun z => n (by rw [← z]; exact hm)⟩ chp
def gnil : DGs := fun ds ρ => match ds with | [] => some ρ | _ => none
def gcons (γ : DG) (γs : DGs) : DGs := fun ds ρ => match ds with | d :: ds => (γ d ρ).bind (γs ds) | [] => none
theorem sgs_nil : SGs c X is [] gnil := fun ds ρ ρ' e => by
  cases ds with
  | cons d ds => cases e
  | nil =>
    cases e
    refine PGs.imp pgs_nil fun vs σ H Q ⟨W, ps, g, S, r, h⟩ => ?_
    cases r
    exact ⟨rfl, h σ ps S (fun _ z => z) (Chs.refl _ _) (Chs.refl _ _)⟩
theorem sgs_cons {e : Expr} {es : List Expr} {γ : DG} {γs : DGs} (h1 : SG c X is e γ) (h2 : SGs c X is es γs) (hs : (assignEach (e :: es) X.env).map (·.2) = assign e X.env :: (assignEach es X.env).map (·.2) := by rfl) : SGs c X is (e :: es) (gcons γ γs) := fun ds ρ ρ' e => by
  cases ds with
  | nil => cases e
  | cons d ds =>
    have e' : (γ d ρ).bind (γs ds) = some ρ' := e
    cases e1 : γ d ρ with
    | none => rw [e1] at e'; cases e'
    | some ρ1 =>
      rw [e1] at e'
      refine PGs.imp (pgs_cons (h1 d ρ ρ1 e1) (h2 ds ρ1 ρ' e') hs) fun vs σ H Q ⟨W, ps, g, S, r, h⟩ => ?_
      cases r with
      | cons r rs =>
        refine ⟨_, _, rfl, W, ps, g, S, r, fun σ1 ps1 S1 sub ch chp => ⟨W, ps1, g, S1, rs.chg (Chg.less fun a z => ?_) _ _, fun σ2 ps2 S2 sub2 ch2 chp2 => h σ2 ps2 S2 (fun p z => sub p (sub2 p z)) (ch.trans ch2) (chp.trans chp2)⟩⟩
        rcases List.mem_append.mp z with z | z
        · exact List.mem_append_left _ (sub a z)
        · exact List.mem_append_right _ z
def gtup (n : Nat) (γs : DGs) : DG := fun d ρ => match d with | .tup ds => if ds.length = n then γs ds ρ else none | _ => none
theorem KT.sqt {K : Frag} {H : Hp} {a : Addr} {xs : List V} (h : KT K a xs) : SqT K H a xs := .inr h
theorem KL.sql {K : Frag} {H : Hp} {a : Addr} {xs : List V} (h : KL K a xs) : SqL K H a xs := .inr h
theorem R.tup' {U : List Addr} {H : Hp} {v : V} {ds : List D} (h : R c U H v (.tup ds)) : ∃ a xs, v = .ref a ∧ SqT c.K H a xs ∧ xs.length ≤ sizeLine ∧ Rs c U H xs ds ∧ (∀ H' U', Chg c c U U' H H' → SqT c.K H' a xs) := by
  cases h with
  | tup h1 h2 hl h3 => exact ⟨_, _, rfl, .inl h1, hl, h3, fun H' U' g => .inl (g.rd h1 h2).1⟩
  | ktup h1 h3 =>
    refine ⟨_, _, rfl, .inr h1, ?_, h3, fun H' U' g => .inr h1⟩
    obtain ⟨o, its, n, _, _, _, hz, r⟩ := h1
    have e := r.length
    simp only [Array.length_toList] at e
    omega
theorem R.lst' {U : List Addr} {H : Hp} {v : V} {ds : List D} (h : R c U H v (.lst ds)) : ∃ a xs, v = .ref a ∧ SqL c.K H a xs ∧ xs.length ≤ sizeLine ∧ Rs c U H xs ds ∧ (∀ H' U', Chg c c U U' H H' → SqL c.K H' a xs) := by
  cases h with
  | lst h1 h2 hl h3 => exact ⟨_, _, rfl, .inl h1, hl, h3, fun H' U' g => .inl (g.rd h1 h2).1⟩
  | klst h1 h3 =>
    refine ⟨_, _, rfl, .inr h1, ?_, h3, fun H' U' g => .inr h1⟩
    obtain ⟨o, its, n, _, _, _, _, hz, r⟩ := h1
    have e := r.length
    simp only [Array.length_toList] at e
    omega
theorem sg_tup {es : List Expr} {k n : Nat} {γs : DGs} (hK : c.K = X.K) (hc : X.calm = true) (h : SGs c X is es γs) (hn : (assignEach es X.env).length = n := by rfl) (hst : (assignEach es X.env).findIdx? (·.1) = none := by rfl) : SG c X is (.Tuple es k pos) (gtup n γs) := fun d ρ ρ' e => by
  cases d with
  | tup ds =>
    have e' : (if ds.length = n then γs ds ρ else none) = some ρ' := e
    by_cases hl : ds.length = n
    · rw [if_pos hl] at e'
      refine PG.imp (pg_tup hc (h ds ρ ρ' e') hn hst) fun v σ H Q ⟨W, ps, g, S, r, hq⟩ => ?_
      obtain ⟨a, xs, rfl, sq, _, rs, _⟩ := r.tup'
      exact ⟨a, xs, rfl, hK ▸ sq, by rw [rs.length, hl], W, ps, g, S, rs, hq⟩
    · rw [if_neg hl] at e'; cases e'
  | _ => cases e

/-- a target = a value that is nobody's -/
def dasg (γ : DG) (a : DE) : DS := fun ρ g => (a ρ g).bind fun x g => match vals [x] with
  | some [d] => (match γ d ρ with | some ρ' => .ok (.nx ρ') g | none => .no)
  | _ => .no
theorem PG.any {tg : Expr} {ι : Type} {t : ι → TG} (h : ∀ i, PG X tg (t i)) : PG X tg (fun v σ H Q => ∃ i, t i v σ H Q) := ⟨fun pins s σ H v u Q I r ⟨i, q⟩ => (h i).run pins s σ H v u Q I r q⟩
theorem PSs.any {sts : List Stmt} {ι : Type} {t : ι → TS} (h : ∀ i, PSs X sts (t i)) : PSs X sts (fun D σ H => ∃ i, t i D σ H) := ⟨fun pins s σ H D I ⟨i, q⟩ => (h i).run pins s σ H D I q⟩
theorem PT.any {e : Expr} {ι : Type} {t : ι → TT} (h : ∀ i, PT X e (t i)) : PT X e (fun σ H Q => ∃ i, t i σ H Q) := ⟨fun pins s σ H Q I ⟨i, q⟩ => (h i).run pins s σ H Q I q⟩
theorem PE.any {e : Expr} {ι : Type} {t : ι → TE} (h : ∀ i, PE X e (t i)) : PE X e (fun σ H Q => ∃ i, t i σ H Q) := ⟨fun pins s σ H Q I ⟨i, q⟩ => (h i).run pins s σ H Q I q⟩
def anyG (c : Cg) (is : List Nat) (γ : DG) : TG := fun v σ H Q => ∃ i : { p : D × Env × Env // γ p.1 p.2.1 = some p.2.2 }, tG c is i.1.1 i.1.2.1 i.1.2.2 v σ H Q
def anyS (c : Cg) (W' : WX) (b : DS) : TS := fun D σ H => ∃ i : Env × G, tS c W' i.1 i.2 (b i.1 i.2) D σ H
def anyT (c : Cg) (W' : WX) (b : DT) : TT := fun σ H Q => ∃ i : Env × G, tT c W' i.1 i.2 (b i.1 i.2) σ H Q
def anyE (c : Cg) (W' : WX) (b : DE) : TE := fun σ H Q => ∃ i : Env × G, tE c W' i.1 i.2 (b i.1 i.2) σ H Q
theorem SG.anyG {tg : Expr} {γ : DG} (h : SG c X is tg γ) : PG X tg (anyG c is γ) := PG.any fun i => h i.1.1 i.1.2.1 i.1.2.2 i.2
theorem SSs.anyS {sts : List Stmt} {b : DS} (h : SSs c X W' sts b) : PSs X sts (anyS c W' b) := PSs.any (ι := Env × G) fun i => h i.1 i.2
theorem ST.anyT {e : Expr} {b : DT} (h : ST c X W' e b) : PT X e (anyT c W' b) := PT.any (ι := Env × G) fun i => h i.1 i.2
theorem SE.anyE {e : Expr} {b : DE} (h : SE c X W' e b) : PE X e (anyE c W' b) := PE.any (ι := Env × G) fun i => h i.1 i.2
theorem vals1_some {x : KD} {d : D} (h : vals [x] = some [d]) : x.1 ≠ .bw ∧ x.2 = d := by
  obtain ⟨k, d'⟩ := x
  cases k with
  | bw => cases h
  | fz => cases h; exact ⟨(by intro z; cases z), rfl⟩
  | fr => cases h; exact ⟨(by intro z; cases z), rfl⟩
theorem ss_asg {tg e : Expr} {γ : DG} {a : DE} (he : SE c X W' e a) (hg : SG c X is tg γ) (hs : swapsWithSole [tg] e pos.line X.env = pure false := by rfl) (hw : swappedStores [tg] e X.env = pure none := by rfl)
    (h1 : (assignEach [tg] X.env).map (·.2) = [assign tg X.env] := by rfl) : SS c X W' (.Assign [tg] e pos) (dasg γ a) := fun ρ g =>
  PS.imp (ps_asg (he ρ g) hg.anyG hs hw h1) fun D σ H ⟨W, ps, S, h⟩ => by
    refine ⟨W, ps, S, ?_⟩
    unfold dasg at h
    cases ea : a ρ g with
    | no => rw [ea] at h; exact h
    | ex n g1 => rw [ea] at h; exact WantE.exS h
    | ok x g1 =>
      rw [ea, Re.bind_ok] at h
      split at h
      · rename_i d ev
        obtain ⟨hk, rfl⟩ := vals1_some ev
        cases eg : γ x.2 ρ with
        | none => rw [eg] at h; exact h.elim
        | some ρ' =>
          rw [eg] at h
          intro v H1 f1 b1 kr
          exact ⟨⟨(x.2, ρ, ρ'), eg⟩, W, ps, g1, S.step f1 b1, kr.toR hk, fun σ' ps' S' sub _ _ => h σ' H1 ps' S' ⟨Fs.of f1, fun p z => .inl (sub p z)⟩⟩
      · exact h.elim

/-! ### what is gone through -/
abbrev DI := Env → G → Re (List D)
/-- what may change while one goes through: in a loop (b) what is owned or kept apart; in an expression only the box -/
def May (c : Cg) (U : List Addr) (b : Bool) (a : Addr) : Prop := if b = true then a ∈ U else c.β.ex a
/-- the walk J gives the items ds, one by one -/
def Wlk (c : Cg) (U : List Addr) (b : Bool) (H0 : Hp) (J : It) (ds : List D) : Prop :=
  ds.length ≤ sizeLine ∧ ∃ (Gd : Hp → Prop) (Y : Nat → Hp → V → Hp → Prop), Walk J ds.length Gd Y ∧ (∀ H1, (∀ a o, H0 a = some o → ¬ May c U b a → H1 a = some o) → Gd H1) ∧
    ∀ i H1 x H2 U1, i < ds.length → (∀ a o, H0 a = some o → ¬ May c U b a → H1 a = some o) → (∀ a o, H0 a = some o → a ∉ U → a ∉ U1) → (∀ a ∈ U1, H1 a ≠ none) → Y i H1 x H2 → ∃ d, ds[i]? = some d ∧ (∀ a o, H1 a = some o → H2 a = some o) ∧ R c U1 H2 x d
def WantI (c : Cg) (W' : WX) (U : List Addr) (b : Bool) (σ : L2.St) (H : Hp) (Q : It → Hp → Prop) : Re (List D) → Prop
  | .ok ds g' => ∀ J H', Fr c.β H H' → Bx c.β H' g' → Wlk c U b H' J ds → Q J H'
  | .ex n g' => ∀ H', Fr c.β H H' → Bx c.β H' g' → W' (c.cl n) none σ H'
  | .no => False
def tI (c : Cg) (W' : WX) (b : Bool) (ρ : Env) (g : G) (r : Re (List D)) : TI := fun σ H Q => ∃ W ps, SR c W ps σ H ρ g ∧ WantI c W' (owns ps ++ W) b σ H Q r
def SI (c : Cg) (X : Cx) (W' : WX) (b : Bool) (tg iter : Expr) (δ : DI) : Prop := ∀ ρ g, PI X tg iter (tI c W' b ρ g (δ ρ g))

/-! ### for -/
def forL (f : D → Env → G → Re Fl) : List D → Env → G → Re Fl
  | [], ρ, g => .ok (.nx ρ) g
  | d :: ds, ρ, g => match f d ρ g with
    | .ok (.nx ρ') g' => forL f ds ρ' g'
    | .ok (.ct ρ') g' => forL f ds ρ' g'
    | .ok (.bk ρ') g' => .ok (.nx ρ') g'
    | .ok (.rt k d) g' => .ok (.rt k d) g'
    | .ex n g' => .ex n g'
    | .no => .no
def fbody (γ : DG) (b : DS) : D → Env → G → Re Fl := fun d ρ g => match γ d ρ with | some ρ' => b ρ' g | none => .no
def dfor (it : DI) (γ : DG) (b : DS) : DS := fun ρ g => (it ρ g).bind fun ds g => forL (fbody γ b) ds ρ g
theorem Stp.refl {β : Bs} {ps : Ps} {H : Hp} : Stp β ps H ps H := ⟨fun _ _ e _ _ => e, fun _ z => .inl z⟩
theorem ss_for {tg iter : Expr} {body : List Stmt} {it : DI} {γ : DG} {b : DS} (hp : PassesOwn (model X.prog X.w) X.A X.env X.xe) (hc : X.calm = true) (hi : SI c X W' true tg iter it) (hg : SG c X is tg γ) (hb : SSs c X W' body b)
    (hs : ∀ x, foldedSetIterable iter X.env x = pure x := by intro _; rfl) : SS c X W' (.For tg iter body [] pos) (dfor it γ b) := fun ρ g => by
  refine PS.imp (ps_for hp hc (hi ρ g) hg.anyG hb.anyS hs) fun D σ H ⟨W, ps, S, h⟩ => ?_
  refine ⟨W, ps, S, ?_⟩
  unfold dfor at h
  cases ea : it ρ g with
  | no => rw [ea] at h; exact h
  | ex n g1 => rw [ea] at h; exact fun H' f b => h σ H' (Fs.of f) b
  | ok ds g1 =>
    rw [ea, Re.bind_ok] at h
    intro J H1 f1 b1 wk
    obtain ⟨_, Gd, Y, w, hG, hY⟩ := wk
    have S1 := S.step f1 b1
    have h := WantS.later (Stp.of f1) h
    refine for_it (D := D) (g := anyG c is γ) (tb := anyS c W' b) w (fun i σ2 H2 => ∃ ρ2 g2 ps2, SR c W ps2 σ2 H2 ρ2 g2 ∧ Stp c.β ps H1 ps2 H2 ∧ WantS c W' W ps2 H2 D (forL (fbody γ b) (ds.drop i) ρ2 g2)) ⟨ρ, g1, ps, S1, Stp.refl, by simpa using h⟩ ?_ ?_ ?_
    · rintro i σ2 H2 _ ⟨ρ2, g2, ps2, S2, st, _⟩
      exact hG H2 fun a o e n => st.fs a o e (fun z => n (show (if true = true then _ else _) by rw [if_pos rfl]; exact List.mem_append_left _ z)) fun z => n (show (if true = true then _ else _) by rw [if_pos rfl]; exact S1.bU a z)
    · rintro i x σ2 H2 H3 hi ⟨ρ2, g2, ps2, S2, st, wnt⟩ y
      have keep : ∀ a o, H1 a = some o → a ∉ owns ps ++ W → a ∉ owns ps2 ++ W := fun a o e n z => by
        rcases List.mem_append.mp z with z | z
        · rcases st.nw a z with q | q
          · exact n (List.mem_append_left _ q)
          · rw [e] at q; cases q
        · exact n (List.mem_append_right _ z)
      obtain ⟨d, hd, e3, r⟩ := hY i H2 x H3 (owns ps2 ++ W) hi (fun a o e n => st.fs a o e (fun z => n (show (if true = true then _ else _) by rw [if_pos rfl]; exact List.mem_append_left _ z)) fun z => n (show (if true = true then _ else _) by rw [if_pos rfl]; exact S1.bU a z)) keep S2.there y
      · have ed : ds.drop i = d :: ds.drop (i + 1) := by
          rw [List.drop_eq_getElem_cons hi]
          have : ds[i] = d := by
            have := List.getElem?_eq_getElem hi
            rw [hd] at this
            exact (Option.some.inj this).symm
          rw [this]
        rw [ed] at wnt
        unfold forL at wnt
        have S3 : SR c W ps2 σ2 H3 ρ2 g2 := S2.step (ext_fr e3) (S2.bx.fr e3)
        have st3 : Stp c.β ps H1 ps2 H3 := st.trans (Stp.of (ext_fr e3)) S2.nb
        have wnt := WantS.later (Stp.of (ps := ps2) (ext_fr (β := c.β) e3)) wnt
        cases eg : γ d ρ2 with
        | none =>
          have ef : fbody γ b d ρ2 g2 = .no := by
            unfold fbody
            rw [eg]
          rw [ef] at wnt
          exact wnt.elim
        | some ρ3 =>
          have ef : fbody γ b d ρ2 g2 = b ρ3 g2 := by
            unfold fbody
            rw [eg]
          rw [ef] at wnt
          refine ⟨⟨(d, ρ2, ρ3), eg⟩, W, ps2, g2, S3, r, fun σ4 ps4 S4 sub _ _ => ⟨(ρ3, g2), W, ps4, S4, ?_⟩⟩
          have s34 : Stp c.β ps2 H3 ps4 H3 := ⟨fun _ _ e _ _ => e, fun p z => .inl (sub p z)⟩
          have st4 : Stp c.β ps H1 ps4 H3 := st3.trans s34 S4.nb
          cases eb : b ρ3 g2 with
          | no => rw [eb] at wnt; exact wnt
          | ex n g3 => rw [eb] at wnt; exact fun σ' H' f b => wnt σ' H' (Fs.trans s34 f) b
          | ok fl g3 =>
            rw [eb] at wnt
            cases fl with
            | nx ρ5 => exact fun σ' H' ps' S' st' => ⟨ρ5, g3, ps', S', st4.trans st' S'.nb, WantS.later (s34.trans st' S'.nb) wnt⟩
            | ct ρ5 => exact fun σ' H' ps' S' st' => ⟨ρ5, g3, ps', S', st4.trans st' S'.nb, WantS.later (s34.trans st' S'.nb) wnt⟩
            | bk ρ5 => exact fun σ' H' ps' S' st' => wnt σ' H' ps' S' (s34.trans st' S'.nb)
            | rt k d => exact fun v H' f b kr => wnt v H' (Fs.trans s34 f) b (KRt.back s34 kr)
    · rintro σ2 H2 ⟨ρ2, g2, ps2, S2, st, wnt⟩
      rw [List.drop_length] at wnt
      exact wnt σ2 H2 ps2 S2 Stp.refl

/-! ### while -/
def whl (t : DT) (b : DS) : Nat → Env → G → Re Fl
  | 0, _, _ => .no
  | n + 1, ρ, g => (t ρ g).bind fun x g => if x = true then (match b ρ g with
      | .ok (.nx ρ') g' => whl t b n ρ' g'
      | .ok (.ct ρ') g' => whl t b n ρ' g'
      | .ok (.bk ρ') g' => .ok (.nx ρ') g'
      | .ok (.rt k d) g' => .ok (.rt k d) g'
      | .ex n g' => .ex n g'
      | .no => .no) else .ok (.nx ρ) g
def dwhile (n : Nat) (t : DT) (b : DS) : DS := whl t b n
theorem ss_while (n : Nat) {e : Expr} {body : List Stmt} {t : DT} {b : DS} (hp : PassesOwn (model X.prog X.w) X.A X.env X.xe) (ht : ST c X W' e t) (hb : SSs c X W' body b) : SS c X W' (.While e body [] pos) (dwhile n t b) := fun ρ g => by
  refine PS.imp (ps_while hp ht.anyT hb.anyS) fun D σ H ⟨W, ps, S, h⟩ => ?_
  refine ⟨fun m σ2 H2 => ∃ ρ2 g2 ps2, SR c W ps2 σ2 H2 ρ2 g2 ∧ WantS c W' W ps2 H2 D (whl t b m ρ2 g2), ⟨n, ρ, g, ps, S, h⟩, ?_⟩
  rintro m σ2 H2 ⟨ρ2, g2, ps2, S2, w⟩
  cases m with
  | zero => exact w.elim
  | succ m =>
    unfold whl at w
    refine ⟨(ρ2, g2), W, ps2, S2, ?_⟩
    cases et : t ρ2 g2 with
    | no => rw [et] at w; exact w
    | ex n g3 => rw [et] at w; exact fun H' f b => w σ2 H' (Fs.of f) b
    | ok x g3 =>
      rw [et, Re.bind_ok] at w
      intro H3 f3 b3
      have S3 := S2.step f3 b3
      have w := WantS.later (Stp.of f3) w
      cases x with
      | false =>
        rw [if_neg Bool.false_ne_true] at w ⊢
        exact w σ2 H3 ps2 S3 Stp.refl
      | true =>
        rw [if_pos rfl] at w ⊢
        refine ⟨fun σ' H' => ∃ ρ' g' ps', SR c W ps' σ' H' ρ' g' ∧ WantS c W' W ps' H' D (whl t b m ρ' g'), fun σ' H' q => ⟨m, Nat.lt_succ_self m, q⟩, (ρ2, g3), W, ps2, S3, ?_⟩
        cases eb : b ρ2 g3 with
        | no => rw [eb] at w; exact w
        | ex n g4 => rw [eb] at w; exact w
        | ok fl g4 =>
          rw [eb] at w
          cases fl with
          | nx ρ5 => exact fun σ' H' ps' S' st' => ⟨ρ5, g4, ps', S', WantS.later st' w⟩
          | ct ρ5 => exact fun σ' H' ps' S' st' => ⟨ρ5, g4, ps', S', WantS.later st' w⟩
          | bk ρ5 => exact w
          | rt k d => exact w
end
end Dn

set_option Elab.async false
set_option linter.all false
set_option maxRecDepth 100000
/-! E5: comprehensions, what is gone through, defs. -/
namespace Dn
open PySem L2

def Re.noex {α : Type} : Re α → Re α
  | .ok a g => .ok a g
  | _ => .no
def lcL (f : D → G → Re (List D)) : List D → G → Re (List D)
  | [], g => .ok [] g
  | d :: ds, g => (f d g).bind fun xs g => (lcL f ds g).bind fun ys g => .ok (xs ++ ys) g
def wipeE (ρ : Env) : List Nat → Env
  | [] => ρ
  | v :: vs => (wipeE ρ vs).set v .un
def wipeP (ps : Ps) : List Nat → Ps
  | [] => ps
  | v :: vs => (wipeP ps vs).set v none
def lbody (γ : DG) (t : DT) (e : DE) (ρ : Env) : D → G → Re (List D) := fun d g => match γ d ρ with
  | some ρ' => (t ρ' g).bind fun b g => if b = true then (e ρ' g).bind fun x g => (match vals [x] with | some ds => .ok ds g | none => .no) else .ok [] g
  | none => .no
def dlc (it : DI) (vs : List Nat) (γ : DG) (t : DT) (e : DE) : DE := fun ρ g => (it ρ g).bind fun ds g => (lcL (lbody γ t e (wipeE ρ vs)) ds g).noex.bind fun out g => .ok (.fr, .lst out) g
abbrev W0 : WX := fun _ _ _ _ => False

section
variable {c : Cg} {X : Cx} {W' : WX} {pos : Pos} {is : List Nat}
def STs (c : Cg) (X : Cx) (W' : WX) (es : List Expr) (δ : DT) : Prop := ∀ ρ g, PTs X es (tT c W' ρ g (δ ρ g))
theorem PTs.imp {e : List Expr} {t t' : TT} (h : PTs X e t) (i : ∀ σ H Q, t' σ H Q → t σ H Q) : PTs X e t' := ⟨fun pins s σ H Q I q => h.run pins s σ H Q I (i σ H Q q)⟩
def dyes : DT := fun _ g => .ok true g
theorem sts_nil : STs c X W' [] dyes := fun ρ g => PTs.imp pts_nil fun σ H Q ⟨W, ps, S, h⟩ => h H (Fr.refl _ _) S.bx
theorem sts_one {e : Expr} {δ : DT} (h : ST c X W' e δ) : STs c X W' [e] δ := fun ρ g => pts_one (h ρ g)
theorem STs.anyT {es : List Expr} {b : DT} (h : STs c X W' es b) : PTs X es (anyT c W' b) := ⟨fun pins s σ H Q I ⟨i, q⟩ => (h i.1 i.2).run pins s σ H Q I q⟩
theorem takes0 : Takes X W0 := fun _ _ x => by
  obtain ⟨_, _, _, _, _, _, _, _, _, _, _, _, _, _, _, _, z⟩ := x
  exact z.elim

theorem RSls.wipe {U : List Addr} {H : Hp} {σ : L2.St} {ρ : Env} {ps : Ps} (h : RSls c U H σ ρ ps) : ∀ vs : List Nat, RSls c U H (wipe σ vs) (wipeE ρ vs) (wipeP ps vs)
  | [] => h
  | v :: vs => (RSls.wipe h vs).set v .un
theorem owns_wipe {ps : Ps} : ∀ {vs : List Nat} {p : Addr}, p ∈ owns (wipeP ps vs) → p ∈ owns ps
  | [], _, h => h
  | v :: vs, _, h => owns_wipe (vs := vs) (owns_set_none h)
theorem nd_wipe {ps : Ps} (h : (owns ps).Nodup) : ∀ vs : List Nat, (owns (wipeP ps vs)).Nodup
  | [] => h
  | v :: vs => owns_nd_none (nd_wipe h vs)
/-- what a block must not lean on: the new list, the slots that it cannot see -/
def blkW (D : Addr) (ps : Ps) (vs : List Nat) (W : List Addr) : List Addr := D :: ((owns ps).filter (fun p => decide (p ∉ owns (wipeP ps vs))) ++ W)
theorem mem_blk {D : Addr} {ps : Ps} {vs : List Nat} {W : List Addr} {a : Addr} : a ∈ owns (wipeP ps vs) ++ blkW D ps vs W ↔ a = D ∨ a ∈ owns ps ∨ a ∈ W := by
  unfold blkW
  simp only [List.mem_append, List.mem_cons, List.mem_filter, decide_eq_true_eq]
  constructor
  · rintro (h | h | ⟨h, _⟩ | h)
    · exact .inr (.inl (owns_wipe h))
    · exact .inl h
    · exact .inr (.inl h)
    · exact .inr (.inr h)
  · rintro (h | h | h)
    · exact .inr (.inl h)
    · by_cases q : a ∈ owns (wipeP ps vs)
      · exact .inl q
      · exact .inr (.inr (.inl ⟨h, q⟩))
    · exact .inr (.inr (.inr h))
theorem SR.blk {W : List Addr} {ps : Ps} {σ : L2.St} {H : Hp} {ρ : Env} {g : G} {D : Addr} (S : SR c W ps σ H ρ g) (vs : List Nat) (hD : H D = none) : SR c (blkW D ps vs W) (wipeP ps vs) (wipe σ vs) (upd H D (.lst [])) (wipeE ρ vs) g := by
  have ne : ∀ a, H a ≠ none → a ≠ D := fun a n e => n (by rw [e]; exact hD)
  have up : ∀ a o, H a = some o → upd H D (.lst []) a = some o := fun a o e => by rw [upd_ne (ne_of_none e hD)]; exact e
  refine ⟨(S.sl.chg (U' := owns (wipeP ps vs) ++ blkW D ps vs W) (H' := upd H D (.lst [])) ⟨rfl, fun _ e => e, fun a o e n => ⟨up a o e, fun z => ?_⟩⟩ fun q z o e => up q o e).wipe vs, nd_wipe S.nd vs, fun p z y => ?_, fun a z => ?_, S.bx.fr up, fun b e => ?_⟩
  · rcases mem_blk.mp z with rfl | z | z
    · rw [hD] at e; cases e
    · exact n (List.mem_append_left _ z)
    · exact n (List.mem_append_right _ z)
  · unfold blkW at y
    simp only [List.mem_append, List.mem_cons, List.mem_filter, decide_eq_true_eq] at y
    rcases y with rfl | ⟨_, y⟩ | y
    · exact S.there p (List.mem_append_left _ (owns_wipe z)) hD
    · exact y z
    · exact S.dj p (owns_wipe z) y
  · by_cases e : a = D
    · rw [e, upd_same]; exact fun z => by cases z
    · rw [upd_ne e]
      unfold blkW at z
      simp only [List.mem_append, List.mem_cons, List.mem_filter, decide_eq_true_eq] at z
      rcases z with rfl | ⟨z, _⟩ | z
      · exact absurd rfl e
      · exact S.there a (List.mem_append_left _ z)
      · exact S.old a z
  · unfold blkW
    exact List.mem_cons_of_mem _ (List.mem_append_right _ (S.bo b e))
/-- the new list has grown -/
theorem SR.grown {D : Addr} {ps : Ps} {vs : List Nat} {W : List Addr} {psw : Ps} {σ : L2.St} {H : Hp} {ρ : Env} {g : G} {xs : List V} (S : SR c (blkW D ps vs W) psw σ H ρ g) (hz : ∃ zs, H D = some (.lst zs)) (hb : ¬ c.β.ex D) : SR c (blkW D ps vs W) psw σ (upd H D (.lst xs)) ρ g := by
  have hD : D ∈ blkW D ps vs W := List.mem_cons_self
  have nD : ∀ p ∈ owns psw, p ≠ D := fun p z e => S.dj p z (e ▸ hD)
  refine ⟨S.sl.chg ⟨rfl, fun _ e => e, fun a o e n => ⟨?_, n⟩⟩ (fun q z o e => ?_), S.nd, S.dj, fun a z => ?_, ?_, S.bo⟩
  · rw [upd_ne (fun z => n (by rw [z]; exact List.mem_append_right _ hD))]; exact e
  · rw [upd_ne (nD q (mem_owns.mpr z))]; exact e
  · by_cases e : a = D
    · rw [e, upd_same]; exact fun z => by cases z
    · rw [upd_ne e]; exact S.old a z
  · obtain ⟨zs, e⟩ := hz
    exact S.bx.upd hb e fun q z => by unfold LamX.CodeO at z; cases z
theorem wipe_get {σ : L2.St} : ∀ {vs : List Nat} {j : Nat}, j ∉ vs → (wipe σ vs)[j]? = σ[j]?
  | [], _, _ => rfl
  | v :: vs, j, h => by
    unfold wipe
    rw [List.getElem?_set_ne (fun e => h (by rw [e]; exact List.mem_cons_self))]
    exact wipe_get fun z => h (List.mem_cons_of_mem _ z)
theorem wipe_in {σ : L2.St} : ∀ {vs : List Nat} {j : Nat}, j ∈ vs → j < σ.length → (wipe σ vs)[j]? = some none
  | v :: vs, j, h, hl => by
    unfold wipe
    by_cases e : v = j
    · subst e
      rw [List.getElem?_set_self (by rw [wipe_length]; exact hl)]
    · rw [List.getElem?_set_ne e]
      rcases List.mem_cons.mp h with z | z
      · exact absurd z.symm e
      · exact wipe_in z hl
theorem wipeP_in {ps : Ps} : ∀ {vs : List Nat} {j : Nat}, j ∈ vs → ∀ p : Addr, (wipeP ps vs)[j]? ≠ some (some p)
  | v :: vs, j, h, p => by
    unfold wipeP
    by_cases e : v = j
    · subst e
      rw [List.getElem?_set]
      rw [if_pos rfl]
      split <;> exact fun z => by cases z
    · rw [List.getElem?_set_ne e]
      rcases List.mem_cons.mp h with z | z
      · exact absurd z.symm e
      · exact wipeP_in z p
/-- the block's target takes no ownership away -/
theorem Chs.owns {ps ps' : Ps} {vs : List Nat} (h : Chs vs (wipeP ps vs) ps') {p : Addr} (hp : p ∈ Dn.owns (wipeP ps vs)) : p ∈ Dn.owns ps' := by
  obtain ⟨j, hj⟩ := List.mem_iff_getElem?.mp (mem_owns.mp hp)
  have nj : j ∉ vs := fun z => wipeP_in z p hj
  exact mem_owns.mpr (List.mem_iff_getElem?.mpr ⟨j, by rw [h.2 j nj]; exact hj⟩)
theorem Chs.wipe {vs : List Nat} {σ σ' : L2.St} (h : Chs vs (L2.wipe σ vs) σ') : L2.wipe σ' vs = L2.wipe σ vs := by
  refine List.ext_getElem? fun j => ?_
  by_cases hj : j ∈ vs
  · by_cases hl : j < σ'.length
    · rw [wipe_in hj hl, wipe_in hj (by rw [← wipe_length σ vs, ← h.1]; exact hl)]
    · rw [List.getElem?_eq_none (by rw [wipe_length]; omega), List.getElem?_eq_none (by rw [← h.1]; omega)]
  · rw [wipe_get hj, h.2 j hj]
theorem lcL_le {f : D → G → Re (List D)} (hf : ∀ d g xs g', f d g = .ok xs g' → xs.length ≤ 1) : ∀ (ds : List D) (g : G) (out : List D) (g' : G), lcL f ds g = .ok out g' → out.length ≤ ds.length
  | [], _, _, _, e => by cases e; exact Nat.le_refl _
  | d :: ds, g, out, g', e => by
    unfold lcL at e
    cases e1 : f d g with
    | no => rw [e1] at e; cases e
    | ex n g1 => rw [e1] at e; cases e
    | ok xs g1 =>
      rw [e1, Re.bind_ok] at e
      cases e2 : lcL f ds g1 with
      | no => rw [e2] at e; cases e
      | ex n g1 => rw [e2] at e; cases e
      | ok ys g2 =>
        rw [e2, Re.bind_ok] at e
        cases e
        have h1 := hf d g xs g1 e1
        have h2 := lcL_le hf ds g1 ys _ e2
        rw [List.length_append, List.length_cons]
        omega
theorem lbody_le {γ : DG} {t : DT} {e : DE} {ρ : Env} (d : D) (g : G) (xs : List D) (g' : G) (h : lbody γ t e ρ d g = .ok xs g') : xs.length ≤ 1 := by
  unfold lbody at h
  cases e1 : γ d ρ with
  | none => rw [e1] at h; cases h
  | some ρ' =>
    rw [e1] at h
    dsimp only at h
    cases e2 : t ρ' g with
    | no => rw [e2] at h; cases h
    | ex n g1 => rw [e2] at h; cases h
    | ok b g1 =>
      rw [e2, Re.bind_ok] at h
      cases b with
      | false =>
        rw [if_neg Bool.false_ne_true] at h
        cases h
        exact Nat.zero_le _
      | true =>
        rw [if_pos rfl] at h
        cases e3 : e ρ' g1 with
        | no => rw [e3] at h; cases h
        | ex n g1 => rw [e3] at h; cases h
        | ok x g2 =>
          rw [e3, Re.bind_ok] at h
          obtain ⟨k, d'⟩ := x
          cases k with
          | bw => cases h
          | fz => cases h; exact Nat.le_refl _
          | fr => cases h; exact Nat.le_refl _
theorem lc_r {it : DI} {vs : List Nat} {γ : DG} {t : DT} {e : DE} {ρ : Env} {g : G} {σ : L2.St} {H : Hp} {Q : VK} (h : tE c W' ρ g (dlc it vs γ t e ρ g) σ H Q) :
    tLc (tI c W' false ρ g (it ρ g)) (anyG c vs γ) (anyT c W0 t) (anyE c W0 e) vs σ H Q := by
  obtain ⟨W, ps, S, h⟩ := h
  refine ⟨W, ps, S, ?_⟩
  unfold dlc at h
  cases ea : it ρ g with
  | no => rw [ea] at h; exact h
  | ex n g1 => rw [ea] at h; exact h
  | ok ds g1 =>
    rw [ea, Re.bind_ok] at h
    cases el : lcL (lbody γ t e (wipeE ρ vs)) ds g1 with
    | no => rw [el] at h; exact h.elim
    | ex n g2 => rw [el] at h; exact h.elim
    | ok out g2 =>
      rw [el] at h
      have h : WantE c W' (owns ps ++ W) σ H Q (.ok (.fr, .lst out) g2) := h
      intro J H1 f1 b1 wk D hD
      obtain ⟨hz, Gd, Y, w, hG, hY⟩ := wk
      have S1 := S.step f1 b1
      have nb : ¬ c.β.ex D := fun z => S1.there D (S1.bU D z) hD
      have outl : out.length ≤ sizeLine := Nat.le_trans (lcL_le lbody_le ds g1 out g2 el) hz
      have sub : ∀ a, a ∈ D :: (owns ps ++ W) ↔ a ∈ owns (wipeP ps vs) ++ blkW D ps vs W := fun a => by
        rw [mem_blk, List.mem_cons, List.mem_append]
      refine lc_it (g := anyG c vs γ) (tt := anyT c W0 t) (te := anyE c W0 e) w (fun i H2 => ∃ g2' va da rest, SR c (blkW D ps vs W) (wipeP ps vs) (L2.wipe σ vs) H2 (wipeE ρ vs) g2' ∧ (∀ a o, H1 a = some o → a ≠ D → ¬ c.β.ex a → H2 a = some o) ∧ H2 D = some (.lst va) ∧ Rs c (D :: (owns ps ++ W)) H2 va da ∧
        lcL (lbody γ t e (wipeE ρ vs)) (ds.drop i) g2' = .ok rest g2 ∧ da ++ rest = out) ⟨g1, [], [], out, S1.blk vs hD, fun a o e n _ => by rw [upd_ne n]; exact e, upd_same, .nil, by simpa using el, rfl⟩ ?_ ?_ ?_
      · rintro i H2 _ ⟨g2', va, da, rest, S2, f2, _⟩
        exact hG H2 fun a o e n => f2 a o e (fun z => by rw [z, hD] at e; cases e) n
      · rintro i x H2 H3 hi ⟨g2', va, da, rest, S2, f2, hva, rs, ell, eo⟩ y
        have keep : ∀ a o, H1 a = some o → a ∉ owns ps ++ W → a ∉ owns (wipeP ps vs) ++ blkW D ps vs W := fun a o e n z => by
          have nD : a ≠ D := fun z => by rw [z, hD] at e; cases e
          rcases mem_blk.mp z with z | z | z
          · exact nD z
          · exact n (List.mem_append_left _ z)
          · exact n (List.mem_append_right _ z)
        obtain ⟨d, hd, e3, r⟩ := hY i H2 x H3 _ hi (fun a o e n => f2 a o e (fun z => by rw [z, hD] at e; cases e) n) keep S2.there y
        have ed : ds.drop i = d :: ds.drop (i + 1) := by
          rw [List.drop_eq_getElem_cons hi]
          have q := List.getElem?_eq_getElem hi
          rw [hd] at q
          rw [← Option.some.inj q]
        rw [ed] at ell
        unfold lcL at ell
        have S3 := S2.step (ext_fr e3) (S2.bx.fr e3)
        cases eg : γ d (wipeE ρ vs) with
        | none =>
          have ef : lbody γ t e (wipeE ρ vs) d g2' = .no := by
            unfold lbody
            rw [eg]
          rw [ef] at ell
          cases ell
        | some ρ3 =>
          refine ⟨⟨(d, wipeE ρ vs, ρ3), eg⟩, _, _, g2', S3, r, fun σ4 ps4 S4 sub4 ch4 chp4 => ⟨ch4.wipe, (ρ3, g2'), _, ps4, S4, ?_⟩⟩
          have ef : lbody γ t e (wipeE ρ vs) d g2' = (t ρ3 g2').bind fun b g => if b = true then (e ρ3 g).bind fun x g => (match vals [x] with | some ds => .ok ds g | none => .no) else .ok [] g := by
            unfold lbody
            rw [eg]
          rw [ef] at ell
          cases et : t ρ3 g2' with
          | no => rw [et] at ell; cases ell
          | ex n g3 => rw [et] at ell; cases ell
          | ok b g3 =>
            rw [et, Re.bind_ok] at ell
            intro H5 f5 b5
            have S5 := S4.step f5 b5
            have S5w := S3.step f5 b5
            have fD5 : H5 D = some (.lst va) := f5 D _ (e3 D _ hva) nb
            have k5 : ∀ a o, H1 a = some o → a ≠ D → ¬ c.β.ex a → H5 a = some o := fun a o e n q => f5 a o (e3 a o (f2 a o e n q)) q
            have gr : ∀ {Hx Hy : Hp}, Fr c.β Hx Hy → Chg c c (D :: (owns ps ++ W)) (D :: (owns ps ++ W)) Hx Hy := fun {Hx Hy} f => Chg.grow f fun b e => List.mem_cons_of_mem _ (S1.bU b e)
            have rs5 := (rs.chg (Chg.ext e3) _ _).chg (gr f5) _ _
            cases b with
            | false =>
              rw [if_neg Bool.false_ne_true] at ell ⊢
              rw [Re.bind_ok] at ell
              cases er : lcL (lbody γ t e (wipeE ρ vs)) (ds.drop (i + 1)) g3 with
              | no => rw [er] at ell; cases ell
              | ex n g4 => rw [er] at ell; cases ell
              | ok ys g4 =>
                rw [er, Re.bind_ok] at ell
                cases ell
                exact ⟨g3, va, da, ys, S5w, k5, fD5, rs5, er, eo⟩
            | true =>
              rw [if_pos rfl] at ell ⊢
              refine ⟨(ρ3, g3), _, ps4, S5, ?_⟩
              cases ee : e ρ3 g3 with
              | no => rw [ee] at ell; cases ell
              | ex n g4 => rw [ee] at ell; cases ell
              | ok z g4 =>
                rw [ee, Re.bind_ok] at ell
                intro v H6 f6 b6 kr
                cases ev : vals [z] with
                | none => rw [ev] at ell; cases ell
                | some zs =>
                  rw [ev] at ell
                  dsimp only at ell
                  rw [Re.bind_ok] at ell
                  cases er : lcL (lbody γ t e (wipeE ρ vs)) (ds.drop (i + 1)) g4 with
                  | no => rw [er] at ell; cases ell
                  | ex n g5 => rw [er] at ell; cases ell
                  | ok ys g5 =>
                    rw [er, Re.bind_ok] at ell
                    cases ell
                    obtain ⟨dz, rfl⟩ : ∃ dz, zs = [dz] := by
                      obtain ⟨k, d'⟩ := z
                      cases k with
                      | bw => cases ev
                      | fz => cases ev; exact ⟨_, rfl⟩
                      | fr => cases ev; exact ⟨_, rfl⟩
                    obtain ⟨hk, hz2⟩ := vals1_some ev
                    have rz := kr.toR hk
                    have S6w := S5w.step f6 b6
                    have fD6 : H6 D = some (.lst va) := f6 D _ fD5 nb
                    have rs6 := rs5.chg (gr f6) _ _
                    have rz' : R c (D :: (owns ps ++ W)) H6 v dz := by
                      rw [← hz2]
                      refine rz.chg ⟨rfl, fun _ e => e, fun a o e n => ⟨e, fun q => n ?_⟩⟩ _ _
                      rcases mem_blk.mp ((sub a).mp q) with z | z | z
                      · rw [z]; exact List.mem_append_right _ List.mem_cons_self
                      · rcases List.mem_append.mp ((sub a).mp q) with y | y
                        · exact List.mem_append_left _ (chp4.owns y)
                        · exact List.mem_append_right _ y
                      · rcases List.mem_append.mp ((sub a).mp q) with y | y
                        · exact List.mem_append_left _ (chp4.owns y)
                        · exact List.mem_append_right _ y
                    have hl : va.length < sizeLine := by
                      have := rs6.length
                      have : (da ++ ([dz] ++ ys)).length ≤ sizeLine := by rw [eo]; exact outl
                      simp at this
                      omega
                    refine ⟨va, fD6, hl, g4, va ++ [v], da ++ [dz], ys, S6w.grown ⟨_, fD6⟩ nb, fun a o e n q => ?_, upd_same, (rs6.append (.cons rz' .nil)).chg ⟨rfl, fun _ e => e, fun a o e n => ⟨?_, n⟩⟩ _ _, er, by rw [List.append_assoc]; exact eo⟩
                    · rw [upd_ne n]
                      exact f6 a o (k5 a o e n q) q
                    · rw [upd_ne (fun z => n (by rw [z]; exact List.mem_cons_self))]
                      exact e
      · rintro H2 ⟨g2', va, da, rest, S2, f2, hva, rs, ell, eo⟩
        rw [List.drop_length] at ell
        cases ell
        rw [List.append_nil] at eo
        subst eo
        have fr2 : Fr c.β H1 H2 := fun a o e n => f2 a o e (fun z => by rw [z, hD] at e; cases e) n
        refine h _ H2 (f1.trans fr2) S2.bx ⟨D, rfl, f1.free nb hD, nb, fun z => S1.there D z hD, va, hva, ?_, rs⟩
        rw [rs.length]
        exact outl
theorem se_lc {elt tg iter : Expr} {ifs : List Expr} {scope : Scope} {own : List (Str × Nat)} {it : DI} {γ : DG} {t : DT} {e : DE} (hc : X.calm = true) (hN : X.N.Nodup) (hi : SI c X W' false tg iter it) (ok : BlkOk X.N X.env.scope scope own)
    (hg : ∀ (s : Shared) (H : Hp) (C : Addr) (cl : List (Str × Addr)) (fp : List Addr), SG c (X.blk s H scope (compEnvC scope cl C X.env) fp) (own.map (·.2)) tg γ) (ht : ∀ (s : Shared) (H : Hp) (C : Addr) (cl : List (Str × Addr)) (fp : List Addr), STs c (X.blk s H scope (compEnvC scope cl C X.env) fp) W0 ifs t)
    (he : ∀ (s : Shared) (H : Hp) (C : Addr) (cl : List (Str × Addr)) (fp : List Addr), SE c (X.blk s H scope (compEnvC scope cl C X.env) fp) W0 elt e) (hs : ∀ x, foldedSetIterable iter X.env x = pure x := by intro _; rfl) :
    SE c X W' (.ListComp elt [⟨tg, iter, ifs, 0⟩] scope pos) (dlc it (own.map (·.2)) γ t e) := fun ρ g =>
  PE.imp (pe_lc hc hN (hi ρ g) ok (fun s H C cl fp => (hg s H C cl fp).anyG) (fun s H C cl fp => (ht s H C cl fp).anyT) (fun s H C cl fp => (he s H C cl fp).anyE) hs) fun σ H Q h => lc_r h
theorem ss_setlc {i : Nat} {y : Str} {py : Pos} {elt tg iter : Expr} {ifs : List Expr} {scope : Scope} {own : List (Str × Nat)} {spos : Pos} {it : DI} {γ : DG} {t : DT} {e : DE} (hc : X.calm = true) (hN : X.N.Nodup) (hsw : swapsWith (.ListComp elt [⟨tg, iter, ifs, 0⟩] scope pos) (some (.Name y py)) spos.line X.env = pure true) (hi : SI c X W' false tg iter it) (ok : BlkOk X.N X.env.scope scope own)
    (hg : ∀ (s : Shared) (H : Hp) (C : Addr) (cl : List (Str × Addr)) (fp : List Addr), SG c (X.blk s H scope (compEnvC scope cl C X.env) fp) (own.map (·.2)) tg γ) (ht : ∀ (s : Shared) (H : Hp) (C : Addr) (cl : List (Str × Addr)) (fp : List Addr), STs c (X.blk s H scope (compEnvC scope cl C X.env) fp) W0 ifs t)
    (he : ∀ (s : Shared) (H : Hp) (C : Addr) (cl : List (Str × Addr)) (fp : List Addr), SE c (X.blk s H scope (compEnvC scope cl C X.env) fp) W0 elt e) (hy : X.N[i]? = some y := by rfl) (hyl : X.env.scope.names.lookup y = some .local := by rfl) (hs : ∀ x, foldedSetIterable iter X.env x = pure x := by intro _; rfl) :
    SS c X W' (.Assign [.Name y py] (.ListComp elt [⟨tg, iter, ifs, 0⟩] scope pos) spos) (dset i (dlc it (own.map (·.2)) γ t e)) := fun ρ g =>
  PS.imp (ps_setLc hc hN hy hyl hsw (hi ρ g) ok (fun s H C cl fp => (hg s H C cl fp).anyG) (fun s H C cl fp => (ht s H C cl fp).anyT) (fun s H C cl fp => (he s H C cl fp).anyE) hs) fun D σ H h => by
    have q := set_r h
    exact lc_r q

/-! ### what is gone through -/
def dseqv (s : Bool) (a : DE) : DI := fun ρ g => (a ρ g).bind fun x g => match x.1, s, x.2 with
  | .bw, true, _ => .no
  | _, _, .lst ds => .ok ds g
  | .bw, false, _ => .no
  | _, _, .tup ds => .ok ds g
  | _, _, _ => .no
theorem wlk_list {U : List Addr} {b : Bool} {H0 : Hp} {a : Addr} {xs : List V} {ds : List D} (hK : c.K = X.K) (hq : ∀ H1, (∀ p o, H0 p = some o → ¬ May c U b p → H1 p = some o) → SqL c.K H1 a xs) (hz : xs.length ≤ sizeLine) (rs : Rs c U H0 xs ds)
    (hU : ∀ p, c.β.ex p → p ∈ U) : Wlk c U b H0 (Itl X.K a) ds := by
  refine ⟨by rw [← rs.length]; exact hz, fun H => SqL X.K H a xs, YAt xs, by rw [← rs.length]; exact walk_list, fun H1 h => hK ▸ hq H1 h, fun i H1 x H2 U1 hi k nU _ y => ?_⟩
  obtain ⟨rfl, hx⟩ := y
  obtain ⟨d, hd, r⟩ := rs.get' hx
  refine ⟨d, hd, fun _ _ e => e, r.chg ⟨rfl, fun _ e => e, fun p o e n => ⟨k p o e fun z => ?_, nU p o e n⟩⟩ _ _⟩
  unfold May at z
  split at z
  · exact n z
  · exact n (hU p z)
theorem wlk_tup {U : List Addr} {b : Bool} {H0 : Hp} {a : Addr} {xs : List V} {ds : List D} (hK : c.K = X.K) (hq : ∀ H1, (∀ p o, H0 p = some o → ¬ May c U b p → H1 p = some o) → SqT c.K H1 a xs) (hz : xs.length ≤ sizeLine) (rs : Rs c U H0 xs ds)
    (hU : ∀ p, c.β.ex p → p ∈ U) : Wlk c U b H0 (Itt X.K a) ds := by
  refine ⟨by rw [← rs.length]; exact hz, fun H => SqT X.K H a xs, YAt xs, by rw [← rs.length]; exact walk_tup, fun H1 h => hK ▸ hq H1 h, fun i H1 x H2 U1 hi k nU _ y => ?_⟩
  obtain ⟨rfl, hx⟩ := y
  obtain ⟨d, hd, r⟩ := rs.get' hx
  refine ⟨d, hd, fun _ _ e => e, r.chg ⟨rfl, fun _ e => e, fun p o e n => ⟨k p o e fun z => ?_, nU p o e n⟩⟩ _ _⟩
  unfold May at z
  split at z
  · exact n z
  · exact n (hU p z)
theorem May.ofU {U : List Addr} {b : Bool} {p : Addr} (hU : ∀ p, c.β.ex p → p ∈ U) (h : May c U b p) : p ∈ U := by
  unfold May at h
  split at h
  · exact h
  · exact hU p h
theorem stay_sql {U : List Addr} {b : Bool} {H0 H1 : Hp} {v : V} {ds : List D} (r : R c U H0 v (.lst ds)) (hU : ∀ p, c.β.ex p → p ∈ U) (k : ∀ p o, H0 p = some o → ¬ May c U b p → H1 p = some o) :
    ∀ a xs, v = .ref a → SqL c.K H0 a xs → xs.length ≤ sizeLine → (∀ H' U', Chg c c U U' H0 H' → SqL c.K H' a xs) → SqL c.K H1 a xs := fun a xs _ _ _ st =>
  st H1 U ⟨rfl, fun _ e => e, fun p o e n => ⟨k p o e fun z => n (z.ofU hU), n⟩⟩
theorem si_val (s : Bool) {tg l : Expr} {a : DE} (hK : c.K = X.K) (h : SE c X W' l a) : SI c X W' s tg l (dseqv s a) := fun ρ g => by
  have stuck : dseqv s a ρ g = .no → PI X tg l (tI c W' s ρ g (dseqv s a ρ g)) := fun e => ⟨fun pins st σ H Q I ⟨W, ps, S, h⟩ => by rw [e] at h; exact h.elim⟩
  cases ea : a ρ g with
  | no => exact stuck (by unfold dseqv; rw [ea]; rfl)
  | ex n g1 =>
    refine ⟨fun pins st σ H Q I h' => (pi_list (h ρ g)).run pins st σ H Q I ?_⟩
    have e : dseqv s a ρ g = .ex n g1 := by unfold dseqv; rw [ea]; rfl
    rw [e] at h'
    show tE c W' ρ g (a ρ g) σ H _
    rw [ea]
    exact h'
  | ok x g1 =>
    obtain ⟨k, d⟩ := x
    cases d with
    | lst ds =>
      by_cases hs : k = .bw ∧ s = true
      · exact stuck (by unfold dseqv; rw [ea, hs.1, hs.2]; rfl)
      · have e : dseqv s a ρ g = .ok ds g1 := by
          unfold dseqv
          rw [ea, Re.bind_ok]
          cases k <;> cases s <;> first | rfl | exact absurd ⟨rfl, rfl⟩ hs
        refine ⟨fun pins st σ H Q I h' => (pi_list (h ρ g)).run pins st σ H Q I ?_⟩
        rw [e] at h'
        obtain ⟨W, ps, S, h'⟩ := h'
        show tE c W' ρ g (a ρ g) σ H _
        rw [ea]
        refine ⟨W, ps, S, fun v H1 f1 b1 kr => ?_⟩
        have S1 := S.step f1 b1
        have go : ∀ r : R c (owns ps ++ W) H1 v (.lst ds), ∃ a, v = V.ref a ∧ (∃ xs, SqL X.K H1 a xs) ∧ Q (Itl X.K a) H1 := fun r => by
          obtain ⟨p, xs, rfl, sq, hz, rs, st⟩ := r.lst'
          exact ⟨p, rfl, ⟨xs, hK ▸ sq⟩, h' _ H1 f1 b1 (wlk_list hK (fun H2 k => st H2 _ ⟨rfl, fun _ e => e, fun q o e n => ⟨k q o e fun z => n (z.ofU S1.bU), n⟩⟩) hz rs S1.bU)⟩
        cases k with
        | fz => exact go kr
        | fr => exact go (KR.toR (k := .fr) kr (by intro z; cases z))
        | bw =>
          have s0 : s = false := by
            cases s with
            | false => rfl
            | true => exact absurd ⟨rfl, rfl⟩ hs
          subst s0
          rcases kr with r | ⟨p, rfl, nb, xs, hp, hz, rs⟩
          · exact go r
          · exact ⟨p, rfl, ⟨xs, .inl (.inl hp)⟩, h' _ H1 f1 b1 (wlk_list hK (fun H2 k => .inl (.inl (k p _ hp fun z => nb (by unfold May at z; simpa using z)))) hz rs S1.bU)⟩
    | tup ds =>
      cases k with
      | bw => exact stuck (by unfold dseqv; rw [ea]; cases s <;> rfl)
      | fz =>
        have e : dseqv s a ρ g = .ok ds g1 := by unfold dseqv; rw [ea]; cases s <;> rfl
        refine ⟨fun pins st σ H Q I h' => (pi_tup (h ρ g)).run pins st σ H Q I ?_⟩
        rw [e] at h'
        obtain ⟨W, ps, S, h'⟩ := h'
        show tE c W' ρ g (a ρ g) σ H _
        rw [ea]
        refine ⟨W, ps, S, fun v H1 f1 b1 kr => ?_⟩
        have S1 := S.step f1 b1
        obtain ⟨p, xs, rfl, sq, hz, rs, st⟩ := R.tup' kr
        exact ⟨p, rfl, ⟨xs, hK ▸ sq⟩, h' _ H1 f1 b1 (wlk_tup hK (fun H2 k => st H2 _ ⟨rfl, fun _ e => e, fun q o e n => ⟨k q o e fun z => n (z.ofU S1.bU), n⟩⟩) hz rs S1.bU)⟩
      | fr =>
        have e : dseqv s a ρ g = .ok ds g1 := by unfold dseqv; rw [ea]; cases s <;> rfl
        refine ⟨fun pins st σ H Q I h' => (pi_tup (h ρ g)).run pins st σ H Q I ?_⟩
        rw [e] at h'
        obtain ⟨W, ps, S, h'⟩ := h'
        show tE c W' ρ g (a ρ g) σ H _
        rw [ea]
        refine ⟨W, ps, S, fun v H1 f1 b1 kr => ?_⟩
        obtain ⟨p, _, _, _, _, z⟩ := kr
        exact z.elim
    | _ => exact stuck (by unfold dseqv; rw [ea]; cases k <;> cases s <;> rfl)
/-- range -/
def rng (lo : Int) (n : Nat) : List D := (List.range n).map fun i => .int (lo + (i : Nat))
theorem wlk_rng {U : List Addr} {b : Bool} {H0 : Hp} {lo : Int} {n : Nat} (hn : n ≤ sizeLine) : Wlk c U b H0 (Itr lo n) (rng lo n) := by
  have hl : (rng lo n).length = n := by simp [rng]
  refine ⟨by rw [hl]; exact hn, fun _ => True, YFn fun i => .int (lo + i), by rw [hl]; exact walk_range, fun _ _ => trivial, fun i H1 x H2 U1 hi _ _ _ y => ?_⟩
  obtain ⟨rfl, rfl⟩ := y
  rw [hl] at hi
  exact ⟨.int (lo + i), by simp [rng, hi], fun _ _ e => e, .int _⟩
def drng1 (as : DA) : DI := fun ρ g => (as ρ g).bind fun xs g => match xs with
  | [(_, .int j)] => if -1000000 ≤ j ∧ j ≤ 1000000 then .ok (rng 0 j.toNat) g else .no
  | _ => .no
def drng2 (as : DA) : DI := fun ρ g => (as ρ g).bind fun xs g => match xs with
  | [(_, .int i), (_, .int j)] => if -1000000000 ≤ i ∧ i ≤ 1000000000 ∧ -1000000 ≤ j - i ∧ j - i ≤ 1000000 then .ok (rng i (j - i).toNat) g else .no
  | _ => .no
theorem small6 {n : Nat} (h : n ≤ 1000000) : n ≤ sizeLine := by rw [sizeLine_eq]; omega
theorem si_rng1 (s : Bool) {tg a : Expr} {as : DA} {p : Pos} (hg : Gl X "range") (hm : X.mg "range" = none) (ha : SA c X W' [a] as) (hs : starEach [a] X.env = [(false, eval a X.env)] := by rfl) : SI c X W' s tg (.Call (.Name "range" p) [a] [] pos) (drng1 as) := fun ρ g => by
  refine ⟨fun pins st σ H Q I ⟨W, ps, S, h⟩ => (pi_range1 hg hm (ha ρ g) hs).run pins st σ H Q I ⟨W, ps, S, ?_⟩⟩
  unfold drng1 at h
  cases ea : as ρ g with
  | no => rw [ea] at h; exact h
  | ex n g1 => rw [ea] at h; exact h
  | ok xs g1 =>
    rw [ea, Re.bind_ok] at h
    intro vs H1 f1 b1 ks
    split at h
    · rename_i k j
      cases ks with
      | cons k1 k2 =>
        cases k2
        have e := KR.isint k1
        subst e
        by_cases hj : -1000000 ≤ j ∧ j ≤ 1000000
        · rw [if_pos hj] at h
          exact ⟨j, rfl, by omega, by omega, h _ H1 f1 b1 (wlk_rng (small6 (by omega)))⟩
        · rw [if_neg hj] at h; exact h.elim
    · exact h.elim
theorem si_rng2 (s : Bool) {tg a b : Expr} {as : DA} {p : Pos} (hg : Gl X "range") (hm : X.mg "range" = none) (ha : SA c X W' [a, b] as) (hs : starEach [a, b] X.env = [(false, eval a X.env), (false, eval b X.env)] := by rfl) (hs2 : starEach [b] X.env = [(false, eval b X.env)] := by rfl) : SI c X W' s tg (.Call (.Name "range" p) [a, b] [] pos) (drng2 as) := fun ρ g => by
  refine ⟨fun pins st σ H Q I ⟨W, ps, S, h⟩ => (pi_range2 hg hm (ha ρ g) hs hs2).run pins st σ H Q I ⟨W, ps, S, ?_⟩⟩
  unfold drng2 at h
  cases ea : as ρ g with
  | no => rw [ea] at h; exact h
  | ex n g1 => rw [ea] at h; exact h
  | ok xs g1 =>
    rw [ea, Re.bind_ok] at h
    intro vs H1 f1 b1 ks
    split at h
    · rename_i k i k' j
      cases ks with
      | cons k1 k2 =>
        cases k2 with
        | cons k2 k3 =>
          cases k3
          have e1 := KR.isint k1
          have e2 := KR.isint k2
          subst e1 e2
          by_cases hj : -1000000000 ≤ i ∧ i ≤ 1000000000 ∧ -1000000 ≤ j - i ∧ j - i ≤ 1000000
          · rw [if_pos hj] at h
            exact ⟨i, j, rfl, ⟨by omega, by omega, by omega, by omega⟩, h _ H1 f1 b1 (wlk_rng (small6 (by omega)))⟩
          · rw [if_neg hj] at h; exact h.elim
    · exact h.elim
/-- range(a, b, -1) -/
def rngd (lo : Int) (n : Nat) : List D := (List.range n).map fun i => .int (lo - (i : Nat))
theorem wlk_rngd {U : List Addr} {b : Bool} {H0 : Hp} {lo : Int} {n : Nat} (hn : n ≤ sizeLine) : Wlk c U b H0 (Itc lo (-1) n) (rngd lo n) := by
  have hl : (rngd lo n).length = n := by simp [rngd]
  refine ⟨by rw [hl]; exact hn, fun _ => True, YFn fun i => .int (lo + (i : Nat) * (-1)), by rw [hl]; exact walk_rangeC, fun _ _ => trivial, fun i H1 x H2 U1 hi _ _ _ y => ?_⟩
  obtain ⟨rfl, rfl⟩ := y
  rw [hl] at hi
  refine ⟨.int (lo + (i : Nat) * (-1)), ?_, fun _ _ e => e, .int _⟩
  have e : lo + (i : Int) * (-1) = lo - (i : Int) := by omega
  rw [e]
  simp [rngd, hi]
def drng3 (as : DA) : DI := fun ρ g => (as ρ g).bind fun xs g => match xs with
  | [(_, .int i), (_, .int j), (_, .int (-1))] => if -1000000000 ≤ i ∧ i ≤ 1000000000 ∧ -1000000 ≤ i - j ∧ i - j ≤ 1000000 then .ok (rngd i (i - j).toNat) g else .no
  | _ => .no
theorem si_rng3 (s : Bool) {tg a b d : Expr} {as : DA} {p : Pos} (hg : Gl X "range") (hm : X.mg "range" = none) (ha : SA c X W' [a, b, d] as) (hs : starEach [a, b, d] X.env = (false, eval a X.env) :: starEach [b, d] X.env := by rfl) (hpl : (backTo pos (starEach [b, d] X.env)).any (·.1) = false := by rfl) : SI c X W' s tg (.Call (.Name "range" p) [a, b, d] [] pos) (drng3 as) := fun ρ g => by
  refine ⟨fun pins st σ H Q I ⟨W, ps, S, h⟩ => (pi_range3 hg hm (ha ρ g) hs hpl).run pins st σ H Q I ⟨W, ps, S, ?_⟩⟩
  unfold drng3 at h
  cases ea : as ρ g with
  | no => rw [ea] at h; exact h
  | ex n g1 => rw [ea] at h; exact h
  | ok xs g1 =>
    rw [ea, Re.bind_ok] at h
    intro vs H1 f1 b1 ks
    split at h
    · rename_i k i k' j k''
      cases ks with
      | cons k1 k2 =>
        cases k2 with
        | cons k2 k3 =>
          cases k3 with
          | cons k3 k4 =>
            cases k4
            have e1 := KR.isint k1
            have e2 := KR.isint k2
            have e3 := KR.isint k3
            subst e1 e2 e3
            by_cases hj : -1000000000 ≤ i ∧ i ≤ 1000000000 ∧ -1000000 ≤ i - j ∧ i - j ≤ 1000000
            · rw [if_pos hj] at h
              exact ⟨i, j, -1, (i - j).toNat, rfl, RgC.neg (by omega) (by omega) (by omega) (by omega), h _ H1 f1 b1 (wlk_rngd (small6 (by omega)))⟩
            · rw [if_neg hj] at h; exact h.elim
    · exact h.elim
/-! enumerate -/
def enumD (ds : List D) : List D := (List.range ds.length).zip ds |>.map fun p => .tup [.int (p.1 : Nat), p.2]
theorem enumD_get {ds : List D} {i : Nat} {d : D} (h : ds[i]? = some d) : (enumD ds)[i]? = some (.tup [.int (i : Nat), d]) := by
  have hi : i < ds.length := (List.getElem?_eq_some_iff.mp h).1
  unfold enumD
  rw [List.getElem?_map, (List.getElem?_zip_eq_some (z := (i, d))).mpr ⟨List.getElem?_range hi, h⟩]
  rfl
theorem enumD_len (ds : List D) : (enumD ds).length = ds.length := by simp [enumD]
theorem pair_new {U1 : List Addr} {H1 H2 : Hp} {T : Addr} {x y : V} {d e : D} (hT : H1 T = none) (e2 : H2 = upd H1 T (.tup [x, y])) (hU : ∀ a ∈ U1, H1 a ≠ none) (rx : R c U1 H1 x d) (ry : R c U1 H1 y e) :
    (∀ a o, H1 a = some o → H2 a = some o) ∧ R c U1 H2 (.ref T) (.tup [d, e]) := by
  subst e2
  have k : ∀ a o, H1 a = some o → upd H1 T (.tup [x, y]) a = some o := fun a o e => by rw [upd_ne (ne_of_none e hT)]; exact e
  exact ⟨k, .tup (.inl upd_same) (fun z => hU T z hT) (by show 2 ≤ sizeLine; decide) (.cons (rx.chg (Chg.ext k) _ _) (.cons (ry.chg (Chg.ext k) _ _) .nil))⟩
/-- enumerate of a tuple -/
def IteT (K : PySem.W.Frag) (a : Addr) : It :=
  ⟨fun i H => ∃ (xs : List V) (x : V), SqT K H a xs ∧ xs[i]? = some x, fun i H v H' => ∃ T x, v = .ref T ∧ H T = none ∧ H' = upd H T (.tup [.int (i : Nat), x]) ∧ ∀ xs, SqT K H a xs → xs[i]? = some x, fun i H => ∃ xs : List V, SqT K H a xs ∧ xs.length ≤ i⟩
end
section
open PySem PySem.Spec PyProof.Rows
theorem turn_enumT {P : Program} {w : World} {K : PySem.W.Frag} {elts : List Expr} {kk : Nat} {tpos : Pos} (a e it : Addr) (hai : a ≠ it) (hae : a ≠ e) :
    Turn P w K (.Tuple elts kk tpos) (IteT K a) [e, it] e (fun i h => (∃ old, IsEnum h e it ((i : Nat) : Int) old) ∧ h.IsTupleIter it a i ∧ e ≠ it) where
  mem := by simp
  obj := fun i h st b hb => by
    obtain ⟨⟨old, he⟩, ⟨o, ho, hc, hd⟩, _⟩ := st
    have e' : b = e ∨ b = it := by simpa using hb
    rcases e' with z | z
    · rw [z]; exact ⟨_, he, fun v q => nomatch q⟩
    · rw [z]; exact ⟨o, ho, fun v q => by rw [hd] at q; cases q⟩
  keep := fun i h h' st k => let ⟨⟨old, he⟩, hi, hne⟩ := st; ⟨⟨old, k e (by simp) _ he⟩, hi.at fun o q => k it (by simp) o q, hne⟩
  item := by
    intro X hP hw hK hc i pins s σ H E I hf st hg
    subst hP hw hK
    obtain ⟨⟨old, he⟩, hit, hne⟩ := st
    obtain ⟨xs, x, hq, hx⟩ := hg
    obtain ⟨its, rv, p, hz⟩ := I.tuple hq
    have pt : s.heap.IsTuple a its.toArray := p
    obtain ⟨u, hu, ru⟩ := rv.get hx
    have hel : e < s.heap.objs.size := Heap.lt_size he
    have hil : it < s.heap.objs.size := by obtain ⟨_, q, _⟩ := hit; exact Heap.lt_size q
    have hd0 : X.A.in1.handled = none := by first | exact I.ok.hd hc | (have := I.ok.hd hc; simpa [Around.in1] using this)
    have hlt : i < its.toArray.size := by
      have := (List.getElem?_eq_some_iff.mp hu).1
      simpa using this
    refine wpAny_pyNext_enum_itemD (Draws.tuple hd0 it a hai its.toArray) he ⟨hit, pt⟩ hlt hne (by simp only [List.mem_cons, List.not_mem_nil, or_false, not_or]; exact ⟨hne, fun z => hae z.symm⟩) fun x' h' tk hx' ho hst hT hsz hk => ?_
    have ex : x' = u := by
      have q : its[i]? = some x' := by simpa using hx'
      rw [hu] at q
      exact (Option.some.inj q).symm
    subst ex
    refine ⟨_, rfl, wpAny_letOwnedTupleGo_enum (s := { s with heap := h', toks := tk + 1 }) ho fun h'' he' sb => ?_⟩
    have hT2 : h''.get? s.heap.objs.size = some { cls := .type "tuple", data := .seq #[.int i tk, x'] } := (sb.2 _ (Nat.ne_of_gt hel)).trans hT
    have new : ObjOk X.prog X.w (upd H s.heap.objs.size (.tup [.int (i : Nat), x])) h'' s.heap.objs.size (.tup [.int (i : Nat), x]) :=
      ⟨by show 2 ≤ sizeLine; decide, [.int i tk, x'], .cons ⟨_, rfl⟩ (.cons ru .nil), ⟨_, hT2, rfl, _, rfl⟩⟩
    have I1 : Inv X pins σ (upd H s.heap.objs.size (.tup [.int (i : Nat), x])) { s with heap := h'', toks := tk + 1 } :=
      I.turnedNew (ch := [e, it]) (fun b ob hb q => (sb.2 b (fun z => hb (by simp [z]))).trans (hk b ob (fun z => hb (by simp [z])) (fun z => hb (by simp [z])) q)) hf (Nat.le_refl _) new
    refine ⟨.ref s.heap.objs.size, _, I1, rfl, ⟨_, x, rfl, I.hok.fresh (Nat.le_refl _), rfl, fun ys hy => by rw [I.tuple_inj hy hq]; exact hx⟩, ⟨⟨x', ?_⟩, hst.1.at fun o q => (sb.2 it (Ne.symm hne)).trans q, hne⟩, fun b hb => ?_⟩
    · have e1 : ((i + 1 : Nat) : Int) = (i : Int) + 1 := by omega
      rw [e1]; exact he'
    · have hb' : b < s.heap.objs.size := by
        have e' : b = e ∨ b = it := by simpa using hb
        rcases e' with z | z
        · rw [z]; exact hel
        · rw [z]; exact hil
      rw [upd_ne (Nat.ne_of_lt hb')]
      exact (hf b hb).1
  done := by
    intro X hP hw hK hc i pins s σ H E I hf st hg
    subst hP hw hK
    obtain ⟨⟨old, he⟩, hit, hne⟩ := st
    obtain ⟨xs, hq, hx⟩ := hg
    obtain ⟨its, rv, p, hz⟩ := I.tuple hq
    have pt : s.heap.IsTuple a its.toArray := p
    obtain ⟨f0, f1, f2, f3, f4, f5⟩ := hf it (by simp)
    have hl := rv.length
    have hd0 : X.A.in1.handled = none := by first | exact I.ok.hd hc | (have := I.ok.hd hc; simpa [Around.in1] using this)
    have hT : s.TypeIs (.ref e) "enumerate" := ⟨_, he, rfl⟩
    unfold pyNext
    refine wpAny_bind (wpAny_attempt (wpAny_callSpecial?_slot (name := Str.ofString "__next__") hT F.slot_enumerate_next
      (wpAny_call_entry F.slot_enumerate_next hT F.entry_enumerate_next ?_ (F.args_enumerate_next_1 _))))
    show wpAny _ _ (field (.ref e) 2 >>= _) _ _ _
    refine wpAny_bind (wpAny_field he rfl (x := .ref it) rfl ?_)
    refine wpAny_bind (wpAny_nextOf_tuple_end hd0 hit pt (by simp; omega) fun h' x he' hx' => ?_)
    obtain ⟨o, ho, hc2⟩ := hx'
    refine wpAny_bind (wpAny_isInstance (T := "StopIteration") (b := true) ⟨o, ho, hc2⟩ isSubtype_stop ?_)
    exact wpAny_pure ⟨rfl, I.turned (t' := s.toks) (fun b o hb q => he' b o hb q) f0 f1 f3 f4 f5⟩
  self := fun A i s Q E st h => let ⟨⟨_, he⟩, _⟩ := st; wpAny_pyIter_enum he h
set_option maxHeartbeats 1000000 in
theorem meets_enumerate_newT (l : Addr) (items : Array Value) (n : Nat) (dct : Option Addr) (sl : Array (Option Value)) :
    Meets (Builtin.«enumerate.__new__» ⟨[.type "enumerate", .ref l], []⟩) (fun _ R s => s.heap.get? l = some { cls := .type "tuple", dict := dct, data := .seq items n, slots := sl } ∧
      R (.ok (.ret (.ref (s.heap.push { cls := .type "tuple_iterator", data := .fields #[.ref l, .int 0 0] }).objs.size)))
        { s with heap := (s.heap.push { cls := .type "tuple_iterator", data := .fields #[.ref l, .int 0 0] }).push { cls := .type "enumerate", data := .fields #[.none, .bool false, .ref s.heap.objs.size, rawInt 0, .none, .none] } }) :=
  .of_wp fun prog w A R s h => by
    obtain ⟨hp, g, d, tk, os⟩ := s; obtain ⟨hl, h⟩ := h
    have hsub := sub_enumerate
    have hL : Heap.IsTuple (Shared.heap ⟨hp, g, d, tk, os⟩) l items := ⟨_, hl, rfl, n, rfl⟩
    wp_walk using AutoSeq1.wpAny_loadPart' hl
    refine wpAny_stack_any fun st => wpAny_pure ?_
    split
    · rename_i c _ _ _ _ _
      cases (c == Value.type "enumerate")
      · wp_walk using AutoSeq1.wpAny_loadPart' hl, wpAny_pyIter_tuple hL
        exact ⟨_, rfl, h⟩
      · wp_walk using AutoSeq1.wpAny_loadPart' hl, wpAny_pyIter_tuple hL
        exact ⟨_, rfl, h⟩
    · wp_walk using AutoSeq1.wpAny_loadPart' hl, wpAny_pyIter_tuple hL
      exact ⟨_, rfl, h⟩
theorem call_enumerate_tuple {prog : Program} {w : World} {A : Around} {E : Value → Shared → Prop} {s : Shared} {l : Addr} {items : Array Value} {Q : Value → Shared → Prop} (hL : s.heap.IsTuple l items)
    (h : ∀ h', IsEnum h' (s.heap.objs.size + 1) s.heap.objs.size 0 .none → h'.IsTupleIter s.heap.objs.size l 0 → h'.objs.size = s.heap.objs.size + 2 →
      (∀ b o, s.heap.get? b = some o → h'.get? b = some o) → Q (.ref (s.heap.objs.size + 1)) { s with heap := h' }) :
    wpAny (model prog w) A (call (.type "enumerate") [.ref l]) Q E s := by
  obtain ⟨⟨c, dct, dt, sl⟩, hl, hc, n, hd⟩ := hL
  replace hc : c = .type "tuple" := hc
  replace hd : dt = .seq items n := hd
  subst hc hd
  refine callType_new F.called_enumerate (by decide) (F.typeCall_enumerate_1 _) (F.newCall_enumerate_1 _) (fun obj => F.args_object_init_2 obj _) F.entry_enumerate_new
    (meets_enumerate_newT l items n dct sl) ⟨hl, ?_⟩
  have hz : (s.heap.push { cls := .type "tuple_iterator", data := .fields #[.ref l, .int 0 0] }).objs.size = s.heap.objs.size + 1 := Heap.size_push ..
  show _ ∧ _
  rw [hz]
  have he : IsEnum ((s.heap.push { cls := .type "tuple_iterator", data := .fields #[.ref l, .int 0 0] }).push
      { cls := .type "enumerate", data := .fields #[.none, .bool false, .ref s.heap.objs.size, rawInt 0, .none, .none] }) (s.heap.objs.size + 1) s.heap.objs.size 0 .none := by
    have := Heap.get?_push_size (s.heap.push { cls := .type "tuple_iterator", data := .fields #[.ref l, .int 0 0] })
      (o := { cls := .type "enumerate", data := .fields #[.none, .bool false, .ref s.heap.objs.size, rawInt 0, .none, .none] }) rfl
    rw [hz] at this; exact this
  refine ⟨⟨_, he, rfl⟩, h _ he ⟨_, Heap.get?_push_of_some _ (Heap.get?_push_size _ rfl), rfl, rfl⟩ (by rw [Heap.size_push, hz]) fun b o x => Heap.get?_push_of_some _ (Heap.get?_push_of_some _ x)⟩
def iEnumT (K : PySem.W.Frag) (ta : TA) : TI := fun σ H R => ta σ H fun vs H1 => ∃ a xs, vs = [.ref a] ∧ SqT K H1 a xs ∧ R (IteT K a) H1
theorem pi_enumT {X : Cx} {e : Expr} {ta : TA} {p pos tpos : Pos} {elts : List Expr} {kk : Nat} (hg : Gl X "enumerate") (hm : X.mg "enumerate" = none) (ha : PA X [e] ta) (hs : starEach [e] X.env = [(false, eval e X.env)] := by rfl) :
    PI X (.Tuple elts kk tpos) (.Call (.Name "enumerate" p) [e] [] pos) (iEnumT X.K ta) := by
  refine ⟨fun pins s σ H R I h => ?_⟩
  refine Call_ (ld_blt I hg hm boot_enumerate (PyProof.Rows.callWith_type1 (thn (ha.run pos pins s σ H _ I h) fun us s1 ⟨vs, H1, I1, r1, q1⟩ => ?_) hs rfl))
  obtain ⟨a, xs, ex, hq, q⟩ := q1
  subst ex
  cases r1 with
  | cons r rr =>
    cases rr
    cases r
    obtain ⟨its, rv, p', hz⟩ := I1.tuple hq
    have hal : a < s1.heap.objs.size := by obtain ⟨o, ho, _⟩ := p'; exact Heap.lt_size ho
    refine call_enumerate_tuple (show s1.heap.IsTuple a its.toArray from p') fun h' he hit hsz hk => wpAny_pyIter_enum he ?_
    have I2 : Inv X pins σ H1 { s1 with heap := h' } := I1.kept (t' := s1.toks) hk
    refine ⟨s1.heap.objs.size + 1, [s1.heap.objs.size + 1, s1.heap.objs.size], _, _, H1, rfl, I2, turn_enumT a (s1.heap.objs.size + 1) s1.heap.objs.size (Nat.ne_of_lt hal) (Nat.ne_of_lt (Nat.lt_succ_of_lt hal)), ⟨⟨.none, he⟩, hit, Nat.succ_ne_self _⟩, fun b hb => ?_, q⟩
    have e' : b = s1.heap.objs.size + 1 ∨ b = s1.heap.objs.size := by simpa using hb
    have hle : s1.heap.objs.size ≤ b := by
      rcases e' with z | z
      · rw [z]; exact Nat.le_add_right _ _
      · rw [z]; exact Nat.le_refl _
    exact I1.fpOk hle (I1.hok.fresh hle)
theorem walk_enumT {K : PySem.W.Frag} {a : Addr} {xs : List V} : Walk (IteT K a) xs.length (fun H => SqT K H a xs) (YPair (fun i => some (.int (i : Nat))) (fun i => xs[i]?)) := by
  refine ⟨fun i _ hi q => ⟨xs, xs[i], q, by simp [hi]⟩, fun _ q => ⟨xs, q, Nat.le_refl _⟩, fun i H v H' _ q y => ?_⟩
  obtain ⟨T, x, h1, h2, h3, h4⟩ := y
  exact ⟨T, .int (i : Nat), x, h1, h2, h3, rfl, h4 xs q⟩
end
section
variable {c : Cg} {X : Cx} {W' : WX} {pos : Pos} {is : List Nat}
def denum (a : DE) : DI := fun ρ g => (a ρ g).bind fun x g => match x.1, x.2 with
  | .bw, _ => .no
  | _, .lst ds => .ok (enumD ds) g
  | _, .tup ds => .ok (enumD ds) g
  | _, _ => .no
theorem wlk_enum {U : List Addr} {b : Bool} {H0 : Hp} {J : It} {xs : List V} {ds : List D} {Gd : Hp → Prop} (hw : Walk J xs.length Gd (YPair (fun i => some (.int (i : Nat))) (fun i => xs[i]?))) (hq : ∀ H1, (∀ p o, H0 p = some o → ¬ May c U b p → H1 p = some o) → Gd H1) (hz : xs.length ≤ sizeLine) (rs : Rs c U H0 xs ds)
    (hU : ∀ p, c.β.ex p → p ∈ U) : Wlk c U b H0 J (enumD ds) := by
  refine ⟨by rw [enumD_len, ← rs.length]; exact hz, Gd, _, by rw [enumD_len, ← rs.length]; exact hw, hq, fun i H1 x H2 U1 hi k nU hU1 y => ?_⟩
  obtain ⟨T, x1, y1, rfl, hT, e2, hx, hy⟩ := y
  cases hx
  obtain ⟨d, hd, r⟩ := rs.get' hy
  have r1 : R c U1 H1 y1 d := r.chg ⟨rfl, fun _ e => e, fun p o e n => ⟨k p o e fun z => n (z.ofU hU), nU p o e n⟩⟩ _ _
  obtain ⟨q1, q2⟩ := pair_new hT e2 hU1 (.int (i : Nat)) r1
  exact ⟨_, enumD_get hd, q1, q2⟩
theorem sa_one {e : Expr} {a : DE} (ha : SE c X W' e a) (hs : starEach [e] X.env = (false, eval e X.env) :: starEach [] X.env := by rfl) : SA c X W' [e] (dcons a dnil) := sa_cons ha sa_nil hs
theorem si_enum (s : Bool) {elts : List Expr} {kk : Nat} {tpos p : Pos} {e : Expr} {a : DE} (hK : c.K = X.K) (hg : Gl X "enumerate") (hm : X.mg "enumerate" = none) (h : SE c X W' e a) (hs : starEach [e] X.env = [(false, eval e X.env)] := by rfl) : SI c X W' s (.Tuple elts kk tpos) (.Call (.Name "enumerate" p) [e] [] pos) (denum a) := fun ρ g => by
  have hA : PA X [e] (tA c W' ρ g (dcons a dnil ρ g)) := sa_cons h sa_nil hs ρ g
  have stuck : denum a ρ g = .no → PI X (.Tuple elts kk tpos) (.Call (.Name "enumerate" p) [e] [] pos) (tI c W' s ρ g (denum a ρ g)) := fun e => ⟨fun pins st σ H Q I ⟨W, ps, S, h⟩ => by rw [e] at h; exact h.elim⟩
  cases ea : a ρ g with
  | no => exact stuck (by unfold denum; rw [ea]; rfl)
  | ex n g1 =>
    refine ⟨fun pins st σ H Q I h' => (pi_enum hg hm hA hs).run pins st σ H Q I ?_⟩
    have e1 : denum a ρ g = .ex n g1 := by unfold denum; rw [ea]; rfl
    have e2 : dcons a dnil ρ g = .ex n g1 := by unfold dcons; rw [ea]; rfl
    rw [e1] at h'
    rw [e2]
    exact h'
  | ok x g1 =>
    obtain ⟨k, d⟩ := x
    have e2 : dcons a dnil ρ g = .ok [(k, d)] g1 := by unfold dcons; rw [ea]; rfl
    rw [e2] at hA
    cases d with
    | lst ds =>
      by_cases hk : k = .bw
      · exact stuck (by unfold denum; rw [ea, hk]; rfl)
      · have e1 : denum a ρ g = .ok (enumD ds) g1 := by
          unfold denum
          rw [ea]
          cases k with
          | bw => exact absurd rfl hk
          | fz => rfl
          | fr => rfl
        refine ⟨fun pins st σ H Q I h' => (pi_enum hg hm hA hs).run pins st σ H Q I ?_⟩
        rw [e1] at h'
        obtain ⟨W, ps, S, h'⟩ := h'
        refine ⟨W, ps, S, fun vs H1 f1 b1 ks => ?_⟩
        cases ks with
        | cons k1 k2 =>
          cases k2
          have S1 := S.step f1 b1
          obtain ⟨q, xs, rfl, sq, hz, rs, st⟩ := (KR.toR k1 hk).lst'
          exact ⟨q, xs, rfl, hK ▸ sq, h' _ H1 f1 b1 (wlk_enum walk_enum (fun H2 kk => hK ▸ st H2 _ ⟨rfl, fun _ e => e, fun q o e n => ⟨kk q o e fun z => n (z.ofU S1.bU), n⟩⟩) hz rs S1.bU)⟩
    | tup ds =>
      by_cases hk : k = .bw
      · exact stuck (by unfold denum; rw [ea, hk]; rfl)
      · have e1 : denum a ρ g = .ok (enumD ds) g1 := by
          unfold denum
          rw [ea]
          cases k with
          | bw => exact absurd rfl hk
          | fz => rfl
          | fr => rfl
        refine ⟨fun pins st σ H Q I h' => (pi_enumT hg hm hA hs).run pins st σ H Q I ?_⟩
        rw [e1] at h'
        obtain ⟨W, ps, S, h'⟩ := h'
        refine ⟨W, ps, S, fun vs H1 f1 b1 ks => ?_⟩
        cases ks with
        | cons k1 k2 =>
          cases k2
          have S1 := S.step f1 b1
          obtain ⟨q, xs, rfl, sq, hz, rs, st⟩ := (KR.toR k1 hk).tup'
          exact ⟨q, xs, rfl, hK ▸ sq, h' _ H1 f1 b1 (wlk_enum walk_enumT (fun H2 kk => hK ▸ st H2 _ ⟨rfl, fun _ e => e, fun q o e n => ⟨kk q o e fun z => n (z.ofU S1.bU), n⟩⟩) hz rs S1.bU)⟩
    | _ => exact stuck (by unfold denum; rw [ea]; cases k <;> rfl)
/-! zip of two lists, of two tuples -/
def zipD (xs ys : List D) : List D := (xs.zip ys).map fun p => .tup [p.1, p.2]
theorem zipD_get {xs ys : List D} {i : Nat} {x y : D} (h : xs[i]? = some x) (h' : ys[i]? = some y) : (zipD xs ys)[i]? = some (.tup [x, y]) := by
  unfold zipD
  rw [List.getElem?_map, (List.getElem?_zip_eq_some (z := (x, y))).mpr ⟨h, h'⟩]
  rfl
theorem zipD_len (xs ys : List D) : (zipD xs ys).length = min xs.length ys.length := by simp [zipD]
def dzip (as : DA) : DI := fun ρ g => (as ρ g).bind fun xs g => match vals xs with
  | some [.lst xs, .lst ys] => .ok (zipD xs ys) g
  | some [.tup xs, .tup ys] => .ok (zipD xs ys) g
  | _ => .no
theorem walk_zipT {K : PySem.W.Frag} {a b : Addr} {xs ys : List V} {n : Nat} (hn : n = min xs.length ys.length) : Walk (RZ.ItzT K a b) n (fun H => SqT K H a xs ∧ SqT K H b ys) (YPair (fun i => xs[i]?) (fun i => ys[i]?)) := by
  subst hn
  refine ⟨fun i _ hi q => ?_, fun _ q => ⟨xs, ys, q.1, q.2, by omega⟩, fun i H v H' _ q y => ?_⟩
  · have h1 : i < xs.length := by omega
    have h2 : i < ys.length := by omega
    exact ⟨xs, ys, xs[i], ys[i], q.1, q.2, by simp [h1], by simp [h2]⟩
  · obtain ⟨T, x, z, h1, h2, h3, h4, h5⟩ := y
    exact ⟨T, x, z, h1, h2, h3, h4 xs q.1, h5 ys q.2⟩
theorem wlk_zip {U : List Addr} {b : Bool} {H0 : Hp} {J : It} {xs ys : List V} {ds es : List D} {Gd : Hp → Prop} (hw : Walk J (min xs.length ys.length) Gd (YPair (fun i => xs[i]?) (fun i => ys[i]?))) (hq : ∀ H1, (∀ p o, H0 p = some o → ¬ May c U b p → H1 p = some o) → Gd H1) (hz : xs.length ≤ sizeLine) (rs : Rs c U H0 xs ds) (rs' : Rs c U H0 ys es)
    (hU : ∀ p, c.β.ex p → p ∈ U) : Wlk c U b H0 J (zipD ds es) := by
  refine ⟨by rw [zipD_len, ← rs.length]; exact Nat.le_trans (Nat.min_le_left _ _) hz, Gd, _, by rw [zipD_len, ← rs.length, ← rs'.length]; exact hw, hq, fun i H1 x H2 U1 hi k nU hU1 y => ?_⟩
  obtain ⟨T, x1, y1, rfl, hT, e2, hx, hy⟩ := y
  obtain ⟨d, hd, r⟩ := rs.get' hx
  obtain ⟨d', hd', r'⟩ := rs'.get' hy
  have g : Chg c c U U1 H0 H1 := ⟨rfl, fun _ e => e, fun p o e n => ⟨k p o e fun z => n (z.ofU hU), nU p o e n⟩⟩
  obtain ⟨q1, q2⟩ := pair_new hT e2 hU1 (r.chg g _ _) (r'.chg g _ _)
  exact ⟨_, zipD_get hd hd', q1, q2⟩
theorem si_zip (s : Bool) {elts : List Expr} {kk : Nat} {tpos p : Pos} {e e2 : Expr} {as : DA} (hK : c.K = X.K) (hg : Gl X "zip") (hm : X.mg "zip" = none) (h : SA c X W' [e, e2] as) (hs : starEach [e, e2] X.env = (false, eval e X.env) :: starEach [e2] X.env := by rfl) (hpl : (backTo pos (starEach [e2] X.env)).any (·.1) = false := by rfl) :
    SI c X W' s (.Tuple elts kk tpos) (.Call (.Name "zip" p) [e, e2] [] pos) (dzip as) := fun ρ g => by
  refine ⟨fun pins st σ H Q I ⟨W, ps, S, h'⟩ => (RZ.pi_zipA hg hm (h ρ g) hs hpl).run pins st σ H Q I ⟨W, ps, S, ?_⟩⟩
  unfold dzip at h'
  cases ea : as ρ g with
  | no => rw [ea] at h'; exact h'
  | ex n g1 => rw [ea] at h'; exact h'
  | ok xs g1 =>
    rw [ea, Re.bind_ok] at h'
    intro vs H1 f1 b1 ks
    have S1 := S.step f1 b1
    split at h'
    · rename_i _ xs ys ev
      have rs := vals_rs ev ks
      cases rs with
      | cons r1 rs =>
        cases rs with
        | cons r2 rs =>
          cases rs
          obtain ⟨q, us, rfl, sq, hz, rx, st1⟩ := r1.lst'
          obtain ⟨q2, us2, rfl, sq2, hz2, ry, st2⟩ := r2.lst'
          have gg : ∀ {H2 : Hp}, (∀ p o, H1 p = some o → ¬ May c (owns ps ++ W) s p → H2 p = some o) → Chg c c (owns ps ++ W) (owns ps ++ W) H1 H2 := fun kk => ⟨rfl, fun _ e => e, fun q o e n => ⟨kk q o e fun z => n (z.ofU S1.bU), n⟩⟩
          exact ⟨q, q2, us, us2, rfl, .inl ⟨hK ▸ sq, hK ▸ sq2, h' _ H1 f1 b1 (wlk_zip (walk_zip rfl) (fun H2 kk => ⟨hK ▸ st1 H2 _ (gg kk), hK ▸ st2 H2 _ (gg kk)⟩) hz rx ry S1.bU)⟩⟩
    · rename_i _ xs ys ev
      have rs := vals_rs ev ks
      cases rs with
      | cons r1 rs =>
        cases rs with
        | cons r2 rs =>
          cases rs
          obtain ⟨q, us, rfl, sq, hz, rx, st1⟩ := r1.tup'
          obtain ⟨q2, us2, rfl, sq2, hz2, ry, st2⟩ := r2.tup'
          have gg : ∀ {H2 : Hp}, (∀ p o, H1 p = some o → ¬ May c (owns ps ++ W) s p → H2 p = some o) → Chg c c (owns ps ++ W) (owns ps ++ W) H1 H2 := fun kk => ⟨rfl, fun _ e => e, fun q o e n => ⟨kk q o e fun z => n (z.ofU S1.bU), n⟩⟩
          exact ⟨q, q2, us, us2, rfl, .inr ⟨hK ▸ sq, hK ▸ sq2, h' _ H1 f1 b1 (wlk_zip (walk_zipT rfl) (fun H2 kk => ⟨hK ▸ st1 H2 _ (gg kk), hK ▸ st2 H2 _ (gg kk)⟩) hz rx ry S1.bU)⟩⟩
    · exact h'.elim
end
end Dn

set_option Elab.async false
set_option linter.all false
set_option maxRecDepth 100000
/-! E6: defs, raise, changes of owned lists and of the box. -/
namespace Dn
open PySem L2

/-- the function of a def with the body b and m further names -/
def dfun (m : Nat) (b : DS) : DF := fun ds g => match b (ds.map .fz ++ List.replicate m .un) g with
  | .ok (.nx _) g' => .ok (.fz, .non) g'
  | .ok (.rt .bw _) _ => .no
  | .ok (.rt k d) g' => .ok (k, d) g'
  | .ex n g' => .ex n g'
  | _ => .no
section
open PySem.Spec PyProof.Rows
variable {P : Program} {w : World} {K : PySem.W.Frag} {mg : Str → Option Value} {base : Heap}
theorem rsls_start {c : Cg} {U : List Addr} {H : Hp} : ∀ {vs : List V} {ds : List D} (m : Nat), Rs c U H vs ds → RSls c U H (vs.map some ++ List.replicate m none) (ds.map .fz ++ List.replicate m .un) (List.replicate (ds.length + m) none)
  | _, d :: ds, m, .cons h t => by
    have e : (List.replicate ((d :: ds).length + m) none : Ps) = none :: List.replicate (ds.length + m) none := by
      rw [List.length_cons, Nat.succ_add, List.replicate_succ]
    rw [e]
    exact .cons (.fz h) (rsls_start m t)
  | _, _, 0, .nil => .nil
  | _, _, m + 1, .nil => by
    have h := rsls_start (c := c) (U := U) (H := H) m .nil
    simp only [List.map_nil, List.nil_append, List.length_nil, Nat.zero_add] at h ⊢
    rw [List.replicate_succ, List.replicate_succ, List.replicate_succ]
    exact .cons .un h
theorem owns_none : ∀ n : Nat, owns (List.replicate n none) = []
  | 0 => rfl
  | n + 1 => by
    rw [List.replicate_succ]
    exact owns_none n
theorem ok_def {x qual : Str} {st : Stmt} {f : Addr} {fd : FuncData} {N ps : List Str} {k n m : Nat} {b : DS} {cl : Nat → Value} (F : Fun K x qual st f fd) (S : FnScope N ps (defScope st)) (hn : ps.length = n) (hm : N.length - n = m)
    (hbody : ∀ (β : Bs) (cdv : Value) (A : Around) (outer : List PySem.Env) (s : Shared) (H : Hp) (E : XK), Room k (A.deeper (envOfC qual (defScope st) s.heap.objs.size f cdv)) →
      SSs ⟨K, β, cl⟩ (cxOf (L2.CX P w) P w K mg base N qual (defScope st) f cdv A outer s H E) (fun cls d _ H => E cls d H) (defBody st) b) : FnOk P w K mg base (L2.CX P w) (k + 1) f fd ps (spF K cl n (dfun m b)) := by
  refine F.okX S (fun vs H Q E h => ?_) (fun cdv A outer s H vs Q E hr h => ?_)
  · obtain ⟨_, _, _, _, e, _⟩ := h
    rw [e, hn]
  · obtain ⟨β, W, ds, g, hl, rs, hW, hb, bx, want⟩ := h
    refine ⟨_, hbody β cdv A outer s H E hr (ds.map .fz ++ List.replicate m .un) g, W, List.replicate (ds.length + m) none, ?_, ?_⟩
    · refine ⟨?_, by rw [owns_none]; exact List.nodup_nil, fun p z => by rw [owns_none] at z; simp at z, hW, bx, hb⟩
      have q := rsls_start m rs
      rw [owns_none, List.nil_append]
      unfold L2.start
      rw [hl, hm]
      exact q
    · unfold dfun at want
      cases e : b (ds.map .fz ++ List.replicate m .un) g with
      | no => rw [e] at want; exact want
      | ex j g' => rw [e] at want; exact fun σ' H' f bb => want H' (fun a o e n => f a o e (by rw [owns_none]; simp) n) bb
      | ok fl g' =>
        rw [e] at want
        cases fl with
        | nx ρ => exact fun σ' H' ps' S' st => want .non H' (fun a o e n => st.fs a o e (by rw [owns_none]; simp) n) S'.bx .non
        | bk ρ => exact want.elim
        | ct ρ => exact want.elim
        | rt k d =>
          intro v H' f bb kr
          cases k with
          | bw => exact want.elim
          | fz => exact want v H' (fun a o e n => f a o e (by rw [owns_none]; simp) n) bb kr
          | fr =>
            obtain ⟨p, rfl, h1, h2, h3⟩ := kr
            refine want _ H' (fun a o e n => f a o e (by rw [owns_none]; simp) n) bb ⟨p, rfl, ?_, h2, h3⟩
            rcases h1 with h1 | h1
            · rw [owns_none] at h1; simp at h1
            · exact h1
end
section
variable {c : Cg} {X : Cx} {W' : WX} {pos : Pos} {is : List Nat}
/-- an error's class of the program's own, over ValueError -/
structure ExOk (X : Cx) (x : Str) (C : Addr) : Prop where
  ex : PySem.W.excIn X.K C [.type "ValueError", .type "Exception", .type "BaseException", .type "object"] "ValueError.__new__" = true
  g : X.mg x = some (.ref C)
  k : PySem.W.keepIn X.K (.ref C) = true
  r : Raises X (.ref C)
def draise (n : Nat) : DS := fun _ g => .ex n g
theorem ss_raise (n : Nat) {x m : Str} {C : Addr} {j : Nat} {p p2 pos2 : Pos} (hc : X.calm = true) (tk : Takes X W') (ok : ExOk X x C) (hcl : c.cl n = .ref C) (hg : Gl X x) (hdb : (x == ("__debug__" : Str)) = false := by decide) :
    SS c X W' (.Raise (some (.Call (.Name x p) [.Constant (.str m) j p2] [] pos)) none pos2) (draise n) := fun ρ g =>
  PS.imp (ps_raise hc tk (pmk_own PySem.F.excBase_ValueError ok.ex ok.g ok.k ok.r hg hdb)) fun D σ H ⟨W, ps, S, h⟩ => by
    have q := h σ H (Fs.of (Fr.refl _ _)) S.bx
    rw [hcl] at q
    exact q

/-! ### owned lists change -/
theorem set_self {α : Type} {l : List α} {i : Nat} {x : α} (h : l[i]? = some x) : l.set i x = l := by
  refine List.ext_getElem? fun j => ?_
  rw [List.getElem?_set]
  by_cases ej : i = j
  · subst ej
    rw [if_pos rfl, if_pos (List.getElem?_eq_some_iff.mp h).1, h]
  · rw [if_neg ej]
theorem set_set' {α : Type} {l : List α} {i : Nat} {x y : α} : (l.set i x).set i y = l.set i y := by simp
theorem SR.own {W : List Addr} {ps : Ps} {σ : L2.St} {H : Hp} {ρ : Env} {g : G} {i : Nat} {d : D} (S : SR c W ps σ H ρ g) (e : ρ[i]? = some (.ow d)) : ∃ p, σ[i]? = some (some (.ref p)) ∧ ps[i]? = some (some p) ∧ Cont c (owns ps ++ W) H p d ∧ p ∈ owns ps ∧ ¬ c.β.ex p := by
  obtain ⟨x, p, h1, h2, h3⟩ := S.sl.get e
  cases h3 with
  | ow r =>
    have hq := mem_owns.mpr (List.mem_of_getElem? h2)
    exact ⟨_, h1, h2, r, hq, S.nb _ hq⟩
/-- the object of slot i is written -/
theorem SR.put {W : List Addr} {ps : Ps} {σ : L2.St} {H : Hp} {ρ : Env} {g : G} {i : Nat} {p : Addr} {o : HO} {d' : D} (S : SR c W ps σ H ρ g) (h1 : σ[i]? = some (some (.ref p))) (h2 : ps[i]? = some (some p)) (h3 : Cont c (owns ps ++ W) (upd H p o) p d') :
    SR c W ps σ (upd H p o) (ρ.set i (.ow d')) g ∧ Stp c.β ps H ps (upd H p o) := by
  have hp : p ∈ owns ps := mem_owns.mpr (List.mem_of_getElem? h2)
  have np := getElem_set_ne_none h2 S.nd
  have up : ∀ a oo, H a = some oo → a ≠ p → upd H p o a = some oo := fun a oo e n => by rw [upd_ne n]; exact e
  have g1 : Chg c c (owns ps ++ W) (owns ps ++ W) H (upd H p o) := ⟨rfl, fun _ e => e, fun a oo e n => ⟨up a oo e fun z => n (by rw [z]; exact List.mem_append_left _ hp), n⟩⟩
  refine ⟨⟨?_, S.nd, S.dj, fun a z => ?_, ?_, S.bo⟩, ⟨fun a oo e n _ => up a oo e fun z => n (by rw [z]; exact hp), fun q z => .inl z⟩⟩
  · have T1 : RSls c (owns ps ++ W) H (σ.set i (some (.ref p))) (ρ.set i .un) (ps.set i none) := S.sl.set i .un
    have T2 := T1.chg g1 fun q z oo e => up q oo e fun y => np (mem_owns.mpr (by rw [← y]; exact z))
    have T3 := T2.set i (.ow h3)
    rw [set_set', set_set', set_set', set_self h1, set_self h2] at T3
    exact T3
  · by_cases e : a = p
    · rw [e, upd_same]; exact fun z => by cases z
    · rw [upd_ne e]; exact S.old a z
  · have hi : i < ρ.length := by
      have q := (List.getElem?_eq_some_iff.mp h2).1
      rw [S.sl.lens.2] at q
      exact q
    have hg := List.getElem?_eq_getElem hi
    generalize ρ[i] = s at hg
    obtain ⟨x0, p0, e1, e2, e3⟩ := S.sl.get hg
    rw [h2] at e2
    cases e2
    cases e3 with
    | ow r =>
      rename_i d0
      cases d0 with
      | lst ds0 =>
        obtain ⟨zs, hz, _⟩ := r
        exact S.bx.upd (S.nb p hp) hz codeO_lst
      | _ => exact r.elim
theorem tyV_list {K : PySem.W.Frag} {H : Hp} {p : Addr} {xs : List V} (h : H p = some (.lst xs)) : tyV K "list" (.ref p) H := .inl ⟨rfl, _, SqL.of h⟩
theorem lt_line {n : Nat} (h : n < 100000) : n + 1 ≤ sizeLine := by rw [sizeLine_eq]; omega
def dapp (i : Nat) (a : DE) : DS := fun ρ g => match ρ[i]? with
  | some (.ow (.lst ds)) => (a ρ g).bind fun x g => (match vals [x] with | some [d] => if ds.length < 100000 then .ok (.nx (ρ.set i (.ow (.lst (ds ++ [d]))))) g else .no | _ => .no)
  | _ => .no
theorem ss_app (i : Nat) {x : Str} {e : Expr} {a : DE} {p ap cp : Pos} (he : SE c X W' e a) (hN : X.N[i]? = some x := by rfl) (hv : Vis X.env.scope x := by first | exact Or.inl rfl | exact Or.inr (Or.inl rfl) | exact Or.inr (Or.inr rfl)) (hd : (x == ("__debug__" : Str)) = false := by decide)
    (hcd : (x == ("__classdict__" : Str)) = false := by decide) (hs : swapsWith (.Call (.Attribute (.Name x p) "append" ap) [e] [] cp) none pos.line X.env = pure false := by rfl) (hst : starEach [e] X.env = (false, eval e X.env) :: starEach [] X.env := by rfl)
    (hfew : ((backTo cp (starEach [e] X.env)).all (fun x => !x.1) && (backToKw cp (keywordEach [] X.env)).all (fun x => x.1.isSome)
      && decide ([e].length + ([] : List Keyword).length + (if ([] : List Keyword).isEmpty then 0 else 1) < 30)) = true := by rfl) (hline : (ap.endLine == cp.line) = true := by rfl) :
    SS c X W' (.Expr (.Call (.Attribute (.Name x p) "append" ap) [e] [] cp) pos) (dapp i a) := fun ρ g => by
  refine PS.imp (ps_expr (pe_bm PySem.F.plainAttrs_list PySem.F.slot_list_append PySem.F.type_list_append mt_append (pe_var (i := i) hN hv hd hcd) (pa_cons (he ρ g) pa_nil hst) rfl hfew hline hst) hs) fun D σ H ⟨W, ps, S, h⟩ => ?_
  unfold dapp at h
  split at h
  · rename_i ds er
    obtain ⟨q, h1, h2, ⟨xs, h3, hz, rs⟩, hq, nb⟩ := S.own er
    refine ⟨_, h1, tyV_list h3, W, ps, S, ?_⟩
    cases ea : a ρ g with
    | no => rw [ea] at h; exact h.elim
    | ex n g1 => rw [ea] at h; exact fun H' f b => h σ H' (Fs.of f) b
    | ok y g1 =>
      rw [ea, Re.bind_ok] at h
      split at h
      · rename_i d ev
        by_cases hl : ds.length < 100000
        · rw [if_pos hl] at h
          intro v H1 f1 b1 kr
          obtain ⟨hk, rfl⟩ := vals1_some ev
          have S1 := S.step f1 b1
          have h3' := f1 q _ h3 nb
          have rs1 := rs.chg (S.kr f1) _ _
          have rv := kr.toR hk
          have hl1 : xs.length + 1 ≤ sizeLine := by rw [rs.length]; exact lt_line hl
          refine ⟨q, xs, v, rfl, rfl, h3', hl1, ?_⟩
          have ch : Chg c c (owns ps ++ W) (owns ps ++ W) H1 (upd H1 q (.lst (xs ++ [v]))) := ⟨rfl, fun _ e => e, fun a o e n => ⟨by rw [upd_ne (fun z => n (by rw [z]; exact List.mem_append_left _ hq))]; exact e, n⟩⟩
          obtain ⟨S2, st⟩ := S1.put (o := .lst (xs ++ [v])) (d' := .lst (ds ++ [y.2])) h1 h2 ⟨xs ++ [v], upd_same, by simpa using hl1, (rs1.append (.cons rv .nil)).chg ch _ _⟩
          exact h σ _ ps S2 ((Stp.of f1).trans st S2.nb)
        · rw [if_neg hl] at h; exact h.elim
      · exact h.elim
  · exact h.elim
/-- x[i] = e -/
def dseti (i : Nat) (a ix : DE) : DS := fun ρ g => (a ρ g).bind fun x g => match ρ[i]? with
  | some (.ow (.lst ds)) => (ix ρ g).bind fun y g => (match vals [x], y.2 with
    | some [d], .int k => (match ixN ds.length k with | some j => .ok (.nx (ρ.set i (.ow (.lst (ds.set j d))))) g | none => .no)
    | _, _ => .no)
  | some (.fz .box) => (ix ρ g).bind fun y g => (match x.2, y.2 with
    | .int v, .int k => (match ixN g.length k with | some j => .ok (.nx ρ) (g.set j v) | none => .no)
    | _, _ => .no)
  | _ => .no
theorem ss_seti (i : Nat) {x : Str} {e ie : Expr} {a ix : DE} {p tp : Pos} (he : SE c X W' e a) (hi : SE c X W' ie ix) (hN : X.N[i]? = some x := by rfl) (hv : Vis X.env.scope x := by first | exact Or.inl rfl | exact Or.inr (Or.inl rfl) | exact Or.inr (Or.inr rfl)) (hd : (x == ("__debug__" : Str)) = false := by decide)
    (hcd : (x == ("__classdict__" : Str)) = false := by decide) (hs : swapsWithSole [.Subscript (.Name x p) ie tp] e pos.line X.env = pure false := by rfl) (hw : swappedStores [.Subscript (.Name x p) ie tp] e X.env = pure none := by rfl) (h1 : (assignEach [.Subscript (.Name x p) ie tp] X.env).map (·.2) = [assign (.Subscript (.Name x p) ie tp) X.env] := by rfl)
    (ha : ∀ v, assign (.Subscript (.Name x p) ie tp) X.env v = (do
      let ov ← holding [v] (eval (.Name x p) X.env)
      let iv ← holding [v, ov] (eval ie X.env)
      standAt tp
      holding [v, ov, iv] (setItem ov iv v)
      release [v, ov, iv] []) := by intro _; rfl) : SS c X W' (.Assign [.Subscript (.Name x p) ie tp] e pos) (dseti i a ix) := fun ρ g => by
  cases ea : a ρ g with
  | no => exact PS.no fun D σ H h => by unfold dseti at h; rw [ea] at h; exact h.no'
  | ex n g1 =>
    refine PS.imp (ps_asg (he ρ g) (pg_sub (pe_var (i := i) hN hv hd hcd) (hi ρ g) set_list ha) hs hw h1) fun D σ H ⟨W, ps, S, h⟩ => ?_
    unfold dseti at h
    rw [ea] at h
    show tE c W' ρ g (a ρ g) σ H _
    rw [ea]
    exact ⟨W, ps, S, WantE.exS h⟩
  | ok y g1 =>
    refine PS.imp (ps_asg (he ρ g) (pg_sub (pe_var (i := i) hN hv hd hcd) (hi ρ g1) set_list ha) hs hw h1) fun D σ H ⟨W, ps, S, h⟩ => ?_
    unfold dseti at h
    rw [ea, Re.bind_ok] at h
    show tE c W' ρ g (a ρ g) σ H _
    rw [ea]
    refine ⟨W, ps, S, fun v H1 f1 b1 kr => ?_⟩
    have S1 := S.step f1 b1
    split at h
    · rename_i ds er
      obtain ⟨q, h1, h2, ⟨xs, h3, hz, rs⟩, hq, nb⟩ := S1.own er
      refine ⟨_, h1, W, ps, S1, ?_⟩
      cases ei : ix ρ g1 with
      | no => rw [ei] at h; exact h.elim
      | ex n g2 => rw [ei] at h; exact fun H' f b => h σ H' (Fs.of (f1.trans f)) b
      | ok z g2 =>
        rw [ei, Re.bind_ok] at h
        intro v2 H2 f2 b2 kr2
        split at h
        · rename_i d k ev ek
          cases ej : ixN ds.length k with
          | none => rw [ej] at h; exact h.elim
          | some j =>
            rw [ej] at h
            have S2 := S1.step f2 b2
            obtain ⟨hk, rfl⟩ := vals1_some ev
            have rv := (kr.toR hk).chg (S1.kr f2) _ _
            rw [ek] at kr2
            have e2 := KR.isint kr2
            subst e2
            have h3' := f2 q _ h3 nb
            have rs2 := rs.chg (S1.kr f2) _ _
            refine ⟨q, xs, k, j, rfl, rfl, h3', by rw [rs.length]; exact ej, ?_⟩
            have ch : Chg c c (owns ps ++ W) (owns ps ++ W) H2 (upd H2 q (.lst (xs.set j v))) := ⟨rfl, fun _ e => e, fun a o e n => ⟨by rw [upd_ne (fun z => n (by rw [z]; exact List.mem_append_left _ hq))]; exact e, n⟩⟩
            obtain ⟨S3, st⟩ := S2.put (o := .lst (xs.set j v)) (d' := .lst (ds.set j y.2)) h1 h2 ⟨xs.set j v, upd_same, by simpa using hz, (rs2.set j rv).chg ch _ _⟩
            exact h σ _ ps S3 ((Stp.of (f1.trans f2)).trans st S3.nb)
        · exact h.elim
    · rename_i er
      obtain ⟨x0, p0, h1, h2, h3⟩ := S1.sl.get er
      cases h3 with
      | fz r =>
        cases r with
        | box eb =>
          rename_i b
          refine ⟨_, h1, W, ps, S1, ?_⟩
          cases ei : ix ρ g1 with
          | no => rw [ei] at h; exact h.elim
          | ex n g2 => rw [ei] at h; exact fun H' f b => h σ H' (Fs.of (f1.trans f)) b
          | ok z g2 =>
            rw [ei, Re.bind_ok] at h
            intro v2 H2 f2 b2 kr2
            split at h
            · rename_i n k ev ek
              cases ej : ixN g2.length k with
              | none => rw [ej] at h; exact h.elim
              | some j =>
                rw [ej] at h
                have S2 := S1.step f2 b2
                rw [ek] at kr2
                have e2 := KR.isint kr2
                subst e2
                rw [ev] at kr
                have e1 := KR.isint kr
                subst e1
                have hbx : H2 b = some (.lst (g2.map V.int)) := b2.1 b eb
                refine ⟨b, _, k, j, rfl, rfl, hbx, by rw [List.length_map]; exact ej, ?_⟩
                have f3 : Fr c.β H2 (upd H2 b (.lst ((g2.map V.int).set j (.int n)))) := fun a o e nn => by
                  rw [upd_ne (fun z => nn (by rw [z]; exact .inl eb))]
                  exact e
                have b3 : Bx c.β (upd H2 b (.lst ((g2.map V.int).set j (.int n)))) (g2.set j n) := by
                  have q := b2.write (g' := g2.set j n) eb
                  rw [List.map_set] at q
                  exact q
                exact h σ _ ps (S2.step f3 b3) (Stp.of ((f1.trans f2).trans f3))
            · exact h.elim
    · exact h.elim
/-- x = y.pop() -/
def dpopset (i j : Nat) : DS := fun ρ g => match ρ[j]? with
  | some (.ow (.lst ds)) => (match ds[ds.length - 1]? with | some d => .ok (.nx ((ρ.set j (.ow (.lst ds.dropLast))).set i (.fz d))) g | none => .no)
  | _ => .no
theorem ss_popset (i j : Nat) {x y : Str} {px py ap cp : Pos} (hN : X.N.Nodup) (hxN : X.N[i]? = some x := by rfl) (hx : Loc X.env.scope x := by first | exact Or.inl rfl | exact Or.inr rfl) (hyN : X.N[j]? = some y := by rfl) (hv : Vis X.env.scope y := by first | exact Or.inl rfl | exact Or.inr (Or.inl rfl) | exact Or.inr (Or.inr rfl)) (hd : (y == ("__debug__" : Str)) = false := by decide)
    (hcd : (y == ("__classdict__" : Str)) = false := by decide) (hs : swapsWith (.Call (.Attribute (.Name y py) "pop" ap) [] [] cp) (some (.Name x px)) pos.line X.env = pure false := by rfl) (hf : X.fn x = true ∨ X.env.scope.names.lookup x = some .local := by first | exact .inl rfl | exact .inr rfl) (hline : (ap.endLine == cp.line) = true := by rfl) :
    SS c X W' (.Assign [.Name x px] (.Call (.Attribute (.Name y py) "pop" ap) [] [] cp) pos) (dpopset i j) := fun ρ g => by
  refine PS.imp (ps_set (i := i) hN hxN hx (pe_bm0 PySem.F.plainAttrs_list PySem.F.slot_list_pop PySem.F.type_list_pop mt_pop (pe_var (i := j) hyN hv hd hcd) rfl hline) hs hf) fun D σ H ⟨W, ps, S, h⟩ => ?_
  unfold dpopset at h
  split at h
  · rename_i ds er
    obtain ⟨q, h1, h2, ⟨xs, h3, hz, rs⟩, hq, nb⟩ := S.own er
    cases ed : ds[ds.length - 1]? with
    | none => rw [ed] at h; exact h.elim
    | some d =>
      rw [ed] at h
      obtain ⟨v, hv', rv⟩ := rs.get ed
      refine ⟨_, h1, tyV_list h3, q, xs, v, rfl, rfl, h3, by rw [rs.length]; exact hv', ?_⟩
      have ch : Chg c c (owns ps ++ W) (owns ps ++ W) H (upd H q (.lst xs.dropLast)) := ⟨rfl, fun _ e => e, fun a o e n => ⟨by rw [upd_ne (fun z => n (by rw [z]; exact List.mem_append_left _ hq))]; exact e, n⟩⟩
      obtain ⟨S1, st⟩ := S.put (o := .lst xs.dropLast) (d' := .lst ds.dropLast) h1 h2 ⟨xs.dropLast, upd_same, (by rw [List.length_dropLast]; omega), rs.dropLast.chg ch _ _⟩
      obtain ⟨ps', S2, st2⟩ := S1.store (k := .fz) i (Fr.refl _ _) S1.bx (rv.chg ch _ _) rfl
      exact h _ _ ps' S2 (st.trans st2 S2.nb)
  · exact h.elim
end
end Dn

set_option Elab.async false
set_option linter.all false
set_option maxRecDepth 100000
/-! E7a: lists of any standing: +, *. -/
namespace Dn
open PySem L2 PySem.AutoSeq1
theorem add_any (l : Addr) (items : Array Value) (n : Nat) (b : Addr) (items2 : Array Value) (n2 : Nat) (sl sl2 : Array (Option Value)) (hc0 : items.size + items2.size ≤ sizeLine) :
    Meets (Builtin.«list.__add__» ⟨[.ref l, .ref b], []⟩) (fun _ R s => s.heap.get? l = some { cls := .type "list", dict := none, data := .seq items n, slots := sl } ∧ s.heap.get? b = some { cls := .type "list", dict := none, data := .seq items2 n2, slots := sl2 } ∧ R (.ok (.ret (Value.ref s.heap.objs.size))) { s with heap := s.heap.push { cls := Value.type "list", data := Data.seq (items ++ items2) }, toks := s.toks }) :=
  .of_wp fun prog w A R s h => by obtain ⟨hp, g, d, tk, os⟩ := s; obtain ⟨hl, hb, h⟩ := h; have f1 := idx_int; have f2 := sub_tuple_tuple; have f3 := sub_list_list; have f4 := sub_tuple_list; have f5 := sub_list_tuple; wp_walk using wpAny_loadPart' hl, wpAny_loadPart' hb; exact ⟨_, rfl, h⟩
theorem mul_any (l : Addr) (items : Array Value) (n : Nat) (x : Int) (u : Tok) (sl : Array (Option Value)) (hc0 : ¬(!Builtin.List.listFitsIndex x) = true) (hc1 : ¬items.size * x.toNat > (2 ^ 63 - 1) / 8) (hc2 : ¬Builtin.List.listTooLong (items.size * x.toNat) = true) :
    Meets (Builtin.«list.__mul__» ⟨[.ref l, .int x u], []⟩) (fun _ R s => s.heap.get? l = some { cls := .type "list", dict := none, data := .seq items n, slots := sl } ∧ R (.ok (.ret (Value.ref s.heap.objs.size))) { s with heap := s.heap.push { cls := Value.type "list", data := Data.seq (List.foldl (fun x1 x2 => x1 ++ x2) #[] (List.replicate (if items.isEmpty = true then 0 else x.toNat) items)) }, toks := s.toks }) :=
  .of_wp fun prog w A R s h => by
    obtain ⟨hp, g, d, tk, os⟩ := s; obtain ⟨hl, h⟩ := h
    have hsz := AutoListH.joined_fits hc2
    wp_walk; refine wpAny_ite_false (decide_eq_false (Nat.not_lt.mpr hsz)) ?_; wp_walk; exact ⟨_, rfl, h⟩
theorem rmul_any (a : Int) (t : Tok) (l : Addr) (items : Array Value) (n : Nat) (sl : Array (Option Value)) :
    Meets (Builtin.«int.__rmul__» ⟨[.int a t, .ref l], []⟩) (fun _ R s => s.heap.get? l = some { cls := .type "list", dict := none, data := .seq items n, slots := sl } ∧ R (.ok (.ret Value.notImplemented)) s) :=
  .of_wp fun prog w A R s h => by obtain ⟨hp, g, d, tk, os⟩ := s; obtain ⟨hl, h⟩ := h; wp_walk; exact ⟨_, rfl, h⟩

open PySem.Spec PyProof.Rows
variable {X : Cx}
def rCatL (K : PySem.W.Frag) : R2 := fun x y H Q => ∃ l b xs zs, x = .ref l ∧ y = .ref b ∧ SqL K H l xs ∧ SqL K H b zs ∧ xs.length + zs.length ≤ sizeLine ∧ ∀ p, H p = none → Q (.ref p) (upd H p (.lst (xs ++ zs)))
theorem op_catL : OpR X (binaryOp .Add) (rCatL X.K) := by
  intro pins s σ H x y v u Q I rx ry h
  obtain ⟨l, b, xs, zs, rfl, rfl, hH, hB, hz, q⟩ := h
  cases rx
  cases ry
  obtain ⟨its, r, ⟨⟨c1, d1, dt1, sl1⟩, n1, e1, k1, k2, k3⟩, _⟩ := I.list hH
  obtain ⟨its2, r2, ⟨⟨c2, d2, dt2, sl2⟩, n2, e2, k4, k5, k6⟩, _⟩ := I.list hB
  simp only at k1 k2 k3 k4 k5 k6
  subst k1 k2 k3 k4 k5 k6
  have h1 := r.length
  have h2 := r2.length
  refine concat_meets ⟨_, e1, rfl⟩ ⟨_, e2, rfl⟩ noFill_list_add seq_list_add F.slot_list_add F.entry_list_add (F.args_list_add_2 _ _) (add_any l its.toArray n1 b its2.toArray n2 sl1 sl2 (by rw [List.size_toArray, List.size_toArray]; omega)) ⟨e1, e2, ?_⟩
  have ea : its.toArray ++ its2.toArray = (its ++ its2).toArray := by simp
  rw [ea]
  exact ⟨.ref _, _, I.lnew (t' := s.toks) (r.append r2) (by rw [List.length_append]; omega), rfl, q _ I.fresh⟩
def rRepL (K : PySem.W.Frag) : R2 := fun x y H Q => ∃ l k xs, x = .ref l ∧ y = .int k ∧ SqL K H l xs ∧ -(2 ^ 63) ≤ k ∧ k < 2 ^ 63 ∧ xs.length * k.toNat ≤ sizeLine ∧
  ∀ p, H p = none → Q (.ref p) (upd H p (.lst (List.replicate k.toNat xs).flatten))
theorem op_repL : OpR X (binaryOp .Mult) (rRepL X.K) := by
  intro pins s σ H x y v u Q I rx ry h
  obtain ⟨l, k, xs, rfl, rfl, hH, h1, h2, hz, q⟩ := h
  cases rx
  obtain ⟨t, rfl⟩ := ry
  obtain ⟨its, r, ⟨⟨c1, d1, dt1, sl1⟩, n, e, k1, k2, k3⟩, _⟩ := I.list hH
  simp only at k1 k2 k3
  subst k1 k2 k3
  have hl := r.length
  have hlen : its.toArray.size * k.toNat ≤ sizeLine := by rw [List.size_toArray, ← hl]; exact hz
  have hcap : ¬ its.toArray.size * k.toNat > (2 ^ 63 - 1) / 8 := by
    have : (sizeLine : Nat) ≤ (2 ^ 63 - 1) / 8 := by decide
    omega
  have hfit : ¬ (!Builtin.List.listFitsIndex k) = true := by
    rw [fitsIndex_both h1 h2]
    exact Bool.false_ne_true
  have hlong : ¬ Builtin.List.listTooLong (its.toArray.size * k.toNat) = true := by
    rw [notLongL hlen]
    exact Bool.false_ne_true
  have hnew : List.foldl (fun x1 x2 => x1 ++ x2) #[] (List.replicate (if its.toArray.isEmpty = true then 0 else k.toNat) its.toArray) = (List.replicate k.toNat its).flatten.toArray := by
    have f0 : ∀ m : Nat, List.foldl (fun x1 x2 => x1 ++ x2) #[] (List.replicate m its.toArray) = (List.replicate m its).flatten.toArray := fun m => by
      have := foldl_rep its m []
      rw [List.nil_append] at this
      exact this
    rw [f0]
    cases its with
    | nil => simp
    | cons a r' => rw [if_neg (by simp)]
  refine wpAny_binaryOp_repeat_ref (T := "list") (U := "int") (by decide) ⟨_, e, rfl⟩ (fun s' => typeIs_int s' k t) noFill_list_mul F.fills_int_mul F.slot_int_rmul repeat_list F.slot_int_index.lookup
    (call_meets F.slot_int_rmul (typeIs_int s k t) F.entry_int_rmul (F.args_int_rmul_2 _ _) (rmul_any k t l its.toArray n sl1)
      ⟨e, rfl, ⟨_, e, rfl⟩, call_meets F.slot_list_mul ⟨_, e, rfl⟩ F.entry_list_mul (F.args_list_mul_2 _ _) (mul_any l its.toArray n k t sl1 hfit hcap hlong) ⟨e, ?_⟩⟩)
  rw [hnew]
  exact ⟨.ref _, _, I.lnew (t' := s.toks) (r.rep k.toNat) (by rw [PyProof.Rows.lm_len_rep_flat, Nat.mul_comm]; exact hz), rfl, q _ I.fresh⟩
end Dn

set_option Elab.async false
set_option linter.all false
set_option maxRecDepth 100000
/-! E7: operators and built-ins on data. -/
namespace Dn
open PySem L2

section
variable {c : Cg} {X : Cx} {W' : WX} {pos : Pos}
theorem OpR.imp {f : Value → Value → Sem Value} {r r' : R2} (h : OpR X f r) (i : ∀ x y H Q, r' x y H Q → r x y H Q) : OpR X f r' := fun pins s σ H x y v u Q I rx ry q => h pins s σ H x y v u Q I rx ry (i x y H Q q)
theorem CallR.imp {f : Value} {r r' : List V → Hp → VK → Prop} (h : CallR X f r) (i : ∀ xs H Q, r' xs H Q → r xs H Q) : CallR X f r' := fun pins s σ H xs us Q I rx q => h pins s σ H xs us Q I rx (i xs H Q q)
variable {U : List Addr} {H : Hp} {v : V}
theorem RB.int {i : Int} (h : RB c U H v (.int i)) : v = .int i := by
  rcases h with h | ⟨p, _, _, h⟩
  · cases h; rfl
  · exact h.elim
theorem RB.bl {i : Bool} (h : RB c U H v (.bl i)) : v = .bl i := by
  rcases h with h | ⟨p, _, _, h⟩
  · cases h; rfl
  · exact h.elim
theorem RB.str {i : Str} (h : RB c U H v (.str i)) : v = .str i := by
  rcases h with h | ⟨p, _, _, h⟩
  · cases h; rfl
  · exact h.elim
theorem RB.non (h : RB c U H v .non) : v = .non := by
  rcases h with h | ⟨p, _, _, h⟩
  · cases h; rfl
  · exact h.elim
theorem RB.tup {ds : List D} (h : RB c U H v (.tup ds)) : ∃ a xs, v = .ref a ∧ SqT c.K H a xs ∧ xs.length ≤ sizeLine ∧ Rs c U H xs ds ∧ R c U H v (.tup ds) := by
  rcases h with h | ⟨p, _, _, h⟩
  · have hh := h
    cases h with
    | tup h1 h2 hl h3 => exact ⟨_, _, rfl, .inl h1, hl, h3, hh⟩
    | ktup h1 h3 =>
      have h0 := h1
      obtain ⟨o, its, n, e1, e2, e3, e4, e5⟩ := h1
      exact ⟨_, _, rfl, .inr h0, by rw [e5.length, Array.length_toList]; exact e4, h3, hh⟩
  · exact h.elim
theorem RB.lst {ds : List D} (h : RB c U H v (.lst ds)) : ∃ a xs, v = .ref a ∧ SqL c.K H a xs ∧ xs.length ≤ sizeLine ∧ Rs c U H xs ds := by
  rcases h with h | ⟨p, rfl, _, xs, h1, h2, h3⟩
  · cases h with
    | lst h1 h2 hl h3 => exact ⟨_, _, rfl, .inl h1, hl, h3⟩
    | klst h1 h3 =>
      have h0 := h1
      obtain ⟨o, its, n, e1, e2, e3, e4, e5, e6⟩ := h1
      exact ⟨_, _, rfl, .inr h0, by rw [e6.length, Array.length_toList]; exact e5, h3⟩
  · exact ⟨p, xs, rfl, SqL.of h1, h2, h3⟩
theorem extU {p : Addr} {o : HO} (np : H p = none) : ∀ a oo, H a = some oo → upd H p o a = some oo := fun a oo e => by rw [upd_ne (ne_of_none e np)]; exact e
theorem new_tup {p : Addr} {xs : List V} {ds : List D} (hU : ∀ a ∈ U, H a ≠ none) (np : H p = none) (hl : xs.length ≤ sizeLine) (rs : Rs c U H xs ds) : R c U (upd H p (.tup xs)) (.ref p) (.tup ds) :=
  .tup (.inl upd_same) (fun z => hU p z np) hl (rs.chg (Chg.ext (extU np)) ds _)
theorem new_lst {p : Addr} {xs : List V} {ds : List D} (hU : ∀ a ∈ U, H a ≠ none) (hb : ∀ b, c.β.ex b → b ∈ U) (np : H p = none) (hl : xs.length ≤ sizeLine) (rs : Rs c U H xs ds) : KR c U H .fr (upd H p (.lst xs)) (.ref p) (.lst ds) :=
  ⟨p, rfl, np, fun z => hU p (hb p z) np, fun z => hU p z np, xs, upd_same, hl, (rs.chg (Chg.fresh np) ds _).chg (Chg.ext (extU np)) ds _⟩
theorem szl {n : Nat} (h : n ≤ 1000000) : n ≤ sizeLine := by rw [sizeLine_eq]; omega
def big : Nat := 1000000

/-! ### whole numbers -/
theorem opi0 {f : Value → Value → Sem Value} {r : Int → Int → V} {op : D → D → Option KD} (h : OpR X f (rI0 r)) (e : ∀ d1 d2 z, op d1 d2 = some z → ∃ i j, d1 = .int i ∧ d2 = .int j ∧ ∀ U H H', KR c U H z.1 H' (r i j) z.2) : OpS c X f op := fun d1 d2 z hz => by
  obtain ⟨i, j, rfl, rfl, k⟩ := e _ _ _ hz
  exact OpR.imp h fun x y H Q ⟨U, hU, hb, h1, h2, q⟩ => ⟨i, j, h1.int, h2.int, q _ H (fun _ _ e => e) (k _ _ _)⟩
theorem opi {f : Value → Value → Sem Value} {C : Int → Int → Prop} {r : Int → Int → V} {op : D → D → Option KD} (h : OpR X f (rI C r)) (e : ∀ d1 d2 z, op d1 d2 = some z → ∃ i j, d1 = .int i ∧ d2 = .int j ∧ C i j ∧ ∀ U H H', KR c U H z.1 H' (r i j) z.2) : OpS c X f op := fun d1 d2 z hz => by
  obtain ⟨i, j, rfl, rfl, k', k⟩ := e _ _ _ hz
  exact OpR.imp h fun x y H Q ⟨U, hU, hb, h1, h2, q⟩ => ⟨i, j, h1.int, h2.int, k', q _ H (fun _ _ e => e) (k _ _ _)⟩
theorem OpS.or {f : Value → Value → Sem Value} {o1 o2 o : D → D → Option KD} (h1 : OpS c X f o1) (h2 : OpS c X f o2) (h : ∀ a b z, o a b = some z → o1 a b = some z ∨ o2 a b = some z) : OpS c X f o := fun d1 d2 z e => (h _ _ _ e).elim (h1 _ _ _) (h2 _ _ _)
def okI (i : Int) : Option KD := some (.fz, .int i)
def okB (b : Bool) : Option KD := some (.fz, .bl b)
def osub : D → D → Option KD | .int i, .int j => okI (i - j) | _, _ => none
theorem os_sub : OpS c X (binaryOp .Sub) osub := opi0 op_sub fun d1 d2 z e => by
  unfold osub at e
  split at e
  · cases e; exact ⟨_, _, rfl, rfl, fun U H H' => R.int _⟩
  · cases e
theorem Rs.rep {vs : List V} {ds : List D} (h : Rs c U H vs ds) : ∀ n : Nat, Rs c U H (List.replicate n vs).flatten (List.replicate n ds).flatten
  | 0 => .nil
  | n + 1 => by
    rw [List.replicate_succ, List.replicate_succ, List.flatten_cons, List.flatten_cons]
    exact h.append (Rs.rep h n)
theorem rep_len {α : Type} (xs : List α) (n : Nat) : (List.replicate n xs).flatten.length = n * xs.length := by
  induction n with
  | zero => simp
  | succ n ih => rw [List.replicate_succ, List.flatten_cons, List.length_append, ih, Nat.succ_mul, Nat.add_comm]
theorem rep_le {k n : Nat} (h1 : k ≤ 1000) (h2 : n ≤ 1000) : k * n ≤ sizeLine := szl (Nat.le_trans (Nat.mul_le_mul h1 h2) (by decide))
def omul : D → D → Option KD
  | .int i, .int j => if (-(2 ^ 64) < i ∧ i < 2 ^ 64) ∨ (-(2 ^ 64) < j ∧ j < 2 ^ 64) then okI (i * j) else none
  | .lst xs, .int k => if k ≤ 1000 ∧ -1000 ≤ k ∧ xs.length ≤ 1000 then some (.fr, .lst (List.replicate k.toNat xs).flatten) else none
  | .tup xs, .int k => if xs ≠ [] ∧ 2 ≤ k ∧ k ≤ 1000 ∧ xs.length ≤ 1000 then some (.fz, .tup (List.replicate k.toNat xs).flatten) else none
  | _, _ => none
theorem os_mul (hK : c.K = X.K) : OpS c X (binaryOp .Mult) omul := fun d1 d2 z e => by
  unfold omul at e
  split at e
  · rename_i i j
    split at e
    · rename_i hc
      cases e
      exact OpR.imp op_mul fun x y H Q ⟨U, hU, hb, h1, h2, q⟩ => ⟨i, j, h1.int, h2.int, hc, q _ H (fun _ _ e => e) (R.int _)⟩
    · cases e
  · rename_i xs k
    split at e
    · rename_i hc
      cases e
      obtain ⟨hk, hk2, hx⟩ := hc
      refine OpR.imp op_repL fun x y H Q ⟨U, hU, hb, h1, h2, q⟩ => ?_
      obtain ⟨a, ys, rfl, sq, hl, rs⟩ := h1.lst
      rw [hK] at sq
      refine ⟨a, k, ys, rfl, h2.int, sq, by omega, by omega, by rw [rs.length, Nat.mul_comm]; exact rep_le (by omega) hx, fun p np => q _ _ (extU np) (new_lst hU hb np ?_ (rs.rep _))⟩
      rw [rep_len, rs.length]
      exact rep_le (by omega) hx
    · cases e
  · rename_i xs k
    split at e
    · rename_i hc
      cases e
      obtain ⟨h0, hk, hk2, hx⟩ := hc
      refine OpR.imp op_repT fun x y H Q ⟨U, hU, hb, h1, h2, q⟩ => ?_
      obtain ⟨a, ys, rfl, sq, hl, rs, _⟩ := h1.tup
      rw [hK] at sq
      refine ⟨a, k, ys, rfl, h2.int, sq, fun z => ?_, hk, hk2, by rw [rs.length]; exact hx, fun p np => q _ _ (extU np) (new_tup hU np ?_ (rs.rep _))⟩
      · subst z; cases rs; exact h0 rfl
      · rw [rep_len, rs.length]
        exact rep_le (by omega) hx
    · cases e
  · cases e
def ofdiv : D → D → Option KD | .int i, .int j => if 0 < j ∧ j < 1073741824 then okI (i / j) else none | _, _ => none
theorem os_fdiv : OpS c X (binaryOp .FloorDiv) ofdiv := opi op_fdiv fun d1 d2 z e => by
  unfold ofdiv at e
  split at e
  · split at e
    · rename_i h; cases e; exact ⟨_, _, rfl, rfl, h, fun U H H' => R.int _⟩
    · cases e
  · cases e
def omod : D → D → Option KD | .int i, .int j => if 0 < j then okI (i % j) else none | _, _ => none
theorem os_mod : OpS c X (binaryOp .Mod) omod := opi op_mod fun d1 d2 z e => by
  unfold omod at e
  split at e
  · split at e
    · rename_i h; cases e; exact ⟨_, _, rfl, rfl, h, fun U H H' => R.int _⟩
    · cases e
  · cases e
def oshl : D → D → Option KD | .int i, .int j => if 0 ≤ j ∧ j ≤ 1000000 ∧ i.natAbs < 2 ^ 64 then okI (i * 2 ^ j.toNat) else none | _, _ => none
theorem os_shl : OpS c X (binaryOp .LShift) oshl := opi op_shl fun d1 d2 z e => by
  unfold oshl at e
  split at e
  · split at e
    · rename_i h; cases e; exact ⟨_, _, rfl, rfl, h, fun U H H' => R.int _⟩
    · cases e
  · cases e
def oshr : D → D → Option KD | .int i, .int j => if 0 ≤ j then okI (i / 2 ^ j.toNat) else none | _, _ => none
theorem os_shr : OpS c X (binaryOp .RShift) oshr := opi op_shr fun d1 d2 z e => by
  unfold oshr at e
  split at e
  · split at e
    · rename_i h; cases e; exact ⟨_, _, rfl, rfl, h, fun U H H' => R.int _⟩
    · cases e
  · cases e
def oand : D → D → Option KD | .int i, .int j => okI (Builtin.bitAnd i j) | _, _ => none
theorem os_and : OpS c X (binaryOp .BitAnd) oand := opi0 op_and fun d1 d2 z e => by
  unfold oand at e
  split at e
  · cases e; exact ⟨_, _, rfl, rfl, fun U H H' => R.int _⟩
  · cases e
def oadd : D → D → Option KD
  | .int i, .int j => okI (i + j)
  | .str a, .str b => if a.length + b.length ≤ 1000000 then some (.fz, .str (a ++ b)) else none
  | .lst xs, .lst ys => if xs.length + ys.length ≤ 1000000 then some (.fr, .lst (xs ++ ys)) else none
  | .tup xs, .tup ys => if xs.length + ys.length ≤ 1000000 then some (.fz, .tup (xs ++ ys)) else none
  | _, _ => none
theorem os_add (hK : c.K = X.K) : OpS c X (binaryOp .Add) oadd := fun d1 d2 z e => by
  unfold oadd at e
  split at e
  · rename_i i j
    cases e
    exact OpR.imp op_add fun x y H Q ⟨U, hU, hb, h1, h2, q⟩ => ⟨i, j, h1.int, h2.int, q _ H (fun _ _ e => e) (R.int _)⟩
  · rename_i i j
    split at e
    · rename_i hc
      cases e
      exact OpR.imp op_add_str fun x y H Q ⟨U, hU, hb, h1, h2, q⟩ => ⟨i, j, h1.str, h2.str, szl hc, q _ H (fun _ _ e => e) (R.str _)⟩
    · cases e
  · rename_i xs ys
    split at e
    · rename_i hc
      cases e
      refine OpR.imp op_catL fun x y H Q ⟨U, hU, hb, h1, h2, q⟩ => ?_
      obtain ⟨a, vs, rfl, sq, hl, rs⟩ := h1.lst
      obtain ⟨b, ws, rfl, sq2, hl2, rs2⟩ := h2.lst
      rw [hK] at sq sq2
      have hle : vs.length + ws.length ≤ sizeLine := by rw [rs.length, rs2.length]; exact szl hc
      exact ⟨a, b, vs, ws, rfl, rfl, sq, sq2, hle, fun p np => q _ _ (extU np) (new_lst hU hb np (by rw [List.length_append]; exact hle) (rs.append rs2))⟩
    · cases e
  · rename_i xs ys
    split at e
    · rename_i hc
      cases e
      refine OpR.imp op_catA fun x y H Q ⟨U, hU, hb, h1, h2, q⟩ => ?_
      obtain ⟨a, vs, rfl, sq, hl, rs, r1⟩ := h1.tup
      obtain ⟨b, ws, rfl, sq2, hl2, rs2, r2⟩ := h2.tup
      rw [hK] at sq sq2
      have hle : vs.length + ws.length ≤ sizeLine := by rw [rs.length, rs2.length]; exact szl hc
      refine ⟨a, b, vs, ws, rfl, rfl, sq, sq2, hle, fun z => ?_, fun _ z => ?_, fun _ _ p np => q _ _ (extU np) (new_tup hU np (by rw [List.length_append]; exact hle) (rs.append rs2))⟩
      · subst z; cases rs; exact q _ H (fun _ _ e => e) r2
      · subst z; cases rs2; rw [List.append_nil] at q; exact q _ H (fun _ _ e => e) r1
    · cases e
  · cases e
def oneg : D → Option KD | .int i => okI (-i) | _ => none
theorem us_neg : UnS c X (unaryOp .USub) oneg := fun d z e => by
  unfold oneg at e
  split at e
  · rename_i i
    cases e
    exact fun pins s σ H x v Q I r ⟨U, hU, hb, h1, q⟩ => un_neg pins s σ H x v Q I r ⟨i, h1.int, q _ H (fun _ _ e => e) (R.int _)⟩
  · cases e

end
/-! ### equality -/
mutual
def toP : D → PyData
  | .non => .none
  | .bl b => .bool b
  | .int i => .int i
  | .str x => .str x
  | .tup xs => .tuple (toPs xs)
  | .lst xs => .list (toPs xs)
  | .dic _ _ => .none
  | .box => .none
def toPs : List D → List PyData
  | [] => []
  | x :: xs => toP x :: toPs xs
end
/-- data without dicts, of a depth of at most n -/
def sh : Nat → D → Bool
  | _, .non | _, .bl _ | _, .int _ | _, .str _ => true
  | n + 1, .tup xs | n + 1, .lst xs => xs.all (sh n)
  | 0, .tup _ | 0, .lst _ | _, .dic _ _ | _, .box => false
theorem toPs_map : ∀ xs : List D, toPs xs = xs.map toP
  | [] => by simp [toPs]
  | x :: xs => by simp [toPs, toPs_map xs]
theorem sh_all {n : Nat} (ih : ∀ d, sh n d = true → (toP d).plain = true ∧ (toP d).depth ≤ n) : ∀ xs : List D, xs.all (sh n) = true → PyData.plainAll (toPs xs) = true ∧ PyData.depthAll (toPs xs) ≤ n
  | [], _ => by simp [toPs, PyData.plainAll, PyData.depthAll]
  | x :: xs, h => by
    rw [List.all_cons, Bool.and_eq_true] at h
    obtain ⟨a, b⟩ := ih x h.1
    obtain ⟨a', b'⟩ := sh_all ih xs h.2
    simp only [toPs, PyData.plainAll, PyData.depthAll, a, a', Bool.and_self, true_and]
    omega
theorem sh_ok : ∀ (n : Nat) (d : D), sh n d = true → (toP d).plain = true ∧ (toP d).depth ≤ n
  | n, .non, _ => by simp [toP, PyData.plain, PyData.depth]
  | n, .bl _, _ => by simp [toP, PyData.plain, PyData.depth]
  | n, .int _, _ => by simp [toP, PyData.plain, PyData.depth]
  | n, .str _, _ => by simp [toP, PyData.plain, PyData.depth]
  | n + 1, .tup xs, h => by
    obtain ⟨a, b⟩ := sh_all (sh_ok n) xs (by unfold sh at h; exact h)
    simp only [toP, PyData.plain, PyData.depth, a, true_and]
    omega
  | n + 1, .lst xs, h => by
    obtain ⟨a, b⟩ := sh_all (sh_ok n) xs (by unfold sh at h; exact h)
    simp only [toP, PyData.plain, PyData.depth, a, true_and]
    omega
  | 0, .tup xs, h => by simp [sh] at h
  | 0, .lst xs, h => by simp [sh] at h
  | n, .dic _ _, h => by cases n <;> simp [sh] at h
  | n, .box, h => by cases n <;> simp [sh] at h
section
variable {c : Cg} {X : Cx} {U : List Addr} {H : Hp} {v : V}
mutual
theorem R.dp' (hK : c.K = X.K) : ∀ (n : Nat) (d : D) (v : V), sh n d = true → R c U H v d → Dp X.K H v (toP d)
  | _, .non, _, _, h => by cases h; simp only [toP]; exact .non
  | _, .bl b, _, _, h => by cases h; simp only [toP]; exact .bl b
  | _, .int b, _, _, h => by cases h; simp only [toP]; exact .int b
  | _, .str b, _, _, h => by cases h; simp only [toP]; exact .str b
  | n + 1, .tup ds, _, s, h => by
    simp only [toP]
    cases h with
    | tup h1 h2 hl h3 => exact .tup (.inl h1) (Rs.dp' hK n ds _ (by unfold sh at s; exact s) h3)
    | ktup h1 h3 => exact .tup (by rw [← hK]; exact .inr h1) (Rs.dp' hK n ds _ (by unfold sh at s; exact s) h3)
  | n + 1, .lst ds, _, s, h => by
    simp only [toP]
    cases h with
    | lst h1 h2 hl h3 => exact .lst (.inl h1) (Rs.dp' hK n ds _ (by unfold sh at s; exact s) h3)
    | klst h1 h3 => exact .lst (by rw [← hK]; exact .inr h1) (Rs.dp' hK n ds _ (by unfold sh at s; exact s) h3)
  | 0, .tup _, _, s, _ => by simp [sh] at s
  | 0, .lst _, _, s, _ => by simp [sh] at s
  | n, .dic _ _, _, s, _ => by cases n <;> simp [sh] at s
  | n, .box, _, s, _ => by cases n <;> simp [sh] at s
theorem Rs.dp' (hK : c.K = X.K) : ∀ (n : Nat) (ds : List D) (vs : List V), ds.all (sh n) = true → Rs c U H vs ds → DpAll X.K H vs (toPs ds)
  | _, [], _, _, h => by cases h; simp only [toPs]; exact .nil
  | n, d :: ds, _, s, h => by
    rw [List.all_cons, Bool.and_eq_true] at s
    simp only [toPs]
    cases h with
    | cons h1 h2 => exact .cons (R.dp' hK n d _ s.1 h1) (Rs.dp' hK n ds _ s.2 h2)
end
theorem RB.dp' (hK : c.K = X.K) {n : Nat} {d : D} (s : sh n d = true) (h : RB c U H v d) : Dp X.K H v (toP d) := by
  rcases h with h | ⟨p, rfl, hb, h⟩
  · exact R.dp' hK n d v s h
  · cases d with
    | lst ds =>
      obtain ⟨xs, h1, h2, h3⟩ := h
      simp only [toP]
      cases n with
      | zero => simp [sh] at s
      | succ n => exact .lst (SqL.of h1) (Rs.dp' hK n ds _ (by unfold sh at s; exact s) h3)
    | _ => exact h.elim
def eqd (a b : D) : Bool := PyData.eqv (toP a) (toP b)
def oeq (a b : D) : Option KD := if sh 60 a = true ∧ sh 60 b = true then okB (eqd a b) else none
def one (a b : D) : Option KD := if sh 60 a = true ∧ sh 60 b = true then okB (!eqd a b) else none
theorem os_eq (hK : c.K = X.K) (hu : X.A.units + 64 < cLine) : OpS c X (compareOp .Eq) oeq := fun d1 d2 z e => by
  unfold oeq at e
  split at e
  · rename_i hc
    cases e
    intro pins s σ H x y v u Q I rx ry ⟨U, hU, hb, h1, h2, q⟩
    obtain ⟨as, r1⟩ := Dp.reads I _ x v (h1.dp' hK hc.1) rx
    obtain ⟨bs, r2⟩ := Dp.reads I _ y u (h2.dp' hK hc.2) ry
    obtain ⟨p1, l1⟩ := sh_ok _ _ hc.1
    obtain ⟨p2, l2⟩ := sh_ok _ _ hc.2
    exact PySem.SeqAt.eq_plain r1 r2 p1 p2 (by omega) ⟨.bl _, H, I, rfl, q _ H (fun _ _ e => e) (R.bl _)⟩
  · cases e
theorem os_ne (hK : c.K = X.K) (hu : X.A.units + 64 < cLine) : OpS c X (compareOp .NotEq) one := fun d1 d2 z e => by
  unfold one at e
  split at e
  · rename_i hc
    cases e
    intro pins s σ H x y v u Q I rx ry ⟨U, hU, hb, h1, h2, q⟩
    obtain ⟨as, r1⟩ := Dp.reads I _ x v (h1.dp' hK hc.1) rx
    obtain ⟨bs, r2⟩ := Dp.reads I _ y u (h2.dp' hK hc.2) ry
    obtain ⟨p1, l1⟩ := sh_ok _ _ hc.1
    obtain ⟨p2, l2⟩ := sh_ok _ _ hc.2
    exact PySem.SeqAt.ne_plain r1 r2 p1 p2 (by omega) ⟨.bl _, H, I, rfl, q _ H (fun _ _ e => e) (R.bl _)⟩
  · cases e
def isq : D → Option (List D) | .lst xs => some xs | .tup xs => some xs | _ => none
def oin (a b : D) : Option KD := match isq b with | some xs => if sh 60 a = true ∧ xs.all (sh 60) = true then okB (xs.any fun y => eqd y a) else none | none => none
def onin (a b : D) : Option KD := match isq b with | some xs => if sh 60 a = true ∧ xs.all (sh 60) = true then okB (!xs.any fun y => eqd y a) else none | none => none
theorem any_eqd (xs : List D) (a : D) : ((toPs xs).any fun y => PyData.eqv y (toP a)) = xs.any fun y => eqd y a := by
  rw [toPs_map, List.any_map]
  rfl
theorem os_in (hK : c.K = X.K) (hu : X.A.units + 64 < cLine) : OpS c X (compareOp .In) oin := fun d1 d2 z e => by
  unfold oin at e
  split at e
  · rename_i xs ex
    split at e
    · rename_i hc
      cases e
      intro pins s σ H x y v u Q I rx ry ⟨U, hU, hb, h1, h2, q⟩
      obtain ⟨as, r1⟩ := Dp.reads I _ x v (h1.dp' hK hc.1) rx
      obtain ⟨p1, l1⟩ := sh_ok _ _ hc.1
      obtain ⟨p2, l2⟩ := sh_all (sh_ok 60) xs hc.2
      cases d2 with
      | lst ys =>
        cases ex
        obtain ⟨bs, r2⟩ := Dp.reads I _ y u (RB.dp' hK (n := 61) (by unfold sh; exact hc.2) h2) ry
        simp only [toP] at r2
        refine PySem.SeqAt.in_list_data r2 r1 p2 p1 (by omega) ⟨.bl _, H, I, rfl, q _ H (fun _ _ e => e) ?_⟩
        rw [any_eqd]; exact R.bl _
      | tup ys =>
        cases ex
        obtain ⟨bs, r2⟩ := Dp.reads I _ y u (RB.dp' hK (n := 61) (by unfold sh; exact hc.2) h2) ry
        simp only [toP] at r2
        refine PySem.SeqAt.in_tuple_data r2 r1 p2 p1 (by omega) ⟨.bl _, H, I, rfl, q _ H (fun _ _ e => e) ?_⟩
        rw [any_eqd]; exact R.bl _
      | _ => cases ex
    · cases e
  · cases e
theorem os_nin (hK : c.K = X.K) (hu : X.A.units + 64 < cLine) : OpS c X (compareOp .NotIn) onin := fun d1 d2 z e => by
  unfold onin at e
  split at e
  · rename_i xs ex
    split at e
    · rename_i hc
      cases e
      intro pins s σ H x y v u Q I rx ry ⟨U, hU, hb, h1, h2, q⟩
      obtain ⟨as, r1⟩ := Dp.reads I _ x v (h1.dp' hK hc.1) rx
      obtain ⟨p1, l1⟩ := sh_ok _ _ hc.1
      obtain ⟨p2, l2⟩ := sh_all (sh_ok 60) xs hc.2
      cases d2 with
      | lst ys =>
        cases ex
        obtain ⟨bs, r2⟩ := Dp.reads I _ y u (RB.dp' hK (n := 61) (by unfold sh; exact hc.2) h2) ry
        simp only [toP] at r2
        refine PySem.SeqAt.notIn_list_data r2 r1 p2 p1 (by omega) ⟨.bl _, H, I, rfl, q _ H (fun _ _ e => e) ?_⟩
        rw [any_eqd]; exact R.bl _
      | tup ys =>
        cases ex
        obtain ⟨bs, r2⟩ := Dp.reads I _ y u (RB.dp' hK (n := 61) (by unfold sh; exact hc.2) h2) ry
        simp only [toP] at r2
        refine PySem.SeqAt.notIn_tuple_data r2 r1 p2 p1 (by omega) ⟨.bl _, H, I, rfl, q _ H (fun _ _ e => e) ?_⟩
        rw [any_eqd]; exact R.bl _
      | _ => cases ex
    · cases e
  · cases e
/-! ### is -/
def ois (a b : D) : Option KD := match b with
  | .non => (match a with | .non => okB true | .box => none | _ => okB false)
  | _ => none
def oisnt (a b : D) : Option KD := match b with
  | .non => (match a with | .non => okB false | .box => none | _ => okB true)
  | _ => none
theorem RB.isn {d : D} (h : RB c U H v d) (hd : d ≠ .non) : v ≠ .non := by
  rcases h with h | ⟨p, rfl, _, _⟩
  · cases h <;> first | exact absurd rfl hd | (intro z; cases z)
  · intro z; cases z
theorem os_is : OpS c X (compareOp .Is) ois := fun d1 d2 z e => by
  unfold ois at e
  split at e
  · refine OpR.imp op_isN fun x y H Q ⟨U, hU, hb, h1, h2, q⟩ => ⟨h2.non, ?_⟩
    split at e
    · cases e; rw [h1.non]; exact q _ H (fun _ _ e => e) (R.bl _)
    · cases e
    · rename_i hd _
      cases e
      rw [decide_eq_false (h1.isn hd)]
      exact q _ H (fun _ _ e => e) (R.bl _)
  · cases e
theorem os_isnt : OpS c X (compareOp .IsNot) oisnt := fun d1 d2 z e => by
  unfold oisnt at e
  split at e
  · refine OpR.imp op_notN fun x y H Q ⟨U, hU, hb, h1, h2, q⟩ => ⟨h2.non, ?_⟩
    split at e
    · cases e; rw [h1.non]; exact q _ H (fun _ _ e => e) (R.bl _)
    · cases e
    · rename_i hd _
      cases e
      rw [decide_eq_false (h1.isn hd)]
      exact q _ H (fun _ _ e => e) (R.bl _)
  · cases e
end

/-! ### order, places, parts -/
section
variable {c : Cg} {X : Cx} {U : List Addr} {H : Hp} {v : V}
def intsD : List D → Option (List Int)
  | [] => some []
  | .int i :: ds => (intsD ds).map (i :: ·)
  | _ => none
theorem intsD_rs : ∀ {ds : List D} {ns : List Int} {vs : List V}, intsD ds = some ns → Rs c U H vs ds → vs = ns.map V.int
  | [], _, _, e, h => by cases e; cases h; rfl
  | .int i :: ds, ns, _, e, h => by
    simp only [intsD] at e
    cases e1 : intsD ds with
    | none => rw [e1] at e; cases e
    | some ms =>
      rw [e1] at e
      cases e
      cases h with
      | cons h1 h2 =>
        cases h1
        rw [intsD_rs e1 h2]
        rfl
  | .non :: _, _, _, e, _ => by simp [intsD] at e
  | .bl _ :: _, _, _, e, _ => by simp [intsD] at e
  | .str _ :: _, _, _, e, _ => by simp [intsD] at e
  | .tup _ :: _, _, _, e, _ => by simp [intsD] at e
  | .lst _ :: _, _, _, e, _ => by simp [intsD] at e
  | .dic _ _ :: _, _, _, e, _ => by simp [intsD] at e
  | .box :: _, _, _, e, _ => by simp [intsD] at e
def olt (a b : D) : Option KD := match a, b with
  | .int i, .int j => okB (decide (i < j))
  | .tup xs, .tup ys => (match intsD xs, intsD ys with | some ns, some ms => okB (HT.lexLt ns ms) | _, _ => none)
  | _, _ => none
theorem os_lt (hK : c.K = X.K) (hu : X.A.units < cLine) : OpS c X (compareOp .Lt) olt := fun d1 d2 z e => by
  unfold olt at e
  split at e
  · rename_i i j
    cases e
    exact OpR.imp op_lt fun x y H Q ⟨U, hU, hb, h1, h2, q⟩ => ⟨i, j, h1.int, h2.int, q _ H (fun _ _ e => e) (R.bl _)⟩
  · split at e
    · rename_i xs ys _ _ ns ms e1 e2
      cases e
      refine OpR.imp (op_ltT hu) fun x y H Q ⟨U, hU, hb, h1, h2, q⟩ => ?_
      obtain ⟨a, vs, rfl, sq, hl, rs, r1⟩ := h1.tup
      obtain ⟨b, ws, rfl, sq2, hl2, rs2, r2⟩ := h2.tup
      rw [hK] at sq sq2
      rw [intsD_rs e1 rs] at sq
      rw [intsD_rs e2 rs2] at sq2
      exact ⟨a, b, ns, ms, rfl, rfl, sq, sq2, q _ H (fun _ _ e => e) (R.bl _)⟩
    · cases e
  · cases e
def ole : D → D → Option KD | .int i, .int j => okB (decide (i ≤ j)) | _, _ => none
theorem os_le : OpS c X (compareOp .LtE) ole := opi0 op_le fun d1 d2 z e => by
  unfold ole at e
  split at e
  · cases e; exact ⟨_, _, rfl, rfl, fun U H H' => R.bl _⟩
  · cases e
def ogt : D → D → Option KD | .int i, .int j => okB (decide (j < i)) | _, _ => none
theorem os_gt : OpS c X (compareOp .Gt) ogt := opi0 op_gt fun d1 d2 z e => by
  unfold ogt at e
  split at e
  · cases e; exact ⟨_, _, rfl, rfl, fun U H H' => R.bl _⟩
  · cases e
def oge : D → D → Option KD | .int i, .int j => okB (decide (j ≤ i)) | _, _ => none
theorem os_ge : OpS c X (compareOp .GtE) oge := opi0 op_ge fun d1 d2 z e => by
  unfold oge at e
  split at e
  · cases e; exact ⟨_, _, rfl, rfl, fun U H H' => R.bl _⟩
  · cases e
theorem IxR.imp {r r' : R2} (h : IxR X r) (i : ∀ x y H Q, r' x y H Q → r x y H Q) : IxR X r' := fun val sl pins s σ H x y v u Q I rx ry q hs => h val sl pins s σ H x y v u Q I rx ry (i x y H Q q) hs
def oix (a b : D) : Option KD := match b with
  | .int i => (match isq a with | some xs => (atI xs i).map fun d => (.fz, d) | none => none)
  | _ => none
theorem atI_len {α β : Type} {xs : List α} {ys : List β} {i : Int} {d : α} (hl : ys.length = xs.length) (h : atI xs i = some d) : ∃ j : Nat, xs[j]? = some d ∧ ∀ v, ys[j]? = some v → atI ys i = some v := by
  unfold atI at h
  cases e : ixN xs.length i with
  | none => rw [e] at h; cases h
  | some j =>
    rw [e] at h
    refine ⟨j, h, fun v hv => ?_⟩
    unfold atI
    rw [hl, e]
    exact hv
theorem ix_seq' (hK : c.K = X.K) : IxS c X oix := fun d1 d2 z e => by
  unfold oix at e
  split at e
  · rename_i i
    split at e
    · rename_i ds ed
      cases ea : atI ds i with
      | none => rw [ea] at e; cases e
      | some d =>
        rw [ea] at e
        cases e
        cases d1 with
        | lst ys =>
          cases ed
          refine IxR.imp ix_list fun x y H Q ⟨U, hU, hb, h1, h2, q⟩ => ?_
          obtain ⟨a, vs, rfl, sq, hl, rs⟩ := h1.lst
          rw [hK] at sq
          obtain ⟨j, e1, e2⟩ := atI_len rs.length ea
          obtain ⟨w, e3, rw'⟩ := rs.get e1
          exact ⟨a, vs, i, w, rfl, h2.int, sq, e2 w e3, q _ H (fun _ _ e => e) rw'⟩
        | tup ys =>
          cases ed
          refine IxR.imp ix_tup fun x y H Q ⟨U, hU, hb, h1, h2, q⟩ => ?_
          obtain ⟨a, vs, rfl, sq, hl, rs, _⟩ := h1.tup
          rw [hK] at sq
          obtain ⟨j, e1, e2⟩ := atI_len rs.length ea
          obtain ⟨w, e3, rw'⟩ := rs.get e1
          exact ⟨a, vs, i, w, rfl, h2.int, sq, e2 w e3, q _ H (fun _ _ e => e) rw'⟩
        | _ => cases ed
    · cases e
  · cases e
/-- the box is read -/
def cutD {α : Type} (xs : List α) (lo hi : Option Int) : List α := (xs.drop (HT.sIx xs.length 0 lo)).take (HT.sIx xs.length xs.length hi - HT.sIx xs.length 0 lo)
theorem Rs.cut {vs : List V} {ds : List D} (h : Rs c U H vs ds) (lo hi : Option Int) : Rs c U H (cutV vs lo hi) (cutD ds lo hi) := by
  unfold cutV cutD
  rw [h.length]
  exact (h.drop _).take _
theorem SlR.imp {r r' : V → Option Int → Option Int → Hp → VK → Prop} (h : SlR X r) (i : ∀ x lo hi H Q, r' x lo hi H Q → r x lo hi H Q) : SlR X r' := fun pins s σ H x v vl vu lo hi sl Q I rx hs pl pu q => h pins s σ H x v vl vu lo hi sl Q I rx hs pl pu (i x lo hi H Q q)
def osl (a : D) (lo hi : Option Int) : Option KD := match a with
  | .lst xs => some (.fr, .lst (cutD xs lo hi))
  | .tup xs => some (.fz, .tup (cutD xs lo hi))
  | _ => none
theorem cutV_le (xs : List V) (lo hi : Option Int) : (cutV xs lo hi).length ≤ xs.length := cutV_length xs lo hi
theorem cut_all {α : Type} {xs : List α} {lo hi : Option Int} (h : HT.sIx xs.length 0 lo = 0 ∧ HT.sIx xs.length xs.length hi = xs.length) : cutD xs lo hi = xs := by
  unfold cutD
  rw [h.1, h.2]
  simp
theorem sl_any (hK : c.K = X.K) : SlS c X osl := fun d l u z e => by
  unfold osl at e
  split at e
  · rename_i xs
    cases e
    refine SlR.imp sl_list fun x lo hi H Q ⟨rfl, rfl, U, hU, hb, h1, q⟩ => ?_
    obtain ⟨a, vs, rfl, sq, hl, rs⟩ := h1.lst
    rw [hK] at sq
    exact ⟨a, vs, rfl, sq, fun p np => q _ _ (extU np) (new_lst hU hb np (Nat.le_trans (cutV_le _ _ _) hl) (rs.cut _ _))⟩
  · rename_i xs
    cases e
    refine SlR.imp sl_tupA fun x lo hi H Q ⟨rfl, rfl, U, hU, hb, h1, q⟩ => ?_
    obtain ⟨a, vs, rfl, sq, hl, rs, r1⟩ := h1.tup
    rw [hK] at sq
    refine ⟨a, vs, rfl, sq, fun hw => ?_, fun _ p np => q _ _ (extU np) (new_tup hU np (Nat.le_trans (cutV_le _ _ _) hl) (rs.cut _ _))⟩
    rw [rs.length] at hw
    have := cut_all hw
    rw [this] at q
    exact q _ H (fun _ _ e => e) r1
  · cases e

/-! ### built-ins -/
def olen (ds : List D) : Option KD := match ds with
  | [a] => (match isq a with | some xs => okI xs.length | none => none)
  | _ => none
theorem cs_len (hK : c.K = X.K) : CallS c X (.builtin "len") olen := fun ds z e => by
  unfold olen at e
  split at e
  · rename_i a
    split at e
    · rename_i xs ex
      cases e
      refine CallR.imp call_len_seq fun vs H Q ⟨U, hU, hb, h1, q⟩ => ?_
      cases h1 with
      | cons h1 t =>
        cases t
        cases a with
        | lst ys =>
          cases ex
          obtain ⟨p, ws, rfl, sq, hl, rs⟩ := h1.lst
          rw [hK] at sq
          refine ⟨p, ws, rfl, .inl sq, ?_⟩
          rw [rs.length]
          exact q _ H (fun _ _ e => e) (R.int _)
        | tup ys =>
          cases ex
          obtain ⟨p, ws, rfl, sq, hl, rs, _⟩ := h1.tup
          rw [hK] at sq
          refine ⟨p, ws, rfl, .inr sq, ?_⟩
          rw [rs.length]
          exact q _ H (fun _ _ e => e) (R.int _)
        | _ => cases ex
    · cases e
  · cases e
def otuple (ds : List D) : Option KD := match ds with
  | [a] => (match isq a with | some xs => some (.fz, .tup xs) | none => none)
  | _ => none
theorem cs_tuple (hK : c.K = X.K) : CallS c X (.type "tuple") otuple := fun ds z e => by
  unfold otuple at e
  split at e
  · rename_i a
    split at e
    · rename_i xs ex
      cases e
      refine CallR.imp call_tuple_of fun vs H Q ⟨U, hU, hb, h1, q⟩ => ?_
      cases h1 with
      | cons h1 t =>
        cases t
        cases a with
        | lst ys =>
          cases ex
          obtain ⟨p, ws, rfl, sq, hl, rs⟩ := h1.lst
          rw [hK] at sq
          exact ⟨p, ws, rfl, .inl ⟨sq, fun l np => q _ _ (extU np) (new_tup hU np hl rs)⟩⟩
        | tup ys =>
          cases ex
          obtain ⟨p, ws, rfl, sq, hl, rs, r1⟩ := h1.tup
          rw [hK] at sq
          exact ⟨p, ws, rfl, .inr ⟨sq, q _ H (fun _ _ e => e) r1⟩⟩
        | _ => cases ex
    · cases e
  · cases e
def olist (ds : List D) : Option KD := match ds with
  | [a] => (match isq a with | some xs => some (.fr, .lst xs) | none => none)
  | _ => none
theorem cs_list (hK : c.K = X.K) : CallS c X (.type "list") olist := fun ds z e => by
  unfold olist at e
  split at e
  · rename_i a
    split at e
    · rename_i xs ex
      cases e
      refine CallR.imp call_list_of fun vs H Q ⟨U, hU, hb, h1, q⟩ => ?_
      cases h1 with
      | cons h1 t =>
        cases t
        cases a with
        | lst ys =>
          cases ex
          obtain ⟨p, ws, rfl, sq, hl, rs⟩ := h1.lst
          rw [hK] at sq
          exact ⟨p, ws, rfl, .inl sq, fun l np => q _ _ (extU np) (new_lst hU hb np hl rs)⟩
        | tup ys =>
          cases ex
          obtain ⟨p, ws, rfl, sq, hl, rs, r1⟩ := h1.tup
          rw [hK] at sq
          exact ⟨p, ws, rfl, .inr sq, fun l np => q _ _ (extU np) (new_lst hU hb np hl rs)⟩
        | _ => cases ex
    · cases e
  · cases e
def olistI (f : List Int → Option KD) (ds : List D) : Option KD := match ds with
  | [.lst xs] => (match intsD xs with | some ns => f ns | none => none)
  | _ => none
theorem cs_listI (hK : c.K = X.K) {b : Value} {f : List Int → Option KD} (h : ∀ ns z, f ns = some z → CallR X b (fun vs H Q => ∃ (a : Addr), vs = [V.ref a] ∧ SqL X.K H a (ns.map V.int) ∧ ns.length ≤ sizeLine ∧ ∃ U, (∀ a ∈ U, H a ≠ none) ∧ (∀ b, c.β.ex b → b ∈ U) ∧ ∀ v H', (∀ a o, H a = some o → H' a = some o) → KR c U H z.1 H' v z.2 → Q v H')) : CallS c X b (olistI f) := fun ds z e => by
  unfold olistI at e
  split at e
  · rename_i xs
    split at e
    · rename_i ns en
      refine CallR.imp (h _ _ e) fun vs H Q ⟨U, hU, hb, h1, q⟩ => ?_
      cases h1 with
      | cons h1 t =>
        cases t
        obtain ⟨p, ws, rfl, sq, hl, rs⟩ := h1.lst
        rw [hK] at sq
        have e5 := intsD_rs (vs := ws) en rs
        rw [e5] at sq hl
        exact ⟨p, rfl, sq, by rw [List.length_map] at hl; exact hl, U, hU, hb, q⟩
    · cases e
  · cases e
def osum : List D → Option KD := olistI fun ns => okI ns.sum
theorem cs_sum (hK : c.K = X.K) (hc : X.calm = true) : CallS c X (.builtin "sum") osum := cs_listI hK fun ns z e => by
  cases e
  exact CallR.imp (cr_sum hc) fun vs H Q ⟨a, e, sq, hl, U, hU, hb, q⟩ => ⟨a, ns, e, sq, q _ H (fun _ _ e => e) (R.int _)⟩
def mxI : List Int → Option KD | [] => none | n :: ns => okI (ns.foldl max n)
def mnI : List Int → Option KD | [] => none | n :: ns => okI (ns.foldl min n)
theorem foldl_max : ∀ (ns : List Int) (n : Int), (∀ m ∈ ns, m ≤ ns.foldl max n) ∧ n ≤ ns.foldl max n ∧ (ns.foldl max n = n ∨ ns.foldl max n ∈ ns)
  | [], n => ⟨fun _ h => (nomatch h), Int.le_refl _, .inl rfl⟩
  | x :: xs, n => by
    obtain ⟨h1, h2, h3⟩ := foldl_max xs (max n x)
    rw [List.foldl_cons]
    refine ⟨fun m hm => ?_, by omega, ?_⟩
    · rcases List.mem_cons.mp hm with rfl | hm
      · omega
      · exact h1 m hm
    · rcases h3 with h3 | h3
      · rw [h3]
        by_cases q : n ≤ x
        · right; rw [Int.max_eq_right q]; exact List.mem_cons_self
        · left; exact Int.max_eq_left (by omega)
      · exact .inr (List.mem_cons_of_mem _ h3)
theorem foldl_min : ∀ (ns : List Int) (n : Int), (∀ m ∈ ns, ns.foldl min n ≤ m) ∧ ns.foldl min n ≤ n ∧ (ns.foldl min n = n ∨ ns.foldl min n ∈ ns)
  | [], n => ⟨fun _ h => (nomatch h), Int.le_refl _, .inl rfl⟩
  | x :: xs, n => by
    obtain ⟨h1, h2, h3⟩ := foldl_min xs (min n x)
    rw [List.foldl_cons]
    refine ⟨fun m hm => ?_, by omega, ?_⟩
    · rcases List.mem_cons.mp hm with rfl | hm
      · omega
      · exact h1 m hm
    · rcases h3 with h3 | h3
      · rw [h3]
        by_cases q : n ≤ x
        · left; exact Int.min_eq_left q
        · right; rw [Int.min_eq_right (by omega)]; exact List.mem_cons_self
      · exact .inr (List.mem_cons_of_mem _ h3)
theorem mx_eq {ns : List Int} {n m : Int} (hm : m ∈ n :: ns) (h : ∀ y ∈ n :: ns, y ≤ m) : m = ns.foldl max n := by
  obtain ⟨h1, h2, h3⟩ := foldl_max ns n
  have a : ns.foldl max n ≤ m := by
    rcases h3 with h3 | h3
    · rw [h3]; exact h n List.mem_cons_self
    · exact h _ (List.mem_cons_of_mem _ h3)
  have b : m ≤ ns.foldl max n := by
    rcases List.mem_cons.mp hm with rfl | hm
    · exact h2
    · exact h1 m hm
  omega
theorem mn_eq {ns : List Int} {n m : Int} (hm : m ∈ n :: ns) (h : ∀ y ∈ n :: ns, m ≤ y) : m = ns.foldl min n := by
  obtain ⟨h1, h2, h3⟩ := foldl_min ns n
  have a : m ≤ ns.foldl min n := by
    rcases h3 with h3 | h3
    · rw [h3]; exact h n List.mem_cons_self
    · exact h _ (List.mem_cons_of_mem _ h3)
  have b : ns.foldl min n ≤ m := by
    rcases List.mem_cons.mp hm with rfl | hm
    · exact h2
    · exact h1 m hm
  omega
def omax (ds : List D) : Option KD := match ds with | [.int i, .int j] => okI (if j > i then j else i) | ds => olistI mxI ds
def omin (ds : List D) : Option KD := match ds with | [.int i, .int j] => okI (if j < i then j else i) | ds => olistI mnI ds
theorem cs_max (hK : c.K = X.K) (hc : X.calm = true) : CallS c X (.builtin "max") omax := fun ds z e => by
  unfold omax at e
  split at e
  · rename_i i j
    cases e
    refine CallR.imp (call_max2 hc) fun vs H Q ⟨U, hU, hb, h1, q⟩ => ?_
    cases h1 with
    | cons h1 t =>
      cases t with
      | cons h2 t =>
        cases t
        exact ⟨i, j, by rw [h1.int, h2.int], q _ H (fun _ _ e => e) (R.int _)⟩
  · refine cs_listI hK (fun ns z e => ?_) _ _ e
    cases ns with
    | nil => cases e
    | cons n ns =>
      cases e
      exact CallR.imp (cr_max hc) fun vs H Q ⟨a, e, sq, hl, U, hU, hb, q⟩ => ⟨a, _, e, sq, by simp, fun m hm h => by rw [mx_eq hm h]; exact q _ H (fun _ _ e => e) (R.int _)⟩
theorem cs_min (hK : c.K = X.K) (hc : X.calm = true) : CallS c X (.builtin "min") omin := fun ds z e => by
  unfold omin at e
  split at e
  · rename_i i j
    cases e
    refine CallR.imp (call_min2 hc) fun vs H Q ⟨U, hU, hb, h1, q⟩ => ?_
    cases h1 with
    | cons h1 t =>
      cases t with
      | cons h2 t =>
        cases t
        exact ⟨i, j, by rw [h1.int, h2.int], q _ H (fun _ _ e => e) (R.int _)⟩
  · refine cs_listI hK (fun ns z e => ?_) _ _ e
    cases ns with
    | nil => cases e
    | cons n ns =>
      cases e
      exact CallR.imp (cr_min hc) fun vs H Q ⟨a, e, sq, hl, U, hU, hb, q⟩ => ⟨a, _, e, sq, by simp, fun m hm h => by rw [mn_eq hm h]; exact q _ H (fun _ _ e => e) (R.int _)⟩
/-- whole numbers in order -/
def insI (a : Int) : List Int → List Int | [] => [a] | b :: bs => if a ≤ b then a :: b :: bs else b :: insI a bs
def srtI : List Int → List Int | [] => [] | a :: as => insI a (srtI as)
theorem insI_perm (a : Int) : ∀ bs : List Int, (insI a bs).Perm (a :: bs)
  | [] => .refl _
  | b :: bs => by
    unfold insI
    split
    · exact .refl _
    · exact ((insI_perm a bs).cons b).trans (.swap a b bs)
theorem srtI_perm : ∀ as : List Int, (srtI as).Perm as
  | [] => .refl _
  | a :: as => (insI_perm a (srtI as)).trans ((srtI_perm as).cons a)
theorem insI_pw (a : Int) : ∀ bs : List Int, bs.Pairwise (· ≤ ·) → (insI a bs).Pairwise (· ≤ ·)
  | [], _ => by simp [insI]
  | b :: bs, h => by
    unfold insI
    obtain ⟨h1, h2⟩ := List.pairwise_cons.mp h
    split
    · rename_i hab
      refine List.pairwise_cons.mpr ⟨fun x hx => ?_, h⟩
      rcases List.mem_cons.mp hx with rfl | hx
      · exact hab
      · exact Int.le_trans hab (h1 x hx)
    · refine List.pairwise_cons.mpr ⟨fun x hx => ?_, insI_pw a bs h2⟩
      rcases List.mem_cons.mp ((insI_perm a bs).mem_iff.mp hx) with rfl | hx
      · omega
      · exact h1 x hx
theorem srtI_pw : ∀ as : List Int, (srtI as).Pairwise (· ≤ ·)
  | [] => .nil
  | a :: as => insI_pw a _ (srtI_pw as)
theorem pw_unique : ∀ (as bs : List Int), as.Perm bs → as.Pairwise (· ≤ ·) → bs.Pairwise (· ≤ ·) → as = bs
  | as, bs, p, h1, h2 => p.eq_of_pairwise (fun a b _ _ x y => Int.le_antisymm x y) h1 h2
def osorted : List D → Option KD := olistI fun ns => some (.fr, .lst ((srtI ns).map .int))
theorem rs_ints (ns : List Int) : Rs c U H (ns.map V.int) (ns.map .int) := by
  induction ns with
  | nil => exact .nil
  | cons n ns ih => exact .cons (.int n) ih
theorem cs_sorted (hK : c.K = X.K) : CallS c X (.builtin "sorted") osorted := cs_listI hK fun ns z e => by
  cases e
  refine CallR.imp cr_sortedI fun vs H Q ⟨a, e, sq, hl, U, hU, hb, q⟩ => ⟨a, ns, e, sq, fun ns' p pm pw np => ?_⟩
  have e1 := pw_unique _ _ (pm.trans (srtI_perm ns).symm) pw (srtI_pw ns)
  subst e1
  exact q _ _ (extU np) (new_lst hU hb np (by rw [List.length_map, pm.length_eq]; exact hl) (rs_ints _))
def bls : List D → Option (List Bool)
  | [] => some []
  | .bl i :: ds => (bls ds).map (i :: ·)
  | _ => none
theorem bls_rs : ∀ {ds : List D} {ns : List Bool} {vs : List V}, bls ds = some ns → Rs c U H vs ds → vs = ns.map V.bl
  | [], _, _, e, h => by cases e; cases h; rfl
  | .bl i :: ds, ns, _, e, h => by
    simp only [bls] at e
    cases e1 : bls ds with
    | none => rw [e1] at e; cases e
    | some ms =>
      rw [e1] at e
      cases e
      cases h with
      | cons h1 h2 =>
        cases h1
        rw [bls_rs e1 h2]
        rfl
  | .non :: _, _, _, e, _ => by simp [bls] at e
  | .int _ :: _, _, _, e, _ => by simp [bls] at e
  | .str _ :: _, _, _, e, _ => by simp [bls] at e
  | .tup _ :: _, _, _, e, _ => by simp [bls] at e
  | .lst _ :: _, _, _, e, _ => by simp [bls] at e
  | .dic _ _ :: _, _, _, e, _ => by simp [bls] at e
  | .box :: _, _, _, e, _ => by simp [bls] at e
def oall (ds : List D) : Option KD := match ds with | [.lst xs] => (match bls xs with | some ns => okB (ns.all id) | none => none) | _ => none
def oany (ds : List D) : Option KD := match ds with | [.lst xs] => (match bls xs with | some ns => okB (ns.any id) | none => none) | _ => none
theorem cs_all (hK : c.K = X.K) (hc : X.calm = true) : CallS c X (.builtin "all") oall := fun ds z e => by
  unfold oall at e
  split at e
  · rename_i xs
    split at e
    · rename_i ns en
      cases e
      refine CallR.imp (cr_all hc) fun vs H Q ⟨U, hU, hb, h1, q⟩ => ?_
      cases h1 with
      | cons h1 t =>
        cases t
        obtain ⟨p, ws, rfl, sq, hl, rs⟩ := h1.lst
        rw [hK, bls_rs en rs] at sq
        exact ⟨p, ns, rfl, sq, q _ H (fun _ _ e => e) (R.bl _)⟩
    · cases e
  · cases e
theorem cs_any (hK : c.K = X.K) (hc : X.calm = true) : CallS c X (.builtin "any") oany := fun ds z e => by
  unfold oany at e
  split at e
  · rename_i xs
    split at e
    · rename_i ns en
      cases e
      refine CallR.imp (cr_any hc) fun vs H Q ⟨U, hU, hb, h1, q⟩ => ?_
      cases h1 with
      | cons h1 t =>
        cases t
        obtain ⟨p, ws, rfl, sq, hl, rs⟩ := h1.lst
        rw [hK, bls_rs en rs] at sq
        exact ⟨p, ns, rfl, sq, q _ H (fun _ _ e => e) (R.bl _)⟩
    · cases e
  · cases e
def oabs (ds : List D) : Option KD := match ds with | [.int i] => okI (if i < 0 then -i else i) | _ => none
theorem cs_abs : CallS c X (.builtin "abs") oabs := fun ds z e => by
  unfold oabs at e
  split at e
  · rename_i i
    cases e
    refine CallR.imp call_abs fun vs H Q ⟨U, hU, hb, h1, q⟩ => ?_
    cases h1 with
    | cons h1 t =>
      cases t
      exact ⟨i, by rw [h1.int], q _ H (fun _ _ e => e) (R.int _)⟩
  · cases e
def oint (ds : List D) : Option KD := match ds with | [.int i] => okI i | _ => none
theorem cs_int : CallS c X (.type "int") oint := fun ds z e => by
  unfold oint at e
  split at e
  · rename_i i
    cases e
    refine CallR.imp call_int1 fun vs H Q ⟨U, hU, hb, h1, q⟩ => ?_
    cases h1 with
    | cons h1 t =>
      cases t
      exact .inl ⟨i, by rw [h1.int], q _ H (fun _ _ e => e) (R.int _)⟩
  · cases e
end
end Dn

set_option Elab.async false
set_option linter.all false
set_option maxRecDepth 100000
/-! E8: chains of comparisons, isinstance, two names at once, turned lists; a lambda that is told. -/
namespace Dn
open PySem L2

section
variable {c : Cg} {X : Cx} {W' : WX} {pos : Pos}
/-! ### a <= b <= c -/
def dchain (o1 o2 : D → D → Option KD) (a b e : DE) : DE := fun ρ g => (a ρ g).bind fun x g => (b ρ g).bind fun y g => match o1 x.2 y.2 with
  | some (_, .bl true) => (e ρ g).bind fun z g => (match o2 y.2 z.2 with | some r => .ok r g | none => .no)
  | some (_, .bl false) => .ok (.fz, .bl false) g
  | _ => .no
theorem chain_ex {o1 o2 : D → D → Option KD} {p1 p2 : CmpOp} {da db de : DE} (h1 : OpS c X (compareOp p1) o1) (h2 : OpS c X (compareOp p2) o2) (ρ : Env) (g : G) :
    ∃ r r' g1 g2, OpR X (compareOp p1) r ∧ OpR X (compareOp p2) r' ∧ ∀ σ H Q, tE c W' ρ g (dchain o1 o2 da db de ρ g) σ H Q → tChain r r' (tE c W' ρ g (da ρ g)) (tE c W' ρ g1 (db ρ g1)) (tE c W' ρ g2 (de ρ g2)) σ H Q := by
  cases ea : da ρ g with
  | no => exact ⟨_, _, g, g, OpR.none, OpR.none, fun σ H Q h => by unfold dchain at h; rw [ea] at h; exact h.no'.elim⟩
  | ex n g1 =>
    refine ⟨_, _, g, g, OpR.none, OpR.none, fun σ H Q h => ?_⟩
    unfold dchain at h
    rw [ea] at h
    exact h
  | ok x g1 =>
    cases eb : db ρ g1 with
    | no => exact ⟨_, _, g, g, OpR.none, OpR.none, fun σ H Q h => by unfold dchain at h; rw [ea, Re.bind_ok, eb] at h; exact h.no'.elim⟩
    | ex n g2 =>
      refine ⟨_, _, g1, g, OpR.none, OpR.none, fun σ H Q h => ?_⟩
      unfold dchain at h
      rw [ea, Re.bind_ok, eb] at h
      obtain ⟨W, ps, S, h⟩ := h
      show tE c W' ρ g _ σ H fun x H1 => tE c W' ρ g1 (db ρ g1) σ H1 _
      rw [eb]
      exact ⟨W, ps, S, fun v1 H1 f1 b1 k1 => ⟨W, ps, S.step f1 b1, fun H2 f2 b2 => h H2 (f1.trans f2) b2⟩⟩
    | ok y g2 =>
      cases eo : o1 x.2 y.2 with
      | none => exact ⟨_, _, g, g, OpR.none, OpR.none, fun σ H Q h => by unfold dchain at h; rw [ea, Re.bind_ok, eb, Re.bind_ok, eo] at h; exact h.no'.elim⟩
      | some z =>
        obtain ⟨kz, dz⟩ := z
        have stuck : (∀ t, dz ≠ .bl t) → ∀ σ H Q, ¬ tE c W' ρ g (dchain o1 o2 da db de ρ g) σ H Q := fun hd σ H Q h => by
          unfold dchain at h
          rw [ea, Re.bind_ok, eb, Re.bind_ok, eo] at h
          cases dz with
          | bl t => exact hd t rfl
          | _ => exact h.no'
        cases dz with
        | bl t =>
          cases t with
          | false =>
            refine ⟨_, _, g1, g, h1 _ _ _ eo, OpR.none, fun σ H Q h => ?_⟩
            unfold dchain at h
            rw [ea, Re.bind_ok, eb, Re.bind_ok, eo] at h
            obtain ⟨W, ps, S, h⟩ := h
            show tE c W' ρ g _ σ H fun x H1 => tE c W' ρ g1 (db ρ g1) σ H1 _
            rw [eb]
            refine ⟨W, ps, S, fun v1 H1 f1 b1 k1 => ⟨W, ps, S.step f1 b1, fun v2 H2 f2 b2 k2 => ?_⟩⟩
            have S2 := (S.step f1 b1).step f2 b2
            refine ⟨owns ps ++ W, S2.there, S2.bU, (S.step f1 b1).keepRB f2 k1.toRB, k2.toRB, fun v H' k hz => ⟨false, hz.isbl, ?_⟩⟩
            rw [if_neg Bool.false_ne_true]
            exact h _ H' ((f1.trans f2).trans (ext_fr k)) (b2.fr k) (R.bl _)
          | true =>
            cases ee : de ρ g2 with
            | no => exact ⟨_, _, g, g, OpR.none, OpR.none, fun σ H Q h => by unfold dchain at h; rw [ea, Re.bind_ok, eb, Re.bind_ok, eo] at h; dsimp only at h; rw [ee] at h; exact h.no'.elim⟩
            | ex n g3 =>
              refine ⟨_, _, g1, g2, h1 _ _ _ eo, OpR.none, fun σ H Q h => ?_⟩
              unfold dchain at h
              rw [ea, Re.bind_ok, eb, Re.bind_ok, eo] at h
              dsimp only at h
              rw [ee] at h
              obtain ⟨W, ps, S, h⟩ := h
              show tE c W' ρ g _ σ H fun x H1 => tE c W' ρ g1 (db ρ g1) σ H1 _
              rw [eb]
              refine ⟨W, ps, S, fun v1 H1 f1 b1 k1 => ⟨W, ps, S.step f1 b1, fun v2 H2 f2 b2 k2 => ?_⟩⟩
              have S2 := (S.step f1 b1).step f2 b2
              refine ⟨owns ps ++ W, S2.there, S2.bU, (S.step f1 b1).keepRB f2 k1.toRB, k2.toRB, fun v H' k hz => ⟨true, hz.isbl, ?_⟩⟩
              rw [if_pos rfl]
              refine ⟨W, ps, S2.step (ext_fr k) (b2.fr k), ?_⟩
              rw [ee]
              exact fun H3 f3 b3 => h H3 (((f1.trans f2).trans (ext_fr k)).trans f3) b3
            | ok w g3 =>
              cases eo2 : o2 y.2 w.2 with
              | none => exact ⟨_, _, g, g, OpR.none, OpR.none, fun σ H Q h => by unfold dchain at h; rw [ea, Re.bind_ok, eb, Re.bind_ok, eo] at h; dsimp only at h; rw [ee, Re.bind_ok, eo2] at h; exact h.no'.elim⟩
              | some r =>
                refine ⟨_, _, g1, g2, h1 _ _ _ eo, h2 _ _ _ eo2, fun σ H Q h => ?_⟩
                unfold dchain at h
                rw [ea, Re.bind_ok, eb, Re.bind_ok, eo] at h
                dsimp only at h
                rw [ee, Re.bind_ok, eo2] at h
                obtain ⟨W, ps, S, h⟩ := h
                show tE c W' ρ g _ σ H fun x H1 => tE c W' ρ g1 (db ρ g1) σ H1 _
                rw [eb]
                refine ⟨W, ps, S, fun v1 H1 f1 b1 k1 => ⟨W, ps, S.step f1 b1, fun v2 H2 f2 b2 k2 => ?_⟩⟩
                have S1 := S.step f1 b1
                have S2 := S1.step f2 b2
                refine ⟨owns ps ++ W, S2.there, S2.bU, S1.keepRB f2 k1.toRB, k2.toRB, fun v H' k hz => ⟨true, hz.isbl, ?_⟩⟩
                rw [if_pos rfl]
                have S3 := S2.step (ext_fr k) (b2.fr k)
                refine ⟨W, ps, S3, ?_⟩
                rw [ee]
                refine fun v4 H4 f4 b4 k4 => ?_
                have S4 := S3.step f4 b4
                exact ⟨owns ps ++ W, S4.there, S4.bU, S2.keepRB ((ext_fr k).trans f4) k2.toRB, k4.toRB, fun v' H5 k' hz' => h _ H5 ((((f1.trans f2).trans (ext_fr k)).trans f4).trans (ext_fr k')) (b4.fr k') (KR.back (((f1.trans f2).trans (ext_fr k)).trans f4) hz')⟩
        | _ => exact ⟨_, _, g, g, OpR.none, OpR.none, fun σ H Q h => (stuck (fun t z => by cases z) σ H Q h).elim⟩
theorem se_chain {o1 o2 : D → D → Option KD} {p1 p2 : CmpOp} {a b e : Expr} {da db de : DE} (h1 : OpS c X (compareOp p1) o1) (h2 : OpS c X (compareOp p2) o2) (ha : SE c X W' a da) (hb : SE c X W' b db) (he : SE c X W' e de)
    (hm : lastMarks [p1, p2] [b, e] = false := by with_unfolding_all rfl) : SE c X W' (.Compare a [p1, p2] [b, e] pos) (dchain o1 o2 da db de) := fun ρ g => by
  obtain ⟨r, r', g1, g2, hr, hr', i⟩ := chain_ex (W' := W') (da := da) (db := db) (de := de) h1 h2 ρ g
  exact PE.imp (pe_chain hr hr' (ha ρ g) (hb ρ g1) (he ρ g2) hm) i
theorem st_chain {o1 o2 : D → D → Option KD} {p1 p2 : CmpOp} {a b e : Expr} {da db de : DE} (h1 : OpS c X (compareOp p1) o1) (h2 : OpS c X (compareOp p2) o2) (ha : SE c X W' a da) (hb : SE c X W' b db) (he : SE c X W' e de)
    (hm : lastMarks [p1, p2] [b, e] = false := by with_unfolding_all rfl) : ST c X W' (.Compare a [p1, p2] [b, e] pos) (dtv (dchain o1 o2 da db de)) := fun ρ g => by
  obtain ⟨r, r', g1, g2, hr, hr', i⟩ := chain_ex (W' := W') (da := da) (db := db) (de := de) h1 h2 ρ g
  exact PT.imp (pt_chain hr hr' (ha ρ g) (hb ρ g1) (he ρ g2) hm) fun σ H Q h => i σ H _ (tT_dtv h)

/-! ### isinstance(x, T), T a built-in class -/
def tyN : D → Option String
  | .non => some "NoneType"
  | .bl _ => some "bool"
  | .int _ => some "int"
  | .str _ => some "str"
  | .tup _ => some "tuple"
  | .lst _ => some "list"
  | _ => none
/-- the class T is asked of the class N -/
def subN (N T : String) : Bool := N == T || (N == "bool" && T == "int")
def disi (T : String) (a : DE) : DE := fun ρ g => (a ρ g).bind fun x g => match tyN x.2 with | some N => .ok (.fz, .bl (subN N T)) g | none => .no
theorem RB.tyx {U : List Addr} {H : Hp} {v : V} {d : D} {N : String} (hK : c.K = X.K) (e : tyN d = some N) (h : RB c U H v d) : TyX X.K H v (.type N) := by
  cases d with
  | non => cases e; rw [h.non]; exact .base .non
  | bl b => cases e; rw [h.bl]; exact .base (.bl b)
  | int b => cases e; rw [h.int]; exact .base (.int b)
  | str b => cases e; rw [h.str]; exact .base (.str b)
  | tup ds =>
    cases e
    obtain ⟨a, xs, rfl, sq, _⟩ := h.tup
    rcases sq with (q | ⟨o, q⟩) | ⟨o, its, n, e1, e2, _⟩
    · exact .base (.tup q)
    · exact .fTuple q
    · rw [hK] at e1; exact .kTuple e1 e2
  | lst ds =>
    cases e
    obtain ⟨a, xs, rfl, sq, _⟩ := h.lst
    rcases sq with (q | ⟨o, q⟩) | ⟨o, its, n, e1, e2, _⟩
    · exact .base (.lst q)
    · exact .base (.frz q)
    · rw [hK] at e1; exact .kList e1 e2
  | _ => cases e
def okTy (T : String) : Bool := T == "int" || T == "bool" || T == "str" || T == "tuple" || T == "list"
theorem kit_ty (K : Frag) {T N : String} {d : D} (hT : okTy T = true) (e : tyN d = some N) : PySem.W.kitOne K (.type N) (.type T) = some (subN N T) := by
  unfold okTy at hT
  simp only [Bool.or_eq_true, beq_iff_eq] at hT
  rcases hT with (((rfl | rfl) | rfl) | rfl) | rfl <;> cases d <;> cases e <;> rfl
theorem se_isi {T : String} {x : Str} {e : Expr} {a : DE} {p q : Pos} (hK : c.K = X.K) (he : SE c X W' e a) (hT : okTy T = true) (hg : Gl X "isinstance") (hm : X.mg "isinstance" = Option.none) (hg2 : Gl X x) (hm2 : X.mg x = Option.none) (hv2 : bootBuiltins x = some (.type T)) (hn : x ≠ "__name__" := by decide) (hdb : (x == ("__debug__" : Str)) = false := by decide)
    (hs1 : starEach [e, .Name x q] X.env = (false, eval e X.env) :: starEach [.Name x q] X.env := by rfl) (hs2 : starEach [.Name x q] X.env = (false, eval (.Name x q) X.env) :: starEach [] X.env := by rfl) (hpl : (backTo pos (starEach [.Name x q] X.env)).any (·.1) = false := by rfl) : SE c X W' (.Call (.Name "isinstance" p) [e, .Name x q] [] pos) (disi T a) := fun ρ g =>
  PE.imp (pe_callB call_isi hg hm (by decide +kernel) (pa_cons (he ρ g) (pa_cons (pe_bltn hg2 hm2 hv2 (v := .ty T) rfl hn hdb) pa_nil hs2) hs1) (by decide) (by decide) hs1 hpl) fun σ H Q ⟨W, ps, S, h⟩ => by
    show tE c W' ρ g (a ρ g) σ H _
    unfold disi at h
    refine ⟨W, ps, S, ?_⟩
    cases ea : a ρ g with
    | no => rw [ea] at h; exact h.elim
    | ex n g1 => rw [ea] at h; exact h
    | ok y g1 =>
      rw [ea, Re.bind_ok] at h
      cases et : tyN y.2 with
      | none => rw [et] at h; exact h.elim
      | some N =>
        rw [et] at h
        intro v H1 f1 b1 k1
        exact ⟨v, .ty T, .type N, .type T, subN N T, rfl, .ty T, k1.toRB.tyx hK et, kit_ty _ hT et, h _ H1 f1 b1 (R.bl _)⟩
/-! ### x is True, x is False, x is None -/
def ois2 (a b : D) : Option KD := match a, b with
  | .box, _ => none
  | .dic _ _, _ => none
  | .non, .non => okB true
  | _, .non => okB false
  | .bl x, .bl y => okB (x == y)
  | _, .bl _ => okB false
  | _, _ => none
theorem op_isBL {y : Bool} : OpR X (compareOp .Is) (fun x z H Q => z = .bl y ∧ (x = .bl y → Q (.bl true) H) ∧ (x ≠ .bl y → Q (.bl false) H)) := by
  intro pins s σ H x z v u Q I rx rz ⟨e, q1, q2⟩
  subst e
  obtain rfl : u = Value.bool y := rz
  by_cases hx : x = .bl y
  · subst hx
    obtain rfl : v = Value.bool y := rx
    exact wpAny_is_self rfl ⟨.bl true, H, I, rfl, q1 rfl⟩
  · have hp : plainIs v (.bool y) = true ∧ v ≠ .bool y := by
      cases x with
      | non => obtain rfl := rx; exact ⟨rfl, fun z => by cases z⟩
      | bl b => obtain rfl : v = Value.bool b := rx; exact ⟨rfl, fun z => hx (by rw [Value.bool.inj z])⟩
      | int i => obtain ⟨t, rfl⟩ := rx; exact ⟨rfl, fun z => by cases z⟩
      | str i => obtain ⟨t, rfl⟩ := rx; exact ⟨rfl, fun z => by cases z⟩
      | byt i => obtain ⟨t, rfl⟩ := rx; exact ⟨rfl, fun z => by cases z⟩
      | flt i => obtain ⟨t, rfl⟩ := rx; exact ⟨rfl, fun z => by cases z⟩
      | ref i => obtain rfl : v = Value.ref i := rx; exact ⟨rfl, fun z => by cases z⟩
      | ty i => obtain rfl : v = Value.type i := rx; exact ⟨rfl, fun z => by cases z⟩
    exact wpAny_is_other hp.1 hp.2 ⟨.bl false, H, I, rfl, q2 hx⟩
theorem RB.isb {U : List Addr} {H : Hp} {v : V} {d : D} {y : Bool} (h : RB c U H v d) (hd : d ≠ .bl y) : v ≠ .bl y := by
  rcases h with h | ⟨p, rfl, _, _⟩
  · cases h <;> first | (intro z; cases z; exact hd rfl) | (intro z; cases z)
  · intro z; cases z
theorem os_is2 : OpS c X (compareOp .Is) ois2 := fun d1 d2 z e => by
  cases d2 with
  | non =>
    refine os_is d1 .non z ?_
    cases d1 <;> first | exact e | cases e
  | bl y =>
    refine OpR.imp (op_isBL (y := y)) fun x w H Q ⟨U, hU, hb, h1, h2, q⟩ => ⟨h2.bl, fun hx => ?_, fun hx => ?_⟩
    · subst hx
      by_cases hd : d1 = .bl y
      · subst hd
        have e' : z = (.fz, .bl true) := by
          have q : okB (y == y) = some z := e
          rw [beq_self_eq_true] at q
          exact (Option.some.inj q).symm
        subst e'
        exact q _ H (fun _ _ e => e) (R.bl _)
      · exact absurd rfl (h1.isb hd)
    · have e' : z = (.fz, .bl false) := by
        cases d1 with
        | bl x =>
          have q : okB (x == y) = some z := e
          have hxy : (x == y) = false := by
            rw [beq_eq_false_iff_ne]
            intro w
            subst w
            exact hx h1.bl
          rw [hxy] at q
          exact (Option.some.inj q).symm
        | box => cases e
        | dic _ _ => cases e
        | _ => exact (Option.some.inj e).symm
      subst e'
      exact q _ H (fun _ _ e => e) (R.bl _)
  | _ => cases d1 <;> cases e
/-! ### two names at once -/
def dpar (i j : Nat) (a b : DE) : DS := fun ρ g => (a ρ g).bind fun x g => (b ρ g).bind fun y g => match KD.sl x, KD.sl y with
  | some s, some t => .ok (.nx ((ρ.set j t).set i s)) g
  | _, _ => .no
/-- a new object is kept apart -/
theorem SR.hold {W : List Addr} {ps : Ps} {σ : L2.St} {H H1 : Hp} {ρ : Env} {g g1 : G} {p : Addr} {d : D} (S : SR c W ps σ H ρ g) (f : Fr c.β H H1) (b : Bx c.β H1 g1) (np : H p = none) (hb : ¬ c.β.ex p) (h2 : p ∉ owns ps ++ W) (h3 : Cont c (p :: (owns ps ++ W)) H1 p d) : SR c (p :: W) ps σ H1 ρ g1 := by
  have S1 := S.step f b
  have T : RSls c (p :: (owns ps ++ W)) H1 σ ρ ps := (S.sl.chg (Chg.fresh np) fun _ _ _ e => e).chg (Chg.grow f fun b e => List.mem_cons_of_mem _ (S.bU b e)) fun q z o e => f q o e (S.nb q (mem_owns.mpr z))
  refine ⟨T.chg (Chg.less fun a z => ?_) fun _ _ _ e => e, S1.nd, fun q z y => ?_, fun a z => ?_, S1.bx, fun b e => List.mem_cons_of_mem _ (S1.bo b e)⟩
  · rcases List.mem_append.mp z with z | z
    · exact List.mem_cons_of_mem _ (List.mem_append_left _ z)
    · rcases List.mem_cons.mp z with rfl | z
      · exact List.mem_cons_self
      · exact List.mem_cons_of_mem _ (List.mem_append_right _ z)
  · rcases List.mem_cons.mp y with rfl | y
    · exact h2 (List.mem_append_left _ z)
    · exact S1.dj q z y
  · rcases List.mem_cons.mp z with rfl | z
    · exact h3.there
    · exact S1.old a z
/-- the object that was kept apart is stored in slot i -/
theorem SR.take {W : List Addr} {ps : Ps} {σ : L2.St} {H : Hp} {ρ : Env} {g : G} {p : Addr} {d : D} (i : Nat) (S : SR c (p :: W) ps σ H ρ g) (nW : p ∉ W) (hbo : ∀ b, c.β.ex b → b ∈ W) (h3 : Cont c (p :: (owns ps ++ W)) H p d) : ∃ ps', SR c W ps' (σ.set i (some (.ref p))) H (ρ.set i (.ow d)) g ∧ (∀ q ∈ owns ps', q ∈ owns ps ∨ q = p) := by
  have npo : p ∉ owns ps := fun z => S.dj p z List.mem_cons_self
  refine ⟨ps.set i (some p), ⟨((S.sl.chg (U' := p :: (owns ps ++ W)) (Chg.less fun a z => ?_) fun _ _ _ e => e).set i (.ow h3)).chg (Chg.less fun a z => ?_) fun _ _ _ e => e, owns_nd_some S.nd npo, fun q z => ?_, fun a z => S.old a (List.mem_cons_of_mem _ z), S.bx, hbo⟩, fun q z => owns_set_some z⟩
  · rcases List.mem_cons.mp z with rfl | z
    · exact List.mem_append_right _ List.mem_cons_self
    · rcases List.mem_append.mp z with z | z
      · exact List.mem_append_left _ z
      · exact List.mem_append_right _ (List.mem_cons_of_mem _ z)
  · rcases List.mem_append.mp z with z | z
    · rcases owns_set_some z with z | z
      · exact List.mem_cons_of_mem _ (List.mem_append_left _ z)
      · rw [z]; exact List.mem_cons_self
    · exact List.mem_cons_of_mem _ (List.mem_append_right _ z)
  · rcases owns_set_some z with z | z
    · exact fun y => S.dj q z (List.mem_cons_of_mem _ y)
    · subst z; exact nW
theorem ss_par (i j : Nat) {x y : Str} {a b : Expr} {da db : DE} {px py pt : Pos} {kt k2 : Nat} {pt2 : Pos} (hc : X.calm = true) (hN : X.N.Nodup) (ha : SE c X W' a da) (hb : SE c X W' b db) (hi : X.N[i]? = some x := by rfl) (hj : X.N[j]? = some y := by rfl) (hij : i ≠ j := by decide)
    (hx : X.env.scope.names.lookup x = some .local := by rfl) (hy : X.env.scope.names.lookup y = some .local := by rfl)
    (hw : swappedStores [.Tuple [.Name x px, .Name y py] kt pt] (.Tuple [a, b] k2 pt2) X.env = pure (some [x, y]) := by rfl)
    (hs : swapsWithSole [.Tuple [.Name x px, .Name y py] kt pt] (.Tuple [a, b] k2 pt2) pos.line X.env = pure false := by rfl)
    (hs1 : starEach [a, b] X.env = (false, eval a X.env) :: starEach [b] X.env := by rfl) (hs2 : starEach [b] X.env = (false, eval b X.env) :: starEach [] X.env := by rfl) :
    SS c X W' (.Assign [.Tuple [.Name x px, .Name y py] kt pt] (.Tuple [a, b] k2 pt2) pos) (dpar i j da db) := fun ρ g => by
  cases ea : da ρ g with
  | no => exact PS.no fun D σ H h => by unfold dpar at h; rw [ea] at h; exact h.no'
  | ex n g1 =>
    refine PS.imp (ps_par hc hN hi hj hij hx hy (pa_cons (ha ρ g) (pa_cons (hb ρ g) pa_nil hs2) hs1) hw hs) fun D σ H ⟨W, ps, S, h⟩ => ?_
    unfold dpar at h
    rw [ea] at h
    show tE c W' ρ g (da ρ g) σ H _
    rw [ea]
    exact ⟨W, ps, S, WantE.exS h⟩
  | ok u g1 =>
    refine PS.imp (ps_par hc hN hi hj hij hx hy (pa_cons (ha ρ g) (pa_cons (hb ρ g1) pa_nil hs2) hs1) hw hs) fun D σ H ⟨W, ps, S, h⟩ => ?_
    unfold dpar at h
    rw [ea, Re.bind_ok] at h
    show tE c W' ρ g (da ρ g) σ H _
    rw [ea]
    refine ⟨W, ps, S, fun v1 H1 f1 b1 k1 => ?_⟩
    have S1 := S.step f1 b1
    show tE c W' ρ g1 (db ρ g1) σ H1 _
    cases eb : db ρ g1 with
    | no => rw [eb] at h; exact h.elim
    | ex n g2 => rw [eb] at h; exact ⟨W, ps, S1, fun H2 f2 b2 => h σ H2 (Fs.of (f1.trans f2)) b2⟩
    | ok w g2 =>
      rw [eb, Re.bind_ok] at h
      obtain ⟨k, d⟩ := u
      obtain ⟨k', d'⟩ := w
      cases es : KD.sl (k, d) with
      | none => rw [es] at h; exact h.elim
      | some s =>
        cases et : KD.sl (k', d') with
        | none => rw [es, et] at h; exact h.elim
        | some t =>
          rw [es, et] at h
          have fin : ∀ v2 H2 ps2 (σ2 : L2.St), σ2 = (σ.set j (some v2)).set i (some v1) → SR c W ps2 σ2 H2 ((ρ.set j t).set i s) g2 → Stp c.β ps H ps2 H2 → ∃ v w, [v1, v2] = [v, w] ∧ D.nx ((σ.set i (some v)).set j (some w)) H2 := fun v2 H2 ps2 σ2 e T st => ⟨v1, v2, rfl, by
            rw [List.set_comm _ _ hij, ← e]
            exact h _ _ ps2 T st⟩
          cases k with
          | bw => cases es
          | fz =>
            cases es
            refine ⟨W, ps, S1, fun v2 H2 f2 b2 k2 => ?_⟩
            obtain ⟨ps1, T1, st1⟩ := S1.store j f2 b2 k2 et
            have r1 : R c (owns ps1 ++ W) H2 v1 d := R.chg ⟨rfl, fun _ e => e, fun a o e n => ⟨f2 a o e fun z => n (S1.bU a z), fun z => by
              rcases List.mem_append.mp z with z | z
              · rcases st1.nw a z with z | z
                · exact n (List.mem_append_left _ z)
                · rw [e] at z; cases z
              · exact n (List.mem_append_right _ z)⟩⟩ _ _ k1
            obtain ⟨ps2, T2, st2⟩ := T1.store (k := .fz) i (Fr.refl _ _) T1.bx r1 rfl
            exact fin v2 H2 ps2 _ rfl T2 (((Stp.of f1).trans st1 T1.nb).trans st2 T2.nb)
          | fr =>
            cases es
            obtain ⟨p1, rfl, np, nb, nU, ct⟩ := k1
            have S1h := S.hold f1 b1 np nb nU ct
            refine ⟨p1 :: W, ps, S1h, fun v2 H2 f2 b2 k2 => ?_⟩
            obtain ⟨ps1, T1, st1⟩ := S1h.store j f2 b2 k2 et
            have ct2 : Cont c (p1 :: (owns ps1 ++ W)) H2 p1 d := ct.chg ⟨rfl, fun _ e => e, fun a o e n => ⟨f2 a o e fun z => n (List.mem_cons_of_mem _ (S1.bU a z)), fun z => by
              rcases List.mem_cons.mp z with z | z
              · exact n (z ▸ List.mem_cons_self)
              · rcases List.mem_append.mp z with z | z
                · rcases st1.nw a z with z | z
                  · exact n (List.mem_cons_of_mem _ (List.mem_append_left _ z))
                  · rw [e] at z; cases z
                · exact n (List.mem_cons_of_mem _ (List.mem_append_right _ z))⟩⟩ fun o e => f2 p1 o e nb
            obtain ⟨ps2, T2, hq⟩ := T1.take i (fun z => nU (List.mem_append_right _ z)) S.bo ct2
            refine fin v2 H2 ps2 _ rfl T2 ⟨Fs.of (f1.trans f2), fun q z => ?_⟩
            rcases hq q z with z | rfl
            · rcases st1.nw q z with z | z
              · exact .inl z
              · exact .inr (f1.free (T1.nb q (by assumption)) z)
            · exact .inr np
end
end Dn

set_option Elab.async false
set_option linter.all false
set_option maxRecDepth 100000
set_option maxHeartbeats 2000000
/-! E9: a lambda handed to a def; what it raises is told. -/
namespace Dn
open PySem PySem.Spec PyProof.Rows L2 LamX
section
variable {X : Cx} {pins : List (Addr × Obj)} {σ : L2.St} {H : Hp} {s : Shared}
/-- a lambda is made: of the abstract heap nothing but the table at P changes -/
theorem made {T : List (Addr × Str)} {c P : Addr} {ar : Arguments} {e : Expr} {sc : Scope} {pos : Pos} {E : Value → Shared → Prop} {Q : Value → Shared → Prop} (I : Inv X pins σ H s) (TB : TabB X.base X.mg c P) (hcode : X.env.code = .ref c)
    (hm : (P, X.env.qual ++ "<lambda>") ∈ T) (hu : ∀ p ∈ T, p.1 = P → p.2 = X.env.qual ++ "<lambda>") (hT : Tabs T H) (hdef : defaultsOf ar X.env = ([], [])) (hfree : ∀ y ∈ sc.names, y.2 = .free → ∃ c, X.env.cells.lookup y.1 = some c)
    (h : ∀ (f q : Addr) (pm ct : Value) (H1 : Hp) (s' : Shared), Inv X pins σ H1 s' → (∀ b o, b ≠ P → H b = some o → H1 b = some o) → Tabs T H1 →
      s'.heap.get? f = some (PySem.W.kla_obj "<lambda>" (X.env.qual ++ "<lambda>") ar e sc (cloFrom X.env.cells sc.names []) pm q ct) → H1 f = none → f ∉ frs X.stack → H1 q = some (CodeO q (X.env.qual ++ "<lambda>")) → Q (.ref f) s') :
    wpAny (model X.prog X.w) X.A (eval (.Lambda ar e sc pos) X.env) Q E s := by
  obtain ⟨ps, hP, tri, cod⟩ := hT _ hm
  have bP : s.heap.BuiltinsAt X.mg P := TB.bm.keeps I.bk
  have gP : s.heap.get? P = some { cls := .none, data := .fields ps } := I.hok P _ hP
  have out : ∀ f, s.heap.objs.size ≤ f → f ∉ frs X.stack := fun f hf z => (List.mem_cons.mp (I.stkSub _ z)).elim (fun e => Nat.lt_irrefl f (Nat.lt_of_lt_of_le (by rw [e]; exact I.lt) hf)) (I.nofs hf)
  refine PySem.W.kla_eval hdef ?_
  cases hc : codeAmong pos ps.toList with
  | some cv =>
    obtain ⟨q, rfl, hq⟩ := cod pos cv hc
    refine PySem.W.kla_makeFunctionHit (mg := X.mg) (c := c) (P := P) (ps := ps) (closure_ok hfree) I.ok.glob (I.mod.glob.keeps I.bk) hcode (TB.code.keeps I.bk) gP tri hc bP fun ct h' tk hx hz => ?_
    exact h h'.objs.size q ((X.mg "__name__").getD .none) ct H { s with heap := h'.push _, toks := tk } (I.kept fun b o e => Heap.get?_push_of_some _ (hx b o e)) (fun _ _ _ e => e) hT (Heap.get?_push_size _ rfl) (I.hok.fresh hz) (out _ hz) hq
  | none =>
    refine PySem.W.kla_makeFunction (mg := X.mg) (c := c) (P := P) (ps := ps) (closure_ok hfree) I.ok.glob (I.mod.glob.keeps I.bk) hcode (TB.code.keeps I.bk) gP tri hc TB.gP bP fun q ct h' tk hx hge hlt hrec htb => ?_
    obtain ⟨q2, oc, vs, t, eq, hoc, hd, hv⟩ := hrec
    cases eq
    have hz : s.heap.objs.size ≤ h'.objs.size := Nat.le_trans hge (Nat.le_of_lt hlt)
    have nq : H q = none := I.hok.fresh hge
    have J := inv_table (t' := tk) (more := #[rawInt pos.line, rawInt pos.col, .ref q]) (h' := h'.push (PySem.W.kla_obj "<lambda>" (X.env.qual ++ "<lambda>") ar e sc (cloFrom X.env.cells sc.names []) ((X.mg "__name__").getD .none) q ct)) I hP
      (fun b o hb g => Heap.get?_push_of_some _ (hx b o hb g)) (Heap.get?_push_of_some _ htb) hge ⟨oc, vs, t, Heap.get?_push_of_some _ hoc, hd, hv⟩
    have keep : ∀ b o, b ≠ P → H b = some o → upd (upd H P (.tbl (ps ++ #[rawInt pos.line, rawInt pos.col, .ref q]))) q (CodeO q (X.env.qual ++ "<lambda>")) b = some o := fun b o n g => by
      rw [upd_ne (ne_of_none g nq), upd_ne n]
      exact g
    have lst : (ps ++ #[rawInt pos.line, rawInt pos.col, .ref q]).toList = ps.toList ++ [rawInt pos.line, rawInt pos.col, .ref q] := by simp
    have keepC : ∀ b, H b = some (CodeO b (X.env.qual ++ "<lambda>")) → b ≠ P := fun b g z => by
      rw [z, hP] at g
      exact codeO_ne _ (Option.some.inj g).symm
    refine h h'.objs.size q _ ct _ _ J keep (fun p hp => ?_) (Heap.get?_push_size _ rfl) ?_ (out _ hz) upd_same
    · by_cases hb : p.1 = P
      · rw [hu p hp hb, hb]
        refine ⟨_, by rw [upd_ne (ne_of_none hP nq), upd_same], by rw [lst]; exact PySem.TriplesOk_snoc _ _ _ _ tri, fun p' cv hcv => ?_⟩
        rw [lst] at hcv
        rcases among_app _ tri hcv with z | z
        · obtain ⟨c0, e1, e2⟩ := cod p' cv z
          exact ⟨c0, e1, keep _ _ (keepC _ e2) e2⟩
        · exact ⟨q, z, upd_same⟩
      · obtain ⟨ps', a1, a2, a3⟩ := hT p hp
        refine ⟨ps', keep _ _ hb a1, a2, fun p' cv hcv => ?_⟩
        obtain ⟨c0, e1, e2⟩ := a3 p' cv hcv
        refine ⟨c0, e1, keep _ _ (fun z => ?_) e2⟩
        rw [z, hP] at e2
        exact codeO_ne _ (Option.some.inj e2).symm
    · rw [upd_ne (Nat.ne_of_gt hlt), upd_ne (Nat.ne_of_gt (Nat.lt_of_lt_of_le (Heap.lt_size gP) hz))]
      exact I.hok.fresh hz
end
def tLm (T : List (Addr × Str)) (TT : (XK → Hp → VK → Prop) → Hp → VK → Prop) (t : XK → TE) : TE := fun σ H Q => Tabs T H ∧ ∀ H1, (∀ b o, b ∉ T.map Prod.fst → H b = some o → H1 b = some o) → Tabs T H1 → TT (fun E H' Q' => t E σ H' Q') H1 Q
section
variable {X : Cx}
theorem pe_lm {T : List (Addr × Str)} {TT : (XK → Hp → VK → Prop) → Hp → VK → Prop} {x a : Str} {g c P : Addr} {k : Nat} {pg : Arguments} {bg : List Stmt} {sg : Scope} {dV kV doc pm cdv ct oc : Value} {an od : Option Addr} {osl : Array (Option Value)} {Ng : List Str}
    {ar : Arguments} {body : Expr} {sc : Scope} {t : XK → TE} {p lpos pos : Pos} (hg : Gl X x) (hm : X.mg x = some (.ref g)) (hk : PySem.W.keepIn X.K (.ref g) = true)
    (lk : X.K.lookup g = some ⟨oc, od, .func (PySem.W.fnOf x x pg bg sg dV kV doc pm an cdv ct), osl⟩) (hcg : PySem.W.codeIn X.K cdv x = true) (hb : L2.Binds X.K (PySem.W.fnOf x x pg bg sg dV kV doc pm an cdv ct) [a] []) (Sg : FnScope Ng [a] sg) (hNg : Ng[0]? = some a) (hva : Vis sg a)
    (hG : GivesTo X Ng x sg g cdv bg a (X.env.qual ++ "<lambda>") TT)
    (TB : TabB X.base X.mg c P) (hcode : X.env.code = .ref c) (hmT : (P, X.env.qual ++ "<lambda>") ∈ T) (hu : ∀ p ∈ T, p.1 = P → p.2 = X.env.qual ++ "<lambda>") (hr : Room (k + 2) X.A) (L : LamS X.env.scope sc) (hdef : defaultsOf ar X.env = ([], []))
    (hbind : ∀ (q : Str) (cl : List (Str × Addr)) (pm cv ctv : Value), bindArgs (PySem.W.kla_fn "<lambda>" q ar body sc cl pm cv ctv) ⟨[], []⟩ = pure [])
    (hbody : ∀ (A : Around) (outer : List PySem.Env) (s : Shared) (H : Hp) (E : XK) (f c' : Addr), Room k (A.deeper (lamEnv X sc s.heap.objs.size f c')) → PE (lamCx X A outer s H E sc f c') body (t E))
    (hdb : (x == ("__debug__" : Str)) = false := by decide) (hd : (a == ("__debug__" : Str)) = false := by decide) (hcd : (a == ("__classdict__" : Str)) = false := by decide) :
    PE X (.Call (.Name x p) [.Lambda ar body sc lpos] [] pos) (tLm T TT t) := by
  refine ⟨fun pins s σ H Q I h => ?_⟩
  obtain ⟨hT, h⟩ := h
  refine wpAny_Call_Name_kw (ld_glob I hg hm ?_ hdb)
  refine PySem.W.callWith_K (h₀ := X.base) I.ok.mod.kin hk ?_ (by rfl) (by rfl)
  show wpAny _ _ (spliced ((false, eval (.Lambda ar body sc lpos) X.env) :: backTo pos (starEach [] X.env))) _ _ s
  refine Calls.spliced_cons (made I TB hcode hmT hu hT hdef (L.has I.ok) fun f q pm' ct' H1 s' J eN T1 hf hfn hfr hco => ?_)
  refine Calls.spliced_nil ⟨J.kIn, ?_⟩
  have eT : ∀ b o, b ∉ T.map Prod.fst → H b = some o → H1 b = some o := fun b o n e => eN b o (fun z => n (by rw [z]; exact List.mem_map.mpr ⟨_, hmT, rfl⟩)) e
  have run : codeAny (model X.prog X.w) X.A (.call (.ref g) ⟨[.ref f], []⟩) (CR C8.CX0 X.stack X.prog X.w H1 s' Q C8.E0) s' := by
    refine run_ofS (N := Ng) (ps := [a]) (us := [.ref f]) (vs := [.ref f]) lk hcg Sg hr J.env0 (hb s' [.ref f] J.kIn rfl) (.cons rfl .nil) rfl fun hr' => ?_
    obtain ⟨t', ht', hq'⟩ := hG f q s' H1 Q (fun E H' Q' => t E σ H' Q') (fun W pn xe E p1 p2 tk hW => pe_act (i := 0) J L hf hfn hfr (hbind _ _ _ _ _) tk hW hr' (fun A outer s H hr2 => hbody A outer s H E f q hr2) hNg hva hd hcd) hco (h H1 eT T1)
    exact ⟨t', ht'.nox, hq'⟩
  refine wpAny_call (codeAny_mono run fun r s2 hq => ?_)
  cases r with
  | error e => exact (show False from hq).elim
  | ok fl =>
    cases fl with
    | ret u => exact J.after hq
    | next => exact False.elim hq
    | brk => exact False.elim hq
    | cont => exact False.elim hq
/-- a told lambda: (0, what is read of its value), or (1, the error's word) -/
def TTd (K : PySem.W.Frag) (sp : Sp) (CS RG : Addr) (w1 w2 : Str) : (XK → Hp → VK → Prop) → Hp → VK → Prop := fun tl H Q => ∃ Ech : XK,
  (∀ cls d H', Ech cls d H' → ∃ D b, cls = .ref D ∧ d = none ∧ ExcC K D ∧ PySem.W.exmOne K (.ref D) (.ref CS) = some true ∧ PySem.W.kitOne K (.ref D) (.ref RG) = some b ∧ ∀ p, H' p = none → Q (.ref p) (upd H' p (.tup [.int 1, .str (if b = true then w1 else w2)]))) ∧
    ∀ E, tl Ech H fun v H1 => sp [v] H1 (fun w H2 => [V.int 0, w].length ≤ sizeLine ∧ ∀ p, H2 p = none → Q (.ref p) (upd H2 p (.tup [.int 0, w]))) E
theorem told_gives2 {Ng : List Str} {x a e rd ce ro q w1 w2 : Str} {sg : Scope} {g CS RG fr : Addr} {cdg : Value} {fd : FuncData} {pn : List Str} {sp : Sp} {k j0 j1 j2 j3 t0 t1 : Nat} {p0 p1 p2 p3 p4 p5 p6 p7 p8 p9 p10 p11 p12 p13 p14 p15 p16 p17 p18 p19 : Pos}
    (F : FnOk X.prog X.w X.K X.mg X.base (L2.CX X.prog X.w) k fr fd pn sp) (hr : ∀ (s : Shared), Room k (X.A.deeper (envOfC x sg s.heap.objs.size g cdg))) (hk : PySem.W.keepIn X.K (.ref fr) = true) (hb : Binds X.K fd pn [])
    (gr : sg.names.lookup rd = some .globalImplicit) (mr : X.mg rd = some (.ref fr)) (dr : (rd == ("__debug__" : Str)) = false)
    (gc : sg.names.lookup ce = some .globalImplicit) (mc : X.mg ce = some (.ref CS)) (dc : (ce == ("__debug__" : Str)) = false)
    (go : sg.names.lookup ro = some .globalImplicit) (mo : X.mg ro = some (.ref RG)) (dO : (ro == ("__debug__" : Str)) = false)
    (gi : sg.names.lookup ("isinstance" : Str) = some .globalImplicit) (mi : X.mg "isinstance" = none)
    (hN : Ng.Nodup) (h1 : Ng[1]? = some e) (hle : sg.names.lookup e = some .local) (de : (e == ("__debug__" : Str)) = false) (de2 : (e == ("__classdict__" : Str)) = false)
    (h0 : ∀ f : Addr, (L2.start Ng [V.ref f])[0]? = some (some (V.ref f))) :
    GivesTo X Ng x sg g cdg [.Try [.Return (some (.Tuple [.Constant (.int 0) j0 p0, .Call (.Name rd p1) [.Call (.Name a p2) [] [] p3] [] p4] t0 p5)) p6]
      [.ExceptHandler (some (.Name ce p7)) (some e) [.Return (some (.Tuple [.Constant (.int 1) j1 p8, .IfExp (.Call (.Name "isinstance" p9) [.Name e p10, .Name ro p11] [] p12) (.Constant (.str w1) j2 p13) (.Constant (.str w2) j3 p14) p15] t1 p16)) p17] p18] [] [] p19] a q (TTd X.K sp CS RG w1 w2) := by
  intro f c' s H Q tl act hc h
  obtain ⟨Ech, hE, h⟩ := h
  let Z : Cx := (cxOf C8.CX0 X.prog X.w X.K X.mg X.base Ng x sg g cdg X.A X.stack s H C8.E0).nox
  have zc : Gl Z ce := gc
  refine ⟨_, pss_one (ps_try_as (X := Z) (c := .ref CS) (i := 1) (Wout := fun _ _ _ _ => False)
      (tb := fun W D σ H => ∃ Ech : XK, (∀ cls d σ' H', Ech cls d H' → W cls d σ' H') ∧ σ[0]? = some (some (.ref f)) ∧ H c' = some (CodeO c' q) ∧ ∀ E, tl Ech H fun v H1 => sp [v] H1 (fun w H2 => [V.int 0, w].length ≤ sizeLine ∧ ∀ p, H2 p = none → D.rt (.ref p) (upd H2 p (.tup [.int 0, w]))) E)
      (ts := fun a0 cls d D σ H => ∃ Dc b, cls = .ref Dc ∧ d = none ∧ ExcC X.K Dc ∧ PySem.W.kitOne X.K (.ref Dc) (.ref RG) = some b ∧ (∃ σ0 : L2.St, σ = σ0.set 1 (some (.ref a0))) ∧ ∀ p, H p = none → D.rt (.ref p) (upd H p (.tup [.int 1, .str (if b = true then w1 else w2)])))
      rfl rfl hN h1 hle ⟨zc, dc, .inl mc⟩ LamX.takes0 (fun W pn xe tk _ => ?_) (fun a0 oe cls d pn hz hf => ?_)), ?_⟩
  · refine ⟨fun pins s' σ H' D I h' => ?_⟩
    obtain ⟨Ech, hW, e1, e2, e3⟩ := h'
    have hp := act W pn xe Ech p2 p3 tk hW
    have hrd : PE (Z.tr pn xe) (.Call (.Name rd p1) [.Call (.Name a p2) [] [] p3] [] p4) _ := pe_callS F (hr s) gr mr hk hb (fun σ => passAt tk σ) (pa_cons hp pa_nil) dr
    have ht := pss_one (ps_ret (pos := p6) (pe_tup (x1 := t0) (pos := p5) (pa_cons (pe_int (pos := p0) (i := 0) (j := j0)) (pa_cons hrd pa_nil))))
    refine ht.run pins s' σ H' D I ?_
    exact ⟨e1, e2, e3 _⟩
  · refine ⟨fun pins s' σ H' D I h' => ?_⟩
    obtain ⟨Dc, b, rfl, rfl, hC, hkt, ⟨σ0, e0⟩, e2⟩ := h'
    have e1 : σ[1]? = some (some (.ref a0)) := by
      have hlen : σ.length = Ng.length := I.len
      have hlt : 1 < Ng.length := (List.getElem?_eq_some_iff.mp h1).1
      rw [e0, List.length_set] at hlen
      rw [e0, List.getElem?_set_self (by omega)]
    have gi' : Gl (Z.suite a0 ((a0, oe) :: pn)) "isinstance" := gi
    have ha := pe_callB (X := Z.suite a0 ((a0, oe) :: pn)) (p := p9) (pos := p12) (call_isE (X := Z) hC hz hf) gi' mi (by decide +kernel) (pa_cons (pe_var (i := 1) (pos := p10) h1 (.inl hle) de de2) (pa_cons (pe_glob (pos := p11) (v := .ref RG) go mo rfl dO) pa_nil))
    have ht := pss_one (ps_ret (pos := p17) (pe_tup (x1 := t1) (pos := p16) (pa_cons (pe_int (pos := p8) (i := 1) (j := j1)) (pa_cons (pe_ifExp (pos := p15) (pt_val ha) (pe_str (pos := p13) (x := w1) (j := j2)) (pe_str (pos := p14) (x := w2) (j := j3))) pa_nil))))
    refine ht.run pins s' σ H' D I ?_
    refine ⟨_, e1, .ref RG, .ref RG, b, rfl, fun u r => r, hkt, b, rfl, ?_⟩
    cases b with
    | true => exact ⟨by show 2 ≤ _; rw [sizeLine_eq]; decide, e2⟩
    | false => exact ⟨by show 2 ≤ _; rw [sizeLine_eq]; decide, e2⟩
  · exact ⟨Ech, fun cls d σ' H' hh => by
      obtain ⟨Dc, b, rfl, rfl, hC, hx, hkt, hq⟩ := hE _ _ _ hh
      exact ⟨true, hx, fun _ a0 _ => ⟨Dc, b, rfl, rfl, hC, hkt, ⟨σ', rfl⟩, hq⟩, fun z => by cases z⟩, h0 f, hc, h⟩
/-- what a told lambda answers -/
def dtold (φ : DF) (rg : Nat → Option Bool) (w1 w2 : Str) (δ : DE) : DE := fun ρ g => match δ ρ g with
  | .ok x g1 => (match vals [x] with
    | some ds => (match φ ds g1 with
      | .ok y g2 => (match vals [y] with | some es => .ok (.fz, .tup (.int 0 :: es)) g2 | none => .no)
      | _ => .no)
    | none => .no)
  | .ex n g1 => (match rg n with | some b => .ok (.fz, .tup [.int 1, .str (if b = true then w1 else w2)]) g1 | none => .no)
  | .no => .no
/-- what is known of the errors: their classes, whether they are of the told one -/
def Rgs (K : PySem.W.Frag) (cl : Nat → Value) (CS RG : Addr) (rg : Nat → Option Bool) : Prop := ∀ n b, rg n = some b → ∃ D, cl n = .ref D ∧ ExcC K D ∧ PySem.W.exmOne K (.ref D) (.ref CS) = some true ∧ PySem.W.kitOne K (.ref D) (.ref RG) = some b
theorem vals1 {x : KD} {ds : List D} (h : vals [x] = some ds) : x.1 ≠ .bw ∧ ds = [x.2] := by
  obtain ⟨k, d⟩ := x
  cases k with
  | bw => cases h
  | fz => cases h; exact ⟨(fun z => by cases z), rfl⟩
  | fr => cases h; exact ⟨(fun z => by cases z), rfl⟩
theorem two_le {x y : V} : [x, y].length ≤ sizeLine := by show 2 ≤ _; rw [sizeLine_eq]; decide
theorem se_told {cg : Cg} {W' : WX} {φ : DF} {rg : Nat → Option Bool} {w1 w2 : Str} {δ : DE} {CS RG : Addr} {x a : Str} {g c P : Addr} {k : Nat} {pg : Arguments} {bg : List Stmt} {sg : Scope} {dV kV doc pm cdv ct oc : Value} {an od : Option Addr} {osl : Array (Option Value)} {Ng : List Str}
    {ar : Arguments} {body : Expr} {sc : Scope} {p lpos pos : Pos} (hK : cg.K = X.K) (hrg : Rgs X.K cg.cl CS RG rg) (hg : Gl X x) (hm : X.mg x = some (.ref g)) (hk : PySem.W.keepIn X.K (.ref g) = true)
    (lk : X.K.lookup g = some ⟨oc, od, .func (PySem.W.fnOf x x pg bg sg dV kV doc pm an cdv ct), osl⟩) (hcg : PySem.W.codeIn X.K cdv x = true) (hb : L2.Binds X.K (PySem.W.fnOf x x pg bg sg dV kV doc pm an cdv ct) [a] []) (Sg : FnScope Ng [a] sg) (hNg : Ng[0]? = some a) (hva : Vis sg a)
    (hG : GivesTo X Ng x sg g cdv bg a (X.env.qual ++ "<lambda>") (TTd X.K (spF X.K cg.cl 1 φ) CS RG w1 w2))
    (TB : TabB X.base X.mg c P) (hcode : X.env.code = .ref c) (hmT : (P, X.env.qual ++ "<lambda>") ∈ cg.β.T) (hu : ∀ p ∈ cg.β.T, p.1 = P → p.2 = X.env.qual ++ "<lambda>") (hr : Room (k + 2) X.A) (L : LamS X.env.scope sc) (hdef : defaultsOf ar X.env = ([], []))
    (hbind : ∀ (q : Str) (cl : List (Str × Addr)) (pm cv ctv : Value), bindArgs (PySem.W.kla_fn "<lambda>" q ar body sc cl pm cv ctv) ⟨[], []⟩ = pure [])
    (hbody : ∀ (A : Around) (outer : List PySem.Env) (s : Shared) (H : Hp) (E : XK) (f c' : Addr), Room k (A.deeper (lamEnv X sc s.heap.objs.size f c')) → SE cg (lamCx X A outer s H E sc f c') (fun cls d _ H => E cls d H) body δ)
    (hdb : (x == ("__debug__" : Str)) = false := by decide) (hd : (a == ("__debug__" : Str)) = false := by decide) (hcd : (a == ("__classdict__" : Str)) = false := by decide) :
    SE cg X W' (.Call (.Name x p) [.Lambda ar body sc lpos] [] pos) (dtold φ rg w1 w2 δ) := fun ρ g0 =>
  PE.imp (pe_lm hg hm hk lk hcg hb Sg hNg hva hG TB hcode hmT hu hr L hdef hbind (fun A outer s H E f c' h => hbody A outer s H E f c' h ρ g0) hdb hd hcd) fun σ H Q ⟨W, ps, S, h⟩ => by
    refine ⟨S.bx.2, fun H1 eN T1 => ?_⟩
    have f1 : Fr cg.β H H1 := fun b o e n => eN b o (fun z => n (.inr z)) e
    have b1 : Bx cg.β H1 g0 := ⟨fun b e => eN b _ (fun z => by
      obtain ⟨q, hq, rfl⟩ := List.mem_map.mp z
      obtain ⟨qs, e2, _⟩ := S.bx.2 q hq
      rw [S.bx.1 _ e] at e2
      cases e2) (S.bx.1 b e), T1⟩
    have S1 := S.step f1 b1
    unfold dtold at h
    cases ed : δ ρ g0 with
    | no => rw [ed] at h; exact h.elim
    | ex n g1 =>
      rw [ed] at h
      dsimp only at h
      cases er : rg n with
      | none => rw [er] at h; exact h.elim
      | some b =>
        rw [er] at h
        dsimp only at h
        obtain ⟨D, e1, e2, e3, e4⟩ := hrg n b er
        refine ⟨fun cls d H' => cls = .ref D ∧ d = none ∧ Fr cg.β H1 H' ∧ Bx cg.β H' g1, fun cls d H' ⟨q1, q2, q3, q4⟩ => ⟨D, b, q1, q2, e2, e3, e4, fun p np => ?_⟩, fun E => ⟨W, ps, S1, fun H2 f2 b2 => ⟨e1, rfl, f2, b2⟩⟩⟩
        have S2 := S1.step q3 q4
        exact h _ _ ((f1.trans q3).trans (ext_fr (extU np))) (q4.fr (extU np)) (new_tup S2.there np two_le (.cons (.int 1) (.cons (.str _) .nil)))
    | ok y g1 =>
      rw [ed] at h
      dsimp only at h
      cases ev : vals [y] with
      | none => rw [ev] at h; exact h.elim
      | some ds =>
        rw [ev] at h
        dsimp only at h
        obtain ⟨hy, rfl⟩ := Dn.vals1 ev
        refine ⟨fun _ _ _ => False, fun _ _ _ z => z.elim, fun E => ⟨W, ps, S1, fun v H2 f2 b2 k2 => ?_⟩⟩
        have S2 := S1.step f2 b2
        refine ⟨cg.β, owns ps ++ W, [y.2], g1, rfl, ?_, S2.there, S2.bU, b2, ?_⟩
        · rw [← hK]; exact .cons (k2.toR hy) .nil
        · cases ef : φ [y.2] g1 with
          | no => rw [ef] at h; exact h.elim
          | ex n g2 => rw [ef] at h; exact h.elim
          | ok z g2 =>
            rw [ef] at h
            dsimp only at h
            cases ez : vals [z] with
            | none => rw [ez] at h; exact h.elim
            | some es =>
              rw [ez] at h
              dsimp only at h
              obtain ⟨hz, rfl⟩ := Dn.vals1 ez
              intro w H3 f3 b3 k3
              refine ⟨two_le, fun p np => ?_⟩
              have S3 := S2.step f3 b3
              rw [← hK] at k3
              exact h _ _ (((f1.trans f2).trans f3).trans (ext_fr (extU np))) (b3.fr (extU np)) (new_tup S3.there np two_le (.cons (.int 0) (.cons (k3.toR hz) .nil)))
end
end Dn

set_option Elab.async false
set_option linter.all false
set_option maxRecDepth 100000
set_option maxHeartbeats 2000000
/-! E10: what the printed texts lean on. -/
namespace Dn
open PySem PySem.Spec PyProof.Rows L2
/-- a def of the module: its function is φ -/
structure Ok (P : Program) (w : World) (K : PySem.W.Frag) (mg : Str → Option Value) (base : Heap) (cl : Nat → Value) (x : Str) (n k : Nat) (φ : DF) : Prop where
  ex : ∃ (f : Addr) (fd : FuncData) (pn : List Str), FnOk P w K mg base (L2.CX P w) k f fd pn (spF K cl n φ) ∧ mg x = some (.ref f) ∧ PySem.W.keepIn K (.ref f) = true ∧ Binds K fd pn []
/-- an error's class -/
structure Er (K : PySem.W.Frag) (mg : Str → Option Value) (cl : Nat → Value) (x : Str) (n : Nat) : Prop where
  ex : ∃ C : Addr, PySem.W.excIn K C [.type "ValueError", .type "Exception", .type "BaseException", .type "object"] "ValueError.__new__" = true ∧ mg x = some (.ref C) ∧ PySem.W.keepIn K (.ref C) = true ∧
    PySem.W.subIn K (.ref C) (.type "BaseException") = some true ∧ PySem.W.typeIn K (.ref C) = some (.type "type") ∧ cl n = .ref C
section
variable {c : Cg} {X : Cx} {W' : WX} {pos : Pos}
theorem se_def {φ : DF} {k n : Nat} {x : Str} {p : Pos} {e : Expr} {es : List Expr} {as : DA} (O : Ok X.prog X.w X.K X.mg X.base c.cl x n k φ) (hK : c.K = X.K) (hr : Room k X.A) (tk : Takes X W') (hg : Gl X x) (ha : SA c X W' (e :: es) as) (hln : ∀ ρ g xs g', as ρ g = .ok xs g' → xs.length = n) (hn : (e :: es).length = n := by rfl) (hdb : (x == ("__debug__" : Str)) = false := by decide)
    (he : starEach (e :: es) X.env = (false, eval e X.env) :: starEach es X.env := by rfl) (hpl : (backTo pos (starEach es X.env)).any (·.1) = false := by rfl) : SE c X W' (.Call (.Name x p) (e :: es) [] pos) (dcall φ as) := by
  obtain ⟨f, fd, pn, F, h1, h2, h3⟩ := O.ex
  rw [← hK] at F
  exact se_call (n := n) (by rw [hK] at F ⊢; exact F) hn hr hg h1 h2 h3 tk ha hln hdb he hpl
theorem ss_err (n : Nat) {x m : Str} {j : Nat} {p p2 pos2 : Pos} (E : Er X.K X.mg c.cl x n) (tk : Takes X W') (hg : Gl X x) (hc : X.calm = true := by rfl) (hdb : (x == ("__debug__" : Str)) = false := by decide) :
    SS c X W' (.Raise (some (.Call (.Name x p) [.Constant (.str m) j p2] [] pos)) none pos2) (draise n) := by
  obtain ⟨C, h1, h2, h3, h4, h5, h6⟩ := E.ex
  exact ss_raise n hc tk ⟨h1, h2, h3, raises_own h4 h5⟩ h6 hg hdb
theorem se_gi {x : Str} {i : Int} (h : ∃ t, X.mg x = some (.int i t)) (hg : Gl X x) (hd : (x == ("__debug__" : Str)) = false := by decide) : SE c X W' (.Name x pos) (dlit (.int i)) := by
  obtain ⟨t, h⟩ := h
  exact se_glob hg h (v := .int i) ⟨t, rfl⟩ (fun _ _ => .int i) hd
/-! three names at once, of values that nobody owns -/
def dpar3 (i j l : Nat) (as : DA) : DS := fun ρ g => (as ρ g).bind fun xs g => match vals xs with
  | some [a, b, e] => .ok (.nx (((ρ.set i (.fz a)).set j (.fz b)).set l (.fz e))) g
  | _ => .no
theorem ss_par3 (i j l : Nat) {x y z : Str} {a b e : Expr} {as : DA} {px py pz pt : Pos} {kt k2 : Nat} {pt2 : Pos} (hc : X.calm = true) (hN : X.N.Nodup) (ha : SA c X W' [a, b, e] as) (hi : X.N[i]? = some x := by rfl) (hj : X.N[j]? = some y := by rfl) (hl : X.N[l]? = some z := by rfl) (hij : i ≠ j := by decide) (hil : i ≠ l := by decide) (hjl : j ≠ l := by decide)
    (hx : X.env.scope.names.lookup x = some .local := by rfl) (hy : X.env.scope.names.lookup y = some .local := by rfl) (hz : X.env.scope.names.lookup z = some .local := by rfl)
    (hw : swappedStores [.Tuple [.Name x px, .Name y py, .Name z pz] kt pt] (.Tuple [a, b, e] k2 pt2) X.env = pure (some [x, y, z]) := by rfl)
    (hs : swapsWithSole [.Tuple [.Name x px, .Name y py, .Name z pz] kt pt] (.Tuple [a, b, e] k2 pt2) pos.line X.env = pure false := by rfl) :
    SS c X W' (.Assign [.Tuple [.Name x px, .Name y py, .Name z pz] kt pt] (.Tuple [a, b, e] k2 pt2) pos) (dpar3 i j l as) := fun ρ g =>
  PS.imp (ps_par3 hc hN hi hj hl hij hil hjl hx hy hz (ha ρ g) hw hs) fun D σ H ⟨W, ps, S, h⟩ => by
    unfold dpar3 at h
    refine ⟨W, ps, S, ?_⟩
    cases ea : as ρ g with
    | no => rw [ea] at h; exact h.elim
    | ex n g1 => rw [ea] at h; exact fun H' f b => h σ H' (Fs.of f) b
    | ok xs g1 =>
      rw [ea, Re.bind_ok] at h
      intro vs H1 f1 b1 ks
      split at h
      · rename_i da db de ev
        have rs := vals_rs ev ks
        obtain ⟨u, us, rfl, r1, rs⟩ : ∃ u us, vs = u :: us ∧ R c (owns ps ++ W) H1 u da ∧ Rs c (owns ps ++ W) H1 us [db, de] := by cases rs with | cons h t => exact ⟨_, _, rfl, h, t⟩
        obtain ⟨u2, us, rfl, r2, rs⟩ : ∃ u us', us = u :: us' ∧ R c (owns ps ++ W) H1 u db ∧ Rs c (owns ps ++ W) H1 us' [de] := by cases rs with | cons h t => exact ⟨_, _, rfl, h, t⟩
        obtain ⟨u3, us, rfl, r3, rs⟩ : ∃ u us', us = u :: us' ∧ R c (owns ps ++ W) H1 u de ∧ Rs c (owns ps ++ W) H1 us' [] := by cases rs with | cons h t => exact ⟨_, _, rfl, h, t⟩
        cases rs
        refine ⟨u, u2, u3, rfl, ?_⟩
        have S1 := S.step f1 b1
        have T : RSls c (owns ps ++ W) H1 (((σ.set i (some u)).set j (some u2)).set l (some u3)) (((ρ.set i (.fz da)).set j (.fz db)).set l (.fz de)) (((ps.set i none).set j none).set l none) := ((S1.sl.set i (.fz r1)).set j (.fz r2)).set l (.fz r3)
        have sub : ∀ p, p ∈ owns (((ps.set i none).set j none).set l none) → p ∈ owns ps := fun p z => owns_set_none (owns_set_none (owns_set_none z))
        exact h _ _ _ ⟨T.chg (Chg.less fun a z => by
          rcases List.mem_append.mp z with z | z
          · exact List.mem_append_left _ (sub a z)
          · exact List.mem_append_right _ z) (fun _ _ _ e => e), owns_nd_none (owns_nd_none (owns_nd_none S1.nd)), fun p z => S1.dj p (sub p z), S1.old, S1.bx, S1.bo⟩ ⟨Fs.of f1, fun p z => .inl (sub p z)⟩
      · exact h.elim
end
/-- a def whose code object is known -/
theorem ok_defC {P : Program} {w : World} {K : PySem.W.Frag} {mg : Str → Option Value} {base : Heap} {x qual : Str} {st : Stmt} {f : Addr} {dV kV doc pm cdv ct oc : Value} {an od : Option Addr} {osl : Array (Option Value)} {N ps : List Str} {k n m : Nat} {b : DS} {cl : Nat → Value} (PB : Bs → Prop)
    (lk : K.lookup f = some ⟨oc, od, .func (PySem.W.fnOf x qual (defArgs st) (defBody st) (defScope st) dV kV doc pm an cdv ct), osl⟩) (hcd : PySem.W.codeIn K cdv qual = true) (S : FnScope N ps (defScope st)) (hn : ps.length = n) (hm : N.length - n = m)
    (sp : Sp) (hsp : ∀ vs H Q E, sp vs H Q E → ∃ (β : Bs) (W : List Addr) (ds : List D) (g : G), PB β ∧ vs.length = n ∧ Rs ⟨K, β, cl⟩ W H vs ds ∧ (∀ a ∈ W, H a ≠ none) ∧ (∀ b, β.ex b → b ∈ W) ∧ Bx β H g ∧ WantF ⟨K, β, cl⟩ W H Q E (dfun m b ds g))
    (hbody : ∀ (β : Bs) (A : Around) (outer : List PySem.Env) (s : Shared) (H : Hp) (E : XK), PB β → Room k (A.deeper (envOfC qual (defScope st) s.heap.objs.size f cdv)) →
      SSs ⟨K, β, cl⟩ (cxOf (L2.CX P w) P w K mg base N qual (defScope st) f cdv A outer s H E) (fun cls d _ H => E cls d H) (defBody st) b) : FnOk P w K mg base (L2.CX P w) (k + 1) f (PySem.W.fnOf x qual (defArgs st) (defBody st) (defScope st) dV kV doc pm an cdv ct) ps sp := by
  refine fn_of lk hcd S (fun vs H Q E h => ?_) (fun A outer s H vs Q E hr h => ?_)
  · obtain ⟨_, _, _, _, _, e, _⟩ := hsp _ _ _ _ h
    rw [e, hn]
  · obtain ⟨β, W, ds, g, eT, hl, rs, hW, hb, bx, want⟩ := hsp _ _ _ _ h
    refine ⟨_, hbody β A outer s H E eT hr (ds.map .fz ++ List.replicate m .un) g, W, List.replicate (ds.length + m) none, ?_, ?_⟩
    · refine ⟨?_, by rw [owns_none]; exact List.nodup_nil, fun p z => by rw [owns_none] at z; simp at z, hW, bx, hb⟩
      have q := rsls_start m rs
      rw [owns_none, List.nil_append]
      unfold L2.start
      rw [hl, hm]
      exact q
    · unfold dfun at want
      cases e : b (ds.map .fz ++ List.replicate m .un) g with
      | no => rw [e] at want; exact want
      | ex j g' => rw [e] at want; exact fun σ' H' f bb => want H' (fun a o e n => f a o e (by rw [owns_none]; simp) n) bb
      | ok fl g' =>
        rw [e] at want
        cases fl with
        | nx ρ => exact fun σ' H' ps' S' st => want .non H' (fun a o e n => st.fs a o e (by rw [owns_none]; simp) n) S'.bx .non
        | bk ρ => exact want.elim
        | ct ρ => exact want.elim
        | rt k d =>
          intro v H' f bb kr
          cases k with
          | bw => exact want.elim
          | fz => exact want v H' (fun a o e n => f a o e (by rw [owns_none]; simp) n) bb kr
          | fr =>
            obtain ⟨p, rfl, h1, h2, h3⟩ := kr
            refine want _ H' (fun a o e n => f a o e (by rw [owns_none]; simp) n) bb ⟨p, rfl, ?_, h2, h3⟩
            rcases h1 with h1 | h1
            · rw [owns_none] at h1; simp at h1
            · exact h1
/-- of what is never called deeper nothing is asked -/
theorem ok_none {P : Program} {w : World} {K : PySem.W.Frag} {mg : Str → Option Value} {base : Heap} {x qual : Str} {st : Stmt} {f : Addr} {fd : FuncData} {N ps : List Str} {k n : Nat} {cl : Nat → Value} (F : Fun K x qual st f fd) (S : FnScope N ps (defScope st)) (hn : ps.length = n) : FnOk P w K mg base (L2.CX P w) (k + 1) f fd ps (spF K cl n fun _ _ => .no) := by
  refine F.okX S (fun vs H Q E h => ?_) (fun cdv A outer s H vs Q E hr h => ?_)
  · obtain ⟨_, _, _, _, e, _⟩ := h
    rw [e, hn]
  · obtain ⟨_, _, _, _, _, _, _, _, _, z⟩ := h
    exact z.elim

/-! ### the drawing box -/
section
variable {c : Cg} {X : Cx} {W' : WX} {pos : Pos}
def dbix (a b : DE) : DE := fun ρ g => (a ρ g).bind fun x g => (b ρ g).bind fun y g => match x.2, y.2 with
  | .box, .int k => (match atI g k with | some v => .ok (.fz, .int v) g | none => .no)
  | _, _ => .no
theorem se_bix {a b : Expr} {da db : DE} (ha : SE c X W' a da) (hb : SE c X W' b db) (hs : PlainIx b := by exact fun _ _ => rfl) : SE c X W' (.Subscript a b pos) (dbix da db) := fun ρ g => by
  cases ea : da ρ g with
  | no => exact PE.no fun σ H Q h => by unfold dbix at h; rw [ea] at h; exact h.no'
  | ex n g1 =>
    refine PE.imp (pe_ix ix_list (ha ρ g) (hb ρ g) hs) fun σ H Q h => ?_
    unfold dbix at h
    rw [ea] at h
    show tE c W' ρ g (da ρ g) σ H _
    rw [ea]
    exact h
  | ok x g1 =>
    refine PE.imp (pe_ix ix_list (ha ρ g) (hb ρ g1) hs) fun σ H Q ⟨W, ps, S, h⟩ => ?_
    unfold dbix at h
    rw [ea, Re.bind_ok] at h
    show tE c W' ρ g (da ρ g) σ H fun x H1 => tE c W' ρ g1 (db ρ g1) σ H1 _
    rw [ea]
    refine ⟨W, ps, S, fun v1 H1 f1 b1 k1 => ?_⟩
    have S1 := S.step f1 b1
    cases eb : db ρ g1 with
    | no => rw [eb] at h; exact h.elim
    | ex n g2 => rw [eb] at h; exact ⟨W, ps, S1, fun H2 f2 b2 => h H2 (f1.trans f2) b2⟩
    | ok y g2 =>
      rw [eb, Re.bind_ok] at h
      refine ⟨W, ps, S1, fun v2 H2 f2 b2 k2 => ?_⟩
      obtain ⟨kx, dx⟩ := x
      obtain ⟨ky, dy⟩ := y
      cases dx with
      | box =>
        cases dy with
        | int k =>
          dsimp only at h
          cases ev : atI g2 k with
          | none => rw [ev] at h; exact h.elim
          | some v =>
            rw [ev] at h
            have hv : ∃ b, v1 = .ref b ∧ c.β.box = some b := by
              rcases k1.toRB with q | ⟨p, _, _, q⟩
              · cases q with | box e => exact ⟨_, rfl, e⟩
              · exact q.elim
            obtain ⟨b, rfl, e⟩ := hv
            refine ⟨b, g2.map V.int, k, .int v, rfl, k2.isint, SqL.of (b2.1 b e), ?_, h _ H2 (f1.trans f2) b2 (R.int _)⟩
            obtain ⟨j, e1, e2⟩ := atI_len (ys := g2.map V.int) (by rw [List.length_map]) ev
            exact e2 _ (by rw [List.getElem?_map, e1]; rfl)
        | _ => exact h.elim
      | _ => exact h.elim
/-- the list of slot i is the drawing box from now on -/
def dbox (i : Nat) (δ : DS) : DS := fun ρ g => match ρ[i]? with
  | some (.ow (.lst ds)) => (match intsD ds with
    | some ns => (match δ (ρ.set i (.fz .box)) ns with
      | .ok (.rt .fz (.bl b)) g' => .ok (.rt .fz (.bl b)) g'
      | _ => .no)
    | none => .no)
  | _ => .no
theorem sss_box (i : Nat) {sts : List Stmt} {δ : DS} (hb : c.β.box = none) (h : ∀ b, SSs ⟨c.K, ⟨some b, c.β.T, c.β.F⟩, c.cl⟩ X W' sts δ) : SSs c X W' sts (dbox i δ) := fun ρ g => by
  unfold dbox
  split
  · rename_i ds er
    split
    · rename_i ns en
      refine ⟨fun pins s σ H D I ⟨W, ps, S, want⟩ => ?_⟩
      obtain ⟨p, h1, h2, ⟨xs, h3, hz, rs⟩, hq, nb⟩ := S.own er
      refine (h p (ρ.set i (.fz .box)) ns).run pins s σ H D I ⟨p :: W, ps.set i none, ?_, ?_⟩
      · have sub : ∀ a, a ∈ owns (ps.set i none) ++ p :: W → a ∈ owns ps ++ W := fun a z => by
          rcases List.mem_append.mp z with z | z
          · exact List.mem_append_left _ (owns_set_none z)
          · rcases List.mem_cons.mp z with rfl | z
            · exact List.mem_append_left _ hq
            · exact List.mem_append_right _ z
        have np := getElem_set_ne_none h2 S.nd
        have T : RSls ⟨c.K, ⟨some p, c.β.T, c.β.F⟩, c.cl⟩ (owns (ps.set i none) ++ p :: W) H σ ρ ps := RSls.chg (c := c) (c' := ⟨c.K, ⟨some p, c.β.T, c.β.F⟩, c.cl⟩) ⟨rfl, (fun b e => by
          cases b with
          | inl b => exact absurd (show c.β.box = some b from e) (by rw [hb]; exact fun z => by cases z)
          | inr q => exact e), fun a o e n => ⟨e, fun z => n (sub a z)⟩⟩ (fun _ _ _ e => e) S.sl
        have T2 := T.set i (x := some (.ref p)) (s := .fz .box) (p := none) (.fz (.box rfl))
        rw [set_self h1] at T2
        refine ⟨T2, owns_nd_none S.nd, fun q z y => ?_, fun a z => ?_, ⟨fun b e => ?_, S.bx.2⟩, fun b e => ?_⟩
        · rcases List.mem_cons.mp y with rfl | y
          · exact np z
          · exact S.dj q (owns_set_none z) y
        · rcases List.mem_cons.mp z with rfl | z
          · rw [h3]; exact fun z => by cases z
          · exact S.old a z
        · cases e
          rw [h3, intsD_rs en rs]
        · rcases e with e | e
          · cases e; exact List.mem_cons_self
          · exact List.mem_cons_of_mem _ (S.bo b (.inr e))
      · cases eδ : δ (ρ.set i (.fz .box)) ns with
        | no => rw [eδ] at want; exact want.elim
        | ex n g' => rw [eδ] at want; exact want.elim
        | ok fl g' =>
          rw [eδ] at want
          cases fl with
          | nx _ => exact want.elim
          | bk _ => exact want.elim
          | ct _ => exact want.elim
          | rt k d =>
            cases k with
            | bw => exact want.elim
            | fr => exact want.elim
            | fz =>
              cases d with
              | bl b =>
                intro v H' f bb kr
                have hv : v = .bl b := by
                  have kr' : R _ _ _ _ _ := kr
                  cases kr'
                  rfl
                subst hv
                refine want _ H' (fun a o e n n2 => f a o e (fun z => n (owns_set_none z)) fun z => ?_) ⟨fun b e => ?_, bb.2⟩ (R.bl b)
                · rcases z with z | z
                  · cases z; exact n hq
                  · exact n2 (.inr z)
                · rw [hb] at e; cases e
              | _ => exact want.elim
    · exact ⟨fun pins s σ H D I ⟨W, ps, S, z⟩ => z.elim⟩
  · exact ⟨fun pins s σ H D I ⟨W, ps, S, z⟩ => z.elim⟩
end
end Dn

set_option Elab.async false
set_option linter.all false
set_option maxRecDepth 100000
set_option maxHeartbeats 2000000
/-! E11: x[::-1] of tuples and lists. -/
namespace Dn
open PySem PySem.Spec PyProof.Rows L2
section
variable {prog : Program} {w : World} {A : Around} {E : Value → Shared → Prop} {s : Shared}
theorem adj_rev (n : Nat) : Builtin.Slice.sliceAdjust none none (-1) (n : Int) = ((n : Int) - 1, -1) := by
  unfold Builtin.Slice.sliceAdjust
  simp
theorem places_rev (n : Nat) : Builtin.Slice.slicePlaces ((n : Int) - 1) (-1) (-1) = n := by
  unfold Builtin.Slice.slicePlaces
  have h1 : ¬ ((-1 : Int) > 0) := by decide
  rw [if_neg h1]
  by_cases h : (n : Int) - 1 > -1
  · rw [if_pos h]
    have e : ((n : Int) - 1 - -1 - 1) / (- -1) + 1 = n := by
      rw [show (- -1 : Int) = 1 by decide, Int.ediv_one]
      omega
    rw [e, Int.toNat_natCast]
  · rw [if_neg h]
    omega
theorem fm_congr {α β : Type} {f g : α → Option β} : ∀ {l : List α}, (∀ x ∈ l, f x = g x) → l.filterMap f = l.filterMap g
  | [], _ => rfl
  | x :: l, h => by rw [List.filterMap_cons, List.filterMap_cons, h x List.mem_cons_self, fm_congr fun y hy => h y (List.mem_cons_of_mem _ hy)]
theorem pick_rev (xs : Array Value) : ((List.range xs.size).filterMap fun (m : Nat) => xs[(((xs.size : Int) - 1) + (m : Int) * (-1)).toNat]?) = xs.toList.reverse := by
  have e : ∀ m ∈ List.range xs.size, xs[(((xs.size : Int) - 1) + (m : Int) * (-1)).toNat]? = xs.toList.reverse[m]? := fun m hm => by
    have hm' := List.mem_range.mp hm
    have h1 : (((xs.size : Int) - 1) + (m : Int) * (-1)).toNat = xs.size - 1 - m := by omega
    rw [h1, List.getElem?_reverse (by simpa using hm'), Array.length_toList, Array.getElem?_toList]
  rw [fm_congr e]
  have := PySem.W.krv_all xs.toList.reverse.toArray
  simpa using this
theorem applied_rev {sl : Addr} {vl vu vs : Value} {n : Nat} {Q : Int × Int × Nat → Shared → Prop} (hs : s.heap.IsSliceOf sl vl vu vs) (pl : IsPart vl none) (pu : IsPart vu none) (ps : IsPart vs (some (-1)))
    (h : Q ((n : Int) - 1, -1, n) s) : wpAny (model prog w) A (Builtin.Slice.sliceApplied (.ref sl) (pure (n : Int))) Q E s := by
  obtain ⟨os, hos, hcs, hds⟩ := id hs
  unfold Builtin.Slice.sliceApplied Builtin.Slice.sliceFields
  refine wpAny_bind (wpAny_bind (wpAny_field hos hds (x := vl) rfl (wpAny_bind (wpAny_field hos hds (x := vu) rfl (wpAny_bind (wpAny_field hos hds (x := vs) rfl (wpAny_pure ?_)))))))
  refine wpAny_bind (HT.slicePart_ ps ?_)
  show wpAny _ _ (if ((-1 : Int) == 0) = true then _ else _) _ _ s
  rw [if_neg (by decide)]
  refine wpAny_bind (HT.slicePart_ pl (wpAny_bind (HT.slicePart_ pu (wpAny_bind (wpAny_pure ?_)))))
  show wpAny _ _ (match Builtin.Slice.sliceAdjust none none (-1) (n : Int) with | (lo, hi) => pure (lo, (-1 : Int), Builtin.Slice.slicePlaces lo hi (-1))) _ _ s
  rw [adj_rev n]
  show wpAny _ _ (pure ((n : Int) - 1, (-1 : Int), Builtin.Slice.slicePlaces ((n : Int) - 1) (-1) (-1))) _ _ s
  rw [places_rev]
  exact wpAny_pure h
theorem item_rev {t sl : Addr} {items : Array Value} {vl vu vs : Value} {Q : Value → Shared → Prop} (ht : IsTup s.heap t items) (hs : s.heap.IsSliceOf sl vl vu vs) (pl : IsPart vl none) (pu : IsPart vu none) (ps : IsPart vs (some (-1)))
    (h : Q (.ref s.heap.objs.size) { s with heap := s.heap.push { cls := .type "tuple", data := .seq items.toList.reverse.toArray } }) (hsz : items.size ≤ sizeLine) : wpAny (model prog w) A (getItem (.ref t) (.ref sl)) Q E s := by
  have hok : sizeOk (.seq items.toList.reverse.toArray) := by
    show items.toList.reverse.toArray.size ≤ sizeLine
    simpa using hsz
  obtain ⟨os, hos, hcs, hds⟩ := id hs
  have hT : s.TypeIs (.ref sl) "slice" := ⟨os, hos, hcs⟩
  unfold getItem
  try with_reducible refine wpAny_holding ?_
  first | refine wpAny_bind (wpAny_pure ?_) | skip
  refine wpAny_bind (wpAny_sequenceKey ht.typeIs (by decide) ?_)
  refine wpAny_bind (wpAny_callSpecial?_slot (name := Str.ofString "__getitem__") ht.typeIs PyProof.Rows.slot_tuple_getitem (wpAny_call_entry PyProof.Rows.slot_tuple_getitem ht.typeIs entry_tuple_getitem ?_ (args_tuple_getitem _ _)))
  show wpAny _ _ (Builtin.Tuple.tupleItemsOf (.ref t) >>= _) _ _ s
  refine wpAny_bind (tupleItemsOf_ ht ?_)
  refine wpAny_bind (wpAny_typeOf hT ?_)
  rw [if_pos (by decide)]
  refine wpAny_bind (applied_rev hs pl pu ps ?_)
  show wpAny _ _ (if (((items.size : Int) - 1) == 0 && (-1 : Int) == 1 && items.size == items.size) = true then _ else _) _ _ s
  rw [if_neg (by simp), pick_rev]
  first
    | exact wpAny_bind (m := Builtin.Tuple.tupleExact _) (wpAny_newObj_type (wpAny_pure ⟨_, rfl, wpAny_pure h⟩) hok)
    | exact wpAny_bind (m := Builtin.Tuple.tupleExact _) (wpAny_newObj_type (wpAny_bind (wpAny_pure (wpAny_pure ⟨_, rfl, wpAny_pure h⟩))) hok)
    | exact wpAny_bind (wpAny_bind (m := Builtin.Tuple.tupleExact _) (wpAny_newObj_type (wpAny_pure (wpAny_pure ⟨_, rfl, wpAny_pure h⟩)) hok))
    | exact wpAny_bind (wpAny_bind (m := Builtin.Tuple.tupleExact _) (wpAny_newObj_type (wpAny_pure ⟨_, rfl, wpAny_pure h⟩) hok))
end
section
variable {c : Cg} {X : Cx} {W' : WX} {pos : Pos}
def tRevT (K : PySem.W.Frag) (te : TE) : TE := fun σ H Q => te σ H fun x H1 => ∃ a xs, x = .ref a ∧ SqT K H1 a xs ∧ ∀ p, H1 p = none → Q (.ref p) (upd H1 p (.tup xs.reverse))
theorem pe_revT {e : Expr} {te : TE} {k : Nat} {p1 p2 p3 pos : Pos} (he : PE X e te) : PE X (.Subscript e (.Slice none none (some (.UnaryOp .USub (.Constant (.int 1) k p1) p2)) p3) pos) (tRevT X.K te) := by
  refine ⟨fun pins s σ H Q I h => ?_⟩
  refine Subscript_ (thn (he.run pins s σ H _ I h) fun v s1 ⟨x, H1, I1, r1, q1⟩ => ?_)
  obtain ⟨a, xs, rfl, hx, q⟩ := q1
  cases r1
  have hst : PO X (some (.UnaryOp .USub (.Constant (.int 1) k p1) p2)) (tPart (tUn (rU fun i => .int (-i)) (tC (.int 1)))) := po_some (pe_un un_neg pe_int)
  refine wpAny_Slice (thn (po_none.run pins s1 σ H1 (fun o H2 => o = none ∧ H2 = H1) I1 ⟨rfl, rfl⟩) fun vl s2 ⟨l, H2, I2, pl, el, e2⟩ => ?_)
  subst el e2
  refine thn (po_none.run pins s2 σ H2 (fun o H3 => o = none ∧ H3 = H2) I2 ⟨rfl, rfl⟩) fun vu s3 ⟨u, H3, I3, pu, eu, e3⟩ => ?_
  subst eu e3
  refine thn (hst.run pins s3 σ H3 (fun o H4 => o = some (-1) ∧ H4 = H3) I3 ⟨1, rfl, -1, rfl, rfl, rfl⟩) fun vs s4 ⟨o, H4, I4, ps, eo, e4⟩ => ?_
  subst eo e4
  have J : Inv X pins σ H4 { s4 with heap := s4.heap.push { cls := .type "slice", data := .fields #[vl, vu, vs] } } := I4.kept (t' := s4.toks) fun b ob q => Heap.get?_push_of_some _ q
  obtain ⟨its, r, ht, hz⟩ := J.tuple hx
  have hlen := r.length
  show wpAny (model X.prog X.w) X.A (subscriptTail e (.Slice none none (some (.UnaryOp .USub (.Constant (.int 1) k p1) p2)) p3) (.ref a) (.ref s4.heap.objs.size)) (EP X pins σ Q) X.xe { s4 with heap := s4.heap.push { cls := .type "slice", data := .fields #[vl, vu, vs] } }
  refine tail_any (ops := [.ref a, .ref s4.heap.objs.size]) ht.typeIs (PyProof.Rows.slot_tuple_getitem.lookup) ?_ (by with_unfolding_all rfl)
  refine item_rev ht (Heap.IsSliceOf.new _ vl vu vs) pl pu ps ?_ (by rw [List.size_toArray]; omega)
  refine ⟨.ref _, _, J.laid (t' := s4.toks) (o := .tup xs.reverse) (fun b ob q => Heap.get?_push_of_some _ q) (Nat.le_refl _) ?_, rfl, q _ (J.hok.fresh (Nat.le_refl _))⟩
  exact ⟨by rw [List.length_reverse]; exact hz, _, r.reverse, IsTup.new _ _⟩
def orev : D → Option KD
  | .tup xs => some (.fz, .tup xs.reverse)
  | .lst xs => some (.fr, .lst xs.reverse)
  | _ => none
theorem se_rev {e : Expr} {a : DE} {k : Nat} {p1 p2 p3 : Pos} (hK : c.K = X.K) (he : SE c X W' e a) : SE c X W' (.Subscript e (.Slice none none (some (.UnaryOp .USub (.Constant (.int 1) k p1) p2)) p3) pos) (d1 orev a) := fun ρ g => by
  cases ea : a ρ g with
  | no => exact PE.no fun σ H Q h => by unfold d1 at h; rw [ea] at h; exact h.no'
  | ex n g1 =>
    refine PE.imp (pe_revL (he ρ g)) fun σ H Q h => ?_
    unfold d1 at h
    rw [ea] at h
    show tE c W' ρ g (a ρ g) σ H _
    rw [ea]
    exact h
  | ok x g1 =>
    obtain ⟨kx, d⟩ := x
    cases d with
    | tup xs =>
      refine PE.imp (pe_revT (he ρ g)) fun σ H Q ⟨W, ps, S, h⟩ => ?_
      unfold d1 at h
      rw [ea, Re.bind_ok] at h
      show tE c W' ρ g (a ρ g) σ H _
      rw [ea]
      refine ⟨W, ps, S, fun v H1 f1 b1 k1 => ?_⟩
      have S1 := S.step f1 b1
      obtain ⟨p, vs, rfl, sq, hl, rs, _⟩ := k1.toRB.tup
      rw [hK] at sq
      exact ⟨p, vs, rfl, sq, fun q np => h _ _ (f1.trans (ext_fr (extU np))) (b1.fr (extU np)) (new_tup S1.there np (by rw [List.length_reverse]; exact hl) rs.reverse)⟩
    | lst xs =>
      refine PE.imp (pe_revL (he ρ g)) fun σ H Q ⟨W, ps, S, h⟩ => ?_
      unfold d1 at h
      rw [ea, Re.bind_ok] at h
      show tE c W' ρ g (a ρ g) σ H _
      rw [ea]
      refine ⟨W, ps, S, fun v H1 f1 b1 k1 => ?_⟩
      have S1 := S.step f1 b1
      obtain ⟨p, vs, rfl, sq, hl, rs⟩ := k1.toRB.lst
      rw [hK] at sq
      exact ⟨p, vs, rfl, sq, fun q np => h _ _ (f1.trans (ext_fr (extU np))) (b1.fr (extU np)) (KR.back f1 (new_lst S1.there S1.bU np (by rw [List.length_reverse]; exact hl) rs.reverse))⟩
    | _ => exact PE.no fun σ H Q h => by unfold d1 at h; rw [ea] at h; exact h.no'
end
end Dn

set_option Elab.async false
set_option linter.all false
set_option maxRecDepth 100000
set_option maxHeartbeats 2000000
/-! E12: a law's end; the told def. -/
namespace Dn
open PySem PySem.Spec PyProof.Rows L2 LamX
/-- the def that is handed a lambda and tells -/
structure Tld (P : Program) (w : World) (K : PySem.W.Frag) (mg : Str → Option Value) (base : Heap) (cl : Nat → Value) (x : Str) (φ : DF) (rg : Nat → Option Bool) (w1 w2 : Str) (k : Nat) : Prop where
  ex : ∃ (g CS RG : Addr) (a : Str) (pg : Arguments) (bg : List Stmt) (sg : Scope) (dV kV doc pm cdv ct oc : Value) (an od : Option Addr) (osl : Array (Option Value)) (Ng : List Str),
    mg x = some (.ref g) ∧ PySem.W.keepIn K (.ref g) = true ∧ K.lookup g = some ⟨oc, od, .func (PySem.W.fnOf x x pg bg sg dV kV doc pm an cdv ct), osl⟩ ∧ PySem.W.codeIn K cdv x = true ∧ L2.Binds K (PySem.W.fnOf x x pg bg sg dV kV doc pm an cdv ct) [a] [] ∧
    FnScope Ng [a] sg ∧ Ng[0]? = some a ∧ Vis sg a ∧ (a == ("__debug__" : Str)) = false ∧ (a == ("__classdict__" : Str)) = false ∧ Rgs K cl CS RG rg ∧
    ∀ (X : Cx) (q : Str), X.prog = P → X.w = w → X.K = K → X.mg = mg → X.base = base → Room (k + 1) X.A → GivesTo X Ng x sg g cdv bg a q (TTd K (spF K cl 1 φ) CS RG w1 w2)
theorem se_tl {X : Cx} {cg : Cg} {W' : WX} {φ : DF} {rg : Nat → Option Bool} {w1 w2 : Str} {δ : DE} {x : Str} {c P : Addr} {k kr : Nat} {ar : Arguments} {body : Expr} {sc : Scope} {p lpos pos : Pos} (hK : cg.K = X.K) (TO : Tld X.prog X.w X.K X.mg X.base cg.cl x φ rg w1 w2 kr) (hr : Room (k + 2) X.A) (hkr : kr + 1 ≤ k + 2) (hg : Gl X x)
    (TB : TabB X.base X.mg c P) (hcode : X.env.code = .ref c) (hmT : (P, X.env.qual ++ "<lambda>") ∈ cg.β.T) (hu : ∀ p ∈ cg.β.T, p.1 = P → p.2 = X.env.qual ++ "<lambda>") (L : LamS X.env.scope sc)
    (hbody : ∀ (A : Around) (outer : List PySem.Env) (s : Shared) (H : Hp) (E : XK) (f c' : Addr), Room k (A.deeper (lamEnv X sc s.heap.objs.size f c')) → SE cg (lamCx X A outer s H E sc f c') (fun cls d _ H => E cls d H) body δ)
    (hdef : defaultsOf ar X.env = ([], []) := by rfl) (hbind : ∀ (q : Str) (cl : List (Str × Addr)) (pm cv ctv : Value), bindArgs (PySem.W.kla_fn "<lambda>" q ar body sc cl pm cv ctv) ⟨[], []⟩ = pure [] := by intros; rfl) (hdb : (x == ("__debug__" : Str)) = false := by decide) :
    SE cg X W' (.Call (.Name x p) [.Lambda ar body sc lpos] [] pos) (dtold φ rg w1 w2 δ) := by
  obtain ⟨g, CS, RG, a, pg, bg, sg, dV, kV, doc, pm, cdv, ct, oc, an, od, osl, Ng, h1, h2, h3, h4, h5, h6, h7, h8, h9, h10, h11, h12⟩ := TO.ex
  exact se_told hK h11 hg h1 h2 h3 h4 h5 h6 h7 h8 (h12 X _ rfl rfl rfl rfl rfl (hr.mono hkr)) TB hcode hmT hu hr L hdef hbind hbody hdb h9 h10
/-- the promise of a law: its function over what is handed in -/
def spL (K : PySem.W.Frag) (cl : Nat → Value) (PB : Bs → Prop) (φ : DF) : Sp := fun vs H Q E => ∃ (β : Bs) (W : List Addr) (ds : List D) (g : G), PB β ∧ vs.length = 1 ∧ Rs ⟨K, β, cl⟩ W H vs ds ∧ (∀ a ∈ W, H a ≠ none) ∧ (∀ b, β.ex b → b ∈ W) ∧ Bx β H g ∧ WantF ⟨K, β, cl⟩ W H Q E (φ ds g)
def lamQ (x : Str) : Str := (x ++ ".<locals>.") ++ "<lambda>"
theorem spL_law {K : PySem.W.Frag} {cl : Nat → Value} {T : List (Addr × Str)} {φ : DF} {H : Hp} {a : Addr} {ns : List Int} (hT : ∀ p ∈ T, H p.1 = some (.tbl #[])) (hS : SqL K H a (ns.map V.int)) (hz : ns.length ≤ sizeLine) (h : ∃ g', φ [.lst (ns.map .int)] [] = .ok (.fz, .bl true) g') :
    spL K cl (fun β => β.T = T ∧ β.box = none) φ [.ref a] H (fun v _ => v = .bl true) fun _ _ _ => False := by
  refine ⟨⟨none, T, []⟩, T.map Prod.fst, [.lst (ns.map .int)], [], ⟨rfl, rfl⟩, rfl, .cons ?_ .nil, fun b hb => ?_, fun b e => ?_, ⟨(fun b e => by cases e), fun p hp => TabS.nil (hT p hp)⟩, ?_⟩
  · rcases hS with q | q
    · refine .lst q (fun z => ?_) (by rw [List.length_map]; exact hz) (rs_ints ns)
      obtain ⟨p, hp, rfl⟩ := List.mem_map.mp z
      rcases q with q | ⟨o, q⟩ <;> rw [hT p hp] at q <;> cases q
    · exact .klst q (rs_ints ns)
  · obtain ⟨p, hp, rfl⟩ := List.mem_map.mp hb
    rw [hT p hp]
    exact fun z => by cases z
  · rcases e with e | e
    · cases e
    · exact e
  · obtain ⟨g', e⟩ := h
    rw [e]
    intro v H' _ _ kr
    have kr' : R _ _ _ _ _ := kr
    cases kr'
    rfl
/-- a law's statement, from its def and the plain law -/
theorem law_atS {l : PySem.W.OpenLaw} {w : World} {K : PySem.W.Frag} {k n : Nat} {mg : Str → Option Value} {fa : Addr} {h : Heap} {cl : Nat → Value} {x : Str} {φ : DF} {fd : FuncData} {oc : Value} {od dd : Option Addr} {osl sl : Array (Option Value)} {c P : Addr} {vs : Array Value} {file : Str} {tf tg tt : Tok} {flags text : Int} {inF : Bool} {q : Str}
    (hn : n ≤ sizeLine) (OT : OwnTab K fa h) (KX : K.In h) (lk : K.lookup fa = some ⟨oc, od, .func fd, osl⟩) (hcode : fd.code = .ref c) (xc : K.lookup c = some ⟨.type "code", dd, .fields vs, sl⟩) (x11 : vs[11]? = some (.ref P)) (nP : K.lookup P = none)
    (x18 : vs.getD 18 .none = .str file tf) (x7 : vs.getD 7 .none = .int flags tg) (x9 : vs.getD 9 .none = .bool inF) (x10 : vs.getD 10 .none = .int text tt) (cP : c ≠ P)
    (hb : ∀ (s : Shared) (u : Value), BindsTo s fd ⟨[u], []⟩ [(x, u)])
    (F : ∀ base : Heap, K.In base → base.Ns mainGlobals mg → TabB base mg c P → FnOk l.prog w K mg base (L2.CX l.prog w) k fa fd [x] (spL K cl (fun β => β.T = [(P, q)] ∧ β.box = none) φ))
    (law : ∀ ns : List Int, ns.length ≤ n → (∀ z ∈ ns, Builtin.Int.intBits z ≤ 1048576) → ∃ g', φ [.lst (ns.map .int)] [] = .ok (.fz, .bl true) g') : LawAtS l w K (L2.CX l.prog w) k n x mg fa h := by
  have gP := OT c P _ fd _ dd vs sl lk rfl hcode xc x11
  have e11 : vs.getD 11 .none = .ref P := by
    simp [x11]
  refine ⟨fd, [(c, P)], _, fun p hp => ?_, fun p hp => ?_, fun p hp => ?_, hb, fun H a ns hl hbits hH hS => spL_law (fun p hp => ?_) hS (Nat.le_trans hl hn) (law ns hl hbits), fun base kb nb hT => F base kb nb (hT _ List.mem_cons_self)⟩
  · obtain rfl := List.mem_singleton.mp hp; exact gP
  · obtain rfl := List.mem_singleton.mp hp; exact nP
  · obtain rfl := List.mem_singleton.mp hp
    exact ⟨_, vs, file, tf, flags, tg, inF, text, tt, KX _ _ xc, rfl, rfl, x11, e11, x18, x7, x9, x10, cP⟩
  · obtain rfl := List.mem_singleton.mp hp; exact hH (c, P) List.mem_cons_self
theorem walk_law {l : PySem.W.OpenLaw} {q : Program} {loose : List Str} {XP : (Str → Option Value) → Heap → Prop} {YP : World → Heap → Prop} {d : DefRec} {K : Params → PySem.W.Frag} {k : Nat} (hk : Room k callerA) (hn : l.most = some 63) (hdf : d.params.defaults = []) (hrec : ((recsOf q).any fun e => e.name == d.name) = true)
    (hY : ∀ (w : World) (h : Heap), YP w h → (K w.params).In h)
    (F : ∀ (w : World) (mg : Str → Option Value) (fa : Addr) (h : Heap), YP w h → (K w.params).In h → h.Ns mainGlobals mg → mg d.name = some (.ref fa) → OwnTab (K w.params) fa h → LawAtS l w (K w.params) (L2.CX l.prog w) k 63 "script" mg fa h) :
    PySem.W.WalkO q loose XP YP l.row.toRowW d [] (fun f vs => PySem.call f vs) :=
  walk_ofOwn (n := 63) (k := k) (x := "script") (CX := fun w => L2.CX l.prog w) hn (by rw [sizeLine_eq]; decide) hdf hk hrec hY F fun w H s e s' h => by
    obtain ⟨_, _, _, _, _, _, _, _, _, _, _, _, z⟩ := h
    exact z
/-- the errors' classes by their numbers -/
def clv (cs : List Addr) : Nat → Value := fun n => .ref (cs.getD n 0)
theorem exm_of {K : PySem.W.Frag} {C S : Addr} (h1 : PySem.W.subIn K (.ref S) (.type "BaseException") = some true) (h2 : PySem.W.isClsIn K S = true) (h3 : PySem.W.typeIn K (.ref S) = some (.type "type")) (h4 : PySem.W.subIn K (.ref C) (.ref S) = some true) : PySem.W.exmOne K (.ref C) (.ref S) = some true := by
  have e1 : (PySem.W.subIn K (.ref S) (.type "BaseException") == some true) = true := by rw [h1] <;> rfl
  have e2 : ((PySem.W.clsIn K S).isSome && PySem.W.typeIn K (.ref S) == some (.type "type")) = true := by
    rw [show (PySem.W.clsIn K S).isSome = true from h2, h3] <;> rfl
  show (if (PySem.W.subIn K (.ref S) (.type "BaseException") == some true) = true then (if ((PySem.W.clsIn K S).isSome && PySem.W.typeIn K (.ref S) == some (.type "type")) = true then PySem.W.subIn K (.ref C) (.ref S) else none) else none) = some true
  rw [if_pos e1, if_pos e2]
  exact h4
end Dn

set_option Elab.async false
set_option linter.all false
set_option maxRecDepth 100000
/-! E13: how denotations are computed: one rule each, what follows kept apart (so that simp works from the inside out and never looks ahead). -/
namespace Dn
open PySem L2
section
variable {ρ ρ' : Env} {g g' : G} {a b e : DE} {as : DA} {t u : DT} {s s' : DS} {d d' : D} {x y : KD} {xs : List KD} {i j n : Nat}
def kopt (o : Option KD) (g : G) : Re KD := match o with | some z => .ok z g | none => .no
@[simp] theorem kopt_some {z : KD} : kopt (some z) g = .ok z g := (rfl)
def kvar (o : Option Sl) (g : G) : Re KD := match o with | some (.fz d) => .ok (.fz, d) g | some (.ow d) => .ok (.bw, d) g | _ => .no
@[simp] theorem kvar_fz : kvar (some (.fz d)) g = .ok (.fz, d) g := (rfl)
@[simp] theorem kvar_ow : kvar (some (.ow d)) g = .ok (.bw, d) g := (rfl)
theorem e_var : dvar i ρ g = kvar ρ[i]? g := by unfold dvar kvar; rfl
theorem e_lit : dlit d ρ g = .ok (.fz, d) g := (rfl)
def k2' (op : D → D → Option KD) (x y : KD) (g : G) : Re KD := kopt (op x.2 y.2) g
def k2 (op : D → D → Option KD) (b : DE) (ρ : Env) (x : KD) (g : G) : Re KD := (b ρ g).bind (k2' op x)
@[simp] theorem k2'_eq {op} {k k' : Kd} : k2' op (k, d) (k', d') g = kopt (op d d') g := (rfl)
@[simp] theorem k2_eq {op} : k2 op b ρ x g = (b ρ g).bind (k2' op x) := (rfl)
theorem e_2 {op} : d2 op a b ρ g = (a ρ g).bind (k2 op b ρ) := (rfl)
def k1 (op : D → Option KD) (x : KD) (g : G) : Re KD := kopt (op x.2) g
@[simp] theorem k1_eq {op} {k : Kd} : k1 op (k, d) g = kopt (op d) g := (rfl)
theorem e_1 {op} : d1 op a ρ g = (a ρ g).bind (k1 op) := (rfl)
def ktv (x : KD) (g : G) : Re Bool := match x.2 with | .bl b => .ok b g | _ => .no
@[simp] theorem ktv_eq {k : Kd} {b : Bool} : ktv (k, .bl b) g = .ok b g := (rfl)
theorem e_tv : dtv a ρ g = (a ρ g).bind ktv := (rfl)
def knot (b : Bool) (g : G) : Re Bool := .ok (!b) g
@[simp] theorem knot_eq {b : Bool} : knot b g = .ok (!b) g := (rfl)
theorem e_not : dnot t ρ g = (t ρ g).bind knot := (rfl)
def kand (u : DT) (ρ : Env) (x : Bool) (g : G) : Re Bool := if x = true then u ρ g else .ok false g
@[simp] theorem kand_t : kand u ρ true g = u ρ g := (rfl)
@[simp] theorem kand_f : kand u ρ false g = .ok false g := (rfl)
theorem e_and : dand t u ρ g = (t ρ g).bind (kand u ρ) := (rfl)
def kor (u : DT) (ρ : Env) (x : Bool) (g : G) : Re Bool := if x = true then .ok true g else u ρ g
@[simp] theorem kor_t : kor u ρ true g = .ok true g := (rfl)
@[simp] theorem kor_f : kor u ρ false g = u ρ g := (rfl)
theorem e_or : dor t u ρ g = (t ρ g).bind (kor u ρ) := (rfl)
def kandv (b : DE) (ρ : Env) (x : KD) (g : G) : Re KD := match x.2 with | .bl true => b ρ g | .bl false => .ok (.fz, .bl false) g | _ => .no
@[simp] theorem kandv_t {k : Kd} : kandv b ρ (k, .bl true) g = b ρ g := (rfl)
@[simp] theorem kandv_f {k : Kd} : kandv b ρ (k, .bl false) g = .ok (.fz, .bl false) g := (rfl)
theorem e_andv : dandv a b ρ g = (a ρ g).bind (kandv b ρ) := (rfl)
def korv (b : DE) (ρ : Env) (x : KD) (g : G) : Re KD := match x.2 with | .bl true => .ok (.fz, .bl true) g | .bl false => b ρ g | _ => .no
@[simp] theorem korv_t {k : Kd} : korv b ρ (k, .bl true) g = .ok (.fz, .bl true) g := (rfl)
@[simp] theorem korv_f {k : Kd} : korv b ρ (k, .bl false) g = b ρ g := (rfl)
theorem e_orv : dorv a b ρ g = (a ρ g).bind (korv b ρ) := (rfl)
def knotv (x : KD) (g : G) : Re KD := match x.2 with | .bl b => .ok (.fz, .bl (!b)) g | _ => .no
@[simp] theorem knotv_eq {k : Kd} {b : Bool} : knotv (k, .bl b) g = .ok (.fz, .bl (!b)) g := (rfl)
theorem e_notv : dnotv a ρ g = (a ρ g).bind knotv := (rfl)
def kite (a b : DE) (ρ : Env) (x : Bool) (g : G) : Re KD := if x = true then a ρ g else b ρ g
@[simp] theorem kite_t : kite a b ρ true g = a ρ g := (rfl)
@[simp] theorem kite_f : kite a b ρ false g = b ρ g := (rfl)
theorem e_ite : dite' t a b ρ g = (t ρ g).bind (kite a b ρ) := (rfl)
theorem e_nil : dnil ρ g = .ok [] g := (rfl)
def kcons' (x : KD) (xs : List KD) (g : G) : Re (List KD) := .ok (x :: xs) g
def kcons (as : DA) (ρ : Env) (x : KD) (g : G) : Re (List KD) := (as ρ g).bind (kcons' x)
@[simp] theorem kcons'_eq : kcons' x xs g = .ok (x :: xs) g := (rfl)
@[simp] theorem kcons_eq : kcons as ρ x g = (as ρ g).bind (kcons' x) := (rfl)
theorem e_cons : dcons a as ρ g = (a ρ g).bind (kcons as ρ) := (rfl)
/-- the values of what was got, where none is an owned one -/
def kval {α : Type} (o : Option (List D)) (f : List D → Re α) : Re α := match o with | some ds => f ds | none => .no
@[simp] theorem kval_some {α : Type} {ds : List D} {f : List D → Re α} : kval (some ds) f = f ds := (rfl)
def mtup (g : G) (ds : List D) : Re KD := if ds.length ≤ 1000 then .ok (.fz, .tup ds) g else .no
def mlst (g : G) (ds : List D) : Re KD := if ds.length ≤ 1000 then .ok (.fr, .lst ds) g else .no
def ktup (xs : List KD) (g : G) : Re KD := kval (vals xs) (mtup g)
def klst (xs : List KD) (g : G) : Re KD := kval (vals xs) (mlst g)
@[simp] theorem ktup_eq : ktup xs g = kval (vals xs) (mtup g) := (rfl)
@[simp] theorem klst_eq : klst xs g = kval (vals xs) (mlst g) := (rfl)
theorem mtup_ok {ds : List D} (h : ds.length ≤ 1000) : mtup g ds = .ok (.fz, .tup ds) g := if_pos h
theorem mlst_ok {ds : List D} (h : ds.length ≤ 1000) : mlst g ds = .ok (.fr, .lst ds) g := if_pos h
@[simp] theorem mtup0 : mtup g [] = .ok (.fz, .tup []) g := (rfl)
@[simp] theorem mtup1 {p : D} : mtup g [p] = .ok (.fz, .tup [p]) g := (rfl)
@[simp] theorem mtup2 {p q : D} : mtup g [p, q] = .ok (.fz, .tup [p, q]) g := (rfl)
@[simp] theorem mtup3 {p q r : D} : mtup g [p, q, r] = .ok (.fz, .tup [p, q, r]) g := (rfl)
@[simp] theorem mtup4 {p q r s : D} : mtup g [p, q, r, s] = .ok (.fz, .tup [p, q, r, s]) g := (rfl)
@[simp] theorem mtup5 {p q r s t : D} : mtup g [p, q, r, s, t] = .ok (.fz, .tup [p, q, r, s, t]) g := (rfl)
@[simp] theorem mtup6 {p q r s t u : D} : mtup g [p, q, r, s, t, u] = .ok (.fz, .tup [p, q, r, s, t, u]) g := (rfl)
@[simp] theorem mlst0 : mlst g [] = .ok (.fr, .lst []) g := (rfl)
@[simp] theorem mlst1 {p : D} : mlst g [p] = .ok (.fr, .lst [p]) g := (rfl)
@[simp] theorem mlst2 {p q : D} : mlst g [p, q] = .ok (.fr, .lst [p, q]) g := (rfl)
@[simp] theorem mlst3 {p q r : D} : mlst g [p, q, r] = .ok (.fr, .lst [p, q, r]) g := (rfl)
@[simp] theorem mlst5 {p q r s t : D} : mlst g [p, q, r, s, t] = .ok (.fr, .lst [p, q, r, s, t]) g := (rfl)
@[simp] theorem mlst6 {p q r s t u : D} : mlst g [p, q, r, s, t, u] = .ok (.fr, .lst [p, q, r, s, t, u]) g := (rfl)
theorem e_tup : dtup as ρ g = (as ρ g).bind ktup := by
  unfold dtup
  cases as ρ g with
  | ok xs g1 => rw [Re.bind_ok, Re.bind_ok]; unfold ktup kval mtup; rfl
  | _ => rfl
theorem e_lst : dlst as ρ g = (as ρ g).bind klst := by
  unfold dlst
  cases as ρ g with
  | ok xs g1 => rw [Re.bind_ok, Re.bind_ok]; unfold klst kval mlst; rfl
  | _ => rfl
def kprim (o : List D → Option KD) (xs : List KD) (g : G) : Re KD := kopt (o (xs.map Prod.snd)) g
@[simp] theorem kprim_eq {o} : kprim o xs g = kopt (o (xs.map Prod.snd)) g := (rfl)
theorem e_prim {o} : dprim o as ρ g = (as ρ g).bind (kprim o) := (rfl)
def mcall (φ : DF) (g : G) (ds : List D) : Re KD := φ ds g
@[simp] theorem mcall_eq {φ : DF} {ds : List D} : mcall φ g ds = φ ds g := (rfl)
def kcall (φ : DF) (xs : List KD) (g : G) : Re KD := kval (vals xs) (mcall φ g)
@[simp] theorem kcall_eq {φ : DF} : kcall φ xs g = kval (vals xs) (mcall φ g) := (rfl)
theorem e_call {φ : DF} : dcall φ as ρ g = (as ρ g).bind (kcall φ) := by
  unfold dcall
  cases as ρ g with
  | ok xs g1 => rw [Re.bind_ok, Re.bind_ok]; unfold kcall kval mcall; rfl
  | _ => rfl
def misi (T : String) (o : Option String) (g : G) : Re KD := match o with | some N => .ok (.fz, .bl (subN N T)) g | none => .no
@[simp] theorem misi_eq {T N : String} : misi T (some N) g = .ok (.fz, .bl (subN N T)) g := (rfl)
def kisi (T : String) (x : KD) (g : G) : Re KD := misi T (tyN x.2) g
@[simp] theorem kisi_eq {T : String} {k : Kd} : kisi T (k, d) g = misi T (tyN d) g := (rfl)
theorem e_isi {T : String} : disi T a ρ g = (a ρ g).bind (kisi T) := by
  unfold disi
  cases a ρ g with
  | ok xs g1 => rw [Re.bind_ok, Re.bind_ok]; unfold kisi misi; rfl
  | _ => rfl
def kpart (x : KD) (g : G) : Re (Option Int) := match x.2 with | .int i => .ok (some i) g | _ => .no
@[simp] theorem kpart_eq {k : Kd} {z : Int} : kpart (k, .int z) g = .ok (some z) g := (rfl)
theorem e_part : dpart a ρ g = (a ρ g).bind kpart := (rfl)
theorem e_nop : dnop ρ g = .ok none g := (rfl)
def ksl3 (op : D → Option Int → Option Int → Option KD) (x : KD) (l u : Option Int) (g : G) : Re KD := kopt (op x.2 l u) g
def ksl2 (op : D → Option Int → Option Int → Option KD) (hi : DO) (ρ : Env) (x : KD) (l : Option Int) (g : G) : Re KD := (hi ρ g).bind (ksl3 op x l)
def ksl (op : D → Option Int → Option Int → Option KD) (lo hi : DO) (ρ : Env) (x : KD) (g : G) : Re KD := (lo ρ g).bind (ksl2 op hi ρ x)
@[simp] theorem ksl3_eq {op k l u} : ksl3 op (k, d) l u g = kopt (op d l u) g := (rfl)
@[simp] theorem ksl2_eq {op hi l} : ksl2 op hi ρ x l g = (hi ρ g).bind (ksl3 op x l) := (rfl)
@[simp] theorem ksl_eq {op lo hi} : ksl op lo hi ρ x g = (lo ρ g).bind (ksl2 op hi ρ x) := (rfl)
theorem e_sl {op lo hi} : dsl op a lo hi ρ g = (a ρ g).bind (ksl op lo hi ρ) := (rfl)
def kch3 (o2 : D → D → Option KD) (y z : KD) (g : G) : Re KD := kopt (o2 y.2 z.2) g
@[simp] theorem kch3_eq {o2 k k'} : kch3 o2 (k, d) (k', d') g = kopt (o2 d d') g := (rfl)
def kch2 (o2 : D → D → Option KD) (e : DE) (ρ : Env) (y : KD) (o : Option KD) (g : G) : Re KD := match o with
  | some (_, .bl true) => (e ρ g).bind (kch3 o2 y)
  | some (_, .bl false) => .ok (.fz, .bl false) g
  | _ => .no
@[simp] theorem kch2_t {o2 k} : kch2 o2 e ρ y (some (k, .bl true)) g = (e ρ g).bind (kch3 o2 y) := (rfl)
@[simp] theorem kch2_f {o2 k} : kch2 o2 e ρ y (some (k, .bl false)) g = .ok (.fz, .bl false) g := (rfl)
def kch1 (o1 o2 : D → D → Option KD) (e : DE) (ρ : Env) (x y : KD) (g : G) : Re KD := kch2 o2 e ρ y (o1 x.2 y.2) g
@[simp] theorem kch1_eq {o1 o2 k k'} : kch1 o1 o2 e ρ (k, d) (k', d') g = kch2 o2 e ρ (k', d') (o1 d d') g := (rfl)
def kch (o1 o2 : D → D → Option KD) (b e : DE) (ρ : Env) (x : KD) (g : G) : Re KD := (b ρ g).bind (kch1 o1 o2 e ρ x)
@[simp] theorem kch_eq {o1 o2} : kch o1 o2 b e ρ x g = (b ρ g).bind (kch1 o1 o2 e ρ x) := (rfl)
theorem e_chain {o1 o2} : dchain o1 o2 a b e ρ g = (a ρ g).bind (kch o1 o2 b e ρ) := by
  unfold dchain
  cases a ρ g with
  | ok x g1 =>
    rw [Re.bind_ok, Re.bind_ok, kch_eq]
    cases b ρ g1 with
    | ok y g2 =>
      rw [Re.bind_ok, Re.bind_ok]
      unfold kch1 kch2
      first
        | rfl
        | (split <;> first | rfl | (simp_all; done) | (simp_all; first | rfl | (cases e ρ g2 <;> rfl)) | (cases e ρ g2 <;> rfl))
    | _ => rfl
  | _ => rfl
def kbix2 (k : Option Int) (g : G) : Re KD := match k with | some v => .ok (.fz, .int v) g | none => .no
@[simp] theorem kbix2_eq {v : Int} : kbix2 (some v) g = .ok (.fz, .int v) g := (rfl)
def kbix1 (x y : KD) (g : G) : Re KD := match x.2, y.2 with | .box, .int k => kbix2 (atI g k) g | _, _ => .no
@[simp] theorem kbix1_eq {k k' : Kd} {z : Int} : kbix1 (k, .box) (k', .int z) g = kbix2 (atI g z) g := (rfl)
def kbix (b : DE) (ρ : Env) (x : KD) (g : G) : Re KD := (b ρ g).bind (kbix1 x)
@[simp] theorem kbix_eq : kbix b ρ x g = (b ρ g).bind (kbix1 x) := (rfl)
theorem e_bix : dbix a b ρ g = (a ρ g).bind (kbix b ρ) := by
  unfold dbix
  cases a ρ g with
  | ok x g1 =>
    rw [Re.bind_ok, Re.bind_ok, kbix_eq]
    cases b ρ g1 with
    | ok y g2 =>
      rw [Re.bind_ok, Re.bind_ok]
      unfold kbix1 kbix2
      first
        | rfl
        | (split <;> first | rfl | (simp_all; done) | (simp_all; rfl))
    | _ => rfl
  | _ => rfl
/-! statements -/
theorem e_skip : dskip ρ g = .ok (.nx ρ) g := (rfl)
theorem e_brk : dbrk ρ g = .ok (.bk ρ) g := (rfl)
theorem e_cnt : dcnt ρ g = .ok (.ct ρ) g := (rfl)
theorem e_retN : dretN ρ g = .ok (.rt .fz .non) g := (rfl)
theorem e_raise {n : Nat} : draise n ρ g = .ex n g := (rfl)
def kseq (t : DS) (f : Fl) (g : G) : Re Fl := match f with | .nx ρ' => t ρ' g | f => .ok f g
@[simp] theorem kseq_nx : kseq s (.nx ρ) g = s ρ g := (rfl)
@[simp] theorem kseq_rt {k : Kd} : kseq s (.rt k d) g = .ok (.rt k d) g := (rfl)
@[simp] theorem kseq_bk : kseq s (.bk ρ) g = .ok (.bk ρ) g := (rfl)
@[simp] theorem kseq_ct : kseq s (.ct ρ) g = .ok (.ct ρ) g := (rfl)
theorem e_seq : dseq s s' ρ g = (s ρ g).bind (kseq s') := (rfl)
def kdrop (ρ : Env) (_ : KD) (g : G) : Re Fl := .ok (.nx ρ) g
@[simp] theorem kdrop_eq : kdrop ρ x g = .ok (.nx ρ) g := (rfl)
theorem e_drop : ddrop a ρ g = (a ρ g).bind (kdrop ρ) := (rfl)
def kret (x : KD) (g : G) : Re Fl := match x.1 with | .bw => .no | k => .ok (.rt k x.2) g
@[simp] theorem kret_fz : kret (.fz, d) g = .ok (.rt .fz d) g := (rfl)
@[simp] theorem kret_fr : kret (.fr, d) g = .ok (.rt .fr d) g := (rfl)
theorem e_ret : dret a ρ g = (a ρ g).bind kret := (rfl)
def kretv (o : Option Sl) (g : G) : Re Fl := match o with | some (.fz d) => .ok (.rt .fz d) g | some (.ow d) => .ok (.rt .fr d) g | _ => .no
@[simp] theorem kretv_fz : kretv (some (.fz d)) g = .ok (.rt .fz d) g := (rfl)
@[simp] theorem kretv_ow : kretv (some (.ow d)) g = .ok (.rt .fr d) g := (rfl)
theorem e_retv : dretv i ρ g = kretv ρ[i]? g := by unfold dretv kretv; rfl
def kif (s s' : DS) (ρ : Env) (x : Bool) (g : G) : Re Fl := if x = true then s ρ g else s' ρ g
@[simp] theorem kif_t : kif s s' ρ true g = s ρ g := (rfl)
@[simp] theorem kif_f : kif s s' ρ false g = s' ρ g := (rfl)
theorem e_if : dif t s s' ρ g = (t ρ g).bind (kif s s' ρ) := (rfl)
def kset (i : Nat) (ρ : Env) (x : KD) (g : G) : Re Fl := match KD.sl x with | some s => .ok (.nx (ρ.set i s)) g | none => .no
@[simp] theorem kset_fz : kset i ρ (.fz, d) g = .ok (.nx (ρ.set i (.fz d))) g := (rfl)
@[simp] theorem kset_fr : kset i ρ (.fr, d) g = .ok (.nx (ρ.set i (.ow d))) g := (rfl)
theorem e_set : dset i a ρ g = (a ρ g).bind (kset i ρ) := (rfl)
def kfreeze (i : Nat) (s : DS) (ρ : Env) (o : Option Sl) (g : G) : Re Fl := match o with | some (.ow d) => s (ρ.set i (.fz d)) g | _ => s ρ g
@[simp] theorem kfreeze_ow : kfreeze i s ρ (some (.ow d)) g = s (ρ.set i (.fz d)) g := (rfl)
@[simp] theorem kfreeze_fz : kfreeze i s ρ (some (.fz d)) g = s ρ g := (rfl)
theorem e_freeze : dfreeze i s ρ g = kfreeze i s ρ ρ[i]? g := by unfold dfreeze kfreeze; rfl
def masg (o : Option Env) (g : G) : Re Fl := match o with | some ρ' => .ok (.nx ρ') g | none => .no
@[simp] theorem masg_eq : masg (some ρ) g = .ok (.nx ρ) g := (rfl)
def mpar (i j : Nat) (ρ : Env) (s t : Option Sl) (g : G) : Re Fl := match s, t with | some s, some t => .ok (.nx ((ρ.set j t).set i s)) g | _, _ => .no
@[simp] theorem mpar_eq {s t : Sl} : mpar i j ρ (some s) (some t) g = .ok (.nx ((ρ.set j t).set i s)) g := (rfl)
def kpar2 (i j : Nat) (ρ : Env) (x y : KD) (g : G) : Re Fl := mpar i j ρ (KD.sl x) (KD.sl y) g
@[simp] theorem kpar2_eq : kpar2 i j ρ x y g = mpar i j ρ (KD.sl x) (KD.sl y) g := (rfl)
@[simp] theorem sl_fz : KD.sl (.fz, d) = some (.fz d) := (rfl)
@[simp] theorem sl_fr : KD.sl (.fr, d) = some (.ow d) := (rfl)
def kpar (i j : Nat) (b : DE) (ρ : Env) (x : KD) (g : G) : Re Fl := (b ρ g).bind (kpar2 i j ρ x)
@[simp] theorem kpar_eq : kpar i j b ρ x g = (b ρ g).bind (kpar2 i j ρ x) := (rfl)
theorem e_par : dpar i j a b ρ g = (a ρ g).bind (kpar i j b ρ) := by
  unfold dpar
  cases a ρ g with
  | ok x g1 =>
    rw [Re.bind_ok, Re.bind_ok, kpar_eq]
    cases b ρ g1 with
    | ok y g2 =>
      rw [Re.bind_ok, Re.bind_ok]
      unfold kpar2 mpar
      rfl
    | _ => rfl
  | _ => rfl
def mpar3 (i j l : Nat) (ρ : Env) (g : G) (ds : List D) : Re Fl := match ds with | [a, b, e] => .ok (.nx (((ρ.set i (.fz a)).set j (.fz b)).set l (.fz e))) g | _ => .no
@[simp] theorem mpar3_eq {l : Nat} {p q r : D} : mpar3 i j l ρ g [p, q, r] = .ok (.nx (((ρ.set i (.fz p)).set j (.fz q)).set l (.fz r))) g := (rfl)
def kpar3 (i j l : Nat) (ρ : Env) (xs : List KD) (g : G) : Re Fl := kval (vals xs) (mpar3 i j l ρ g)
@[simp] theorem kpar3_eq {l : Nat} : kpar3 i j l ρ xs g = kval (vals xs) (mpar3 i j l ρ g) := (rfl)
theorem e_par3 {l : Nat} : dpar3 i j l as ρ g = (as ρ g).bind (kpar3 i j l ρ) := by
  unfold dpar3
  cases as ρ g with
  | ok xs g1 =>
    rw [Re.bind_ok, Re.bind_ok]
    unfold kpar3 kval
    cases vals xs with
    | none => rfl
    | some ds => unfold mpar3; split <;> simp_all
  | _ => rfl
def kfor (γ : DG) (s : DS) (ρ : Env) (ds : List D) (g : G) : Re Fl := forL (fbody γ s) ds ρ g
@[simp] theorem kfor_eq {γ : DG} {ds : List D} : kfor γ s ρ ds g = forL (fbody γ s) ds ρ g := (rfl)
theorem e_for {it : DI} {γ : DG} : dfor it γ s ρ g = (it ρ g).bind (kfor γ s ρ) := (rfl)
/-! calls -/
def kfun (r : Re Fl) : Re KD := match r with
  | .ok (.nx _) g' => .ok (.fz, .non) g'
  | .ok (.rt .bw _) _ => .no
  | .ok (.rt k d) g' => .ok (k, d) g'
  | .ex n g' => .ex n g'
  | _ => .no
@[simp] theorem kfun_nx : kfun (.ok (.nx ρ) g) = .ok (.fz, .non) g := (rfl)
@[simp] theorem kfun_fz : kfun (.ok (.rt .fz d) g) = .ok (.fz, d) g := (rfl)
@[simp] theorem kfun_fr : kfun (.ok (.rt .fr d) g) = .ok (.fr, d) g := (rfl)
@[simp] theorem kfun_ex : kfun (.ex n g) = .ex n g := (rfl)
theorem e_fun {m : Nat} {ds : List D} : dfun m s ds g = kfun (s (ds.map .fz ++ List.replicate m .un) g) := by
  unfold dfun kfun
  rfl
def ktold (φ : DF) (rg : Nat → Option Bool) (w1 w2 : Str) (r : Re KD) : Re KD := match r with
  | .ok x g1 => kval (vals [x]) fun ds => (match φ ds g1 with
    | .ok y g2 => kval (vals [y]) fun es => .ok (.fz, .tup (.int 0 :: es)) g2
    | _ => .no)
  | .ex n g1 => (match rg n with | some b => .ok (.fz, .tup [.int 1, .str (if b = true then w1 else w2)]) g1 | none => .no)
  | .no => .no
theorem e_told {φ : DF} {rg : Nat → Option Bool} {w1 w2 : Str} : dtold φ rg w1 w2 a ρ g = ktold φ rg w1 w2 (a ρ g) := by
  unfold dtold ktold
  cases a ρ g with
  | ok x g1 =>
    dsimp only
    unfold kval
    cases vals [x] with
    | none => rfl
    | some ds =>
      first
        | rfl
        | (dsimp only; cases φ ds g1 with
          | ok y g2 => first | rfl | (dsimp only; cases vals [y] <;> rfl)
          | _ => rfl)
  | _ => rfl
theorem told_ok {φ : DF} {rg : Nat → Option Bool} {w1 w2 : Str} {k : Kd} (hk : k = .fz ∨ k = .fr) (h : ∃ k', (k' = .fz ∨ k' = .fr) ∧ φ [d] g = .ok (k', d) g) : ktold φ rg w1 w2 (.ok (k, d) g) = .ok (.fz, .tup [.int 0, d]) g := by
  obtain ⟨k', hk', h⟩ := h
  unfold ktold
  rcases hk with rfl | rfl <;> simp only [vals, Option.map, kval, h] <;> rcases hk' with rfl | rfl <;> rfl
theorem told_ex {φ : DF} {rg : Nat → Option Bool} {w1 w2 : Str} {n : Nat} {b : Bool} (h : rg n = some b) : ktold φ rg w1 w2 (.ex n g) = .ok (.fz, .tup [.int 1, .str (if b = true then w1 else w2)]) g := by
  unfold ktold
  dsimp only
  rw [h]
/-! loops -/
theorem forL_nil {f : D → Env → G → Re Fl} : forL f [] ρ g = .ok (.nx ρ) g := (rfl)
theorem forL_nx {f : D → Env → G → Re Fl} {ds : List D} (h : f d ρ g = .ok (.nx ρ') g') : forL f (d :: ds) ρ g = forL f ds ρ' g' := by
  simp only [forL, h]
theorem forL_rt {f : D → Env → G → Re Fl} {ds : List D} {k : Kd} (h : f d ρ g = .ok (.rt k d') g') : forL f (d :: ds) ρ g = .ok (.rt k d') g' := by
  simp only [forL, h]
theorem fbody_eq {γ : DG} (h : γ d ρ = some ρ') : fbody γ s d ρ g = s ρ' g := by unfold fbody; rw [h]
theorem whl_f (h : t ρ g = .ok false g') : whl t s (n + 1) ρ g = .ok (.nx ρ) g' := by
  show (t ρ g).bind _ = _
  rw [h]
  rfl
theorem whl_t (h : t ρ g = .ok true g') {g2 : G} (hs : s ρ g' = .ok (.nx ρ') g2) : whl t s (n + 1) ρ g = whl t s n ρ' g2 := by
  show (t ρ g).bind _ = _
  rw [h]
  rw [Re.bind_ok, if_pos rfl, hs]
/-! changes of lists and of the box; what is gone through; comprehensions -/
def msb (ρ : Env) (v : Int) (o : Option Nat) (g : G) : Re Fl := match o with | some j => .ok (.nx ρ) (g.set j v) | none => .no
@[simp] theorem msb_eq {v : Int} : msb ρ v (some j) g = .ok (.nx ρ) (g.set j v) := (rfl)
def ksb (ρ : Env) (x y : KD) (g : G) : Re Fl := match x.2, y.2 with | .int v, .int k => msb ρ v (ixN g.length k) g | _, _ => .no
@[simp] theorem ksb_eq {k k' : Kd} {v z : Int} : ksb ρ (k, .int v) (k', .int z) g = msb ρ v (ixN g.length z) g := (rfl)
def mso (i : Nat) (ρ : Env) (ds : List D) (d : D) (o : Option Nat) (g : G) : Re Fl := match o with | some j => .ok (.nx (ρ.set i (.ow (.lst (ds.set j d))))) g | none => .no
@[simp] theorem mso_eq {ds : List D} : mso i ρ ds d (some j) g = .ok (.nx (ρ.set i (.ow (.lst (ds.set j d))))) g := (rfl)
def kso (i : Nat) (ρ : Env) (ds : List D) (x y : KD) (g : G) : Re Fl := match vals [x], y.2 with | some [d], .int k => mso i ρ ds d (ixN ds.length k) g | _, _ => .no
@[simp] theorem kso_fz {ds : List D} {k : Kd} {z : Int} : kso i ρ ds (.fz, d) (k, .int z) g = mso i ρ ds d (ixN ds.length z) g := (rfl)
@[simp] theorem kso_fr {ds : List D} {k : Kd} {z : Int} : kso i ρ ds (.fr, d) (k, .int z) g = mso i ρ ds d (ixN ds.length z) g := (rfl)
def kseti (i : Nat) (ix : DE) (ρ : Env) (o : Option Sl) (x : KD) (g : G) : Re Fl := match o with
  | some (.ow (.lst ds)) => (ix ρ g).bind (kso i ρ ds x)
  | some (.fz .box) => (ix ρ g).bind (ksb ρ x)
  | _ => .no
@[simp] theorem kseti_ow {ds : List D} : kseti i a ρ (some (.ow (.lst ds))) x g = (a ρ g).bind (kso i ρ ds x) := (rfl)
@[simp] theorem kseti_box : kseti i a ρ (some (.fz .box)) x g = (a ρ g).bind (ksb ρ x) := (rfl)
theorem e_seti : dseti i a b ρ g = (a ρ g).bind (kseti i b ρ ρ[i]?) := by
  unfold dseti
  cases a ρ g with
  | ok x g1 =>
    rw [Re.bind_ok, Re.bind_ok]
    generalize ρ[i]? = o
    unfold kseti
    split
    · rename_i ds
      try dsimp only
      cases b ρ g1 with
      | ok y g2 =>
        rw [Re.bind_ok, Re.bind_ok]
        unfold kso mso
        cases vals [x] with
        | none => rfl
        | some es =>
          generalize y.2 = dy
          cases dy with
          | int z => rcases es with _ | ⟨e1, _ | ⟨e2, es⟩⟩ <;> rfl
          | _ => rcases es with _ | ⟨e1, _ | ⟨e2, es⟩⟩ <;> rfl
      | _ => rfl
    · try dsimp only
      cases b ρ g1 with
      | ok y g2 =>
        rw [Re.bind_ok, Re.bind_ok]
        unfold ksb msb
        generalize y.2 = dy
        generalize x.2 = dx
        cases dx <;> cases dy <;> rfl
      | _ => rfl
    · first
        | rfl
        | (split <;> first | rfl | (exfalso; simp_all; done))
  | _ => rfl
def mapp (i : Nat) (ρ : Env) (ds : List D) (g : G) (es : List D) : Re Fl := match es with | [d] => if ds.length < 100000 then .ok (.nx (ρ.set i (.ow (.lst (ds ++ [d]))))) g else .no | _ => .no
theorem mapp_ok {ds : List D} (h : ds.length < 100000) : mapp i ρ ds g [d] = .ok (.nx (ρ.set i (.ow (.lst (ds ++ [d]))))) g := if_pos h
def kapp' (i : Nat) (ρ : Env) (ds : List D) (x : KD) (g : G) : Re Fl := kval (vals [x]) (mapp i ρ ds g)
@[simp] theorem kapp'_fz {ds : List D} : kapp' i ρ ds (.fz, d) g = mapp i ρ ds g [d] := (rfl)
@[simp] theorem kapp'_fr {ds : List D} : kapp' i ρ ds (.fr, d) g = mapp i ρ ds g [d] := (rfl)
def kapp (i : Nat) (a : DE) (ρ : Env) (o : Option Sl) (g : G) : Re Fl := match o with | some (.ow (.lst ds)) => (a ρ g).bind (kapp' i ρ ds) | _ => .no
@[simp] theorem kapp_eq {ds : List D} : kapp i a ρ (some (.ow (.lst ds))) g = (a ρ g).bind (kapp' i ρ ds) := (rfl)
theorem e_app : dapp i a ρ g = kapp i a ρ ρ[i]? g := by
  unfold dapp
  generalize ρ[i]? = o
  unfold kapp
  split
  · try dsimp only
    cases a ρ g with
    | ok x g1 =>
      rw [Re.bind_ok, Re.bind_ok]
      unfold kapp' kval
      cases vals [x] with
      | none => rfl
      | some es => rcases es with _ | ⟨e1, _ | ⟨e2, es⟩⟩ <;> rfl
    | _ => rfl
  · first
      | rfl
      | (split <;> first | rfl | (exfalso; simp_all; done))
def mpop (i j : Nat) (ρ : Env) (ds : List D) (o : Option D) (g : G) : Re Fl := match o with | some d => .ok (.nx ((ρ.set j (.ow (.lst ds.dropLast))).set i (.fz d))) g | none => .no
@[simp] theorem mpop_eq {ds : List D} : mpop i j ρ ds (some d) g = .ok (.nx ((ρ.set j (.ow (.lst ds.dropLast))).set i (.fz d))) g := (rfl)
def kpop (i j : Nat) (ρ : Env) (o : Option Sl) (g : G) : Re Fl := match o with | some (.ow (.lst ds)) => mpop i j ρ ds ds[ds.length - 1]? g | _ => .no
@[simp] theorem kpop_eq {ds : List D} : kpop i j ρ (some (.ow (.lst ds))) g = mpop i j ρ ds ds[ds.length - 1]? g := (rfl)
theorem e_pop : dpopset i j ρ g = kpop i j ρ ρ[j]? g := by
  unfold dpopset kpop mpop
  rfl
def kasg (γ : DG) (ρ : Env) (x : KD) (g : G) : Re Fl := kval (vals [x]) fun ds => (match ds with | [d] => masg (γ d ρ) g | _ => .no)
@[simp] theorem kasg_fz {γ : DG} : kasg γ ρ (.fz, d) g = masg (γ d ρ) g := (rfl)
@[simp] theorem kasg_fr {γ : DG} : kasg γ ρ (.fr, d) g = masg (γ d ρ) g := (rfl)
theorem e_asg {γ : DG} : dasg γ a ρ g = (a ρ g).bind (kasg γ ρ) := by
  unfold dasg
  cases a ρ g with
  | ok x g1 =>
    rw [Re.bind_ok, Re.bind_ok]
    obtain ⟨k, d⟩ := x
    cases k <;> rfl
  | _ => rfl
theorem e_gname : gname i d ρ = some (ρ.set i (.fz d)) := (rfl)
theorem e_gnil : gnil [] ρ = some ρ := (rfl)
theorem e_gcons {γ : DG} {γs : DGs} {ds : List D} : gcons γ γs (d :: ds) ρ = (γ d ρ).bind (γs ds) := (rfl)
theorem e_gtup {γs : DGs} {ds : List D} (h : ds.length = n) : gtup n γs (.tup ds) ρ = γs ds ρ := if_pos h
def kseqv (s : Bool) (x : KD) (g : G) : Re (List D) := match x.1, s, x.2 with
  | .bw, true, _ => .no
  | _, _, .lst ds => .ok ds g
  | .bw, false, _ => .no
  | _, _, .tup ds => .ok ds g
  | _, _, _ => .no
@[simp] theorem kseqv_l {s : Bool} {ds : List D} : kseqv s (.fz, .lst ds) g = .ok ds g := by cases s <;> rfl
@[simp] theorem kseqv_t {s : Bool} {ds : List D} : kseqv s (.fz, .tup ds) g = .ok ds g := by cases s <;> rfl
@[simp] theorem kseqv_f {s : Bool} {ds : List D} : kseqv s (.fr, .lst ds) g = .ok ds g := by cases s <;> rfl
@[simp] theorem kseqv_b {ds : List D} : kseqv false (.bw, .lst ds) g = .ok ds g := (rfl)
theorem e_seqv {s : Bool} : dseqv s a ρ g = (a ρ g).bind (kseqv s) := (rfl)
def krng1 (xs : List KD) (g : G) : Re (List D) := match xs with | [(_, .int n)] => if -1000000 ≤ n ∧ n ≤ 1000000 then .ok (rng 0 n.toNat) g else .no | _ => .no
theorem krng1_ok {k : Kd} {z : Int} (h : -1000000 ≤ z ∧ z ≤ 1000000) : krng1 [(k, .int z)] g = .ok (rng 0 z.toNat) g := if_pos h
theorem e_rng1 : drng1 as ρ g = (as ρ g).bind krng1 := (rfl)
def krng2 (xs : List KD) (g : G) : Re (List D) := match xs with | [(_, .int i), (_, .int j)] => if -1000000000 ≤ i ∧ i ≤ 1000000000 ∧ -1000000 ≤ j - i ∧ j - i ≤ 1000000 then .ok (rng i (j - i).toNat) g else .no | _ => .no
theorem krng2_ok {k k' : Kd} {z w : Int} (h : -1000000000 ≤ z ∧ z ≤ 1000000000 ∧ -1000000 ≤ w - z ∧ w - z ≤ 1000000) : krng2 [(k, .int z), (k', .int w)] g = .ok (rng z (w - z).toNat) g := if_pos h
theorem e_rng2 : drng2 as ρ g = (as ρ g).bind krng2 := (rfl)
def klc' (out : List D) (g : G) : Re KD := .ok (.fr, .lst out) g
@[simp] theorem klc'_eq {ds : List D} : klc' ds g = .ok (.fr, .lst ds) g := (rfl)
def klc (vs : List Nat) (γ : DG) (t : DT) (e : DE) (ρ : Env) (ds : List D) (g : G) : Re KD := (lcL (lbody γ t e (wipeE ρ vs)) ds g).noex.bind klc'
@[simp] theorem klc_eq {vs : List Nat} {γ : DG} {ds : List D} : klc vs γ t e ρ ds g = (lcL (lbody γ t e (wipeE ρ vs)) ds g).noex.bind klc' := (rfl)
theorem e_lc {it : DI} {vs : List Nat} {γ : DG} : dlc it vs γ t e ρ g = (it ρ g).bind (klc vs γ t e ρ) := (rfl)
/-- each item gives one value, nothing else changes -/
theorem lc_map {f : D → G → Re (List D)} {h : D → D} : ∀ {ds : List D}, (∀ d ∈ ds, f d g = .ok [h d] g) → (lcL f ds g).noex = .ok (ds.map h) g
  | [], _ => rfl
  | d :: ds, H => by
    have ih := lc_map (ds := ds) fun d hd => H d (List.mem_cons_of_mem _ hd)
    unfold lcL
    rw [H d List.mem_cons_self, Re.bind_ok]
    cases e : lcL f ds g with
    | ok ys g1 =>
      rw [e] at ih
      cases ih
      rfl
    | ex n g1 => rw [e] at ih; cases ih
    | no => rw [e] at ih; cases ih
theorem lc_filter {f : D → G → Re (List D)} {p : D → Bool} {h : D → D} : ∀ {ds : List D}, (∀ d ∈ ds, f d g = .ok (if p d = true then [h d] else []) g) → (lcL f ds g).noex = .ok ((ds.filter p).map h) g
  | [], _ => rfl
  | d :: ds, H => by
    have ih := lc_filter (ds := ds) fun d hd => H d (List.mem_cons_of_mem _ hd)
    unfold lcL
    rw [H d List.mem_cons_self, Re.bind_ok]
    cases e : lcL f ds g with
    | ok ys g1 =>
      rw [e] at ih
      cases ih
      by_cases hp : p d = true
      · rw [if_pos hp, List.filter_cons_of_pos hp]; rfl
      · rw [if_neg hp, List.filter_cons_of_neg hp]; rfl
    | ex n g1 => rw [e] at ih; cases ih
    | no => rw [e] at ih; cases ih
theorem lb_yes {γ : DG} (h1 : γ d ρ = some ρ') (h2 : e ρ' g = .ok (.fz, d') g') : lbody γ dyes e ρ d g = .ok [d'] g' := by
  unfold lbody
  rw [h1]
  dsimp only [dyes]
  rw [Re.bind_ok, if_pos rfl, h2]
  rfl
theorem lb_if {γ : DG} {b : Bool} {g2 : G} (h1 : γ d ρ = some ρ') (ht : t ρ' g = .ok b g') (h2 : b = true → e ρ' g' = .ok (.fz, d') g2) : lbody γ t e ρ d g = if b = true then .ok [d'] g2 else .ok [] g' := by
  unfold lbody
  rw [h1]
  dsimp only
  rw [ht, Re.bind_ok]
  cases b with
  | true => rw [if_pos rfl, if_pos rfl, h2 rfl]; rfl
  | false => rfl
end
end Dn

set_option Elab.async false
set_option linter.all false
set_option maxRecDepth 100000
/-! E14: operations on data, told simply. -/
namespace Dn
open PySem L2
@[simp] theorem sh_int {n : Nat} {i : Int} : sh n (.int i) = true := by cases n <;> rfl
@[simp] theorem sh_str {n : Nat} {i : Str} : sh n (.str i) = true := by cases n <;> rfl
@[simp] theorem sh_bl {n : Nat} {i : Bool} : sh n (.bl i) = true := by cases n <;> rfl
@[simp] theorem sh_non {n : Nat} : sh n .non = true := by cases n <;> rfl
@[simp] theorem sh_tup {n : Nat} {xs : List D} : sh (n + 1) (.tup xs) = xs.all (sh n) := rfl
@[simp] theorem sh_lst {n : Nat} {xs : List D} : sh (n + 1) (.lst xs) = xs.all (sh n) := rfl
theorem sh_mono : ∀ (n : Nat) (d : D), sh n d = true → sh (n + 1) d = true
  | _, .int _, _ => by simp
  | _, .str _, _ => by simp
  | _, .bl _, _ => by simp
  | _, .non, _ => by simp
  | 0, .tup _, h => by simp [sh] at h
  | 0, .lst _, h => by simp [sh] at h
  | n + 1, .tup xs, h => by
    rw [sh_tup] at h ⊢
    exact List.all_eq_true.mpr fun x hx => sh_mono n x (List.all_eq_true.mp h x hx)
  | n + 1, .lst xs, h => by
    rw [sh_lst] at h ⊢
    exact List.all_eq_true.mpr fun x hx => sh_mono n x (List.all_eq_true.mp h x hx)
  | n, .dic _ _, h => by cases n <;> simp [sh] at h
  | n, .box, h => by cases n <;> simp [sh] at h
theorem sh_le {n m : Nat} (h : n ≤ m) {d : D} (s : sh n d = true) : sh m d = true := by
  induction h with
  | refl => exact s
  | step _ ih => exact sh_mono _ _ ih
def eqds : List D → List D → Bool
  | [], [] => true
  | x :: xs, y :: ys => eqd x y && eqds xs ys
  | _, _ => false
theorem eqvAll_eq : ∀ xs ys : List D, PyData.eqvAll (toPs xs) (toPs ys) = eqds xs ys
  | [], [] => rfl
  | [], _ :: _ => rfl
  | _ :: _, [] => rfl
  | x :: xs, y :: ys => by
    show (PyData.eqv (toP x) (toP y) && PyData.eqvAll (toPs xs) (toPs ys)) = _
    rw [eqvAll_eq xs ys]
    rfl
@[simp] theorem eqd_int {i j : Int} : eqd (.int i) (.int j) = decide (i = j) := rfl
@[simp] theorem eqd_str {i j : Str} : eqd (.str i) (.str j) = (i == j) := rfl
@[simp] theorem eqd_bl {i j : Bool} : eqd (.bl i) (.bl j) = (i == j) := rfl
@[simp] theorem eqd_tup {xs ys : List D} : eqd (.tup xs) (.tup ys) = eqds xs ys := eqvAll_eq xs ys
@[simp] theorem eqd_lst {xs ys : List D} : eqd (.lst xs) (.lst ys) = eqds xs ys := eqvAll_eq xs ys
@[simp] theorem eqds_nil : eqds [] [] = true := rfl
@[simp] theorem eqds_cons {x y : D} {xs ys : List D} : eqds (x :: xs) (y :: ys) = (eqd x y && eqds xs ys) := rfl
@[simp] theorem eqds_nc {x : D} {xs : List D} : eqds [] (x :: xs) = false := rfl
@[simp] theorem eqds_cn {x : D} {xs : List D} : eqds (x :: xs) [] = false := rfl
/-- data without truth values, dicts, boxes: what is equal is the same -/
def nb : Nat → D → Bool
  | _, .non | _, .int _ | _, .str _ => true
  | n + 1, .tup xs | n + 1, .lst xs => xs.all (nb n)
  | _, _ => false
theorem eqd_refl : ∀ (n : Nat) (d : D), sh n d = true → eqd d d = true
  | _, .int _, _ => by simp
  | _, .str _, _ => by simp
  | _, .bl _, _ => by simp
  | _, .non, _ => rfl
  | 0, .tup _, h => by simp [sh] at h
  | 0, .lst _, h => by simp [sh] at h
  | n + 1, .tup xs, h => by
    rw [sh_tup] at h
    rw [eqd_tup]
    induction xs with
    | nil => rfl
    | cons x xs ih =>
      rw [List.all_cons, Bool.and_eq_true] at h
      rw [eqds_cons, eqd_refl n x h.1, ih h.2, Bool.and_self]
  | n + 1, .lst xs, h => by
    rw [sh_lst] at h
    rw [eqd_lst]
    induction xs with
    | nil => rfl
    | cons x xs ih =>
      rw [List.all_cons, Bool.and_eq_true] at h
      rw [eqds_cons, eqd_refl n x h.1, ih h.2, Bool.and_self]
  | n, .dic _ _, h => by cases n <;> simp [sh] at h
  | n, .box, h => by cases n <;> simp [sh] at h
theorem eqds_refl {n : Nat} {xs : List D} (h : xs.all (sh n) = true) : eqds xs xs = true := by
  have := eqd_refl (n + 1) (.tup xs) (by rw [sh_tup]; exact h)
  rwa [eqd_tup] at this
theorem eqds_len : ∀ {xs ys : List D}, eqds xs ys = true → xs.length = ys.length
  | [], [], _ => rfl
  | x :: xs, y :: ys, h => by
    rw [eqds_cons, Bool.and_eq_true] at h
    simp [eqds_len h.2]
  | [], _ :: _, h => by cases h
  | _ :: _, [], h => by cases h
theorem eqds_false {xs ys : List D} (h : xs.length ≠ ys.length) : eqds xs ys = false := by
  cases e : eqds xs ys with
  | false => rfl
  | true => exact absurd (eqds_len e) h
theorem eqds_app {xs ys zs ws : List D} (h : xs.length = ys.length) : eqds (xs ++ zs) (ys ++ ws) = (eqds xs ys && eqds zs ws) := by
  induction xs generalizing ys with
  | nil => cases ys with
    | nil => simp
    | cons y ys => cases h
  | cons x xs ih => cases ys with
    | nil => cases h
    | cons y ys => simp only [List.cons_append, eqds_cons, ih (by simpa using h), Bool.and_assoc]
theorem nb_sh : ∀ (n : Nat) (d : D), nb n d = true → sh n d = true
  | _, .int _, _ => by simp
  | _, .str _, _ => by simp
  | n, .bl _, h => by cases n <;> simp [nb] at h
  | _, .non, _ => by simp
  | 0, .tup _, h => by simp [nb] at h
  | 0, .lst _, h => by simp [nb] at h
  | n + 1, .tup xs, h => by
    rw [sh_tup]
    exact List.all_eq_true.mpr fun x hx => nb_sh n x (List.all_eq_true.mp (show xs.all (nb n) = true from h) x hx)
  | n + 1, .lst xs, h => by
    rw [sh_lst]
    exact List.all_eq_true.mpr fun x hx => nb_sh n x (List.all_eq_true.mp (show xs.all (nb n) = true from h) x hx)
  | n, .dic _ _, h => by cases n <;> simp [nb] at h
  | n, .box, h => by cases n <;> simp [nb] at h
/-- no bools on the left: equal data are the same -/
theorem eqd_eq : ∀ (n : Nat) (d e : D), nb n d = true → nb n e = true → eqd d e = true → d = e
  | _, .int i, .int j, _, _, h => by
    have : i = j := by simpa using h
    rw [this]
  | _, .str i, .str j, _, _, h => by
    have : i = j := by simpa using h
    rw [this]
  | _, .non, .non, _, _, _ => rfl
  | n + 1, .tup xs, .tup ys, h1, h2, h => by
    have h1' : xs.all (nb n) = true := h1
    have h2' : ys.all (nb n) = true := h2
    rw [eqd_tup] at h
    congr 1
    clear h1 h2
    induction xs generalizing ys with
    | nil => cases ys with
      | nil => rfl
      | cons y ys => cases h
    | cons x xs ih => cases ys with
      | nil => cases h
      | cons y ys =>
        rw [eqds_cons, Bool.and_eq_true] at h
        rw [List.all_cons, Bool.and_eq_true] at h1' h2'
        rw [eqd_eq n x y h1'.1 h2'.1 h.1, ih ys h.2 h1'.2 h2'.2]
  | n + 1, .lst xs, .lst ys, h1, h2, h => by
    have h1' : xs.all (nb n) = true := h1
    have h2' : ys.all (nb n) = true := h2
    rw [eqd_lst] at h
    congr 1
    clear h1 h2
    induction xs generalizing ys with
    | nil => cases ys with
      | nil => rfl
      | cons y ys => cases h
    | cons x xs ih => cases ys with
      | nil => cases h
      | cons y ys =>
        rw [eqds_cons, Bool.and_eq_true] at h
        rw [List.all_cons, Bool.and_eq_true] at h1' h2'
        rw [eqd_eq n x y h1'.1 h2'.1 h.1, ih ys h.2 h1'.2 h2'.2]
  | _, .int _, .str _, _, _, h => by cases h
  | _, .int _, .non, _, _, h => by cases h
  | _, .int _, .tup _, _, _, h => by cases h
  | _, .int _, .lst _, _, _, h => by cases h
  | n, .int _, .bl _, _, h, _ => by cases n <;> simp [nb] at h
  | _, .str _, .int _, _, _, h => by cases h
  | _, .str _, .non, _, _, h => by cases h
  | _, .str _, .tup _, _, _, h => by cases h
  | _, .str _, .lst _, _, _, h => by cases h
  | n, .str _, .bl _, _, h, _ => by cases n <;> simp [nb] at h
  | _, .non, .int _, _, _, h => by cases h
  | _, .non, .str _, _, _, h => by cases h
  | _, .non, .tup _, _, _, h => by cases h
  | _, .non, .lst _, _, _, h => by cases h
  | n, .non, .bl _, _, h, _ => by cases n <;> simp [nb] at h
  | _, .tup _, .int _, _, _, h => by cases h
  | _, .tup _, .str _, _, _, h => by cases h
  | _, .tup _, .non, _, _, h => by cases h
  | _, .tup _, .lst _, _, _, h => by cases h
  | n, .tup _, .bl _, _, h, _ => by cases n <;> simp [nb] at h
  | 0, .tup _, .tup _, h, _, _ => by simp [nb] at h
  | _, .lst _, .int _, _, _, h => by cases h
  | _, .lst _, .str _, _, _, h => by cases h
  | _, .lst _, .non, _, _, h => by cases h
  | _, .lst _, .tup _, _, _, h => by cases h
  | n, .lst _, .bl _, _, h, _ => by cases n <;> simp [nb] at h
  | 0, .lst _, .lst _, h, _, _ => by simp [nb] at h
  | n, .bl _, _, h, _, _ => by cases n <;> simp [nb] at h
  | n, .dic _ _, _, h, _, _ => by cases n <;> simp [nb] at h
  | n, .box, _, h, _, _ => by cases n <;> simp [nb] at h
  | n, .int _, .dic _ _, _, h, _ => by cases n <;> simp [nb] at h
  | n, .int _, .box, _, h, _ => by cases n <;> simp [nb] at h
  | n, .str _, .dic _ _, _, h, _ => by cases n <;> simp [nb] at h
  | n, .str _, .box, _, h, _ => by cases n <;> simp [nb] at h
  | n, .non, .dic _ _, _, h, _ => by cases n <;> simp [nb] at h
  | n, .non, .box, _, h, _ => by cases n <;> simp [nb] at h
  | n, .tup _, .dic _ _, _, h, _ => by cases n <;> simp [nb] at h
  | n, .tup _, .box, _, h, _ => by cases n <;> simp [nb] at h
  | n, .lst _, .dic _ _, _, h, _ => by cases n <;> simp [nb] at h
  | n, .lst _, .box, _, h, _ => by cases n <;> simp [nb] at h
theorem oeq_eq {a b : D} (ha : sh 60 a = true) (hb : sh 60 b = true) : oeq a b = some (.fz, .bl (eqd a b)) := if_pos ⟨ha, hb⟩
theorem one_eq {a b : D} (ha : sh 60 a = true) (hb : sh 60 b = true) : one a b = some (.fz, .bl (!eqd a b)) := if_pos ⟨ha, hb⟩
@[simp] theorem oeq_ii {i j : Int} : oeq (.int i) (.int j) = some (.fz, .bl (decide (i = j))) := oeq_eq sh_int sh_int
@[simp] theorem oeq_ss {i j : Str} : oeq (.str i) (.str j) = some (.fz, .bl (i == j)) := oeq_eq sh_str sh_str
@[simp] theorem one_ii {i j : Int} : one (.int i) (.int j) = some (.fz, .bl (!decide (i = j))) := one_eq sh_int sh_int
/-! tuples of whole numbers -/
def L (ls : List Int) : D := .tup (ls.map .int)
@[simp] theorem sh_L {n : Nat} {ls : List Int} : sh (n + 1) (L ls) = true := by
  unfold L
  rw [sh_tup]
  simp
theorem sIx_n {n k : Nat} {d : Nat} : HT.sIx n d (some (k : Int)) = min k n := by
  show (if (k : Int) < 0 then ((k : Int) + (n : Int)).toNat else min (k : Int).toNat n) = _
  rw [if_neg (by omega), Int.toNat_natCast]
theorem cutD_to {α : Type} {xs : List α} {k : Nat} : cutD xs none (some (k : Int)) = xs.take k := by
  unfold cutD
  rw [sIx_n]
  show (xs.drop 0).take (min k xs.length - 0) = _
  rw [List.drop_zero, Nat.sub_zero]
  rcases Nat.le_total k xs.length with h | h
  · rw [Nat.min_eq_left h]
  · rw [Nat.min_eq_right h, List.take_length, List.take_of_length_le h]
theorem cutD_from {α : Type} {xs : List α} {k : Nat} : cutD xs (some (k : Int)) none = xs.drop k := by
  unfold cutD
  rw [sIx_n]
  show (xs.drop (min k xs.length)).take (xs.length - min k xs.length) = _
  rcases Nat.le_total k xs.length with h | h
  · rw [Nat.min_eq_left h, List.take_of_length_le (by simp)]
  · rw [Nat.min_eq_right h, List.drop_length, List.drop_eq_nil_of_le h, List.take_nil]
theorem cutD_two {α : Type} {xs : List α} {k m : Nat} : cutD xs (some (k : Int)) (some (m : Int)) = (xs.drop k).take (m - k) := by
  unfold cutD
  rw [sIx_n, sIx_n]
  rcases Nat.le_total k xs.length with h | h
  · rw [Nat.min_eq_left h]
    rcases Nat.le_total m xs.length with h2 | h2
    · rw [Nat.min_eq_left h2]
    · rw [Nat.min_eq_right h2, List.take_of_length_le (by simp), List.take_of_length_le (by simp; omega)]
  · rw [Nat.min_eq_right h, List.drop_length, List.drop_eq_nil_of_le h, List.take_nil, List.take_nil]
theorem osl_to {ls : List Int} {k : Nat} : osl (L ls) none (some (k : Int)) = some (.fz, L (ls.take k)) := by
  unfold osl L
  dsimp only
  rw [cutD_to, List.map_take]
theorem osl_from {ls : List Int} {k : Nat} : osl (L ls) (some (k : Int)) none = some (.fz, L (ls.drop k)) := by
  unfold osl L
  dsimp only
  rw [cutD_from, List.map_drop]
theorem osl_two {ls : List Int} {k m : Nat} : osl (L ls) (some (k : Int)) (some (m : Int)) = some (.fz, L ((ls.drop k).take (m - k))) := by
  unfold osl L
  dsimp only
  rw [cutD_two, List.map_take, List.map_drop]
theorem olen_L {ls : List Int} : olen [L ls] = some (.fz, .int ls.length) := by
  unfold olen L isq okI
  dsimp only
  rw [List.length_map]
theorem atI_n {α : Type} {xs : List α} {k : Nat} (h : k < xs.length) : atI xs (k : Int) = some xs[k] := by
  unfold atI ixN
  rw [if_pos (by omega), if_pos (by omega), Option.bind_some, Int.toNat_natCast, List.getElem?_eq_getElem h]
theorem oix_L {ls : List Int} {k : Nat} (h : k < ls.length) : oix (L ls) (.int (k : Int)) = some (.fz, .int ls[k]) := by
  unfold oix L isq
  dsimp only
  rw [atI_n (by simpa using h)]
  simp
theorem oadd_L {a b : List Int} (h : a.length + b.length ≤ 1000000) : oadd (L a) (L b) = some (.fz, L (a ++ b)) := by
  unfold oadd L
  dsimp only
  rw [if_pos (by simpa using h), List.map_append]
end Dn
namespace Dn
open PySem L2
theorem omul_r {i j : Int} (h : -(2 ^ 64) < j ∧ j < 2 ^ 64) : omul (.int i) (.int j) = some (.fz, .int (i * j)) := if_pos (Or.inr h)
theorem omul_l {i j : Int} (h : -(2 ^ 64) < i ∧ i < 2 ^ 64) : omul (.int i) (.int j) = some (.fz, .int (i * j)) := if_pos (Or.inl h)
theorem k2p : (-(2 : Int) ^ 64 < 2 ∧ (2 : Int) < 2 ^ 64) := by decide
theorem k69 : (-(2 : Int) ^ 64 < 69621 ∧ (69621 : Int) < 2 ^ 64) := by decide
end Dn
namespace Dn
open PySem L2
variable {i j : Int} {xs ys : List D} {p q : Bool} {s : Str} {d : D}
theorem osub_ii : osub (.int i) (.int j) = some (.fz, .int (i - j)) := (rfl)
theorem oadd_ii : oadd (.int i) (.int j) = some (.fz, .int (i + j)) := (rfl)
theorem olt_ii : olt (.int i) (.int j) = some (.fz, .bl (decide (i < j))) := (rfl)
theorem ole_ii : ole (.int i) (.int j) = some (.fz, .bl (decide (i ≤ j))) := (rfl)
theorem ogt_ii : ogt (.int i) (.int j) = some (.fz, .bl (decide (j < i))) := (rfl)
theorem oge_ii : oge (.int i) (.int j) = some (.fz, .bl (decide (j ≤ i))) := (rfl)
theorem oneg_i : oneg (.int i) = some (.fz, .int (-i)) := (rfl)
theorem olen_t : olen [.tup xs] = some (.fz, .int xs.length) := (rfl)
theorem olen_l : olen [.lst xs] = some (.fz, .int xs.length) := (rfl)
theorem otuple_t : otuple [.tup xs] = some (.fz, .tup xs) := (rfl)
theorem otuple_l : otuple [.lst xs] = some (.fz, .tup xs) := (rfl)
theorem olist_t : olist [.tup xs] = some (.fr, .lst xs) := (rfl)
theorem olist_l : olist [.lst xs] = some (.fr, .lst xs) := (rfl)
theorem oint_i : oint [.int i] = some (.fz, .int i) := (rfl)
theorem oabs_i : oabs [.int i] = some (.fz, .int (if i < 0 then -i else i)) := (rfl)
theorem is_nn : ois2 .non .non = some (.fz, .bl true) := (rfl)
theorem is_in : ois2 (.int i) .non = some (.fz, .bl false) := (rfl)
theorem is_sn : ois2 (.str s) .non = some (.fz, .bl false) := (rfl)
theorem is_tn : ois2 (.tup xs) .non = some (.fz, .bl false) := (rfl)
theorem is_ln : ois2 (.lst xs) .non = some (.fz, .bl false) := (rfl)
theorem is_bn : ois2 (.bl p) .non = some (.fz, .bl false) := (rfl)
theorem is_nb : ois2 .non (.bl q) = some (.fz, .bl false) := (rfl)
theorem is_ib : ois2 (.int i) (.bl q) = some (.fz, .bl false) := (rfl)
theorem is_sb : ois2 (.str s) (.bl q) = some (.fz, .bl false) := (rfl)
theorem is_tb : ois2 (.tup xs) (.bl q) = some (.fz, .bl false) := (rfl)
theorem is_lb : ois2 (.lst xs) (.bl q) = some (.fz, .bl false) := (rfl)
theorem is_bb : ois2 (.bl p) (.bl q) = some (.fz, .bl (p == q)) := (rfl)
theorem isnt_n : oisnt .non .non = some (.fz, .bl false) := (rfl)
theorem isnt_t : oisnt (.tup xs) .non = some (.fz, .bl true) := (rfl)
theorem isnt_i : oisnt (.int i) .non = some (.fz, .bl true) := (rfl)
theorem isnt_l : oisnt (.lst xs) .non = some (.fz, .bl true) := (rfl)
theorem ty_n : tyN .non = some "NoneType" := (rfl)
theorem ty_b : tyN (.bl p) = some "bool" := (rfl)
theorem ty_i : tyN (.int i) = some "int" := (rfl)
theorem ty_s : tyN (.str s) = some "str" := (rfl)
theorem ty_t : tyN (.tup xs) = some "tuple" := (rfl)
theorem ty_l : tyN (.lst xs) = some "list" := (rfl)
theorem ofdiv_ii (h : 0 < j ∧ j < 1073741824) : ofdiv (.int i) (.int j) = some (.fz, .int (i / j)) := if_pos h
theorem omod_ii (h : 0 < j) : omod (.int i) (.int j) = some (.fz, .int (i % j)) := if_pos h
theorem oshl_ii (h : 0 ≤ j ∧ j ≤ 1000000 ∧ i.natAbs < 2 ^ 64) : oshl (.int i) (.int j) = some (.fz, .int (i * 2 ^ j.toNat)) := if_pos h
theorem oshr_ii (h : 0 ≤ j) : oshr (.int i) (.int j) = some (.fz, .int (i / 2 ^ j.toNat)) := if_pos h
theorem oix_t0 {a : D} : oix (.tup (a :: xs)) (.int 0) = some (.fz, a) := by
  show (atI (a :: xs) ((0 : Nat) : Int)).map _ = _
  rw [atI_n (by simp)]; rfl
theorem oix_t1 {a b : D} : oix (.tup (a :: b :: xs)) (.int 1) = some (.fz, b) := by
  show (atI (a :: b :: xs) ((1 : Nat) : Int)).map _ = _
  rw [atI_n (by simp)]; rfl
theorem oix_t2 {a b e : D} : oix (.tup (a :: b :: e :: xs)) (.int 2) = some (.fz, e) := by
  show (atI (a :: b :: e :: xs) ((2 : Nat) : Int)).map _ = _
  rw [atI_n (by simp)]; rfl
theorem pop_at {xs : List D} {d : D} : (xs ++ [d])[(xs ++ [d]).length - 1]? = some d := by simp
theorem pop_rest {xs : List D} {d : D} : (xs ++ [d]).dropLast = xs := by simp
theorem sub_ii : subN "int" "int" = true := (rfl)
theorem sub_ib : subN "int" "bool" = false := (rfl)
theorem sub_bi : subN "bool" "int" = true := (rfl)
theorem sub_is : subN "int" "str" = false := (rfl)
theorem sub_it : subN "int" "tuple" = false := (rfl)
theorem sub_il : subN "int" "list" = false := (rfl)
theorem sub_si : subN "str" "int" = false := (rfl)
theorem sub_ss : subN "str" "str" = true := (rfl)
theorem sub_st : subN "str" "tuple" = false := (rfl)
theorem sub_sl : subN "str" "list" = false := (rfl)
theorem sub_sb : subN "str" "bool" = false := (rfl)
theorem sub_ti : subN "tuple" "int" = false := (rfl)
theorem sub_ts : subN "tuple" "str" = false := (rfl)
theorem sub_tt : subN "tuple" "tuple" = true := (rfl)
theorem sub_tl : subN "tuple" "list" = false := (rfl)
theorem sub_tb : subN "tuple" "bool" = false := (rfl)
theorem sub_li : subN "list" "int" = false := (rfl)
theorem sub_ls : subN "list" "str" = false := (rfl)
theorem sub_lt : subN "list" "tuple" = false := (rfl)
theorem sub_ll : subN "list" "list" = true := (rfl)
theorem sub_ni : subN "NoneType" "int" = false := (rfl)
theorem sub_nt : subN "NoneType" "tuple" = false := (rfl)
end Dn
namespace Dn
open PySem L2
theorem seq_nx {s s' : DS} {ρ ρ' : Env} {g g' : G} {r : Re Fl} (h : s ρ g = .ok (.nx ρ') g') (k : s' ρ' g' = r) : dseq s s' ρ g = r := by
  rw [e_seq, h, Re.bind_ok, kseq_nx]
  exact k
theorem fz_fz {s : DS} {ρ : Env} {g : G} {r : Re Fl} {i : Nat} {d : D} (h : ρ[i]? = some (.fz d)) (k : s ρ g = r) : dfreeze i s ρ g = r := by
  rw [e_freeze, h, kfreeze_fz]
  exact k
theorem fz_ow {s : DS} {ρ : Env} {g : G} {r : Re Fl} {i : Nat} {d : D} (h : ρ[i]? = some (.ow d)) (k : s (ρ.set i (.fz d)) g = r) : dfreeze i s ρ g = r := by
  rw [e_freeze, h, kfreeze_ow]
  exact k
theorem noex_ok {α : Type} {a : α} {g : G} : (Re.ok a g).noex = .ok a g := (rfl)
theorem wipeE_nil {ρ : Env} : wipeE ρ [] = ρ := (rfl)
theorem wipeE_cons {ρ : Env} {v : Nat} {vs : List Nat} : wipeE ρ (v :: vs) = (wipeE ρ vs).set v .un := (rfl)
theorem rng_len {lo : Int} {n : Nat} : (rng lo n).length = n := by unfold rng; simp
end Dn
namespace Dn
open PySem L2
variable {ρ ρ' : Env} {g g' : G} {a b c d e f h k l m : D} {i : Nat}
theorem seq_P {P : Re Fl → Prop} {s s' : DS} (h : s ρ g = .ok (.nx ρ') g') (k : P (s' ρ' g')) : P (dseq s s' ρ g) := by rw [e_seq, h, Re.bind_ok, kseq_nx]; exact k
theorem fz_P {P : Re Fl → Prop} {s : DS} (h : ρ[i]? = some (.fz d)) (k : P (s ρ g)) : P (dfreeze i s ρ g) := by rw [e_freeze, h, kfreeze_fz]; exact k
theorem ow_P {P : Re Fl → Prop} {s : DS} (h : ρ[i]? = some (.ow d)) (k : P (s (ρ.set i (.fz d)) g)) : P (dfreeze i s ρ g) := by rw [e_freeze, h, kfreeze_ow]; exact k
theorem mapp0 : mapp i ρ [] g [d] = .ok (.nx (ρ.set i (.ow (.lst [d])))) g := (rfl)
theorem mapp1 : mapp i ρ [a] g [d] = .ok (.nx (ρ.set i (.ow (.lst [a, d])))) g := (rfl)
theorem mapp2 : mapp i ρ [a, b] g [d] = .ok (.nx (ρ.set i (.ow (.lst [a, b, d])))) g := (rfl)
theorem mapp3 : mapp i ρ [a, b, c] g [d] = .ok (.nx (ρ.set i (.ow (.lst [a, b, c, d])))) g := (rfl)
theorem mapp4 : mapp i ρ [a, b, c, e] g [d] = .ok (.nx (ρ.set i (.ow (.lst [a, b, c, e, d])))) g := (rfl)
theorem mapp5 : mapp i ρ [a, b, c, e, f] g [d] = .ok (.nx (ρ.set i (.ow (.lst [a, b, c, e, f, d])))) g := (rfl)
theorem mapp6 : mapp i ρ [a, b, c, e, f, h] g [d] = .ok (.nx (ρ.set i (.ow (.lst [a, b, c, e, f, h, d])))) g := (rfl)
theorem mapp7 : mapp i ρ [a, b, c, e, f, h, k] g [d] = .ok (.nx (ρ.set i (.ow (.lst [a, b, c, e, f, h, k, d])))) g := (rfl)
theorem mapp8 : mapp i ρ [a, b, c, e, f, h, k, l] g [d] = .ok (.nx (ρ.set i (.ow (.lst [a, b, c, e, f, h, k, l, d])))) g := (rfl)
theorem one_refl (h : sh 60 d = true) : one d d = some (.fz, .bl false) := by rw [one_eq h h, eqd_refl 60 d h]; rfl
theorem orev_t {xs : List D} : orev (.tup xs) = some (.fz, .tup xs.reverse) := (rfl)
theorem orev_l {xs : List D} : orev (.lst xs) = some (.fr, .lst xs.reverse) := (rfl)
theorem osl_from1 {xs : List D} : osl (.tup xs) (some 1) none = some (.fz, .tup (xs.drop 1)) := by
  unfold osl
  dsimp only
  rw [show (1 : Int) = ((1 : Nat) : Int) from rfl, cutD_from]
end Dn
namespace Dn
open PySem L2
theorem ow_P' {P : Re Fl → Prop} {s : DS} {ρ ρ' : Env} {g : G} {i : Nat} {d : D} (h : ρ[i]? = some (.ow d)) (e : ρ.set i (.fz d) = ρ') (k : P (s ρ' g)) : P (dfreeze i s ρ g) := ow_P h (by rw [e]; exact k)
end Dn
namespace Dn
open PySem L2
theorem dbox_ok {i : Nat} {δ : DS} {ρ : Env} {g g' : G} {ds : List D} {ns : List Int} {b : Bool} (h : ρ[i]? = some (.ow (.lst ds))) (hi : intsD ds = some ns) (k : δ (ρ.set i (.fz .box)) ns = .ok (.rt .fz (.bl b)) g') : dbox i δ ρ g = .ok (.rt .fz (.bl b)) g' := by
  unfold dbox
  rw [h]
  dsimp only
  rw [hi]
  dsimp only
  rw [k]
end Dn

set_option Elab.async false
set_option linter.all false
set_option maxRecDepth 100000
set_option maxHeartbeats 4000000
/-! E15: sorted(set(xs)), len(set(xs)) of whole numbers. -/
namespace Dn
open PySem PySem.Spec PyProof.Rows L2
section
variable {P : Program} {w : World} {A : Around} {E : Value → Shared → Prop} {s : Shared}
theorem set_of_list {l : Addr} {items : Array Value} (ns : List Int) {Q : Value → Shared → Prop} (hh : A.handled = none) (hl : s.heap.IsList l items) (hit : IntsAre items.toList ns) (hb : ns.length + 1 < scanBound)
    (h : ∀ (h' : Heap) (tk c : Nat), SetR w h' s.heap.objs.size (fun j => decide (j ∈ ns)) c → c ≤ ns.length → (∀ b o, s.heap.get? b = some o → h'.get? b = some o) → Q (.ref s.heap.objs.size) { s with heap := h', toks := tk }) :
    wpAny (model P w) A (call (.type "set") [.ref l]) Q E s := by
  have hisz : items.size = ns.length := by
    have q := IntsAre.length hit
    rw [Array.length_toList] at q
    exact q
  obtain ⟨c, tl, hmro⟩ := F.called_set.mro
  have hmade := F.called_set.made
  have hsub := F.called_set.sub
  refine wpAny_call (codeAny_of_tree ?_)
  show wpAny _ _ (callAny (.type "set") _) _ _ _
  refine wpAny_pure ⟨Code.quiet_builtin _ (by decide +kernel), codeAny_builtin F.entry_type_call ?_⟩
  rw [Around.under_plain (weight_type_call_type "set" [.ref l] []) rfl]
  have h1 := F.called_set.notType
  have h2 := F.called_set.canCreate
  have hct := F.typeCall_set_1 (.ref l)
  repeat (any_goals (first | assumption | wp_step))

  refine codeAny_mono (code_set_led1 (.ref l) (E := E) (Q₁ := fun obj s₁ => obj = .ref s.heap.objs.size ∧ s₁ = { s with heap := s.heap.push { cls := .type "set", dict := none, data := .set #[] 0 (.fresh 0 0 (!w.params.followText "set-order")) } }) ⟨rfl, rfl⟩) fun r s₁ hr => ?_
  cases r with
  | error e => exact hr
  | ok fl =>
    cases fl with
    | ret obj =>
      obtain ⟨rfl, rfl⟩ := hr
      have hS : (s.heap.push { cls := .type "set", dict := none, data := .set #[] 0 (.fresh 0 0 (!w.params.followText "set-order")) }).get? s.heap.objs.size = some { cls := .type "set", dict := none, data := .set #[] 0 (.fresh 0 0 (!w.params.followText "set-order")) } := Heap.get?_push_size _ rfl
      have hT : Shared.TypeIs { s with heap := s.heap.push { cls := .type "set", dict := none, data := .set #[] 0 (.fresh 0 0 (!w.params.followText "set-order")) } } (.ref s.heap.objs.size) "set" := ⟨_, hS, rfl⟩
      have hli := F.called_set.init.lookup
      have hbi := F.called_set.init.bind (.ref s.heap.objs.size)
      repeat (any_goals (first | assumption | wp_step))

      refine codeAny_mono (codeAny_call_builtin (R := wants (fun r s₂ => r = .none ∧ ∃ h' tk c, s₂ = { s with heap := h', toks := tk } ∧ SetR w h' s.heap.objs.size (fun j => decide (j ∈ ns)) c ∧ c ≤ ns.length ∧
          (∀ b o, s.heap.get? b = some o → h'.get? b = some o)) E) F.called_set.init.plain F.entry_set_init (check_set_init_1 hT ?_)) fun r₂ s₂ hr₂ => ?_
      · obtain ⟨ol, hol, hcl, nl, hdl⟩ := hl
        obtain ⟨ocls, odict, odata, oslots⟩ := ol
        simp only at hcl hdl
        subst hcl; subst hdl
        have hol' : (s.heap.push { cls := .type "set", dict := none, data := .set #[] 0 (.fresh 0 0 (!w.params.followText "set-order")) }).get? l = some { cls := .type "list", dict := odict, data := .seq items nl, slots := oslots } := Heap.get?_push_of_some _ hol
        have hsls := F.sub_list_set
        have hslf := F.sub_list_frozenset
        have hne : (Value.type "list" == Value.type "dict") = false := by decide
        have hl1 : (s.heap.push { cls := .type "set", dict := none, data := .set #[] 0 (.fresh 0 0 (!w.params.followText "set-order")) }).IsList l items := ⟨_, hol', rfl, nl, rfl⟩
        unfold Builtin.«set.__init__» noKeywords Builtin.Frozenset.updateFrom
        generalize hPI : pyIter = PI
        wp_walk
        subst hPI

        refine wpAny_pyIter_list hl1 ?_
        refine wpAny_bind (wpAny_runValue ?_)
        have hlS : l < s.heap.objs.size := Heap.lt_size hol
        have hh3 : A.in1.in1.in1.handled = none := by simp [hh]
        have hz1 : (s.heap.push { cls := .type "set", dict := none, data := .set #[] 0 (.fresh 0 0 (!w.params.followText "set-order")) }).objs.size = s.heap.objs.size + 1 := Heap.size_push ..
        have hneI : l ≠ (s.heap.push { cls := .type "set", dict := none, data := .set #[] 0 (.fresh 0 0 (!w.params.followText "set-order")) }).objs.size := by
          rw [Heap.size_push]; exact Nat.ne_of_lt (Nat.lt_succ_of_lt hlS)
        have hSf : s.heap.objs.size ∉ [(s.heap.push { cls := .type "set", dict := none, data := .set #[] 0 (.fresh 0 0 (!w.params.followText "set-order")) }).objs.size, l] := by
          rw [Heap.size_push]; simp only [List.mem_cons, List.mem_singleton, List.not_mem_nil, or_false, not_or]
          exact ⟨Nat.ne_of_lt (Nat.lt_succ_self _), Nat.ne_of_gt hlS⟩
        have hval : ∀ (i : Nat) (v : Value), items[i]? = some v → ∃ k t, ns[i]? = some k ∧ v = .int k t := fun i v hv => by
          have hi : i < ns.length := by rw [← hisz]; exact (Array.getElem?_eq_some_iff.mp hv).1
          obtain ⟨t, e⟩ := PyProof.Rows.IntsAre.int_at hit i v (by rw [Array.getElem?_toList]; exact hv)
          refine ⟨ns[i], t, List.getElem?_eq_getElem hi, ?_⟩
          rw [e, List.getD_eq_getElem?_getD, List.getElem?_eq_getElem hi] <;> rfl
        refine set_update_ints ((Walks.list hh3 _ l hneI items).toS) s.heap.objs.size
          hSf ns hisz hb hval (items.size - 0) 0 _ (by omega) (Nat.zero_le _)
          ⟨⟨_, Heap.get?_push_size _ rfl, rfl, rfl⟩, (hl1.push _)⟩ ?hS0 ?hR
        case hS0 =>
          have hget : ((s.heap.push { cls := .type "set", dict := none, data := .set #[] 0 (.fresh 0 0 (!w.params.followText "set-order")) }).push { cls := .type "list_iterator", data := .fields #[.ref l, .int 0 0] }).get? s.heap.objs.size
              = some { cls := .type "set", dict := none, data := .set #[] 0 (.fresh 0 0 (!w.params.followText "set-order")) } := Heap.get?_push_of_some _ hS
          exact ⟨0, Nat.le_refl 0, setR_new_at hget⟩
        case hR =>
          intro s' c' hm hc' hS'
          obtain ⟨h', g2, d', tk', os'⟩ := s'
          have eg : g2 = s.gens := hm.gens
          have ed : d' = s.drawn := hm.drawn
          have eo : os' = s.os := hm.os
          subst eg; subst ed; subst eo
          show wpAny _ _ _ _ _ _
          refine wpAny_pure ?_
          show wpAny _ _ (ret Value.none) _ _ _
          rw [hisz] at hc'
          refine wpAny_pure ⟨rfl, h', tk', c', rfl, hS', hc', fun b o e => ?_⟩
          have hb0 : b < s.heap.objs.size := Heap.lt_size e
          have hb1 : b ≠ s.heap.objs.size := Nat.ne_of_lt hb0
          have hb2 : b ≠ (s.heap.push { cls := .type "set", dict := none, data := .set #[] 0 (.fresh 0 0 (!w.params.followText "set-order")) }).objs.size := by
            rw [Heap.size_push]; exact Nat.ne_of_lt (Nat.lt_succ_of_lt hb0)
          exact hm.heap b o (by simp only [List.mem_cons, List.mem_singleton, List.not_mem_nil, or_false, not_or]; exact ⟨hb1, hb2⟩) (Heap.get?_push_of_some _ (Heap.get?_push_of_some _ e))

      · cases r₂ with
        | error e => exact hr₂
        | ok fl₂ =>
          cases fl₂ with
          | ret r =>
            obtain ⟨rfl, h', tk, c', rfl, hS', hc', hk'⟩ := hr₂
            repeat (any_goals (first | assumption | wp_step))
            exact h _ _ _ hS' hc' hk'
          | _ => exact hr₂.elim
    | _ => exact hr.elim

end
end Dn

set_option Elab.async false
set_option linter.all false
set_option maxRecDepth 100000
set_option maxHeartbeats 4000000
/-! E15: sorted(set(xs)), len(set(xs)) of whole numbers. -/
namespace Dn
open PySem PySem.Spec PyProof.Rows L2
section
variable {c : Cg} {X : Cx} {W' : WX} {pos : Pos}
def tSS (K : PySem.W.Frag) (ta : TE) : TE := fun σ H Q => ta σ H fun x H1 => ∃ (l : Addr) (ns : List Int), x = .ref l ∧ SqL K H1 l (ns.map V.int) ∧ ns.length ≤ 60 ∧ ∀ (p : Addr) (ms : List Int), ms.Pairwise (· < ·) → (∀ k, k ∈ ms ↔ k ∈ ns) → H1 p = none → Q (.ref p) (upd H1 p (.lst (ms.map V.int)))
theorem pe_ss {a : Expr} {ta : TE} {p p2 q : Pos} (hg : Gl X "sorted") (hm : X.mg "sorted" = none) (hg2 : Gl X "set") (hm2 : X.mg "set" = none) (ha : PE X a ta) (hc : X.calm = true := by rfl)
    (na : starEach [a] X.env = (false, eval a X.env) :: starEach [] X.env := by rfl) : PE X (.Call (.Name "sorted" p) [.Call (.Name "set" p2) [a] [] q] [] pos) (tSS X.K ta) := by
  refine ⟨fun pins s σ H Q I h => ?_⟩
  refine Call_ (ld_blt I hg hm boot_sorted ?_)
  refine PyProof.Rows.callWith_builtin1 (PyProof.Rows.args_cons ?_ rfl) rfl rfl
  refine Call_ (ld_blt I hg2 hm2 boot_set ?_)
  refine PyProof.Rows.callWith_type1 (PyProof.Rows.args_cons (thn (ha.run pins s σ H _ I h) fun v s1 ⟨x, H1, I1, r1, q1⟩ => PyProof.Rows.args_nil ?_) na) na rfl
  obtain ⟨l, ns, rfl, hq, hl, q1⟩ := q1
  cases r1
  obtain ⟨its, r, pl, hz⟩ := I1.list hq
  refine set_of_list ns (I1.ok.hd hc) pl.isList (by simpa using RZ.intsAre_vals r) (by unfold scanBound; omega) fun h' tk m hS hm' hk => ?_
  refine PyProof.Rows.args_nil ?_
  have I2 : Inv X pins σ H1 { s1 with heap := h', toks := tk } := I1.kept fun b o e => hk b o e
  have hS2 : SetR X.w ({ s1 with heap := h', toks := tk } : Shared).heap s1.heap.objs.size (fun j => decide (j ∈ ns)) m := hS
  generalize ({ s1 with heap := h', toks := tk } : Shared) = s2 at I2 hS2 ⊢
  refine sorted_set hS2 (I2.ok.hd hc) (by omega) fun s' p out cc ms k g o hp hgt hi hs hmm hlen => ?_
  have hz2 : (ms.map V.int).length ≤ sizeLine := by rw [List.length_map, hlen, sizeLine_eq]; omega
  have hn : H1 p = none := I2.hok.fresh hp
  have J : Inv X pins σ (upd H1 p (.lst (ms.map V.int))) { s2 with heap := s'.heap, gens := s'.gens, drawn := s'.drawn, toks := s'.toks } :=
    I2.call (ch := []) (Un.laid k hp hn) (I2.hok.laid k hp ⟨hz2, out.toList, cc, vals_of_ints hi, hgt⟩) (by rw [g]; exact I2.bare) (fun _ z => nomatch z)
  have e : s' = { s2 with heap := s'.heap, gens := s'.gens, drawn := s'.drawn, toks := s'.toks } := by
    cases s'
    cases s2
    cases o
    rfl
  rw [e]
  exact ⟨.ref p, _, J, rfl, q1 p ms hs (fun j => (hmm j).trans (by simp)) hn⟩
/-- each number once -/
def ddp : List Int → List Int
  | [] => []
  | a :: as => if a ∈ as then ddp as else a :: ddp as
theorem ddp_mem {k : Int} : ∀ as : List Int, k ∈ ddp as ↔ k ∈ as
  | [] => Iff.rfl
  | a :: as => by
    unfold ddp
    by_cases h : a ∈ as
    · rw [if_pos h, ddp_mem as, List.mem_cons]
      exact ⟨.inr, fun z => z.elim (fun e => e ▸ h) id⟩
    · rw [if_neg h, List.mem_cons, List.mem_cons, ddp_mem as]
theorem ddp_nd : ∀ as : List Int, (ddp as).Nodup
  | [] => List.nodup_nil
  | a :: as => by
    unfold ddp
    by_cases h : a ∈ as
    · rw [if_pos h]; exact ddp_nd as
    · rw [if_neg h]; exact List.nodup_cons.mpr ⟨fun z => h ((ddp_mem as).mp z), ddp_nd as⟩
def ssI (ns : List Int) : List Int := srtI (ddp ns)
theorem ssI_mem {ns : List Int} {k : Int} : k ∈ ssI ns ↔ k ∈ ns := (srtI_perm _).mem_iff.trans (ddp_mem ns)
theorem ssI_lt (ns : List Int) : (ssI ns).Pairwise (· < ·) := by
  have h1 := srtI_pw (ddp ns)
  have h2 : (srtI (ddp ns)).Nodup := (srtI_perm _).nodup_iff.mpr (ddp_nd ns)
  exact (h1.and h2).imp fun ⟨a, b⟩ => by omega
theorem lt_uniq : ∀ as bs : List Int, as.Pairwise (· < ·) → bs.Pairwise (· < ·) → (∀ k, k ∈ as ↔ k ∈ bs) → as = bs
  | [], [], _, _, _ => rfl
  | [], b :: bs, _, _, h => by have := (h b).mpr List.mem_cons_self; cases this
  | a :: as, [], _, _, h => by have := (h a).mp List.mem_cons_self; cases this
  | a :: as, b :: bs, h1, h2, h => by
    obtain ⟨p1, p2⟩ := List.pairwise_cons.mp h1
    obtain ⟨q1, q2⟩ := List.pairwise_cons.mp h2
    have e : a = b := by
      rcases List.mem_cons.mp ((h a).mp List.mem_cons_self) with e | e
      · exact e
      · rcases List.mem_cons.mp ((h b).mpr List.mem_cons_self) with e2 | e2
        · exact e2.symm
        · have := q1 a e; have := p1 b e2; omega
    subst e
    rw [lt_uniq as bs p2 q2 fun k => ?_]
    constructor
    · intro hk
      rcases List.mem_cons.mp ((h k).mp (List.mem_cons_of_mem _ hk)) with e | e
      · have := p1 k hk; omega
      · exact e
    · intro hk
      rcases List.mem_cons.mp ((h k).mpr (List.mem_cons_of_mem _ hk)) with e | e
      · have := q1 k hk; omega
      · exact e
theorem ssI_len (ns : List Int) : (ssI ns).length ≤ ns.length := by
  unfold ssI
  rw [(srtI_perm _).length_eq]
  induction ns with
  | nil => exact Nat.le_refl _
  | cons a as ih =>
    unfold ddp
    split
    · rw [List.length_cons]; omega
    · rw [List.length_cons, List.length_cons]; omega
def dss (a : DE) : DE := fun ρ g => (a ρ g).bind fun x g => match x.2 with
  | .lst ds => (match intsD ds with | some ns => if ns.length ≤ 60 then .ok (.fr, .lst ((ssI ns).map .int)) g else .no | none => .no)
  | _ => .no
theorem se_ss {a : Expr} {da : DE} {p p2 q : Pos} (hK : c.K = X.K) (ha : SE c X W' a da) (hg : Gl X "sorted") (hm : X.mg "sorted" = none) (hg2 : Gl X "set") (hm2 : X.mg "set" = none) (hc : X.calm = true := by rfl)
    (na : starEach [a] X.env = (false, eval a X.env) :: starEach [] X.env := by rfl) : SE c X W' (.Call (.Name "sorted" p) [.Call (.Name "set" p2) [a] [] q] [] pos) (dss da) := fun ρ g =>
  PE.imp (pe_ss hg hm hg2 hm2 (ha ρ g) hc na) fun σ H Q ⟨W, ps, S, h⟩ => by
    refine ⟨W, ps, S, ?_⟩
    unfold dss at h
    cases ea : da ρ g with
    | no => rw [ea] at h; exact h.elim
    | ex n g1 => rw [ea] at h; exact h
    | ok x g1 =>
      rw [ea, Re.bind_ok] at h
      obtain ⟨k, d⟩ := x
      cases d with
      | lst ds =>
        dsimp only at h
        cases en : intsD ds with
        | none => rw [en] at h; exact h.elim
        | some ns =>
          rw [en] at h
          dsimp only at h
          intro v H1 f1 b1 k1
          by_cases hl : ns.length ≤ 60
          · rw [if_pos hl] at h
            obtain ⟨p, ws, rfl, sq, hz, rs⟩ := k1.toRB.lst
            rw [hK, intsD_rs en rs] at sq
            refine ⟨p, ns, rfl, sq, hl, fun p' ms h1 h2 np => ?_⟩
            have e := lt_uniq ms (ssI ns) h1 (ssI_lt ns) fun k => (h2 k).trans ssI_mem.symm
            subst e
            have S1 := S.step f1 b1
            have hz2 := ssI_len ns
            exact h _ _ (f1.trans (ext_fr (extU np))) (b1.fr (extU np)) (KR.back f1 (new_lst S1.there S1.bU np (by rw [List.length_map]; exact szl (by omega)) (rs_ints _)))
          · rw [if_neg hl] at h; exact h.elim
      | _ => exact h.elim
end
end Dn

set_option Elab.async false
set_option linter.all false
set_option maxRecDepth 100000
set_option maxHeartbeats 4000000
/-! E16: comprehensions of two clauses. -/
namespace Dn
open PySem L2
def lbody2 (γ : DG) (t : DT) (it1 : DI) (vs1 : List Nat) (γ1 : DG) (t1 : DT) (e : DE) (ρ : Env) : D → G → Re (List D) := fun d g => match γ d ρ with
  | some ρ' => (t ρ' g).bind fun b g => if b = true then (it1 ρ' g).bind fun ds1 g => lcL (lbody γ1 t1 e (wipeE ρ' vs1)) ds1 g else .ok [] g
  | none => .no
def dlc2 (it : DI) (vs : List Nat) (γ : DG) (t : DT) (it1 : DI) (vs1 : List Nat) (γ1 : DG) (t1 : DT) (e : DE) : DE := fun ρ g => (it ρ g).bind fun ds g => (lcL (lbody2 γ t it1 vs1 γ1 t1 e (wipeE ρ vs)) ds g).noex.bind fun out g => if out.length ≤ 10000000 then .ok (.fr, .lst out) g else .no
section
variable {c : Cg} {X : Cx} {W' : WX} {pos : Pos} {is : List Nat}
def anyI (c : Cg) (W' : WX) (b : DI) : TI := fun σ H Q => ∃ i : Env × G, tI c W' true i.1 i.2 (b i.1 i.2) σ H Q
theorem SI.anyI {tg e : Expr} {b : DI} (h : SI c X W' true tg e b) : PI X tg e (anyI c W' b) := ⟨fun pins s σ H Q I ⟨i, q⟩ => (h i.1 i.2).run pins s σ H Q I q⟩
theorem any_it {J : It} {n : Nat} {G : Hp → Prop} {Y : Nat → Hp → V → Hp → Prop} (w : Walk J n G Y) {B : V → Hp → (Hp → Prop) → Prop} {H1 : Hp} {Qd : Hp → Prop} (Pv : Nat → Hp → Prop) (h0 : Pv 0 H1) (hG : ∀ i H, i ≤ n → Pv i H → G H)
    (hs : ∀ i x H H', i < n → Pv i H → Y i H x H' → B x H' (Pv (i + 1))) (hd : ∀ H, Pv n H → Qd H) :
    ∃ W : Nat → Nat → Hp → Prop, (∃ m, W 0 m H1) ∧ ∀ i m H, W i m H → (J.stop i H ∧ Qd H) ∨ (J.go i H ∧ ∃ Nx : Hp → Prop, (∀ H', Nx H' → ∃ m', m' < m ∧ W (i + 1) m' H') ∧ ∀ x H', J.yld i H x H' → B x H' Nx) := by
  refine ⟨fun i m H => m = n - i ∧ i ≤ n ∧ Pv i H, ⟨n, by simp, Nat.zero_le _, h0⟩, ?_⟩
  rintro i m H ⟨rfl, hi, p⟩
  have q := hG i H hi p
  by_cases hlt : i < n
  · exact .inr ⟨w.goes i H hlt q, Pv (i + 1), fun H' p' => ⟨n - (i + 1), by omega, rfl, hlt, p'⟩, fun x H' y => hs i x H H' hlt p (w.yields i H x H' hlt q y)⟩
  · have e : i = n := by omega
    subst e
    exact .inl ⟨w.stops H q, hd H p⟩
theorem wipeP_get {ps : Ps} : ∀ {vs : List Nat} {j : Nat}, j ∉ vs → (wipeP ps vs)[j]? = ps[j]?
  | [], _, _ => rfl
  | v :: vs, j, h => by
    unfold wipeP
    rw [List.getElem?_set_ne (fun e => h (by rw [e]; exact List.mem_cons_self))]
    exact wipeP_get fun z => h (List.mem_cons_of_mem _ z)
/-- the inner block's slots still own what the outer's own -/
theorem owns_in {ps ps4 : Ps} {vs vs1 : List Nat} (h : Chs vs (wipeP ps vs) ps4) (hv : ∀ i ∈ vs1, i ∈ vs) {p : Addr} (hp : p ∈ Dn.owns (wipeP ps vs)) : p ∈ Dn.owns (wipeP ps4 vs1) := by
  obtain ⟨j, hj⟩ := List.mem_iff_getElem?.mp (mem_owns.mp hp)
  have nj : j ∉ vs := fun z => wipeP_in z p hj
  exact mem_owns.mpr (List.mem_iff_getElem?.mpr ⟨j, by rw [wipeP_get fun z => nj (hv j z), h.2 j nj]; exact hj⟩)
theorem SR.wiped {W : List Addr} {ps : Ps} {σ : L2.St} {H : Hp} {ρ : Env} {g : G} (S : SR c W ps σ H ρ g) (vs : List Nat) : SR c W (wipeP ps vs) (wipe σ vs) H (wipeE ρ vs) g :=
  ⟨(S.sl.wipe vs).chg (Chg.less fun a z => (List.mem_append.mp z).elim (fun z => List.mem_append_left _ (owns_wipe z)) (fun z => List.mem_append_right _ z)) fun _ _ _ e => e, nd_wipe S.nd vs, fun p z => S.dj p (owns_wipe z), S.old, S.bx, S.bo⟩
/-- the block's state: the slots that it starts each turn with, the new list D with da -/
structure LcI (c : Cg) (W : List Addr) (ps : Ps) (vs : List Nat) (ρ : Env) (σ : L2.St) (D : Addr) (H1 : Hp) (va : List V) (da : List Dn.D) (H2 : Hp) (g : G) : Prop where
  S : SR c (blkW D ps vs W) (wipeP ps vs) (L2.wipe σ vs) H2 (wipeE ρ vs) g
  f : ∀ a o, H1 a = some o → a ≠ D → ¬ c.β.ex a → H2 a = some o
  hD : H2 D = some (.lst va)
  rs : Rs c (D :: (owns ps ++ W)) H2 va da
section
variable {W : List Addr} {ps : Ps} {vs : List Nat} {ρ : Env} {σ : L2.St} {D : Addr} {H1 H2 H3 : Hp} {va : List V} {da : List Dn.D} {g g' : G}
theorem LcI.step (L : LcI c W ps vs ρ σ D H1 va da H2 g) (f : Fr c.β H2 H3) (b : Bx c.β H3 g') (nb : ¬ c.β.ex D) (bo : ∀ b, c.β.ex b → b ∈ owns ps ++ W) : LcI c W ps vs ρ σ D H1 va da H3 g' :=
  ⟨L.S.step f b, fun a o e n q => f a o (L.f a o e n q) q, f D _ L.hD nb, L.rs.chg (Chg.grow f fun b e => List.mem_cons_of_mem _ (bo b e)) _ _⟩
theorem LcI.grown (L : LcI c W ps vs ρ σ D H1 va da H2 g) {v : V} {d : Dn.D} (nb : ¬ c.β.ex D) (r : R c (D :: (owns ps ++ W)) H2 v d) : LcI c W ps vs ρ σ D H1 (va ++ [v]) (da ++ [d]) (upd H2 D (.lst (va ++ [v]))) g := by
  refine ⟨L.S.grown ⟨_, L.hD⟩ nb, fun a o e n q => ?_, upd_same, (L.rs.append (.cons r .nil)).chg ⟨rfl, fun _ e => e, fun a o e n => ⟨?_, n⟩⟩ _ _⟩
  · rw [upd_ne n]; exact L.f a o e n q
  · rw [upd_ne (fun z => n (by rw [z]; exact List.mem_cons_self))]; exact e
end
theorem lc2_r {it it1 : DI} {vs vs1 : List Nat} {γ γ1 : DG} {t t1 : DT} {e : DE} {ρ : Env} {g : G} {σ : L2.St} {H : Hp} {Q : VK} (hv : ∀ i ∈ vs1, i ∈ vs) (h : tE c W' ρ g (dlc2 it vs γ t it1 vs1 γ1 t1 e ρ g) σ H Q) :
    tLc2 (tI c W' false ρ g (it ρ g)) (anyG c vs γ) (anyT c W0 t) (anyI c W0 it1) (anyG c vs1 γ1) (anyT c W0 t1) (anyE c W0 e) vs vs1 σ H Q := by
  obtain ⟨W, ps, S, h⟩ := h
  refine ⟨W, ps, S, ?_⟩
  unfold dlc2 at h
  cases ea : it ρ g with
  | no => rw [ea] at h; exact h
  | ex n g1 => rw [ea] at h; exact h
  | ok ds g1 =>
    rw [ea, Re.bind_ok] at h
    cases el : lcL (lbody2 γ t it1 vs1 γ1 t1 e (wipeE ρ vs)) ds g1 with
    | no => rw [el] at h; exact h.elim
    | ex n g2 => rw [el] at h; exact h.elim
    | ok out g2 =>
      rw [el] at h
      have h : WantE c W' (owns ps ++ W) σ H Q (if out.length ≤ 10000000 then .ok (.fr, .lst out) g2 else .no) := h
      by_cases ho : out.length ≤ 10000000
      case neg => rw [if_neg ho] at h; exact h.elim
      rw [if_pos ho] at h
      have outl : out.length ≤ sizeLine := by rw [sizeLine_eq]; omega
      intro J H1 f1 b1 wk D hD
      obtain ⟨hz, Gd, Y, w, hG, hY⟩ := wk
      have S1 := S.step f1 b1
      have nb : ¬ c.β.ex D := fun z => S1.there D (S1.bU D z) hD
      have bo : ∀ b, c.β.ex b → b ∈ owns ps ++ W := S1.bU
      have sub : ∀ a, a ∈ D :: (owns ps ++ W) ↔ a ∈ owns (wipeP ps vs) ++ blkW D ps vs W := fun a => by
        rw [mem_blk, List.mem_cons, List.mem_append]
      refine any_it (B := fun x H' N => anyG c vs γ x (L2.wipe σ vs) H' fun σ2 H2 => L2.wipe σ2 vs = L2.wipe σ vs ∧ anyT c W0 t σ2 H2 fun b H3 =>
        if b = true then anyI c W0 it1 σ2 H3 fun J1 H4 => ∃ W1 : Nat → Nat → Hp → Prop, (∃ m, W1 0 m H4) ∧ ∀ j k H, W1 j k H →
          (J1.stop j H ∧ N H) ∨ (J1.go j H ∧ ∃ Nx1 : Hp → Prop, (∀ H', Nx1 H' → ∃ k', k' < k ∧ W1 (j + 1) k' H') ∧ ∀ x H', J1.yld j H x H' → anyG c vs1 γ1 x (L2.wipe σ2 vs1) H' fun σ3 H5 => L2.wipe σ3 vs1 = L2.wipe σ2 vs1 ∧ anyT c W0 t1 σ3 H5 fun b H6 =>
            if b = true then anyE c W0 e σ3 H6 fun y H7 => ∃ acc, H7 D = some (.lst acc) ∧ acc.length < sizeLine ∧ Nx1 (upd H7 D (.lst (acc ++ [y]))) else Nx1 H6)
        else N H3) w (fun i H2 => ∃ g2' va da rest, LcI c W ps vs ρ σ D H1 va da H2 g2' ∧
        lcL (lbody2 γ t it1 vs1 γ1 t1 e (wipeE ρ vs)) (ds.drop i) g2' = .ok rest g2 ∧ da ++ rest = out) ⟨g1, [], [], out, ⟨S1.blk vs hD, fun a o e n _ => by rw [upd_ne n]; exact e, upd_same, .nil⟩, by simpa using el, rfl⟩ ?_ ?_ ?_
      · rintro i H2 _ ⟨g2', va, da, rest, L, _⟩
        exact hG H2 fun a o e n => L.f a o e (fun z => by rw [z, hD] at e; cases e) n
      · rintro i x H2 H3 hi ⟨g2', va, da, rest, L2', ell, eo⟩ y
        have keep : ∀ a o, H1 a = some o → a ∉ owns ps ++ W → a ∉ owns (wipeP ps vs) ++ blkW D ps vs W := fun a o e n z => by
          have nD : a ≠ D := fun z => by rw [z, hD] at e; cases e
          rcases mem_blk.mp z with z | z | z
          · exact nD z
          · exact n (List.mem_append_left _ z)
          · exact n (List.mem_append_right _ z)
        obtain ⟨d, hd, e3, r⟩ := hY i H2 x H3 _ hi (fun a o e n => L2'.f a o e (fun z => by rw [z, hD] at e; cases e) n) keep L2'.S.there y
        have ed : ds.drop i = d :: ds.drop (i + 1) := by
          rw [List.drop_eq_getElem_cons hi]
          have q := List.getElem?_eq_getElem hi
          rw [hd] at q
          rw [← Option.some.inj q]
        rw [ed] at ell
        unfold lcL at ell
        have L3 := L2'.step (ext_fr e3) (L2'.S.bx.fr e3) nb bo
        cases eg : γ d (wipeE ρ vs) with
        | none =>
          have ef : lbody2 γ t it1 vs1 γ1 t1 e (wipeE ρ vs) d g2' = .no := by
            unfold lbody2
            rw [eg]
          rw [ef] at ell
          cases ell
        | some ρ3 =>
          refine ⟨⟨(d, wipeE ρ vs, ρ3), eg⟩, _, _, g2', L3.S, r, fun σ4 ps4 S4 sub4 ch4 chp4 => ⟨ch4.wipe, (ρ3, g2'), _, ps4, S4, ?_⟩⟩
          have ef : lbody2 γ t it1 vs1 γ1 t1 e (wipeE ρ vs) d g2' = (t ρ3 g2').bind fun b g => if b = true then (it1 ρ3 g).bind fun ds1 g => lcL (lbody γ1 t1 e (wipeE ρ3 vs1)) ds1 g else .ok [] g := by
            unfold lbody2
            rw [eg]
          rw [ef] at ell
          cases et : t ρ3 g2' with
          | no => rw [et] at ell; cases ell
          | ex n g3 => rw [et] at ell; cases ell
          | ok b g3 =>
            rw [et, Re.bind_ok] at ell
            intro H5 f5 b5
            have S5 := S4.step f5 b5
            have L5 := L3.step f5 b5 nb bo
            cases b with
            | false =>
              rw [if_neg Bool.false_ne_true] at ell ⊢
              rw [Re.bind_ok] at ell
              cases er : lcL (lbody2 γ t it1 vs1 γ1 t1 e (wipeE ρ vs)) (ds.drop (i + 1)) g3 with
              | no => rw [er] at ell; cases ell
              | ex n g4 => rw [er] at ell; cases ell
              | ok ys g4 =>
                rw [er, Re.bind_ok] at ell
                cases ell
                exact ⟨g3, va, da, ys, L5, er, eo⟩
            | true =>
              rw [if_pos rfl] at ell ⊢
              refine ⟨(ρ3, g3), _, ps4, S5, ?_⟩
              cases ei : it1 ρ3 g3 with
              | no => rw [ei] at ell; cases ell
              | ex n g4 => rw [ei] at ell; cases ell
              | ok ds1 g4 =>
                rw [ei, Re.bind_ok] at ell
                cases e1 : lcL (lbody γ1 t1 e (wipeE ρ3 vs1)) ds1 g4 with
                | no => rw [e1] at ell; cases ell
                | ex n g5 => rw [e1] at ell; cases ell
                | ok xs g5 =>
                  rw [e1, Re.bind_ok] at ell
                  cases er : lcL (lbody2 γ t it1 vs1 γ1 t1 e (wipeE ρ vs)) (ds.drop (i + 1)) g5 with
                  | no => rw [er] at ell; cases ell
                  | ex n g6 => rw [er] at ell; cases ell
                  | ok ys g6 =>
                    rw [er, Re.bind_ok] at ell
                    cases ell
                    intro J1 H6 f6 b6 wk1
                    have S6 := S5.step f6 b6
                    have L6 := L5.step f6 b6 nb bo
                    obtain ⟨hz1, Gd1, Y1, w1, hG1, hY1⟩ := wk1
                    have dl : (da ++ xs).length ≤ sizeLine := by
                      have : (da ++ (xs ++ ys)).length ≤ sizeLine := by rw [eo]; exact outl
                      simp only [List.length_append] at this ⊢
                      omega
                    refine any_it (B := fun x H' N => anyG c vs1 γ1 x (L2.wipe σ4 vs1) H' fun σ3 H5 => L2.wipe σ3 vs1 = L2.wipe σ4 vs1 ∧ anyT c W0 t1 σ3 H5 fun b H6 =>
                      if b = true then anyE c W0 e σ3 H6 fun y H7 => ∃ acc, H7 D = some (.lst acc) ∧ acc.length < sizeLine ∧ N (upd H7 D (.lst (acc ++ [y]))) else N H6) w1
                      (fun j H7 => ∃ g7 va7 da7 rest7, LcI c W ps vs ρ σ D H1 va7 da7 H7 g7 ∧ SR c (blkW D ps vs W) (wipeP ps4 vs1) (L2.wipe σ4 vs1) H7 (wipeE ρ3 vs1) g7 ∧ (∀ a o, H6 a = some o → a ∉ owns ps4 ++ blkW D ps vs W → H7 a = some o) ∧
                        lcL (lbody γ1 t1 e (wipeE ρ3 vs1)) (ds1.drop j) g7 = .ok rest7 g5 ∧ da7 ++ rest7 = da ++ xs) ⟨g4, va, da, xs, L6, S6.wiped vs1, fun _ _ e _ => e, by simpa using e1, rfl⟩ ?_ ?_ ?_
                    · rintro j H7 _ ⟨g7, va7, da7, rest7, L7, S7, f7, _⟩
                      exact hG1 H7 fun a o e n => f7 a o e n
                    · rintro j x1 H7 H8 hj ⟨g7, va7, da7, rest7, L7, S7, f7, el7, eo7⟩ y1
                      have keep1 : ∀ a o, H6 a = some o → a ∉ owns ps4 ++ blkW D ps vs W → a ∉ owns (wipeP ps4 vs1) ++ blkW D ps vs W := fun a o e n z => by
                        rcases List.mem_append.mp z with z | z
                        · exact n (List.mem_append_left _ (owns_wipe z))
                        · exact n (List.mem_append_right _ z)
                      obtain ⟨d1, hd1, e8, r1⟩ := hY1 j H7 x1 H8 _ hj (fun a o e n => f7 a o e n) keep1 S7.there y1
                      have ed1 : ds1.drop j = d1 :: ds1.drop (j + 1) := by
                        rw [List.drop_eq_getElem_cons hj]
                        have q := List.getElem?_eq_getElem hj
                        rw [hd1] at q
                        rw [← Option.some.inj q]
                      rw [ed1] at el7
                      unfold lcL at el7
                      have L8 := L7.step (ext_fr e8) (L7.S.bx.fr e8) nb bo
                      have S8 := S7.step (ext_fr e8) (S7.bx.fr e8)
                      have f8 : ∀ a o, H6 a = some o → a ∉ owns ps4 ++ blkW D ps vs W → H8 a = some o := fun a o e n => e8 a o (f7 a o e n)
                      cases eg1 : γ1 d1 (wipeE ρ3 vs1) with
                      | none =>
                        have ef : lbody γ1 t1 e (wipeE ρ3 vs1) d1 g7 = .no := by
                          unfold lbody
                          rw [eg1]
                        rw [ef] at el7
                        cases el7
                      | some ρ9 =>
                        refine ⟨⟨(d1, wipeE ρ3 vs1, ρ9), eg1⟩, _, _, g7, S8, r1, fun σ9 ps9 S9 sub9 ch9 chp9 => ⟨ch9.wipe, (ρ9, g7), _, ps9, S9, ?_⟩⟩
                        have ef : lbody γ1 t1 e (wipeE ρ3 vs1) d1 g7 = (t1 ρ9 g7).bind fun b g => if b = true then (e ρ9 g).bind fun x g => (match vals [x] with | some ds => .ok ds g | none => .no) else .ok [] g := by
                          unfold lbody
                          rw [eg1]
                          first | done | rfl
                        rw [ef] at el7
                        have nU : ∀ b, c.β.ex b → b ∈ owns ps4 ++ blkW D ps vs W := fun b hb => S6.bU b hb
                        cases et1 : t1 ρ9 g7 with
                        | no => rw [et1] at el7; cases el7
                        | ex n g8 => rw [et1] at el7; cases el7
                        | ok b g8 =>
                          rw [et1, Re.bind_ok] at el7
                          intro H10 f10 b10
                          have S10 := S9.step f10 b10
                          have S10w := S8.step f10 b10
                          have L10 := L8.step f10 b10 nb bo
                          have f10' : ∀ a o, H6 a = some o → a ∉ owns ps4 ++ blkW D ps vs W → H10 a = some o := fun a o e n => f10 a o (f8 a o e n) fun z => n (nU a z)
                          cases b with
                          | false =>
                            rw [if_neg Bool.false_ne_true] at el7 ⊢
                            rw [Re.bind_ok] at el7
                            cases er1 : lcL (lbody γ1 t1 e (wipeE ρ3 vs1)) (ds1.drop (j + 1)) g8 with
                            | no => rw [er1] at el7; cases el7
                            | ex n g9 => rw [er1] at el7; cases el7
                            | ok zs g9 =>
                              rw [er1, Re.bind_ok] at el7
                              cases el7
                              exact ⟨g8, va7, da7, zs, L10, S10w, f10', er1, eo7⟩
                          | true =>
                            rw [if_pos rfl] at el7 ⊢
                            refine ⟨(ρ9, g8), _, ps9, S10, ?_⟩
                            cases ee : e ρ9 g8 with
                            | no => rw [ee] at el7; cases el7
                            | ex n g9 => rw [ee] at el7; cases el7
                            | ok z g9 =>
                              rw [ee, Re.bind_ok] at el7
                              intro v H11 f11 b11 kr
                              cases ev : vals [z] with
                              | none => rw [ev] at el7; cases el7
                              | some zs =>
                                rw [ev] at el7
                                dsimp only at el7
                                rw [Re.bind_ok] at el7
                                cases er1 : lcL (lbody γ1 t1 e (wipeE ρ3 vs1)) (ds1.drop (j + 1)) g9 with
                                | no => rw [er1] at el7; cases el7
                                | ex n g10 => rw [er1] at el7; cases el7
                                | ok ws g10 =>
                                  rw [er1, Re.bind_ok] at el7
                                  cases el7
                                  obtain ⟨dz, rfl⟩ : ∃ dz, zs = [dz] := by
                                    obtain ⟨k, d'⟩ := z
                                    cases k with
                                    | bw => cases ev
                                    | fz => cases ev; exact ⟨_, rfl⟩
                                    | fr => cases ev; exact ⟨_, rfl⟩
                                  obtain ⟨hk, hz2⟩ := vals1_some ev
                                  have rz := kr.toR hk
                                  have S11w := S10w.step f11 b11
                                  have L11 := L10.step f11 b11 nb bo
                                  have rz' : R c (D :: (owns ps ++ W)) H11 v dz := by
                                    rw [← hz2]
                                    refine rz.chg ⟨rfl, fun _ e => e, fun a o e n => ⟨e, fun q => n ?_⟩⟩ _ _
                                    rcases List.mem_append.mp ((sub a).mp q) with y | y
                                    · exact List.mem_append_left _ (chp9.owns (owns_in chp4 hv y))
                                    · exact List.mem_append_right _ y
                                  have hl : va7.length < sizeLine := by
                                    have q1 := L11.rs.length
                                    have q2 : (da7 ++ ([dz] ++ ws)).length ≤ sizeLine := by rw [eo7]; exact dl
                                    simp at q2
                                    omega
                                  refine ⟨va7, L11.hD, hl, g9, va7 ++ [v], da7 ++ [dz], ws, L11.grown nb rz', S11w.grown ⟨_, L11.hD⟩ nb, fun a o e n => ?_, er1, by rw [List.append_assoc]; exact eo7⟩
                                  have nD : a ≠ D := fun z => n (by rw [z]; exact List.mem_append_right _ List.mem_cons_self)
                                  rw [upd_ne nD]
                                  exact f11 a o (f10' a o e n) fun z => n (nU a z)
                    · rintro H7 ⟨g7, va7, da7, rest7, L7, S7, f7, el7, eo7⟩
                      rw [List.drop_length] at el7
                      cases el7
                      rw [List.append_nil] at eo7
                      exact ⟨g5, va7, da7, ys, L7, er, by rw [eo7, List.append_assoc]; exact eo⟩
      · rintro H2 ⟨g2', va, da, rest, L, ell, eo⟩
        rw [List.drop_length] at ell
        cases ell
        rw [List.append_nil] at eo
        subst eo
        have fr2 : Fr c.β H1 H2 := fun a o e n => L.f a o e (fun z => by rw [z, hD] at e; cases e) n
        refine h _ H2 (f1.trans fr2) L.S.bx ⟨D, rfl, f1.free nb hD, nb, fun z => S1.there D z hD, va, L.hD, ?_, L.rs⟩
        rw [L.rs.length]
        exact outl
theorem se_lc2 {elt tg iter tg1 iter1 : Expr} {ifs ifs1 : List Expr} {scope : Scope} {own own1 : List (Str × Nat)} {it it1 : DI} {γ γ1 : DG} {t t1 : DT} {e : DE} (hc : X.calm = true) (hN : X.N.Nodup) (hi : SI c X W' false tg iter it) (ok : BlkOk X.N X.env.scope scope own) (hv : ∀ i ∈ own1.map (·.2), i ∈ own.map (·.2))
    (hg : ∀ (s : Shared) (H : Hp) (C : Addr) (cl : List (Str × Addr)) (fp : List Addr), SG c (X.blk s H scope (compEnvC scope cl C X.env) fp) (own.map (·.2)) tg γ) (ht : ∀ (s : Shared) (H : Hp) (C : Addr) (cl : List (Str × Addr)) (fp : List Addr), STs c (X.blk s H scope (compEnvC scope cl C X.env) fp) W0 ifs t)
    (hi1 : ∀ (s : Shared) (H : Hp) (C : Addr) (cl : List (Str × Addr)) (fp : List Addr), SI c (X.blk s H scope (compEnvC scope cl C X.env) fp) W0 true tg1 iter1 it1)
    (hg1 : ∀ (s : Shared) (H : Hp) (C : Addr) (cl : List (Str × Addr)) (fp : List Addr), SG c (X.blk s H scope (compEnvC scope cl C X.env) fp) (own1.map (·.2)) tg1 γ1) (ht1 : ∀ (s : Shared) (H : Hp) (C : Addr) (cl : List (Str × Addr)) (fp : List Addr), STs c (X.blk s H scope (compEnvC scope cl C X.env) fp) W0 ifs1 t1)
    (he : ∀ (s : Shared) (H : Hp) (C : Addr) (cl : List (Str × Addr)) (fp : List Addr), SE c (X.blk s H scope (compEnvC scope cl C X.env) fp) W0 elt e) (hs : ∀ x, foldedSetIterable iter X.env x = pure x := by intro _; rfl) (hs1 : ∀ env x, foldedSetIterable iter1 env x = pure x := by intro _ _; rfl) :
    SE c X W' (.ListComp elt [⟨tg, iter, ifs, 0⟩, ⟨tg1, iter1, ifs1, 0⟩] scope pos) (dlc2 it (own.map (·.2)) γ t it1 (own1.map (·.2)) γ1 t1 e) := fun ρ g =>
  PE.imp (pe_lc2 hc hN (hi ρ g) ok hv (fun s H C cl fp => (hg s H C cl fp).anyG) (fun s H C cl fp => (ht s H C cl fp).anyT) (fun s H C cl fp => (hi1 s H C cl fp).anyI) (fun s H C cl fp => (hg1 s H C cl fp).anyG) (fun s H C cl fp => (ht1 s H C cl fp).anyT) (fun s H C cl fp => (he s H C cl fp).anyE) hs hs1) fun σ H Q h => lc2_r hv h
theorem ss_setlc2 {i : Nat} {y : Str} {py : Pos} {elt tg iter tg1 iter1 : Expr} {ifs ifs1 : List Expr} {scope : Scope} {own own1 : List (Str × Nat)} {spos : Pos} {it it1 : DI} {γ γ1 : DG} {t t1 : DT} {e : DE} (hc : X.calm = true) (hN : X.N.Nodup) (hsw : swapsWith (.ListComp elt [⟨tg, iter, ifs, 0⟩, ⟨tg1, iter1, ifs1, 0⟩] scope pos) (some (.Name y py)) spos.line X.env = pure true) (hi : SI c X W' false tg iter it) (ok : BlkOk X.N X.env.scope scope own) (hv : ∀ i ∈ own1.map (·.2), i ∈ own.map (·.2))
    (hg : ∀ (s : Shared) (H : Hp) (C : Addr) (cl : List (Str × Addr)) (fp : List Addr), SG c (X.blk s H scope (compEnvC scope cl C X.env) fp) (own.map (·.2)) tg γ) (ht : ∀ (s : Shared) (H : Hp) (C : Addr) (cl : List (Str × Addr)) (fp : List Addr), STs c (X.blk s H scope (compEnvC scope cl C X.env) fp) W0 ifs t)
    (hi1 : ∀ (s : Shared) (H : Hp) (C : Addr) (cl : List (Str × Addr)) (fp : List Addr), SI c (X.blk s H scope (compEnvC scope cl C X.env) fp) W0 true tg1 iter1 it1)
    (hg1 : ∀ (s : Shared) (H : Hp) (C : Addr) (cl : List (Str × Addr)) (fp : List Addr), SG c (X.blk s H scope (compEnvC scope cl C X.env) fp) (own1.map (·.2)) tg1 γ1) (ht1 : ∀ (s : Shared) (H : Hp) (C : Addr) (cl : List (Str × Addr)) (fp : List Addr), STs c (X.blk s H scope (compEnvC scope cl C X.env) fp) W0 ifs1 t1)
    (he : ∀ (s : Shared) (H : Hp) (C : Addr) (cl : List (Str × Addr)) (fp : List Addr), SE c (X.blk s H scope (compEnvC scope cl C X.env) fp) W0 elt e) (hy : X.N[i]? = some y := by rfl) (hyl : X.env.scope.names.lookup y = some .local := by rfl) (hs : ∀ x, foldedSetIterable iter X.env x = pure x := by intro _; rfl) (hs1 : ∀ env x, foldedSetIterable iter1 env x = pure x := by intro _ _; rfl) :
    SS c X W' (.Assign [.Name y py] (.ListComp elt [⟨tg, iter, ifs, 0⟩, ⟨tg1, iter1, ifs1, 0⟩] scope pos) spos) (dset i (dlc2 it (own.map (·.2)) γ t it1 (own1.map (·.2)) γ1 t1 e)) := fun ρ g =>
  PS.imp (ps_setLc2 hc hN hy hyl hsw (hi ρ g) ok hv (fun s H C cl fp => (hg s H C cl fp).anyG) (fun s H C cl fp => (ht s H C cl fp).anyT) (fun s H C cl fp => (hi1 s H C cl fp).anyI) (fun s H C cl fp => (hg1 s H C cl fp).anyG) (fun s H C cl fp => (ht1 s H C cl fp).anyT) (fun s H C cl fp => (he s H C cl fp).anyE) hs hs1) fun D σ H h => by
    have q := set_r h
    exact lc2_r hv q
end
end Dn

set_option Elab.async false
set_option linter.all false
set_option maxRecDepth 100000
set_option maxHeartbeats 4000000
/-! E17a: dict comprehensions of two clauses (the steps follow the list's). -/
namespace DL
open PySem PySem.Spec PyProof.Rows L2
theorem compTurn2d_out (kx vx t0 i0 t1 i1 : Expr) (ifs0 ifs1 : List Expr) (scope : Scope) (pos : Pos) (it : Value) (D : Addr) (env : Env) :
    compTurn (.DictComp kx vx [⟨t0, i0, ifs0, 0⟩, ⟨t1, i1, ifs1, 0⟩] scope pos) 0 it (.ref D) env = (do
      standAt i0.pos
      match ← pyNext it with
      | none => pure (.done .next)
      | some v =>
        letOwnedTupleGo t0 it v
        assign t0 env v
        let mut ok := true
        for c in ifs0 do
          if ok then ok ← isTrue c env (eval c env)
        if ok then
          let x ← eval i1 env
          standAt i1.pos
          let x ← foldedSetIterable i1 env x
          let _ ← runOwn (.compStart (.DictComp kx vx [⟨t0, i0, ifs0, 0⟩, ⟨t1, i1, ifs1, 0⟩] scope pos) 1 (← holding [x] (pyIter x)) (.ref D) env) env
        again (.compLoop (.DictComp kx vx [⟨t0, i0, ifs0, 0⟩, ⟨t1, i1, ifs1, 0⟩] scope pos) 0 it (.ref D) env)) := by rfl
theorem compTurn2d_in (kx vx t0 i0 t1 i1 : Expr) (ifs0 ifs1 : List Expr) (scope : Scope) (pos : Pos) (it : Value) (D : Addr) (env : Env) :
    compTurn (.DictComp kx vx [⟨t0, i0, ifs0, 0⟩, ⟨t1, i1, ifs1, 0⟩] scope pos) 1 it (.ref D) env = (do
      standAt i1.pos
      match ← pyNext it with
      | none => pure (.done .next)
      | some v =>
        letOwnedTupleGo t1 it v
        assign t1 env v
        let mut ok := true
        for c in ifs1 do
          if ok then ok ← isTrue c env (eval c env)
        if ok then
          (do
            let kv ← eval kx env
            let vv ← holding [kv] (eval vx env)
            standAt { kx.pos with endLine := vx.pos.endLine, endCol := vx.pos.endCol }
            holding [kv, vv] (dictSet D kv vv))
        again (.compLoop (.DictComp kx vx [⟨t0, i0, ifs0, 0⟩, ⟨t1, i1, ifs1, 0⟩] scope pos) 1 it (.ref D) env)) := by rfl

section
variable {prog : Program} {w : World} {A : Around} {R : Result → Shared → Prop} {s : Shared} {kx vx t0 i0 t1 i1 : Expr} {ifs0 ifs1 : List Expr} {scope : Scope} {pos : Pos} {it : Value} {D : Addr} {env : Env}
/-- the loop of the first clause -/
theorem compLoop2d_out (hs : ∀ x, foldedSetIterable i1 env x = pure x) (I : Nat → Shared → Prop)
    (turn : ∀ n s, I n s → wpAny (model prog w) A (pyNext it) (fun r s₁ => match r with
      | none => R (.ok .next) s₁
      | some v => wpAny (model prog w) A (letOwnedTupleGo t0 it v) (fun _ s₁' => wpAny (model prog w) A (assign t0 env v) (fun _ s₂ =>
          wpAny (model prog w) A (forIn ifs0 true fun c r => if r = true then do let ok ← isTrue c env (eval c env); pure (ForInStep.yield ok) else pure (ForInStep.yield r)) (fun ok s₃ =>
            if ok = true then wpAny (model prog w) A (eval i1 env) (fun x s₄ => wpAny (model prog w) A (pyIter x) (fun it1 s₅ =>
              codeAny (model prog w) A (.compStart (.DictComp kx vx [⟨t0, i0, ifs0, 0⟩, ⟨t1, i1, ifs1, 0⟩] scope pos) 1 it1 (.ref D) env) (fun r s' => match r with
                | .ok _ => ∃ m, m < n ∧ I m s'
                | .error _ => False) s₅) (notedBy (model prog w) A env fun e s' => R (.error e) s') s₄) (notedBy (model prog w) A env fun e s' => R (.error e) s') s₃
            else ∃ m, m < n ∧ I m s₃) (notedBy (model prog w) A env fun e s' => R (.error e) s') s₂) (notedBy (model prog w) A env fun e s' => R (.error e) s') s₁') (notedBy (model prog w) A env fun e s' => R (.error e) s') s₁) (notedBy (model prog w) A env fun e s' => R (.error e) s') s)
    (n : Nat) (h : I n s) :
    codeAny (model prog w) A (.compLoop (.DictComp kx vx [⟨t0, i0, ifs0, 0⟩, ⟨t1, i1, ifs1, 0⟩] scope pos) 0 it (.ref D) env) R s := by
  refine codeAny_loop rfl I (fun n s hI => ?_) n h
  show wpAny _ A ((compTurn (.DictComp kx vx [⟨t0, i0, ifs0, 0⟩, ⟨t1, i1, ifs1, 0⟩] scope pos) 0 it (.ref D) env).onRaise (fun x => do noteFrame x env; theTreesLotGoes x)) _ _ s
  refine wpAny_noted ?_
  rw [compTurn2d_out]
  refine wpAny_bind (wpAny_standAt (wpAny_bind (wpAny_mono (turn n s hI) (fun r s₁ h₁ => ?_) fun _ _ h' => h')))
  cases r with
  | none => exact wpAny_pure h₁
  | some v =>
    refine wpAny_bind (wpAny_mono h₁ (fun _ s₁' h₁' => ?_) fun _ _ h' => h')
    refine wpAny_bind (wpAny_mono h₁' (fun _ s₂ h₂ => wpAny_bind (wpAny_mono h₂ (fun ok s₃ h₃ => ?_) fun _ _ h' => h')) fun _ _ h' => h')
    cases ok with
    | false => exact wpAny_pure ⟨rfl, h₃⟩
    | true =>
      refine wpAny_bind (wpAny_mono h₃ (fun x s₄ h₄ => ?_) fun _ _ h' => h')
      refine wpAny_bind (wpAny_standAt (wpAny_bind (wpAny_of_eq (hs x) (wpAny_bind (wpAny_holding (wpAny_mono h₄ (fun it1 s₅ h₅ => ?_) fun _ _ h' => h'))))))
      refine wpAny_bind (wpAny_runOwn ?_)
      rw [Around.mark_none]
      refine codeAny_mono h₅ fun r s' hr => ?_
      cases r with
      | ok f =>
        first
          | exact wpAny_pure ⟨rfl, hr⟩
          | exact wpAny_bind (wpAny_pure (wpAny_pure ⟨rfl, hr⟩))
      | error e => exact hr.elim
/-- the loop of the second -/
theorem compLoop2d_in (I : Nat → Shared → Prop)
    (turn : ∀ n s, I n s → wpAny (model prog w) A (pyNext it) (fun r s₁ => match r with
      | none => R (.ok .next) s₁
      | some v => wpAny (model prog w) A (letOwnedTupleGo t1 it v) (fun _ s₁' => wpAny (model prog w) A (assign t1 env v) (fun _ s₂ =>
          wpAny (model prog w) A (forIn ifs1 true fun c r => if r = true then do let ok ← isTrue c env (eval c env); pure (ForInStep.yield ok) else pure (ForInStep.yield r)) (fun ok s₃ =>
            if ok = true then wpAny (model prog w) A (eval kx env) (fun kv s₄ => wpAny (model prog w) A (eval vx env) (fun vv s₅ =>
              wpAny (model prog w) A (dictSet D kv vv) (fun _ s₆ => ∃ m, m < n ∧ I m s₆) (notedBy (model prog w) A env fun e s' => R (.error e) s') s₅) (notedBy (model prog w) A env fun e s' => R (.error e) s') s₄) (notedBy (model prog w) A env fun e s' => R (.error e) s') s₃
            else ∃ m, m < n ∧ I m s₃) (notedBy (model prog w) A env fun e s' => R (.error e) s') s₂) (notedBy (model prog w) A env fun e s' => R (.error e) s') s₁') (notedBy (model prog w) A env fun e s' => R (.error e) s') s₁) (notedBy (model prog w) A env fun e s' => R (.error e) s') s)
    (n : Nat) (h : I n s) :
    codeAny (model prog w) A (.compLoop (.DictComp kx vx [⟨t0, i0, ifs0, 0⟩, ⟨t1, i1, ifs1, 0⟩] scope pos) 1 it (.ref D) env) R s := by
  refine codeAny_loop rfl I (fun n s hI => ?_) n h
  show wpAny _ A ((compTurn (.DictComp kx vx [⟨t0, i0, ifs0, 0⟩, ⟨t1, i1, ifs1, 0⟩] scope pos) 1 it (.ref D) env).onRaise (fun x => do noteFrame x env; theTreesLotGoes x)) _ _ s
  refine wpAny_noted ?_
  rw [compTurn2d_in]
  refine wpAny_bind (wpAny_standAt (wpAny_bind (wpAny_mono (turn n s hI) (fun r s₁ h₁ => ?_) fun _ _ h' => h')))
  cases r with
  | none => exact wpAny_pure h₁
  | some v =>
    refine wpAny_bind (wpAny_mono h₁ (fun _ s₁' h₁' => ?_) fun _ _ h' => h')
    refine wpAny_bind (wpAny_mono h₁' (fun _ s₂ h₂ => wpAny_bind (wpAny_mono h₂ (fun ok s₃ h₃ => ?_) fun _ _ h' => h')) fun _ _ h' => h')
    cases ok with
    | false => exact wpAny_pure ⟨rfl, h₃⟩
    | true =>
      exact wpAny_bind (wpAny_bind (wpAny_mono h₃ (fun kv s₄ h₄ => wpAny_bind (wpAny_holding (wpAny_mono h₄ (fun vv s₅ h₅ => wpAny_bind (wpAny_standAt (wpAny_holding (wpAny_mono h₅ (fun _ s₆ h₆ => wpAny_pure ⟨rfl, h₆⟩) fun _ _ h' => h')))) fun _ _ h' => h'))) fun _ _ h' => h'))
/-- the second clause's start -/
theorem compStart1d_ok (h0 : codeAny (model prog w) A (.compLoop (.DictComp kx vx [⟨t0, i0, ifs0, 0⟩, ⟨t1, i1, ifs1, 0⟩] scope pos) 1 it (.ref D) env) R s)
    (h : wpAny (model prog w) A (pyIter it) (fun it' s' => codeAny (model prog w) A (.compLoop (.DictComp kx vx [⟨t0, i0, ifs0, 0⟩, ⟨t1, i1, ifs1, 0⟩] scope pos) 1 it' (.ref D) env) R s')
      (notedBy (model prog w) A env fun x s' => R (.error x) s') s) :
    codeAny (model prog w) A (.compStart (.DictComp kx vx [⟨t0, i0, ifs0, 0⟩, ⟨t1, i1, ifs1, 0⟩] scope pos) 1 it (.ref D) env) R s := by
  refine codeAny_of_tree ?_
  show wpAny _ _ ((compStart (.DictComp kx vx [⟨t0, i0, ifs0, 0⟩, ⟨t1, i1, ifs1, 0⟩] scope pos) 1 it (.ref D) env).onRaise (fun x => do noteFrame x env; standAt theWindowsPlace)) _ _ s
  refine wpAny_notedAt ?_
  unfold compStart
  show wpAny _ _ (ask >>= _) _ _ s
  refine wpAny_bind (wpAny_askSetting (wpAny_ite ?_))
  split
  · first
      | exact wpAny_bind (wpAny_pure (wpAny_pure (And.intro rfl h0)))
      | exact wpAny_pure (And.intro rfl h0)
  · first
      | exact wpAny_bind (wpAny_rule (wpAny_bind (wpAny_standAt (wpAny_bind (wpAny_mono h (fun it' s' h' => wpAny_pure (And.intro rfl h')) fun _ _ x => x)))))
      | (refine wpAny_bind (wpAny_rule ?_); show wpAny _ _ (standAt i1.pos >>= _) _ _ s; exact wpAny_bind (wpAny_standAt (wpAny_bind (wpAny_mono h (fun it' s' h' => wpAny_pure (And.intro rfl h')) fun _ _ x => x))))
end
section
variable {X : Cx}
def tDc2 (wi : TI) (g : TG) (tt : TT) (wi1 : TI) (g1 : TG) (tt1 : TT) (tk tv : TE) (vs vs1 : List Nat) : TE := fun σ H Q => wi σ H fun J H1 => ∀ D, H1 D = none → ∃ W : Nat → Nat → Hp → Prop, (∃ m, W 0 m (upd H1 D (.dK []))) ∧ ∀ i m H, W i m H →
  (J.stop i H ∧ Q (.ref D) H) ∨ (J.go i H ∧ ∃ Nx : Hp → Prop, (∀ H', Nx H' → ∃ m', m' < m ∧ W (i + 1) m' H') ∧ ∀ x H', J.yld i H x H' → g x (wipe σ vs) H' fun σ2 H2 => wipe σ2 vs = wipe σ vs ∧ tt σ2 H2 fun b H3 =>
    if b = true then wi1 σ2 H3 fun J1 H4 => ∃ W1 : Nat → Nat → Hp → Prop, (∃ m, W1 0 m H4) ∧ ∀ j k H, W1 j k H →
      (J1.stop j H ∧ Nx H) ∨ (J1.go j H ∧ ∃ Nx1 : Hp → Prop, (∀ H', Nx1 H' → ∃ k', k' < k ∧ W1 (j + 1) k' H') ∧ ∀ x H', J1.yld j H x H' → g1 x (wipe σ2 vs1) H' fun σ3 H5 => wipe σ3 vs1 = wipe σ2 vs1 ∧ tt1 σ3 H5 fun b H6 =>
        if b = true then tk σ3 H6 fun y H7 => tv σ3 H7 fun z H8 => ∃ kvs k, y = kV k ∧ H8 D = some (.dK kvs) ∧ kvs.length < sizeLine ∧ Nx1 (upd H8 D (.dK (putK kvs k z))) else Nx1 H6)
    else Nx H3)
theorem dc2_core {pins : List (Addr × Obj)} {s : Shared} {σ : L2.St} {H : Hp} {Q : VK} {kx vx tg iter tg1 iter1 : Expr} {ifs ifs1 : List Expr} {scope : Scope} {own : List (Str × Nat)} {vs1 : List Nat} {pos pos' : Pos} {wi wi1 : TI} {g g1 : TG} {tt tt1 : TT} {tk tv : TE} {use : Option (Value → Sem Unit)} {Qf : Value → Shared → Prop}
    (hc : X.calm = true) (hN : X.N.Nodup) (I : Inv X pins σ H s) (hi : PI X tg iter wi) (ok : BlkOk X.N X.env.scope scope own) (hv : ∀ i ∈ vs1, i ∈ own.map (·.2))
    (hg : ∀ (s : Shared) (H : Hp) (C : Addr) (cl : List (Str × Addr)) (fp : List Addr), PG (X.blk s H scope (compEnvC scope cl C X.env) fp) tg g) (ht : ∀ (s : Shared) (H : Hp) (C : Addr) (cl : List (Str × Addr)) (fp : List Addr), PTs (X.blk s H scope (compEnvC scope cl C X.env) fp) ifs tt)
    (hk : ∀ (s : Shared) (H : Hp) (C : Addr) (cl : List (Str × Addr)) (fp : List Addr), PE (X.blk s H scope (compEnvC scope cl C X.env) fp) kx tk)
    (he : ∀ (s : Shared) (H : Hp) (C : Addr) (cl : List (Str × Addr)) (fp : List Addr), PE (X.blk s H scope (compEnvC scope cl C X.env) fp) vx tv) (hs : ∀ x, foldedSetIterable iter X.env x = pure x)
    (hi1 : ∀ (s : Shared) (H : Hp) (C : Addr) (cl : List (Str × Addr)) (fp : List Addr), PI (X.blk s H scope (compEnvC scope cl C X.env) fp) tg1 iter1 wi1)
    (hg1 : ∀ (s : Shared) (H : Hp) (C : Addr) (cl : List (Str × Addr)) (fp : List Addr), PG (X.blk s H scope (compEnvC scope cl C X.env) fp) tg1 g1)
    (ht1 : ∀ (s : Shared) (H : Hp) (C : Addr) (cl : List (Str × Addr)) (fp : List Addr), PTs (X.blk s H scope (compEnvC scope cl C X.env) fp) ifs1 tt1)
    (hs1 : ∀ env x, foldedSetIterable iter1 env x = pure x)
    (h : tDc2 wi g tt wi1 g1 tt1 tk tv (own.map (·.2)) vs1 σ H Q)
    (hRR : ∀ D C s' m H', Inv X pins σ H' s' → Q (.ref D) H' → s'.heap.Ns C m → FpOk X pins H' C → compPost (model X.prog X.w) X.A X.xe use Qf (.ref D) C (.ok .next) s') :
    wpAny (model X.prog X.w) X.A (comprehension (.DictComp kx vx [⟨tg, iter, ifs, 0⟩, ⟨tg1, iter1, ifs1, 0⟩] scope pos) scope X.env pos' newDict false (eval iter X.env) use) Qf X.xe s := by
  have hfree : ∀ y ∈ scope.names, y.2 = .free → ∃ c, X.env.cells.lookup y.1 = some c := fun y hy e => by
    rcases ok.free y hy e with k | k
    · exact I.ok.has _ (.inl k)
    · exact I.ok.has _ (.inr k)
  refine wpAny_comprehension_free (use := use) rfl hs (closure_ok hfree) ok.kind (fun y hy e => by rw [ok.uniq y hy, e])
    (thn (hi.run pins s σ H _ I h) fun xv s1 hx => thn hx fun itv s2 h2 => ?_)
  obtain ⟨it, fp, tn, J, H2, e, I2, T, st2, f2, q⟩ := h2
  subst e
  refine wpAny_newObj_type (newEnv_comp ?_)
  generalize hD : s2.heap.objs.size = D
  have hDn : H2 D = none := I2.hok.fresh (Nat.le_of_eq hD)
  obtain ⟨W, ⟨m0, w0⟩, turn⟩ := q D hDn
  -- the new list
  generalize hs3 : ({ s2 with heap := s2.heap.push { cls := .type "dict", data := .dict #[] } } : Shared) = s3
  have I3 : Inv X pins σ (upd H2 D (.dK [])) s3 := by
    rw [← hs3]
    refine I2.laid (t' := s2.toks) (fun b o e => Heap.get?_push_of_some _ e) (Nat.le_of_eq hD) ?_
    rw [← hD]
    exact dk_empty s2.heap I2.big
  have h3 : s3.heap = s2.heap.push { cls := .type "dict", data := .dict #[] } := by rw [← hs3]
  have sz : ∀ b ∈ fp, b < s2.heap.objs.size := fun b hb => by
    obtain ⟨o, e, _⟩ := T.obj _ _ st2 b hb
    exact Heap.lt_size e
  have f3 : ∀ b ∈ fp, FpOk X pins (upd H2 D (.dK [])) b ∧ b < s3.heap.objs.size := fun b hb => by
    have hlt := sz b hb
    refine ⟨⟨?_, (f2 b hb).2⟩, by rw [h3, Heap.size_push]; exact Nat.lt_succ_of_lt hlt⟩
    rw [upd_ne (by rw [← hD]; exact Nat.ne_of_lt hlt)]
    exact (f2 b hb).1
  have st3 : tn 0 s3.heap := T.keep _ _ _ st2 fun b _ o e => by rw [h3]; exact Heap.get?_push_of_some _ e
  have I4 := block_start I3 ok hN f3
  have pg := hg s3 (upd H2 D (.dK [])) s3.heap.objs.size (cellsFrom (s3.heap.objs.size + 1) scope.names (cloFrom X.env.cells scope.names [])) fp
  have pt := ht s3 (upd H2 D (.dK [])) s3.heap.objs.size (cellsFrom (s3.heap.objs.size + 1) scope.names (cloFrom X.env.cells scope.names [])) fp
  have pk := hk s3 (upd H2 D (.dK [])) s3.heap.objs.size (cellsFrom (s3.heap.objs.size + 1) scope.names (cloFrom X.env.cells scope.names [])) fp
  have pe := he s3 (upd H2 D (.dK [])) s3.heap.objs.size (cellsFrom (s3.heap.objs.size + 1) scope.names (cloFrom X.env.cells scope.names [])) fp
  have pi1 := hi1 s3 (upd H2 D (.dK [])) s3.heap.objs.size (cellsFrom (s3.heap.objs.size + 1) scope.names (cloFrom X.env.cells scope.names [])) fp
  have pg1 := hg1 s3 (upd H2 D (.dK [])) s3.heap.objs.size (cellsFrom (s3.heap.objs.size + 1) scope.names (cloFrom X.env.cells scope.names [])) fp
  have pt1 := ht1 s3 (upd H2 D (.dK [])) s3.heap.objs.size (cellsFrom (s3.heap.objs.size + 1) scope.names (cloFrom X.env.cells scope.names [])) fp
  show codeAny _ _ (.compStart (.DictComp kx vx [⟨tg, iter, ifs, 0⟩, ⟨tg1, iter1, ifs1, 0⟩] scope pos) 0 (.ref it) (.ref D) (compEnvC scope (cellsFrom (s3.heap.objs.size + 1) scope.names (cloFrom X.env.cells scope.names [])) s3.heap.objs.size X.env)) (compPost (model X.prog X.w) X.A X.xe use Qf (.ref D) s3.heap.objs.size) { s3 with heap := pushCells (s3.heap.push { cls := .type "dict", data := .dict #[] }) scope.names }
  have nfp : ∀ b ∈ fp, (upd H2 D (.dK [])) b = none := fun b hb => (f3 b hb).1.1
  generalize hce : compEnvC scope (cellsFrom (s3.heap.objs.size + 1) scope.names (cloFrom X.env.cells scope.names [])) s3.heap.objs.size X.env = ce at I4 pg pt pk pe pi1 pg1 pt1 ⊢
  have cL : ce.locals = s3.heap.objs.size := by subst hce; rfl
  generalize hH3 : upd H2 D (.dK []) = H3 at I3 I4 pg pt pk pe pi1 pg1 pt1 w0 nfp f3
  generalize hs4 : ({ s3 with heap := pushCells (s3.heap.push { cls := .type "dict", data := .dict #[] }) scope.names } : Shared) = s4 at I4 ⊢
  have st4 : tn 0 s4.heap := T.keep _ _ _ st3 fun b _ o e => by rw [← hs4]; exact pushCells_keeps _ _ _ _ (Heap.get?_push_of_some _ e)
  have stat : ∀ {σ' : L2.St} {H' : Hp} {s' : Shared}, Inv (X.blk s3 H3 scope ce fp) [] σ' H' s' → (∀ b ∈ fp, H' b = none) → ∀ b ∈ fp, FpOk (X.blk s3 H3 scope ce fp) [] H' b := fun {σ' H' s'} I' hn b hb =>
    ⟨hn b hb, (I'.ok.exf b hb).1, I'.ok.exfs b hb, .inl hb, fun x c e => (I'.ok.exf b hb).2 x c e, fun p hp => absurd (show p ∈ ([] : List (Addr × Obj)) ++ [] from hp) (by simp)⟩
  have loop : codeAny (model X.prog X.w) X.A (.compLoop (.DictComp kx vx [⟨tg, iter, ifs, 0⟩, ⟨tg1, iter1, ifs1, 0⟩] scope pos) 0 (.ref it) (.ref D) ce) (compPost (model X.prog X.w) X.A X.xe use Qf (.ref D) s3.heap.objs.size) s4 := by
    refine compLoop2d_out (hs1 ce) (fun n s' => ∃ i H', Inv (X.blk s3 H3 scope ce fp) [] (wipe σ (own.map (·.2))) H' s' ∧ tn i s'.heap ∧ (∀ b ∈ fp, H' b = none) ∧ W i n H') ?_ m0 ⟨0, H3, I4, st4, nfp, w0⟩
    rintro n s5 ⟨i, H5, I5, st5, n5, w5⟩
    rcases turn i n H5 w5 with ⟨stop, qq⟩ | ⟨go, Nx, hNx, step⟩
    · have td := T.done (X.blk s3 H3 scope ce fp) rfl rfl rfl hc i [] s5 _ H5 (fun _ _ => False) I5 (stat I5 n5) st5 stop
      refine thnF td fun r s6 ⟨hr, I6⟩ => ?_
      subst hr
      -- back in the def's context
      have I7 : Inv X pins σ H5 s6 := I3.call' (ch := fp) I6.os I6.base I6.hok I6.bare fun b hb => ⟨(f3 b hb).1.2.2.2.1, (f3 b hb).1.2.1, (f3 b hb).1.2.2.2.2.1, (f3 b hb).1.2.2.2.2.2⟩
      have nC : H5 s3.heap.objs.size = none := by
        have z : H5 ce.locals = none := I6.free
        rw [cL] at z
        exact z
      obtain ⟨m, hn, _⟩ := I6.loc
      have hn : s6.heap.Ns ce.locals m := hn
      rw [cL] at hn
      exact hRR D s3.heap.objs.size s6 m H5 I7 qq hn (I3.fpOk (Nat.le_refl _) nC)
    · have ti := T.item (X.blk s3 H3 scope ce fp) rfl rfl rfl hc i [] s5 _ H5 (fun _ _ => False) I5 (stat I5 n5) st5 go
      refine thnF ti fun r s6 ⟨u, hr, h6⟩ => ?_
      subst hr
      refine thnF h6 fun _ s7 ⟨x, H7, I7, r7, y7, st7, n7⟩ => ?_
      have I7' := I7.pinned (stat I7 n7) (T.obj _ _ st7)
      refine thnF (pg.run _ s7 _ H7 x u _ I7' r7 (step x H7 y7)) fun _ s8 ⟨σ8, H8, I8, hw8, q8⟩ => ?_
      refine thnF (pt.run _ s8 σ8 H8 _ I8 q8) fun b s9 ⟨H9, I9, q9⟩ => ?_
      -- the turn's end, from any slots that know what the block knew at its start
      have fin : ∀ {σ9 : L2.St} {s' : Shared} {H' : Hp}, Inv (X.blk s3 H3 scope ce fp) ([] ++ pinsAt fp s7.heap) σ9 H' s' → (wipe σ (own.map (·.2))).length = σ9.length → (∀ (j : Nat) v, (wipe σ (own.map (·.2)))[j]? = some (some v) → σ9[j]? = some (some v)) → Nx H' →
          ∃ m, m < n ∧ ∃ i H', Inv (X.blk s3 H3 scope ce fp) [] (wipe σ (own.map (·.2))) H' s' ∧ tn i s'.heap ∧ (∀ b ∈ fp, H' b = none) ∧ W i m H' := fun {σ9 s' H'} I' hl hk nx => by
        obtain ⟨m', hm, w'⟩ := hNx H' nx
        have pin' : ∀ b ∈ fp, ∀ o, s7.heap.get? b = some o → s'.heap.get? b = some o ∧ H' b = none := fun b hb o e =>
          let z := I'.pin (b, o) (List.mem_append_right _ (List.mem_append_right _ (mem_pinsAt hb e)))
          ⟨z.1, z.2.1⟩
        refine ⟨m', hm, i + 1, H', (I'.unpinned (pins := [])).weak hl hk, T.keep _ _ _ st7 fun b hb o e => (pin' b hb o e).1, fun b hb => ?_, w'⟩
        obtain ⟨o, e, _⟩ := T.obj _ _ st7 b hb
        exact (pin' b hb o e).2
      have hl8 : (wipe σ (own.map (·.2))).length = σ8.length := by rw [← hw8, wipe_length]
      have hk8 : ∀ (j : Nat) v, (wipe σ (own.map (·.2)))[j]? = some (some v) → σ8[j]? = some (some v) := fun j v e => by
        rw [← hw8] at e
        exact (wipe_some e).1
      have hk9 : ∀ (j : Nat) v, (wipe σ (own.map (·.2)))[j]? = some (some v) → (wipe σ8 vs1)[j]? = some (some v) := fun j v e => by
        rw [← hw8] at e
        obtain ⟨e1, e2⟩ := wipe_some e
        rw [wipe_out fun z => e2 (hv j z)]
        exact e1
      cases b with
      | false =>
        simp only [Bool.false_eq_true, if_false] at q9 ⊢
        exact fin I9 hl8 hk8 q9
      | true =>
        simp only [if_true] at q9 ⊢
        refine thnF (pi1.run _ s9 σ8 H9 _ I9 q9) fun xv s10 hx => thnF hx fun itv s11 h11 => ?_
        obtain ⟨it1, fp1, tn1, J1, H11, e1, I11, T1, st11, f11, W1, ⟨m1, w1⟩, turn1⟩ := h11
        subst e1
        -- the inner loop
        have stat1 : ∀ {H' : Hp}, (∀ b ∈ fp1, H' b = none) → ∀ b ∈ fp1, FpOk (X.blk s3 H3 scope ce fp) ([] ++ pinsAt fp s7.heap) H' b := fun hn b hb => ⟨hn b hb, (f11 b hb).2⟩
        have loop1 : codeAny (model X.prog X.w) X.A (.compLoop (.DictComp kx vx [⟨tg, iter, ifs, 0⟩, ⟨tg1, iter1, ifs1, 0⟩] scope pos) 1 (.ref it1) (.ref D) ce)
            (fun r s' => match r with
              | .ok _ => ∃ m, m < n ∧ ∃ i H', Inv (X.blk s3 H3 scope ce fp) [] (wipe σ (own.map (·.2))) H' s' ∧ tn i s'.heap ∧ (∀ b ∈ fp, H' b = none) ∧ W i m H'
              | .error _ => False) s11 := by
          refine compLoop2d_in (fun k s' => ∃ j H', Inv (X.blk s3 H3 scope ce fp) ([] ++ pinsAt fp s7.heap) (wipe σ8 vs1) H' s' ∧ tn1 j s'.heap ∧ (∀ b ∈ fp1, H' b = none) ∧ W1 j k H') ?_ m1 ⟨0, H11, I11.weak (wipe_length _ _) (fun j v e => (wipe_some e).1), st11, fun b hb => (f11 b hb).1, w1⟩
          rintro k s12 ⟨j, H12, I12, st12, n12, w12⟩
          rcases turn1 j k H12 w12 with ⟨stop1, nx1⟩ | ⟨go1, Nx1, hNx1, step1⟩
          · refine thnF (T1.done (X.blk s3 H3 scope ce fp) rfl rfl rfl hc j _ s12 (wipe σ8 vs1) H12 (fun _ _ => False) I12 (stat1 n12) st12 stop1) fun r s13 ⟨hr, I13⟩ => ?_
            subst hr
            exact fin I13 (hl8.trans (wipe_length σ8 vs1).symm) hk9 nx1
          · refine thnF (T1.item (X.blk s3 H3 scope ce fp) rfl rfl rfl hc j _ s12 (wipe σ8 vs1) H12 (fun _ _ => False) I12 (stat1 n12) st12 go1) fun r s13 ⟨u1, hr, h13⟩ => ?_
            subst hr
            refine thnF h13 fun _ s14 ⟨x1, H14, I14, r14, y14, st14, n14⟩ => ?_
            have I14' := I14.pinned (stat1 n14) (T1.obj _ _ st14)
            refine thnF (pg1.run _ s14 (wipe σ8 vs1) H14 x1 u1 _ I14' r14 (step1 x1 H14 y14)) fun _ s15 ⟨σ15, H15, I15, hw15, q15⟩ => ?_
            refine thnF (pt1.run _ s15 σ15 H15 _ I15 q15) fun b1 s16 ⟨H16, I16, q16⟩ => ?_
            have fin1 : ∀ {s' : Shared} {H' : Hp}, Inv (X.blk s3 H3 scope ce fp) (([] ++ pinsAt fp s7.heap) ++ pinsAt fp1 s14.heap) σ15 H' s' → Nx1 H' → ∃ m, m < k ∧ ∃ j H', Inv (X.blk s3 H3 scope ce fp) ([] ++ pinsAt fp s7.heap) (wipe σ8 vs1) H' s' ∧ tn1 j s'.heap ∧ (∀ b ∈ fp1, H' b = none) ∧ W1 j m H' := fun {s' H'} I' nx => by
              obtain ⟨m', hm, w'⟩ := hNx1 H' nx
              have pin' : ∀ b ∈ fp1, ∀ o, s14.heap.get? b = some o → s'.heap.get? b = some o ∧ H' b = none := fun b hb o e =>
                let z := I'.pin (b, o) (List.mem_append_right _ (List.mem_append_right _ (mem_pinsAt hb e)))
                ⟨z.1, z.2.1⟩
              refine ⟨m', hm, j + 1, H', I'.unpinned.weak (by rw [← hw15, wipe_length]) (fun j v e => by rw [← hw15] at e; exact (wipe_some e).1), T1.keep _ _ _ st14 fun b hb o e => (pin' b hb o e).1, fun b hb => ?_, w'⟩
              obtain ⟨o, e, _⟩ := T1.obj _ _ st14 b hb
              exact (pin' b hb o e).2
            cases b1 with
            | false =>
              simp only [Bool.false_eq_true, if_false] at q16 ⊢
              exact fin1 I16 q16
            | true =>
              simp only [if_true] at q16 ⊢
              refine thnF (pk.run _ s16 σ15 H16 _ I16 q16) fun zk s17 ⟨yk, H17, I17, r17, q17⟩ => ?_
              refine thnF (pe.run _ s17 σ15 H17 _ I17 q17) fun zv s18 ⟨yv, H18, I18, r18, kvs, k, ek, hD18, hz18, nx⟩ => ?_
              subst ek
              exact d_dictSet (X := X.blk s3 H3 scope ce fp) I18 hD18 hz18 r17 r18 fun s19 I19 => fin1 I19 nx
        exact compStart1d_ok loop1 (T1.self X.A 0 _ _ _ st11 loop1)
  exact codeAny_compStart_dict loop (T.self X.A 0 _ _ _ st4 loop)
theorem pe_dc2 {kx vx tg iter tg1 iter1 : Expr} {ifs ifs1 : List Expr} {scope : Scope} {own : List (Str × Nat)} {vs1 : List Nat} {pos : Pos} {wi wi1 : TI} {g g1 : TG} {tt tt1 : TT} {tk tv : TE} (hc : X.calm = true) (hN : X.N.Nodup) (hi : PI X tg iter wi) (ok : BlkOk X.N X.env.scope scope own) (hv : ∀ i ∈ vs1, i ∈ own.map (·.2))
    (hg : ∀ (s : Shared) (H : Hp) (C : Addr) (cl : List (Str × Addr)) (fp : List Addr), PG (X.blk s H scope (compEnvC scope cl C X.env) fp) tg g) (ht : ∀ (s : Shared) (H : Hp) (C : Addr) (cl : List (Str × Addr)) (fp : List Addr), PTs (X.blk s H scope (compEnvC scope cl C X.env) fp) ifs tt)
    (hi1 : ∀ (s : Shared) (H : Hp) (C : Addr) (cl : List (Str × Addr)) (fp : List Addr), PI (X.blk s H scope (compEnvC scope cl C X.env) fp) tg1 iter1 wi1)
    (hg1 : ∀ (s : Shared) (H : Hp) (C : Addr) (cl : List (Str × Addr)) (fp : List Addr), PG (X.blk s H scope (compEnvC scope cl C X.env) fp) tg1 g1) (ht1 : ∀ (s : Shared) (H : Hp) (C : Addr) (cl : List (Str × Addr)) (fp : List Addr), PTs (X.blk s H scope (compEnvC scope cl C X.env) fp) ifs1 tt1)
    (hk : ∀ (s : Shared) (H : Hp) (C : Addr) (cl : List (Str × Addr)) (fp : List Addr), PE (X.blk s H scope (compEnvC scope cl C X.env) fp) kx tk)
    (he : ∀ (s : Shared) (H : Hp) (C : Addr) (cl : List (Str × Addr)) (fp : List Addr), PE (X.blk s H scope (compEnvC scope cl C X.env) fp) vx tv) (hs : ∀ x, foldedSetIterable iter X.env x = pure x := by intro _; rfl) (hs1 : ∀ env x, foldedSetIterable iter1 env x = pure x := by intro _ _; rfl) :
    PE X (.DictComp kx vx [⟨tg, iter, ifs, 0⟩, ⟨tg1, iter1, ifs1, 0⟩] scope pos) (tDc2 wi g tt wi1 g1 tt1 tk tv (own.map (·.2)) vs1) := by
  refine ⟨fun pins s σ H Q I h => ?_⟩
  rw [arm_eval_DictComp]
  refine dc2_core hc hN I hi ok hv hg ht hk he hs hi1 hg1 ht1 hs1 h fun D C s' m H' I' q hn f => ⟨m, hn, fun h'' sb => ?_⟩
  obtain ⟨f0, f1, f2, f3, f4, f5⟩ := f
  exact ⟨.ref D, H', I'.turned (t' := s'.toks) (fun b o hb e => (sb.2 b hb).trans e) f0 f1 f3 f4 f5, rfl, q⟩
end
end DL

set_option Elab.async false
set_option linter.all false
set_option maxRecDepth 100000
set_option maxHeartbeats 4000000
/-! E17: sorted({k: True for .. for .. if ..}), the keys whole numbers. -/
namespace Dn
open PySem L2
def dsd2 (it : DI) (vs : List Nat) (γ : DG) (t : DT) (it1 : DI) (vs1 : List Nat) (γ1 : DG) (t1 : DT) (e : DE) : DE := fun ρ g => (it ρ g).bind fun ds g => (lcL (lbody2 γ t it1 vs1 γ1 t1 e (wipeE ρ vs)) ds g).noex.bind fun out g => match intsD out with
  | some ns => if ns.length ≤ 60 then .ok (.fr, .lst ((ssI ns).map .int)) g else .no
  | none => .no
theorem intsD_len : ∀ {ds : List D} {ns : List Int}, intsD ds = some ns → ds.length = ns.length
  | [], _, e => by cases e; rfl
  | .int i :: ds, ns, e => by
    simp only [intsD] at e
    cases e1 : intsD ds with
    | none => rw [e1] at e; cases e
    | some ms => rw [e1] at e; cases e; rw [List.length_cons, List.length_cons, intsD_len e1]
  | .non :: _, _, e | .bl _ :: _, _, e | .str _ :: _, _, e | .tup _ :: _, _, e | .lst _ :: _, _, e => by cases e
theorem intsD_int : ∀ {ds : List D} {ns : List Int} {d : D}, intsD ds = some ns → d ∈ ds → ∃ k, d = .int k
  | .int i :: ds, ns, d, e, h => by
    simp only [intsD] at e
    cases e1 : intsD ds with
    | none => rw [e1] at e; cases e
    | some ms =>
      rcases List.mem_cons.mp h with z | z
      · exact ⟨i, z⟩
      · exact intsD_int e1 z
  | .non :: _, _, _, e, _ | .bl _ :: _, _, _, e, _ | .str _ :: _, _, _, e, _ | .tup _ :: _, _, _, e, _ | .lst _ :: _, _, _, e, _ => by cases e
theorem intsD_mem : ∀ {ds : List D} {ns : List Int} {k : Int}, intsD ds = some ns → (.int k ∈ ds ↔ k ∈ ns)
  | [], _, _, e => by cases e; simp
  | .int i :: ds, ns, k, e => by
    simp only [intsD] at e
    cases e1 : intsD ds with
    | none => rw [e1] at e; cases e
    | some ms =>
      rw [e1] at e
      cases e
      rw [List.mem_cons, List.mem_cons, intsD_mem e1]
      exact ⟨fun z => z.imp (fun q => by cases q; rfl) id, fun z => z.imp (fun q => by rw [q]) id⟩
  | .non :: _, _, _, e | .bl _ :: _, _, _, e | .str _ :: _, _, _, e | .tup _ :: _, _, _, e | .lst _ :: _, _, _, e => by cases e
theorem putK_keys {kvs : List (Key × V)} {ks : List Int} {k : Int} {v : V} (h : kvs.map (·.1) = ks.map Sum.inl) : (putK kvs (.inl k) v).map (·.1) = (if k ∈ ks then ks else ks ++ [k]).map Sum.inl := by
  have e : (kvs.any fun kv => decide (kv.1 = (Sum.inl k : Key))) = true ↔ k ∈ ks := by
    rw [List.any_eq_true]
    constructor
    · rintro ⟨kv, hm, hq⟩
      have : kv.1 ∈ kvs.map (·.1) := List.mem_map.mpr ⟨kv, hm, rfl⟩
      rw [h, of_decide_eq_true hq] at this
      obtain ⟨j, hj, ej⟩ := List.mem_map.mp this
      cases ej
      exact hj
    · intro hm
      have : (Sum.inl k : Key) ∈ kvs.map (·.1) := by rw [h]; exact List.mem_map.mpr ⟨k, hm, rfl⟩
      obtain ⟨kv, h1, h2⟩ := List.mem_map.mp this
      exact ⟨kv, h1, decide_eq_true h2⟩
  unfold putK
  by_cases hk : k ∈ ks
  · rw [if_pos (e.mpr hk), if_pos hk, List.map_map, ← h]
    refine List.map_congr_left fun kv _ => ?_
    show (if kv.1 = _ then (kv.1, v) else kv).1 = kv.1
    split <;> rfl
  · rw [if_neg (fun z => hk (e.mp z)), if_neg hk, List.map_append, List.map_append, h]
    rfl
section
variable {c : Cg} {X : Cx} {W' : WX} {pos : Pos} {is : List Nat}
def rSD : List V → Hp → VK → Prop := fun xs H Q => ∃ (a : Addr) (kvs : List (Key × V)) (ks : List Int), xs = [.ref a] ∧ Rd H a (.dK kvs) ∧ kvs.map (·.1) = ks.map Sum.inl ∧ ks.length < 64 ∧
    ∀ (ys : List Int) (p : Addr), ys.Perm ks → ys.Pairwise (· ≤ ·) → H p = none → Q (.ref p) (upd H p (.lst (ys.map V.int)))
theorem SR.putO {D : Addr} {ps : Ps} {vs : List Nat} {W : List Addr} {psw : Ps} {σ : L2.St} {H : Hp} {ρ : Env} {g : G} {o o' : HO} (S : SR c (blkW D ps vs W) psw σ H ρ g) (hc : ∀ q, o' ≠ LamX.CodeO D q) (hz : H D = some o') (hb : ¬ c.β.ex D) : SR c (blkW D ps vs W) psw σ (upd H D o) ρ g := by
  have hD : D ∈ blkW D ps vs W := List.mem_cons_self
  have nD : ∀ p ∈ owns psw, p ≠ D := fun p z e => S.dj p z (e ▸ hD)
  refine ⟨S.sl.chg ⟨rfl, fun _ e => e, fun a o e n => ⟨?_, n⟩⟩ (fun q z o e => ?_), S.nd, S.dj, fun a z => ?_, S.bx.upd hb hz hc, S.bo⟩
  · rw [upd_ne (fun z => n (by rw [z]; exact List.mem_append_right _ hD))]; exact e
  · rw [upd_ne (nD q (mem_owns.mpr z))]; exact e
  · by_cases e : a = D
    · rw [e, upd_same]; exact fun z => by cases z
    · rw [upd_ne e]; exact S.old a z
theorem SR.blkO {W : List Addr} {ps : Ps} {σ : L2.St} {H : Hp} {ρ : Env} {g : G} {D : Addr} {o : HO} (S : SR c W ps σ H ρ g) (vs : List Nat) (hD : H D = none) (hc : ∀ q, HO.lst [] ≠ LamX.CodeO D q) (hb : ¬ c.β.ex D := by assumption) : SR c (blkW D ps vs W) (wipeP ps vs) (wipe σ vs) (upd H D o) (wipeE ρ vs) g := by
  have q := (S.blk vs hD).putO (o := o) hc upd_same hb
  rwa [upd_upd] at q
structure DcI (c : Cg) (W : List Addr) (ps : Ps) (vs : List Nat) (ρ : Env) (σ : L2.St) (D : Addr) (H1 : Hp) (kvs : List (Key × V)) (da : List Dn.D) (H2 : Hp) (g : G) : Prop where
  S : SR c (blkW D ps vs W) (wipeP ps vs) (L2.wipe σ vs) H2 (wipeE ρ vs) g
  f : ∀ a o, H1 a = some o → a ≠ D → ¬ c.β.ex a → H2 a = some o
  hD : H2 D = some (.dK kvs)
  ky : ∃ ks : List Int, kvs.map (·.1) = ks.map Sum.inl ∧ ks.Nodup ∧ (∀ k, k ∈ ks ↔ Dn.D.int k ∈ da) ∧ ks.length ≤ da.length
section
variable {W : List Addr} {ps : Ps} {vs : List Nat} {ρ : Env} {σ : L2.St} {D : Addr} {H1 H2 H3 : Hp} {kvs : List (Key × V)} {da : List Dn.D} {g g' : G}
theorem DcI.step (L : DcI c W ps vs ρ σ D H1 kvs da H2 g) (f : Fr c.β H2 H3) (b : Bx c.β H3 g') (nb : ¬ c.β.ex D) (bo : ∀ b, c.β.ex b → b ∈ owns ps ++ W) : DcI c W ps vs ρ σ D H1 kvs da H3 g' :=
  ⟨L.S.step f b, fun a o e n q => f a o (L.f a o e n q) q, f D _ L.hD nb, L.ky⟩
theorem DcI.put (L : DcI c W ps vs ρ σ D H1 kvs da H2 g) {k : Int} {v : V} (nb : ¬ c.β.ex D) : DcI c W ps vs ρ σ D H1 (putK kvs (.inl k) v) (da ++ [Dn.D.int k]) (upd H2 D (.dK (putK kvs (.inl k) v))) g := by
  refine ⟨L.S.putO (fun q z => by unfold LamX.CodeO at z; cases z) L.hD nb, fun a o e n q => ?_, upd_same, ?_⟩
  · rw [upd_ne n]; exact L.f a o e n q
  · obtain ⟨ks, h1, h2, h3, h4⟩ := L.ky
    refine ⟨_, putK_keys h1, ?_, fun j => ?_, ?_⟩
    · split
      · exact h2
      · rename_i hn
        exact List.nodup_append.mpr ⟨h2, (List.nodup_cons.mpr ⟨(fun z => by cases z), List.nodup_nil⟩), fun a ha b hb e => hn (by rw [← List.mem_singleton.mp hb, ← e]; exact ha)⟩
    · rw [List.mem_append, List.mem_singleton, ← h3 j]
      split
      · rename_i hy
        exact ⟨.inl, fun z => z.elim id fun q => by cases q; exact hy⟩
      · rw [List.mem_append, List.mem_singleton]
        exact ⟨fun z => z.imp id fun q => by rw [q], fun z => z.imp id fun q => by cases q; rfl⟩
    · rw [List.length_append]
      split
      · omega
      · rw [List.length_append]; exact Nat.add_le_add_right h4 _
end
theorem dc2_r {it it1 : DI} {vs vs1 : List Nat} {γ γ1 : DG} {t t1 : DT} {e : DE} {ρ : Env} {g : G} {σ : L2.St} {H : Hp} {Q : VK} (hv : ∀ i ∈ vs1, i ∈ vs) (h : tE c W' ρ g (dsd2 it vs γ t it1 vs1 γ1 t1 e ρ g) σ H Q) :
    tCB rSD (tCons (DL.tDc2 (tI c W' false ρ g (it ρ g)) (anyG c vs γ) (anyT c W0 t) (anyI c W0 it1) (anyG c vs1 γ1) (anyT c W0 t1) (anyE c W0 e) (tC (.bl true)) vs vs1) tNil) σ H Q := by
  obtain ⟨W, ps, S, h⟩ := h
  refine ⟨W, ps, S, ?_⟩
  unfold dsd2 at h
  cases ea : it ρ g with
  | no => rw [ea] at h; exact h
  | ex n g1 => rw [ea] at h; exact h
  | ok ds g1 =>
    rw [ea, Re.bind_ok] at h
    cases el : lcL (lbody2 γ t it1 vs1 γ1 t1 e (wipeE ρ vs)) ds g1 with
    | no => rw [el] at h; exact h.elim
    | ex n g2 => rw [el] at h; exact h.elim
    | ok out g2 =>
      rw [el] at h
      replace h : WantE c W' (owns ps ++ W) σ H Q (match intsD out with | some ns => if ns.length ≤ 60 then .ok (.fr, .lst ((ssI ns).map .int)) g2 else .no | none => .no) := h
      cases en : intsD out with
      | none => rw [en] at h; exact h.elim
      | some ns =>
      rw [en] at h
      dsimp only at h
      by_cases ho : ns.length ≤ 60
      case neg => rw [if_neg ho] at h; exact h.elim
      rw [if_pos ho] at h
      have outn : out.length = ns.length := intsD_len en
      have outl : out.length ≤ 60 := by omega
      intro J H1 f1 b1 wk D hD
      obtain ⟨hz, Gd, Y, w, hG, hY⟩ := wk
      have S1 := S.step f1 b1
      have nb : ¬ c.β.ex D := fun z => S1.there D (S1.bU D z) hD
      have bo : ∀ b, c.β.ex b → b ∈ owns ps ++ W := S1.bU
      have sub : ∀ a, a ∈ D :: (owns ps ++ W) ↔ a ∈ owns (wipeP ps vs) ++ blkW D ps vs W := fun a => by
        rw [mem_blk, List.mem_cons, List.mem_append]
      refine any_it (B := fun x H' N => anyG c vs γ x (L2.wipe σ vs) H' fun σ2 H2 => L2.wipe σ2 vs = L2.wipe σ vs ∧ anyT c W0 t σ2 H2 fun b H3 =>
        if b = true then anyI c W0 it1 σ2 H3 fun J1 H4 => ∃ W1 : Nat → Nat → Hp → Prop, (∃ m, W1 0 m H4) ∧ ∀ j k H, W1 j k H →
          (J1.stop j H ∧ N H) ∨ (J1.go j H ∧ ∃ Nx1 : Hp → Prop, (∀ H', Nx1 H' → ∃ k', k' < k ∧ W1 (j + 1) k' H') ∧ ∀ x H', J1.yld j H x H' → anyG c vs1 γ1 x (L2.wipe σ2 vs1) H' fun σ3 H5 => L2.wipe σ3 vs1 = L2.wipe σ2 vs1 ∧ anyT c W0 t1 σ3 H5 fun b H6 =>
            if b = true then anyE c W0 e σ3 H6 fun y H7 => tC (.bl true) σ3 H7 fun z H8 => ∃ kvs k, y = kV k ∧ H8 D = some (.dK kvs) ∧ kvs.length < sizeLine ∧ Nx1 (upd H8 D (.dK (putK kvs k z))) else Nx1 H6)
        else N H3) w (fun i H2 => ∃ g2' va da rest, DcI c W ps vs ρ σ D H1 va da H2 g2' ∧
        lcL (lbody2 γ t it1 vs1 γ1 t1 e (wipeE ρ vs)) (ds.drop i) g2' = .ok rest g2 ∧ da ++ rest = out) ⟨g1, [], [], out, ⟨S1.blkO vs hD (fun q z => by unfold LamX.CodeO at z; cases z), fun a o e n _ => by rw [upd_ne n]; exact e, upd_same, [], rfl, List.nodup_nil, fun k => ⟨fun z => (by cases z), fun z => (by cases z)⟩, Nat.le_refl _⟩, by simpa using el, rfl⟩ ?_ ?_ ?_
      · rintro i H2 _ ⟨g2', va, da, rest, L, _⟩
        exact hG H2 fun a o e n => L.f a o e (fun z => by rw [z, hD] at e; cases e) n
      · rintro i x H2 H3 hi ⟨g2', va, da, rest, L2', ell, eo⟩ y
        have keep : ∀ a o, H1 a = some o → a ∉ owns ps ++ W → a ∉ owns (wipeP ps vs) ++ blkW D ps vs W := fun a o e n z => by
          have nD : a ≠ D := fun z => by rw [z, hD] at e; cases e
          rcases mem_blk.mp z with z | z | z
          · exact nD z
          · exact n (List.mem_append_left _ z)
          · exact n (List.mem_append_right _ z)
        obtain ⟨d, hd, e3, r⟩ := hY i H2 x H3 _ hi (fun a o e n => L2'.f a o e (fun z => by rw [z, hD] at e; cases e) n) keep L2'.S.there y
        have ed : ds.drop i = d :: ds.drop (i + 1) := by
          rw [List.drop_eq_getElem_cons hi]
          have q := List.getElem?_eq_getElem hi
          rw [hd] at q
          rw [← Option.some.inj q]
        rw [ed] at ell
        unfold lcL at ell
        have L3 := L2'.step (ext_fr e3) (L2'.S.bx.fr e3) nb bo
        cases eg : γ d (wipeE ρ vs) with
        | none =>
          have ef : lbody2 γ t it1 vs1 γ1 t1 e (wipeE ρ vs) d g2' = .no := by
            unfold lbody2
            rw [eg]
          rw [ef] at ell
          cases ell
        | some ρ3 =>
          refine ⟨⟨(d, wipeE ρ vs, ρ3), eg⟩, _, _, g2', L3.S, r, fun σ4 ps4 S4 sub4 ch4 chp4 => ⟨ch4.wipe, (ρ3, g2'), _, ps4, S4, ?_⟩⟩
          have ef : lbody2 γ t it1 vs1 γ1 t1 e (wipeE ρ vs) d g2' = (t ρ3 g2').bind fun b g => if b = true then (it1 ρ3 g).bind fun ds1 g => lcL (lbody γ1 t1 e (wipeE ρ3 vs1)) ds1 g else .ok [] g := by
            unfold lbody2
            rw [eg]
          rw [ef] at ell
          cases et : t ρ3 g2' with
          | no => rw [et] at ell; cases ell
          | ex n g3 => rw [et] at ell; cases ell
          | ok b g3 =>
            rw [et, Re.bind_ok] at ell
            intro H5 f5 b5
            have S5 := S4.step f5 b5
            have L5 := L3.step f5 b5 nb bo
            cases b with
            | false =>
              rw [if_neg Bool.false_ne_true] at ell ⊢
              rw [Re.bind_ok] at ell
              cases er : lcL (lbody2 γ t it1 vs1 γ1 t1 e (wipeE ρ vs)) (ds.drop (i + 1)) g3 with
              | no => rw [er] at ell; cases ell
              | ex n g4 => rw [er] at ell; cases ell
              | ok ys g4 =>
                rw [er, Re.bind_ok] at ell
                cases ell
                exact ⟨g3, va, da, ys, L5, er, eo⟩
            | true =>
              rw [if_pos rfl] at ell ⊢
              refine ⟨(ρ3, g3), _, ps4, S5, ?_⟩
              cases ei : it1 ρ3 g3 with
              | no => rw [ei] at ell; cases ell
              | ex n g4 => rw [ei] at ell; cases ell
              | ok ds1 g4 =>
                rw [ei, Re.bind_ok] at ell
                cases e1 : lcL (lbody γ1 t1 e (wipeE ρ3 vs1)) ds1 g4 with
                | no => rw [e1] at ell; cases ell
                | ex n g5 => rw [e1] at ell; cases ell
                | ok xs g5 =>
                  rw [e1, Re.bind_ok] at ell
                  cases er : lcL (lbody2 γ t it1 vs1 γ1 t1 e (wipeE ρ vs)) (ds.drop (i + 1)) g5 with
                  | no => rw [er] at ell; cases ell
                  | ex n g6 => rw [er] at ell; cases ell
                  | ok ys g6 =>
                    rw [er, Re.bind_ok] at ell
                    cases ell
                    intro J1 H6 f6 b6 wk1
                    have S6 := S5.step f6 b6
                    have L6 := L5.step f6 b6 nb bo
                    obtain ⟨hz1, Gd1, Y1, w1, hG1, hY1⟩ := wk1
                    have dl : (da ++ xs).length ≤ 60 := by
                      have : (da ++ (xs ++ ys)).length ≤ 60 := by rw [eo]; exact outl
                      simp only [List.length_append] at this ⊢
                      omega
                    refine any_it (B := fun x H' N => anyG c vs1 γ1 x (L2.wipe σ4 vs1) H' fun σ3 H5 => L2.wipe σ3 vs1 = L2.wipe σ4 vs1 ∧ anyT c W0 t1 σ3 H5 fun b H6 =>
                      if b = true then anyE c W0 e σ3 H6 fun y H7 => tC (.bl true) σ3 H7 fun z H8 => ∃ kvs k, y = kV k ∧ H8 D = some (.dK kvs) ∧ kvs.length < sizeLine ∧ N (upd H8 D (.dK (putK kvs k z))) else N H6) w1
                      (fun j H7 => ∃ g7 va7 da7 rest7, DcI c W ps vs ρ σ D H1 va7 da7 H7 g7 ∧ SR c (blkW D ps vs W) (wipeP ps4 vs1) (L2.wipe σ4 vs1) H7 (wipeE ρ3 vs1) g7 ∧ (∀ a o, H6 a = some o → a ∉ owns ps4 ++ blkW D ps vs W → H7 a = some o) ∧
                        lcL (lbody γ1 t1 e (wipeE ρ3 vs1)) (ds1.drop j) g7 = .ok rest7 g5 ∧ da7 ++ rest7 = da ++ xs) ⟨g4, va, da, xs, L6, S6.wiped vs1, fun _ _ e _ => e, by simpa using e1, rfl⟩ ?_ ?_ ?_
                    · rintro j H7 _ ⟨g7, va7, da7, rest7, L7, S7, f7, _⟩
                      exact hG1 H7 fun a o e n => f7 a o e n
                    · rintro j x1 H7 H8 hj ⟨g7, va7, da7, rest7, L7, S7, f7, el7, eo7⟩ y1
                      have keep1 : ∀ a o, H6 a = some o → a ∉ owns ps4 ++ blkW D ps vs W → a ∉ owns (wipeP ps4 vs1) ++ blkW D ps vs W := fun a o e n z => by
                        rcases List.mem_append.mp z with z | z
                        · exact n (List.mem_append_left _ (owns_wipe z))
                        · exact n (List.mem_append_right _ z)
                      obtain ⟨d1, hd1, e8, r1⟩ := hY1 j H7 x1 H8 _ hj (fun a o e n => f7 a o e n) keep1 S7.there y1
                      have ed1 : ds1.drop j = d1 :: ds1.drop (j + 1) := by
                        rw [List.drop_eq_getElem_cons hj]
                        have q := List.getElem?_eq_getElem hj
                        rw [hd1] at q
                        rw [← Option.some.inj q]
                      rw [ed1] at el7
                      unfold lcL at el7
                      have L8 := L7.step (ext_fr e8) (L7.S.bx.fr e8) nb bo
                      have S8 := S7.step (ext_fr e8) (S7.bx.fr e8)
                      have f8 : ∀ a o, H6 a = some o → a ∉ owns ps4 ++ blkW D ps vs W → H8 a = some o := fun a o e n => e8 a o (f7 a o e n)
                      cases eg1 : γ1 d1 (wipeE ρ3 vs1) with
                      | none =>
                        have ef : lbody γ1 t1 e (wipeE ρ3 vs1) d1 g7 = .no := by
                          unfold lbody
                          rw [eg1]
                        rw [ef] at el7
                        cases el7
                      | some ρ9 =>
                        refine ⟨⟨(d1, wipeE ρ3 vs1, ρ9), eg1⟩, _, _, g7, S8, r1, fun σ9 ps9 S9 sub9 ch9 chp9 => ⟨ch9.wipe, (ρ9, g7), _, ps9, S9, ?_⟩⟩
                        have ef : lbody γ1 t1 e (wipeE ρ3 vs1) d1 g7 = (t1 ρ9 g7).bind fun b g => if b = true then (e ρ9 g).bind fun x g => (match vals [x] with | some ds => .ok ds g | none => .no) else .ok [] g := by
                          unfold lbody
                          rw [eg1]
                          first | done | rfl
                        rw [ef] at el7
                        have nU : ∀ b, c.β.ex b → b ∈ owns ps4 ++ blkW D ps vs W := fun b hb => S6.bU b hb
                        cases et1 : t1 ρ9 g7 with
                        | no => rw [et1] at el7; cases el7
                        | ex n g8 => rw [et1] at el7; cases el7
                        | ok b g8 =>
                          rw [et1, Re.bind_ok] at el7
                          intro H10 f10 b10
                          have S10 := S9.step f10 b10
                          have S10w := S8.step f10 b10
                          have L10 := L8.step f10 b10 nb bo
                          have f10' : ∀ a o, H6 a = some o → a ∉ owns ps4 ++ blkW D ps vs W → H10 a = some o := fun a o e n => f10 a o (f8 a o e n) fun z => n (nU a z)
                          cases b with
                          | false =>
                            rw [if_neg Bool.false_ne_true] at el7 ⊢
                            rw [Re.bind_ok] at el7
                            cases er1 : lcL (lbody γ1 t1 e (wipeE ρ3 vs1)) (ds1.drop (j + 1)) g8 with
                            | no => rw [er1] at el7; cases el7
                            | ex n g9 => rw [er1] at el7; cases el7
                            | ok zs g9 =>
                              rw [er1, Re.bind_ok] at el7
                              cases el7
                              exact ⟨g8, va7, da7, zs, L10, S10w, f10', er1, eo7⟩
                          | true =>
                            rw [if_pos rfl] at el7 ⊢
                            refine ⟨(ρ9, g8), _, ps9, S10, ?_⟩
                            cases ee : e ρ9 g8 with
                            | no => rw [ee] at el7; cases el7
                            | ex n g9 => rw [ee] at el7; cases el7
                            | ok z g9 =>
                              rw [ee, Re.bind_ok] at el7
                              intro v H11 f11 b11 kr
                              cases ev : vals [z] with
                              | none => rw [ev] at el7; cases el7
                              | some zs =>
                                rw [ev] at el7
                                dsimp only at el7
                                rw [Re.bind_ok] at el7
                                cases er1 : lcL (lbody γ1 t1 e (wipeE ρ3 vs1)) (ds1.drop (j + 1)) g9 with
                                | no => rw [er1] at el7; cases el7
                                | ex n g10 => rw [er1] at el7; cases el7
                                | ok ws g10 =>
                                  rw [er1, Re.bind_ok] at el7
                                  cases el7
                                  obtain ⟨dz, rfl⟩ : ∃ dz, zs = [dz] := by
                                    obtain ⟨k, d'⟩ := z
                                    cases k with
                                    | bw => cases ev
                                    | fz => cases ev; exact ⟨_, rfl⟩
                                    | fr => cases ev; exact ⟨_, rfl⟩
                                  obtain ⟨hk, hz2⟩ := vals1_some ev
                                  have rz := kr.toR hk
                                  have S11w := S10w.step f11 b11
                                  have L11 := L10.step f11 b11 nb bo
                                  have mz : dz ∈ out := by
                                    rw [← eo]
                                    have : dz ∈ da ++ xs := by rw [← eo7]; simp
                                    rcases List.mem_append.mp this with z | z
                                    · exact List.mem_append_left _ z
                                    · exact List.mem_append_right _ (List.mem_append_left _ z)
                                  obtain ⟨k, rfl⟩ := intsD_int en mz
                                  rw [hz2] at rz
                                  obtain rfl : v = .int k := by cases rz; rfl
                                  obtain ⟨ks, hk1, hk2, hk3, hk4⟩ := L11.ky
                                  have kl : va7.length = ks.length := by
                                    have q := congrArg List.length hk1
                                    simpa using q
                                  have hl : va7.length < sizeLine := by
                                    have q2 : (da7 ++ ([Dn.D.int k] ++ ws)).length ≤ 60 := by rw [eo7]; exact dl
                                    simp at q2
                                    rw [sizeLine_eq]
                                    omega
                                  refine ⟨va7, .inl k, rfl, L11.hD, hl, g9, _, da7 ++ [Dn.D.int k], ws, L11.put nb, S11w.putO (fun q z => by unfold LamX.CodeO at z; cases z) L11.hD nb, fun a o e n => ?_, er1, by rw [List.append_assoc]; exact eo7⟩
                                  have nD : a ≠ D := fun z => n (by rw [z]; exact List.mem_append_right _ List.mem_cons_self)
                                  rw [upd_ne nD]
                                  exact f11 a o (f10' a o e n) fun z => n (nU a z)
                    · rintro H7 ⟨g7, va7, da7, rest7, L7, S7, f7, el7, eo7⟩
                      rw [List.drop_length] at el7
                      cases el7
                      rw [List.append_nil] at eo7
                      exact ⟨g5, va7, da7, ys, L7, er, by rw [eo7, List.append_assoc]; exact eo⟩
      · rintro H2 ⟨g2', va, da, rest, L, ell, eo⟩
        rw [List.drop_length] at ell
        cases ell
        rw [List.append_nil] at eo
        subst eo
        have fr2 : Fr c.β H1 H2 := fun a o e n => L.f a o e (fun z => by rw [z, hD] at e; cases e) n
        obtain ⟨ks, hk1, hk2, hk3, hk4⟩ := L.ky
        refine ⟨D, va, ks, rfl, .inl L.hD, hk1, by omega, fun ys p hp hpw np => ?_⟩
        have hny : ys.Nodup := hp.nodup_iff.mpr hk2
        have e : ys = ssI ns := lt_uniq ys (ssI ns) ((hpw.and hny).imp fun ⟨a, b⟩ => by omega) (ssI_lt ns) fun k => by
          rw [hp.mem_iff, hk3 k, ssI_mem]
          exact intsD_mem en
        subst e
        have hU : ∀ a ∈ owns ps ++ W, H2 a ≠ none := fun a z => L.S.there a ((sub a).mp (List.mem_cons_of_mem _ z))
        have hz2 := ssI_len ns
        exact h _ _ ((f1.trans fr2).trans (ext_fr (extU np))) (L.S.bx.fr (extU np)) (KR.back (f1.trans fr2) (new_lst hU bo np (by rw [List.length_map]; exact szl (by omega)) (rs_ints _)))
theorem se_sd2 {sp : Pos} {kx tg iter tg1 iter1 : Expr} {j : Nat} {bp : Pos} {ifs ifs1 : List Expr} {scope : Scope} {own own1 : List (Str × Nat)} {spos : Pos} {it it1 : DI} {γ γ1 : DG} {t t1 : DT} {e : DE} (hc : X.calm = true) (hN : X.N.Nodup) (hgs : Gl X "sorted") (hms : X.mg "sorted" = none) (hi : SI c X W' false tg iter it) (ok : BlkOk X.N X.env.scope scope own) (hv : ∀ i ∈ own1.map (·.2), i ∈ own.map (·.2))
    (hg : ∀ (s : Shared) (H : Hp) (C : Addr) (cl : List (Str × Addr)) (fp : List Addr), SG c (X.blk s H scope (compEnvC scope cl C X.env) fp) (own.map (·.2)) tg γ) (ht : ∀ (s : Shared) (H : Hp) (C : Addr) (cl : List (Str × Addr)) (fp : List Addr), STs c (X.blk s H scope (compEnvC scope cl C X.env) fp) W0 ifs t)
    (hi1 : ∀ (s : Shared) (H : Hp) (C : Addr) (cl : List (Str × Addr)) (fp : List Addr), SI c (X.blk s H scope (compEnvC scope cl C X.env) fp) W0 true tg1 iter1 it1)
    (hg1 : ∀ (s : Shared) (H : Hp) (C : Addr) (cl : List (Str × Addr)) (fp : List Addr), SG c (X.blk s H scope (compEnvC scope cl C X.env) fp) (own1.map (·.2)) tg1 γ1) (ht1 : ∀ (s : Shared) (H : Hp) (C : Addr) (cl : List (Str × Addr)) (fp : List Addr), STs c (X.blk s H scope (compEnvC scope cl C X.env) fp) W0 ifs1 t1)
    (he : ∀ (s : Shared) (H : Hp) (C : Addr) (cl : List (Str × Addr)) (fp : List Addr), SE c (X.blk s H scope (compEnvC scope cl C X.env) fp) W0 kx e) (hs : ∀ x, foldedSetIterable iter X.env x = pure x := by intro _; rfl) (hs1 : ∀ env x, foldedSetIterable iter1 env x = pure x := by intro _ _; rfl) :
    SE c X W' (.Call (.Name "sorted" sp) [.DictComp kx (.Constant (.bool true) j bp) [⟨tg, iter, ifs, 0⟩, ⟨tg1, iter1, ifs1, 0⟩] scope spos] [] pos) (dsd2 it (own.map (·.2)) γ t it1 (own1.map (·.2)) γ1 t1 e) := fun ρ g =>
  PE.imp (pe_callB (call_sortedDI hc) hgs hms rfl (pa_cons (DL.pe_dc2 hc hN (hi ρ g) ok hv (fun s H C cl fp => (hg s H C cl fp).anyG) (fun s H C cl fp => (ht s H C cl fp).anyT) (fun s H C cl fp => (hi1 s H C cl fp).anyI) (fun s H C cl fp => (hg1 s H C cl fp).anyG) (fun s H C cl fp => (ht1 s H C cl fp).anyT) (fun s H C cl fp => (he s H C cl fp).anyE) (fun s H C cl fp => pe_bl) hs hs1) pa_nil)) fun σ H Q h => dc2_r hv h
end
end Dn

set_option Elab.async false
set_option linter.all false
set_option maxRecDepth 100000
set_option maxHeartbeats 2000000
/-! E18: lambdas in more than one def. -/
namespace Dn
open PySem PySem.Spec PyProof.Rows L2 LamX
def spT (K : PySem.W.Frag) (cl : Nat → Value) (n : Nat) (TT : List (Addr × Str)) (φ : DF) : Sp := fun vs H Q E => ∃ (β : Bs) (W : List Addr) (ds : List D) (g : G),
  β.T = TT ∧ vs.length = n ∧ Rs ⟨K, β, cl⟩ W H vs ds ∧ (∀ a ∈ W, H a ≠ none) ∧ (∀ b, β.ex b → b ∈ W) ∧ Bx β H g ∧ WantF ⟨K, β, cl⟩ W H Q E (φ ds g)
structure OkT (P : Program) (w : World) (K : PySem.W.Frag) (mg : Str → Option Value) (base : Heap) (cl : Nat → Value) (x : Str) (n k : Nat) (TT : List (Addr × Str)) (φ : DF) : Prop where
  ex : ∃ (f : Addr) (fd : FuncData) (pn : List Str), FnOk P w K mg base (L2.CX P w) k f fd pn (spT K cl n TT φ) ∧ mg x = some (.ref f) ∧ PySem.W.keepIn K (.ref f) = true ∧ Binds K fd pn []
section
variable {c : Cg} {X : Cx} {W' : WX} {pos : Pos}
theorem se_defT {φ : DF} {k n : Nat} {x : Str} {p : Pos} {e : Expr} {es : List Expr} {as : DA} {TT : List (Addr × Str)} (O : OkT X.prog X.w X.K X.mg X.base c.cl x n k TT φ) (hT : c.β.T = TT) (hK : c.K = X.K) (hr : Room k X.A) (tk : Takes X W') (hg : Gl X x) (ha : SA c X W' (e :: es) as) (hln : ∀ ρ g xs g', as ρ g = .ok xs g' → xs.length = n) (hn : (e :: es).length = n := by rfl) (hdb : (x == ("__debug__" : Str)) = false := by decide)
    (he : starEach (e :: es) X.env = (false, eval e X.env) :: starEach es X.env := by rfl) (hpl : (backTo pos (starEach es X.env)).any (·.1) = false := by rfl) : SE c X W' (.Call (.Name x p) (e :: es) [] pos) (dcall φ as) := fun ρ g => by
  obtain ⟨f, fd, pn, F, hm, hk, hb⟩ := O.ex
  rw [← hK] at F
  exact PE.imp (pe_callS (by rw [hK] at F; exact F) hr hg hm hk hb (fun σ => passAt tk σ) (ha ρ g) hdb he hpl) fun σ H Q ⟨W, ps, S, h⟩ => by
    refine ⟨W, ps, S, ?_⟩
    unfold dcall at h
    cases ea : as ρ g with
    | no => rw [ea] at h; exact h.elim
    | ex m g1 => rw [ea] at h; exact h
    | ok xs g1 =>
      rw [ea, Re.bind_ok] at h
      cases ev : vals xs with
      | none => rw [ev] at h; exact h.elim
      | some ds =>
        rw [ev] at h
        dsimp only at h
        refine fun vs H1 f1 b1 ks => ?_
        have S1 := S.step f1 b1
        have hl : vs.length = n := (Paired.length ks).trans (hln ρ g xs g1 ea)
        rw [← hK]
        refine ⟨c.β, owns ps ++ W, ds, g1, hT, hl, vals_rs ev ks, S1.there, S1.bU, b1, ?_⟩
        cases er : φ ds g1 with
        | no => rw [er] at h; exact h
        | ex m g2 => rw [er] at h; exact fun H2 f2 b2 => h H2 (f1.trans f2) b2
        | ok y g2 => rw [er] at h; exact fun v H2 f2 b2 k2 => h v H2 (f1.trans f2) b2 (KR.back f1 k2)
end
/-- what is known of a def's code object and its table -/
structure TabOk (K : PySem.W.Frag) (h : Heap) (p : Addr × Addr) : Prop where
  g : h.get? p.2 = some { cls := .none, data := .fields #[] }
  n : K.lookup p.2 = none
  c : PySem.W.CodeHd h p.1 p.2
theorem tab_ok {K : PySem.W.Frag} {fa : Addr} {h : Heap} {fd : FuncData} {oc : Value} {od dd : Option Addr} {osl sl : Array (Option Value)} {c P : Addr} {vs : Array Value} {file : Str} {tf tg tt : Tok} {flags text : Int} {inF : Bool}
    (OT : OwnTab K fa h) (KX : K.In h) (lk : K.lookup fa = some ⟨oc, od, .func fd, osl⟩) (hcode : fd.code = .ref c) (xc : K.lookup c = some ⟨.type "code", dd, .fields vs, sl⟩) (x11 : vs[11]? = some (.ref P)) (nP : K.lookup P = none)
    (x18 : vs.getD 18 .none = .str file tf) (x7 : vs.getD 7 .none = .int flags tg) (x9 : vs.getD 9 .none = .bool inF) (x10 : vs.getD 10 .none = .int text tt) (cP : c ≠ P) : TabOk K h (c, P) := by
  have gP := OT c P _ fd _ dd vs sl lk rfl hcode xc x11
  have e11 : vs.getD 11 .none = .ref P := by
    simp [x11]
  exact ⟨gP, nP, ⟨_, vs, file, tf, flags, tg, inF, text, tt, KX _ _ xc, rfl, rfl, x11, e11, x18, x7, x9, x10, cP⟩⟩
theorem law_atT {l : PySem.W.OpenLaw} {w : World} {K : PySem.W.Frag} {k n : Nat} {mg : Str → Option Value} {fa : Addr} {h : Heap} {cl : Nat → Value} {x : Str} {φ : DF} {fd : FuncData} (cs : List (Addr × Addr)) (TT : List (Addr × Str)) (hn : n ≤ sizeLine)
    (hcs : ∀ p ∈ cs, TabOk K h p) (hTT : ∀ p ∈ TT, ∃ c, (c, p.1) ∈ cs) (hb : ∀ (s : Shared) (u : Value), BindsTo s fd ⟨[u], []⟩ [(x, u)])
    (F : ∀ base : Heap, K.In base → base.Ns mainGlobals mg → (∀ p ∈ cs, TabB base mg p.1 p.2) → FnOk l.prog w K mg base (L2.CX l.prog w) k fa fd [x] (spL K cl (fun β => β.T = TT ∧ β.box = none) φ))
    (law : ∀ ns : List Int, ns.length ≤ n → (∀ z ∈ ns, Builtin.Int.intBits z ≤ 1048576) → ∃ g', φ [.lst (ns.map .int)] [] = .ok (.fz, .bl true) g') : LawAtS l w K (L2.CX l.prog w) k n x mg fa h :=
  ⟨fd, cs, _, fun p hp => (hcs p hp).g, fun p hp => (hcs p hp).n, fun p hp => (hcs p hp).c, hb, fun H a ns hl hbits hH hS => spL_law (fun p hp => let ⟨c, z⟩ := hTT p hp; hH (c, p.1) z) hS (Nat.le_trans hl hn) (law ns hl hbits), F⟩
theorem walk_ofTabs {l : PySem.W.OpenLaw} {n k : Nat} {q : Program} {loose : List Str} {XP : (Str → Option Value) → Heap → Prop} {YP : World → Heap → Prop} {d : DefRec} {K : Params → PySem.W.Frag} {CX : World → CXT} {x : Str}
    (hn : l.most = some n) (hn2 : n ≤ sizeLine) (hdf : d.params.defaults = []) (hr : Room k callerA) (hY : ∀ (w : World) (h : Heap), YP w h → (K w.params).In h)
    (F : ∀ (w : World) (mg : Str → Option Value) (fa : Addr) (h : Heap), YP w h → (K w.params).In h → h.Ns mainGlobals mg → mg d.name = some (.ref fa) → (∀ (y : Str) (f : Addr), ((recsOf q).any fun e => e.name == y) = true → mg y = some (.ref f) → OwnTab (K w.params) f h) → LawAtS l w (K w.params) (CX w) k n x mg fa h)
    (hCX : ∀ (w : World) (H : Hp) (s : Shared) (e : Value) (s' : Shared), CX w [] H s (fun _ _ _ => False) e s' → False) :
    PySem.W.WalkO q loose XP YP l.row.toRowW d [] (fun f vs => PySem.call f vs) := by
  refine Att.attach_callB hn hdf fun w s₀ s₁ mg mb fa o pm cd doc a vs ns G Y ho hd hcd hmg hobj hints hlen hbits hg => ?_
  have KX := hY w _ Y
  have own : ∀ (y : Str) (f : Addr), ((recsOf q).any fun e => e.name == y) = true → mg y = some (.ref f) → OwnTab (K w.params) f s₁.heap := fun y f hrec hy c P o1 fd1 e dd vs1 sl k1 k2 k3 k4 k5 => by
    obtain ⟨dL, hm, hn1⟩ := List.any_eq_true.mp hrec
    have hn2 : dL.name = y := beq_iff_eq.mp hn1
    obtain ⟨a', o', fd', c', P', h1, h2, h3, h4, h5, h6⟩ := G.T.tab dL hm
    rw [hn2, hy] at h1
    cases h1
    have g1 := KX _ _ k1
    rw [g1] at h2
    cases h2
    rw [k2] at h3
    cases h3
    rw [k3] at h4
    cases h4
    obtain ⟨⟨oc, vc, e1, _, e3, e4⟩, hP⟩ := h6
    have g2 := KX _ _ k4
    rw [g2] at e1
    cases e1
    cases e3
    rw [k5] at e4
    cases e4
    exact hP
  obtain ⟨fd, cs, sp, hT, nT, C, hb, hsp, hF⟩ := F w mg fa _ Y KX G.T.g hmg own
  exact law_callTs KX G.T.g G.T.b G.T.builtins G.T.nolimit hg hT nT C G.T.bmain hobj hints (Nat.le_trans hlen hn2) hr hF hb (fun H hH hS => hsp H a ns hlen hbits hH hS) fun H e s' => hCX w H s₁ e s'
theorem walk_lawT {l : PySem.W.OpenLaw} {q : Program} {loose : List Str} {XP : (Str → Option Value) → Heap → Prop} {YP : World → Heap → Prop} {d : DefRec} {K : Params → PySem.W.Frag} {k : Nat} (hk : Room k callerA) (hn : l.most = some 63) (hdf : d.params.defaults = [])
    (hY : ∀ (w : World) (h : Heap), YP w h → (K w.params).In h)
    (F : ∀ (w : World) (mg : Str → Option Value) (fa : Addr) (h : Heap), YP w h → (K w.params).In h → h.Ns mainGlobals mg → mg d.name = some (.ref fa) → (∀ (y : Str) (f : Addr), ((recsOf q).any fun e => e.name == y) = true → mg y = some (.ref f) → OwnTab (K w.params) f h) → LawAtS l w (K w.params) (L2.CX l.prog w) k 63 "script" mg fa h) :
    PySem.W.WalkO q loose XP YP l.row.toRowW d [] (fun f vs => PySem.call f vs) :=
  walk_ofTabs (n := 63) (k := k) (x := "script") (CX := fun w => L2.CX l.prog w) hn (by rw [sizeLine_eq]; decide) hdf hk hY F fun w H s e s' h => by
    obtain ⟨_, _, _, _, _, _, _, _, _, _, _, _, z⟩ := h
    exact z
end Dn
namespace Dn
open PySem
theorem hu_of {P : Addr} {q : Str} : ∀ {TT : List (Addr × Str)}, (TT.map (·.1)).Nodup → (P, q) ∈ TT → ∀ p ∈ TT, p.1 = P → p.2 = q
  | (P0, q0) :: TT, nd, h, p, hp, e => by
    rw [List.map_cons, List.nodup_cons] at nd
    rcases List.mem_cons.mp h with h | h
    · cases h
      rcases List.mem_cons.mp hp with hp | hp
      · rw [hp]
      · exact absurd (List.mem_map.mpr ⟨p, hp, e⟩) nd.1
    · rcases List.mem_cons.mp hp with hp | hp
      · rw [hp] at e
        exact absurd (List.mem_map.mpr ⟨_, h, e.symm⟩) nd.1
      · exact hu_of nd.2 h p hp e
end Dn

set_option Elab.async false
set_option linter.all false
set_option maxRecDepth 100000
set_option maxHeartbeats 2000000
/-! E19: list(range(..)), tuple(range(..)). -/
namespace Dn
open PySem PySem.Spec PyProof.Rows L2
def dlrng (it : DI) : DE := fun ρ g => (it ρ g).bind fun ds g => .ok (.fr, .lst ds) g
def dtrng (it : DI) : DE := fun ρ g => (it ρ g).bind fun ds g => .ok (.fz, .tup ds) g
section
variable {c : Cg} {X : Cx} {W' : WX} {pos : Pos}
theorem rs_rng {U : List Addr} {H : Hp} (i j : Int) : Rs c U H (rgV i j) (rng i (j - i).toNat) := by
  have q := rs_ints (c := c) (U := U) (H := H) ((List.range (j - i).toNat).map fun k => i + (k : Nat))
  rw [List.map_map, List.map_map] at q
  exact q
def RngR (c : Cg) (W' : WX) (ρ : Env) (g : G) (r : Re (List D)) (te : L2.St → Hp → (Int → Int → Hp → Prop) → Prop) : Prop :=
  ∀ (σ : L2.St) (H : Hp) (Q : Int → Int → Hp → Prop) (W : List Addr) (ps : Ps), SR c W ps σ H ρ g → (match r with
    | .ok ds g' => ∀ i j H1, Fr c.β H H1 → Bx c.β H1 g' → ds = rng i (j - i).toNat → RgOk i j → Q i j H1
    | .ex n g' => ∀ H1, Fr c.β H H1 → Bx c.β H1 g' → W' (c.cl n) none σ H1
    | .no => False) → te σ H Q
theorem rng_r1 {da : DE} (ρ : Env) (g : G) : RngR c W' ρ g (drng1 (dcons da dnil) ρ g) (tRg1 (tE c W' ρ g (da ρ g))) := by
  intro σ H Q W ps S h
  refine ⟨W, ps, S, ?_⟩
  unfold drng1 dcons dnil at h
  cases ea : da ρ g with
  | no => rw [ea] at h; exact h.elim
  | ex n g1 => rw [ea] at h; exact h
  | ok x g1 =>
    rw [ea] at h
    obtain ⟨k, d⟩ := x
    intro v H1 f1 b1 k1
    cases d with
    | int j =>
      have h : (match (if -1000000 ≤ j ∧ j ≤ 1000000 then Re.ok (rng 0 j.toNat) g1 else .no : Re (List D)) with
        | .ok ds g' => ∀ i j H1, Fr c.β H H1 → Bx c.β H1 g' → ds = rng i (j - i).toNat → RgOk i j → Q i j H1
        | .ex n g' => ∀ H1, Fr c.β H H1 → Bx c.β H1 g' → W' (c.cl n) none σ H1
        | .no => False) := h
      have e1 := KR.isint k1
      subst e1
      by_cases hj : -1000000 ≤ j ∧ j ≤ 1000000
      · rw [if_pos hj] at h
        exact ⟨j, rfl, h 0 j H1 f1 b1 (by rw [Int.sub_zero]) ⟨by omega, by omega, by omega, by omega, by omega⟩⟩
      · rw [if_neg hj] at h; exact h.elim
    | _ => exact h.elim
theorem rng_r2 {da db : DE} (ρ : Env) (g : G) : RngR c W' ρ g (drng2 (dcons da (dcons db dnil)) ρ g) (tRg2 (tE c W' ρ g (da ρ g)) (anyE c W' db)) := by
  intro σ H Q W ps S h
  refine ⟨W, ps, S, ?_⟩
  unfold drng2 dcons dnil at h
  cases ea : da ρ g with
  | no => rw [ea] at h; exact h.elim
  | ex n g1 => rw [ea] at h; exact h
  | ok x g1 =>
    rw [ea] at h
    obtain ⟨k, d⟩ := x
    intro v H1 f1 b1 k1
    refine ⟨(ρ, g1), W, ps, S.step f1 b1, ?_⟩
    simp only [Re.bind_ok] at h
    cases eb : db ρ g1 with
    | no => rw [eb] at h; exact h.elim
    | ex n g2 => rw [eb] at h; exact fun H2 f2 b2 => h H2 (f1.trans f2) b2
    | ok y g2 =>
      rw [eb] at h
      obtain ⟨k', d'⟩ := y
      intro v2 H2 f2 b2 k2
      cases d with
      | int i =>
        cases d' with
        | int j =>
          have h : (match (if -1000000000 ≤ i ∧ i ≤ 1000000000 ∧ -1000000 ≤ j - i ∧ j - i ≤ 1000000 then Re.ok (rng i (j - i).toNat) g2 else .no : Re (List D)) with
            | .ok ds g' => ∀ i j H1, Fr c.β H H1 → Bx c.β H1 g' → ds = rng i (j - i).toNat → RgOk i j → Q i j H1
            | .ex n g' => ∀ H1, Fr c.β H H1 → Bx c.β H1 g' → W' (c.cl n) none σ H1
            | .no => False) := h
          have e1 := KR.isint k1
          have e2 := KR.isint k2
          subst e1 e2
          by_cases hj : -1000000000 ≤ i ∧ i ≤ 1000000000 ∧ -1000000 ≤ j - i ∧ j - i ≤ 1000000
          · rw [if_pos hj] at h
            exact ⟨i, j, rfl, rfl, h i j H2 (f1.trans f2) b2 rfl ⟨by omega, by omega, by omega, by omega, by omega⟩⟩
          · rw [if_neg hj] at h; exact h.elim
        | _ => exact h.elim
      | _ => exact h.elim
theorem lrng_r {it : DI} {te : L2.St → Hp → (Int → Int → Hp → Prop) → Prop} {ρ : Env} {g : G} (hr : RngR c W' ρ g (it ρ g) te) : ∀ σ H Q, tE c W' ρ g (dlrng it ρ g) σ H Q → tLstRg te σ H Q := fun σ H Q ⟨W, ps, S, h⟩ => by
  refine hr σ H _ W ps S ?_
  unfold dlrng at h
  cases ei : it ρ g with
  | no => rw [ei] at h; exact h
  | ex n g1 => rw [ei] at h; exact h
  | ok ds g1 =>
    rw [ei] at h
    rintro i j H1 f1 b1 rfl ok
    refine ⟨ok, fun q hq => ?_⟩
    have S1 := S.step f1 b1
    exact h _ _ (f1.trans (ext_fr (extU hq))) (b1.fr (extU hq)) (KR.back f1 (new_lst S1.there S1.bU hq (by rw [rgV_length, sizeLine_eq]; obtain ⟨_, _, _, _, z⟩ := ok; omega) (rs_rng i j)))
theorem trng_r {it : DI} {te : L2.St → Hp → (Int → Int → Hp → Prop) → Prop} {ρ : Env} {g : G} (hr : RngR c W' ρ g (it ρ g) te) : ∀ σ H Q, tE c W' ρ g (dtrng it ρ g) σ H Q → tTupRg te σ H Q := fun σ H Q ⟨W, ps, S, h⟩ => by
  refine hr σ H _ W ps S ?_
  unfold dtrng at h
  cases ei : it ρ g with
  | no => rw [ei] at h; exact h
  | ex n g1 => rw [ei] at h; exact h
  | ok ds g1 =>
    rw [ei] at h
    rintro i j H1 f1 b1 rfl ok
    refine ⟨ok, fun q hq => ?_⟩
    have S1 := S.step f1 b1
    exact h _ _ (f1.trans (ext_fr (extU hq))) (b1.fr (extU hq)) (new_tup S1.there hq (by rw [rgV_length, sizeLine_eq]; obtain ⟨_, _, _, _, z⟩ := ok; omega) (rs_rng i j))
theorem se_lrng1 {p p2 pos2 : Pos} {a : Expr} {da : DE} (hc : X.calm = true) (hg : Gl X "list") (hm : X.mg "list" = none) (hg2 : Gl X "range") (hm2 : X.mg "range" = none) (ha : SE c X W' a da) (na : starEach [a] X.env = (false, eval a X.env) :: starEach [] X.env := by rfl)
    (nr : starEach [.Call (.Name "range" p2) [a] [] pos2] X.env = (false, eval (.Call (.Name "range" p2) [a] [] pos2) X.env) :: starEach [] X.env := by rfl) : SE c X W' (.Call (.Name "list" p) [.Call (.Name "range" p2) [a] [] pos2] [] pos) (dlrng (drng1 (dcons da dnil))) := fun ρ g =>
  PE.imp (pe_listRg hc hg hm (prg_1 hg2 hm2 (ha ρ g) na) nr) (lrng_r (rng_r1 ρ g))
theorem se_lrng2 {p p2 pos2 : Pos} {a b : Expr} {da db : DE} (hc : X.calm = true) (hg : Gl X "list") (hm : X.mg "list" = none) (hg2 : Gl X "range") (hm2 : X.mg "range" = none) (ha : SE c X W' a da) (hb : SE c X W' b db) (na : starEach [a, b] X.env = (false, eval a X.env) :: starEach [b] X.env := by rfl) (nb : starEach [b] X.env = (false, eval b X.env) :: starEach [] X.env := by rfl) (hp : (backTo pos2 (starEach [b] X.env)).any (·.1) = false := by rfl)
    (nr : starEach [.Call (.Name "range" p2) [a, b] [] pos2] X.env = (false, eval (.Call (.Name "range" p2) [a, b] [] pos2) X.env) :: starEach [] X.env := by rfl) : SE c X W' (.Call (.Name "list" p) [.Call (.Name "range" p2) [a, b] [] pos2] [] pos) (dlrng (drng2 (dcons da (dcons db dnil)))) := fun ρ g =>
  PE.imp (pe_listRg hc hg hm (prg_2 hg2 hm2 (ha ρ g) hb.anyE na nb hp) nr) (lrng_r (rng_r2 ρ g))
theorem se_trng1 {p p2 pos2 : Pos} {a : Expr} {da : DE} (hc : X.calm = true) (hg : Gl X "tuple") (hm : X.mg "tuple" = none) (hg2 : Gl X "range") (hm2 : X.mg "range" = none) (ha : SE c X W' a da) (na : starEach [a] X.env = (false, eval a X.env) :: starEach [] X.env := by rfl)
    (nr : starEach [.Call (.Name "range" p2) [a] [] pos2] X.env = (false, eval (.Call (.Name "range" p2) [a] [] pos2) X.env) :: starEach [] X.env := by rfl) : SE c X W' (.Call (.Name "tuple" p) [.Call (.Name "range" p2) [a] [] pos2] [] pos) (dtrng (drng1 (dcons da dnil))) := fun ρ g =>
  PE.imp (pe_tupRg hc hg hm (prg_1 hg2 hm2 (ha ρ g) na) nr) (trng_r (rng_r1 ρ g))
theorem se_trng2 {p p2 pos2 : Pos} {a b : Expr} {da db : DE} (hc : X.calm = true) (hg : Gl X "tuple") (hm : X.mg "tuple" = none) (hg2 : Gl X "range") (hm2 : X.mg "range" = none) (ha : SE c X W' a da) (hb : SE c X W' b db) (na : starEach [a, b] X.env = (false, eval a X.env) :: starEach [b] X.env := by rfl) (nb : starEach [b] X.env = (false, eval b X.env) :: starEach [] X.env := by rfl) (hp : (backTo pos2 (starEach [b] X.env)).any (·.1) = false := by rfl)
    (nr : starEach [.Call (.Name "range" p2) [a, b] [] pos2] X.env = (false, eval (.Call (.Name "range" p2) [a, b] [] pos2) X.env) :: starEach [] X.env := by rfl) : SE c X W' (.Call (.Name "tuple" p) [.Call (.Name "range" p2) [a, b] [] pos2] [] pos) (dtrng (drng2 (dcons da (dcons db dnil)))) := fun ρ g =>
  PE.imp (pe_tupRg hc hg hm (prg_2 hg2 hm2 (ha ρ g) hb.anyE na nb hp) nr) (trng_r (rng_r2 ρ g))
end
end Dn

set_option Elab.async false
set_option linter.all false
set_option maxRecDepth 100000
set_option maxHeartbeats 2000000
/-! E20: rules that compute the newer denotations. -/
namespace Dn
open PySem L2
section
variable {a : DE} {as : DA} {it it1 : DI} {vs vs1 : List Nat} {γ γ1 : DG} {t t1 : DT} {e : DE} {ρ ρ' : Env} {g g' : G} {d : D}
def klrng (ds : List D) (g : G) : Re KD := .ok (.fr, .lst ds) g
theorem klrng_eq {ds : List D} : klrng ds g = .ok (.fr, .lst ds) g := (rfl)
theorem e_lrng : dlrng it ρ g = (it ρ g).bind klrng := (rfl)
def ktrng (ds : List D) (g : G) : Re KD := .ok (.fz, .tup ds) g
theorem ktrng_eq {ds : List D} : ktrng ds g = .ok (.fz, .tup ds) g := (rfl)
theorem e_trng : dtrng it ρ g = (it ρ g).bind ktrng := (rfl)
def kss (x : KD) (g : G) : Re KD := match x.2 with
  | .lst ds => (match intsD ds with | some ns => if ns.length ≤ 60 then .ok (.fr, .lst ((ssI ns).map .int)) g else .no | none => .no)
  | _ => .no
theorem e_ss : dss a ρ g = (a ρ g).bind kss := (rfl)
theorem kss_ok {k : Kd} {ds : List D} {ns : List Int} (h : intsD ds = some ns) (hl : ns.length ≤ 60) : kss (k, .lst ds) g = .ok (.fr, .lst ((ssI ns).map .int)) g := by
  unfold kss
  dsimp only
  rw [h]
  dsimp only
  rw [if_pos hl]
def klc2' (out : List D) (g : G) : Re KD := if out.length ≤ 10000000 then .ok (.fr, .lst out) g else .no
theorem klc2'_ok {ds : List D} (h : ds.length ≤ 10000000) : klc2' ds g = .ok (.fr, .lst ds) g := if_pos h
def klc2 (vs : List Nat) (γ : DG) (t : DT) (it1 : DI) (vs1 : List Nat) (γ1 : DG) (t1 : DT) (e : DE) (ρ : Env) (ds : List D) (g : G) : Re KD := (lcL (lbody2 γ t it1 vs1 γ1 t1 e (wipeE ρ vs)) ds g).noex.bind klc2'
theorem klc2_eq {ds : List D} : klc2 vs γ t it1 vs1 γ1 t1 e ρ ds g = (lcL (lbody2 γ t it1 vs1 γ1 t1 e (wipeE ρ vs)) ds g).noex.bind klc2' := (rfl)
theorem e_lc2 : dlc2 it vs γ t it1 vs1 γ1 t1 e ρ g = (it ρ g).bind (klc2 vs γ t it1 vs1 γ1 t1 e ρ) := (rfl)
def ksd2' (out : List D) (g : G) : Re KD := match intsD out with
  | some ns => if ns.length ≤ 60 then .ok (.fr, .lst ((ssI ns).map .int)) g else .no
  | none => .no
theorem ksd2'_ok {ds : List D} {ns : List Int} (h : intsD ds = some ns) (hl : ns.length ≤ 60) : ksd2' ds g = .ok (.fr, .lst ((ssI ns).map .int)) g := by
  unfold ksd2'
  rw [h]
  dsimp only
  rw [if_pos hl]
def ksd2 (vs : List Nat) (γ : DG) (t : DT) (it1 : DI) (vs1 : List Nat) (γ1 : DG) (t1 : DT) (e : DE) (ρ : Env) (ds : List D) (g : G) : Re KD := (lcL (lbody2 γ t it1 vs1 γ1 t1 e (wipeE ρ vs)) ds g).noex.bind ksd2'
theorem ksd2_eq {ds : List D} : ksd2 vs γ t it1 vs1 γ1 t1 e ρ ds g = (lcL (lbody2 γ t it1 vs1 γ1 t1 e (wipeE ρ vs)) ds g).noex.bind ksd2' := (rfl)
theorem e_sd2 : dsd2 it vs γ t it1 vs1 γ1 t1 e ρ g = (it ρ g).bind (ksd2 vs γ t it1 vs1 γ1 t1 e ρ) := (rfl)
def krng3 (xs : List KD) (g : G) : Re (List D) := match xs with
  | [(_, .int i), (_, .int j), (_, .int (-1))] => if -1000000000 ≤ i ∧ i ≤ 1000000000 ∧ -1000000 ≤ i - j ∧ i - j ≤ 1000000 then .ok (rngd i (i - j).toNat) g else .no
  | _ => .no
theorem e_rng3 : drng3 as ρ g = (as ρ g).bind krng3 := (rfl)
theorem krng3_ok {k k' k2 : Kd} {i j : Int} (h : -1000000000 ≤ i ∧ i ≤ 1000000000 ∧ -1000000 ≤ i - j ∧ i - j ≤ 1000000) : krng3 [(k, .int i), (k', .int j), (k2, .int (-1))] g = .ok (rngd i (i - j).toNat) g := if_pos h
def kenum (x : KD) (g : G) : Re (List D) := match x.1, x.2 with
  | .bw, _ => .no
  | _, .lst ds => .ok (enumD ds) g
  | _, .tup ds => .ok (enumD ds) g
  | _, _ => .no
theorem e_enum : denum a ρ g = (a ρ g).bind kenum := (rfl)
theorem kenum_t {ds : List D} : kenum (.fz, .tup ds) g = .ok (enumD ds) g := (rfl)
theorem kenum_l {ds : List D} : kenum (.fz, .lst ds) g = .ok (enumD ds) g := (rfl)
theorem kenum_f {ds : List D} : kenum (.fr, .lst ds) g = .ok (enumD ds) g := (rfl)
/-- each item gives a list of values, nothing else changes -/
theorem lc_flat {f : D → G → Re (List D)} {h : D → List D} : ∀ {ds : List D}, (∀ d ∈ ds, f d g = .ok (h d) g) → lcL f ds g = .ok ((ds.map h).flatten) g
  | [], _ => rfl
  | d :: ds, H => by
    unfold lcL
    rw [H d List.mem_cons_self, Re.bind_ok, lc_flat (ds := ds) fun d hd => H d (List.mem_cons_of_mem _ hd)]
    rfl
theorem lb2_yes {ds : List D} {h : D → List D} (h1 : γ d ρ = some ρ') (h2 : it1 ρ' g = .ok ds g) (h3 : ∀ d1 ∈ ds, lbody γ1 t1 e (wipeE ρ' vs1) d1 g = .ok (h d1) g) : lbody2 γ dyes it1 vs1 γ1 t1 e ρ d g = .ok ((ds.map h).flatten) g := by
  unfold lbody2
  rw [h1]
  dsimp only [dyes]
  rw [Re.bind_ok, if_pos rfl, h2, Re.bind_ok]
  exact lc_flat h3
end
end Dn

set_option Elab.async false
set_option linter.all false
set_option maxRecDepth 100000
set_option maxHeartbeats 2000000
/-! E23: lambdas of one parameter, called where they were handed to. -/
namespace Dn
open PySem PySem.Spec PyProof.Rows L2 LamX
/-- what others change, seen from an earlier heap: the frames that are new since then do not count -/
theorem un_then {fs fs' : List Addr} {H1 H2 H3 : Hp} {h1 h2 h3 : Heap} (a : Un fs [] H1 H2 h1 h2) (b : Un fs' [] H2 H3 h2 h3) (hf : ∀ p ∈ fs', p ∈ fs ∨ h1.objs.size ≤ p) : Un fs [] H1 H3 h1 h3 where
  keep := fun c o q n hc hx => b.keep c o (a.keep c o q n hc hx) (a.free c o q n hx) (fun z => (hf c z).elim hc fun y => Nat.lt_irrefl _ (Nat.lt_of_lt_of_le (Heap.lt_size q) y)) hx
  slot := fun c o q n hc hx => by
    obtain ⟨sl, e1⟩ := a.slot c o q n hc hx
    by_cases z : c ∈ fs'
    · obtain ⟨sl', e2⟩ := b.slot c _ e1 (a.free c o q n hx) z hx
      exact ⟨sl', e2⟩
    · exact ⟨sl, b.keep c _ e1 (a.free c o q n hx) z hx⟩
  free := fun c o q n hx => by
    obtain ⟨sl, e1⟩ := a.any q n hx
    exact b.free c _ e1 (a.free c o q n hx) hx
  there := fun c o q hx => let ⟨o', e⟩ := a.there c o q hx; b.there c o' e hx
  tups := fun c xs e => b.tups c xs (a.tups c xs e)
  frzs := fun c o u e => b.frzs c o u (a.frzs c o u e)
  tbls := fun c ps e => by
    obtain ⟨m1, e1⟩ := a.tbls c ps e
    obtain ⟨m2, e2⟩ := b.tbls c _ e1
    exact ⟨m1 ++ m2, by rw [e2, Array.append_assoc]⟩
/-- one parameter p; all else is captured or global -/
structure Lam1 (sc scope : Scope) (p : Str) : Prop where
  kind : scope.kind = .function
  co : scope.isCoroutine = false
  gen : scope.isGenerator = false
  par : scope.names.lookup p = some .local
  own : ∀ y ∈ scope.names, y.2 ≠ .cell ∧ (y.2 = .local → y.1 = p)
  free : ∀ y ∈ scope.names, y.2 = .free → sc.names.lookup y.1 = some .cell ∨ sc.names.lookup y.1 = some .free
def lam1B (sc scope : Scope) (p : Str) : Bool :=
  decide (scope.kind = .function) && !scope.isCoroutine && !scope.isGenerator && decide (scope.names.lookup p = some .local) && scope.names.all fun y => !decide (y.2 = .cell) && (!decide (y.2 = .local) || decide (y.1 = p)) && (!decide (y.2 = .free) || decide (sc.names.lookup y.1 = some .cell) || decide (sc.names.lookup y.1 = some .free))
theorem lam1_by {sc scope : Scope} {p : Str} (h : lam1B sc scope p = true) : Lam1 sc scope p := by
  unfold lam1B at h
  simp only [Bool.and_eq_true, Bool.or_eq_true, Bool.not_eq_true', decide_eq_true_eq, decide_eq_false_iff_not, List.all_eq_true] at h
  obtain ⟨⟨⟨⟨h1, h2⟩, h3⟩, h5⟩, h4⟩ := h
  refine ⟨h1, h2, h3, h5, fun y hy => ⟨(h4 y hy).1.1, fun e => (h4 y hy).1.2.elim (fun z => absurd e z) id⟩, fun y hy e => ?_⟩
  rcases (h4 y hy).2 with (z | z) | z
  · exact absurd e z
  · exact .inl z
  · exact .inr z
theorem Lam1.has {X : Cx} {scope : Scope} {p : Str} (L : Lam1 X.env.scope scope p) (ok : X.Ok) : ∀ y ∈ scope.names, y.2 = .free → ∃ c, X.env.cells.lookup y.1 = some c := fun y hy e => (L.free y hy e).elim (fun k => ok.has _ (.inl k)) fun k => ok.has _ (.inr k)
/-- the context of the body: the maker's slots, and one more -/
def lamCx1 (X : Cx) (A : Around) (outer : List PySem.Env) (s : Shared) (H : Hp) (E : XK) (scope : Scope) (f c' : Addr) (p : Str) : Cx := { lamCx X A outer s H E scope f c' with N := X.N ++ [p] }
section
variable {X : Cx} {pins : List (Addr × Obj)} {σ : L2.St} {H HZ : Hp} {s s1 : Shared}
theorem lam_start1 {A : Around} {outer : List PySem.Env} {E : XK} {scope : Scope} {f c' : Addr} {h₁ : Heap} {tk : Nat} {p : Str} {v : V} {u : Value} (I : Inv X pins σ H s) (L : Lam1 X.env.scope scope p) (hp : p ∉ X.N) (rv : RelV v u)
    (e0 : Env0 X.prog X.w X.K X.mg X.base A outer s1 HZ) (hd : A.handled = none) (un : Un (frs X.stack) [] H HZ s.heap s1.heap) (hns : h₁.Ns s1.heap.objs.size fun y => ([(p, u)] : List (Str × Value)).reverse.lookup y) (kp : ∀ b o, s1.heap.get? b = some o → h₁.get? b = some o) :
    Inv (lamCx1 X A outer s1 HZ E scope f c' p) [] (σ ++ [some v]) HZ { s1 with heap := h₁, toks := tk } := by
  have hfree := L.has I.ok
  have back : ∀ {y c}, (cloFrom X.env.cells scope.names []).lookup y = some c → X.env.cells.lookup y = some c := fun {y c} e => by
    rcases cloFrom_mem (PySem.mem_of_lookup e) with z | ⟨h1, h2⟩
    · cases z
    · obtain ⟨c1, hc⟩ := hfree _ h1 rfl
      have hc : X.env.cells.lookup y = some c1 := hc
      obtain rfl : c = c1 := by rw [h2, hc] <;> rfl
      exact hc
  have look : ∀ {y}, scope.names.lookup y = some .free → ∃ c, (cloFrom X.env.cells scope.names []).lookup y = some c := fun {y} hl => mem_lookup (cloFrom_has (cells := X.env.cells) (acc := []) (PySem.mem_of_lookup hl))
  have cellK : ∀ {c : Addr} {o : Option Value}, H c = none → s.heap.IsCell c o → h₁.IsCell c o := fun {c o} n ⟨ob, ho, hdt⟩ => by
    obtain ⟨sl, q⟩ := un.any ho n (by simp)
    exact ⟨_, kp _ _ q, hdt⟩
  have noA : ∀ b : Addr, b ∉ (lamCx1 X A outer s1 HZ E scope f c' p).ex := fun b z => absurd (show b ∈ ([] : List Addr) from z) (by simp)
  have len : σ.length = X.N.length := I.len
  refine ⟨⟨e0.mod, L.kind, rfl, rfl, Nat.le_refl _, fun y z c e1 e2 => I.ok.inj y z c (back e1) (back e2), fun y hy => ?_, fun y c z _ => ?_, fun _ => hd, Around.frames_deeper e0.frames, .inr ⟨rfl, rfl⟩, fun b z => absurd z (noA b), e0.bs, e0.bsz, fun b _ _ => noA b,
      fun b z => absurd z (noA b), e0.funs, e0.frf⟩,
    rfl, e0.bare, Un.kept kp, ⟨_, hns, fun i y v' e1 e2 e3 => ?_⟩, fun y c e => ?_, e0.hok.fresh (Nat.le_refl _), fun y c e => ?_, fun q hq => absurd (show q ∈ ([] : List (Addr × Obj)) ++ [] from hq) (by simp), e0.hok.kept kp, ?_⟩
  · have hy : scope.names.lookup y = some .cell ∨ scope.names.lookup y = some .free := hy
    rcases hy with hy | hy
    · exact absurd rfl (L.own _ (PySem.mem_of_lookup hy)).1
    · exact look hy
  · have z : false = true := z
    cases z
  · have e1 : (X.N ++ [p])[i]? = some y := e1
    have e3 : Vis scope y := e3
    by_cases hi : i < X.N.length
    · rw [List.getElem?_append_left hi] at e1
      rw [List.getElem?_append_left (by omega)] at e2
      have yp : y ≠ p := fun z => hp (z ▸ List.mem_of_getElem? e1)
      rcases e3 with k | k | k
      · exact absurd ((L.own _ (PySem.mem_of_lookup k)).2 rfl) yp
      · exact absurd rfl (L.own _ (PySem.mem_of_lookup k)).1
      · obtain ⟨m, hn, hl⟩ := I.loc
        have vis : Vis X.env.scope y := (L.free _ (PySem.mem_of_lookup k) rfl).elim (fun k => .inr (.inl k)) (fun k => .inr (.inr k))
        obtain ⟨w', r, q⟩ := hl i y v' e1 e2 vis
        obtain ⟨c2, h2⟩ := look k
        refine ⟨w', r, .inr ⟨.inr k, c2, h2, ?_⟩⟩
        have c1 := back h2
        rcases q with ⟨k', _⟩ | ⟨_, c3, e', z⟩
        · have k' : X.env.scope.names.lookup y = some .local := k'
          rcases L.free _ (PySem.mem_of_lookup k) rfl with k2 | k2 <;> rw [show X.env.scope.names.lookup y = _ from k2] at k' <;> cases k'
        · rw [c1] at e'
          cases e'
          exact cellK (I.freeC y _ c1) z
    · rw [List.getElem?_append_right (by omega)] at e1 e2
      rw [len] at e2
      obtain ⟨j, hj⟩ : ∃ j, i - X.N.length = j := ⟨_, rfl⟩
      rw [hj] at e1 e2
      cases j with
      | succ j => simp at e1
      | zero =>
        simp at e1 e2
        subst e1 e2
        exact ⟨u, rv, .inl ⟨L.par, by simp⟩⟩
  · obtain ⟨w', z⟩ := I.cell y c (back e)
    exact ⟨w', cellK (I.freeC y c (back e)) z⟩
  · obtain ⟨v', o, ho, hdt⟩ := I.cell y c (back e)
    exact un.free c o ho (I.freeC y c (back e)) (by simp)
  · show (σ ++ [some v]).length = (X.N ++ [p]).length
    rw [List.length_append, List.length_append, len]
    rfl
/-- the lambda at f, called with one value -/
theorem lam_run1 {A : Around} {outer : List PySem.Env} {E : XK} {scope : Scope} {f c' : Addr} {pm ctv : Value} {ar : Arguments} {body : Expr} {k : Nat} {p : Str} {tb : TE} {v : V} {u : Value} {Q : VK} (I : Inv X pins σ H s) (L : Lam1 X.env.scope scope p) (hp : p ∉ X.N)
    (hf : s.heap.get? f = some (PySem.W.kla_obj "<lambda>" (X.env.qual ++ "<lambda>") ar body scope (cloFrom X.env.cells scope.names []) pm c' ctv)) (hfn : H f = none) (hfr : f ∉ frs X.stack)
    (hbind : bindArgs (PySem.W.kla_fn "<lambda>" (X.env.qual ++ "<lambda>") ar body scope (cloFrom X.env.cells scope.names []) pm (.ref c') ctv) ⟨[u], []⟩ = pure [(p, u)])
    (e0 : Env0 X.prog X.w X.K X.mg X.base A outer s1 HZ) (hr : Room (k + 1) A) (un : Un (frs X.stack) [] H HZ s.heap s1.heap) (hc : HZ c' = some (CodeO c' (X.env.qual ++ "<lambda>"))) (rv : RelV v u)
    (hbody : ∀ (A : Around) (outer : List PySem.Env) (s : Shared) (H : Hp), Room k (A.deeper (lamEnv X scope s.heap.objs.size f c')) → PE (lamCx1 X A outer s H E scope f c' p) body tb) (ht : tb (σ ++ [some v]) HZ Q) :
    codeAny (model X.prog X.w) A (.call (.ref f) ⟨[u], []⟩) (CR (L2.CX X.prog X.w) outer X.prog X.w HZ s1 Q E) s1 := by
  have of1 := un.keep f _ hf hfn hfr (fun z => nomatch (show f ∈ ([] : List Addr) from z))
  obtain ⟨⟨oc, vs, t, hoc, hdc, hvc⟩, _, _⟩ := e0.hok c' _ hc
  have lim : s1.heap.NoLimit := e0.mod.nolimit.keeps fun b o e => (e0.bs b o e).1
  refine PySem.W.kla_callFunE hr.depth of1 rfl L.co L.gen rfl ⟨c', oc, vs, t, rfl, hoc, hdc, hvc⟩ ?_
  rw [hbind]
  refine wpAny_pure (wpAny_newFunctionEnv (fun y hy => (L.own y hy).1) (fun y hy => ?_) (fun h₁ hns hsb => ⟨lim.fresh _ hsb, ?_⟩) L.kind)
  · rw [List.mem_singleton.mp hy]
    exact L.par
  · show codeAny _ _ (.expr body (lamEnv X scope s1.heap.objs.size f c')) _ _
    have kp : ∀ b o, s1.heap.get? b = some o → h₁.get? b = some o := fun b o e => hsb.extBut b o (Nat.ne_of_lt (Heap.lt_size e)) (Heap.get?_push_of_some _ e)
    have J := lam_start1 (E := E) (f := f) (c' := c') (tk := s1.toks + ([(p, u)] : List (Str × Value)).length) I L hp rv e0 hr.hd un hns kp
    refine PySem.W.kla_codeExpr (wpAny_mono ((hbody _ _ s1 HZ (hr.deeper _)).run [] _ _ HZ Q J ht) (fun v s' hq => ?_) fun e s' hq => hq)
    obtain ⟨w', H', J', rv, q⟩ := hq
    exact ⟨w', H', J'.os, J'.bare, J'.base, J'.hok, rv, q⟩
end
end Dn

set_option Elab.async false
set_option linter.all false
set_option maxRecDepth 100000
set_option maxHeartbeats 2000000
/-! E24: a lambda handed to a def that calls it deeper. -/
namespace Dn
open PySem PySem.Spec PyProof.Rows L2 LamX
theorem among_keep {pos : Pos} {cv : Value} (m l : List Value) (h : TriplesOk l) (hc : codeAmong pos l = some cv) : codeAmong pos (l ++ m) = some cv := by
  fun_induction TriplesOk l with
  | case1 => simp [codeAmong] at hc
  | case2 a t b u x rest ih =>
    simp only [List.cons_append, codeAmong] at hc ⊢
    split at hc
    · rename_i q
      rw [if_pos q]
      exact hc
    · rename_i q
      rw [if_neg q]
      exact ih h hc
  | case3 l h1 h2 => exact h.elim
theorem among_new {pos : Pos} {c : Value} (l : List Value) (h : TriplesOk l) (hc : codeAmong pos l = none) : codeAmong pos (l ++ [rawInt pos.line, rawInt pos.col, c]) = some c := by
  fun_induction TriplesOk l with
  | case1 => simp [codeAmong, rawInt]
  | case2 a t b u x rest ih =>
    simp only [List.cons_append, codeAmong] at hc ⊢
    split at hc
    · cases hc
    · rename_i q
      rw [if_neg q]
      exact ih h hc
  | case3 l h1 h2 => exact h.elim
section
variable {X : Cx} {pins : List (Addr × Obj)} {σ : L2.St} {H : Hp} {s : Shared}
/-- a lambda is made: where it stands, where its code is told -/
theorem made2 {T : List (Addr × Str)} {c P : Addr} {ar : Arguments} {e : Expr} {sc : Scope} {pos : Pos} {E : Value → Shared → Prop} {Q : Value → Shared → Prop} (I : Inv X pins σ H s) (TB : TabB X.base X.mg c P) (hcode : X.env.code = .ref c)
    (hm : (P, X.env.qual ++ "<lambda>") ∈ T) (hu : ∀ p ∈ T, p.1 = P → p.2 = X.env.qual ++ "<lambda>") (hT : Tabs T H) (hdef : defaultsOf ar X.env = ([], [])) (hfree : ∀ y ∈ sc.names, y.2 = .free → ∃ c, X.env.cells.lookup y.1 = some c)
    (h : ∀ (f q : Addr) (pm ct : Value) (H1 : Hp) (s' : Shared), Inv X pins σ H1 s' → (∀ b o, b ≠ P → H b = some o → H1 b = some o) → Tabs T H1 →
      s'.heap.get? f = some (PySem.W.kla_obj "<lambda>" (X.env.qual ++ "<lambda>") ar e sc (cloFrom X.env.cells sc.names []) pm q ct) → H1 f = none → s.heap.objs.size ≤ f → (∃ ps : Array Value, H1 P = some (.tbl ps) ∧ TriplesOk ps.toList ∧ codeAmong pos ps.toList = some (.ref q)) → Q (.ref f) s') :
    wpAny (model X.prog X.w) X.A (eval (.Lambda ar e sc pos) X.env) Q E s := by
  obtain ⟨ps, hP, tri, cod⟩ := hT _ hm
  have bP : s.heap.BuiltinsAt X.mg P := TB.bm.keeps I.bk
  have gP : s.heap.get? P = some { cls := .none, data := .fields ps } := I.hok P _ hP
  refine PySem.W.kla_eval hdef ?_
  cases hc : codeAmong pos ps.toList with
  | some cv =>
    obtain ⟨q, rfl, hq⟩ := cod pos cv hc
    refine PySem.W.kla_makeFunctionHit (mg := X.mg) (c := c) (P := P) (ps := ps) (closure_ok hfree) I.ok.glob (I.mod.glob.keeps I.bk) hcode (TB.code.keeps I.bk) gP tri hc bP fun ct h' tk hx hz => ?_
    exact h h'.objs.size q ((X.mg "__name__").getD .none) ct H { s with heap := h'.push _, toks := tk } (I.kept fun b o e => Heap.get?_push_of_some _ (hx b o e)) (fun _ _ _ e => e) hT (Heap.get?_push_size _ rfl) (I.hok.fresh hz) hz ⟨ps, hP, tri, hc⟩
  | none =>
    refine PySem.W.kla_makeFunction (mg := X.mg) (c := c) (P := P) (ps := ps) (closure_ok hfree) I.ok.glob (I.mod.glob.keeps I.bk) hcode (TB.code.keeps I.bk) gP tri hc TB.gP bP fun q ct h' tk hx hge hlt hrec htb => ?_
    obtain ⟨q2, oc, vs, t, eq, hoc, hd, hv⟩ := hrec
    cases eq
    have hz : s.heap.objs.size ≤ h'.objs.size := Nat.le_trans hge (Nat.le_of_lt hlt)
    have nq : H q = none := I.hok.fresh hge
    have J := inv_table (t' := tk) (more := #[rawInt pos.line, rawInt pos.col, .ref q]) (h' := h'.push (PySem.W.kla_obj "<lambda>" (X.env.qual ++ "<lambda>") ar e sc (cloFrom X.env.cells sc.names []) ((X.mg "__name__").getD .none) q ct)) I hP
      (fun b o hb g => Heap.get?_push_of_some _ (hx b o hb g)) (Heap.get?_push_of_some _ htb) hge ⟨oc, vs, t, Heap.get?_push_of_some _ hoc, hd, hv⟩
    have keep : ∀ b o, b ≠ P → H b = some o → upd (upd H P (.tbl (ps ++ #[rawInt pos.line, rawInt pos.col, .ref q]))) q (CodeO q (X.env.qual ++ "<lambda>")) b = some o := fun b o n g => by
      rw [upd_ne (ne_of_none g nq), upd_ne n]
      exact g
    have lst : (ps ++ #[rawInt pos.line, rawInt pos.col, .ref q]).toList = ps.toList ++ [rawInt pos.line, rawInt pos.col, .ref q] := by simp
    have keepC : ∀ b, H b = some (CodeO b (X.env.qual ++ "<lambda>")) → b ≠ P := fun b g z => by
      rw [z, hP] at g
      exact codeO_ne _ (Option.some.inj g).symm
    have atP : upd (upd H P (.tbl (ps ++ #[rawInt pos.line, rawInt pos.col, .ref q]))) q (CodeO q (X.env.qual ++ "<lambda>")) P = some (.tbl (ps ++ #[rawInt pos.line, rawInt pos.col, .ref q])) := by rw [upd_ne (ne_of_none hP nq), upd_same]
    refine h h'.objs.size q _ ct _ _ J keep (fun p hp => ?_) (Heap.get?_push_size _ rfl) ?_ hz ⟨_, atP, by rw [lst]; exact PySem.TriplesOk_snoc _ _ _ _ tri, by rw [lst]; exact among_new _ tri hc⟩
    · by_cases hb : p.1 = P
      · rw [hu p hp hb, hb]
        refine ⟨_, atP, by rw [lst]; exact PySem.TriplesOk_snoc _ _ _ _ tri, fun p' cv hcv => ?_⟩
        rw [lst] at hcv
        rcases among_app _ tri hcv with z | z
        · obtain ⟨c0, e1, e2⟩ := cod p' cv z
          exact ⟨c0, e1, keep _ _ (keepC _ e2) e2⟩
        · exact ⟨q, z, upd_same⟩
      · obtain ⟨ps', a1, a2, a3⟩ := hT p hp
        refine ⟨ps', keep _ _ hb a1, a2, fun p' cv hcv => ?_⟩
        obtain ⟨c0, e1, e2⟩ := a3 p' cv hcv
        refine ⟨c0, e1, keep _ _ (fun z => ?_) e2⟩
        rw [z, hP] at e2
        exact codeO_ne _ (Option.some.inj e2).symm
    · rw [upd_ne (Nat.ne_of_gt hlt), upd_ne (Nat.ne_of_gt (Nat.lt_of_lt_of_le (Heap.lt_size gP) hz))]
      exact I.hok.fresh hz
end
/-- what is promised of the function at f, from the state s0 on -/
structure Prm (P : Program) (w : World) (K : PySem.W.Frag) (mg : Str → Option Value) (base : Heap) (fs : List Addr) (H0 : Hp) (s0 : Shared) (k : Nat) (f : Addr) (sp : Sp) : Prop where
  at_ : ∀ (s1 : Shared) (HZ : Hp), Un fs [] H0 HZ s0.heap s1.heap → PySem.W.FnAt f s1.heap
  run : ∀ (A : Around) (outer : List PySem.Env) (s1 : Shared) (HZ : Hp) (us : List Value) (vs : List V) (Q : VK) (E : XK), Room k A → Env0 P w K mg base A outer s1 HZ → Un fs [] H0 HZ s0.heap s1.heap → Vals vs us → sp vs HZ Q E →
    codeAny (model P w) A (.call (.ref f) ⟨us, []⟩) (CR (L2.CX P w) outer P w HZ s1 Q E) s1
theorem pe_callP {Y : Cx} {fs : List Addr} {H0 : Hp} {s0 : Shared} {k i : Nat} {f : Addr} {sp : Sp} {E : L2.St → XK} {x : Str} {p pos : Pos} {e : Expr} {es : List Expr} {t : TA} (hP : Prm Y.prog Y.w Y.K Y.mg Y.base fs H0 s0 k f sp) (hr : Room k Y.A) (hun : Un fs [] H0 Y.H_0 s0.heap Y.s_0.heap)
    (hfs : ∀ b ∈ Y.fs, b ∈ fs ∨ s0.heap.objs.size ≤ b) (hex : Y.ex = []) (hN : Y.N[i]? = some x) (hv : Vis Y.env.scope x) (hx : ∀ σ, PassesAt (L2.CX Y.prog Y.w) Y σ (E σ)) (ha : PA Y (e :: es) t)
    (hdb : (x == ("__debug__" : Str)) = false := by decide) (hcd : (x == ("__classdict__" : Str)) = false := by decide)
    (he : starEach (e :: es) Y.env = (false, eval e Y.env) :: starEach es Y.env := by rfl) (hpl : (backTo pos (starEach es Y.env)).any (·.1) = false := by rfl) :
    PE Y (.Call (.Name x p) (e :: es) [] pos) (fun σ H Q => σ[i]? = some (some (.ref f)) ∧ t σ H fun vs H1 => sp vs H1 Q (E σ)) := by
  refine ⟨fun pins s σ H Q I h => ?_⟩
  obtain ⟨hs, ht⟩ := h
  have un : ∀ {σ' : L2.St} {H' : Hp} {s' : Shared}, Inv Y pins σ' H' s' → Un fs [] H0 H' s0.heap s'.heap := fun I => un_then hun (by have := I.base; rwa [hex] at this) hfs
  refine wpAny_Call_Name_kw (thn ((pe_var (pos := p) hN hv hdb hcd).run pins s σ H (fun v H1 => v = .ref f ∧ H1 = H) I ⟨.ref f, hs, rfl, rfl⟩) fun u s1 ⟨v, H1, I1, r1, q1⟩ => ?_)
  obtain ⟨rfl, rfl⟩ := q1
  cases r1
  refine PySem.W.callWith_F (hP.at_ s1 _ (un I1)) (thn (ha.run pos pins s1 σ _ _ I1 ht) fun us s2 ⟨vs, H2, I2, r, q⟩ => ⟨hP.at_ s2 H2 (un I2), ?_⟩) he hpl
  refine wpAny_call (codeAny_mono (hP.run Y.A Y.stack s2 H2 us vs Q (E σ) hr I2.env0 (un I2) r q) fun r s' hq => ?_)
  cases r with
  | error e => exact hx σ pins H2 s2 e s' I2 hq
  | ok fl =>
    cases fl with
    | ret u => exact I2.after hq
    | next => exact False.elim hq
    | brk => exact False.elim hq
    | cont => exact False.elim hq
/-- the function that slot i holds is called; Φ: what the numbers of functions do -/
def dcallt (i : Nat) (Φ : Nat → Option DF) (as : DA) : DE := fun ρ g => match ρ[i]? with
  | some (.rf m) => (match Φ m with | some φ => dcall φ as ρ g | none => .no)
  | _ => .no
theorem RSls.rf {c : Cg} {U : List Addr} {H : Hp} {σ : L2.St} {ρ : Env} {ps : Ps} {i m : Nat} (S : RSls c U H σ ρ ps) (e : ρ[i]? = some (.rf m)) : ∃ a, c.β.F[m]? = some a ∧ σ[i]? = some (some (.ref a)) := by
  obtain ⟨x, p, h1, h2, h3⟩ := S.get e
  cases h3 with
  | rf h => exact ⟨_, h, h1⟩
section
variable {Y : Cx} {c : Cg} {W' : WX} {pos : Pos}
theorem se_callP {fs : List Addr} {H0 : Hp} {s0 : Shared} {k i n : Nat} {f : Addr} {x : Str} {p : Pos} {e : Expr} {es : List Expr} {as : DA} {TT : List (Addr × Str)} {φ : DF} (hP : Prm Y.prog Y.w Y.K Y.mg Y.base fs H0 s0 k f (spT c.K c.cl n TT φ)) (hF : c.β.F = [f]) (hT : c.β.T = TT)
    (hr : Room k Y.A) (hun : Un fs [] H0 Y.H_0 s0.heap Y.s_0.heap) (hfs : ∀ b ∈ Y.fs, b ∈ fs ∨ s0.heap.objs.size ≤ b) (hex : Y.ex = []) (tk : Takes Y W') (ha : SA c Y W' (e :: es) as) (hln : ∀ ρ g xs g', as ρ g = .ok xs g' → xs.length = n)
    (hN : Y.N[i]? = some x := by rfl) (hv : Vis Y.env.scope x := by first | exact Or.inl rfl | exact Or.inr (Or.inl rfl) | exact Or.inr (Or.inr rfl))
    (hdb : (x == ("__debug__" : Str)) = false := by decide) (hcd : (x == ("__classdict__" : Str)) = false := by decide)
    (he : starEach (e :: es) Y.env = (false, eval e Y.env) :: starEach es Y.env := by rfl) (hpl : (backTo pos (starEach es Y.env)).any (·.1) = false := by rfl) :
    SE c Y W' (.Call (.Name x p) (e :: es) [] pos) (dcallt i (fun m => if m = 0 then some φ else none) as) := fun ρ g =>
  PE.imp (pe_callP (E := fun σ => WE W' σ) hP hr hun hfs hex hN hv (fun σ => passAt tk σ) (ha ρ g) hdb hcd he hpl) fun σ H Q ⟨W, ps, S, h⟩ => by
    unfold dcallt at h
    split at h
    · rename_i m er
      split at h
      · rename_i φ' e1
        dsimp only at e1
        split at e1
        · rename_i hm
          cases e1
          subst hm
          obtain ⟨a, h1, h2⟩ := S.sl.rf er
          rw [hF] at h1
          cases h1
          refine ⟨h2, W, ps, S, ?_⟩
          unfold dcall at h
          cases ea : as ρ g with
          | no => rw [ea] at h; exact h.elim
          | ex m g1 => rw [ea] at h; exact h
          | ok xs g1 =>
            rw [ea, Re.bind_ok] at h
            cases ev : vals xs with
            | none => rw [ev] at h; exact h.elim
            | some ds =>
              rw [ev] at h
              dsimp only at h
              refine fun vs H1 f1 b1 ks => ?_
              have S1 := S.step f1 b1
              have hl : vs.length = n := (Paired.length ks).trans (hln ρ g xs g1 ea)
              refine ⟨c.β, owns ps ++ W, ds, g1, hT, hl, vals_rs ev ks, S1.there, S1.bU, b1, ?_⟩
              cases er : φ ds g1 with
              | no => rw [er] at h; exact h
              | ex m g2 => rw [er] at h; exact fun H2 f2 b2 => h H2 (f1.trans f2) b2
              | ok y g2 => rw [er] at h; exact fun v H2 f2 b2 k2 => h v H2 (f1.trans f2) b2 (KR.back f1 k2)
        · cases e1
      · exact h.elim
    · exact h.elim
/-- of several defs of the module -/
structure Fns (P : Program) (w : World) (K : PySem.W.Frag) (mg : Str → Option Value) (base : Heap) (cl : Nat → Value) (k n : Nat) (F : List Addr) (Φ : Nat → Option DF) : Prop where
  ex : ∀ m φ, Φ m = some φ → ∃ (a : Addr) (fd : FuncData) (pn : List Str), F[m]? = some a ∧ FnOk P w K mg base (L2.CX P w) k a fd pn (spF K cl n φ) ∧ PySem.W.keepIn K (.ref a) = true ∧ Binds K fd pn []
theorem pe_callM {f : Addr} {fd : FuncData} {pn : List Str} {sp : Sp} {k i : Nat} {E : L2.St → XK} {x : Str} {p : Pos} {e : Expr} {es : List Expr} {t : TA} (F : FnOk Y.prog Y.w Y.K Y.mg Y.base (L2.CX Y.prog Y.w) k f fd pn sp) (hr : Room k Y.A) (hk : PySem.W.keepIn Y.K (.ref f) = true) (hb : Binds Y.K fd pn [])
    (hN : Y.N[i]? = some x) (hv : Vis Y.env.scope x) (hx : ∀ σ, PassesAt (L2.CX Y.prog Y.w) Y σ (E σ)) (ha : PA Y (e :: es) t) (hdb : (x == ("__debug__" : Str)) = false := by decide) (hcd : (x == ("__classdict__" : Str)) = false := by decide)
    (he : starEach (e :: es) Y.env = (false, eval e Y.env) :: starEach es Y.env := by rfl) (hpl : (backTo pos (starEach es Y.env)).any (·.1) = false := by rfl) :
    PE Y (.Call (.Name x p) (e :: es) [] pos) (fun σ H Q => σ[i]? = some (some (.ref f)) ∧ t σ H fun vs H1 => sp vs H1 Q (E σ)) := by
  refine ⟨fun pins s σ H Q I h => ?_⟩
  obtain ⟨hs, ht⟩ := h
  refine wpAny_Call_Name_kw (thn ((pe_var (pos := p) hN hv hdb hcd).run pins s σ H (fun v H1 => v = .ref f ∧ H1 = H) I ⟨.ref f, hs, rfl, rfl⟩) fun u s1 ⟨v, H1, I1, r1, q1⟩ => ?_)
  obtain ⟨rfl, rfl⟩ := q1
  cases r1
  refine PySem.W.callWith_K (h₀ := Y.base) I.ok.mod.kin hk (thn (ha.run pos pins s1 σ _ _ I1 ht) fun us s2 ⟨vs, H2, I2, r, q⟩ => ⟨I2.kIn, ?_⟩) he hpl
  exact run_fnS F hr hb (hx σ) I2 r q
theorem se_callt {k i n : Nat} {x : Str} {p : Pos} {e : Expr} {es : List Expr} {as : DA} {Φ : Nat → Option DF} {FF : List Addr} (O : Fns Y.prog Y.w Y.K Y.mg Y.base c.cl k n FF Φ) (hF : c.β.F = FF) (hK : c.K = Y.K) (hr : Room k Y.A) (tk : Takes Y W') (ha : SA c Y W' (e :: es) as) (hln : ∀ ρ g xs g', as ρ g = .ok xs g' → xs.length = n)
    (hN : Y.N[i]? = some x := by rfl) (hv : Vis Y.env.scope x := by first | exact Or.inl rfl | exact Or.inr (Or.inl rfl) | exact Or.inr (Or.inr rfl))
    (hdb : (x == ("__debug__" : Str)) = false := by decide) (hcd : (x == ("__classdict__" : Str)) = false := by decide)
    (he : starEach (e :: es) Y.env = (false, eval e Y.env) :: starEach es Y.env := by rfl) (hpl : (backTo pos (starEach es Y.env)).any (·.1) = false := by rfl) :
    SE c Y W' (.Call (.Name x p) (e :: es) [] pos) (dcallt i Φ as) := fun ρ g => by
  cases ei : ρ[i]? with
  | none => exact PE.no fun σ H Q h => by unfold dcallt at h; rw [ei] at h; exact h.no'
  | some sl =>
    cases sl with
    | un => exact PE.no fun σ H Q h => by unfold dcallt at h; rw [ei] at h; exact h.no'
    | fz d => exact PE.no fun σ H Q h => by unfold dcallt at h; rw [ei] at h; exact h.no'
    | ow d => exact PE.no fun σ H Q h => by unfold dcallt at h; rw [ei] at h; exact h.no'
    | rf m =>
      cases em : Φ m with
      | none => exact PE.no fun σ H Q h => by unfold dcallt at h; rw [ei] at h; dsimp only at h; rw [em] at h; exact h.no'
      | some φ =>
        obtain ⟨a, fd, pn, hFa, F, hk, hb⟩ := O.ex m φ em
        refine PE.imp (pe_callM (E := fun σ => WE W' σ) F hr hk hb hN hv (fun σ => passAt tk σ) (ha ρ g) hdb hcd he hpl) fun σ H Q ⟨W, ps, S, h⟩ => ?_
        unfold dcallt at h
        rw [ei] at h
        dsimp only at h
        rw [em] at h
        dsimp only at h
        obtain ⟨a', h1, h2⟩ := S.sl.rf ei
        rw [hF, hFa] at h1
        cases h1
        refine ⟨h2, W, ps, S, ?_⟩
        unfold dcall at h
        cases ea : as ρ g with
        | no => rw [ea] at h; exact h.elim
        | ex m g1 => rw [ea] at h; exact h
        | ok xs g1 =>
          rw [ea, Re.bind_ok] at h
          cases ev : vals xs with
          | none => rw [ev] at h; exact h.elim
          | some ds =>
            rw [ev] at h
            dsimp only at h
            refine fun vs H1 f1 b1 ks => ?_
            have S1 := S.step f1 b1
            have hl : vs.length = n := (Paired.length ks).trans (hln ρ g xs g1 ea)
            rw [← hK]
            refine ⟨c.β, owns ps ++ W, ds, g1, hl, vals_rs ev ks, S1.there, S1.bU, b1, ?_⟩
            cases er : φ ds g1 with
            | no => rw [er] at h; exact h
            | ex m g2 => rw [er] at h; exact fun H2 f2 b2 => h H2 (f1.trans f2) b2
            | ok y g2 => rw [er] at h; exact fun v H2 f2 b2 k2 => h v H2 (f1.trans f2) b2 (KR.back f1 k2)
end
end Dn

set_option Elab.async false
set_option linter.all false
set_option maxRecDepth 100000
set_option maxHeartbeats 2000000
/-! E25: what a lambda handed on promises; the def that it is handed to. -/
namespace Dn
open PySem PySem.Spec PyProof.Rows L2 LamX
section
variable {K : PySem.W.Frag} {cl : Nat → Value} {b : Option Addr} {T : List (Addr × Str)} {F F' : List Addr} {U : List Addr} {H Hs : Hp}
mutual
theorem R.swF : ∀ (d : D) (v : V), R ⟨K, ⟨b, T, F⟩, cl⟩ U H v d → R ⟨K, ⟨b, T, F'⟩, cl⟩ U H v d
  | .non, _, h => by cases h; exact .non
  | .bl b, _, h => by cases h; exact .bl b
  | .int i, _, h => by cases h; exact .int i
  | .str x, _, h => by cases h; exact .str x
  | .tup ds, _, h => by
    cases h with
    | tup h1 h2 hl h3 => exact .tup h1 h2 hl (Rs.swF ds _ h3)
    | ktup h1 h3 => exact .ktup h1 (Rs.swF ds _ h3)
  | .lst ds, _, h => by
    cases h with
    | lst h1 h2 hl h3 => exact .lst h1 h2 hl (Rs.swF ds _ h3)
    | klst h1 h3 => exact .klst h1 (Rs.swF ds _ h3)
  | .dic _ _, _, h => by cases h
  | .box, _, h => by cases h with | box e => exact .box e
theorem Rs.swF : ∀ (ds : List D) (vs : List V), Rs ⟨K, ⟨b, T, F⟩, cl⟩ U H vs ds → Rs ⟨K, ⟨b, T, F'⟩, cl⟩ U H vs ds
  | [], _, h => by cases h; exact .nil
  | d :: ds, _, h => by
    cases h with
    | cons h1 h2 => exact .cons (R.swF d _ h1) (Rs.swF ds _ h2)
end
theorem Cont.swF {p : Addr} : ∀ {d : D}, Cont ⟨K, ⟨b, T, F⟩, cl⟩ U H p d → Cont ⟨K, ⟨b, T, F'⟩, cl⟩ U H p d
  | .lst ds, ⟨xs, h1, hl, h2⟩ => ⟨xs, h1, hl, Rs.swF ds _ h2⟩
theorem KR.swF {k : Kd} {v : V} {d : D} (h : KR ⟨K, ⟨b, T, F⟩, cl⟩ U Hs k H v d) : KR ⟨K, ⟨b, T, F'⟩, cl⟩ U Hs k H v d := by
  cases k with
  | fz => exact R.swF d v h
  | bw =>
    rcases h with h | ⟨p, h1, h2, h3⟩
    · exact .inl (R.swF d v h)
    · exact .inr ⟨p, h1, h2, h3.swF⟩
  | fr =>
    obtain ⟨p, h1, h2, h3, h4, h5⟩ := h
    exact ⟨p, h1, h2, h3, h4, h5.swF⟩
end
/-- of a slot only what is known for good -/
def wipS : Sl → Sl
  | .rf n => .rf n
  | _ => .un
theorem RSls.wip {c c' : Cg} {U U' : List Addr} {H H' : Hp} (e : c'.β.F = c.β.F) : ∀ {σ : L2.St} {ρ : Env} {ps : Ps}, RSls c U H σ ρ ps → RSls c' U' H' σ (ρ.map wipS) (List.replicate σ.length none)
  | _, _, _, .nil => .nil
  | _, _, _, .cons h t => by
    rw [List.length_cons, List.replicate_succ, List.map_cons]
    refine .cons ?_ (RSls.wip e t)
    cases h with
    | rf h => exact .rf (by rw [e]; exact h)
    | _ => exact .un
theorem RSls.app {c : Cg} {U : List Addr} {H : Hp} : ∀ {σ σ' : L2.St} {ρ ρ' : Env} {ps ps' : Ps}, RSls c U H σ ρ ps → RSls c U H σ' ρ' ps' → RSls c U H (σ ++ σ') (ρ ++ ρ') (ps ++ ps')
  | _, _, _, _, _, _, .nil, h => h
  | _, _, _, _, _, _, .cons h t, h' => .cons h (RSls.app t h')
/-- what the lambda does: its own parameter, and of the maker's slots the functions -/
def lamF (δ : DE) (ρ : Env) : DF := fun ds g => match δ (ρ ++ ds.map .fz) g with
  | .ok (.bw, _) _ => .no
  | r => r
theorem rs1 {c : Cg} {U : List Addr} {H : Hp} {v : V} {ds : List D} (h : Rs c U H [v] ds) : ∃ d, ds = [d] ∧ R c U H v d := by
  cases h with
  | cons h1 h2 => cases h2; exact ⟨_, rfl, h1⟩
section
variable {X : Cx} {pins : List (Addr × Obj)} {σ : L2.St} {H : Hp} {s : Shared}
theorem prm_mk {k : Nat} {f c' P : Addr} {pm ctv : Value} {ar : Arguments} {body : Expr} {sc : Scope} {p : Str} {pos : Pos} {TT : List (Addr × Str)} {FF : List Addr} {cl : Nat → Value} {δ : DE} {ρl : Env} (I : Inv X pins σ H s) (L : Lam1 X.env.scope sc p) (hp : p ∉ X.N)
    (hf : s.heap.get? f = some (PySem.W.kla_obj "<lambda>" (X.env.qual ++ "<lambda>") ar body sc (cloFrom X.env.cells sc.names []) pm c' ctv)) (hfn : H f = none) (hfr : f ∉ frs X.stack)
    (hbind : ∀ (q : Str) (cl : List (Str × Addr)) (pm cv ctv u : Value), bindArgs (PySem.W.kla_fn "<lambda>" q ar body sc cl pm cv ctv) ⟨[u], []⟩ = pure [(p, u)])
    (hm : (P, X.env.qual ++ "<lambda>") ∈ TT) (hcode : ∃ ps : Array Value, H P = some (.tbl ps) ∧ TriplesOk ps.toList ∧ codeAmong pos ps.toList = some (.ref c'))
    (hρ : ∀ (β : Bs) (U : List Addr) (H' : Hp), β.F = FF → RSls ⟨X.K, β, cl⟩ U H' σ ρl (List.replicate σ.length none))
    (hbody : ∀ (β : Bs) (A : Around) (outer : List PySem.Env) (s : Shared) (H : Hp) (E : XK), β.T = TT → β.F = FF → Room k (A.deeper (lamEnv X sc s.heap.objs.size f c')) → SE ⟨X.K, β, cl⟩ (lamCx1 X A outer s H E sc f c' p) (fun cls d _ H => E cls d H) body δ) :
    Prm X.prog X.w X.K X.mg X.base (frs X.stack) H s (k + 1) f (spT X.K cl 1 TT (lamF δ ρl)) := by
  refine ⟨fun s1 HZ un => ⟨_, _, _, _, un.keep f _ hf hfn hfr (fun z => nomatch (show f ∈ ([] : List Addr) from z))⟩, fun A outer s1 HZ us vs Q E hr e0 un rv sp => ?_⟩
  obtain ⟨⟨bx, T, F0⟩, W, ds, g, hT, hl, rs, hW, hbx, B, want⟩ := sp
  cases hT
  obtain ⟨v, rfl⟩ : ∃ v, vs = [v] := by
    cases vs with
    | nil => cases hl
    | cons v t => cases t with
      | nil => exact ⟨v, rfl⟩
      | cons _ _ => cases hl
  obtain ⟨d, rfl, rd⟩ := rs1 rs
  obtain ⟨u, rfl, ru⟩ : ∃ u, us = [u] ∧ RelV v u := by
    cases rv with
    | cons r t => cases t; exact ⟨_, rfl, r⟩
  obtain ⟨ps, hP, tri, hca⟩ := hcode
  obtain ⟨more, hPZ⟩ := un.tbls P ps hP
  have hcZ : HZ c' = some (CodeO c' (X.env.qual ++ "<lambda>")) := by
    obtain ⟨ps', a1, a2, a3⟩ := B.2 _ hm
    rw [hPZ] at a1
    cases a1
    have hk := among_keep (pos := pos) more.toList ps.toList tri hca
    obtain ⟨c0, e1, e2⟩ := a3 pos (.ref c') (by rw [Array.toList_append]; exact hk)
    cases e1
    exact e2
  refine lam_run1 (tb := tE ⟨X.K, ⟨bx, T, FF⟩, cl⟩ (fun cls d _ H => E cls d H) (ρl ++ [.fz d]) g (δ (ρl ++ [.fz d]) g)) I L hp hf hfn hfr (hbind _ _ _ _ _ u) e0 hr un hcZ ru (fun A outer s H hr2 => hbody ⟨bx, T, FF⟩ A outer s H E rfl rfl hr2 _ g) ?_
  have eo : owns (List.replicate σ.length none ++ [none] : Ps) = [] := by
    unfold owns
    simp
  refine ⟨W, List.replicate σ.length none ++ [none], ⟨?_, by rw [eo]; exact List.nodup_nil, fun q z => (by rw [eo] at z; cases z), hW, B, hbx⟩, ?_⟩
  · rw [eo, List.nil_append]
    exact (hρ ⟨bx, T, FF⟩ W HZ rfl).app (.cons (.fz (R.swF d v rd)) .nil)
  · rw [eo, List.nil_append]
    unfold lamF at want
    rw [List.map_cons, List.map_nil] at want
    cases er : δ (ρl ++ [.fz d]) g with
    | no => rw [er] at want; exact want
    | ex m g2 => rw [er] at want; exact want
    | ok y g2 =>
      rw [er] at want
      obtain ⟨ky, dy⟩ := y
      cases ky with
      | bw => exact want.elim
      | fz => exact fun v' H' f1 b1 k1 => want v' H' f1 b1 k1.swF
      | fr => exact fun v' H' f1 b1 k1 => want v' H' f1 b1 k1.swF
end
end Dn

set_option Elab.async false
set_option linter.all false
set_option maxRecDepth 100000
set_option maxHeartbeats 2000000
/-! E26: x(a, lambda p: body, b). -/
namespace Dn
open PySem PySem.Spec PyProof.Rows L2 LamX
section
variable {K : PySem.W.Frag} {cl cl' : Nat → Value} {β β' : Bs} {U : List Addr} {H : Hp}
mutual
theorem R.nobox : ∀ (n : Nat) (d : D) (v : V), sh n d = true → R ⟨K, β, cl⟩ U H v d → R ⟨K, β', cl'⟩ U H v d
  | _, .non, _, _, h => by cases h; exact .non
  | _, .bl b, _, _, h => by cases h; exact .bl b
  | _, .int i, _, _, h => by cases h; exact .int i
  | _, .str x, _, _, h => by cases h; exact .str x
  | 0, .tup _, _, s, _ => by simp [sh] at s
  | 0, .lst _, _, s, _ => by simp [sh] at s
  | n + 1, .tup ds, _, s, h => by
    cases h with
    | tup h1 h2 hl h3 => exact .tup h1 h2 hl (Rs.nobox n ds _ s h3)
    | ktup h1 h3 => exact .ktup h1 (Rs.nobox n ds _ s h3)
  | n + 1, .lst ds, _, s, h => by
    cases h with
    | lst h1 h2 hl h3 => exact .lst h1 h2 hl (Rs.nobox n ds _ s h3)
    | klst h1 h3 => exact .klst h1 (Rs.nobox n ds _ s h3)
  | n, .dic _ _, _, s, _ => by cases n <;> simp [sh] at s
  | n, .box, _, s, _ => by cases n <;> simp [sh] at s
theorem Rs.nobox : ∀ (n : Nat) (ds : List D) (vs : List V), ds.all (sh n) = true → Rs ⟨K, β, cl⟩ U H vs ds → Rs ⟨K, β', cl'⟩ U H vs ds
  | _, [], _, _, h => by cases h; exact .nil
  | n, d :: ds, _, s, h => by
    rw [List.all_cons, Bool.and_eq_true] at s
    cases h with
    | cons h1 h2 => exact .cons (R.nobox n d _ s.1 h1) (Rs.nobox n ds _ s.2 h2)
end
end
/-- of the slots the plain data -/
def wipB : Sl → Sl
  | .fz d => if sh 60 d = true then .fz d else .un
  | _ => .un
theorem RSls.plain {K : PySem.W.Frag} {cl : Nat → Value} {β β' : Bs} {U : List Addr} {H : Hp} : ∀ {σ : L2.St} {ρ : Env} {ps : Ps}, RSls ⟨K, β, cl⟩ U H σ ρ ps → RSls ⟨K, β', cl⟩ U H σ (ρ.map wipB) (List.replicate σ.length none)
  | _, _, _, .nil => .nil
  | _, _, _, .cons h t => by
    rw [List.length_cons, List.replicate_succ, List.map_cons]
    refine .cons ?_ (RSls.plain t)
    cases h with
    | fz h =>
      unfold wipB
      dsimp only
      split
      · rename_i e
        exact .fz (R.nobox 60 _ _ e h)
      · exact .un
    | _ => exact .un
/-- the def that a lambda is handed to, between two other things -/
structure Hof (P : Program) (w : World) (K : PySem.W.Frag) (mg : Str → Option Value) (base : Heap) (cl : Nat → Value) (x : Str) (TT : List (Addr × Str)) (kf kr m : Nat) (br : DF → DS) : Prop where
  ex : ∃ (g : Addr) (a0 a1 a2 : Str) (pg : Arguments) (bg : List Stmt) (sg : Scope) (dV kV doc pm cdv ct oc : Value) (an od : Option Addr) (osl : Array (Option Value)) (Ng : List Str),
    mg x = some (.ref g) ∧ PySem.W.keepIn K (.ref g) = true ∧ K.lookup g = some ⟨oc, od, .func (PySem.W.fnOf x x pg bg sg dV kV doc pm an cdv ct), osl⟩ ∧ PySem.W.codeIn K cdv x = true ∧ L2.Binds K (PySem.W.fnOf x x pg bg sg dV kV doc pm an cdv ct) [a0, a1, a2] [] ∧
    FnScope Ng [a0, a1, a2] sg ∧ Ng.length - 3 = m ∧
    ∀ (A : Around) (stack : List PySem.Env) (s3 : Shared) (H3 : Hp) (φ : DF) (f : Addr) (β : Bs), β.T = TT → β.F = [f] → Prm P w K mg base (frs stack) H3 s3 kf f (spT K cl 1 TT φ) → Room kr (A.deeper (envOfC x sg s3.heap.objs.size g cdv)) →
      SSs ⟨K, β, cl⟩ (cxOf (L2.CX P w) P w K mg base Ng x sg g cdv A stack s3 H3 (fun _ _ _ => False)) (fun _ _ _ _ => False) bg (br φ)
def dhofR (m : Nat) (b : DS) (x y : D) (g : G) : Re KD := match b ([.fz x, .rf 0, .fz y] ++ List.replicate m .un) g with
  | .ok (.nx _) g' => .ok (.fz, .non) g'
  | .ok (.rt .fz d) g' => .ok (.fz, d) g'
  | _ => .no
def dhof (m : Nat) (br : DF → DS) (δ : DE) (da db : DE) : DE := fun ρ g => match da ρ g with
  | .ok (.fz, x) g1 => (match db (ρ.map wipB) g1 with
    | .ok (.bw, _) _ => .no
    | .ok (_, y) _ => dhofR m (br (lamF δ (ρ.map wipS))) x y g1
    | _ => .no)
  | _ => .no
theorem rsls_un {c : Cg} {U : List Addr} {H : Hp} : ∀ m : Nat, RSls c U H (List.replicate m none) (List.replicate m .un) (List.replicate m none)
  | 0 => .nil
  | m + 1 => .cons .un (rsls_un m)
section
variable {X : Cx} {cg : Cg} {W' : WX}
theorem se_hof {x p : Str} {k kr m : Nat} {c P : Addr} {br : DF → DS} {e1 e3 body : Expr} {ar : Arguments} {sc : Scope} {lpos pos p0 : Pos} {δ da db : DE} (O : Hof X.prog X.w X.K X.mg X.base cg.cl x cg.β.T (k + 1) kr m br) (hK : cg.K = X.K) (hr : Room (kr + 1) X.A) (hg : Gl X x)
    (TB : TabB X.base X.mg c P) (hcode : X.env.code = .ref c) (hmT : (P, X.env.qual ++ "<lambda>") ∈ cg.β.T) (hu : ∀ p ∈ cg.β.T, p.1 = P → p.2 = X.env.qual ++ "<lambda>") (L : Lam1 X.env.scope sc p) (hp : p ∉ X.N)
    (ha : SE cg X W' e1 da) (hb : SE ⟨X.K, ⟨none, [], cg.β.F⟩, cg.cl⟩ X W' e3 db)
    (hbody : ∀ (β : Bs) (A : Around) (outer : List PySem.Env) (s : Shared) (H : Hp) (E : XK) (f c' : Addr), β.T = cg.β.T → β.F = cg.β.F → Room k (A.deeper (lamEnv X sc s.heap.objs.size f c')) → SE ⟨X.K, β, cg.cl⟩ (lamCx1 X A outer s H E sc f c' p) (fun cls d _ H => E cls d H) body δ)
    (hdef : defaultsOf ar X.env = ([], []) := by rfl) (hbind : ∀ (q : Str) (cl : List (Str × Addr)) (pm cv ctv u : Value), bindArgs (PySem.W.kla_fn "<lambda>" q ar body sc cl pm cv ctv) ⟨[u], []⟩ = pure [(p, u)] := by intros; rfl)
    (hdb : (x == ("__debug__" : Str)) = false := by decide) (he : starEach [e1, .Lambda ar body sc lpos, e3] X.env = (false, eval e1 X.env) :: starEach [.Lambda ar body sc lpos, e3] X.env := by rfl) (hpl : (backTo pos (starEach [.Lambda ar body sc lpos, e3] X.env)).any (·.1) = false := by rfl)
    (hs : backTo pos (starEach [e1, .Lambda ar body sc lpos, e3] X.env) = [(false, eval e1 X.env), (false, eval (.Lambda ar body sc lpos) X.env), (false, eval e3 X.env)] := by rfl) :
    SE cg X W' (.Call (.Name x p0) [e1, .Lambda ar body sc lpos, e3] [] pos) (dhof m br δ da db) := fun ρ g0 => by
  refine ⟨fun pins s σ H Q I ⟨W, ps, S, want⟩ => ?_⟩
  obtain ⟨g, a0, a1, a2, pg, bg, sg, dV, kV, doc, pm, cdv, ct, oc, an, od, osl, Ng, hm, hk, lk, hcg, hbd, Sg, hmN, hright⟩ := O.ex
  unfold dhof at want
  split at want
  · rename_i d1 g1 ea
    have h1 := ha ρ g0
    rw [ea] at h1
    refine wpAny_Call_Name_kw (ld_glob I hg hm ?_ hdb)
    refine PySem.W.callWith_K (h₀ := X.base) I.ok.mod.kin hk ?_ he hpl
    rw [hs]
    refine Calls.spliced_cons (thn (h1.run pins s σ H (fun v H1 => Fr cg.β H H1 ∧ Bx cg.β H1 g1 ∧ R cg (owns ps ++ W) H1 v d1) I ⟨W, ps, S, fun v H1 f b k => ⟨f, b, k⟩⟩) fun u1 s1 ⟨v1, H1, I1, r1, f1, b1, k1⟩ => ?_)
    have S1 := S.step f1 b1
    refine Calls.spliced_cons (made2 I1 TB hcode hmT hu b1.2 hdef (L.has I1.ok) fun f q pm' ct' H2 s2 I2 eN T2 hf hfn hge htab => ?_)
    have f2 : Fr cg.β H1 H2 := fun b o e n => eN b o (fun z => n (.inr (by rw [z]; exact List.mem_map.mpr ⟨_, hmT, rfl⟩))) e
    have b2 : Bx cg.β H2 g1 := ⟨fun b e => eN b _ (fun z => by
      obtain ⟨qs, e2, _⟩ := b1.2 _ hmT
      have e3 := b1.1 b e
      rw [z, e2] at e3
      cases e3) (b1.1 b e), T2⟩
    have S2 := S1.step f2 b2
    have nf : f ≠ X.env.locals := fun z => Nat.lt_irrefl f (Nat.lt_of_lt_of_le (by rw [z]; exact I1.lt) hge)
    have nfs : f ∉ X.fs := I1.nofs hge
    have hfr : f ∉ frs X.stack := fun z => (List.mem_cons.mp (I1.stkSub _ z)).elim nf nfs
    have hpin : ∀ z ∈ X.pn ++ (f, PySem.W.kla_obj "<lambda>" (X.env.qual ++ "<lambda>") ar body sc (cloFrom X.env.cells sc.names []) pm' q ct') :: pins, s2.heap.get? z.1 = some z.2 ∧ H2 z.1 = none ∧ z.1 ≠ X.env.locals ∧ z.1 ∉ X.fs ∧ ∀ v, z.2.data ≠ .cell v := by
      intro z hz
      rcases List.mem_append.mp hz with y | y
      · exact I2.pin z (List.mem_append_left _ y)
      · rcases List.mem_cons.mp y with y | y
        · subst y
          exact ⟨hf, hfn, nf, nfs, fun v e => by cases e⟩
        · exact I2.pin z (List.mem_append_right _ y)
    have I2' : L2.Inv X ((f, PySem.W.kla_obj "<lambda>" (X.env.qual ++ "<lambda>") ar body sc (cloFrom X.env.cells sc.names []) pm' q ct') :: pins) σ H2 s2 := { I2 with pin := hpin }
    split at want
    · exact want.elim
    · rename_i k3 d3 g2 hnb eb
      have h3 := hb (ρ.map wipB) g1
      rw [eb] at h3
      have S0 : SR ⟨X.K, ⟨none, [], cg.β.F⟩, cg.cl⟩ (owns ps ++ W) (List.replicate σ.length none) σ H2 (ρ.map wipB) g1 := by
        have eo : owns (List.replicate σ.length none : Ps) = [] := by unfold owns; simp
        refine ⟨?_, by rw [eo]; exact List.nodup_nil, fun q z => (by rw [eo] at z; cases z), S2.there, ⟨fun b e => (by cases e), fun p hp => (by cases hp)⟩, fun b e => ?_⟩
        · rw [eo, List.nil_append]
          have := S2.sl
          rw [show cg = ⟨X.K, cg.β, cg.cl⟩ by rw [← hK]] at this
          exact this.plain
        · rcases e with e | e
          · cases e
          · cases e
      have eo : owns (List.replicate σ.length none : Ps) ++ (owns ps ++ W) = owns ps ++ W := by unfold owns; simp
      refine Calls.spliced_cons (thn (h3.run _ s2 σ H2 (fun v H3 => Fr ⟨none, [], cg.β.F⟩ H2 H3 ∧ R ⟨X.K, ⟨none, [], cg.β.F⟩, cg.cl⟩ (owns ps ++ W) H3 v d3) I2' ⟨owns ps ++ W, List.replicate σ.length none, S0, fun v H3 f b kr => ⟨f, by
        rw [eo] at kr
        exact kr.toR hnb⟩⟩) fun u3 s3 ⟨v3, H3, I3, r3, f3', k3'⟩ => ?_)
      refine Calls.spliced_nil ⟨I3.kIn, ?_⟩
      have I3b : L2.Inv X pins σ H3 s3 := { I3 with pin := fun z hz => I3.pin z ((List.mem_append.mp hz).elim (fun y => List.mem_append_left _ y) fun y => List.mem_append_right _ (List.mem_cons_of_mem _ y)) }
      have up : ∀ b o, H2 b = some o → H3 b = some o := fun b o e => f3' b o e fun z => by
        rcases z with z | z
        · cases z
        · cases z
      have f3 : Fr cg.β H2 H3 := fun b o e _ => up b o e
      have b3 : Bx cg.β H3 g1 := b2.fr up
      have S3 := S2.step f3 b3
      obtain ⟨pf1, pf2, _⟩ := I3.pin _ (List.mem_append_right _ List.mem_cons_self)
      obtain ⟨tb, tb1, tb2, tb3⟩ := htab
      have hP := prm_mk (k := k) (TT := cg.β.T) (FF := cg.β.F) (cl := cg.cl) (δ := δ) (ρl := ρ.map wipS) I3 L hp pf1 pf2 hfr hbind hmT ⟨tb, up _ _ tb1, tb2, tb3⟩ (fun β U H' e => S3.sl.wip (c := cg) (c' := ⟨X.K, β, cg.cl⟩) e) (fun β A outer s H E h1 h2 h3 => hbody β A outer s H E f q h1 h2 h3)
      have R1 : R ⟨X.K, ⟨cg.β.box, cg.β.T, [f]⟩, cg.cl⟩ (owns ps ++ W) H3 v1 d1 := by
        have z := (k1.chg (S1.kr f2) _ _).chg (S2.kr f3) _ _
        rw [show cg = ⟨X.K, ⟨cg.β.box, cg.β.T, cg.β.F⟩, cg.cl⟩ by rw [← hK]] at z
        exact R.swF _ _ z
      have R3 : R ⟨X.K, ⟨cg.β.box, cg.β.T, [f]⟩, cg.cl⟩ (owns ps ++ W) H3 v3 d3 := by
        have z : R ⟨X.K, ⟨cg.β.box, cg.β.T, cg.β.F⟩, cg.cl⟩ (owns ps ++ W) H3 v3 d3 := R.chg (c := ⟨X.K, ⟨none, [], cg.β.F⟩, cg.cl⟩) (c' := ⟨X.K, ⟨cg.β.box, cg.β.T, cg.β.F⟩, cg.cl⟩) (U := owns ps ++ W) (U' := owns ps ++ W) (H := H3) (H' := H3) ⟨rfl, fun b e => by
          cases b with
          | inl b => exact absurd (show (none : Option Addr) = some b from e) (by simp)
          | inr q => exact e, fun a o e n => ⟨e, n⟩⟩ _ _ k3'
        exact R.swF _ _ z
      have run : codeAny (model X.prog X.w) X.A (.call (.ref g) ⟨[u1, .ref f, u3], []⟩) (CR (L2.CX X.prog X.w) X.stack X.prog X.w H3 s3 Q (fun _ _ _ => False)) s3 := by
        refine run_ofS (N := Ng) (ps := [a0, a1, a2]) (us := [u1, .ref f, u3]) (vs := [v1, .ref f, v3]) lk hcg Sg hr I3.env0 (hbd s3 _ I3.kIn rfl) (.cons r1 (.cons rfl (.cons r3 .nil))) rfl fun hr2 => ?_
        refine ⟨_, hright X.A X.stack s3 H3 _ f ⟨cg.β.box, cg.β.T, [f]⟩ rfl rfl hP hr2 ([.fz d1, .rf 0, .fz d3] ++ List.replicate m .un) g1, owns ps ++ W, [none, none, none] ++ List.replicate m none, ?_, ?_⟩
        · have eo2 : owns ([none, none, none] ++ List.replicate m none : Ps) = [] := by unfold owns; simp
          refine ⟨?_, by rw [eo2]; exact List.nodup_nil, fun q z => (by rw [eo2] at z; cases z), S3.there, b3, S3.bU⟩
          rw [eo2, List.nil_append]
          have es : L2.start Ng [v1, V.ref f, v3] = [some v1, some (.ref f), some v3] ++ List.replicate m none := by
            unfold L2.start
            rw [← hmN]
            rfl
          rw [es]
          exact RSls.app (.cons (.fz R1) (.cons (.rf rfl) (.cons (.fz R3) .nil))) (rsls_un m)
        · unfold dhofR at want
          have eo2 : owns ([none, none, none] ++ List.replicate m none : Ps) = [] := by unfold owns; simp
          have fr0 : Fr cg.β H H3 := (f1.trans f2).trans f3
          cases er : br (lamF δ (ρ.map wipS)) ([.fz d1, .rf 0, .fz d3] ++ List.replicate m .un) g1 with
          | no => rw [er] at want; exact want.elim
          | ex j g' => rw [er] at want; exact want.elim
          | ok fl g' =>
            rw [er] at want
            cases fl with
            | nx ρ' => exact fun σ' H' ps' S' st => want .non H' (fun a o e n => st.fs a o (fr0 a o e n) (by rw [eo2]; simp) n) S'.bx .non
            | bk ρ' => exact want.elim
            | ct ρ' => exact want.elim
            | rt k d =>
              intro v H' ff bb kr
              cases k with
              | bw => exact want.elim
              | fz =>
                refine want v H' (fun a o e n => ff a o (fr0 a o e n) (by rw [eo2]; simp) n) bb ?_
                have kr : R ⟨X.K, ⟨cg.β.box, cg.β.T, [f]⟩, cg.cl⟩ (owns ps ++ W) H' v d := kr
                have z : R ⟨X.K, ⟨cg.β.box, cg.β.T, cg.β.F⟩, cg.cl⟩ (owns ps ++ W) H' v d := R.swF _ _ kr
                show R cg _ _ _ _
                rw [show cg = ⟨X.K, ⟨cg.β.box, cg.β.T, cg.β.F⟩, cg.cl⟩ by rw [← hK]]
                exact z
              | fr => exact want.elim
      refine wpAny_call (codeAny_mono run fun r s' hq => ?_)
      cases r with
      | error e =>
        obtain ⟨_, _, _, _, _, _, _, _, _, _, _, _, z⟩ := hq
        exact z.elim
      | ok fl =>
        cases fl with
        | ret u => exact I3b.after hq
        | next => exact False.elim hq
        | brk => exact False.elim hq
        | cont => exact False.elim hq
    · exact want.elim
  · exact want.elim
end
end Dn

set_option Elab.async false
set_option linter.all false
set_option maxRecDepth 100000
set_option maxHeartbeats 2000000
/-! E27: a told lambda that knows what changed since its maker was entered. -/
namespace Dn
open PySem PySem.Spec PyProof.Rows L2 LamX
section
variable {X : Cx} {pins : List (Addr × Obj)} {σ : L2.St} {H : Hp} {s : Shared}
theorem pe_act2 {CXg : CXT} {Eg : XK} {Ng : List Str} {qg : Str} {sg : Scope} {g f c' : Addr} {cdg pm ctv : Value} {ar : Arguments} {body : Expr} {sc : Scope} {k i : Nat} {a : Str} {pn : List (Addr × Obj)} {xe : Value → Shared → Prop} {W : WX} {E : XK} {tb : TE} {p1 p2 : Pos}
    (I : Inv X pins σ H s) (L : LamS X.env.scope sc) (hf : s.heap.get? f = some (PySem.W.kla_obj "<lambda>" (X.env.qual ++ "<lambda>") ar body sc (cloFrom X.env.cells sc.names []) pm c' ctv)) (hfn : H f = none) (hfr : f ∉ frs X.stack)
    (hbind : bindArgs (PySem.W.kla_fn "<lambda>" (X.env.qual ++ "<lambda>") ar body sc (cloFrom X.env.cells sc.names []) pm (.ref c') ctv) ⟨[], []⟩ = pure [])
    (tk : Takes ((cxOf CXg X.prog X.w X.K X.mg X.base Ng qg sg g cdg X.A X.stack s H Eg).tr pn xe) W) (hW : ∀ cls d σ' H', E cls d H' → W cls d σ' H') (hr : Room (k + 1) (X.A.deeper (envOfC qg sg s.heap.objs.size g cdg)))
    (hbody : ∀ (A : Around) (outer : List PySem.Env) (s1 : Shared) (H1 : Hp), Room k (A.deeper (lamEnv X sc s1.heap.objs.size f c')) → Un (frs X.stack) [] H H1 s.heap s1.heap → (∀ b ∈ frs outer, b ∈ frs X.stack ∨ s.heap.objs.size ≤ b) → PE (lamCx X A outer s1 H1 E sc f c') body tb)
    (hN : Ng[i]? = some a) (hv : Vis sg a) (hd : (a == ("__debug__" : Str)) = false := by decide) (hcd : (a == ("__classdict__" : Str)) = false := by decide) :
    PE ((cxOf CXg X.prog X.w X.K X.mg X.base Ng qg sg g cdg X.A X.stack s H Eg).tr pn xe) (.Call (.Name a p1) [] [] p2)
      (fun σZ HZ Q => σZ[i]? = some (some (.ref f)) ∧ HZ c' = some (CodeO c' (X.env.qual ++ "<lambda>")) ∧ tb σ HZ Q) := by
  refine ⟨fun pinsZ sZ σZ HZ Q IZ ⟨hs, hc, ht⟩ => ?_⟩
  refine wpAny_Call_Name_kw (thn ((pe_var (pos := p1) (i := i) hN hv hd hcd).run pinsZ sZ σZ HZ (fun v H1 => v = .ref f ∧ H1 = HZ) IZ ⟨.ref f, hs, rfl, rfl⟩) fun u s1 ⟨v, H1, I1, r1, ev, eH⟩ => ?_)
  subst ev
  rw [eH] at I1
  obtain rfl : u = Value.ref f := r1
  have un : Un (frs X.stack) [] H HZ s.heap s1.heap := I1.base
  have of1 := un.keep f _ hf hfn hfr (fun z => nomatch (show f ∈ ([] : List Addr) from z))
  refine PySem.W.callWith_F0 ⟨_, _, _, _, of1⟩ ?_
  obtain ⟨⟨oc, vs, t, hoc, hdc, hvc⟩, _, _⟩ := I1.hok c' _ hc
  have ho : ∀ b ∈ frs (envOfC qg sg s.heap.objs.size g cdg :: X.stack), b ∈ frs X.stack ∨ s.heap.objs.size ≤ b := fun b hb => by
    have hb : b ∈ s.heap.objs.size :: frs X.stack := hb
    exact (List.mem_cons.mp hb).elim (fun e => .inr (Nat.le_of_eq e.symm)) .inl
  have rc : codeAny (model X.prog X.w) (X.A.deeper (envOfC qg sg s.heap.objs.size g cdg)) (.call (.ref f) ⟨[], []⟩) (CR (L2.CX X.prog X.w) (envOfC qg sg s.heap.objs.size g cdg :: X.stack) X.prog X.w HZ s1 Q E) s1 := by
    refine PySem.W.kla_callFunE hr.depth of1 rfl L.co L.gen rfl ⟨c', oc, vs, t, rfl, hoc, hdc, hvc⟩ ?_
    rw [hbind]
    refine wpAny_pure (wpAny_newFunctionEnv (fun y hy => (L.own y hy).2) (fun y hy => absurd hy (by simp)) (fun h₁ hns hsb => ⟨I1.nolimit.fresh _ hsb, ?_⟩) L.kind)
    show codeAny _ _ (.expr body (lamEnv X sc s1.heap.objs.size f c')) _ _
    have kp : ∀ b o, s1.heap.get? b = some o → h₁.get? b = some o := fun b o e => hsb.extBut b o (Nat.ne_of_lt (Heap.lt_size e)) (Heap.get?_push_of_some _ e)
    have J : Inv (lamCx X (X.A.deeper (envOfC qg sg s.heap.objs.size g cdg)) (envOfC qg sg s.heap.objs.size g cdg :: X.stack) s1 HZ E sc f c') [] σ HZ { s1 with heap := h₁, toks := s1.toks + ([] : List (Str × Value)).length } :=
      lam_start2 I L I1.env0 hr.hd un hns kp
    refine PySem.W.kla_codeExpr (wpAny_mono ((hbody _ _ s1 HZ (hr.deeper _) un ho).run [] _ _ HZ Q J ht) (fun v s' hq => ?_) fun e s' hq => hq)
    obtain ⟨w', H', J', rv, q⟩ := hq
    exact ⟨w', H', J'.os, J'.bare, J'.base, J'.hok, rv, q⟩
  refine wpAny_call (codeAny_mono rc fun r s' hq => ?_)
  cases r with
  | error e => exact passes_call tk hW pinsZ σZ HZ s1 e s' I1 hq
  | ok fl =>
    cases fl with
    | ret u => exact I1.after hq
    | next => exact False.elim hq
    | brk => exact False.elim hq
    | cont => exact False.elim hq
end
section
variable {X : Cx}
theorem pe_lm2 {T : List (Addr × Str)} {TT : (XK → Hp → VK → Prop) → Hp → VK → Prop} {x a : Str} {g c P : Addr} {k : Nat} {pg : Arguments} {bg : List Stmt} {sg : Scope} {dV kV doc pm cdv ct oc : Value} {an od : Option Addr} {osl : Array (Option Value)} {Ng : List Str}
    {ar : Arguments} {body : Expr} {sc : Scope} {t : XK → TE} {p lpos pos : Pos} (hg : Gl X x) (hm : X.mg x = some (.ref g)) (hk : PySem.W.keepIn X.K (.ref g) = true)
    (lk : X.K.lookup g = some ⟨oc, od, .func (PySem.W.fnOf x x pg bg sg dV kV doc pm an cdv ct), osl⟩) (hcg : PySem.W.codeIn X.K cdv x = true) (hb : L2.Binds X.K (PySem.W.fnOf x x pg bg sg dV kV doc pm an cdv ct) [a] []) (Sg : FnScope Ng [a] sg) (hNg : Ng[0]? = some a) (hva : Vis sg a)
    (hG : GivesTo X Ng x sg g cdv bg a (X.env.qual ++ "<lambda>") TT)
    (TB : TabB X.base X.mg c P) (hcode : X.env.code = .ref c) (hmT : (P, X.env.qual ++ "<lambda>") ∈ T) (hu : ∀ p ∈ T, p.1 = P → p.2 = X.env.qual ++ "<lambda>") (hr : Room (k + 2) X.A) (L : LamS X.env.scope sc) (hdef : defaultsOf ar X.env = ([], []))
    (hbind : ∀ (q : Str) (cl : List (Str × Addr)) (pm cv ctv : Value), bindArgs (PySem.W.kla_fn "<lambda>" q ar body sc cl pm cv ctv) ⟨[], []⟩ = pure [])
    (hex : X.ex = []) (hbody : ∀ (A : Around) (outer : List PySem.Env) (s : Shared) (H : Hp) (E : XK) (f c' : Addr), Room k (A.deeper (lamEnv X sc s.heap.objs.size f c')) → Un X.fs [] X.H_0 H X.s_0.heap s.heap → (∀ b ∈ frs outer, b ∈ X.fs ∨ X.s_0.heap.objs.size ≤ b) → PE (lamCx X A outer s H E sc f c') body (t E))
    (hdb : (x == ("__debug__" : Str)) = false := by decide) (hd : (a == ("__debug__" : Str)) = false := by decide) (hcd : (a == ("__classdict__" : Str)) = false := by decide) :
    PE X (.Call (.Name x p) [.Lambda ar body sc lpos] [] pos) (tLm T TT t) := by
  refine ⟨fun pins s σ H Q I h => ?_⟩
  obtain ⟨hT, h⟩ := h
  refine wpAny_Call_Name_kw (ld_glob I hg hm ?_ hdb)
  refine PySem.W.callWith_K (h₀ := X.base) I.ok.mod.kin hk ?_ (by rfl) (by rfl)
  show wpAny _ _ (spliced ((false, eval (.Lambda ar body sc lpos) X.env) :: backTo pos (starEach [] X.env))) _ _ s
  refine Calls.spliced_cons (made I TB hcode hmT hu hT hdef (L.has I.ok) fun f q pm' ct' H1 s' J eN T1 hf hfn hfr hco => ?_)
  refine Calls.spliced_nil ⟨J.kIn, ?_⟩
  have eT : ∀ b o, b ∉ T.map Prod.fst → H b = some o → H1 b = some o := fun b o n e => eN b o (fun z => n (by rw [z]; exact List.mem_map.mpr ⟨_, hmT, rfl⟩)) e
  have run : codeAny (model X.prog X.w) X.A (.call (.ref g) ⟨[.ref f], []⟩) (CR C8.CX0 X.stack X.prog X.w H1 s' Q C8.E0) s' := by
    refine run_ofS (N := Ng) (ps := [a]) (us := [.ref f]) (vs := [.ref f]) lk hcg Sg hr J.env0 (hb s' [.ref f] J.kIn rfl) (.cons rfl .nil) rfl fun hr' => ?_
    obtain ⟨t', ht', hq'⟩ := hG f q s' H1 Q (fun E H' Q' => t E σ H' Q') (fun W pn xe E p1 p2 tk hW => pe_act2 (i := 0) J L hf hfn hfr (hbind _ _ _ _ _) tk hW hr' (fun A outer s H hr2 un ho => hbody A outer s H E f q hr2 (un_then (by have := J.base; rwa [hex] at this) un fun b hb => (List.mem_cons.mp (J.stkSub b hb)).elim (fun e => .inr (by rw [e]; exact J.ok.above)) .inl) fun b hb => (ho b hb).elim (fun z => (List.mem_cons.mp (J.stkSub b z)).elim (fun e => .inr (by rw [e]; exact J.ok.above)) .inl) fun z => .inr (Nat.le_trans J.sz z)) hNg hva hd hcd) hco (h H1 eT T1)
    exact ⟨t', ht'.nox, hq'⟩
  refine wpAny_call (codeAny_mono run fun r s2 hq => ?_)
  cases r with
  | error e => exact (show False from hq).elim
  | ok fl =>
    cases fl with
    | ret u => exact J.after hq
    | next => exact False.elim hq
    | brk => exact False.elim hq
    | cont => exact False.elim hq
theorem se_told2 {cg : Cg} {W' : WX} {φ : DF} {rg : Nat → Option Bool} {w1 w2 : Str} {δ : DE} {CS RG : Addr} {x a : Str} {g c P : Addr} {k : Nat} {pg : Arguments} {bg : List Stmt} {sg : Scope} {dV kV doc pm cdv ct oc : Value} {an od : Option Addr} {osl : Array (Option Value)} {Ng : List Str}
    {ar : Arguments} {body : Expr} {sc : Scope} {p lpos pos : Pos} (hK : cg.K = X.K) (hrg : Rgs X.K cg.cl CS RG rg) (hg : Gl X x) (hm : X.mg x = some (.ref g)) (hk : PySem.W.keepIn X.K (.ref g) = true)
    (lk : X.K.lookup g = some ⟨oc, od, .func (PySem.W.fnOf x x pg bg sg dV kV doc pm an cdv ct), osl⟩) (hcg : PySem.W.codeIn X.K cdv x = true) (hb : L2.Binds X.K (PySem.W.fnOf x x pg bg sg dV kV doc pm an cdv ct) [a] []) (Sg : FnScope Ng [a] sg) (hNg : Ng[0]? = some a) (hva : Vis sg a)
    (hG : GivesTo X Ng x sg g cdv bg a (X.env.qual ++ "<lambda>") (TTd X.K (spF X.K cg.cl 1 φ) CS RG w1 w2))
    (TB : TabB X.base X.mg c P) (hcode : X.env.code = .ref c) (hmT : (P, X.env.qual ++ "<lambda>") ∈ cg.β.T) (hu : ∀ p ∈ cg.β.T, p.1 = P → p.2 = X.env.qual ++ "<lambda>") (hr : Room (k + 2) X.A) (L : LamS X.env.scope sc) (hdef : defaultsOf ar X.env = ([], []))
    (hbind : ∀ (q : Str) (cl : List (Str × Addr)) (pm cv ctv : Value), bindArgs (PySem.W.kla_fn "<lambda>" q ar body sc cl pm cv ctv) ⟨[], []⟩ = pure [])
    (hex : X.ex = []) (hbody : ∀ (A : Around) (outer : List PySem.Env) (s : Shared) (H : Hp) (E : XK) (f c' : Addr), Room k (A.deeper (lamEnv X sc s.heap.objs.size f c')) → Un X.fs [] X.H_0 H X.s_0.heap s.heap → (∀ b ∈ frs outer, b ∈ X.fs ∨ X.s_0.heap.objs.size ≤ b) → SE cg (lamCx X A outer s H E sc f c') (fun cls d _ H => E cls d H) body δ)
    (hdb : (x == ("__debug__" : Str)) = false := by decide) (hd : (a == ("__debug__" : Str)) = false := by decide) (hcd : (a == ("__classdict__" : Str)) = false := by decide) :
    SE cg X W' (.Call (.Name x p) [.Lambda ar body sc lpos] [] pos) (dtold φ rg w1 w2 δ) := fun ρ g0 =>
  PE.imp (pe_lm2 hg hm hk lk hcg hb Sg hNg hva hG TB hcode hmT hu hr L hdef hbind hex (fun A outer s H E f c' h h2 h3 => hbody A outer s H E f c' h h2 h3 ρ g0) hdb hd hcd) fun σ H Q ⟨W, ps, S, h⟩ => by
    refine ⟨S.bx.2, fun H1 eN T1 => ?_⟩
    have f1 : Fr cg.β H H1 := fun b o e n => eN b o (fun z => n (.inr z)) e
    have b1 : Bx cg.β H1 g0 := ⟨fun b e => eN b _ (fun z => by
      obtain ⟨q, hq, rfl⟩ := List.mem_map.mp z
      obtain ⟨qs, e2, _⟩ := S.bx.2 q hq
      rw [S.bx.1 _ e] at e2
      cases e2) (S.bx.1 b e), T1⟩
    have S1 := S.step f1 b1
    unfold dtold at h
    cases ed : δ ρ g0 with
    | no => rw [ed] at h; exact h.elim
    | ex n g1 =>
      rw [ed] at h
      dsimp only at h
      cases er : rg n with
      | none => rw [er] at h; exact h.elim
      | some b =>
        rw [er] at h
        dsimp only at h
        obtain ⟨D, e1, e2, e3, e4⟩ := hrg n b er
        refine ⟨fun cls d H' => cls = .ref D ∧ d = none ∧ Fr cg.β H1 H' ∧ Bx cg.β H' g1, fun cls d H' ⟨q1, q2, q3, q4⟩ => ⟨D, b, q1, q2, e2, e3, e4, fun p np => ?_⟩, fun E => ⟨W, ps, S1, fun H2 f2 b2 => ⟨e1, rfl, f2, b2⟩⟩⟩
        have S2 := S1.step q3 q4
        exact h _ _ ((f1.trans q3).trans (ext_fr (extU np))) (q4.fr (extU np)) (new_tup S2.there np two_le (.cons (.int 1) (.cons (.str _) .nil)))
    | ok y g1 =>
      rw [ed] at h
      dsimp only at h
      cases ev : vals [y] with
      | none => rw [ev] at h; exact h.elim
      | some ds =>
        rw [ev] at h
        dsimp only at h
        obtain ⟨hy, rfl⟩ := Dn.vals1 ev
        refine ⟨fun _ _ _ => False, fun _ _ _ z => z.elim, fun E => ⟨W, ps, S1, fun v H2 f2 b2 k2 => ?_⟩⟩
        have S2 := S1.step f2 b2
        refine ⟨cg.β, owns ps ++ W, [y.2], g1, rfl, ?_, S2.there, S2.bU, b2, ?_⟩
        · rw [← hK]; exact .cons (k2.toR hy) .nil
        · cases ef : φ [y.2] g1 with
          | no => rw [ef] at h; exact h.elim
          | ex n g2 => rw [ef] at h; exact h.elim
          | ok z g2 =>
            rw [ef] at h
            dsimp only at h
            cases ez : vals [z] with
            | none => rw [ez] at h; exact h.elim
            | some es =>
              rw [ez] at h
              dsimp only at h
              obtain ⟨hz, rfl⟩ := Dn.vals1 ez
              intro w H3 f3 b3 k3
              refine ⟨two_le, fun p np => ?_⟩
              have S3 := S2.step f3 b3
              rw [← hK] at k3
              exact h _ _ (((f1.trans f2).trans f3).trans (ext_fr (extU np))) (b3.fr (extU np)) (new_tup S3.there np two_le (.cons (.int 0) (.cons (k3.toR hz) .nil)))
theorem se_tl2 {X : Cx} {cg : Cg} {W' : WX} {φ : DF} {rg : Nat → Option Bool} {w1 w2 : Str} {δ : DE} {x : Str} {c P : Addr} {k kr : Nat} {ar : Arguments} {body : Expr} {sc : Scope} {p lpos pos : Pos} (hK : cg.K = X.K) (TO : Tld X.prog X.w X.K X.mg X.base cg.cl x φ rg w1 w2 kr) (hr : Room (k + 2) X.A) (hkr : kr + 1 ≤ k + 2) (hg : Gl X x)
    (TB : TabB X.base X.mg c P) (hcode : X.env.code = .ref c) (hmT : (P, X.env.qual ++ "<lambda>") ∈ cg.β.T) (hu : ∀ p ∈ cg.β.T, p.1 = P → p.2 = X.env.qual ++ "<lambda>") (L : LamS X.env.scope sc)
    (hex : X.ex = []) (hbody : ∀ (A : Around) (outer : List PySem.Env) (s : Shared) (H : Hp) (E : XK) (f c' : Addr), Room k (A.deeper (lamEnv X sc s.heap.objs.size f c')) → Un X.fs [] X.H_0 H X.s_0.heap s.heap → (∀ b ∈ frs outer, b ∈ X.fs ∨ X.s_0.heap.objs.size ≤ b) → SE cg (lamCx X A outer s H E sc f c') (fun cls d _ H => E cls d H) body δ)
    (hdef : defaultsOf ar X.env = ([], []) := by rfl) (hbind : ∀ (q : Str) (cl : List (Str × Addr)) (pm cv ctv : Value), bindArgs (PySem.W.kla_fn "<lambda>" q ar body sc cl pm cv ctv) ⟨[], []⟩ = pure [] := by intros; rfl) (hdb : (x == ("__debug__" : Str)) = false := by decide) :
    SE cg X W' (.Call (.Name x p) [.Lambda ar body sc lpos] [] pos) (dtold φ rg w1 w2 δ) := by
  obtain ⟨g, CS, RG, a, pg, bg, sg, dV, kV, doc, pm, cdv, ct, oc, an, od, osl, Ng, h1, h2, h3, h4, h5, h6, h7, h8, h9, h10, h11, h12⟩ := TO.ex
  exact se_told2 hK h11 hg h1 h2 h3 h4 h5 h6 h7 h8 (h12 X _ rfl rfl rfl rfl rfl (hr.mono hkr)) TB hcode hmT hu hr L hdef hbind hex hbody hdb h9 h10
end
end Dn

set_option Elab.async false
set_option linter.all false
set_option maxRecDepth 100000
set_option maxHeartbeats 2000000
/-! E28: for x in [f, g]: defs of the module, one by one. -/
namespace Dn
open PySem PySem.Spec PyProof.Rows L2 LamX
def fnb (i : Nat) (b : DS) : D → Env → G → Re Fl := fun d ρ g => match d with
  | .int n => b (ρ.set i (.rf n.toNat)) g
  | _ => .no
def dforfn (i : Nat) (ns : List Nat) (b : DS) : DS := fun ρ g => forL (fnb i b) (ns.map fun (n : Nat) => D.int (n : Int)) ρ g
section
variable {c : Cg} {X : Cx} {W' : WX} {pos : Pos}
theorem ss_forfn (i : Nat) {x : Str} {px : Pos} {iter : Expr} {body : List Stmt} {t : TE} {ns : List Nat} {as : List Addr} {b : DS} (hp : PassesOwn (model X.prog X.w) X.A X.env X.xe) (hc : X.calm = true) (he : PE X iter t)
    (ht : ∀ σ H Q, (∀ p, H p = none → Q (.ref p) (upd H p (.lst (as.map V.ref)))) → t σ H Q) (hlen : as.length ≤ 1000 ∧ ns.length = as.length) (hF : ∀ j n : Nat, ns[j]? = some n → ∃ a, as[j]? = some a ∧ c.β.F[n]? = some a) (hb : SSs c X W' body b)
    (hN : X.N.Nodup) (hi : X.N[i]? = some x := by rfl) (hx : Loc X.env.scope x := by first | exact Or.inl rfl | exact Or.inr rfl) (hf : X.fn x = true ∨ X.env.scope.names.lookup x = some .local := by first | exact .inl rfl | exact .inr rfl)
    (hs : ∀ x, foldedSetIterable iter X.env x = pure x := by intro _; rfl) : SS c X W' (.For (.Name x px) iter body [] pos) (dforfn i ns b) := fun ρ g => by
  refine PS.imp (ps_for hp hc (pi_list he) (pg_name (i := i) hN hi hx hf) hb.anyS hs) fun D0 σ H ⟨W, ps, S, h⟩ => ?_
  unfold dforfn at h
  refine ht _ _ _ fun p np => ⟨p, rfl, ⟨_, .inl (.inl upd_same)⟩, ?_⟩
  have up : ∀ a o, H a = some o → upd H p (.lst (as.map V.ref)) a = some o := extU np
  have S1 := S.step (ext_fr up) (S.bx.fr up)
  have h := WantS.later (Stp.of (ps := ps) (ext_fr (β := c.β) up)) h
  have nex : ¬ c.β.ex p := fun z => S.bx.at z np
  have nown : p ∉ owns ps := fun z => S.sl.owned p (mem_owns.mp z) np
  have ln : (ns.map fun (n : Nat) => D.int (n : Int)).length = (as.map V.ref).length := by rw [List.length_map, List.length_map, hlen.2]
  refine for_list (xs := as.map V.ref) (D := D0) (g := gName i) (tb := anyS c W' b) (fun k σ2 H2 => ∃ ρ2 g2 ps2, SR c W ps2 σ2 H2 ρ2 g2 ∧ Stp c.β ps (upd H p (.lst (as.map V.ref))) ps2 H2 ∧ WantS c W' W ps2 H2 D0 (forL (fnb i b) ((ns.map fun (n : Nat) => D.int (n : Int)).drop k) ρ2 g2)) ⟨ρ, g, ps, S1, Stp.refl, h⟩ ?_ ?_ ?_
  · rintro k σ2 H2 _ ⟨ρ2, g2, ps2, S2, st, _⟩
    exact .inl (.inl (st.fs p _ upd_same nown nex))
  · rintro k xv σ2 H2 hk ⟨ρ2, g2, ps2, S2, st, wnt⟩
    have hlt : k < (as.map V.ref).length := (List.getElem?_eq_some_iff.mp hk).1
    have hlt2 : k < ns.length := by rw [← ln, List.length_map] at hlt; exact hlt
    obtain ⟨a, ea, eF⟩ := hF k ns[k] (List.getElem?_eq_getElem hlt2)
    have exv : xv = .ref a := by
      rw [List.getElem?_map, ea] at hk
      exact (Option.some.inj hk).symm
    subst exv
    have ed : (ns.map fun (n : Nat) => D.int (n : Int)).drop k = D.int (ns[k] : Int) :: (ns.map fun (n : Nat) => D.int (n : Int)).drop (k + 1) := by
      rw [List.drop_eq_getElem_cons (by rw [List.length_map]; exact hlt2), List.getElem_map]
    rw [ed] at wnt
    unfold forL at wnt
    have ef : fnb i b (D.int (ns[k] : Int)) ρ2 g2 = b (ρ2.set i (.rf ns[k])) g2 := by
      unfold fnb
      dsimp only
      rw [Int.toNat_natCast]
    rw [ef] at wnt
    have S4 : SR c W (ps2.set i none) (σ2.set i (some (.ref a))) H2 (ρ2.set i (.rf ns[k])) g2 := by
      refine ⟨(S2.sl.set i (.rf eF)).chg (Chg.less fun a z => ?_) fun _ _ _ e => e, owns_nd_none S2.nd, fun p z => S2.dj p (owns_set_none z), S2.old, S2.bx, S2.bo⟩
      rcases List.mem_append.mp z with z | z
      · exact List.mem_append_left _ (owns_set_none z)
      · exact List.mem_append_right _ z
    have s34 : Stp c.β ps2 H2 (ps2.set i none) H2 := ⟨fun _ _ e _ _ => e, fun p z => .inl (owns_set_none z)⟩
    have st4 : Stp c.β ps (upd H p (.lst (as.map V.ref))) (ps2.set i none) H2 := st.trans s34 S4.nb
    refine ⟨(ρ2.set i (.rf ns[k]), g2), W, ps2.set i none, S4, ?_⟩
    dsimp only
    cases eb : b (ρ2.set i (.rf ns[k])) g2 with
    | no => rw [eb] at wnt; exact wnt
    | ex n g3 => rw [eb] at wnt; exact fun σ' H' f b => wnt σ' H' (Fs.trans s34 f) b
    | ok fl g3 =>
      rw [eb] at wnt
      cases fl with
      | nx ρ5 => exact fun σ' H' ps' S' st' => ⟨ρ5, g3, ps', S', st4.trans st' S'.nb, WantS.later (s34.trans st' S'.nb) wnt⟩
      | ct ρ5 => exact fun σ' H' ps' S' st' => ⟨ρ5, g3, ps', S', st4.trans st' S'.nb, WantS.later (s34.trans st' S'.nb) wnt⟩
      | bk ρ5 => exact fun σ' H' ps' S' st' => wnt σ' H' ps' S' (s34.trans st' S'.nb)
      | rt k d => exact fun v H' f b kr => wnt v H' (Fs.trans s34 f) b (KRt.back s34 kr)
  · rintro σ2 H2 ⟨ρ2, g2, ps2, S2, st, wnt⟩
    rw [← ln, List.drop_length] at wnt
    exact wnt σ2 H2 ps2 S2 Stp.refl
end
end Dn

set_option Elab.async false
set_option linter.all false
set_option maxRecDepth 100000
set_option maxHeartbeats 2000000
/-! E29: repr of a list of plain data. -/
namespace Dn
open PySem PySem.Spec PyProof.Rows L2 LamX
def shownOk (d : D) : Bool := (toP d).showable && !(toP d).hasDict && decide ((toP d).shown.length ≤ 1000000)
/-- repr(xs), xs a list -/
def orepr (ds : List D) : Option KD := match ds with
  | [.lst xs] => if sh 60 (.lst xs) = true ∧ shownOk (.lst xs) = true then some (.fz, .str (toP (.lst xs)).shown) else none
  | _ => none
theorem cs_repr {c : Cg} {X : Cx} (hK : c.K = X.K) (hg : X.A.guards = some []) (hu : X.A.units + 64 < cLine) : CallS c X (.builtin "repr") orepr := fun ds z e => by
  unfold orepr at e
  split at e
  · rename_i xs
    split at e
    · rename_i hc
      cases e
      intro pins s σ H vs us Q I rv ⟨U, hU, hb, h1, q⟩
      cases h1 with
      | cons h1 t =>
        cases t
        cases rv with
        | cons r0 rt =>
          cases rt
          have hc2 := hc.2
          unfold shownOk at hc2
          simp only [Bool.and_eq_true, Bool.not_eq_true', decide_eq_true_eq] at hc2
          obtain ⟨⟨s1, s2⟩, s3⟩ := hc2
          obtain ⟨as, rd⟩ := Dp.reads I _ _ _ (h1.dp' hK hc.1) r0
          obtain ⟨a, ws, rfl, sq, hl, rs⟩ := h1.lst
          cases r0
          obtain ⟨_, dp⟩ := sh_ok _ _ hc.1
          refine PySem.repr_of_reads' rd s1 (PyData.noDict_hsm s2) hg (by omega) (fun b o e => e) (fun h' u tk hk => ?_) (by have : (sizeLine : Nat) = 16777216 := sizeLine_eq; omega)
          exact ⟨.str (toP (.lst xs)).shown, H, I.kept hk, ⟨u, rfl⟩, q _ H (fun _ _ e => e) (R.str _)⟩
    · cases e
  · cases e
end Dn

set_option Elab.async false
set_option linter.all false
set_option maxRecDepth 100000
set_option maxHeartbeats 2000000
/-! E30: the end of a law whose def is run from the ground alone (so that its stack has no guards). -/
namespace Dn
open PySem PySem.Spec PyProof.Rows L2 LamX
abbrev AtGround (P : Program) (w : World) (CX : CXT) (fa a : Addr) (s : Shared) (H : Hp) : Prop :=
  codeAny (model P w) callerA (.call (.ref fa) ⟨[.ref a], []⟩) (CR CX [] P w H s (fun v _ => v = .bl true) fun _ _ _ => False) s
open Classical in
/-- the abstract heap of the ground: the tables, and the script where the module has it not -/
noncomputable def gH (K : PySem.W.Frag) (T : List Addr) (a : Addr) (o : Obj) (xs : List V) : Hp := fun b =>
  if b ∈ T then some (.tbl #[]) else if b = a ∧ K.lookup a = none then some (.frz o (.lst xs)) else none
section
variable {K : PySem.W.Frag} {T : List Addr} {a : Addr} {o : Obj} {xs : List V}
theorem gH_T {b : Addr} (h : b ∈ T) : gH K T a o xs b = some (.tbl #[]) := by unfold gH; rw [if_pos h]
theorem gH_some {b : Addr} {u : HO} (h : gH K T a o xs b = some u) : (b ∈ T ∧ u = .tbl #[]) ∨ (b ∉ T ∧ b = a ∧ K.lookup a = none ∧ u = .frz o (.lst xs)) := by
  unfold gH at h
  split at h
  · rename_i hb
    cases h
    exact .inl ⟨hb, rfl⟩
  · rename_i hb
    split at h
    · rename_i hc
      cases h
      exact .inr ⟨hb, hc.1, hc.2, rfl⟩
    · cases h
theorem gH_none {b : Addr} (h1 : b ∉ T) (h2 : b ≠ a ∨ K.lookup a ≠ none) : gH K T a o xs b = none := by
  cases e : gH K T a o xs b with
  | none => rfl
  | some u =>
    rcases gH_some e with ⟨z, _⟩ | ⟨_, z1, z2, _⟩
    · exact absurd z h1
    · rcases h2 with h2 | h2
      · exact absurd z1 h2
      · exact absurd z2 h2
end
theorem ground {P : Program} {w : World} {K : PySem.W.Frag} {mg mb : Str → Option Value} {CX : CXT} {fa a : Addr} {cs : List (Addr × Addr)} {s : Shared} {vs : List Value} {ns : List Int}
    (KX : K.In s.heap) (hns : s.heap.Ns mainGlobals mg) (hb : s.heap.Ns builtinsNs mb) (hbb : ∀ x : Str, x ≠ "__name__" → mb x = bootBuiltins x) (lim : s.heap.NoLimit) (hg : s.gens = #[])
    (hT : ∀ p ∈ cs, s.heap.get? p.2 = some { cls := .none, data := .fields #[] }) (nT : ∀ p ∈ cs, K.lookup p.2 = none) (C : ∀ p ∈ cs, PySem.W.CodeHd s.heap p.1 p.2)
    (hbm : ∃ (bm : Addr) (ob : Obj), mg "__builtins__" = some (.ref bm) ∧ bm ≠ builtinsNs ∧ s.heap.get? bm = some ob ∧ ob.cls = .type "module" ∧ ob.dict = some builtinsNs ∧ ob.data = .plain)
    (ha : s.heap.get? a = some { cls := .type "list", data := .seq vs.toArray }) (hi : IntsAre vs ns) (hl : ns.length ≤ sizeLine)
    (F : ∀ (base : Heap) (H : Hp), K.In base → base.Ns mainGlobals mg → (∀ p ∈ cs, TabB base mg p.1 p.2) → Env0 P w K mg base callerA [] s H → (∀ p ∈ cs, H p.2 = some (.tbl #[])) → SqL K H a (ns.map V.int) → AtGround P w CX fa a s H)
    (hCX : ∀ (H : Hp) (e : Value) (s' : Shared), CX [] H s (fun _ _ _ => False) e s' → False) :
    codeAny (model P w) callerA (.call (.ref fa) ⟨[.ref a], []⟩) (fun r s' => r = .ok (.ret (.bool true)) ∧ OldK s.heap s'.heap ∧ s'.os = s.os ∧ AllBare s'.gens) s := by
  have rv := vals_ints hi
  have lv := hi.length
  generalize hTs : cs.map (·.2) = T
  have inT : ∀ p ∈ cs, p.2 ∈ T := fun p hp => by rw [← hTs]; exact List.mem_map.mpr ⟨p, hp, rfl⟩
  have ofT : ∀ b ∈ T, ∃ p ∈ cs, p.2 = b := fun b z => by
    rw [← hTs] at z
    exact List.mem_map.mp z
  have objT : ∀ b ∈ T, s.heap.get? b = some { cls := .none, data := .fields #[] } := fun b z => by
    obtain ⟨p, hp, e⟩ := ofT b z
    rw [← e]; exact hT p hp
  have aT : a ∉ T := fun z => by
    have q := objT a z
    rw [ha] at q
    cases q
  generalize hH : gH K T a { cls := .type "list", data := .seq vs.toArray } (ns.map V.int) = H
  -- what is neither a list nor an empty table is not tracked
  have free : ∀ {b : Addr} {o : Obj}, s.heap.get? b = some o → (∀ us n, o.data ≠ .seq us n) → o.data ≠ .fields #[] → H b = none := fun {b o} e h1 h2 => by
    rw [← hH]
    refine gH_none (fun z => ?_) (Decidable.or_iff_not_imp_left.mpr fun z _ => ?_)
    · have q := objT b z
      rw [e] at q
      cases q
      exact h2 rfl
    · have z : b = a := Decidable.not_not.mp z
      rw [z, ha] at e
      cases e
      exact h1 _ _ rfl
  have freeD : ∀ {b : Addr} {o : Obj} {es : Array DictEntry} {ep : Nat}, s.heap.get? b = some o → o.data = .dict es ep → H b = none := fun e d => free e (fun us n z => by rw [d] at z; cases z) fun z => by rw [d] at z; cases z
  have nsOf : ∀ {b : Addr} {m : Str → Option Value}, s.heap.Ns b m → (hidT s.heap H).Ns b m := fun ⟨o, es, ep, e, d, r⟩ => ⟨o, es, ep, hidT_get e (freeD e d), d, r⟩
  have inB : K.In (hidT s.heap H) := fun b o e => hidT_get (KX b o e) (by
    rw [← hH]
    refine gH_none (fun z => ?_) (Decidable.or_iff_not_imp_left.mpr fun z q => ?_)
    · obtain ⟨p, hp, ep⟩ := ofT b z
      rw [← ep, nT p hp] at e
      cases e
    · rw [Decidable.not_not.mp z, q] at e
      cases e)
  have M : L2.Mod K mg (hidT s.heap H) := ⟨inB, nsOf hns, ⟨mb, nsOf hb, hbb⟩, lim.elim fun mc h => ⟨mc, nsOf h.1, h.2⟩⟩
  have TB : ∀ p ∈ cs, TabB (hidT s.heap H) mg p.1 p.2 := fun p hp => by
    have here := hT p hp
    refine ⟨?_, ?_, fun z => ?_⟩
    · obtain ⟨o, us, file, tf, flags, tg, inF, text, tt, e1, r1, r2, r3, r⟩ := C p hp
      exact ⟨o, us, file, tf, flags, tg, inF, text, tt, hidT_get e1 (free e1 (fun vs n z => by rw [r2] at z; cases z) fun z => by
        rw [r2] at z
        cases z
        simp at r3), r1, r2, r3, r⟩
    · obtain ⟨bm, ob, b1, b2, b3, b4, b5, b6⟩ := hbm
      refine ⟨bm, ob, b1, b2, fun q => ?_, fun q => ?_, hidT_get b3 (free b3 (fun vs n z => by rw [b6] at z; cases z) fun z => by rw [b6] at z; cases z), b4, b5, b6⟩
      · obtain ⟨o, es, ep, e, hd, _⟩ := hns
        rw [← q, b3] at e
        cases e
        rw [b6] at hd
        cases hd
      · rw [q, here] at b3
        cases b3
        cases b6
    · obtain ⟨o, es, ep, e, hd, _⟩ := hns
      rw [z, here] at e
      cases e
      cases hd
  have ok : HOk P w H s.heap := fun b u e => by
    rw [← hH] at e
    rcases gH_some e with ⟨z, rfl⟩ | ⟨_, rfl, _, rfl⟩
    · exact objT b z
    · exact ⟨ha, by rw [List.length_map]; exact hl, vs, _, rv, ha⟩
  have tabs : ∀ p ∈ cs, H p.2 = some (.tbl #[]) := fun p hp => by rw [← hH]; exact gH_T (inT p hp)
  have sq : SqL K H a (ns.map V.int) := by
    cases hk : K.lookup a with
    | none => exact .inl (.inr ⟨{ cls := .type "list", data := .seq vs.toArray }, by rw [← hH]; unfold gH; rw [if_neg aT, if_pos ⟨rfl, hk⟩]⟩)
    | some o =>
      have e := KX a o hk
      rw [ha] at e
      cases e
      exact .inr ⟨_, vs.toArray, _, hk, rfl, rfl, rfl, by rw [List.size_toArray, lv]; exact hl, by simpa using rv⟩
  have e0 : Env0 P w K mg (hidT s.heap H) callerA [] s H := ⟨rfl, M, fun b o e => of_hidT e, Nat.le_of_eq (hidT_size _ _), trivial, fun b z => (by cases z), ok, .of_eq hg⟩
  refine codeAny_mono (F _ H inB (nsOf hns) TB e0 tabs sq) fun r s' h => ?_
  cases r with
  | error e => exact (hCX H e s' h).elim
  | ok fl =>
    cases fl with
    | next => exact False.elim h
    | brk => exact False.elim h
    | cont => exact False.elim h
    | ret u =>
      obtain ⟨v, H', os, bare, un, ok', r', rfl⟩ := h
      obtain rfl : u = Value.bool true := r'
      have old : ∀ b o, b ∉ T → s.heap.get? b = some o → s'.heap.get? b = some o := fun b o nb e => by
        cases q : H b with
        | none => exact un.keep b o e q (fun z => (by cases z)) (by simp)
        | some u =>
          rw [← hH] at q
          rcases gH_some q with ⟨z, _⟩ | ⟨_, rfl, _, rfl⟩
          · exact absurd z nb
          · rw [hH] at q
            have z2 := un.frzs _ _ _ q
            obtain ⟨e1, _⟩ := ok _ _ q
            obtain ⟨e2, _⟩ := ok' _ _ z2
            rw [e] at e1
            cases e1
            exact e2
      have grown : ∀ p ∈ cs, ∃ more : Array Value, s'.heap.get? p.2 = some { cls := .none, data := .fields more } := fun p hp => by
        obtain ⟨more, z⟩ := un.tbls p.2 #[] (tabs p hp)
        exact ⟨_, ok' p.2 _ z⟩
      refine ⟨rfl, ⟨fun b o e => ?_, fun b o e => ?_⟩, os, bare⟩
      · by_cases hb : b ∈ T
        · obtain ⟨p, hp, ep⟩ := ofT b hb
          obtain ⟨more, hm⟩ := grown p hp
          rw [objT b hb] at e
          cases e
          refine .inr (.inl ⟨?_, rfl, #[], more, rfl, by rw [Array.empty_append, ← ep]; exact hm⟩)
          rw [← ep]
          exact ((C p hp).tab (hT p hp)).isCodeTable
        · exact .inl (old b o hb e)
      · by_cases hb : b ∈ T
        · obtain ⟨p, hp, ep⟩ := ofT b hb
          obtain ⟨more, hm⟩ := grown p hp
          rw [← ep]
          exact ⟨_, hm⟩
        · exact ⟨o, old b o hb e⟩
/-- what is known of a law at the head's heap: as LawAtS, but its def is run from the ground alone -/
def LawG (l : PySem.W.OpenLaw) (w : World) (K : PySem.W.Frag) (CX : CXT) (n : Nat) (mg : Str → Option Value) (fa : Addr) (h : Heap) : Prop :=
  ∃ cs : List (Addr × Addr), (∀ p ∈ cs, TabOk K h p) ∧ ∀ (base : Heap) (s : Shared) (H : Hp) (a : Addr) (ns : List Int), ns.length ≤ n → (∀ z ∈ ns, Builtin.Int.intBits z ≤ 1048576) → K.In base → base.Ns mainGlobals mg → (∀ p ∈ cs, TabB base mg p.1 p.2) →
    Env0 l.prog w K mg base callerA [] s H → (∀ p ∈ cs, H p.2 = some (.tbl #[])) → SqL K H a (ns.map V.int) → AtGround l.prog w CX fa a s H
theorem walk_lawG {l : PySem.W.OpenLaw} {q : Program} {loose : List Str} {XP : (Str → Option Value) → Heap → Prop} {YP : World → Heap → Prop} {d : DefRec} {K : Params → PySem.W.Frag} (hn : l.most = some 63) (hdf : d.params.defaults = [])
    (hY : ∀ (w : World) (h : Heap), YP w h → (K w.params).In h)
    (F : ∀ (w : World) (mg : Str → Option Value) (fa : Addr) (h : Heap), YP w h → (K w.params).In h → h.Ns mainGlobals mg → mg d.name = some (.ref fa) → (∀ (y : Str) (f : Addr), ((recsOf q).any fun e => e.name == y) = true → mg y = some (.ref f) → OwnTab (K w.params) f h) → LawG l w (K w.params) (L2.CX l.prog w) 63 mg fa h) :
    PySem.W.WalkO q loose XP YP l.row.toRowW d [] (fun f vs => PySem.call f vs) := by
  refine Att.attach_callB hn hdf fun w s₀ s₁ mg mb fa o pm cd doc a vs ns G Y ho hd hcd hmg hobj hints hlen hbits hg => ?_
  have KX := hY w _ Y
  have own : ∀ (y : Str) (f : Addr), ((recsOf q).any fun e => e.name == y) = true → mg y = some (.ref f) → OwnTab (K w.params) f s₁.heap := fun y f hrec hy c P o1 fd1 e dd vs1 sl k1 k2 k3 k4 k5 => by
    obtain ⟨dL, hm, hn1⟩ := List.any_eq_true.mp hrec
    have hn2 : dL.name = y := beq_iff_eq.mp hn1
    obtain ⟨a', o', fd', c', P', h1, h2, h3, h4, h5, h6⟩ := G.T.tab dL hm
    rw [hn2, hy] at h1
    cases h1
    have g1 := KX _ _ k1
    rw [g1] at h2
    cases h2
    rw [k2] at h3
    cases h3
    rw [k3] at h4
    cases h4
    obtain ⟨⟨oc, vc, e1, _, e3, e4⟩, hP⟩ := h6
    have g2 := KX _ _ k4
    rw [g2] at e1
    cases e1
    cases e3
    rw [k5] at e4
    cases e4
    exact hP
  obtain ⟨cs, hcs, hF⟩ := F w mg fa _ Y KX G.T.g hmg own
  exact ground KX G.T.g G.T.b G.T.builtins G.T.nolimit hg (fun p hp => (hcs p hp).g) (fun p hp => (hcs p hp).n) (fun p hp => (hcs p hp).c) G.T.bmain hobj hints (by rw [sizeLine_eq]; omega) (fun base H h1 h2 h3 h4 h5 h6 => hF base s₁ H a ns hlen hbits h1 h2 h3 h4 h5 h6) fun H e s' h => by
    obtain ⟨_, _, _, _, _, _, _, _, _, _, _, _, z⟩ := h
    exact z
end Dn

set_option Elab.async false
set_option linter.all false
set_option maxRecDepth 100000
set_option maxHeartbeats 2000000
/-! E31: what is never come to; the law's def at the ground. -/
namespace Dn
open PySem PySem.Spec PyProof.Rows L2 LamX
/-- of what is not come to nothing is asked -/
def dno : DS := fun _ _ => .no
section
variable {c : Cg} {X : Cx} {W' : WX}
theorem sss_no {sts : List Stmt} : SSs c X W' sts dno := fun ρ g => ⟨fun pins s σ H D I ⟨W, ps, S, h⟩ => h.elim⟩
theorem ss_no {st : Stmt} : SS c X W' st dno := fun ρ g => ⟨fun pins s σ H D I ⟨W, ps, S, h⟩ => h.elim⟩
end
theorem fnix {ns : List Nat} {as FF : List Addr} (h : ns.map (fun n => FF[n]?) = as.map some) : ∀ j n : Nat, ns[j]? = some n → ∃ a, as[j]? = some a ∧ FF[n]? = some a := fun j n e => by
  have h2 : (ns.map (fun n => FF[n]?))[j]? = (as.map some)[j]? := by rw [h]
  rw [List.getElem?_map, List.getElem?_map, e] at h2
  cases ea : as[j]? with
  | none => rw [ea] at h2; cases h2
  | some a =>
    rw [ea] at h2
    exact ⟨a, rfl, Option.some.inj h2⟩
section
variable {P : Program} {w : World} {K : PySem.W.Frag} {mg : Str → Option Value} {base : Heap} {cl : Nat → Value}
theorem Ok.at_ {x : Str} {n k k' : Nat} {φ : DF} {a : Addr} (O : Ok P w K mg base cl x n k φ) (hm : mg x = some (.ref a)) (h : k ≤ k') : ∃ (fd : FuncData) (pn : List Str), FnOk P w K mg base (L2.CX P w) k' a fd pn (spF K cl n φ) ∧ PySem.W.keepIn K (.ref a) = true ∧ Binds K fd pn [] := by
  obtain ⟨f, fd, pn, F, h1, h2, h3⟩ := O.ex
  rw [hm] at h1
  cases h1
  exact ⟨fd, pn, F.mono h, h2, h3⟩
theorem fns2 {F : List Addr} {x0 x1 : Str} {n k k0 k1 i0 i1 : Nat} {a0 a1 : Addr} {φ0 φ1 : DF} (O0 : Ok P w K mg base cl x0 n k0 φ0) (O1 : Ok P w K mg base cl x1 n k1 φ1) (m0 : mg x0 = some (.ref a0)) (m1 : mg x1 = some (.ref a1)) (h0 : k0 ≤ k) (h1 : k1 ≤ k) (f0 : F[i0]? = some a0) (f1 : F[i1]? = some a1) :
    Fns P w K mg base cl k n F (fun m => if m = i0 then some φ0 else if m = i1 then some φ1 else none) := ⟨fun m φ e => by
  split at e
  · rename_i z
    cases e
    obtain ⟨fd, pn, q⟩ := O0.at_ m0 h0
    exact ⟨a0, fd, pn, by rw [z]; exact f0, q⟩
  · split at e
    · rename_i z
      cases e
      obtain ⟨fd, pn, q⟩ := O1.at_ m1 h1
      exact ⟨a1, fd, pn, by rw [z]; exact f1, q⟩
    · cases e⟩
end
theorem at_ground {P : Program} {w : World} {K : PySem.W.Frag} {mg : Str → Option Value} {base : Heap} {st : Stmt} {fa : Addr} {dV kV doc pm cdv ct oc : Value} {an od : Option Addr} {osl : Array (Option Value)} {N : List Str} {k m : Nat} {b : DS} {cl : Nat → Value} {TT : List (Addr × Str)} {FF : List Addr}
    (lk : K.lookup fa = some ⟨oc, od, .func (PySem.W.fnOf "law" "law" (defArgs st) (defBody st) (defScope st) dV kV doc pm an cdv ct), osl⟩) (hcd : PySem.W.codeIn K cdv "law" = true) (S : FnScope N ["script"] (defScope st)) (hm : N.length - 1 = m) (hr : Room (k + 1) callerA)
    (hb : ∀ (s : Shared) (u : Value), BindsTo s (PySem.W.fnOf "law" "law" (defArgs st) (defBody st) (defScope st) dV kV doc pm an cdv ct) ⟨[u], []⟩ [("script", u)])
    (hbody : ∀ (s : Shared) (H : Hp) (E : XK), Room k (callerA.deeper (envOfC "law" (defScope st) s.heap.objs.size fa cdv)) → SSs ⟨K, ⟨none, TT, FF⟩, cl⟩ (cxOf (L2.CX P w) P w K mg base N "law" (defScope st) fa cdv callerA [] s H E) (fun cls d _ H => E cls d H) (defBody st) b)
    {s : Shared} {H : Hp} {a : Addr} {ns : List Int} (e0 : Env0 P w K mg base callerA [] s H) (tabs : ∀ p ∈ TT, H p.1 = some (.tbl #[])) (sq : SqL K H a (ns.map V.int)) (hl : ns.length ≤ sizeLine)
    (law : ∃ g', dfun m b [.lst (ns.map .int)] [] = .ok (.fz, .bl true) g') : AtGround P w (L2.CX P w) fa a s H := by
  obtain ⟨g', law⟩ := law
  refine run_ofS (N := N) (ps := ["script"]) (us := [.ref a]) (vs := [.ref a]) lk hcd S hr e0 (hb s _) (.cons rfl .nil) rfl fun hr' => ?_
  have rscript : R ⟨K, ⟨none, TT, FF⟩, cl⟩ (TT.map Prod.fst) H (.ref a) (.lst (ns.map .int)) := by
    rcases sq with q | q
    · refine .lst q (fun z => ?_) (by rw [List.length_map]; exact hl) (rs_ints ns)
      obtain ⟨p, hp, rfl⟩ := List.mem_map.mp z
      rcases q with q | ⟨o, q⟩ <;> rw [tabs p hp] at q <;> cases q
    · exact .klst q (rs_ints ns)
  have eo : owns (List.replicate (1 + m) none : Ps) = [] := by unfold owns; simp
  refine ⟨_, hbody s H _ hr' ([.lst (ns.map .int)].map .fz ++ List.replicate m .un) [], TT.map Prod.fst, List.replicate (1 + m) none, ?_, ?_⟩
  · refine ⟨?_, by rw [eo]; exact List.nodup_nil, fun p z => (by rw [eo] at z; cases z), fun b hb => ?_, ⟨fun b e => (by cases e), fun p hp => TabS.nil (tabs p hp)⟩, fun b e => ?_⟩
    · have q := rsls_start m (Rs.cons rscript .nil)
      rw [eo, List.nil_append]
      unfold L2.start
      rw [show N.length - [V.ref a].length = m from hm]
      exact q
    · obtain ⟨p, hp, rfl⟩ := List.mem_map.mp hb
      rw [tabs p hp]
      exact fun z => by cases z
    · rcases e with e | e
      · cases e
      · exact e
  · unfold dfun at law
    cases e : b ([.lst (ns.map .int)].map .fz ++ List.replicate m .un) [] with
    | no => rw [e] at law; cases law
    | ex j g2 => rw [e] at law; cases law
    | ok fl g2 =>
      rw [e] at law
      cases fl with
      | nx ρ => cases law
      | bk ρ => cases law
      | ct ρ => cases law
      | rt k d =>
        cases k with
        | bw => cases law
        | fr => cases law
        | fz =>
          cases law
          intro v H' f bb kr
          have kr' : R _ _ _ _ _ := kr
          cases kr'
          rfl
end Dn

set_option Elab.async false
set_option linter.all false
set_option maxRecDepth 100000
/-! E32: a def of the module called with no arguments. -/
namespace Dn
open PySem PySem.Spec PyProof.Rows L2
section
variable {X : Cx} {c : Cg} {W' : WX} {pos : Pos}
theorem pe_callS0 {k : Nat} {f : Addr} {fd : FuncData} {ps : List Str} {sp : Sp} {E : L2.St → XK} {x : Str} {p pos : Pos} (F : FnOk X.prog X.w X.K X.mg X.base (L2.CX X.prog X.w) k f fd ps sp) (hr : Room k X.A) (hg : Gl X x) (hm : X.mg x = some (.ref f)) (hk : PySem.W.keepIn X.K (.ref f) = true) (hb : Binds X.K fd ps []) (hx : ∀ σ, PassesAt (L2.CX X.prog X.w) X σ (E σ))
    (hdb : (x == ("__debug__" : Str)) = false := by decide) :
    PE X (.Call (.Name x p) [] [] pos) (fun σ H Q => sp [] H Q (E σ)) := by
  refine ⟨fun pins s σ H Q I h => ?_⟩
  refine wpAny_Call_Name_kw (ld_glob I hg hm ?_ hdb)
  refine PySem.W.callWith_K0 I.kIn hk ?_
  exact run_fnS (us := []) (vs := []) F hr hb (hx σ) I .nil h
theorem se_def0 {φ : DF} {k : Nat} {x : Str} {p : Pos} (O : Ok X.prog X.w X.K X.mg X.base c.cl x 0 k φ) (hK : c.K = X.K) (hr : Room k X.A) (tk : Takes X W') (hg : Gl X x) (hdb : (x == ("__debug__" : Str)) = false := by decide) :
    SE c X W' (.Call (.Name x p) [] [] pos) (dcall φ dnil) := fun ρ g => by
  obtain ⟨f, fd, pn, F, hm, hk, hb⟩ := O.ex
  obtain ⟨K0, β, cl0⟩ := c
  cases (show K0 = X.K from hK)
  refine PE.imp (pe_callS0 F hr hg hm hk hb (fun σ => passAt tk σ) hdb) fun σ H Q ⟨W, ps, S, h⟩ => ?_
  refine ⟨β, owns ps ++ W, [], g, rfl, .nil, S.there, S.bU, S.bx, ?_⟩
  unfold dcall dnil at h
  rw [Re.bind_ok] at h
  change WantE _ W' (owns ps ++ W) σ H Q (φ [] g) at h
  cases er : φ [] g with
  | no => rw [er] at h; exact h
  | ex m g2 => rw [er] at h; exact h
  | ok z g2 => rw [er] at h; exact h
end
end Dn

set_option Elab.async false
set_option linter.all false
set_option maxRecDepth 100000
set_option maxHeartbeats 4000000
namespace K01
open PySem PySem.Spec PyProof.Rows L2 Dn
def top (i : Nat) : Stmt := PySem.Challenge.pw_stilltold_k01_errors.main.body.getD i (.Pass ⟨0, 0, 0, 0⟩)
def rg : Nat → Option Bool
  | 0 => some false
  | 1 => some false
  | 2 => some true
  | _ => none
def bis_integer : DS := dret (dandv (disi "int" (dvar 0)) (dnotv (disi "bool" (dvar 0))))
def fis_integer : DF := dfun 0 bis_integer
def bstates_after_F1 : DS := dno
def bstates_after : DS := dseq (dfor (dseqv true (dvar 2)) (gname 3) (bstates_after_F1)) (dretv 1)
def fstates_after : DF := dfun 4 bstates_after
def blines_of : DS := dret (dprim otuple (dcons (dlc (dseqv false (dvar 1)) [2] (gname 2) (dtv (d2 oge (d2 oix (dvar 0) (dvar 2)) (dlit (.int 0)))) (d2 oix (dvar 0) (dvar 2))) (dnil)))
def flines_of : DF := dfun 1 blines_of
def bis_lively_machine : DS := dno
def fis_lively_machine : DF := dfun 9 bis_lively_machine
def bstays : DS := dret (dprim oall (dcons (dlc2 (dseqv false (d2 oix (dvar 0) (dlit (.int 3)))) [1, 2] (gname 1) (dyes) (dseqv true (d2 oix (d2 oix (dvar 0) (dlit (.int 2))) (dvar 1))) [2] (gname 2) (dyes) (d2 oin (dvar 2) (d2 oix (dvar 0) (dlit (.int 3))))) (dnil)))
def fstays : DF := dfun 2 bstays
def balong_F1 : DS := dset 1 (d2 oix (d2 oix (d2 oix (dvar 0) (dlit (.int 2))) (dvar 1)) (dvar 3))
def balong : DS := dseq (dfor (dseqv true (dvar 2)) (gname 3) (balong_F1)) (dretv 1)
def falong : DF := dfun 1 balong
def bis_enough : DS := dno
def fis_enough : DF := dfun 0 bis_enough
def breader_of : DS := dseq (dset 3 (d2 oix (dvar 0) (dlit (.int 0)))) (dseq (dif (dtv (d2 oeq (dvar 3) (dlit (.str "each")))) (dno) (dskip)) (dseq (dif (dtv (d2 oeq (dvar 3) (dlit (.str "only")))) (dno) (dskip)) (dseq (dif (dor (dtv (d2 oeq (dvar 3) (dlit (.str "all")))) (dtv (d2 olt (dprim olen (dcons (dvar 1) (dnil))) (d2 oix (dvar 0) (dlit (.int 1)))))) (dno) (dskip)) (dseq (dif (dtv (d2 ogt (dprim olen (dcons (dvar 1) (dnil))) (d2 oix (dvar 0) (dlit (.int 1))))) (dret (dlit .non)) (dskip)) (dno)))))
def freader_of : DF := dfun 1 breader_of
def bn_law_cell : DS := dret (dite' (dtv (d2 olt (dvar 1) (dprim olen (dcons (dvar 0) (dnil))))) (dprim oabs (dcons (dprim oint (dcons (d2 oix (dvar 0) (dvar 1)) (dnil))) (dnil))) (dlit (.int 0)))
def fn_law_cell : DF := dfun 0 bn_law_cell
def bn_law_draw : DS := dseq (dif (dtv (d2 ogt (dbix (dvar 0) (dlit (.int 0))) (dlit (.int 0)))) (dseq (dset 2 (dbix (dvar 0) (dlit (.int 0)))) (dseq (dseti 0 (dprim oint (dcons (d2 ofdiv (dvar 2) (dvar 1)) (dnil))) (dlit (.int 0))) (dret (dprim oint (dcons (d2 omod (dvar 2) (dvar 1)) (dnil)))))) (dskip)) (dseq (dseti 0 (d2 omod (d2 omul (dlit (.int 69621)) (dbix (dvar 0) (dlit (.int 1)))) (dlit (.int 2147483647))) (dlit (.int 1))) (dret (dprim oint (dcons (d2 omod (d2 ofdiv (dbix (dvar 0) (dlit (.int 1))) (dlit (.int 7))) (dvar 1)) (dnil)))))
def fn_law_draw : DF := dfun 1 bn_law_draw
def bn_law_read (r : DF) : DS := dseq (dif (dor (dtv (d2 ois2 (dvar 0) (dlit .non))) (dor (dtv (d2 ois2 (dvar 0) (dlit (.bl true)))) (dtv (d2 ois2 (dvar 0) (dlit (.bl false)))))) (dretv 0) (dskip)) (dseq (dif (dtv (disi "int" (dvar 0))) (dret (dprim oint (dcons (dvar 0) (dnil)))) (dskip)) (dseq (dif (dtv (disi "str" (dvar 0))) (dret (d2 oadd (dlit (.str "")) (dvar 0))) (dskip)) (dseq (dif (dtv (disi "tuple" (dvar 0))) (dret (dprim otuple (dcons (dlc (dseqv false (dvar 0)) [1] (gname 1) (dyes) (dcall (r) (dcons (dvar 1) (dnil)))) (dnil)))) (dskip)) (dret (dite' (dtv (disi "list" (dvar 0))) (dlc (dseqv false (dvar 0)) [1] (gname 1) (dyes) (dcall (r) (dcons (dvar 1) (dnil)))) (dlit (.str "something else")))))))
def fn_law_read : Nat → DF
  | 0 => fun _ _ => .no
  | n + 1 => dfun 1 (bn_law_read (fn_law_read n))
def bn_law_bad_machines : DS := dseq (dset 0 (dtup (dcons (dlit (.int 2)) (dcons (dlit (.int 2)) (dcons (dtup (dcons (dlit (.int 0)) (dnil))) (dcons (dtup (dcons (dtup (dcons (dlit (.int 0)) (dcons (dlit (.int 0)) (dcons (dlit (.int 1)) (dnil))))) (dcons (dtup (dcons (dlit (.int 1)) (dcons (dlit (.int 1)) (dcons (dlit (.int 0)) (dnil))))) (dnil)))) (dnil))))))) (dseq (dset 1 (dlst (dcons (dlit (.int 3)) (dcons (dlit (.str "m")) (dcons (dsl osl (dvar 0) (dnop) (dpart (dlit (.int 3)))) (dcons (d2 oadd (dvar 0) (dtup (dcons (dlit (.int 1)) (dnil)))) (dcons (dtup (dcons (dlit (.int 0)) (dcons (dlit (.int 2)) (dcons (dtup (dcons (dlit (.int 0)) (dnil))) (dcons (dtup (dnil)) (dnil)))))) (dcons (dtup (dcons (dlit (.int 6)) (dcons (dlit (.int 2)) (dcons (dtup (dcons (dlit (.int 0)) (dnil))) (dcons (dtup (dnil)) (dnil)))))) (dcons (dtup (dcons (dlit (.int 2)) (dcons (dlit (.int 7)) (dcons (dtup (dcons (dlit (.int 0)) (dnil))) (dcons (dtup (dnil)) (dnil)))))) (dcons (dtup (dcons (dlit (.int 2)) (dcons (dlit (.int 2)) (dcons (dtup (dnil)) (dcons (dtup (dnil)) (dnil)))))) (dcons (dtup (dcons (dlit (.int 2)) (dcons (dlit (.int 2)) (dcons (dtup (dcons (dlit (.int 0)) (dcons (dlit (.int 0)) (dnil)))) (dcons (dtup (dnil)) (dnil)))))) (dcons (dtup (dcons (dlit (.int 2)) (dcons (dlit (.int 2)) (dcons (dtup (dcons (dlit (.int 2)) (dnil))) (dcons (dtup (dnil)) (dnil)))))) (dnil))))))))))))) (dfreeze 1 (dseq (dset 1 (d2 oadd (dvar 1) (dlst (dcons (dtup (dcons (dlit (.int 2)) (dcons (dlit (.int 2)) (dcons (dtup (dcons (dlit (.int 0)) (dnil))) (dcons (dtup (dcons (dtup (dcons (dlit (.int 0)) (dcons (dlit (.int 0)) (dcons (dlit (.int 1)) (dnil))))) (dcons (dtup (dcons (dlit (.int 0)) (dcons (dlit (.int 0)) (dcons (dlit (.int 1)) (dnil))))) (dnil)))) (dnil)))))) (dcons (dtup (dcons (dlit (.int 2)) (dcons (dlit (.int 2)) (dcons (dtup (dcons (dlit (.int 0)) (dnil))) (dcons (dtup (dcons (dtup (dcons (dlit (.int 1)) (dcons (dlit (.int 0)) (dcons (dlit (.int 1)) (dnil))))) (dcons (dtup (dcons (dlit (.int 0)) (dcons (dlit (.int 0)) (dcons (dlit (.int 1)) (dnil))))) (dnil)))) (dnil)))))) (dcons (dtup (dcons (dlit (.int 2)) (dcons (dlit (.int 2)) (dcons (dtup (dcons (dlit (.int 0)) (dnil))) (dcons (dtup (dcons (dtup (dcons (dlit (.int 0)) (dcons (dlit (.int 2)) (dcons (dlit (.int 1)) (dnil))))) (dnil))) (dnil)))))) (dcons (dtup (dcons (dlit (.int 2)) (dcons (dlit (.int 2)) (dcons (dtup (dcons (dlit (.int 0)) (dnil))) (dcons (dtup (dcons (dtup (dcons (dlit (.int 0)) (dcons (dlit (.int 0)) (dcons (dlit (.int 2)) (dnil))))) (dnil))) (dnil)))))) (dnil)))))))) (dfreeze 1 (dret (d2 oadd (dvar 1) (dlst (dcons (dtup (dcons (dlit (.int 2)) (dcons (dlit (.int 2)) (dcons (dtup (dcons (dlit (.int 0)) (dnil))) (dcons (dtup (dcons (dtup (dcons (dlit (.int 0)) (dcons (dlit (.int 0)) (dnil)))) (dnil))) (dnil)))))) (dcons (dtup (dcons (dlit (.int 2)) (dcons (dlit (.int 2)) (dcons (dtup (dcons (dlit (.int 0)) (dnil))) (dcons (dlit (.int 3)) (dnil)))))) (dcons (dtup (dcons (dlit (.str "2")) (dcons (dlit (.int 2)) (dcons (dtup (dcons (dlit (.int 0)) (dnil))) (dcons (dtup (dnil)) (dnil)))))) (dcons (dtup (dcons (dlit (.int 2)) (dcons (dlit (.int 2)) (dcons (dlit (.int 0)) (dcons (dtup (dnil)) (dnil)))))) (dnil))))))))))))
def fn_law_bad_machines : DF := dfun 2 bn_law_bad_machines
def bn_law_bad_marks : DS := dret (dlst (dcons (dlit (.int 3)) (dcons (dtup (dnil)) (dcons (dtup (dcons (dlit (.int 1)) (dnil))) (dcons (dtup (dcons (dlit (.int 1)) (dcons (dlit (.int 2)) (dcons (dlit (.int 3)) (dnil))))) (dcons (dtup (dcons (dlit (.int 1)) (dcons (d1 oneg (dlit (.int 2))) (dnil)))) (dcons (dtup (dcons (dlit (.int 1)) (dcons (dlit (.int 10)) (dnil)))) (dcons (dtup (dcons (dlit (.int 1)) (dcons (dlit (.str "2")) (dnil)))) (dcons (dlit (.str "12")) (dcons (dtup (dcons (dlit (.int 1)) (dcons (dtup (dcons (dlit (.int 2)) (dnil))) (dnil)))) (dnil)))))))))))
def fn_law_bad_marks : DF := dfun 0 bn_law_bad_marks
def bn_law_bad_watches : DS := dseq (dset 0 (dtup (dcons (dlit (.int 2)) (dcons (dlit (.int 0)) (dcons (dtup (dcons (dtup (dcons (dlit (.int 0)) (dcons (dlit (.int 1)) (dnil)))) (dcons (dtup (dcons (dlit (.int 1)) (dcons (dlit (.int 1)) (dnil)))) (dnil)))) (dcons (dtup (dcons (dlit (.int 1)) (dnil))) (dnil))))))) (dseq (dset 1 (dlst (dcons (dlit (.int 3)) (dcons (dtup (dnil)) (dcons (dsl osl (dvar 0) (dnop) (dpart (dlit (.int 3)))) (dcons (dtup (dcons (dlit (.int 0)) (dcons (dlit (.int 0)) (dcons (dtup (dnil)) (dcons (dtup (dnil)) (dnil)))))) (dcons (dtup (dcons (dlit (.int 5)) (dcons (dlit (.int 0)) (dcons (d2 omul (dtup (dcons (dtup (dcons (dlit (.int 0)) (dcons (dlit (.int 0)) (dnil)))) (dnil))) (dlit (.int 5))) (dcons (dtup (dnil)) (dnil)))))) (dcons (d2 oadd (dtup (dcons (dlit (.int 2)) (dcons (dlit (.int 2)) (dnil)))) (dsl osl (dvar 0) (dpart (dlit (.int 2))) (dnop))) (dcons (dtup (dcons (dlit (.int 2)) (dcons (dlit (.int 0)) (dcons (dtup (dcons (dtup (dcons (dlit (.int 0)) (dcons (dlit (.int 1)) (dnil)))) (dnil))) (dcons (dtup (dcons (dlit (.int 1)) (dnil))) (dnil)))))) (dcons (dtup (dcons (dlit (.int 2)) (dcons (dlit (.int 0)) (dcons (dtup (dcons (dtup (dcons (dlit (.int 0)) (dcons (dlit (.int 1)) (dcons (dlit (.int 0)) (dnil))))) (dcons (dtup (dcons (dlit (.int 1)) (dcons (dlit (.int 1)) (dcons (dlit (.int 0)) (dnil))))) (dnil)))) (dcons (dtup (dcons (dlit (.int 1)) (dnil))) (dnil)))))) (dnil))))))))))) (dfreeze 1 (dret (d2 oadd (dvar 1) (dlst (dcons (dtup (dcons (dlit (.int 2)) (dcons (dlit (.int 0)) (dcons (dtup (dcons (dtup (dcons (dlit (.int 0)) (dcons (dlit (.int 2)) (dnil)))) (dcons (dtup (dcons (dlit (.int 1)) (dcons (dlit (.int 1)) (dnil)))) (dnil)))) (dcons (dtup (dcons (dlit (.int 1)) (dnil))) (dnil)))))) (dcons (dtup (dcons (dlit (.int 2)) (dcons (dlit (.int 0)) (dcons (d2 oix (dvar 0) (dlit (.int 2))) (dcons (dtup (dcons (dlit (.int 2)) (dnil))) (dnil)))))) (dcons (dtup (dcons (dlit (.int 2)) (dcons (dlit (.int 0)) (dcons (d2 oix (dvar 0) (dlit (.int 2))) (dcons (dtup (dcons (dlit (.int 1)) (dcons (dlit (.int 0)) (dnil)))) (dnil)))))) (dcons (dtup (dcons (dlit (.int 2)) (dcons (dlit (.int 0)) (dcons (dlit (.int 3)) (dcons (dtup (dcons (dlit (.int 1)) (dnil))) (dnil)))))) (dcons (dtup (dcons (dlit (.int 2)) (dcons (dlit (.int 0)) (dcons (dtup (dcons (dlit (.int 0)) (dcons (dlit (.int 1)) (dnil)))) (dcons (dtup (dcons (dlit (.int 1)) (dnil))) (dnil)))))) (dnil)))))))))))
def fn_law_bad_watches : DF := dfun 2 bn_law_bad_watches
def bn_law_bad_logs : DS := dret (dlst (dcons (dlit (.int 3)) (dcons (dlit (.str "1")) (dcons (dtup (dcons (dlit (.int 10)) (dnil))) (dcons (dtup (dcons (d1 oneg (dlit (.int 1))) (dnil))) (dcons (dtup (dcons (dlit (.str "1")) (dnil))) (dcons (dtup (dcons (dtup (dcons (dlit (.int 1)) (dnil))) (dnil))) (dcons (d2 omul (dtup (dcons (dlit (.int 0)) (dnil))) (dlit (.int 201))) (dnil)))))))))
def fn_law_bad_logs : DF := dfun 0 bn_law_bad_logs
def bis_below : DS := dret (dandv (dcall (fis_integer) (dcons (dvar 0) (dnil))) (dchain ole olt (dlit (.int 0)) (dvar 0) (dvar 1)))
def fis_below : DF := dfun 0 bis_below
def bis_between : DS := dret (dandv (dcall (fis_integer) (dcons (dvar 0) (dnil))) (dchain ole ole (dvar 1) (dvar 0) (dvar 2)))
def fis_between : DF := dfun 0 bis_between
def bgoes_round_W1 : DS := dseq (dif (dtv (d2 oin (dvar 3) (dvar 4))) (dret (dlit (.bl true))) (dskip)) (dseq (dapp 4 (dvar 3)) (dseq (dset 3 (dcall (fstates_after) (dcons (dvar 0) (dcons (dvar 3) (dcons (dvar 2) (dnil)))))) (dfreeze 3 (dskip))))
def bgoes_round_T2 : DT := dtv (d2 ogt (dprim olen (dcons (dvar 3) (dnil))) (dlit (.int 0)))
def bgoes_round : DS := dseq (dpar 3 4 (dcall (fstates_after) (dcons (dvar 0) (dcons (dprim olist (dcons (d2 oix (dvar 0) (dlit (.int 2))) (dnil))) (dcons (dvar 1) (dnil))))) (dlst (dnil))) (dfreeze 3 (dseq (dwhile 1000 (bgoes_round_T2) (bgoes_round_W1)) (dret (dlit (.bl false)))))
def fgoes_round : DF := dfun 2 bgoes_round
def bn_law_stream : DS := dret (dlst (dcons (dcall (fn_law_cell) (dcons (dvar 0) (dcons (dvar 1) (dnil)))) (dcons (d2 oadd (dlit (.int 1)) (d2 omod (d2 omul (dlit (.int 48271)) (dcall (fn_law_cell) (dcons (dvar 0) (dcons (dvar 1) (dnil))))) (dlit (.int 2147483647)))) (dnil))))
def fn_law_stream : DF := dfun 0 bn_law_stream
def bis_set : DS := dseq (dif (dor (dnot (dtv (disi "tuple" (dvar 0)))) (dnot (dtv (dprim oall (dcons (dlc (dseqv false (dvar 0)) [3] (gname 3) (dyes) (dcall (fis_below) (dcons (dvar 3) (dcons (dvar 1) (dnil))))) (dnil)))))) (dret (dlit (.bl false))) (dskip)) (dret (dprim oall (dcons (dlc (drng2 (dcons (dlit (.int 1)) (dcons (dprim olen (dcons (dvar 0) (dnil))) (dnil)))) [2] (gname 2) (dyes) (d2 olt (d2 oix (dvar 0) (d2 osub (dvar 2) (dlit (.int 1)))) (d2 oix (dvar 0) (dvar 2)))) (dnil))))
def fis_set : DF := dfun 2 bis_set
def bis_arrow : DS := dseq (dif (dor (dnot (dtv (disi "tuple" (dvar 0)))) (dtv (d2 one (dprim olen (dcons (dvar 0) (dnil))) (dlit (.int 3))))) (dret (dlit (.bl false))) (dskip)) (dret (dandv (dcall (fis_below) (dcons (d2 oix (dvar 0) (dlit (.int 0))) (dcons (dvar 2) (dnil)))) (dandv (dcall (fis_below) (dcons (d2 oix (dvar 0) (dlit (.int 1))) (dcons (dvar 1) (dnil)))) (dcall (fis_below) (dcons (d2 oix (dvar 0) (dlit (.int 2))) (dcons (dvar 2) (dnil)))))))
def fis_arrow : DF := dfun 0 bis_arrow
def bcheck_marks : DS := dseq (dif (dor (dnot (dtv (disi "tuple" (dvar 1)))) (dtv (d2 one (dprim olen (dcons (dvar 1) (dnil))) (d2 oix (dvar 0) (dlit (.int 0)))))) (draise 0) (dskip)) (dif (dnot (dtv (dprim oall (dcons (dlc (dseqv false (dvar 1)) [2] (gname 2) (dyes) (dcall (fis_between) (dcons (dvar 2) (dcons (d1 oneg (dlit (.int 1))) (dcons (dlit (.int 9)) (dnil)))))) (dnil))))) (draise 0) (dskip))
def fcheck_marks : DF := dfun 1 bcheck_marks
def bcheck_log : DS := dif (dor (dnot (dtv (disi "tuple" (dvar 0)))) (dor (dtv (d2 ogt (dprim olen (dcons (dvar 0) (dnil))) (dlit (.int 200)))) (dnot (dtv (dprim oall (dcons (dlc (dseqv false (dvar 0)) [1] (gname 1) (dyes) (dcall (fis_between) (dcons (dvar 1) (dcons (dlit (.int 0)) (dcons (dlit (.int 9)) (dnil)))))) (dnil))))))) (draise 1) (dskip)
def fcheck_log : DF := dfun 1 bcheck_log
def bcheck_events : DS := dif (dor (dnot (dtv (disi "tuple" (dvar 0)))) (dor (dtv (d2 ogt (dprim olen (dcons (dvar 0) (dnil))) (dlit (.int 200)))) (dnot (dtv (dprim oall (dcons (dlc (dseqv false (dvar 0)) [2] (gname 2) (dyes) (dcall (fis_below) (dcons (dvar 2) (dcons (dvar 1) (dnil))))) (dnil))))))) (draise 1) (dskip)
def fcheck_events : DF := dfun 1 bcheck_events
def bis_row : DS := dret (dandv (disi "tuple" (dvar 0)) (dprim oall (dcons (dlc (dseqv false (dvar 0)) [2] (gname 2) (dyes) (dcall (fis_below) (dcons (dvar 2) (dcons (dvar 1) (dnil))))) (dnil))))
def fis_row : DF := dfun 1 bis_row
def bcheck_machine_alone : DS := dseq (dif (dor (dnot (dtv (disi "tuple" (dvar 0)))) (dtv (d2 one (dprim olen (dcons (dvar 0) (dnil))) (dlit (.int 4))))) (draise 0) (dskip)) (dseq (dasg (gtup 4 (gcons (gname 1) (gcons (gname 2) (gcons (gname 3) (gcons (gname 4) (gnil)))))) (dvar 0)) (dseq (dif (dor (dnot (dtv (dcall (fis_between) (dcons (dvar 1) (dcons (dlit (.int 1)) (dcons (dlit (.int 5)) (dnil))))))) (dnot (dtv (dcall (fis_between) (dcons (dvar 2) (dcons (dlit (.int 1)) (dcons (dlit (.int 6)) (dnil)))))))) (draise 0) (dskip)) (dseq (dif (dor (dnot (dtv (dcall (fis_set) (dcons (dvar 3) (dcons (dvar 2) (dnil)))))) (dor (dtv (d2 oeq (dprim olen (dcons (dvar 3) (dnil))) (dlit (.int 0)))) (dnot (dtv (disi "tuple" (dvar 4)))))) (draise 0) (dskip)) (dseq (dif (dnot (dtv (dprim oall (dcons (dlc (dseqv false (dvar 4)) [5] (gname 5) (dyes) (dcall (fis_arrow) (dcons (dvar 5) (dcons (dvar 1) (dcons (dvar 2) (dnil)))))) (dnil))))) (draise 0) (dskip)) (dif (dnot (dtv (dprim oall (dcons (dlc (drng2 (dcons (dlit (.int 1)) (dcons (dprim olen (dcons (dvar 4) (dnil))) (dnil)))) [6] (gname 6) (dyes) (d2 olt (d2 oix (dvar 4) (d2 osub (dvar 6) (dlit (.int 1)))) (d2 oix (dvar 4) (dvar 6)))) (dnil))))) (draise 0) (dskip))))))
def fcheck_machine_alone : DF := dfun 6 bcheck_machine_alone
def bcheck_watch_F1 : DS := dif (dor (dnot (dtv (disi "tuple" (dvar 2)))) (dor (dtv (d2 one (dprim olen (dcons (dvar 2) (dnil))) (d2 oix (dvar 0) (dlit (.int 0))))) (dnot (dtv (dprim oall (dcons (dlc (dseqv false (dvar 2)) [7] (gname 7) (dyes) (dcall (fis_below) (dcons (dvar 7) (dcons (dvar 3) (dnil))))) (dnil))))))) (draise 0) (dskip)
def bcheck_watch : DS := dseq (dif (dor (dnot (dtv (disi "tuple" (dvar 1)))) (dor (dtv (d2 one (dprim olen (dcons (dvar 1) (dnil))) (dlit (.int 4)))) (dnot (dtv (dcall (fis_between) (dcons (d2 oix (dvar 1) (dlit (.int 0))) (dcons (dlit (.int 1)) (dcons (dlit (.int 4)) (dnil))))))))) (draise 0) (dskip)) (dseq (dasg (gtup 4 (gcons (gname 3) (gcons (gname 4) (gcons (gname 5) (gcons (gname 6) (gnil)))))) (dvar 1)) (dseq (dif (dor (dnot (dtv (dcall (fis_below) (dcons (dvar 4) (dcons (dvar 3) (dnil)))))) (dor (dnot (dtv (disi "tuple" (dvar 5)))) (dor (dtv (d2 one (dprim olen (dcons (dvar 5) (dnil))) (dvar 3))) (dnot (dtv (dcall (fis_set) (dcons (dvar 6) (dcons (dvar 3) (dnil))))))))) (draise 0) (dskip)) (dfor (dseqv true (dvar 5)) (gname 2) (bcheck_watch_F1))))
def fcheck_watch : DF := dfun 6 bcheck_watch
def blog_of : DS := dseq (dif (dor (dnot (dtv (disi "tuple" (dvar 0)))) (dnot (dtv (dcall (fis_between) (dcons (dprim olen (dcons (dvar 0) (dnil))) (dcons (dlit (.int 1)) (dcons (dlit (.int 5)) (dnil)))))))) (draise 0) (dskip)) (dseq (ddrop (dcall (fcheck_marks) (dcons (dtup (dcons (dprim olen (dcons (dvar 0) (dnil))) (dnil))) (dcons (dvar 0) (dnil))))) (dseq (ddrop (dcall (fcheck_events) (dcons (dvar 1) (dcons (dprim olen (dcons (dvar 0) (dnil))) (dnil))))) (dret (dcall (flines_of) (dcons (dvar 0) (dcons (dvar 1) (dnil)))))))
def flog_of : DF := dfun 0 blog_of
def bcheck_rule : DS := dseq (dif (dor (dnot (dtv (disi "tuple" (dvar 0)))) (dor (dtv (d2 oeq (dprim olen (dcons (dvar 0) (dnil))) (dlit (.int 0)))) (dnot (dtv (disi "str" (d2 oix (dvar 0) (dlit (.int 0)))))))) (draise 1) (dskip)) (dseq (dif (dand (dtv (d2 oeq (d2 oix (dvar 0) (dlit (.int 0))) (dlit (.str "all")))) (dtv (d2 oeq (dprim olen (dcons (dvar 0) (dnil))) (dlit (.int 1))))) (dretN) (dskip)) (dseq (dif (dor (dtv (d2 one (dprim olen (dcons (dvar 0) (dnil))) (dlit (.int 2)))) (dtv (d2 onin (d2 oix (dvar 0) (dlit (.int 0))) (dtup (dcons (dlit (.str "last")) (dcons (dlit (.str "first")) (dcons (dlit (.str "each")) (dcons (dlit (.str "only")) (dnil))))))))) (draise 1) (dskip)) (dif (dtv (d2 oeq (d2 oix (dvar 0) (dlit (.int 0))) (dlit (.str "only")))) (dif (dnot (dtv (dcall (fis_set) (dcons (d2 oix (dvar 0) (dlit (.int 1))) (dcons (d2 oadd (dlit (.int 9)) (dlit (.int 1))) (dnil)))))) (draise 1) (dskip)) (dif (dnot (dtv (dcall (fis_between) (dcons (d2 oix (dvar 0) (dlit (.int 1))) (dcons (dlit (.int 1)) (dcons (dlit (.int 200)) (dnil))))))) (draise 1) (dskip)))))
def fcheck_rule : DF := dfun 0 bcheck_rule
def bcheck_both : DS := dseq (ddrop (dcall (fcheck_machine_alone) (dcons (dvar 0) (dnil)))) (ddrop (dcall (fcheck_marks) (dcons (dvar 0) (dcons (dvar 1) (dnil)))))
def fcheck_both : DF := dfun 0 bcheck_both
def bis_run : DS := dseq (ddrop (dcall (fcheck_machine_alone) (dcons (dvar 0) (dnil)))) (dseq (ddrop (dcall (fcheck_events) (dcons (dvar 1) (dcons (d2 oix (dvar 0) (dlit (.int 0))) (dnil))))) (dret (d2 ogt (dprim olen (dcons (dcall (fstates_after) (dcons (dvar 0) (dcons (dprim olist (dcons (d2 oix (dvar 0) (dlit (.int 2))) (dnil))) (dcons (dvar 1) (dnil))))) (dnil))) (dlit (.int 0)))))
def fis_run : DF := dfun 0 bis_run
def benough : DS := dseq (ddrop (dcall (fcheck_machine_alone) (dcons (dvar 0) (dnil)))) (dseq (ddrop (dcall (fcheck_watch) (dcons (dvar 0) (dcons (dvar 1) (dnil))))) (dseq (dif (dnot (dtv (dcall (fis_set) (dcons (dvar 2) (dcons (d2 oix (dvar 0) (dlit (.int 0))) (dnil)))))) (draise 2) (dskip)) (dret (dcall (fis_enough) (dcons (dvar 0) (dcons (dvar 1) (dcons (dvar 2) (dnil))))))))
def fenough : DF := dfun 0 benough
def bleast_sets : DS := dseq (ddrop (dcall (fcheck_machine_alone) (dcons (dvar 0) (dnil)))) (dseq (ddrop (dcall (fcheck_watch) (dcons (dvar 0) (dcons (dvar 1) (dnil))))) (dseq (dset 2 (d2 oix (dvar 0) (dlit (.int 0)))) (dno)))
def fleast_sets : DF := dfun 7 bleast_sets
def bcheck_all : DS := dseq (ddrop (dcall (fcheck_both) (dcons (dvar 0) (dcons (dvar 1) (dnil))))) (ddrop (dcall (fcheck_watch) (dcons (dvar 0) (dcons (dvar 2) (dnil)))))
def fcheck_all : DF := dfun 0 bcheck_all
def bcheck_machine : DS := ddrop (dcall (fcheck_both) (dcons (dvar 0) (dcons (dvar 1) (dnil))))
def fcheck_machine : DF := dfun 0 bcheck_machine
def bis_lively : DS := dseq (ddrop (dcall (fcheck_both) (dcons (dvar 0) (dcons (dvar 1) (dnil))))) (dret (dcall (fis_lively_machine) (dcons (dvar 0) (dcons (dvar 1) (dnil)))))
def fis_lively : DF := dfun 0 bis_lively
def bstates_behind : DS := dseq (ddrop (dcall (fcheck_both) (dcons (dvar 0) (dcons (dvar 1) (dnil))))) (dseq (ddrop (dcall (fcheck_log) (dcons (dvar 2) (dnil)))) (dno))
def fstates_behind : DF := dfun 6 bstates_behind
def bfitting_run : DS := dseq (ddrop (dcall (fcheck_both) (dcons (dvar 0) (dcons (dvar 1) (dnil))))) (dseq (ddrop (dcall (fcheck_log) (dcons (dvar 2) (dnil)))) (dno))
def ffitting_run : DF := dfun 0 bfitting_run
def btold : DS := dseq (ddrop (dcall (fcheck_all) (dcons (dvar 0) (dcons (dvar 1) (dcons (dvar 2) (dnil)))))) (dno)
def ftold : DF := dfun 0 btold
def bcheck_end : DS := dseq (ddrop (dcall (fcheck_all) (dcons (dvar 0) (dcons (dvar 1) (dcons (dvar 2) (dnil)))))) (dif (dor (dnot (dtv (dcall (fis_lively_machine) (dcons (dvar 0) (dcons (dvar 1) (dnil)))))) (dnot (dtv (dcall (fstays) (dcons (dvar 2) (dnil)))))) (draise 2) (dskip))
def fcheck_end : DF := dfun 0 bcheck_end
def bsecret : DS := dseq (ddrop (dcall (fcheck_all) (dcons (dvar 0) (dcons (dvar 1) (dcons (dvar 2) (dnil)))))) (dseq (dif (dtv (d2 ogt (d2 omul (d2 oix (dvar 0) (dlit (.int 1))) (d2 oix (dvar 2) (dlit (.int 0)))) (dlit (.int 12)))) (draise 0) (dskip)) (dno))
def fsecret : DF := dfun 2 bsecret
def banswer : DS := dseq (ddrop (dcall (fcheck_all) (dcons (dvar 0) (dcons (dvar 1) (dcons (dvar 2) (dnil)))))) (dseq (ddrop (dcall (fcheck_log) (dcons (dvar 3) (dnil)))) (dno))
def fanswer : DF := dfun 1 banswer
def bcheck_left : DS := dseq (ddrop (dcall (fcheck_all) (dcons (dvar 0) (dcons (dvar 1) (dcons (dvar 2) (dnil)))))) (dseq (ddrop (dcall (fcheck_rule) (dcons (dvar 3) (dnil)))) (dseq (ddrop (dcall (fcheck_log) (dcons (dvar 4) (dnil)))) (dif (dnot (dtv (dcall (fis_between) (dcons (dvar 5) (dcons (d1 oneg (dlit (.int 1))) (dcons (dlit (.int 200)) (dnil))))))) (draise 2) (dskip))))
def fcheck_left : DF := dfun 0 bcheck_left
def bis_never_W1 : DS := dseq (dif (dtv (d2 oin (dvar 8) (d2 oix (dvar 2) (dlit (.int 3))))) (dret (dlit (.bl false))) (dskip)) (dseq (dapp 9 (dvar 8)) (dseq (dset 8 (dcall (falong) (dcons (dvar 2) (dcons (dvar 8) (dcons (dvar 7) (dnil)))))) (dfreeze 8 (dskip))))
def bis_never_T2 : DT := dtv (d2 onin (dvar 8) (dvar 9))
def bis_never : DS := dseq (ddrop (dcall (fcheck_end) (dcons (dvar 0) (dcons (dvar 1) (dcons (dvar 2) (dnil)))))) (dseq (dif (dor (dnot (dtv (disi "tuple" (dvar 3)))) (dor (dtv (d2 one (dprim olen (dcons (dvar 3) (dnil))) (dlit (.int 4)))) (dnot (dtv (dprim oall (dcons (dlc (dseqv false (dvar 3)) [10] (gname 10) (dyes) (dcall (fis_row) (dcons (dvar 10) (dcons (d2 oix (dvar 0) (dlit (.int 0))) (dnil))))) (dnil))))))) (dret (dlit (.bl false))) (dskip)) (dseq (dasg (gtup 4 (gcons (gname 4) (gcons (gname 5) (gcons (gname 6) (gcons (gname 7) (gnil)))))) (dvar 3)) (dseq (dif (dor (dtv (d2 oeq (dprim olen (dcons (dcall (flines_of) (dcons (dvar 1) (dcons (dvar 5) (dnil)))) (dnil))) (dlit (.int 0)))) (dtv (d2 one (dcall (flines_of) (dcons (dvar 1) (dcons (dvar 4) (dnil)))) (dcall (flines_of) (dcons (dvar 1) (dcons (dvar 6) (dnil))))))) (dret (dlit (.bl false))) (dskip)) (dseq (dif (dor (dtv (d2 one (dcall (flines_of) (dcons (dvar 1) (dcons (dvar 5) (dnil)))) (dcall (flines_of) (dcons (dvar 1) (dcons (dvar 7) (dnil)))))) (dor (dnot (dtv (dcall (fgoes_round) (dcons (dvar 0) (dcons (dvar 4) (dcons (dvar 5) (dnil))))))) (dnot (dtv (dcall (fgoes_round) (dcons (dvar 0) (dcons (dvar 6) (dcons (dvar 7) (dnil))))))))) (dret (dlit (.bl false))) (dskip)) (dseq (dpar 8 9 (dcall (falong) (dcons (dvar 2) (dcons (d2 oix (dvar 2) (dlit (.int 1))) (dcons (dvar 6) (dnil))))) (dlst (dnil))) (dfreeze 8 (dseq (dwhile 1000 (bis_never_T2) (bis_never_W1)) (dret (d2 oin (dcall (falong) (dcons (dvar 2) (dcons (d2 oix (dvar 2) (dlit (.int 1))) (dcons (dvar 4) (dnil))))) (d2 oix (dvar 2) (dlit (.int 3))))))))))))
def fis_never : DF := dfun 7 bis_never
def banswer_left : DS := dseq (ddrop (dcall (fcheck_left) (dcons (dvar 0) (dcons (dvar 1) (dcons (dvar 2) (dcons (dvar 3) (dcons (dvar 4) (dcons (dvar 5) (dnil))))))))) (dno)
def fanswer_left : DF := dfun 8 banswer_left
def bn_law_right_F1 (r : DF) : DS := dapp 5 (dite' (dtv (d2 oeq (dcall (fn_law_draw) (dcons (dvar 0) (dcons (dlit (.int 2)) (dnil)))) (dlit (.int 0)))) (d2 oix (dvar 7) (dcall (fn_law_draw) (dcons (dvar 0) (dcons (dprim olen (dcons (dvar 7) (dnil))) (dnil))))) (dvar 6))
def bn_law_right_F2 (r : DF) : DS := dseq (dset 5 (d2 oadd (dlc (dseqv false (dsl osl (dvar 2) (dnop) (dpart (dvar 3)))) [6, 7] (gtup 2 (gcons (gname 6) (gcons (gname 7) (gnil)))) (dyes) (dvar 6)) (dlst (dcons (dvar 4) (dnil))))) (dseq (dfor (dseqv true (dsl osl (dvar 2) (dpart (d2 oadd (dvar 3) (dlit (.int 1)))) (dnop))) (gtup 2 (gcons (gname 6) (gcons (gname 7) (gnil)))) (bn_law_right_F1 r)) (dfreeze 5 (dif (dtv (d2 one (dtold (fn_law_read 12) rg "range" "other" (dcallt 1 (fun m => if m = 0 then some r else none) (dcons (dvar 5) (dnil)))) (dtup (dcons (dlit (.int 1)) (dcons (dlit (.str "other")) (dnil)))))) (dret (dlit (.bl false))) (dskip))))
def bn_law_right_F3 (r : DF) : DS := dfor (dseqv true (d2 oix (d2 oix (dvar 2) (dvar 3)) (dlit (.int 1)))) (gname 4) (bn_law_right_F2 r)
def bn_law_right (r : DF) : DS := dseq (dfor (drng1 (dcons (dprim olen (dcons (dvar 2) (dnil))) (dnil))) (gname 3) (bn_law_right_F3 r)) (dret (dlit (.bl true)))
def blaw_F1 : DS := dif (dnot (dtv (dhof 5 bn_law_right (dcallt 6 (fun m => if m = 0 then some fcheck_machine else if m = 1 then some fis_lively else none) (dcons (d2 oix (dvar 11) (dlit (.int 0))) (dcons (d2 oix (dvar 11) (dlit (.int 1))) (dnil)))) (dvar 1) (dlst (dcons (dvar 2) (dcons (dvar 8) (dnil))))))) (dret (dlit (.bl false))) (dskip)
def blaw_F2 : DS := dif (dnot (dtv (dhof 5 bn_law_right (dcallt 6 (fun m => if m = 2 then some fstates_behind else if m = 3 then some ffitting_run else none) (dcons (d2 oix (dvar 11) (dlit (.int 0))) (dcons (d2 oix (dvar 11) (dlit (.int 1))) (dcons (d2 oix (dvar 11) (dlit (.int 2))) (dnil))))) (dvar 1) (dlst (dcons (dvar 2) (dcons (dvar 8) (dcons (dvar 10) (dnil)))))))) (dret (dlit (.bl false))) (dskip)
def blaw_F3 : DS := dif (dnot (dtv (dhof 5 bn_law_right (dcallt 6 (fun m => if m = 4 then some ftold else if m = 5 then some fsecret else none) (dcons (d2 oix (dvar 11) (dlit (.int 0))) (dcons (d2 oix (dvar 11) (dlit (.int 1))) (dcons (d2 oix (dvar 11) (dlit (.int 2))) (dnil))))) (dvar 1) (dlst (dcons (dvar 2) (dcons (dvar 8) (dcons (dvar 9) (dnil)))))))) (dret (dlit (.bl false))) (dskip)
def blaw_F4 : DS := dif (dtv (d2 one (dtold (fn_law_read 12) rg "range" "other" (dcall (fenough) (dcons (d2 oix (dvar 2) (dlit (.int 0))) (dcons (d2 oix (dvar 9) (dlit (.int 0))) (dcons (dvar 7) (dnil)))))) (dtup (dcons (dlit (.int 1)) (dcons (dlit (.str "range")) (dnil)))))) (dret (dlit (.bl false))) (dskip)
def blaw : DS := dseq (dset 1 (dcall (fn_law_stream) (dcons (dvar 0) (dcons (dlit (.int 0)) (dnil))))) (dbox 1 (dseq (dset 2 (dtup (dcons (dtup (dcons (dlit (.int 2)) (dcons (dlit (.int 2)) (dcons (dtup (dcons (dlit (.int 0)) (dnil))) (dcons (dtup (dcons (dtup (dcons (dlit (.int 0)) (dcons (dlit (.int 0)) (dcons (dlit (.int 1)) (dnil))))) (dcons (dtup (dcons (dlit (.int 1)) (dcons (dlit (.int 1)) (dcons (dlit (.int 0)) (dnil))))) (dnil)))) (dnil)))))) (dcons (dcall (fn_law_bad_machines) dnil) (dnil))))) (dseq (dasg (gtup 3 (gcons (gname 8) (gcons (gname 9) (gcons (gname 10) (gnil))))) (dtup (dcons (dtup (dcons (dtup (dcons (dlit (.int 0)) (dcons (d1 oneg (dlit (.int 1))) (dnil)))) (dcons (dcall (fn_law_bad_marks) dnil) (dnil)))) (dcons (dtup (dcons (dtup (dcons (dlit (.int 2)) (dcons (dlit (.int 0)) (dcons (dtup (dcons (dtup (dcons (dlit (.int 0)) (dcons (dlit (.int 1)) (dnil)))) (dcons (dtup (dcons (dlit (.int 1)) (dcons (dlit (.int 1)) (dnil)))) (dnil)))) (dcons (dtup (dcons (dlit (.int 1)) (dnil))) (dnil)))))) (dcons (dcall (fn_law_bad_watches) dnil) (dnil)))) (dcons (dtup (dcons (dtup (dcons (dlit (.int 0)) (dcons (dlit (.int 0)) (dnil)))) (dcons (dcall (fn_law_bad_logs) dnil) (dnil)))) (dnil)))))) (dseq (dset 3 (dtup (dcons (dtup (dcons (dlit (.int 0)) (dcons (dlit (.int 1)) (dnil)))) (dcons (dlst (dcons (dlit (.int 3)) (dcons (dtup (dcons (dlit (.int 2)) (dnil))) (dcons (dtup (dcons (dlit (.str "0")) (dnil))) (dcons (dlit (.str "0")) (dcons (dtup (dcons (d1 oneg (dlit (.int 1))) (dnil))) (dcons (dtup (dcons (dtup (dcons (dlit (.int 0)) (dnil))) (dnil))) (dnil)))))))) (dnil))))) (dseq (dset 4 (dtup (dcons (dtup (dcons (dlit (.str "last")) (dcons (dlit (.int 1)) (dnil)))) (dcons (dlst (dcons (dlit (.int 3)) (dcons (dtup (dnil)) (dcons (dtup (dcons (dlit (.str "last")) (dnil))) (dcons (dtup (dcons (dlit (.str "last")) (dcons (dlit (.int 0)) (dnil)))) (dcons (dtup (dcons (dlit (.str "first")) (dcons (dlit (.str "1")) (dnil)))) (dcons (dtup (dcons (dlit (.str "only")) (dcons (dtup (dcons (dlit (.int 1)) (dcons (dlit (.int 0)) (dnil)))) (dnil)))) (dcons (dtup (dcons (dlit (.str "all")) (dcons (dlit (.int 1)) (dnil)))) (dcons (dtup (dcons (dlit (.str "some")) (dcons (dlit (.int 1)) (dnil)))) (dcons (dlit (.str "all")) (dnil))))))))))) (dnil))))) (dseq (dset 5 (dprim orepr (dcons (dlst (dcons (dvar 2) (dcons (dvar 8) (dcons (dvar 9) (dnil))))) (dnil)))) (dseq (dforfn 6 [0, 1] (blaw_F1)) (dseq (dif (dnot (dtv (dhof 5 bn_law_right (dcall (fis_run) (dcons (d2 oix (dvar 11) (dlit (.int 0))) (dcons (d2 oix (dvar 11) (dlit (.int 1))) (dnil)))) (dvar 1) (dlst (dcons (dvar 2) (dcons (dvar 3) (dnil))))))) (dret (dlit (.bl false))) (dskip)) (dseq (dif (dnot (dtv (dhof 5 bn_law_right (dcall (flog_of) (dcons (d2 oix (dvar 11) (dlit (.int 0))) (dcons (d2 oix (dvar 11) (dlit (.int 1))) (dnil)))) (dvar 1) (dlst (dcons (dtup (dcons (d2 oix (dvar 8) (dlit (.int 0))) (dcons (dlst (dcons (dlit (.int 3)) (dcons (dtup (dnil)) (dcons (dtup (dcons (dlit (.int 1)) (dcons (d1 oneg (dlit (.int 2))) (dnil)))) (dcons (dtup (dcons (dlit (.int 1)) (dcons (dlit (.str "2")) (dnil)))) (dcons (dlit (.str "12")) (dcons (d2 omul (dtup (dcons (dlit (.int 0)) (dnil))) (dlit (.int 6))) (dnil)))))))) (dnil)))) (dcons (dvar 3) (dnil))))))) (dret (dlit (.bl false))) (dskip)) (dseq (dforfn 6 [2, 3] (blaw_F2)) (dseq (dif (dnot (dtv (dhof 5 bn_law_right (dcall (fanswer) (dcons (d2 oix (dvar 11) (dlit (.int 0))) (dcons (d2 oix (dvar 11) (dlit (.int 1))) (dcons (d2 oix (dvar 11) (dlit (.int 2))) (dcons (d2 oix (dvar 11) (dlit (.int 3))) (dnil)))))) (dvar 1) (dlst (dcons (dvar 2) (dcons (dvar 8) (dcons (dvar 9) (dcons (dvar 10) (dnil))))))))) (dret (dlit (.bl false))) (dskip)) (dseq (dif (dnot (dtv (dhof 5 bn_law_right (dcall (fanswer_left) (dcons (d2 oix (dvar 11) (dlit (.int 0))) (dcons (d2 oix (dvar 11) (dlit (.int 1))) (dcons (d2 oix (dvar 11) (dlit (.int 2))) (dcons (d2 oix (dvar 11) (dlit (.int 3))) (dcons (d2 oix (dvar 11) (dlit (.int 4))) (dcons (d1 oneg (dlit (.int 1))) (dnil)))))))) (dvar 1) (dlst (dcons (dvar 2) (dcons (dvar 8) (dcons (dvar 9) (dcons (dvar 4) (dcons (dvar 10) (dnil)))))))))) (dret (dlit (.bl false))) (dskip)) (dseq (dforfn 6 [4, 5] (blaw_F3)) (dseq (dif (dnot (dtv (dhof 5 bn_law_right (dcall (fis_never) (dcons (d2 oix (dvar 11) (dlit (.int 0))) (dcons (d2 oix (dvar 11) (dlit (.int 1))) (dcons (d2 oix (dvar 11) (dlit (.int 2))) (dcons (dlit (.int 3)) (dnil)))))) (dvar 1) (dlst (dcons (dvar 2) (dcons (dvar 8) (dcons (dvar 9) (dnil)))))))) (dret (dlit (.bl false))) (dskip)) (dseq (dif (dnot (dtv (dhof 5 bn_law_right (dcall (fleast_sets) (dcons (d2 oix (dvar 11) (dlit (.int 0))) (dcons (d2 oix (dvar 11) (dlit (.int 1))) (dnil)))) (dvar 1) (dlst (dcons (dvar 2) (dcons (dvar 9) (dnil))))))) (dret (dlit (.bl false))) (dskip)) (dseq (dfor (dseqv true (dlst (dcons (dlit (.int 3)) (dcons (dtup (dcons (dlit (.int 1)) (dcons (dlit (.int 0)) (dnil)))) (dcons (dtup (dcons (dlit (.int 2)) (dnil))) (dcons (dtup (dcons (dlit (.str "0")) (dnil))) (dcons (dlit (.str "0")) (dnil)))))))) (gname 7) (blaw_F4)) (dret (d2 oeq (dprim orepr (dcons (dlst (dcons (dvar 2) (dcons (dvar 8) (dcons (dvar 9) (dnil))))) (dnil))) (dvar 5)))))))))))))))))))
def flaw : DF := dfun 10 blaw
structure TX (K : PySem.W.Frag) (mg : Str → Option Value) (cl : Nat → Value) : Prop where
  b_abs : mg "abs" = none
  b_all : mg "all" = none
  b_bool : mg "bool" = none
  b_int : mg "int" = none
  b_isinstance : mg "isinstance" = none
  b_len : mg "len" = none
  b_list : mg "list" = none
  b_range : mg "range" = none
  b_repr : mg "repr" = none
  b_sorted : mg "sorted" = none
  b_str : mg "str" = none
  b_tuple : mg "tuple" = none
  c_MOST_EVENTS : ∃ t, mg "MOST_EVENTS" = some (.int 5 t)
  c_MOST_FOR_SECRET : ∃ t, mg "MOST_FOR_SECRET" = some (.int 12 t)
  c_MOST_LINE : ∃ t, mg "MOST_LINE" = some (.int 9 t)
  c_MOST_LOG : ∃ t, mg "MOST_LOG" = some (.int 200 t)
  c_MOST_STATES : ∃ t, mg "MOST_STATES" = some (.int 6 t)
  c_MOST_WATCH : ∃ t, mg "MOST_WATCH" = some (.int 4 t)
  e_BadLog : Er K mg cl "BadLog" 1
  e_BadMachine : Er K mg cl "BadMachine" 0
  e_OutOfRange : Er K mg cl "OutOfRange" 2
section
variable {P : Program} {w : World} {K : PySem.W.Frag} {mg : Str → Option Value} {base : Heap} {cl : Nat → Value}
abbrev sis_integer : Stmt := top 12
abbrev Nis_integer : List Str := ["thing"]
theorem scis_integer : FnScope Nis_integer ["thing"] (defScope sis_integer) := ⟨rfl, rfl, rfl, by decide +kernel, rfl, by decide +kernel, by decide +kernel⟩
theorem ok_is_integer {f : Addr} {fd : FuncData} (T : TX K mg cl) (F : Fun K "is_integer" "is_integer" sis_integer f fd)  : FnOk P w K mg base (L2.CX P w) 1 f fd ["thing"] (spF K cl 1 fis_integer) := by
  have nd := scis_integer.nd
  refine ok_def F scis_integer rfl rfl fun β cdv A outer s H E hr => ?_
  have tk := takes_of (X := cxOf (L2.CX P w) P w K mg base Nis_integer "is_integer" (defScope sis_integer) f cdv A outer s H E) (E := E) rfl rfl rfl rfl
  exact sss_one (ss_ret (se_and (se_isi rfl (se_var 0) (by decide) rfl T.b_isinstance rfl T.b_int (by decide +kernel)) (se_one (se_not (se_isi rfl (se_var 0) (by decide) rfl T.b_isinstance rfl T.b_bool (by decide +kernel))))))
abbrev sstates_after : Stmt := top 30
abbrev Nstates_after : List Str := ["machine", "states", "events", "event", "state", "by", "other"]
theorem scstates_after : FnScope Nstates_after ["machine", "states", "events"] (defScope sstates_after) := ⟨rfl, rfl, rfl, by decide +kernel, rfl, by decide +kernel, by decide +kernel⟩
theorem ok_states_after {f : Addr} {fd : FuncData} (T : TX K mg cl) (F : Fun K "states_after" "states_after" sstates_after f fd)  : FnOk P w K mg base (L2.CX P w) 1 f fd ["machine", "states", "events"] (spF K cl 3 fstates_after) := by
  have nd := scstates_after.nd
  refine ok_def F scstates_after rfl rfl fun β cdv A outer s H E hr => ?_
  have tk := takes_of (X := cxOf (L2.CX P w) P w K mg base Nstates_after "states_after" (defScope sstates_after) f cdv A outer s H E) (E := E) rfl rfl rfl rfl
  exact sss_cons (ss_for (is := [3]) (passes_of rfl) rfl (si_val true rfl (se_var 2)) (sg_name 3 nd) (sss_no)) (sss_one (ss_retv 1))
abbrev slines_of : Stmt := top 32
abbrev Nlines_of : List Str := ["marks", "events", "event"]
theorem sclines_of : FnScope Nlines_of ["marks", "events"] (defScope slines_of) := ⟨rfl, rfl, rfl, by decide +kernel, rfl, by decide +kernel, by decide +kernel⟩
theorem ok_lines_of {f : Addr} {fd : FuncData} (T : TX K mg cl) (F : Fun K "lines_of" "lines_of" slines_of f fd)  : FnOk P w K mg base (L2.CX P w) 1 f fd ["marks", "events"] (spF K cl 2 flines_of) := by
  have nd := sclines_of.nd
  refine ok_def F sclines_of rfl rfl fun β cdv A outer s H E hr => ?_
  have tk := takes_of (X := cxOf (L2.CX P w) P w K mg base Nlines_of "lines_of" (defScope slines_of) f cdv A outer s H E) (E := E) rfl rfl rfl rfl
  exact sss_one (ss_ret (se_callTy (cs_tuple rfl) rfl T.b_tuple (by decide +kernel) (sa_cons (se_lc (own := [("event", 2)]) rfl nd (si_val false rfl (se_var 1)) (blkOk_by (N := Nlines_of) (sc := defScope slines_of) (own := [("event", 2)]) (by decide +kernel)) (fun _ _ _ _ _ => sg_name 2 nd) (fun _ _ _ _ _ => sts_one (st_cmp os_ge (se_ix (ix_seq' rfl) (se_var 0) (se_var 2)) (se_int))) (fun _ _ _ _ _ => se_ix (ix_seq' rfl) (se_var 0) (se_var 2))) (sa_nil))))
abbrev sis_lively_machine : Stmt := top 33
abbrev Nis_lively_machine : List Str := ["machine", "marks", "found", "waiting", "state", "left", "kept", "here", "_", "other", "event"]
theorem scis_lively_machine : FnScope Nis_lively_machine ["machine", "marks"] (defScope sis_lively_machine) := ⟨rfl, rfl, rfl, by decide +kernel, rfl, by decide +kernel, by decide +kernel⟩
theorem ok_is_lively_machine {f : Addr} {fd : FuncData} (T : TX K mg cl) (F : Fun K "is_lively_machine" "is_lively_machine" sis_lively_machine f fd)  : FnOk P w K mg base (L2.CX P w) 1 f fd ["machine", "marks"] (spF K cl 2 fis_lively_machine) := by
  have nd := scis_lively_machine.nd
  refine ok_def F scis_lively_machine rfl rfl fun β cdv A outer s H E hr => ?_
  have tk := takes_of (X := cxOf (L2.CX P w) P w K mg base Nis_lively_machine "is_lively_machine" (defScope sis_lively_machine) f cdv A outer s H E) (E := E) rfl rfl rfl rfl
  exact sss_no
abbrev sstays : Stmt := top 46
abbrev Nstays : List Str := ["watch", "state", "other"]
theorem scstays : FnScope Nstays ["watch"] (defScope sstays) := ⟨rfl, rfl, rfl, by decide +kernel, rfl, by decide +kernel, by decide +kernel⟩
theorem ok_stays {f : Addr} {fd : FuncData} (T : TX K mg cl) (F : Fun K "stays" "stays" sstays f fd)  : FnOk P w K mg base (L2.CX P w) 1 f fd ["watch"] (spF K cl 1 fstays) := by
  have nd := scstays.nd
  refine ok_def F scstays rfl rfl fun β cdv A outer s H E hr => ?_
  have tk := takes_of (X := cxOf (L2.CX P w) P w K mg base Nstays "stays" (defScope sstays) f cdv A outer s H E) (E := E) rfl rfl rfl rfl
  exact sss_one (ss_ret (se_callB (cs_all rfl rfl) rfl T.b_all (by decide +kernel) (sa_cons (se_lc2 (own := [("state", 1), ("other", 2)]) (own1 := [("other", 2)]) rfl nd (si_val false rfl (se_ix (ix_seq' rfl) (se_var 0) (se_int))) (blkOk_by (N := Nstays) (sc := defScope sstays) (own := [("state", 1), ("other", 2)]) (by decide +kernel)) (by decide) (fun _ _ _ _ _ => sg_name 1 nd) (fun _ _ _ _ _ => sts_nil) (fun _ _ _ _ _ => si_val true rfl (se_ix (ix_seq' rfl) (se_ix (ix_seq' rfl) (se_var 0) (se_int)) (se_var 1))) (fun _ _ _ _ _ => sg_name 2 nd) (fun _ _ _ _ _ => sts_nil) (fun _ _ _ _ _ => se_cmp (os_in rfl hr.units) (se_var 2) (se_ix (ix_seq' rfl) (se_var 0) (se_int)))) (sa_nil))))
abbrev salong : Stmt := top 49
abbrev Nalong : List Str := ["watch", "state", "events", "event"]
theorem scalong : FnScope Nalong ["watch", "state", "events"] (defScope salong) := ⟨rfl, rfl, rfl, by decide +kernel, rfl, by decide +kernel, by decide +kernel⟩
theorem ok_along {f : Addr} {fd : FuncData} (T : TX K mg cl) (F : Fun K "along" "along" salong f fd)  : FnOk P w K mg base (L2.CX P w) 1 f fd ["watch", "state", "events"] (spF K cl 3 falong) := by
  have nd := scalong.nd
  refine ok_def F scalong rfl rfl fun β cdv A outer s H E hr => ?_
  have tk := takes_of (X := cxOf (L2.CX P w) P w K mg base Nalong "along" (defScope salong) f cdv A outer s H E) (E := E) rfl rfl rfl rfl
  exact sss_cons (ss_for (is := [3]) (passes_of rfl) rfl (si_val true rfl (se_var 2)) (sg_name 3 nd) (sss_one (ss_set 1 nd (se_ix (ix_seq' rfl) (se_ix (ix_seq' rfl) (se_ix (ix_seq' rfl) (se_var 0) (se_int)) (se_var 1)) (se_var 3))))) (sss_one (ss_retv 1))
abbrev sis_enough : Stmt := top 53
abbrev Nis_enough : List Str := ["machine", "watch", "events"]
theorem scis_enough : FnScope Nis_enough ["machine", "watch", "events"] (defScope sis_enough) := ⟨rfl, rfl, rfl, by decide +kernel, rfl, by decide +kernel, by decide +kernel⟩
theorem ok_is_enough {f : Addr} {fd : FuncData} (T : TX K mg cl) (F : Fun K "is_enough" "is_enough" sis_enough f fd)  : FnOk P w K mg base (L2.CX P w) 1 f fd ["machine", "watch", "events"] (spF K cl 3 fis_enough) := by
  have nd := scis_enough.nd
  refine ok_def F scis_enough rfl rfl fun β cdv A outer s H E hr => ?_
  have tk := takes_of (X := cxOf (L2.CX P w) P w K mg base Nis_enough "is_enough" (defScope sis_enough) f cdv A outer s H E) (E := E) rfl rfl rfl rfl
  exact sss_no
abbrev sreader_of : Stmt := top 64
abbrev Nreader_of : List Str := ["rule", "lines", "lost", "word"]
theorem screader_of : FnScope Nreader_of ["rule", "lines", "lost"] (defScope sreader_of) := ⟨rfl, rfl, rfl, by decide +kernel, rfl, by decide +kernel, by decide +kernel⟩
theorem ok_reader_of {f : Addr} {fd : FuncData} (T : TX K mg cl) (F : Fun K "reader_of" "reader_of" sreader_of f fd)  : FnOk P w K mg base (L2.CX P w) 1 f fd ["rule", "lines", "lost"] (spF K cl 3 freader_of) := by
  have nd := screader_of.nd
  refine ok_def F screader_of rfl rfl fun β cdv A outer s H E hr => ?_
  have tk := takes_of (X := cxOf (L2.CX P w) P w K mg base Nreader_of "reader_of" (defScope sreader_of) f cdv A outer s H E) (E := E) rfl rfl rfl rfl
  exact sss_cons (ss_set 3 nd (se_ix (ix_seq' rfl) (se_var 0) (se_int))) (sss_cons (ss_if (st_cmp (os_eq rfl hr.units) (se_var 3) (se_str)) (sss_no) (sss_nil)) (sss_cons (ss_if (st_cmp (os_eq rfl hr.units) (se_var 3) (se_str)) (sss_no) (sss_nil)) (sss_cons (ss_if (st_W (sw_or (st_cmp (os_eq rfl hr.units) (se_var 3) (se_str)) (sw_or1 (st_cmp (os_lt rfl hr.units0) (se_callB (cs_len rfl) rfl T.b_len (by decide +kernel) (sa_cons (se_var 1) (sa_nil))) (se_ix (ix_seq' rfl) (se_var 0) (se_int)))))) (sss_no) (sss_nil)) (sss_cons (ss_if (st_cmp os_gt (se_callB (cs_len rfl) rfl T.b_len (by decide +kernel) (sa_cons (se_var 1) (sa_nil))) (se_ix (ix_seq' rfl) (se_var 0) (se_int))) (sss_one (ss_ret (se_non))) (sss_nil)) (sss_no)))))
abbrev sn_law_cell : Stmt := top 74
abbrev Nn_law_cell : List Str := ["script", "k"]
theorem scn_law_cell : FnScope Nn_law_cell ["script", "k"] (defScope sn_law_cell) := ⟨rfl, rfl, rfl, by decide +kernel, rfl, by decide +kernel, by decide +kernel⟩
theorem ok_n_law_cell {f : Addr} {fd : FuncData} (T : TX K mg cl) (F : Fun K "_law_cell" "_law_cell" sn_law_cell f fd)  : FnOk P w K mg base (L2.CX P w) 1 f fd ["script", "k"] (spF K cl 2 fn_law_cell) := by
  have nd := scn_law_cell.nd
  refine ok_def F scn_law_cell rfl rfl fun β cdv A outer s H E hr => ?_
  have tk := takes_of (X := cxOf (L2.CX P w) P w K mg base Nn_law_cell "_law_cell" (defScope sn_law_cell) f cdv A outer s H E) (E := E) rfl rfl rfl rfl
  exact sss_one (ss_ret (se_ite (st_cmp (os_lt rfl hr.units0) (se_var 1) (se_callB (cs_len rfl) rfl T.b_len (by decide +kernel) (sa_cons (se_var 0) (sa_nil)))) (se_callB cs_abs rfl T.b_abs (by decide +kernel) (sa_cons (se_callTy cs_int rfl T.b_int (by decide +kernel) (sa_cons (se_ix (ix_seq' rfl) (se_var 0) (se_var 1)) (sa_nil))) (sa_nil))) (se_int)))
abbrev sn_law_draw : Stmt := top 76
abbrev Nn_law_draw : List Str := ["box", "high", "cell"]
theorem scn_law_draw : FnScope Nn_law_draw ["box", "high"] (defScope sn_law_draw) := ⟨rfl, rfl, rfl, by decide +kernel, rfl, by decide +kernel, by decide +kernel⟩
theorem ok_n_law_draw {f : Addr} {fd : FuncData} (T : TX K mg cl) (F : Fun K "_law_draw" "_law_draw" sn_law_draw f fd)  : FnOk P w K mg base (L2.CX P w) 1 f fd ["box", "high"] (spF K cl 2 fn_law_draw) := by
  have nd := scn_law_draw.nd
  refine ok_def F scn_law_draw rfl rfl fun β cdv A outer s H E hr => ?_
  have tk := takes_of (X := cxOf (L2.CX P w) P w K mg base Nn_law_draw "_law_draw" (defScope sn_law_draw) f cdv A outer s H E) (E := E) rfl rfl rfl rfl
  exact sss_cons (ss_if (st_cmp os_gt (se_bix (se_var 0) (se_int)) (se_int)) (sss_cons (ss_set 2 nd (se_bix (se_var 0) (se_int))) (sss_cons (ss_seti 0 (se_callTy cs_int rfl T.b_int (by decide +kernel) (sa_cons (se_bin os_fdiv (se_var 2) (se_var 1)) (sa_nil))) (se_int)) (sss_one (ss_ret (se_callTy cs_int rfl T.b_int (by decide +kernel) (sa_cons (se_bin os_mod (se_var 2) (se_var 1)) (sa_nil))))))) (sss_nil)) (sss_cons (ss_seti 0 (se_bin os_mod (se_bin (os_mul rfl) (se_int) (se_bix (se_var 0) (se_int))) (se_int)) (se_int)) (sss_one (ss_ret (se_callTy cs_int rfl T.b_int (by decide +kernel) (sa_cons (se_bin os_mod (se_bin os_fdiv (se_bix (se_var 0) (se_int)) (se_int)) (se_var 1)) (sa_nil))))))
abbrev sn_law_read : Stmt := top 77
abbrev Nn_law_read : List Str := ["gave", "part"]
theorem scn_law_read : FnScope Nn_law_read ["gave"] (defScope sn_law_read) := ⟨rfl, rfl, rfl, by decide +kernel, rfl, by decide +kernel, by decide +kernel⟩
theorem ok_n_law_read {f : Addr} {fd : FuncData} (T : TX K mg cl) (F : Fun K "_law_read" "_law_read" sn_law_read f fd) (hb : Binds K fd ["gave"] []) (hm : mg "_law_read" = some (.ref f))  : ∀ n : Nat, FnOk P w K mg base (L2.CX P w) (1 + n) f fd ["gave"] (spF K cl 1 (fn_law_read n))
  | 0 => ok_none F scn_law_read rfl
  | n + 1 => by
    have O_n_law_read : Ok P w K mg base cl "_law_read" 1 (1 + n) (fn_law_read n) := ⟨f, fd, _, ok_n_law_read T F hb hm  n, hm, F.kp, hb⟩
    have nd := scn_law_read.nd
    refine ok_def F scn_law_read rfl rfl fun β cdv A outer s H E hr => ?_
    have tk := takes_of (X := cxOf (L2.CX P w) P w K mg base Nn_law_read "_law_read" (defScope sn_law_read) f cdv A outer s H E) (E := E) rfl rfl rfl rfl
    exact sss_cons (ss_if (st_W (sw_or (st_cmp os_is2 (se_var 0) (se_non)) (sw_or (st_cmp os_is2 (se_var 0) (se_bl)) (sw_or1 (st_cmp os_is2 (se_var 0) (se_bl)))))) (sss_one (ss_retv 0)) (sss_nil)) (sss_cons (ss_if (st_val (se_isi rfl (se_var 0) (by decide) rfl T.b_isinstance rfl T.b_int (by decide +kernel))) (sss_one (ss_ret (se_callTy cs_int rfl T.b_int (by decide +kernel) (sa_cons (se_var 0) (sa_nil))))) (sss_nil)) (sss_cons (ss_if (st_val (se_isi rfl (se_var 0) (by decide) rfl T.b_isinstance rfl T.b_str (by decide +kernel))) (sss_one (ss_ret (se_bin (os_add rfl) (se_str) (se_var 0)))) (sss_nil)) (sss_cons (ss_if (st_val (se_isi rfl (se_var 0) (by decide) rfl T.b_isinstance rfl T.b_tuple (by decide +kernel))) (sss_one (ss_ret (se_callTy (cs_tuple rfl) rfl T.b_tuple (by decide +kernel) (sa_cons (se_lc (own := [("part", 1)]) rfl nd (si_val false rfl (se_var 0)) (blkOk_by (N := Nn_law_read) (sc := defScope sn_law_read) (own := [("part", 1)]) (by decide +kernel)) (fun _ _ _ _ _ => sg_name 1 nd) (fun _ _ _ _ _ => sts_nil) (fun _ _ _ _ _ => se_def O_n_law_read rfl hr Dn.takes0 rfl (sa_cons (se_var 1) (sa_nil)) (len_cons (fun _ _ => len_nil)))) (sa_nil))))) (sss_nil)) (sss_one (ss_ret (se_ite (st_val (se_isi rfl (se_var 0) (by decide) rfl T.b_isinstance rfl T.b_list (by decide +kernel))) (se_lc (own := [("part", 1)]) rfl nd (si_val false rfl (se_var 0)) (blkOk_by (N := Nn_law_read) (sc := defScope sn_law_read) (own := [("part", 1)]) (by decide +kernel)) (fun _ _ _ _ _ => sg_name 1 nd) (fun _ _ _ _ _ => sts_nil) (fun _ _ _ _ _ => se_def O_n_law_read rfl hr Dn.takes0 rfl (sa_cons (se_var 1) (sa_nil)) (len_cons (fun _ _ => len_nil)))) (se_str)))))))
abbrev sn_law_bad_machines : Stmt := top 79
abbrev Nn_law_bad_machines : List Str := ["good", "rows"]
theorem scn_law_bad_machines : FnScope Nn_law_bad_machines [] (defScope sn_law_bad_machines) := ⟨rfl, rfl, rfl, by decide +kernel, rfl, by decide +kernel, by decide +kernel⟩
theorem ok_n_law_bad_machines {f : Addr} {fd : FuncData} (T : TX K mg cl) (F : Fun K "_law_bad_machines" "_law_bad_machines" sn_law_bad_machines f fd)  : FnOk P w K mg base (L2.CX P w) 1 f fd [] (spF K cl 0 fn_law_bad_machines) := by
  have nd := scn_law_bad_machines.nd
  refine ok_def F scn_law_bad_machines rfl rfl fun β cdv A outer s H E hr => ?_
  have tk := takes_of (X := cxOf (L2.CX P w) P w K mg base Nn_law_bad_machines "_law_bad_machines" (defScope sn_law_bad_machines) f cdv A outer s H E) (E := E) rfl rfl rfl rfl
  exact sss_cons (ss_set 0 nd (se_tup (sa_cons (se_int) (sa_cons (se_int) (sa_cons (se_tup (sa_cons (se_int) (sa_nil))) (sa_cons (se_tup (sa_cons (se_tup (sa_cons (se_int) (sa_cons (se_int) (sa_cons (se_int) (sa_nil))))) (sa_cons (se_tup (sa_cons (se_int) (sa_cons (se_int) (sa_cons (se_int) (sa_nil))))) (sa_nil)))) (sa_nil))))))) (sss_cons (ss_set 1 nd (se_lst (sa_cons (se_int) (sa_cons (se_str) (sa_cons (se_sl (sl_any rfl) (se_var 0) (so_none) (so_some (se_int))) (sa_cons (se_bin (os_add rfl) (se_var 0) (se_tup (sa_cons (se_int) (sa_nil)))) (sa_cons (se_tup (sa_cons (se_int) (sa_cons (se_int) (sa_cons (se_tup (sa_cons (se_int) (sa_nil))) (sa_cons (se_tup (sa_nil)) (sa_nil)))))) (sa_cons (se_tup (sa_cons (se_int) (sa_cons (se_int) (sa_cons (se_tup (sa_cons (se_int) (sa_nil))) (sa_cons (se_tup (sa_nil)) (sa_nil)))))) (sa_cons (se_tup (sa_cons (se_int) (sa_cons (se_int) (sa_cons (se_tup (sa_cons (se_int) (sa_nil))) (sa_cons (se_tup (sa_nil)) (sa_nil)))))) (sa_cons (se_tup (sa_cons (se_int) (sa_cons (se_int) (sa_cons (se_tup (sa_nil)) (sa_cons (se_tup (sa_nil)) (sa_nil)))))) (sa_cons (se_tup (sa_cons (se_int) (sa_cons (se_int) (sa_cons (se_tup (sa_cons (se_int) (sa_cons (se_int) (sa_nil)))) (sa_cons (se_tup (sa_nil)) (sa_nil)))))) (sa_cons (se_tup (sa_cons (se_int) (sa_cons (se_int) (sa_cons (se_tup (sa_cons (se_int) (sa_nil))) (sa_cons (se_tup (sa_nil)) (sa_nil)))))) (sa_nil))))))))))))) (sss_freeze 1 (sss_cons (ss_set 1 nd (se_bin (os_add rfl) (se_var 1) (se_lst (sa_cons (se_tup (sa_cons (se_int) (sa_cons (se_int) (sa_cons (se_tup (sa_cons (se_int) (sa_nil))) (sa_cons (se_tup (sa_cons (se_tup (sa_cons (se_int) (sa_cons (se_int) (sa_cons (se_int) (sa_nil))))) (sa_cons (se_tup (sa_cons (se_int) (sa_cons (se_int) (sa_cons (se_int) (sa_nil))))) (sa_nil)))) (sa_nil)))))) (sa_cons (se_tup (sa_cons (se_int) (sa_cons (se_int) (sa_cons (se_tup (sa_cons (se_int) (sa_nil))) (sa_cons (se_tup (sa_cons (se_tup (sa_cons (se_int) (sa_cons (se_int) (sa_cons (se_int) (sa_nil))))) (sa_cons (se_tup (sa_cons (se_int) (sa_cons (se_int) (sa_cons (se_int) (sa_nil))))) (sa_nil)))) (sa_nil)))))) (sa_cons (se_tup (sa_cons (se_int) (sa_cons (se_int) (sa_cons (se_tup (sa_cons (se_int) (sa_nil))) (sa_cons (se_tup (sa_cons (se_tup (sa_cons (se_int) (sa_cons (se_int) (sa_cons (se_int) (sa_nil))))) (sa_nil))) (sa_nil)))))) (sa_cons (se_tup (sa_cons (se_int) (sa_cons (se_int) (sa_cons (se_tup (sa_cons (se_int) (sa_nil))) (sa_cons (se_tup (sa_cons (se_tup (sa_cons (se_int) (sa_cons (se_int) (sa_cons (se_int) (sa_nil))))) (sa_nil))) (sa_nil)))))) (sa_nil)))))))) (sss_freeze 1 (sss_one (ss_ret (se_bin (os_add rfl) (se_var 1) (se_lst (sa_cons (se_tup (sa_cons (se_int) (sa_cons (se_int) (sa_cons (se_tup (sa_cons (se_int) (sa_nil))) (sa_cons (se_tup (sa_cons (se_tup (sa_cons (se_int) (sa_cons (se_int) (sa_nil)))) (sa_nil))) (sa_nil)))))) (sa_cons (se_tup (sa_cons (se_int) (sa_cons (se_int) (sa_cons (se_tup (sa_cons (se_int) (sa_nil))) (sa_cons (se_int) (sa_nil)))))) (sa_cons (se_tup (sa_cons (se_str) (sa_cons (se_int) (sa_cons (se_tup (sa_cons (se_int) (sa_nil))) (sa_cons (se_tup (sa_nil)) (sa_nil)))))) (sa_cons (se_tup (sa_cons (se_int) (sa_cons (se_int) (sa_cons (se_int) (sa_cons (se_tup (sa_nil)) (sa_nil)))))) (sa_nil)))))))))))))
abbrev sn_law_bad_marks : Stmt := top 80
abbrev Nn_law_bad_marks : List Str := []
theorem scn_law_bad_marks : FnScope Nn_law_bad_marks [] (defScope sn_law_bad_marks) := ⟨rfl, rfl, rfl, by decide +kernel, rfl, by decide +kernel, by decide +kernel⟩
theorem ok_n_law_bad_marks {f : Addr} {fd : FuncData} (T : TX K mg cl) (F : Fun K "_law_bad_marks" "_law_bad_marks" sn_law_bad_marks f fd)  : FnOk P w K mg base (L2.CX P w) 1 f fd [] (spF K cl 0 fn_law_bad_marks) := by
  have nd := scn_law_bad_marks.nd
  refine ok_def F scn_law_bad_marks rfl rfl fun β cdv A outer s H E hr => ?_
  have tk := takes_of (X := cxOf (L2.CX P w) P w K mg base Nn_law_bad_marks "_law_bad_marks" (defScope sn_law_bad_marks) f cdv A outer s H E) (E := E) rfl rfl rfl rfl
  exact sss_one (ss_ret (se_lst (sa_cons (se_int) (sa_cons (se_tup (sa_nil)) (sa_cons (se_tup (sa_cons (se_int) (sa_nil))) (sa_cons (se_tup (sa_cons (se_int) (sa_cons (se_int) (sa_cons (se_int) (sa_nil))))) (sa_cons (se_tup (sa_cons (se_int) (sa_cons (se_un us_neg (se_int)) (sa_nil)))) (sa_cons (se_tup (sa_cons (se_int) (sa_cons (se_int) (sa_nil)))) (sa_cons (se_tup (sa_cons (se_int) (sa_cons (se_str) (sa_nil)))) (sa_cons (se_str) (sa_cons (se_tup (sa_cons (se_int) (sa_cons (se_tup (sa_cons (se_int) (sa_nil))) (sa_nil)))) (sa_nil))))))))))))
abbrev sn_law_bad_watches : Stmt := top 81
abbrev Nn_law_bad_watches : List Str := ["good", "rows"]
theorem scn_law_bad_watches : FnScope Nn_law_bad_watches [] (defScope sn_law_bad_watches) := ⟨rfl, rfl, rfl, by decide +kernel, rfl, by decide +kernel, by decide +kernel⟩
theorem ok_n_law_bad_watches {f : Addr} {fd : FuncData} (T : TX K mg cl) (F : Fun K "_law_bad_watches" "_law_bad_watches" sn_law_bad_watches f fd)  : FnOk P w K mg base (L2.CX P w) 1 f fd [] (spF K cl 0 fn_law_bad_watches) := by
  have nd := scn_law_bad_watches.nd
  refine ok_def F scn_law_bad_watches rfl rfl fun β cdv A outer s H E hr => ?_
  have tk := takes_of (X := cxOf (L2.CX P w) P w K mg base Nn_law_bad_watches "_law_bad_watches" (defScope sn_law_bad_watches) f cdv A outer s H E) (E := E) rfl rfl rfl rfl
  exact sss_cons (ss_set 0 nd (se_tup (sa_cons (se_int) (sa_cons (se_int) (sa_cons (se_tup (sa_cons (se_tup (sa_cons (se_int) (sa_cons (se_int) (sa_nil)))) (sa_cons (se_tup (sa_cons (se_int) (sa_cons (se_int) (sa_nil)))) (sa_nil)))) (sa_cons (se_tup (sa_cons (se_int) (sa_nil))) (sa_nil))))))) (sss_cons (ss_set 1 nd (se_lst (sa_cons (se_int) (sa_cons (se_tup (sa_nil)) (sa_cons (se_sl (sl_any rfl) (se_var 0) (so_none) (so_some (se_int))) (sa_cons (se_tup (sa_cons (se_int) (sa_cons (se_int) (sa_cons (se_tup (sa_nil)) (sa_cons (se_tup (sa_nil)) (sa_nil)))))) (sa_cons (se_tup (sa_cons (se_int) (sa_cons (se_int) (sa_cons (se_bin (os_mul rfl) (se_tup (sa_cons (se_tup (sa_cons (se_int) (sa_cons (se_int) (sa_nil)))) (sa_nil))) (se_int)) (sa_cons (se_tup (sa_nil)) (sa_nil)))))) (sa_cons (se_bin (os_add rfl) (se_tup (sa_cons (se_int) (sa_cons (se_int) (sa_nil)))) (se_sl (sl_any rfl) (se_var 0) (so_some (se_int)) (so_none))) (sa_cons (se_tup (sa_cons (se_int) (sa_cons (se_int) (sa_cons (se_tup (sa_cons (se_tup (sa_cons (se_int) (sa_cons (se_int) (sa_nil)))) (sa_nil))) (sa_cons (se_tup (sa_cons (se_int) (sa_nil))) (sa_nil)))))) (sa_cons (se_tup (sa_cons (se_int) (sa_cons (se_int) (sa_cons (se_tup (sa_cons (se_tup (sa_cons (se_int) (sa_cons (se_int) (sa_cons (se_int) (sa_nil))))) (sa_cons (se_tup (sa_cons (se_int) (sa_cons (se_int) (sa_cons (se_int) (sa_nil))))) (sa_nil)))) (sa_cons (se_tup (sa_cons (se_int) (sa_nil))) (sa_nil)))))) (sa_nil))))))))))) (sss_freeze 1 (sss_one (ss_ret (se_bin (os_add rfl) (se_var 1) (se_lst (sa_cons (se_tup (sa_cons (se_int) (sa_cons (se_int) (sa_cons (se_tup (sa_cons (se_tup (sa_cons (se_int) (sa_cons (se_int) (sa_nil)))) (sa_cons (se_tup (sa_cons (se_int) (sa_cons (se_int) (sa_nil)))) (sa_nil)))) (sa_cons (se_tup (sa_cons (se_int) (sa_nil))) (sa_nil)))))) (sa_cons (se_tup (sa_cons (se_int) (sa_cons (se_int) (sa_cons (se_ix (ix_seq' rfl) (se_var 0) (se_int)) (sa_cons (se_tup (sa_cons (se_int) (sa_nil))) (sa_nil)))))) (sa_cons (se_tup (sa_cons (se_int) (sa_cons (se_int) (sa_cons (se_ix (ix_seq' rfl) (se_var 0) (se_int)) (sa_cons (se_tup (sa_cons (se_int) (sa_cons (se_int) (sa_nil)))) (sa_nil)))))) (sa_cons (se_tup (sa_cons (se_int) (sa_cons (se_int) (sa_cons (se_int) (sa_cons (se_tup (sa_cons (se_int) (sa_nil))) (sa_nil)))))) (sa_cons (se_tup (sa_cons (se_int) (sa_cons (se_int) (sa_cons (se_tup (sa_cons (se_int) (sa_cons (se_int) (sa_nil)))) (sa_cons (se_tup (sa_cons (se_int) (sa_nil))) (sa_nil)))))) (sa_nil))))))))))))
abbrev sn_law_bad_logs : Stmt := top 82
abbrev Nn_law_bad_logs : List Str := []
theorem scn_law_bad_logs : FnScope Nn_law_bad_logs [] (defScope sn_law_bad_logs) := ⟨rfl, rfl, rfl, by decide +kernel, rfl, by decide +kernel, by decide +kernel⟩
theorem ok_n_law_bad_logs {f : Addr} {fd : FuncData} (T : TX K mg cl) (F : Fun K "_law_bad_logs" "_law_bad_logs" sn_law_bad_logs f fd)  : FnOk P w K mg base (L2.CX P w) 1 f fd [] (spF K cl 0 fn_law_bad_logs) := by
  have nd := scn_law_bad_logs.nd
  refine ok_def F scn_law_bad_logs rfl rfl fun β cdv A outer s H E hr => ?_
  have tk := takes_of (X := cxOf (L2.CX P w) P w K mg base Nn_law_bad_logs "_law_bad_logs" (defScope sn_law_bad_logs) f cdv A outer s H E) (E := E) rfl rfl rfl rfl
  exact sss_one (ss_ret (se_lst (sa_cons (se_int) (sa_cons (se_str) (sa_cons (se_tup (sa_cons (se_int) (sa_nil))) (sa_cons (se_tup (sa_cons (se_un us_neg (se_int)) (sa_nil))) (sa_cons (se_tup (sa_cons (se_str) (sa_nil))) (sa_cons (se_tup (sa_cons (se_tup (sa_cons (se_int) (sa_nil))) (sa_nil))) (sa_cons (se_bin (os_mul rfl) (se_tup (sa_cons (se_int) (sa_nil))) (se_int)) (sa_nil))))))))))
abbrev sis_below : Stmt := top 13
abbrev Nis_below : List Str := ["thing", "bound"]
theorem scis_below : FnScope Nis_below ["thing", "bound"] (defScope sis_below) := ⟨rfl, rfl, rfl, by decide +kernel, rfl, by decide +kernel, by decide +kernel⟩
theorem ok_is_below {f : Addr} {fd : FuncData} (T : TX K mg cl) (F : Fun K "is_below" "is_below" sis_below f fd) (O_is_integer : Ok P w K mg base cl "is_integer" 1 1 (fis_integer)) : FnOk P w K mg base (L2.CX P w) 2 f fd ["thing", "bound"] (spF K cl 2 fis_below) := by
  have nd := scis_below.nd
  refine ok_def F scis_below rfl rfl fun β cdv A outer s H E hr => ?_
  have tk := takes_of (X := cxOf (L2.CX P w) P w K mg base Nis_below "is_below" (defScope sis_below) f cdv A outer s H E) (E := E) rfl rfl rfl rfl
  exact sss_one (ss_ret (se_and (se_def O_is_integer rfl (hr.mono (by decide)) tk rfl (sa_cons (se_var 0) (sa_nil)) (len_cons (fun _ _ => len_nil))) (se_one (se_chain os_le (os_lt rfl hr.units0) (se_int) (se_var 0) (se_var 1)))))
abbrev sis_between : Stmt := top 14
abbrev Nis_between : List Str := ["thing", "low", "high"]
theorem scis_between : FnScope Nis_between ["thing", "low", "high"] (defScope sis_between) := ⟨rfl, rfl, rfl, by decide +kernel, rfl, by decide +kernel, by decide +kernel⟩
theorem ok_is_between {f : Addr} {fd : FuncData} (T : TX K mg cl) (F : Fun K "is_between" "is_between" sis_between f fd) (O_is_integer : Ok P w K mg base cl "is_integer" 1 1 (fis_integer)) : FnOk P w K mg base (L2.CX P w) 2 f fd ["thing", "low", "high"] (spF K cl 3 fis_between) := by
  have nd := scis_between.nd
  refine ok_def F scis_between rfl rfl fun β cdv A outer s H E hr => ?_
  have tk := takes_of (X := cxOf (L2.CX P w) P w K mg base Nis_between "is_between" (defScope sis_between) f cdv A outer s H E) (E := E) rfl rfl rfl rfl
  exact sss_one (ss_ret (se_and (se_def O_is_integer rfl (hr.mono (by decide)) tk rfl (sa_cons (se_var 0) (sa_nil)) (len_cons (fun _ _ => len_nil))) (se_one (se_chain os_le os_le (se_var 1) (se_var 0) (se_var 2)))))
abbrev sgoes_round : Stmt := top 50
abbrev Ngoes_round : List Str := ["machine", "ahead", "around", "states", "seen"]
theorem scgoes_round : FnScope Ngoes_round ["machine", "ahead", "around"] (defScope sgoes_round) := ⟨rfl, rfl, rfl, by decide +kernel, rfl, by decide +kernel, by decide +kernel⟩
theorem ok_goes_round {f : Addr} {fd : FuncData} (T : TX K mg cl) (F : Fun K "goes_round" "goes_round" sgoes_round f fd) (O_states_after : Ok P w K mg base cl "states_after" 3 1 (fstates_after)) : FnOk P w K mg base (L2.CX P w) 2 f fd ["machine", "ahead", "around"] (spF K cl 3 fgoes_round) := by
  have nd := scgoes_round.nd
  refine ok_def F scgoes_round rfl rfl fun β cdv A outer s H E hr => ?_
  have tk := takes_of (X := cxOf (L2.CX P w) P w K mg base Ngoes_round "goes_round" (defScope sgoes_round) f cdv A outer s H E) (E := E) rfl rfl rfl rfl
  exact sss_cons (ss_par 3 4 rfl nd (se_def O_states_after rfl (hr.mono (by decide)) tk rfl (sa_cons (se_var 0) (sa_cons (se_callTy (cs_list rfl) rfl T.b_list (by decide +kernel) (sa_cons (se_ix (ix_seq' rfl) (se_var 0) (se_int)) (sa_nil))) (sa_cons (se_var 1) (sa_nil)))) (len_cons (len_cons (len_cons (fun _ _ => len_nil))))) (se_lst (sa_nil))) (sss_freeze 3 (sss_cons (ss_while 1000 (passes_of rfl) (st_cmp os_gt (se_callB (cs_len rfl) rfl T.b_len (by decide +kernel) (sa_cons (se_var 3) (sa_nil))) (se_int)) (sss_cons (ss_if (st_cmp (os_in rfl hr.units) (se_var 3) (se_var 4)) (sss_one (ss_ret (se_bl))) (sss_nil)) (sss_cons (ss_app 4 (se_var 3)) (sss_cons (ss_set 3 nd (se_def O_states_after rfl (hr.mono (by decide)) tk rfl (sa_cons (se_var 0) (sa_cons (se_var 3) (sa_cons (se_var 2) (sa_nil)))) (len_cons (len_cons (len_cons (fun _ _ => len_nil)))))) (sss_freeze 3 (sss_nil)))))) (sss_one (ss_ret (se_bl)))))
abbrev sn_law_stream : Stmt := top 75
abbrev Nn_law_stream : List Str := ["script", "k"]
theorem scn_law_stream : FnScope Nn_law_stream ["script", "k"] (defScope sn_law_stream) := ⟨rfl, rfl, rfl, by decide +kernel, rfl, by decide +kernel, by decide +kernel⟩
theorem ok_n_law_stream {f : Addr} {fd : FuncData} (T : TX K mg cl) (F : Fun K "_law_stream" "_law_stream" sn_law_stream f fd) (O_n_law_cell : Ok P w K mg base cl "_law_cell" 2 1 (fn_law_cell)) : FnOk P w K mg base (L2.CX P w) 2 f fd ["script", "k"] (spF K cl 2 fn_law_stream) := by
  have nd := scn_law_stream.nd
  refine ok_def F scn_law_stream rfl rfl fun β cdv A outer s H E hr => ?_
  have tk := takes_of (X := cxOf (L2.CX P w) P w K mg base Nn_law_stream "_law_stream" (defScope sn_law_stream) f cdv A outer s H E) (E := E) rfl rfl rfl rfl
  exact sss_one (ss_ret (se_lst (sa_cons (se_def O_n_law_cell rfl (hr.mono (by decide)) tk rfl (sa_cons (se_var 0) (sa_cons (se_var 1) (sa_nil))) (len_cons (len_cons (fun _ _ => len_nil)))) (sa_cons (se_bin (os_add rfl) (se_int) (se_bin os_mod (se_bin (os_mul rfl) (se_int) (se_def O_n_law_cell rfl (hr.mono (by decide)) tk rfl (sa_cons (se_var 0) (sa_cons (se_var 1) (sa_nil))) (len_cons (len_cons (fun _ _ => len_nil))))) (se_int))) (sa_nil)))))
abbrev sis_set : Stmt := top 15
abbrev Nis_set : List Str := ["thing", "bound", "at", "item"]
theorem scis_set : FnScope Nis_set ["thing", "bound"] (defScope sis_set) := ⟨rfl, rfl, rfl, by decide +kernel, rfl, by decide +kernel, by decide +kernel⟩
theorem ok_is_set {f : Addr} {fd : FuncData} (T : TX K mg cl) (F : Fun K "is_set" "is_set" sis_set f fd) (O_is_below : Ok P w K mg base cl "is_below" 2 2 (fis_below)) : FnOk P w K mg base (L2.CX P w) 3 f fd ["thing", "bound"] (spF K cl 2 fis_set) := by
  have nd := scis_set.nd
  refine ok_def F scis_set rfl rfl fun β cdv A outer s H E hr => ?_
  have tk := takes_of (X := cxOf (L2.CX P w) P w K mg base Nis_set "is_set" (defScope sis_set) f cdv A outer s H E) (E := E) rfl rfl rfl rfl
  exact sss_cons (ss_if (st_W (sw_or (st_not (st_val (se_isi rfl (se_var 0) (by decide) rfl T.b_isinstance rfl T.b_tuple (by decide +kernel)))) (sw_or1 (st_not (st_val (se_callB (cs_all rfl rfl) rfl T.b_all (by decide +kernel) (sa_cons (se_lc (own := [("item", 3)]) rfl nd (si_val false rfl (se_var 0)) (blkOk_by (N := Nis_set) (sc := defScope sis_set) (own := [("item", 3)]) (by decide +kernel)) (fun _ _ _ _ _ => sg_name 3 nd) (fun _ _ _ _ _ => sts_nil) (fun _ _ _ _ _ => se_def O_is_below rfl (hr.mono (by decide)) Dn.takes0 rfl (sa_cons (se_var 3) (sa_cons (se_var 1) (sa_nil))) (len_cons (len_cons (fun _ _ => len_nil))))) (sa_nil)))))))) (sss_one (ss_ret (se_bl))) (sss_nil)) (sss_one (ss_ret (se_callB (cs_all rfl rfl) rfl T.b_all (by decide +kernel) (sa_cons (se_lc (own := [("at", 2)]) rfl nd (si_rng2 false rfl T.b_range (sa_cons (se_int) (sa_cons (se_callB (cs_len rfl) rfl T.b_len (by decide +kernel) (sa_cons (se_var 0) (sa_nil))) (sa_nil)))) (blkOk_by (N := Nis_set) (sc := defScope sis_set) (own := [("at", 2)]) (by decide +kernel)) (fun _ _ _ _ _ => sg_name 2 nd) (fun _ _ _ _ _ => sts_nil) (fun _ _ _ _ _ => se_cmp (os_lt rfl hr.units0) (se_ix (ix_seq' rfl) (se_var 0) (se_bin os_sub (se_var 2) (se_int))) (se_ix (ix_seq' rfl) (se_var 0) (se_var 2)))) (sa_nil)))))
abbrev sis_arrow : Stmt := top 16
abbrev Nis_arrow : List Str := ["thing", "k", "n"]
theorem scis_arrow : FnScope Nis_arrow ["thing", "k", "n"] (defScope sis_arrow) := ⟨rfl, rfl, rfl, by decide +kernel, rfl, by decide +kernel, by decide +kernel⟩
theorem ok_is_arrow {f : Addr} {fd : FuncData} (T : TX K mg cl) (F : Fun K "is_arrow" "is_arrow" sis_arrow f fd) (O_is_below : Ok P w K mg base cl "is_below" 2 2 (fis_below)) : FnOk P w K mg base (L2.CX P w) 3 f fd ["thing", "k", "n"] (spF K cl 3 fis_arrow) := by
  have nd := scis_arrow.nd
  refine ok_def F scis_arrow rfl rfl fun β cdv A outer s H E hr => ?_
  have tk := takes_of (X := cxOf (L2.CX P w) P w K mg base Nis_arrow "is_arrow" (defScope sis_arrow) f cdv A outer s H E) (E := E) rfl rfl rfl rfl
  exact sss_cons (ss_if (st_W (sw_or (st_not (st_val (se_isi rfl (se_var 0) (by decide) rfl T.b_isinstance rfl T.b_tuple (by decide +kernel)))) (sw_or1 (st_cmp (os_ne rfl hr.units) (se_callB (cs_len rfl) rfl T.b_len (by decide +kernel) (sa_cons (se_var 0) (sa_nil))) (se_int))))) (sss_one (ss_ret (se_bl))) (sss_nil)) (sss_one (ss_ret (se_and (se_def O_is_below rfl (hr.mono (by decide)) tk rfl (sa_cons (se_ix (ix_seq' rfl) (se_var 0) (se_int)) (sa_cons (se_var 2) (sa_nil))) (len_cons (len_cons (fun _ _ => len_nil)))) (se_and (se_def O_is_below rfl (hr.mono (by decide)) tk rfl (sa_cons (se_ix (ix_seq' rfl) (se_var 0) (se_int)) (sa_cons (se_var 1) (sa_nil))) (len_cons (len_cons (fun _ _ => len_nil)))) (se_one (se_def O_is_below rfl (hr.mono (by decide)) tk rfl (sa_cons (se_ix (ix_seq' rfl) (se_var 0) (se_int)) (sa_cons (se_var 2) (sa_nil))) (len_cons (len_cons (fun _ _ => len_nil)))))))))
abbrev scheck_marks : Stmt := top 18
abbrev Ncheck_marks : List Str := ["machine", "marks", "mark"]
theorem sccheck_marks : FnScope Ncheck_marks ["machine", "marks"] (defScope scheck_marks) := ⟨rfl, rfl, rfl, by decide +kernel, rfl, by decide +kernel, by decide +kernel⟩
theorem ok_check_marks {f : Addr} {fd : FuncData} (T : TX K mg cl) (F : Fun K "check_marks" "check_marks" scheck_marks f fd) (O_is_between : Ok P w K mg base cl "is_between" 3 2 (fis_between)) : FnOk P w K mg base (L2.CX P w) 3 f fd ["machine", "marks"] (spF K cl 2 fcheck_marks) := by
  have nd := sccheck_marks.nd
  refine ok_def F sccheck_marks rfl rfl fun β cdv A outer s H E hr => ?_
  have tk := takes_of (X := cxOf (L2.CX P w) P w K mg base Ncheck_marks "check_marks" (defScope scheck_marks) f cdv A outer s H E) (E := E) rfl rfl rfl rfl
  exact sss_cons (ss_if (st_W (sw_or (st_not (st_val (se_isi rfl (se_var 1) (by decide) rfl T.b_isinstance rfl T.b_tuple (by decide +kernel)))) (sw_or1 (st_cmp (os_ne rfl hr.units) (se_callB (cs_len rfl) rfl T.b_len (by decide +kernel) (sa_cons (se_var 1) (sa_nil))) (se_ix (ix_seq' rfl) (se_var 0) (se_int)))))) (sss_one (ss_err 0 T.e_BadMachine tk rfl)) (sss_nil)) (sss_one (ss_if (st_not (st_val (se_callB (cs_all rfl rfl) rfl T.b_all (by decide +kernel) (sa_cons (se_lc (own := [("mark", 2)]) rfl nd (si_val false rfl (se_var 1)) (blkOk_by (N := Ncheck_marks) (sc := defScope scheck_marks) (own := [("mark", 2)]) (by decide +kernel)) (fun _ _ _ _ _ => sg_name 2 nd) (fun _ _ _ _ _ => sts_nil) (fun _ _ _ _ _ => se_def O_is_between rfl (hr.mono (by decide)) Dn.takes0 rfl (sa_cons (se_var 2) (sa_cons (se_un us_neg (se_int)) (sa_cons (se_gi T.c_MOST_LINE rfl) (sa_nil)))) (len_cons (len_cons (len_cons (fun _ _ => len_nil)))))) (sa_nil))))) (sss_one (ss_err 0 T.e_BadMachine tk rfl)) (sss_nil)))
abbrev scheck_log : Stmt := top 22
abbrev Ncheck_log : List Str := ["log", "line"]
theorem sccheck_log : FnScope Ncheck_log ["log"] (defScope scheck_log) := ⟨rfl, rfl, rfl, by decide +kernel, rfl, by decide +kernel, by decide +kernel⟩
theorem ok_check_log {f : Addr} {fd : FuncData} (T : TX K mg cl) (F : Fun K "check_log" "check_log" scheck_log f fd) (O_is_between : Ok P w K mg base cl "is_between" 3 2 (fis_between)) : FnOk P w K mg base (L2.CX P w) 3 f fd ["log"] (spF K cl 1 fcheck_log) := by
  have nd := sccheck_log.nd
  refine ok_def F sccheck_log rfl rfl fun β cdv A outer s H E hr => ?_
  have tk := takes_of (X := cxOf (L2.CX P w) P w K mg base Ncheck_log "check_log" (defScope scheck_log) f cdv A outer s H E) (E := E) rfl rfl rfl rfl
  exact sss_one (ss_if (st_W (sw_or (st_not (st_val (se_isi rfl (se_var 0) (by decide) rfl T.b_isinstance rfl T.b_tuple (by decide +kernel)))) (sw_or (st_cmp os_gt (se_callB (cs_len rfl) rfl T.b_len (by decide +kernel) (sa_cons (se_var 0) (sa_nil))) (se_gi T.c_MOST_LOG rfl)) (sw_or1 (st_not (st_val (se_callB (cs_all rfl rfl) rfl T.b_all (by decide +kernel) (sa_cons (se_lc (own := [("line", 1)]) rfl nd (si_val false rfl (se_var 0)) (blkOk_by (N := Ncheck_log) (sc := defScope scheck_log) (own := [("line", 1)]) (by decide +kernel)) (fun _ _ _ _ _ => sg_name 1 nd) (fun _ _ _ _ _ => sts_nil) (fun _ _ _ _ _ => se_def O_is_between rfl (hr.mono (by decide)) Dn.takes0 rfl (sa_cons (se_var 1) (sa_cons (se_int) (sa_cons (se_gi T.c_MOST_LINE rfl) (sa_nil)))) (len_cons (len_cons (len_cons (fun _ _ => len_nil)))))) (sa_nil))))))))) (sss_one (ss_err 1 T.e_BadLog tk rfl)) (sss_nil))
abbrev scheck_events : Stmt := top 29
abbrev Ncheck_events : List Str := ["events", "k", "event"]
theorem sccheck_events : FnScope Ncheck_events ["events", "k"] (defScope scheck_events) := ⟨rfl, rfl, rfl, by decide +kernel, rfl, by decide +kernel, by decide +kernel⟩
theorem ok_check_events {f : Addr} {fd : FuncData} (T : TX K mg cl) (F : Fun K "check_events" "check_events" scheck_events f fd) (O_is_below : Ok P w K mg base cl "is_below" 2 2 (fis_below)) : FnOk P w K mg base (L2.CX P w) 3 f fd ["events", "k"] (spF K cl 2 fcheck_events) := by
  have nd := sccheck_events.nd
  refine ok_def F sccheck_events rfl rfl fun β cdv A outer s H E hr => ?_
  have tk := takes_of (X := cxOf (L2.CX P w) P w K mg base Ncheck_events "check_events" (defScope scheck_events) f cdv A outer s H E) (E := E) rfl rfl rfl rfl
  exact sss_one (ss_if (st_W (sw_or (st_not (st_val (se_isi rfl (se_var 0) (by decide) rfl T.b_isinstance rfl T.b_tuple (by decide +kernel)))) (sw_or (st_cmp os_gt (se_callB (cs_len rfl) rfl T.b_len (by decide +kernel) (sa_cons (se_var 0) (sa_nil))) (se_gi T.c_MOST_LOG rfl)) (sw_or1 (st_not (st_val (se_callB (cs_all rfl rfl) rfl T.b_all (by decide +kernel) (sa_cons (se_lc (own := [("event", 2)]) rfl nd (si_val false rfl (se_var 0)) (blkOk_by (N := Ncheck_events) (sc := defScope scheck_events) (own := [("event", 2)]) (by decide +kernel)) (fun _ _ _ _ _ => sg_name 2 nd) (fun _ _ _ _ _ => sts_nil) (fun _ _ _ _ _ => se_def O_is_below rfl (hr.mono (by decide)) Dn.takes0 rfl (sa_cons (se_var 2) (sa_cons (se_var 1) (sa_nil))) (len_cons (len_cons (fun _ _ => len_nil))))) (sa_nil))))))))) (sss_one (ss_err 1 T.e_BadLog tk rfl)) (sss_nil))
abbrev sis_row : Stmt := top 48
abbrev Nis_row : List Str := ["thing", "k", "event"]
theorem scis_row : FnScope Nis_row ["thing", "k"] (defScope sis_row) := ⟨rfl, rfl, rfl, by decide +kernel, rfl, by decide +kernel, by decide +kernel⟩
theorem ok_is_row {f : Addr} {fd : FuncData} (T : TX K mg cl) (F : Fun K "is_row" "is_row" sis_row f fd) (O_is_below : Ok P w K mg base cl "is_below" 2 2 (fis_below)) : FnOk P w K mg base (L2.CX P w) 3 f fd ["thing", "k"] (spF K cl 2 fis_row) := by
  have nd := scis_row.nd
  refine ok_def F scis_row rfl rfl fun β cdv A outer s H E hr => ?_
  have tk := takes_of (X := cxOf (L2.CX P w) P w K mg base Nis_row "is_row" (defScope sis_row) f cdv A outer s H E) (E := E) rfl rfl rfl rfl
  exact sss_one (ss_ret (se_and (se_isi rfl (se_var 0) (by decide) rfl T.b_isinstance rfl T.b_tuple (by decide +kernel)) (se_one (se_callB (cs_all rfl rfl) rfl T.b_all (by decide +kernel) (sa_cons (se_lc (own := [("event", 2)]) rfl nd (si_val false rfl (se_var 0)) (blkOk_by (N := Nis_row) (sc := defScope sis_row) (own := [("event", 2)]) (by decide +kernel)) (fun _ _ _ _ _ => sg_name 2 nd) (fun _ _ _ _ _ => sts_nil) (fun _ _ _ _ _ => se_def O_is_below rfl (hr.mono (by decide)) Dn.takes0 rfl (sa_cons (se_var 2) (sa_cons (se_var 1) (sa_nil))) (len_cons (len_cons (fun _ _ => len_nil))))) (sa_nil))))))
abbrev scheck_machine_alone : Stmt := top 17
abbrev Ncheck_machine_alone : List Str := ["machine", "k", "n", "start", "arrows", "arrow", "at"]
theorem sccheck_machine_alone : FnScope Ncheck_machine_alone ["machine"] (defScope scheck_machine_alone) := ⟨rfl, rfl, rfl, by decide +kernel, rfl, by decide +kernel, by decide +kernel⟩
theorem ok_check_machine_alone {f : Addr} {fd : FuncData} (T : TX K mg cl) (F : Fun K "check_machine_alone" "check_machine_alone" scheck_machine_alone f fd) (O_is_arrow : Ok P w K mg base cl "is_arrow" 3 3 (fis_arrow)) (O_is_between : Ok P w K mg base cl "is_between" 3 2 (fis_between)) (O_is_set : Ok P w K mg base cl "is_set" 2 3 (fis_set)) : FnOk P w K mg base (L2.CX P w) 4 f fd ["machine"] (spF K cl 1 fcheck_machine_alone) := by
  have nd := sccheck_machine_alone.nd
  refine ok_def F sccheck_machine_alone rfl rfl fun β cdv A outer s H E hr => ?_
  have tk := takes_of (X := cxOf (L2.CX P w) P w K mg base Ncheck_machine_alone "check_machine_alone" (defScope scheck_machine_alone) f cdv A outer s H E) (E := E) rfl rfl rfl rfl
  exact sss_cons (ss_if (st_W (sw_or (st_not (st_val (se_isi rfl (se_var 0) (by decide) rfl T.b_isinstance rfl T.b_tuple (by decide +kernel)))) (sw_or1 (st_cmp (os_ne rfl hr.units) (se_callB (cs_len rfl) rfl T.b_len (by decide +kernel) (sa_cons (se_var 0) (sa_nil))) (se_int))))) (sss_one (ss_err 0 T.e_BadMachine tk rfl)) (sss_nil)) (sss_cons (ss_asg (is := [1, 2, 3, 4]) (se_var 0) (sg_tup rfl rfl (sgs_cons (sg_name 1 nd) (sgs_cons (sg_name 2 nd) (sgs_cons (sg_name 3 nd) (sgs_cons (sg_name 4 nd) (sgs_nil))))))) (sss_cons (ss_if (st_W (sw_or (st_not (st_val (se_def O_is_between rfl (hr.mono (by decide)) tk rfl (sa_cons (se_var 1) (sa_cons (se_int) (sa_cons (se_gi T.c_MOST_EVENTS rfl) (sa_nil)))) (len_cons (len_cons (len_cons (fun _ _ => len_nil))))))) (sw_or1 (st_not (st_val (se_def O_is_between rfl (hr.mono (by decide)) tk rfl (sa_cons (se_var 2) (sa_cons (se_int) (sa_cons (se_gi T.c_MOST_STATES rfl) (sa_nil)))) (len_cons (len_cons (len_cons (fun _ _ => len_nil)))))))))) (sss_one (ss_err 0 T.e_BadMachine tk rfl)) (sss_nil)) (sss_cons (ss_if (st_W (sw_or (st_not (st_val (se_def O_is_set rfl (hr.mono (by decide)) tk rfl (sa_cons (se_var 3) (sa_cons (se_var 2) (sa_nil))) (len_cons (len_cons (fun _ _ => len_nil)))))) (sw_or (st_cmp (os_eq rfl hr.units) (se_callB (cs_len rfl) rfl T.b_len (by decide +kernel) (sa_cons (se_var 3) (sa_nil))) (se_int)) (sw_or1 (st_not (st_val (se_isi rfl (se_var 4) (by decide) rfl T.b_isinstance rfl T.b_tuple (by decide +kernel)))))))) (sss_one (ss_err 0 T.e_BadMachine tk rfl)) (sss_nil)) (sss_cons (ss_if (st_not (st_val (se_callB (cs_all rfl rfl) rfl T.b_all (by decide +kernel) (sa_cons (se_lc (own := [("arrow", 5)]) rfl nd (si_val false rfl (se_var 4)) (blkOk_by (N := Ncheck_machine_alone) (sc := defScope scheck_machine_alone) (own := [("arrow", 5)]) (by decide +kernel)) (fun _ _ _ _ _ => sg_name 5 nd) (fun _ _ _ _ _ => sts_nil) (fun _ _ _ _ _ => se_def O_is_arrow rfl (hr.mono (by decide)) Dn.takes0 rfl (sa_cons (se_var 5) (sa_cons (se_var 1) (sa_cons (se_var 2) (sa_nil)))) (len_cons (len_cons (len_cons (fun _ _ => len_nil)))))) (sa_nil))))) (sss_one (ss_err 0 T.e_BadMachine tk rfl)) (sss_nil)) (sss_one (ss_if (st_not (st_val (se_callB (cs_all rfl rfl) rfl T.b_all (by decide +kernel) (sa_cons (se_lc (own := [("at", 6)]) rfl nd (si_rng2 false rfl T.b_range (sa_cons (se_int) (sa_cons (se_callB (cs_len rfl) rfl T.b_len (by decide +kernel) (sa_cons (se_var 4) (sa_nil))) (sa_nil)))) (blkOk_by (N := Ncheck_machine_alone) (sc := defScope scheck_machine_alone) (own := [("at", 6)]) (by decide +kernel)) (fun _ _ _ _ _ => sg_name 6 nd) (fun _ _ _ _ _ => sts_nil) (fun _ _ _ _ _ => se_cmp (os_lt rfl hr.units0) (se_ix (ix_seq' rfl) (se_var 4) (se_bin os_sub (se_var 6) (se_int))) (se_ix (ix_seq' rfl) (se_var 4) (se_var 6)))) (sa_nil))))) (sss_one (ss_err 0 T.e_BadMachine tk rfl)) (sss_nil)))))))
abbrev scheck_watch : Stmt := top 20
abbrev Ncheck_watch : List Str := ["machine", "watch", "row", "n", "start", "table", "chosen", "state"]
theorem sccheck_watch : FnScope Ncheck_watch ["machine", "watch"] (defScope scheck_watch) := ⟨rfl, rfl, rfl, by decide +kernel, rfl, by decide +kernel, by decide +kernel⟩
theorem ok_check_watch {f : Addr} {fd : FuncData} (T : TX K mg cl) (F : Fun K "check_watch" "check_watch" scheck_watch f fd) (O_is_below : Ok P w K mg base cl "is_below" 2 2 (fis_below)) (O_is_between : Ok P w K mg base cl "is_between" 3 2 (fis_between)) (O_is_set : Ok P w K mg base cl "is_set" 2 3 (fis_set)) : FnOk P w K mg base (L2.CX P w) 4 f fd ["machine", "watch"] (spF K cl 2 fcheck_watch) := by
  have nd := sccheck_watch.nd
  refine ok_def F sccheck_watch rfl rfl fun β cdv A outer s H E hr => ?_
  have tk := takes_of (X := cxOf (L2.CX P w) P w K mg base Ncheck_watch "check_watch" (defScope scheck_watch) f cdv A outer s H E) (E := E) rfl rfl rfl rfl
  exact sss_cons (ss_if (st_W (sw_or (st_not (st_val (se_isi rfl (se_var 1) (by decide) rfl T.b_isinstance rfl T.b_tuple (by decide +kernel)))) (sw_or (st_cmp (os_ne rfl hr.units) (se_callB (cs_len rfl) rfl T.b_len (by decide +kernel) (sa_cons (se_var 1) (sa_nil))) (se_int)) (sw_or1 (st_not (st_val (se_def O_is_between rfl (hr.mono (by decide)) tk rfl (sa_cons (se_ix (ix_seq' rfl) (se_var 1) (se_int)) (sa_cons (se_int) (sa_cons (se_gi T.c_MOST_WATCH rfl) (sa_nil)))) (len_cons (len_cons (len_cons (fun _ _ => len_nil))))))))))) (sss_one (ss_err 0 T.e_BadMachine tk rfl)) (sss_nil)) (sss_cons (ss_asg (is := [3, 4, 5, 6]) (se_var 1) (sg_tup rfl rfl (sgs_cons (sg_name 3 nd) (sgs_cons (sg_name 4 nd) (sgs_cons (sg_name 5 nd) (sgs_cons (sg_name 6 nd) (sgs_nil))))))) (sss_cons (ss_if (st_W (sw_or (st_not (st_val (se_def O_is_below rfl (hr.mono (by decide)) tk rfl (sa_cons (se_var 4) (sa_cons (se_var 3) (sa_nil))) (len_cons (len_cons (fun _ _ => len_nil)))))) (sw_or (st_not (st_val (se_isi rfl (se_var 5) (by decide) rfl T.b_isinstance rfl T.b_tuple (by decide +kernel)))) (sw_or (st_cmp (os_ne rfl hr.units) (se_callB (cs_len rfl) rfl T.b_len (by decide +kernel) (sa_cons (se_var 5) (sa_nil))) (se_var 3)) (sw_or1 (st_not (st_val (se_def O_is_set rfl (hr.mono (by decide)) tk rfl (sa_cons (se_var 6) (sa_cons (se_var 3) (sa_nil))) (len_cons (len_cons (fun _ _ => len_nil))))))))))) (sss_one (ss_err 0 T.e_BadMachine tk rfl)) (sss_nil)) (sss_one (ss_for (is := [2]) (passes_of rfl) rfl (si_val true rfl (se_var 5)) (sg_name 2 nd) (sss_one (ss_if (st_W (sw_or (st_not (st_val (se_isi rfl (se_var 2) (by decide) rfl T.b_isinstance rfl T.b_tuple (by decide +kernel)))) (sw_or (st_cmp (os_ne rfl hr.units) (se_callB (cs_len rfl) rfl T.b_len (by decide +kernel) (sa_cons (se_var 2) (sa_nil))) (se_ix (ix_seq' rfl) (se_var 0) (se_int))) (sw_or1 (st_not (st_val (se_callB (cs_all rfl rfl) rfl T.b_all (by decide +kernel) (sa_cons (se_lc (own := [("state", 7)]) rfl nd (si_val false rfl (se_var 2)) (blkOk_by (N := Ncheck_watch) (sc := defScope scheck_watch) (own := [("state", 7)]) (by decide +kernel)) (fun _ _ _ _ _ => sg_name 7 nd) (fun _ _ _ _ _ => sts_nil) (fun _ _ _ _ _ => se_def O_is_below rfl (hr.mono (by decide)) Dn.takes0 rfl (sa_cons (se_var 7) (sa_cons (se_var 3) (sa_nil))) (len_cons (len_cons (fun _ _ => len_nil))))) (sa_nil))))))))) (sss_one (ss_err 0 T.e_BadMachine tk rfl)) (sss_nil)))))))
abbrev slog_of : Stmt := top 31
abbrev Nlog_of : List Str := ["marks", "events"]
theorem sclog_of : FnScope Nlog_of ["marks", "events"] (defScope slog_of) := ⟨rfl, rfl, rfl, by decide +kernel, rfl, by decide +kernel, by decide +kernel⟩
theorem ok_log_of {f : Addr} {fd : FuncData} (T : TX K mg cl) (F : Fun K "log_of" "log_of" slog_of f fd) (O_check_events : Ok P w K mg base cl "check_events" 2 3 (fcheck_events)) (O_check_marks : Ok P w K mg base cl "check_marks" 2 3 (fcheck_marks)) (O_is_between : Ok P w K mg base cl "is_between" 3 2 (fis_between)) (O_lines_of : Ok P w K mg base cl "lines_of" 2 1 (flines_of)) : FnOk P w K mg base (L2.CX P w) 4 f fd ["marks", "events"] (spF K cl 2 flog_of) := by
  have nd := sclog_of.nd
  refine ok_def F sclog_of rfl rfl fun β cdv A outer s H E hr => ?_
  have tk := takes_of (X := cxOf (L2.CX P w) P w K mg base Nlog_of "log_of" (defScope slog_of) f cdv A outer s H E) (E := E) rfl rfl rfl rfl
  exact sss_cons (ss_if (st_W (sw_or (st_not (st_val (se_isi rfl (se_var 0) (by decide) rfl T.b_isinstance rfl T.b_tuple (by decide +kernel)))) (sw_or1 (st_not (st_val (se_def O_is_between rfl (hr.mono (by decide)) tk rfl (sa_cons (se_callB (cs_len rfl) rfl T.b_len (by decide +kernel) (sa_cons (se_var 0) (sa_nil))) (sa_cons (se_int) (sa_cons (se_gi T.c_MOST_EVENTS rfl) (sa_nil)))) (len_cons (len_cons (len_cons (fun _ _ => len_nil)))))))))) (sss_one (ss_err 0 T.e_BadMachine tk rfl)) (sss_nil)) (sss_cons (ss_expr (se_def O_check_marks rfl (hr.mono (by decide)) tk rfl (sa_cons (se_tup (sa_cons (se_callB (cs_len rfl) rfl T.b_len (by decide +kernel) (sa_cons (se_var 0) (sa_nil))) (sa_nil))) (sa_cons (se_var 0) (sa_nil))) (len_cons (len_cons (fun _ _ => len_nil))))) (sss_cons (ss_expr (se_def O_check_events rfl (hr.mono (by decide)) tk rfl (sa_cons (se_var 1) (sa_cons (se_callB (cs_len rfl) rfl T.b_len (by decide +kernel) (sa_cons (se_var 0) (sa_nil))) (sa_nil))) (len_cons (len_cons (fun _ _ => len_nil))))) (sss_one (ss_ret (se_def O_lines_of rfl (hr.mono (by decide)) tk rfl (sa_cons (se_var 0) (sa_cons (se_var 1) (sa_nil))) (len_cons (len_cons (fun _ _ => len_nil))))))))
abbrev scheck_rule : Stmt := top 58
abbrev Ncheck_rule : List Str := ["rule"]
theorem sccheck_rule : FnScope Ncheck_rule ["rule"] (defScope scheck_rule) := ⟨rfl, rfl, rfl, by decide +kernel, rfl, by decide +kernel, by decide +kernel⟩
theorem ok_check_rule {f : Addr} {fd : FuncData} (T : TX K mg cl) (F : Fun K "check_rule" "check_rule" scheck_rule f fd) (O_is_between : Ok P w K mg base cl "is_between" 3 2 (fis_between)) (O_is_set : Ok P w K mg base cl "is_set" 2 3 (fis_set)) : FnOk P w K mg base (L2.CX P w) 4 f fd ["rule"] (spF K cl 1 fcheck_rule) := by
  have nd := sccheck_rule.nd
  refine ok_def F sccheck_rule rfl rfl fun β cdv A outer s H E hr => ?_
  have tk := takes_of (X := cxOf (L2.CX P w) P w K mg base Ncheck_rule "check_rule" (defScope scheck_rule) f cdv A outer s H E) (E := E) rfl rfl rfl rfl
  exact sss_cons (ss_if (st_W (sw_or (st_not (st_val (se_isi rfl (se_var 0) (by decide) rfl T.b_isinstance rfl T.b_tuple (by decide +kernel)))) (sw_or (st_cmp (os_eq rfl hr.units) (se_callB (cs_len rfl) rfl T.b_len (by decide +kernel) (sa_cons (se_var 0) (sa_nil))) (se_int)) (sw_or1 (st_not (st_val (se_isi rfl (se_ix (ix_seq' rfl) (se_var 0) (se_int)) (by decide) rfl T.b_isinstance rfl T.b_str (by decide +kernel)))))))) (sss_one (ss_err 1 T.e_BadLog tk rfl)) (sss_nil)) (sss_cons (ss_if (st_W (sw_and (st_cmp (os_eq rfl hr.units) (se_ix (ix_seq' rfl) (se_var 0) (se_int)) (se_str)) (sw_and1 (st_cmp (os_eq rfl hr.units) (se_callB (cs_len rfl) rfl T.b_len (by decide +kernel) (sa_cons (se_var 0) (sa_nil))) (se_int))))) (sss_one (ss_retN)) (sss_nil)) (sss_cons (ss_if (st_W (sw_or (st_cmp (os_ne rfl hr.units) (se_callB (cs_len rfl) rfl T.b_len (by decide +kernel) (sa_cons (se_var 0) (sa_nil))) (se_int)) (sw_or1 (st_cmp (os_nin rfl hr.units) (se_ix (ix_seq' rfl) (se_var 0) (se_int)) (se_tup (sa_cons (se_str) (sa_cons (se_str) (sa_cons (se_str) (sa_cons (se_str) (sa_nil)))))))))) (sss_one (ss_err 1 T.e_BadLog tk rfl)) (sss_nil)) (sss_one (ss_if (st_cmp (os_eq rfl hr.units) (se_ix (ix_seq' rfl) (se_var 0) (se_int)) (se_str)) (sss_one (ss_if (st_not (st_val (se_def O_is_set rfl (hr.mono (by decide)) tk rfl (sa_cons (se_ix (ix_seq' rfl) (se_var 0) (se_int)) (sa_cons (se_bin (os_add rfl) (se_gi T.c_MOST_LINE rfl) (se_int)) (sa_nil))) (len_cons (len_cons (fun _ _ => len_nil)))))) (sss_one (ss_err 1 T.e_BadLog tk rfl)) (sss_nil))) (sss_one (ss_if (st_not (st_val (se_def O_is_between rfl (hr.mono (by decide)) tk rfl (sa_cons (se_ix (ix_seq' rfl) (se_var 0) (se_int)) (sa_cons (se_int) (sa_cons (se_gi T.c_MOST_LOG rfl) (sa_nil)))) (len_cons (len_cons (len_cons (fun _ _ => len_nil))))))) (sss_one (ss_err 1 T.e_BadLog tk rfl)) (sss_nil)))))))
abbrev scheck_both : Stmt := top 19
abbrev Ncheck_both : List Str := ["machine", "marks"]
theorem sccheck_both : FnScope Ncheck_both ["machine", "marks"] (defScope scheck_both) := ⟨rfl, rfl, rfl, by decide +kernel, rfl, by decide +kernel, by decide +kernel⟩
theorem ok_check_both {f : Addr} {fd : FuncData} (T : TX K mg cl) (F : Fun K "check_both" "check_both" scheck_both f fd) (O_check_machine_alone : Ok P w K mg base cl "check_machine_alone" 1 4 (fcheck_machine_alone)) (O_check_marks : Ok P w K mg base cl "check_marks" 2 3 (fcheck_marks)) : FnOk P w K mg base (L2.CX P w) 5 f fd ["machine", "marks"] (spF K cl 2 fcheck_both) := by
  have nd := sccheck_both.nd
  refine ok_def F sccheck_both rfl rfl fun β cdv A outer s H E hr => ?_
  have tk := takes_of (X := cxOf (L2.CX P w) P w K mg base Ncheck_both "check_both" (defScope scheck_both) f cdv A outer s H E) (E := E) rfl rfl rfl rfl
  exact sss_cons (ss_expr (se_def O_check_machine_alone rfl (hr.mono (by decide)) tk rfl (sa_cons (se_var 0) (sa_nil)) (len_cons (fun _ _ => len_nil)))) (sss_one (ss_expr (se_def O_check_marks rfl (hr.mono (by decide)) tk rfl (sa_cons (se_var 0) (sa_cons (se_var 1) (sa_nil))) (len_cons (len_cons (fun _ _ => len_nil))))))
abbrev sis_run : Stmt := top 28
abbrev Nis_run : List Str := ["machine", "events"]
theorem scis_run : FnScope Nis_run ["machine", "events"] (defScope sis_run) := ⟨rfl, rfl, rfl, by decide +kernel, rfl, by decide +kernel, by decide +kernel⟩
theorem ok_is_run {f : Addr} {fd : FuncData} (T : TX K mg cl) (F : Fun K "is_run" "is_run" sis_run f fd) (O_check_events : Ok P w K mg base cl "check_events" 2 3 (fcheck_events)) (O_check_machine_alone : Ok P w K mg base cl "check_machine_alone" 1 4 (fcheck_machine_alone)) (O_states_after : Ok P w K mg base cl "states_after" 3 1 (fstates_after)) : FnOk P w K mg base (L2.CX P w) 5 f fd ["machine", "events"] (spF K cl 2 fis_run) := by
  have nd := scis_run.nd
  refine ok_def F scis_run rfl rfl fun β cdv A outer s H E hr => ?_
  have tk := takes_of (X := cxOf (L2.CX P w) P w K mg base Nis_run "is_run" (defScope sis_run) f cdv A outer s H E) (E := E) rfl rfl rfl rfl
  exact sss_cons (ss_expr (se_def O_check_machine_alone rfl (hr.mono (by decide)) tk rfl (sa_cons (se_var 0) (sa_nil)) (len_cons (fun _ _ => len_nil)))) (sss_cons (ss_expr (se_def O_check_events rfl (hr.mono (by decide)) tk rfl (sa_cons (se_var 1) (sa_cons (se_ix (ix_seq' rfl) (se_var 0) (se_int)) (sa_nil))) (len_cons (len_cons (fun _ _ => len_nil))))) (sss_one (ss_ret (se_cmp os_gt (se_callB (cs_len rfl) rfl T.b_len (by decide +kernel) (sa_cons (se_def O_states_after rfl (hr.mono (by decide)) tk rfl (sa_cons (se_var 0) (sa_cons (se_callTy (cs_list rfl) rfl T.b_list (by decide +kernel) (sa_cons (se_ix (ix_seq' rfl) (se_var 0) (se_int)) (sa_nil))) (sa_cons (se_var 1) (sa_nil)))) (len_cons (len_cons (len_cons (fun _ _ => len_nil))))) (sa_nil))) (se_int)))))
abbrev senough : Stmt := top 54
abbrev Nenough : List Str := ["machine", "watch", "E"]
theorem scenough : FnScope Nenough ["machine", "watch", "E"] (defScope senough) := ⟨rfl, rfl, rfl, by decide +kernel, rfl, by decide +kernel, by decide +kernel⟩
theorem ok_enough {f : Addr} {fd : FuncData} (T : TX K mg cl) (F : Fun K "enough" "enough" senough f fd) (O_check_machine_alone : Ok P w K mg base cl "check_machine_alone" 1 4 (fcheck_machine_alone)) (O_check_watch : Ok P w K mg base cl "check_watch" 2 4 (fcheck_watch)) (O_is_enough : Ok P w K mg base cl "is_enough" 3 1 (fis_enough)) (O_is_set : Ok P w K mg base cl "is_set" 2 3 (fis_set)) : FnOk P w K mg base (L2.CX P w) 5 f fd ["machine", "watch", "E"] (spF K cl 3 fenough) := by
  have nd := scenough.nd
  refine ok_def F scenough rfl rfl fun β cdv A outer s H E hr => ?_
  have tk := takes_of (X := cxOf (L2.CX P w) P w K mg base Nenough "enough" (defScope senough) f cdv A outer s H E) (E := E) rfl rfl rfl rfl
  exact sss_cons (ss_expr (se_def O_check_machine_alone rfl (hr.mono (by decide)) tk rfl (sa_cons (se_var 0) (sa_nil)) (len_cons (fun _ _ => len_nil)))) (sss_cons (ss_expr (se_def O_check_watch rfl (hr.mono (by decide)) tk rfl (sa_cons (se_var 0) (sa_cons (se_var 1) (sa_nil))) (len_cons (len_cons (fun _ _ => len_nil))))) (sss_cons (ss_if (st_not (st_val (se_def O_is_set rfl (hr.mono (by decide)) tk rfl (sa_cons (se_var 2) (sa_cons (se_ix (ix_seq' rfl) (se_var 0) (se_int)) (sa_nil))) (len_cons (len_cons (fun _ _ => len_nil)))))) (sss_one (ss_err 2 T.e_OutOfRange tk rfl)) (sss_nil)) (sss_one (ss_ret (se_def O_is_enough rfl (hr.mono (by decide)) tk rfl (sa_cons (se_var 0) (sa_cons (se_var 1) (sa_cons (se_var 2) (sa_nil)))) (len_cons (len_cons (len_cons (fun _ _ => len_nil)))))))))
abbrev sleast_sets : Stmt := top 55
abbrev Nleast_sets : List Str := ["machine", "watch", "k", "sets", "size", "found", "mask", "event", "events"]
theorem scleast_sets : FnScope Nleast_sets ["machine", "watch"] (defScope sleast_sets) := ⟨rfl, rfl, rfl, by decide +kernel, rfl, by decide +kernel, by decide +kernel⟩
theorem ok_least_sets {f : Addr} {fd : FuncData} (T : TX K mg cl) (F : Fun K "least_sets" "least_sets" sleast_sets f fd) (O_check_machine_alone : Ok P w K mg base cl "check_machine_alone" 1 4 (fcheck_machine_alone)) (O_check_watch : Ok P w K mg base cl "check_watch" 2 4 (fcheck_watch)) : FnOk P w K mg base (L2.CX P w) 5 f fd ["machine", "watch"] (spF K cl 2 fleast_sets) := by
  have nd := scleast_sets.nd
  refine ok_def F scleast_sets rfl rfl fun β cdv A outer s H E hr => ?_
  have tk := takes_of (X := cxOf (L2.CX P w) P w K mg base Nleast_sets "least_sets" (defScope sleast_sets) f cdv A outer s H E) (E := E) rfl rfl rfl rfl
  exact sss_cons (ss_expr (se_def O_check_machine_alone rfl (hr.mono (by decide)) tk rfl (sa_cons (se_var 0) (sa_nil)) (len_cons (fun _ _ => len_nil)))) (sss_cons (ss_expr (se_def O_check_watch rfl (hr.mono (by decide)) tk rfl (sa_cons (se_var 0) (sa_cons (se_var 1) (sa_nil))) (len_cons (len_cons (fun _ _ => len_nil))))) (sss_cons (ss_set 2 nd (se_ix (ix_seq' rfl) (se_var 0) (se_int))) (sss_no)))
abbrev scheck_all : Stmt := top 21
abbrev Ncheck_all : List Str := ["machine", "marks", "watch"]
theorem sccheck_all : FnScope Ncheck_all ["machine", "marks", "watch"] (defScope scheck_all) := ⟨rfl, rfl, rfl, by decide +kernel, rfl, by decide +kernel, by decide +kernel⟩
theorem ok_check_all {f : Addr} {fd : FuncData} (T : TX K mg cl) (F : Fun K "check_all" "check_all" scheck_all f fd) (O_check_both : Ok P w K mg base cl "check_both" 2 5 (fcheck_both)) (O_check_watch : Ok P w K mg base cl "check_watch" 2 4 (fcheck_watch)) : FnOk P w K mg base (L2.CX P w) 6 f fd ["machine", "marks", "watch"] (spF K cl 3 fcheck_all) := by
  have nd := sccheck_all.nd
  refine ok_def F sccheck_all rfl rfl fun β cdv A outer s H E hr => ?_
  have tk := takes_of (X := cxOf (L2.CX P w) P w K mg base Ncheck_all "check_all" (defScope scheck_all) f cdv A outer s H E) (E := E) rfl rfl rfl rfl
  exact sss_cons (ss_expr (se_def O_check_both rfl (hr.mono (by decide)) tk rfl (sa_cons (se_var 0) (sa_cons (se_var 1) (sa_nil))) (len_cons (len_cons (fun _ _ => len_nil))))) (sss_one (ss_expr (se_def O_check_watch rfl (hr.mono (by decide)) tk rfl (sa_cons (se_var 0) (sa_cons (se_var 2) (sa_nil))) (len_cons (len_cons (fun _ _ => len_nil))))))
abbrev scheck_machine : Stmt := top 27
abbrev Ncheck_machine : List Str := ["machine", "marks"]
theorem sccheck_machine : FnScope Ncheck_machine ["machine", "marks"] (defScope scheck_machine) := ⟨rfl, rfl, rfl, by decide +kernel, rfl, by decide +kernel, by decide +kernel⟩
theorem ok_check_machine {f : Addr} {fd : FuncData} (T : TX K mg cl) (F : Fun K "check_machine" "check_machine" scheck_machine f fd) (O_check_both : Ok P w K mg base cl "check_both" 2 5 (fcheck_both)) : FnOk P w K mg base (L2.CX P w) 6 f fd ["machine", "marks"] (spF K cl 2 fcheck_machine) := by
  have nd := sccheck_machine.nd
  refine ok_def F sccheck_machine rfl rfl fun β cdv A outer s H E hr => ?_
  have tk := takes_of (X := cxOf (L2.CX P w) P w K mg base Ncheck_machine "check_machine" (defScope scheck_machine) f cdv A outer s H E) (E := E) rfl rfl rfl rfl
  exact sss_one (ss_expr (se_def O_check_both rfl (hr.mono (by decide)) tk rfl (sa_cons (se_var 0) (sa_cons (se_var 1) (sa_nil))) (len_cons (len_cons (fun _ _ => len_nil)))))
abbrev sis_lively : Stmt := top 34
abbrev Nis_lively : List Str := ["machine", "marks"]
theorem scis_lively : FnScope Nis_lively ["machine", "marks"] (defScope sis_lively) := ⟨rfl, rfl, rfl, by decide +kernel, rfl, by decide +kernel, by decide +kernel⟩
theorem ok_is_lively {f : Addr} {fd : FuncData} (T : TX K mg cl) (F : Fun K "is_lively" "is_lively" sis_lively f fd) (O_check_both : Ok P w K mg base cl "check_both" 2 5 (fcheck_both)) (O_is_lively_machine : Ok P w K mg base cl "is_lively_machine" 2 1 (fis_lively_machine)) : FnOk P w K mg base (L2.CX P w) 6 f fd ["machine", "marks"] (spF K cl 2 fis_lively) := by
  have nd := scis_lively.nd
  refine ok_def F scis_lively rfl rfl fun β cdv A outer s H E hr => ?_
  have tk := takes_of (X := cxOf (L2.CX P w) P w K mg base Nis_lively "is_lively" (defScope sis_lively) f cdv A outer s H E) (E := E) rfl rfl rfl rfl
  exact sss_cons (ss_expr (se_def O_check_both rfl (hr.mono (by decide)) tk rfl (sa_cons (se_var 0) (sa_cons (se_var 1) (sa_nil))) (len_cons (len_cons (fun _ _ => len_nil))))) (sss_one (ss_ret (se_def O_is_lively_machine rfl (hr.mono (by decide)) tk rfl (sa_cons (se_var 0) (sa_cons (se_var 1) (sa_nil))) (len_cons (len_cons (fun _ _ => len_nil))))))
abbrev sstates_behind : Stmt := top 35
abbrev Nstates_behind : List Str := ["machine", "marks", "log", "runs", "line", "exact", "places", "state", "_"]
theorem scstates_behind : FnScope Nstates_behind ["machine", "marks", "log"] (defScope sstates_behind) := ⟨rfl, rfl, rfl, by decide +kernel, rfl, by decide +kernel, by decide +kernel⟩
theorem ok_states_behind {f : Addr} {fd : FuncData} (T : TX K mg cl) (F : Fun K "states_behind" "states_behind" sstates_behind f fd) (O_check_both : Ok P w K mg base cl "check_both" 2 5 (fcheck_both)) (O_check_log : Ok P w K mg base cl "check_log" 1 3 (fcheck_log)) : FnOk P w K mg base (L2.CX P w) 6 f fd ["machine", "marks", "log"] (spF K cl 3 fstates_behind) := by
  have nd := scstates_behind.nd
  refine ok_def F scstates_behind rfl rfl fun β cdv A outer s H E hr => ?_
  have tk := takes_of (X := cxOf (L2.CX P w) P w K mg base Nstates_behind "states_behind" (defScope sstates_behind) f cdv A outer s H E) (E := E) rfl rfl rfl rfl
  exact sss_cons (ss_expr (se_def O_check_both rfl (hr.mono (by decide)) tk rfl (sa_cons (se_var 0) (sa_cons (se_var 1) (sa_nil))) (len_cons (len_cons (fun _ _ => len_nil))))) (sss_cons (ss_expr (se_def O_check_log rfl (hr.mono (by decide)) tk rfl (sa_cons (se_var 2) (sa_nil)) (len_cons (fun _ _ => len_nil)))) (sss_no))
abbrev sfitting_run : Stmt := top 72
abbrev Nfitting_run : List Str := ["machine", "marks", "log"]
theorem scfitting_run : FnScope Nfitting_run ["machine", "marks", "log"] (defScope sfitting_run) := ⟨rfl, rfl, rfl, by decide +kernel, rfl, by decide +kernel, by decide +kernel⟩
theorem ok_fitting_run {f : Addr} {fd : FuncData} (T : TX K mg cl) (F : Fun K "fitting_run" "fitting_run" sfitting_run f fd) (O_check_both : Ok P w K mg base cl "check_both" 2 5 (fcheck_both)) (O_check_log : Ok P w K mg base cl "check_log" 1 3 (fcheck_log)) : FnOk P w K mg base (L2.CX P w) 6 f fd ["machine", "marks", "log"] (spF K cl 3 ffitting_run) := by
  have nd := scfitting_run.nd
  refine ok_def F scfitting_run rfl rfl fun β cdv A outer s H E hr => ?_
  have tk := takes_of (X := cxOf (L2.CX P w) P w K mg base Nfitting_run "fitting_run" (defScope sfitting_run) f cdv A outer s H E) (E := E) rfl rfl rfl rfl
  exact sss_cons (ss_expr (se_def O_check_both rfl (hr.mono (by decide)) tk rfl (sa_cons (se_var 0) (sa_cons (se_var 1) (sa_nil))) (len_cons (len_cons (fun _ _ => len_nil))))) (sss_cons (ss_expr (se_def O_check_log rfl (hr.mono (by decide)) tk rfl (sa_cons (se_var 2) (sa_nil)) (len_cons (fun _ _ => len_nil)))) (sss_no))
abbrev stold : Stmt := top 44
abbrev Ntold : List Str := ["machine", "marks", "watch"]
theorem sctold : FnScope Ntold ["machine", "marks", "watch"] (defScope stold) := ⟨rfl, rfl, rfl, by decide +kernel, rfl, by decide +kernel, by decide +kernel⟩
theorem ok_told {f : Addr} {fd : FuncData} (T : TX K mg cl) (F : Fun K "told" "told" stold f fd) (O_check_all : Ok P w K mg base cl "check_all" 3 6 (fcheck_all)) : FnOk P w K mg base (L2.CX P w) 7 f fd ["machine", "marks", "watch"] (spF K cl 3 ftold) := by
  have nd := sctold.nd
  refine ok_def F sctold rfl rfl fun β cdv A outer s H E hr => ?_
  have tk := takes_of (X := cxOf (L2.CX P w) P w K mg base Ntold "told" (defScope stold) f cdv A outer s H E) (E := E) rfl rfl rfl rfl
  exact sss_cons (ss_expr (se_def O_check_all rfl (hr.mono (by decide)) tk rfl (sa_cons (se_var 0) (sa_cons (se_var 1) (sa_cons (se_var 2) (sa_nil)))) (len_cons (len_cons (len_cons (fun _ _ => len_nil)))))) (sss_no)
abbrev scheck_end : Stmt := top 47
abbrev Ncheck_end : List Str := ["machine", "marks", "watch"]
theorem sccheck_end : FnScope Ncheck_end ["machine", "marks", "watch"] (defScope scheck_end) := ⟨rfl, rfl, rfl, by decide +kernel, rfl, by decide +kernel, by decide +kernel⟩
theorem ok_check_end {f : Addr} {fd : FuncData} (T : TX K mg cl) (F : Fun K "check_end" "check_end" scheck_end f fd) (O_check_all : Ok P w K mg base cl "check_all" 3 6 (fcheck_all)) (O_is_lively_machine : Ok P w K mg base cl "is_lively_machine" 2 1 (fis_lively_machine)) (O_stays : Ok P w K mg base cl "stays" 1 1 (fstays)) : FnOk P w K mg base (L2.CX P w) 7 f fd ["machine", "marks", "watch"] (spF K cl 3 fcheck_end) := by
  have nd := sccheck_end.nd
  refine ok_def F sccheck_end rfl rfl fun β cdv A outer s H E hr => ?_
  have tk := takes_of (X := cxOf (L2.CX P w) P w K mg base Ncheck_end "check_end" (defScope scheck_end) f cdv A outer s H E) (E := E) rfl rfl rfl rfl
  exact sss_cons (ss_expr (se_def O_check_all rfl (hr.mono (by decide)) tk rfl (sa_cons (se_var 0) (sa_cons (se_var 1) (sa_cons (se_var 2) (sa_nil)))) (len_cons (len_cons (len_cons (fun _ _ => len_nil)))))) (sss_one (ss_if (st_W (sw_or (st_not (st_val (se_def O_is_lively_machine rfl (hr.mono (by decide)) tk rfl (sa_cons (se_var 0) (sa_cons (se_var 1) (sa_nil))) (len_cons (len_cons (fun _ _ => len_nil)))))) (sw_or1 (st_not (st_val (se_def O_stays rfl (hr.mono (by decide)) tk rfl (sa_cons (se_var 2) (sa_nil)) (len_cons (fun _ _ => len_nil)))))))) (sss_one (ss_err 2 T.e_OutOfRange tk rfl)) (sss_nil)))
abbrev ssecret : Stmt := top 56
abbrev Nsecret : List Str := ["machine", "marks", "watch", "answers", "found"]
theorem scsecret : FnScope Nsecret ["machine", "marks", "watch"] (defScope ssecret) := ⟨rfl, rfl, rfl, by decide +kernel, rfl, by decide +kernel, by decide +kernel⟩
theorem ok_secret {f : Addr} {fd : FuncData} (T : TX K mg cl) (F : Fun K "secret" "secret" ssecret f fd) (O_check_all : Ok P w K mg base cl "check_all" 3 6 (fcheck_all)) : FnOk P w K mg base (L2.CX P w) 7 f fd ["machine", "marks", "watch"] (spF K cl 3 fsecret) := by
  have nd := scsecret.nd
  refine ok_def F scsecret rfl rfl fun β cdv A outer s H E hr => ?_
  have tk := takes_of (X := cxOf (L2.CX P w) P w K mg base Nsecret "secret" (defScope ssecret) f cdv A outer s H E) (E := E) rfl rfl rfl rfl
  exact sss_cons (ss_expr (se_def O_check_all rfl (hr.mono (by decide)) tk rfl (sa_cons (se_var 0) (sa_cons (se_var 1) (sa_cons (se_var 2) (sa_nil)))) (len_cons (len_cons (len_cons (fun _ _ => len_nil)))))) (sss_cons (ss_if (st_cmp os_gt (se_bin (os_mul rfl) (se_ix (ix_seq' rfl) (se_var 0) (se_int)) (se_ix (ix_seq' rfl) (se_var 2) (se_int))) (se_gi T.c_MOST_FOR_SECRET rfl)) (sss_one (ss_err 0 T.e_BadMachine tk rfl)) (sss_nil)) (sss_no))
abbrev sanswer : Stmt := top 67
abbrev Nanswer : List Str := ["machine", "marks", "watch", "log", "runs"]
theorem scanswer : FnScope Nanswer ["machine", "marks", "watch", "log"] (defScope sanswer) := ⟨rfl, rfl, rfl, by decide +kernel, rfl, by decide +kernel, by decide +kernel⟩
theorem ok_answer {f : Addr} {fd : FuncData} (T : TX K mg cl) (F : Fun K "answer" "answer" sanswer f fd) (O_check_all : Ok P w K mg base cl "check_all" 3 6 (fcheck_all)) (O_check_log : Ok P w K mg base cl "check_log" 1 3 (fcheck_log)) : FnOk P w K mg base (L2.CX P w) 7 f fd ["machine", "marks", "watch", "log"] (spF K cl 4 fanswer) := by
  have nd := scanswer.nd
  refine ok_def F scanswer rfl rfl fun β cdv A outer s H E hr => ?_
  have tk := takes_of (X := cxOf (L2.CX P w) P w K mg base Nanswer "answer" (defScope sanswer) f cdv A outer s H E) (E := E) rfl rfl rfl rfl
  exact sss_cons (ss_expr (se_def O_check_all rfl (hr.mono (by decide)) tk rfl (sa_cons (se_var 0) (sa_cons (se_var 1) (sa_cons (se_var 2) (sa_nil)))) (len_cons (len_cons (len_cons (fun _ _ => len_nil)))))) (sss_cons (ss_expr (se_def O_check_log rfl (hr.mono (by decide)) tk rfl (sa_cons (se_var 3) (sa_nil)) (len_cons (fun _ _ => len_nil)))) (sss_no))
abbrev scheck_left : Stmt := top 68
abbrev Ncheck_left : List Str := ["machine", "marks", "watch", "rule", "lines", "lost"]
theorem sccheck_left : FnScope Ncheck_left ["machine", "marks", "watch", "rule", "lines", "lost"] (defScope scheck_left) := ⟨rfl, rfl, rfl, by decide +kernel, rfl, by decide +kernel, by decide +kernel⟩
theorem ok_check_left {f : Addr} {fd : FuncData} (T : TX K mg cl) (F : Fun K "check_left" "check_left" scheck_left f fd) (O_check_all : Ok P w K mg base cl "check_all" 3 6 (fcheck_all)) (O_check_log : Ok P w K mg base cl "check_log" 1 3 (fcheck_log)) (O_check_rule : Ok P w K mg base cl "check_rule" 1 4 (fcheck_rule)) (O_is_between : Ok P w K mg base cl "is_between" 3 2 (fis_between)) : FnOk P w K mg base (L2.CX P w) 7 f fd ["machine", "marks", "watch", "rule", "lines", "lost"] (spF K cl 6 fcheck_left) := by
  have nd := sccheck_left.nd
  refine ok_def F sccheck_left rfl rfl fun β cdv A outer s H E hr => ?_
  have tk := takes_of (X := cxOf (L2.CX P w) P w K mg base Ncheck_left "check_left" (defScope scheck_left) f cdv A outer s H E) (E := E) rfl rfl rfl rfl
  exact sss_cons (ss_expr (se_def O_check_all rfl (hr.mono (by decide)) tk rfl (sa_cons (se_var 0) (sa_cons (se_var 1) (sa_cons (se_var 2) (sa_nil)))) (len_cons (len_cons (len_cons (fun _ _ => len_nil)))))) (sss_cons (ss_expr (se_def O_check_rule rfl (hr.mono (by decide)) tk rfl (sa_cons (se_var 3) (sa_nil)) (len_cons (fun _ _ => len_nil)))) (sss_cons (ss_expr (se_def O_check_log rfl (hr.mono (by decide)) tk rfl (sa_cons (se_var 4) (sa_nil)) (len_cons (fun _ _ => len_nil)))) (sss_one (ss_if (st_not (st_val (se_def O_is_between rfl (hr.mono (by decide)) tk rfl (sa_cons (se_var 5) (sa_cons (se_un us_neg (se_int)) (sa_cons (se_gi T.c_MOST_LOG rfl) (sa_nil)))) (len_cons (len_cons (len_cons (fun _ _ => len_nil))))))) (sss_one (ss_err 2 T.e_OutOfRange tk rfl)) (sss_nil)))))
abbrev sis_never : Stmt := top 51
abbrev Nis_never : List Str := ["machine", "marks", "watch", "paper", "u", "v", "x", "y", "state", "seen", "part"]
theorem scis_never : FnScope Nis_never ["machine", "marks", "watch", "paper"] (defScope sis_never) := ⟨rfl, rfl, rfl, by decide +kernel, rfl, by decide +kernel, by decide +kernel⟩
theorem ok_is_never {f : Addr} {fd : FuncData} (T : TX K mg cl) (F : Fun K "is_never" "is_never" sis_never f fd) (O_along : Ok P w K mg base cl "along" 3 1 (falong)) (O_check_end : Ok P w K mg base cl "check_end" 3 7 (fcheck_end)) (O_goes_round : Ok P w K mg base cl "goes_round" 3 2 (fgoes_round)) (O_is_row : Ok P w K mg base cl "is_row" 2 3 (fis_row)) (O_lines_of : Ok P w K mg base cl "lines_of" 2 1 (flines_of)) : FnOk P w K mg base (L2.CX P w) 8 f fd ["machine", "marks", "watch", "paper"] (spF K cl 4 fis_never) := by
  have nd := scis_never.nd
  refine ok_def F scis_never rfl rfl fun β cdv A outer s H E hr => ?_
  have tk := takes_of (X := cxOf (L2.CX P w) P w K mg base Nis_never "is_never" (defScope sis_never) f cdv A outer s H E) (E := E) rfl rfl rfl rfl
  exact sss_cons (ss_expr (se_def O_check_end rfl (hr.mono (by decide)) tk rfl (sa_cons (se_var 0) (sa_cons (se_var 1) (sa_cons (se_var 2) (sa_nil)))) (len_cons (len_cons (len_cons (fun _ _ => len_nil)))))) (sss_cons (ss_if (st_W (sw_or (st_not (st_val (se_isi rfl (se_var 3) (by decide) rfl T.b_isinstance rfl T.b_tuple (by decide +kernel)))) (sw_or (st_cmp (os_ne rfl hr.units) (se_callB (cs_len rfl) rfl T.b_len (by decide +kernel) (sa_cons (se_var 3) (sa_nil))) (se_int)) (sw_or1 (st_not (st_val (se_callB (cs_all rfl rfl) rfl T.b_all (by decide +kernel) (sa_cons (se_lc (own := [("part", 10)]) rfl nd (si_val false rfl (se_var 3)) (blkOk_by (N := Nis_never) (sc := defScope sis_never) (own := [("part", 10)]) (by decide +kernel)) (fun _ _ _ _ _ => sg_name 10 nd) (fun _ _ _ _ _ => sts_nil) (fun _ _ _ _ _ => se_def O_is_row rfl (hr.mono (by decide)) Dn.takes0 rfl (sa_cons (se_var 10) (sa_cons (se_ix (ix_seq' rfl) (se_var 0) (se_int)) (sa_nil))) (len_cons (len_cons (fun _ _ => len_nil))))) (sa_nil))))))))) (sss_one (ss_ret (se_bl))) (sss_nil)) (sss_cons (ss_asg (is := [4, 5, 6, 7]) (se_var 3) (sg_tup rfl rfl (sgs_cons (sg_name 4 nd) (sgs_cons (sg_name 5 nd) (sgs_cons (sg_name 6 nd) (sgs_cons (sg_name 7 nd) (sgs_nil))))))) (sss_cons (ss_if (st_W (sw_or (st_cmp (os_eq rfl hr.units) (se_callB (cs_len rfl) rfl T.b_len (by decide +kernel) (sa_cons (se_def O_lines_of rfl (hr.mono (by decide)) tk rfl (sa_cons (se_var 1) (sa_cons (se_var 5) (sa_nil))) (len_cons (len_cons (fun _ _ => len_nil)))) (sa_nil))) (se_int)) (sw_or1 (st_cmp (os_ne rfl hr.units) (se_def O_lines_of rfl (hr.mono (by decide)) tk rfl (sa_cons (se_var 1) (sa_cons (se_var 4) (sa_nil))) (len_cons (len_cons (fun _ _ => len_nil)))) (se_def O_lines_of rfl (hr.mono (by decide)) tk rfl (sa_cons (se_var 1) (sa_cons (se_var 6) (sa_nil))) (len_cons (len_cons (fun _ _ => len_nil)))))))) (sss_one (ss_ret (se_bl))) (sss_nil)) (sss_cons (ss_if (st_W (sw_or (st_cmp (os_ne rfl hr.units) (se_def O_lines_of rfl (hr.mono (by decide)) tk rfl (sa_cons (se_var 1) (sa_cons (se_var 5) (sa_nil))) (len_cons (len_cons (fun _ _ => len_nil)))) (se_def O_lines_of rfl (hr.mono (by decide)) tk rfl (sa_cons (se_var 1) (sa_cons (se_var 7) (sa_nil))) (len_cons (len_cons (fun _ _ => len_nil))))) (sw_or (st_not (st_val (se_def O_goes_round rfl (hr.mono (by decide)) tk rfl (sa_cons (se_var 0) (sa_cons (se_var 4) (sa_cons (se_var 5) (sa_nil)))) (len_cons (len_cons (len_cons (fun _ _ => len_nil))))))) (sw_or1 (st_not (st_val (se_def O_goes_round rfl (hr.mono (by decide)) tk rfl (sa_cons (se_var 0) (sa_cons (se_var 6) (sa_cons (se_var 7) (sa_nil)))) (len_cons (len_cons (len_cons (fun _ _ => len_nil))))))))))) (sss_one (ss_ret (se_bl))) (sss_nil)) (sss_cons (ss_par 8 9 rfl nd (se_def O_along rfl (hr.mono (by decide)) tk rfl (sa_cons (se_var 2) (sa_cons (se_ix (ix_seq' rfl) (se_var 2) (se_int)) (sa_cons (se_var 6) (sa_nil)))) (len_cons (len_cons (len_cons (fun _ _ => len_nil))))) (se_lst (sa_nil))) (sss_freeze 8 (sss_cons (ss_while 1000 (passes_of rfl) (st_cmp (os_nin rfl hr.units) (se_var 8) (se_var 9)) (sss_cons (ss_if (st_cmp (os_in rfl hr.units) (se_var 8) (se_ix (ix_seq' rfl) (se_var 2) (se_int))) (sss_one (ss_ret (se_bl))) (sss_nil)) (sss_cons (ss_app 9 (se_var 8)) (sss_cons (ss_set 8 nd (se_def O_along rfl (hr.mono (by decide)) tk rfl (sa_cons (se_var 2) (sa_cons (se_var 8) (sa_cons (se_var 7) (sa_nil)))) (len_cons (len_cons (len_cons (fun _ _ => len_nil)))))) (sss_freeze 8 (sss_nil)))))) (sss_one (ss_ret (se_cmp (os_in rfl hr.units) (se_def O_along rfl (hr.mono (by decide)) tk rfl (sa_cons (se_var 2) (sa_cons (se_ix (ix_seq' rfl) (se_var 2) (se_int)) (sa_cons (se_var 4) (sa_nil)))) (len_cons (len_cons (len_cons (fun _ _ => len_nil))))) (se_ix (ix_seq' rfl) (se_var 2) (se_int))))))))))))
abbrev sanswer_left : Stmt := top 70
abbrev Nanswer_left : List Str := ["machine", "marks", "watch", "rule", "lines", "lost", "found", "waiting", "runs", "reader", "place", "_", "spot", "at"]
theorem scanswer_left : FnScope Nanswer_left ["machine", "marks", "watch", "rule", "lines", "lost"] (defScope sanswer_left) := ⟨rfl, rfl, rfl, by decide +kernel, rfl, by decide +kernel, by decide +kernel⟩
theorem ok_answer_left {f : Addr} {fd : FuncData} (T : TX K mg cl) (F : Fun K "answer_left" "answer_left" sanswer_left f fd) (O_check_left : Ok P w K mg base cl "check_left" 6 7 (fcheck_left)) (O_reader_of : Ok P w K mg base cl "reader_of" 3 1 (freader_of)) : FnOk P w K mg base (L2.CX P w) 8 f fd ["machine", "marks", "watch", "rule", "lines", "lost"] (spF K cl 6 fanswer_left) := by
  have nd := scanswer_left.nd
  refine ok_def F scanswer_left rfl rfl fun β cdv A outer s H E hr => ?_
  have tk := takes_of (X := cxOf (L2.CX P w) P w K mg base Nanswer_left "answer_left" (defScope sanswer_left) f cdv A outer s H E) (E := E) rfl rfl rfl rfl
  exact sss_cons (ss_expr (se_def O_check_left rfl (hr.mono (by decide)) tk rfl (sa_cons (se_var 0) (sa_cons (se_var 1) (sa_cons (se_var 2) (sa_cons (se_var 3) (sa_cons (se_var 4) (sa_cons (se_var 5) (sa_nil))))))) (len_cons (len_cons (len_cons (len_cons (len_cons (len_cons (fun _ _ => len_nil))))))))) (sss_no)
abbrev sn_law_told : Stmt := top 78
theorem scn_law_told : FnScope ["call", "e"] ["call"] (defScope sn_law_told) := ⟨rfl, rfl, rfl, by decide +kernel, rfl, by decide +kernel, by decide +kernel⟩
theorem tld {g CS RG : Addr} {dV kV doc pm cdv ct oc : Value} {an od : Option Addr} {osl : Array (Option Value)} (T : TX K mg cl) (lk : K.lookup g = some ⟨oc, od, .func (PySem.W.fnOf "_law_told" "_law_told" (defArgs sn_law_told) (defBody sn_law_told) (defScope sn_law_told) dV kV doc pm an cdv ct), osl⟩) (hcd : PySem.W.codeIn K cdv "_law_told" = true)
    (hm : mg "_law_told" = some (.ref g)) (hk : PySem.W.keepIn K (.ref g) = true) (hb : L2.Binds K (PySem.W.fnOf "_law_told" "_law_told" (defArgs sn_law_told) (defBody sn_law_told) (defScope sn_law_told) dV kV doc pm an cdv ct) ["call"] []) (O : Ok P w K mg base cl "_law_read" 1 13 (fn_law_read 12)) (mc : mg "ToldError" = some (.ref CS)) (mo : mg "OutOfRange" = some (.ref RG)) (hrg : Rgs K cl CS RG rg) :
    Tld P w K mg base cl "_law_told" (fn_law_read 12) rg "range" "other" 13 := by
  refine ⟨g, CS, RG, "call", defArgs sn_law_told, defBody sn_law_told, defScope sn_law_told, dV, kV, doc, pm, cdv, ct, oc, an, od, osl, ["call", "e"], hm, hk, lk, hcd, hb, scn_law_told, rfl, .inl rfl, by decide, by decide, hrg, fun X q e1 e2 e3 e4 e5 hr => ?_⟩
  subst e1 e2 e3 e4 e5
  obtain ⟨fr, fd, pn, F, h1, h2, h3⟩ := O.ex
  exact told_gives2 F (fun s => hr.deeper _) h2 h3 rfl h1 (by decide) rfl mc (by decide) rfl mo (by decide) rfl T.b_isinstance scn_law_told.nd rfl rfl (by decide) (by decide) (fun _ => rfl)
abbrev sn_law_right : Stmt := top 83
abbrev Nn_law_right : List Str := ["box", "call", "rows", "k", "bad", "row", "good", "others"]
theorem scn_law_right : FnScope Nn_law_right ["box", "call", "rows"] (defScope sn_law_right) := ⟨rfl, rfl, rfl, by decide +kernel, rfl, by decide +kernel, by decide +kernel⟩
theorem ok_n_law_right {f c Pt : Addr} {TT : List (Addr × Str)} {dV kV doc pm ct oc : Value} {an od : Option Addr} {osl : Array (Option Value)} (T : TX K mg cl) (lk : K.lookup f = some ⟨oc, od, .func (PySem.W.fnOf "_law_right" "_law_right" (defArgs sn_law_right) (defBody sn_law_right) (defScope sn_law_right) dV kV doc pm an (.ref c) ct), osl⟩) (hcd : PySem.W.codeIn K (.ref c) "_law_right" = true)
    (TO : Tld P w K mg base cl "_law_told" (fn_law_read 12) rg "range" "other" 13) (TB : LamX.TabB base mg c Pt) (hm0 : (Pt, lamQ "_law_right") ∈ TT) (hu0 : ∀ p ∈ TT, p.1 = Pt → p.2 = lamQ "_law_right") (O_n_law_draw : Ok P w K mg base cl "_law_draw" 2 1 (fn_law_draw)) (hmg : mg "_law_right" = some (.ref f)) (hkp : PySem.W.keepIn K (.ref f) = true) (hbd : Binds K (PySem.W.fnOf "_law_right" "_law_right" (defArgs sn_law_right) (defBody sn_law_right) (defScope sn_law_right) dV kV doc pm an (.ref c) ct) ["box", "call", "rows"] []) : Hof P w K mg base cl "_law_right" TT 9 15 5 bn_law_right := by
  have nd := scn_law_right.nd
  refine ⟨f, "box", "call", "rows", defArgs sn_law_right, defBody sn_law_right, defScope sn_law_right, dV, kV, doc, pm, .ref c, ct, oc, an, od, osl, Nn_law_right, hmg, hkp, lk, hcd, hbd, scn_law_right, rfl, fun A stack s3 H3 r fa β hT0 hF hP hr => ?_⟩
  have hmT := hm0
  have hu := hu0
  rw [← hT0] at hmT hu
  have tk := takes_of (X := cxOf (L2.CX P w) P w K mg base Nn_law_right "_law_right" (defScope sn_law_right) f (.ref c) A stack s3 H3 (fun _ _ _ => False)) (E := fun _ _ _ => False) rfl rfl rfl rfl
  exact sss_cons (ss_for (is := [3]) (passes_of rfl) rfl (si_rng1 true rfl T.b_range (sa_cons (se_callB (cs_len rfl) rfl T.b_len (by decide +kernel) (sa_cons (se_var 2) (sa_nil))) (sa_nil))) (sg_name 3 nd) (sss_one (ss_for (is := [4]) (passes_of rfl) rfl (si_val true rfl (se_ix (ix_seq' rfl) (se_ix (ix_seq' rfl) (se_var 2) (se_var 3)) (se_int))) (sg_name 4 nd) (sss_cons (ss_set 5 nd (se_bin (os_add rfl) (se_lc (own := [("good", 6), ("others", 7)]) rfl nd (si_val false rfl (se_sl (sl_any rfl) (se_var 2) (so_none) (so_some (se_var 3)))) (blkOk_by (N := Nn_law_right) (sc := defScope sn_law_right) (own := [("good", 6), ("others", 7)]) (by decide +kernel)) (fun _ _ _ _ _ => sg_tup rfl rfl (sgs_cons (sg_name 6 nd) (sgs_cons (sg_name 7 nd) (sgs_nil)))) (fun _ _ _ _ _ => sts_nil) (fun _ _ _ _ _ => se_var 6)) (se_lst (sa_cons (se_var 4) (sa_nil))))) (sss_cons (ss_for (is := [6, 7]) (passes_of rfl) rfl (si_val true rfl (se_sl (sl_any rfl) (se_var 2) (so_some (se_bin (os_add rfl) (se_var 3) (se_int))) (so_none))) (sg_tup rfl rfl (sgs_cons (sg_name 6 nd) (sgs_cons (sg_name 7 nd) (sgs_nil)))) (sss_one (ss_app 5 (se_ite (st_cmp (os_eq rfl hr.units) (se_def O_n_law_draw rfl (hr.mono (by decide)) tk rfl (sa_cons (se_var 0) (sa_cons (se_int) (sa_nil))) (len_cons (len_cons (fun _ _ => len_nil)))) (se_int)) (se_ix (ix_seq' rfl) (se_var 7) (se_def O_n_law_draw rfl (hr.mono (by decide)) tk rfl (sa_cons (se_var 0) (sa_cons (se_callB (cs_len rfl) rfl T.b_len (by decide +kernel) (sa_cons (se_var 7) (sa_nil))) (sa_nil))) (len_cons (len_cons (fun _ _ => len_nil))))) (se_var 6))))) (sss_freeze 5 (sss_one (ss_if (st_cmp (os_ne rfl hr.units) (se_tl2 (kr := 13) (k := 13) rfl TO (hr.mono (by decide)) (by decide) rfl TB rfl hmT hu (LamX.lamS_by (sc := defScope sn_law_right) (by decide +kernel)) rfl (fun A2 outer2 s2 H2 E2 f2 c2 hr2 un2 ho2 => se_callP (i := 1) hP hF hT0 (hr2.mono (by decide)) un2 ho2 rfl (takes_of rfl rfl rfl rfl) (sa_cons (se_var 5) (sa_nil)) (len_cons (fun _ _ => len_nil)))) (se_tup (sa_cons (se_int) (sa_cons (se_str) (sa_nil))))) (sss_one (ss_ret (se_bl))) (sss_nil))))))))) (sss_one (ss_ret (se_bl)))
abbrev slaw : Stmt := top 84
abbrev Nlaw : List Str := ["script", "box", "machine", "events", "rule", "kept", "call", "wrong", "marks", "watch", "log"]
theorem sclaw : FnScope Nlaw ["script"] (defScope slaw) := ⟨rfl, rfl, rfl, by decide +kernel, rfl, by decide +kernel, by decide +kernel⟩
theorem ok_law {A_check_machine A_is_lively A_states_behind A_fitting_run A_told A_secret : Addr} {f c Pt : Addr} {TT : List (Addr × Str)} {kV doc pm ct oc : Value} {an od : Option Addr} {osl : Array (Option Value)} (T : TX K mg cl) (lk : K.lookup f = some ⟨oc, od, .func (PySem.W.fnOf "law" "law" (defArgs slaw) (defBody slaw) (defScope slaw) .none kV doc pm an (.ref c) ct), osl⟩) (hcd : PySem.W.codeIn K (.ref c) "law" = true)
    (TO : Tld P w K mg base cl "_law_told" (fn_law_read 12) rg "range" "other" 13) (TB : LamX.TabB base mg c Pt) (hm0 : (Pt, lamQ "law") ∈ TT) (hu0 : ∀ p ∈ TT, p.1 = Pt → p.2 = lamQ "law") (O_n_law_bad_logs : Ok P w K mg base cl "_law_bad_logs" 0 1 (fn_law_bad_logs)) (O_n_law_bad_machines : Ok P w K mg base cl "_law_bad_machines" 0 1 (fn_law_bad_machines)) (O_n_law_bad_marks : Ok P w K mg base cl "_law_bad_marks" 0 1 (fn_law_bad_marks)) (O_n_law_bad_watches : Ok P w K mg base cl "_law_bad_watches" 0 1 (fn_law_bad_watches)) (O_n_law_stream : Ok P w K mg base cl "_law_stream" 2 2 (fn_law_stream)) (O_answer : Ok P w K mg base cl "answer" 4 7 (fanswer)) (O_answer_left : Ok P w K mg base cl "answer_left" 6 8 (fanswer_left)) (O_check_machine : Ok P w K mg base cl "check_machine" 2 6 (fcheck_machine)) (O_enough : Ok P w K mg base cl "enough" 3 5 (fenough)) (O_fitting_run : Ok P w K mg base cl "fitting_run" 3 6 (ffitting_run)) (O_is_lively : Ok P w K mg base cl "is_lively" 2 6 (fis_lively)) (O_is_never : Ok P w K mg base cl "is_never" 4 8 (fis_never)) (O_is_run : Ok P w K mg base cl "is_run" 2 5 (fis_run)) (O_least_sets : Ok P w K mg base cl "least_sets" 2 5 (fleast_sets)) (O_log_of : Ok P w K mg base cl "log_of" 2 4 (flog_of)) (O_secret : Ok P w K mg base cl "secret" 3 7 (fsecret)) (O_states_behind : Ok P w K mg base cl "states_behind" 3 6 (fstates_behind)) (O_told : Ok P w K mg base cl "told" 3 7 (ftold)) (M_check_machine : mg "check_machine" = some (.ref A_check_machine)) (M_is_lively : mg "is_lively" = some (.ref A_is_lively)) (M_states_behind : mg "states_behind" = some (.ref A_states_behind)) (M_fitting_run : mg "fitting_run" = some (.ref A_fitting_run)) (M_told : mg "told" = some (.ref A_told)) (M_secret : mg "secret" = some (.ref A_secret)) (OH_n_law_right : Hof P w K mg base cl "_law_right" TT 9 15 5 bn_law_right) {s : Shared} {H : Hp} {a : Addr} {ns : List Int} (e0 : L2.Env0 P w K mg base callerA [] s H) (tabs : ∀ p ∈ TT, H p.1 = some (.tbl #[])) (sq : SqL K H a (ns.map V.int)) (hl : ns.length ≤ sizeLine)
    (law : ∃ g', flaw [.lst (ns.map .int)] [] = .ok (.fz, .bl true) g') : AtGround P w (L2.CX P w) f a s H := by
  have nd := sclaw.nd
  have OF_check_machine := fns2 (k := 8) (F := [A_check_machine, A_is_lively, A_states_behind, A_fitting_run, A_told, A_secret]) (i0 := 0) (i1 := 1) O_check_machine O_is_lively M_check_machine M_is_lively (by decide) (by decide) rfl rfl
  have OF_states_behind := fns2 (k := 8) (F := [A_check_machine, A_is_lively, A_states_behind, A_fitting_run, A_told, A_secret]) (i0 := 2) (i1 := 3) O_states_behind O_fitting_run M_states_behind M_fitting_run (by decide) (by decide) rfl rfl
  have OF_told := fns2 (k := 8) (F := [A_check_machine, A_is_lively, A_states_behind, A_fitting_run, A_told, A_secret]) (i0 := 4) (i1 := 5) O_told O_secret M_told M_secret (by decide) (by decide) rfl rfl
  refine at_ground (cl := cl) (b := blaw) (TT := TT) (FF := [A_check_machine, A_is_lively, A_states_behind, A_fitting_run, A_told, A_secret]) (k := 16) lk hcd sclaw rfl ⟨rfl, by decide, by decide⟩ (fun s v => .of_eq rfl) (fun s H E hr => ?_) e0 tabs sq hl law
  have hmT := hm0
  have hu := hu0
  have hbx : (⟨none, TT, [A_check_machine, A_is_lively, A_states_behind, A_fitting_run, A_told, A_secret]⟩ : Bs).box = none := rfl
  have tk := takes_of (X := cxOf (L2.CX P w) P w K mg base Nlaw "law" (defScope slaw) f (.ref c) callerA [] s H E) (E := E) rfl rfl rfl rfl
  exact sss_cons (ss_set 1 nd (se_def O_n_law_stream rfl (hr.mono (by decide)) tk rfl (sa_cons (se_var 0) (sa_cons (se_int) (sa_nil))) (len_cons (len_cons (fun _ _ => len_nil))))) (sss_box 1 hbx fun bx => sss_cons (ss_set 2 nd (se_tup (sa_cons (se_tup (sa_cons (se_int) (sa_cons (se_int) (sa_cons (se_tup (sa_cons (se_int) (sa_nil))) (sa_cons (se_tup (sa_cons (se_tup (sa_cons (se_int) (sa_cons (se_int) (sa_cons (se_int) (sa_nil))))) (sa_cons (se_tup (sa_cons (se_int) (sa_cons (se_int) (sa_cons (se_int) (sa_nil))))) (sa_nil)))) (sa_nil)))))) (sa_cons (se_def0 O_n_law_bad_machines rfl (hr.mono (by decide)) tk rfl) (sa_nil))))) (sss_cons (ss_asg (is := [8, 9, 10]) (se_tup (sa_cons (se_tup (sa_cons (se_tup (sa_cons (se_int) (sa_cons (se_un us_neg (se_int)) (sa_nil)))) (sa_cons (se_def0 O_n_law_bad_marks rfl (hr.mono (by decide)) tk rfl) (sa_nil)))) (sa_cons (se_tup (sa_cons (se_tup (sa_cons (se_int) (sa_cons (se_int) (sa_cons (se_tup (sa_cons (se_tup (sa_cons (se_int) (sa_cons (se_int) (sa_nil)))) (sa_cons (se_tup (sa_cons (se_int) (sa_cons (se_int) (sa_nil)))) (sa_nil)))) (sa_cons (se_tup (sa_cons (se_int) (sa_nil))) (sa_nil)))))) (sa_cons (se_def0 O_n_law_bad_watches rfl (hr.mono (by decide)) tk rfl) (sa_nil)))) (sa_cons (se_tup (sa_cons (se_tup (sa_cons (se_int) (sa_cons (se_int) (sa_nil)))) (sa_cons (se_def0 O_n_law_bad_logs rfl (hr.mono (by decide)) tk rfl) (sa_nil)))) (sa_nil))))) (sg_tup rfl rfl (sgs_cons (sg_name 8 nd) (sgs_cons (sg_name 9 nd) (sgs_cons (sg_name 10 nd) (sgs_nil)))))) (sss_cons (ss_set 3 nd (se_tup (sa_cons (se_tup (sa_cons (se_int) (sa_cons (se_int) (sa_nil)))) (sa_cons (se_lst (sa_cons (se_int) (sa_cons (se_tup (sa_cons (se_int) (sa_nil))) (sa_cons (se_tup (sa_cons (se_str) (sa_nil))) (sa_cons (se_str) (sa_cons (se_tup (sa_cons (se_un us_neg (se_int)) (sa_nil))) (sa_cons (se_tup (sa_cons (se_tup (sa_cons (se_int) (sa_nil))) (sa_nil))) (sa_nil)))))))) (sa_nil))))) (sss_cons (ss_set 4 nd (se_tup (sa_cons (se_tup (sa_cons (se_str) (sa_cons (se_int) (sa_nil)))) (sa_cons (se_lst (sa_cons (se_int) (sa_cons (se_tup (sa_nil)) (sa_cons (se_tup (sa_cons (se_str) (sa_nil))) (sa_cons (se_tup (sa_cons (se_str) (sa_cons (se_int) (sa_nil)))) (sa_cons (se_tup (sa_cons (se_str) (sa_cons (se_str) (sa_nil)))) (sa_cons (se_tup (sa_cons (se_str) (sa_cons (se_tup (sa_cons (se_int) (sa_cons (se_int) (sa_nil)))) (sa_nil)))) (sa_cons (se_tup (sa_cons (se_str) (sa_cons (se_int) (sa_nil)))) (sa_cons (se_tup (sa_cons (se_str) (sa_cons (se_int) (sa_nil)))) (sa_cons (se_str) (sa_nil))))))))))) (sa_nil))))) (sss_cons (ss_set 5 nd (se_callB (cs_repr rfl rfl hr.units) rfl T.b_repr (by decide +kernel) (sa_cons (se_lst (sa_cons (se_var 2) (sa_cons (se_var 8) (sa_cons (se_var 9) (sa_nil))))) (sa_nil)))) (sss_cons (ss_forfn 6 (ns := [0, 1]) (as := [A_check_machine, A_is_lively]) (passes_of rfl) rfl (pe_lst (pa_cons (pe_glob (v := .ref A_check_machine) rfl M_check_machine rfl) (pa_cons (pe_glob (v := .ref A_is_lively) rfl M_is_lively rfl) (pa_nil)))) (fun _ _ _ h => ⟨by show 2 ≤ _; rw [sizeLine_eq]; decide, h⟩) ⟨by show 2 ≤ 1000; decide, rfl⟩ (fnix rfl) (sss_one (ss_if (st_not (st_val (se_hof (p := "row") (k := 8) OH_n_law_right rfl (hr.mono (by decide)) rfl TB rfl hmT hu (lam1_by (sc := defScope slaw) (by decide +kernel)) (by show (_ : Str) ∉ Nlaw; decide) (se_var 1) (se_lst (sa_cons (se_var 2) (sa_cons (se_var 8) (sa_nil)))) (fun β3 A3 outer3 s3 H3 E3 f3 c3 hT3 hF3 hr3 => se_callt (i := 6) OF_check_machine hF3 rfl (hr3.mono (by decide)) (takes_of rfl rfl rfl rfl) (sa_cons (se_ix (ix_seq' rfl) (se_var 11) (se_int)) (sa_cons (se_ix (ix_seq' rfl) (se_var 11) (se_int)) (sa_nil))) (len_cons (len_cons (fun _ _ => len_nil))))))) (sss_one (ss_ret (se_bl))) (sss_nil))) nd) (sss_cons (ss_if (st_not (st_val (se_hof (p := "row") (k := 8) OH_n_law_right rfl (hr.mono (by decide)) rfl TB rfl hmT hu (lam1_by (sc := defScope slaw) (by decide +kernel)) (by show (_ : Str) ∉ Nlaw; decide) (se_var 1) (se_lst (sa_cons (se_var 2) (sa_cons (se_var 3) (sa_nil)))) (fun β3 A3 outer3 s3 H3 E3 f3 c3 hT3 hF3 hr3 => se_def O_is_run rfl (hr3.mono (by decide)) (takes_of rfl rfl rfl rfl) rfl (sa_cons (se_ix (ix_seq' rfl) (se_var 11) (se_int)) (sa_cons (se_ix (ix_seq' rfl) (se_var 11) (se_int)) (sa_nil))) (len_cons (len_cons (fun _ _ => len_nil))))))) (sss_one (ss_ret (se_bl))) (sss_nil)) (sss_cons (ss_if (st_not (st_val (se_hof (p := "row") (k := 8) OH_n_law_right rfl (hr.mono (by decide)) rfl TB rfl hmT hu (lam1_by (sc := defScope slaw) (by decide +kernel)) (by show (_ : Str) ∉ Nlaw; decide) (se_var 1) (se_lst (sa_cons (se_tup (sa_cons (se_ix (ix_seq' rfl) (se_var 8) (se_int)) (sa_cons (se_lst (sa_cons (se_int) (sa_cons (se_tup (sa_nil)) (sa_cons (se_tup (sa_cons (se_int) (sa_cons (se_un us_neg (se_int)) (sa_nil)))) (sa_cons (se_tup (sa_cons (se_int) (sa_cons (se_str) (sa_nil)))) (sa_cons (se_str) (sa_cons (se_bin (os_mul rfl) (se_tup (sa_cons (se_int) (sa_nil))) (se_int)) (sa_nil)))))))) (sa_nil)))) (sa_cons (se_var 3) (sa_nil)))) (fun β3 A3 outer3 s3 H3 E3 f3 c3 hT3 hF3 hr3 => se_def O_log_of rfl (hr3.mono (by decide)) (takes_of rfl rfl rfl rfl) rfl (sa_cons (se_ix (ix_seq' rfl) (se_var 11) (se_int)) (sa_cons (se_ix (ix_seq' rfl) (se_var 11) (se_int)) (sa_nil))) (len_cons (len_cons (fun _ _ => len_nil))))))) (sss_one (ss_ret (se_bl))) (sss_nil)) (sss_cons (ss_forfn 6 (ns := [2, 3]) (as := [A_states_behind, A_fitting_run]) (passes_of rfl) rfl (pe_lst (pa_cons (pe_glob (v := .ref A_states_behind) rfl M_states_behind rfl) (pa_cons (pe_glob (v := .ref A_fitting_run) rfl M_fitting_run rfl) (pa_nil)))) (fun _ _ _ h => ⟨by show 2 ≤ _; rw [sizeLine_eq]; decide, h⟩) ⟨by show 2 ≤ 1000; decide, rfl⟩ (fnix rfl) (sss_one (ss_if (st_not (st_val (se_hof (p := "row") (k := 8) OH_n_law_right rfl (hr.mono (by decide)) rfl TB rfl hmT hu (lam1_by (sc := defScope slaw) (by decide +kernel)) (by show (_ : Str) ∉ Nlaw; decide) (se_var 1) (se_lst (sa_cons (se_var 2) (sa_cons (se_var 8) (sa_cons (se_var 10) (sa_nil))))) (fun β3 A3 outer3 s3 H3 E3 f3 c3 hT3 hF3 hr3 => se_callt (i := 6) OF_states_behind hF3 rfl (hr3.mono (by decide)) (takes_of rfl rfl rfl rfl) (sa_cons (se_ix (ix_seq' rfl) (se_var 11) (se_int)) (sa_cons (se_ix (ix_seq' rfl) (se_var 11) (se_int)) (sa_cons (se_ix (ix_seq' rfl) (se_var 11) (se_int)) (sa_nil)))) (len_cons (len_cons (len_cons (fun _ _ => len_nil)))))))) (sss_one (ss_ret (se_bl))) (sss_nil))) nd) (sss_cons (ss_if (st_not (st_val (se_hof (p := "row") (k := 8) OH_n_law_right rfl (hr.mono (by decide)) rfl TB rfl hmT hu (lam1_by (sc := defScope slaw) (by decide +kernel)) (by show (_ : Str) ∉ Nlaw; decide) (se_var 1) (se_lst (sa_cons (se_var 2) (sa_cons (se_var 8) (sa_cons (se_var 9) (sa_cons (se_var 10) (sa_nil)))))) (fun β3 A3 outer3 s3 H3 E3 f3 c3 hT3 hF3 hr3 => se_def O_answer rfl (hr3.mono (by decide)) (takes_of rfl rfl rfl rfl) rfl (sa_cons (se_ix (ix_seq' rfl) (se_var 11) (se_int)) (sa_cons (se_ix (ix_seq' rfl) (se_var 11) (se_int)) (sa_cons (se_ix (ix_seq' rfl) (se_var 11) (se_int)) (sa_cons (se_ix (ix_seq' rfl) (se_var 11) (se_int)) (sa_nil))))) (len_cons (len_cons (len_cons (len_cons (fun _ _ => len_nil))))))))) (sss_one (ss_ret (se_bl))) (sss_nil)) (sss_cons (ss_if (st_not (st_val (se_hof (p := "row") (k := 8) OH_n_law_right rfl (hr.mono (by decide)) rfl TB rfl hmT hu (lam1_by (sc := defScope slaw) (by decide +kernel)) (by show (_ : Str) ∉ Nlaw; decide) (se_var 1) (se_lst (sa_cons (se_var 2) (sa_cons (se_var 8) (sa_cons (se_var 9) (sa_cons (se_var 4) (sa_cons (se_var 10) (sa_nil))))))) (fun β3 A3 outer3 s3 H3 E3 f3 c3 hT3 hF3 hr3 => se_def O_answer_left rfl (hr3.mono (by decide)) (takes_of rfl rfl rfl rfl) rfl (sa_cons (se_ix (ix_seq' rfl) (se_var 11) (se_int)) (sa_cons (se_ix (ix_seq' rfl) (se_var 11) (se_int)) (sa_cons (se_ix (ix_seq' rfl) (se_var 11) (se_int)) (sa_cons (se_ix (ix_seq' rfl) (se_var 11) (se_int)) (sa_cons (se_ix (ix_seq' rfl) (se_var 11) (se_int)) (sa_cons (se_un us_neg (se_int)) (sa_nil))))))) (len_cons (len_cons (len_cons (len_cons (len_cons (len_cons (fun _ _ => len_nil))))))))))) (sss_one (ss_ret (se_bl))) (sss_nil)) (sss_cons (ss_forfn 6 (ns := [4, 5]) (as := [A_told, A_secret]) (passes_of rfl) rfl (pe_lst (pa_cons (pe_glob (v := .ref A_told) rfl M_told rfl) (pa_cons (pe_glob (v := .ref A_secret) rfl M_secret rfl) (pa_nil)))) (fun _ _ _ h => ⟨by show 2 ≤ _; rw [sizeLine_eq]; decide, h⟩) ⟨by show 2 ≤ 1000; decide, rfl⟩ (fnix rfl) (sss_one (ss_if (st_not (st_val (se_hof (p := "row") (k := 8) OH_n_law_right rfl (hr.mono (by decide)) rfl TB rfl hmT hu (lam1_by (sc := defScope slaw) (by decide +kernel)) (by show (_ : Str) ∉ Nlaw; decide) (se_var 1) (se_lst (sa_cons (se_var 2) (sa_cons (se_var 8) (sa_cons (se_var 9) (sa_nil))))) (fun β3 A3 outer3 s3 H3 E3 f3 c3 hT3 hF3 hr3 => se_callt (i := 6) OF_told hF3 rfl (hr3.mono (by decide)) (takes_of rfl rfl rfl rfl) (sa_cons (se_ix (ix_seq' rfl) (se_var 11) (se_int)) (sa_cons (se_ix (ix_seq' rfl) (se_var 11) (se_int)) (sa_cons (se_ix (ix_seq' rfl) (se_var 11) (se_int)) (sa_nil)))) (len_cons (len_cons (len_cons (fun _ _ => len_nil)))))))) (sss_one (ss_ret (se_bl))) (sss_nil))) nd) (sss_cons (ss_if (st_not (st_val (se_hof (p := "row") (k := 8) OH_n_law_right rfl (hr.mono (by decide)) rfl TB rfl hmT hu (lam1_by (sc := defScope slaw) (by decide +kernel)) (by show (_ : Str) ∉ Nlaw; decide) (se_var 1) (se_lst (sa_cons (se_var 2) (sa_cons (se_var 8) (sa_cons (se_var 9) (sa_nil))))) (fun β3 A3 outer3 s3 H3 E3 f3 c3 hT3 hF3 hr3 => se_def O_is_never rfl (hr3.mono (by decide)) (takes_of rfl rfl rfl rfl) rfl (sa_cons (se_ix (ix_seq' rfl) (se_var 11) (se_int)) (sa_cons (se_ix (ix_seq' rfl) (se_var 11) (se_int)) (sa_cons (se_ix (ix_seq' rfl) (se_var 11) (se_int)) (sa_cons (se_int) (sa_nil))))) (len_cons (len_cons (len_cons (len_cons (fun _ _ => len_nil))))))))) (sss_one (ss_ret (se_bl))) (sss_nil)) (sss_cons (ss_if (st_not (st_val (se_hof (p := "row") (k := 8) OH_n_law_right rfl (hr.mono (by decide)) rfl TB rfl hmT hu (lam1_by (sc := defScope slaw) (by decide +kernel)) (by show (_ : Str) ∉ Nlaw; decide) (se_var 1) (se_lst (sa_cons (se_var 2) (sa_cons (se_var 9) (sa_nil)))) (fun β3 A3 outer3 s3 H3 E3 f3 c3 hT3 hF3 hr3 => se_def O_least_sets rfl (hr3.mono (by decide)) (takes_of rfl rfl rfl rfl) rfl (sa_cons (se_ix (ix_seq' rfl) (se_var 11) (se_int)) (sa_cons (se_ix (ix_seq' rfl) (se_var 11) (se_int)) (sa_nil))) (len_cons (len_cons (fun _ _ => len_nil))))))) (sss_one (ss_ret (se_bl))) (sss_nil)) (sss_cons (ss_for (is := [7]) (passes_of rfl) rfl (si_val true rfl (se_lst (sa_cons (se_int) (sa_cons (se_tup (sa_cons (se_int) (sa_cons (se_int) (sa_nil)))) (sa_cons (se_tup (sa_cons (se_int) (sa_nil))) (sa_cons (se_tup (sa_cons (se_str) (sa_nil))) (sa_cons (se_str) (sa_nil)))))))) (sg_name 7 nd) (sss_one (ss_if (st_cmp (os_ne rfl hr.units) (se_tl (kr := 13) (k := 13) rfl TO (hr.mono (by decide)) (by decide) rfl TB rfl hmT hu (LamX.lamS_by (sc := defScope slaw) (by decide +kernel)) (fun A2 outer2 s2 H2 E2 f2 c2 hr2 => se_def O_enough rfl (hr2.mono (by decide)) (takes_of rfl rfl rfl rfl) rfl (sa_cons (se_ix (ix_seq' rfl) (se_var 2) (se_int)) (sa_cons (se_ix (ix_seq' rfl) (se_var 9) (se_int)) (sa_cons (se_var 7) (sa_nil)))) (len_cons (len_cons (len_cons (fun _ _ => len_nil)))))) (se_tup (sa_cons (se_int) (sa_cons (se_str) (sa_nil))))) (sss_one (ss_ret (se_bl))) (sss_nil)))) (sss_one (ss_ret (se_cmp (os_eq rfl hr.units) (se_callB (cs_repr rfl rfl hr.units) rfl T.b_repr (by decide +kernel) (sa_cons (se_lst (sa_cons (se_var 2) (sa_cons (se_var 8) (sa_cons (se_var 9) (sa_nil))))) (sa_nil))) (se_var 5)))))))))))))))))))
end
end K01

set_option Elab.async false
set_option linter.all false
set_option maxRecDepth 100000
set_option maxHeartbeats 4000000
namespace K01
open PySem L2 Dn
variable {g : G}
abbrev gm : D := (.tup [(.int 2), (.int 2), (.tup [(.int 0)]), (.tup [(.tup [(.int 0), (.int 0), (.int 1)]), (.tup [(.int 1), (.int 1), (.int 0)])])])
abbrev gk : D := (.tup [(.int 0), (.int (-1))])
abbrev gw : D := (.tup [(.int 2), (.int 0), (.tup [(.tup [(.int 0), (.int 1)]), (.tup [(.int 1), (.int 1)])]), (.tup [(.int 1)])])
abbrev gl : D := (.tup [(.int 0), (.int 0)])
abbrev ge : D := (.tup [(.int 0), (.int 1)])
abbrev gr : D := (.tup [(.str "last"), (.int 1)])
abbrev bm : List D := [(.int 3), (.str "m"), (.tup [(.int 2), (.int 2), (.tup [(.int 0)])]), (.tup [(.int 2), (.int 2), (.tup [(.int 0)]), (.tup [(.tup [(.int 0), (.int 0), (.int 1)]), (.tup [(.int 1), (.int 1), (.int 0)])]), (.int 1)]), (.tup [(.int 0), (.int 2), (.tup [(.int 0)]), (.tup [])]), (.tup [(.int 6), (.int 2), (.tup [(.int 0)]), (.tup [])]), (.tup [(.int 2), (.int 7), (.tup [(.int 0)]), (.tup [])]), (.tup [(.int 2), (.int 2), (.tup []), (.tup [])]), (.tup [(.int 2), (.int 2), (.tup [(.int 0), (.int 0)]), (.tup [])]), (.tup [(.int 2), (.int 2), (.tup [(.int 2)]), (.tup [])]), (.tup [(.int 2), (.int 2), (.tup [(.int 0)]), (.tup [(.tup [(.int 0), (.int 0), (.int 1)]), (.tup [(.int 0), (.int 0), (.int 1)])])]), (.tup [(.int 2), (.int 2), (.tup [(.int 0)]), (.tup [(.tup [(.int 1), (.int 0), (.int 1)]), (.tup [(.int 0), (.int 0), (.int 1)])])]), (.tup [(.int 2), (.int 2), (.tup [(.int 0)]), (.tup [(.tup [(.int 0), (.int 2), (.int 1)])])]), (.tup [(.int 2), (.int 2), (.tup [(.int 0)]), (.tup [(.tup [(.int 0), (.int 0), (.int 2)])])]), (.tup [(.int 2), (.int 2), (.tup [(.int 0)]), (.tup [(.tup [(.int 0), (.int 0)])])]), (.tup [(.int 2), (.int 2), (.tup [(.int 0)]), (.int 3)]), (.tup [(.str "2"), (.int 2), (.tup [(.int 0)]), (.tup [])]), (.tup [(.int 2), (.int 2), (.int 0), (.tup [])])]
abbrev bk : List D := [(.int 3), (.tup []), (.tup [(.int 1)]), (.tup [(.int 1), (.int 2), (.int 3)]), (.tup [(.int 1), (.int (-2))]), (.tup [(.int 1), (.int 10)]), (.tup [(.int 1), (.str "2")]), (.str "12"), (.tup [(.int 1), (.tup [(.int 2)])])]
abbrev bw : List D := [(.int 3), (.tup []), (.tup [(.int 2), (.int 0), (.tup [(.tup [(.int 0), (.int 1)]), (.tup [(.int 1), (.int 1)])])]), (.tup [(.int 0), (.int 0), (.tup []), (.tup [])]), (.tup [(.int 5), (.int 0), (.tup [(.tup [(.int 0), (.int 0)]), (.tup [(.int 0), (.int 0)]), (.tup [(.int 0), (.int 0)]), (.tup [(.int 0), (.int 0)]), (.tup [(.int 0), (.int 0)])]), (.tup [])]), (.tup [(.int 2), (.int 2), (.tup [(.tup [(.int 0), (.int 1)]), (.tup [(.int 1), (.int 1)])]), (.tup [(.int 1)])]), (.tup [(.int 2), (.int 0), (.tup [(.tup [(.int 0), (.int 1)])]), (.tup [(.int 1)])]), (.tup [(.int 2), (.int 0), (.tup [(.tup [(.int 0), (.int 1), (.int 0)]), (.tup [(.int 1), (.int 1), (.int 0)])]), (.tup [(.int 1)])]), (.tup [(.int 2), (.int 0), (.tup [(.tup [(.int 0), (.int 2)]), (.tup [(.int 1), (.int 1)])]), (.tup [(.int 1)])]), (.tup [(.int 2), (.int 0), (.tup [(.tup [(.int 0), (.int 1)]), (.tup [(.int 1), (.int 1)])]), (.tup [(.int 2)])]), (.tup [(.int 2), (.int 0), (.tup [(.tup [(.int 0), (.int 1)]), (.tup [(.int 1), (.int 1)])]), (.tup [(.int 1), (.int 0)])]), (.tup [(.int 2), (.int 0), (.int 3), (.tup [(.int 1)])]), (.tup [(.int 2), (.int 0), (.tup [(.int 0), (.int 1)]), (.tup [(.int 1)])])]
abbrev be : List D := [(.int 3), (.tup [(.int 2)]), (.tup [(.str "0")]), (.str "0"), (.tup [(.int (-1))]), (.tup [(.tup [(.int 0)])])]
abbrev br : List D := [(.int 3), (.tup []), (.tup [(.str "last")]), (.tup [(.str "last"), (.int 0)]), (.tup [(.str "first"), (.str "1")]), (.tup [(.str "only"), (.tup [(.int 1), (.int 0)])]), (.tup [(.str "all"), (.int 1)]), (.tup [(.str "some"), (.int 1)]), (.str "all")]
abbrev bk2 : List D := [(.int 3), (.tup []), (.tup [(.int 1), (.int (-2))]), (.tup [(.int 1), (.str "2")]), (.str "12"), (.tup [(.int 0), (.int 0), (.int 0), (.int 0), (.int 0), (.int 0)])]
abbrev bE : List D := [(.int 3), (.tup [(.int 1), (.int 0)]), (.tup [(.int 2)]), (.tup [(.str "0")]), (.str "0")]
abbrev z201 : D := .tup (List.replicate 201 (.int 0))
abbrev bl : List D := [(.int 3), (.str "1"), (.tup [(.int 10)]), (.tup [(.int (-1))]), (.tup [(.str "1")]), (.tup [(.tup [(.int 1)])])] ++ [z201]
theorem d_bm : fn_law_bad_machines [] g = .ok (.fr, .lst bm) g := by rfl
theorem d_bk : fn_law_bad_marks [] g = .ok (.fr, .lst bk) g := by rfl
theorem d_bw : fn_law_bad_watches [] g = .ok (.fr, .lst bw) g := by rfl
theorem d_bl : fn_law_bad_logs [] g = .ok (.fr, .lst bl) g := by rfl
theorem x_gm : fcheck_machine_alone [gm] g = .ok (.fz, .non) g := by rfl
theorem x_gk : fcheck_marks [gm, gk] g = .ok (.fz, .non) g := by rfl
theorem x_gw : fcheck_watch [gm, gw] g = .ok (.fz, .non) g := by rfl
theorem x_gl : fcheck_log [gl] g = .ok (.fz, .non) g := by rfl
theorem x_ge : fcheck_events [ge, .int 2] g = .ok (.fz, .non) g := by rfl
theorem x_gr : fcheck_rule [gr] g = .ok (.fz, .non) g := by rfl
/-- it holds of each of a written row -/
def Every {α : Type} (P : α → Prop) : List α → Prop
  | [] => True
  | x :: xs => P x ∧ Every P xs
theorem Every.of {α : Type} {P : α → Prop} : ∀ {xs : List α}, Every P xs → ∀ x ∈ xs, P x
  | _ :: _, h, _, .head _ => h.1
  | _ :: _, h, _, .tail _ m => Every.of h.2 _ m
theorem y_bm : ∀ m ∈ bm, fcheck_machine_alone [m] g = .ex 0 g := Every.of (by repeat' constructor)
theorem y_bk : ∀ m ∈ bk, fcheck_marks [gm, m] g = .ex 0 g := Every.of (by repeat' constructor)
theorem y_bw : ∀ m ∈ bw, fcheck_watch [gm, m] g = .ex 0 g := Every.of (by repeat' constructor)
theorem y_bl : ∀ m ∈ bl, fcheck_log [m] g = .ex 1 g := Every.of (by repeat' constructor)
theorem y_be : ∀ m ∈ be, fcheck_events [m, .int 2] g = .ex 1 g := Every.of (by repeat' constructor)
theorem y_br : ∀ m ∈ br, fcheck_rule [m] g = .ex 1 g := Every.of (by repeat' constructor)
end K01

set_option Elab.async false
set_option linter.all false
set_option maxRecDepth 100000
set_option maxHeartbeats 4000000
namespace K01
open PySem L2 Dn
variable {g : G}
/-! ### the drawing box -/
def Inv (g : G) : Prop := ∃ a b, g = [a, b]
theorem draw {h : Int} (h0 : 0 < h) (h1 : h < 1073741824) (I : Inv g) : ∃ v g', 0 ≤ v ∧ v < h ∧ Inv g' ∧ fn_law_draw [.box, .int h] g = .ok (.fz, .int v) g' := by
  obtain ⟨a, b, rfl⟩ := I
  have i0 : ∀ x y : Int, atI [x, y] 0 = some x := fun _ _ => rfl
  have i1 : ∀ x y : Int, atI [x, y] 1 = some y := fun _ _ => rfl
  have j0 : ∀ x y : Int, ixN [x, y].length 0 = some 0 := fun _ _ => rfl
  have j1 : ∀ x y : Int, ixN [x, y].length 1 = some 1 := fun _ _ => rfl
  have k7 : (0 : Int) < 7 ∧ (7 : Int) < 1073741824 := by decide
  by_cases ha : 0 < a
  · refine ⟨a % h, [a / h, b], Int.emod_nonneg _ (by omega), Int.emod_lt_of_pos _ h0, ⟨_, _, rfl⟩, ?_⟩
    unfold fn_law_draw bn_law_draw
    simp only [e_var, e_lit, e_2, k2_eq, k2'_eq, e_1, k1_eq, e_tv, ktv_eq, e_not, knot_eq, e_and, kand_t, kand_f, e_or, kor_t, kor_f, e_andv, kandv_t, kandv_f, e_orv, korv_t, korv_f, e_notv, knotv_eq, e_ite, kite_t, kite_f, e_nil, e_cons, kcons_eq, kcons'_eq, kval_some, e_tup, ktup_eq, e_lst, klst_eq, mtup0, mtup1, mtup2, mtup3, mtup4, mtup5, mtup6, mlst0, mlst1, mlst2, mlst3, mlst5, mlst6, e_prim, kprim_eq, e_call, kcall_eq, mcall_eq, e_isi, kisi_eq, misi_eq, e_part, kpart_eq, e_nop, e_sl, ksl_eq, ksl2_eq, ksl3_eq, e_chain, kch_eq, kch1_eq, kch2_t, kch2_f, kch3_eq, e_bix, kbix_eq, kbix1_eq, kbix2_eq, e_skip, e_brk, e_cnt, e_retN, e_raise, e_seq, kseq_nx, kseq_rt, kseq_bk, kseq_ct, e_drop, kdrop_eq, e_ret, kret_fz, kret_fr, e_retv, kretv_fz, kretv_ow, e_if, kif_t, kif_f, e_set, kset_fz, kset_fr, e_freeze, kfreeze_ow, kfreeze_fz, e_par, kpar_eq, kpar2_eq, mpar_eq, sl_fz, sl_fr, e_par3, kpar3_eq, mpar3_eq, e_for, kfor_eq, e_fun, kfun_nx, kfun_fz, kfun_fr, kfun_ex, kvar_fz, kvar_ow, kopt_some, e_seti, kseti_ow, kseti_box, ksb_eq, msb_eq, kso_fz, kso_fr, mso_eq, e_app, kapp_eq, kapp'_fz, kapp'_fr, e_pop, kpop_eq, mpop_eq, e_asg, kasg_fz, kasg_fr, masg_eq, e_gname, e_gnil, e_gcons, e_seqv, kseqv_l, kseqv_t, kseqv_f, kseqv_b, klc'_eq, klc_eq, e_lc, e_rng1, e_rng2, e_rng3, e_enum, kenum_t, kenum_l, kenum_f, e_lrng, klrng_eq, e_trng, ktrng_eq, e_ss, e_lc2, klc2_eq, e_sd2, ksd2_eq, Re.bind_ok, Re.bind_ex, vals_nil, vals_fz, vals_fr, List.getElem?_cons_zero, List.getElem?_cons_succ, List.set_cons_zero, List.set_cons_succ, List.map_cons, List.map_nil, List.replicate_succ, List.replicate_zero, List.cons_append, List.nil_append, Option.map_some, Option.map_none, Option.bind_some, noex_ok, wipeE_nil, wipeE_cons, osub_ii, oadd_ii, olt_ii, ole_ii, ogt_ii, oge_ii, oneg_i, olen_t, olen_l, otuple_t, otuple_l, olist_t, olist_l, oint_i, oabs_i, is_nn, is_in, is_sn, is_tn, is_ln, is_bn, is_nb, is_ib, is_sb, is_tb, is_lb, is_bb, isnt_n, isnt_t, isnt_i, isnt_l, ty_n, ty_b, ty_i, ty_s, ty_t, ty_l, oix_t0, oix_t1, oix_t2, oeq_ii, oeq_ss, one_ii, sub_ii, sub_ib, sub_bi, sub_is, sub_it, sub_il, sub_si, sub_ss, sub_st, sub_sl, sub_sb, sub_ti, sub_ts, sub_tt, sub_tl, sub_tb, sub_li, sub_ls, sub_lt, sub_ll, sub_ni, sub_nt, i0, j0, ha, decide_true, ofdiv_ii ⟨h0, h1⟩, omod_ii h0]
  · refine ⟨69621 * b % 2147483647 / 7 % h, [a, 69621 * b % 2147483647], Int.emod_nonneg _ (by omega), Int.emod_lt_of_pos _ h0, ⟨_, _, rfl⟩, ?_⟩
    unfold fn_law_draw bn_law_draw
    simp only [e_var, e_lit, e_2, k2_eq, k2'_eq, e_1, k1_eq, e_tv, ktv_eq, e_not, knot_eq, e_and, kand_t, kand_f, e_or, kor_t, kor_f, e_andv, kandv_t, kandv_f, e_orv, korv_t, korv_f, e_notv, knotv_eq, e_ite, kite_t, kite_f, e_nil, e_cons, kcons_eq, kcons'_eq, kval_some, e_tup, ktup_eq, e_lst, klst_eq, mtup0, mtup1, mtup2, mtup3, mtup4, mtup5, mtup6, mlst0, mlst1, mlst2, mlst3, mlst5, mlst6, e_prim, kprim_eq, e_call, kcall_eq, mcall_eq, e_isi, kisi_eq, misi_eq, e_part, kpart_eq, e_nop, e_sl, ksl_eq, ksl2_eq, ksl3_eq, e_chain, kch_eq, kch1_eq, kch2_t, kch2_f, kch3_eq, e_bix, kbix_eq, kbix1_eq, kbix2_eq, e_skip, e_brk, e_cnt, e_retN, e_raise, e_seq, kseq_nx, kseq_rt, kseq_bk, kseq_ct, e_drop, kdrop_eq, e_ret, kret_fz, kret_fr, e_retv, kretv_fz, kretv_ow, e_if, kif_t, kif_f, e_set, kset_fz, kset_fr, e_freeze, kfreeze_ow, kfreeze_fz, e_par, kpar_eq, kpar2_eq, mpar_eq, sl_fz, sl_fr, e_par3, kpar3_eq, mpar3_eq, e_for, kfor_eq, e_fun, kfun_nx, kfun_fz, kfun_fr, kfun_ex, kvar_fz, kvar_ow, kopt_some, e_seti, kseti_ow, kseti_box, ksb_eq, msb_eq, kso_fz, kso_fr, mso_eq, e_app, kapp_eq, kapp'_fz, kapp'_fr, e_pop, kpop_eq, mpop_eq, e_asg, kasg_fz, kasg_fr, masg_eq, e_gname, e_gnil, e_gcons, e_seqv, kseqv_l, kseqv_t, kseqv_f, kseqv_b, klc'_eq, klc_eq, e_lc, e_rng1, e_rng2, e_rng3, e_enum, kenum_t, kenum_l, kenum_f, e_lrng, klrng_eq, e_trng, ktrng_eq, e_ss, e_lc2, klc2_eq, e_sd2, ksd2_eq, Re.bind_ok, Re.bind_ex, vals_nil, vals_fz, vals_fr, List.getElem?_cons_zero, List.getElem?_cons_succ, List.set_cons_zero, List.set_cons_succ, List.map_cons, List.map_nil, List.replicate_succ, List.replicate_zero, List.cons_append, List.nil_append, Option.map_some, Option.map_none, Option.bind_some, noex_ok, wipeE_nil, wipeE_cons, osub_ii, oadd_ii, olt_ii, ole_ii, ogt_ii, oge_ii, oneg_i, olen_t, olen_l, otuple_t, otuple_l, olist_t, olist_l, oint_i, oabs_i, is_nn, is_in, is_sn, is_tn, is_ln, is_bn, is_nb, is_ib, is_sb, is_tb, is_lb, is_bb, isnt_n, isnt_t, isnt_i, isnt_l, ty_n, ty_b, ty_i, ty_s, ty_t, ty_l, oix_t0, oix_t1, oix_t2, oeq_ii, oeq_ss, one_ii, sub_ii, sub_ib, sub_bi, sub_is, sub_it, sub_il, sub_si, sub_ss, sub_st, sub_sl, sub_sb, sub_ti, sub_ts, sub_tt, sub_tl, sub_tb, sub_li, sub_ls, sub_lt, sub_ll, sub_ni, sub_nt, i0, i1, j0, j1, ha, decide_false, ofdiv_ii k7, omod_ii h0, omul_l k69, omod_ii (show (0 : Int) < 2147483647 by decide)]
theorem cell_ok (ns : List Int) : ∃ a : Int, ∀ g : G, fn_law_cell [.lst (ns.map .int), .int 0] g = .ok (.fz, .int a) g := by
  unfold fn_law_cell bn_law_cell
  cases ns with
  | nil =>
    refine ⟨0, fun g => ?_⟩
    have hc : ((0 : Int) < ((([] : List D).length : Nat) : Int)) = False := by simp
    simp only [e_var, e_lit, e_2, k2_eq, k2'_eq, e_1, k1_eq, e_tv, ktv_eq, e_not, knot_eq, e_and, kand_t, kand_f, e_or, kor_t, kor_f, e_andv, kandv_t, kandv_f, e_orv, korv_t, korv_f, e_notv, knotv_eq, e_ite, kite_t, kite_f, e_nil, e_cons, kcons_eq, kcons'_eq, kval_some, e_tup, ktup_eq, e_lst, klst_eq, mtup0, mtup1, mtup2, mtup3, mtup4, mtup5, mtup6, mlst0, mlst1, mlst2, mlst3, mlst5, mlst6, e_prim, kprim_eq, e_call, kcall_eq, mcall_eq, e_isi, kisi_eq, misi_eq, e_part, kpart_eq, e_nop, e_sl, ksl_eq, ksl2_eq, ksl3_eq, e_chain, kch_eq, kch1_eq, kch2_t, kch2_f, kch3_eq, e_bix, kbix_eq, kbix1_eq, kbix2_eq, e_skip, e_brk, e_cnt, e_retN, e_raise, e_seq, kseq_nx, kseq_rt, kseq_bk, kseq_ct, e_drop, kdrop_eq, e_ret, kret_fz, kret_fr, e_retv, kretv_fz, kretv_ow, e_if, kif_t, kif_f, e_set, kset_fz, kset_fr, e_freeze, kfreeze_ow, kfreeze_fz, e_par, kpar_eq, kpar2_eq, mpar_eq, sl_fz, sl_fr, e_par3, kpar3_eq, mpar3_eq, e_for, kfor_eq, e_fun, kfun_nx, kfun_fz, kfun_fr, kfun_ex, kvar_fz, kvar_ow, kopt_some, e_seti, kseti_ow, kseti_box, ksb_eq, msb_eq, kso_fz, kso_fr, mso_eq, e_app, kapp_eq, kapp'_fz, kapp'_fr, e_pop, kpop_eq, mpop_eq, e_asg, kasg_fz, kasg_fr, masg_eq, e_gname, e_gnil, e_gcons, e_seqv, kseqv_l, kseqv_t, kseqv_f, kseqv_b, klc'_eq, klc_eq, e_lc, e_rng1, e_rng2, e_rng3, e_enum, kenum_t, kenum_l, kenum_f, e_lrng, klrng_eq, e_trng, ktrng_eq, e_ss, e_lc2, klc2_eq, e_sd2, ksd2_eq, Re.bind_ok, Re.bind_ex, vals_nil, vals_fz, vals_fr, List.getElem?_cons_zero, List.getElem?_cons_succ, List.set_cons_zero, List.set_cons_succ, List.map_cons, List.map_nil, List.replicate_succ, List.replicate_zero, List.cons_append, List.nil_append, Option.map_some, Option.map_none, Option.bind_some, noex_ok, wipeE_nil, wipeE_cons, osub_ii, oadd_ii, olt_ii, ole_ii, ogt_ii, oge_ii, oneg_i, olen_t, olen_l, otuple_t, otuple_l, olist_t, olist_l, oint_i, oabs_i, is_nn, is_in, is_sn, is_tn, is_ln, is_bn, is_nb, is_ib, is_sb, is_tb, is_lb, is_bb, isnt_n, isnt_t, isnt_i, isnt_l, ty_n, ty_b, ty_i, ty_s, ty_t, ty_l, oix_t0, oix_t1, oix_t2, oeq_ii, oeq_ss, one_ii, sub_ii, sub_ib, sub_bi, sub_is, sub_it, sub_il, sub_si, sub_ss, sub_st, sub_sl, sub_sb, sub_ti, sub_ts, sub_tt, sub_tl, sub_tb, sub_li, sub_ls, sub_lt, sub_ll, sub_ni, sub_nt, hc, decide_false]
  | cons n ns =>
    refine ⟨if n < 0 then -n else n, fun g => ?_⟩
    have hc : ((0 : Int) < (((D.int n :: ns.map D.int).length : Nat) : Int)) = True := by simp
    have hx : oix (.lst (D.int n :: ns.map D.int)) (.int 0) = some (.fz, .int n) := by
      show (atI (D.int n :: ns.map D.int) ((0 : Nat) : Int)).map _ = _
      rw [atI_n (by simp)]; rfl
    simp only [e_var, e_lit, e_2, k2_eq, k2'_eq, e_1, k1_eq, e_tv, ktv_eq, e_not, knot_eq, e_and, kand_t, kand_f, e_or, kor_t, kor_f, e_andv, kandv_t, kandv_f, e_orv, korv_t, korv_f, e_notv, knotv_eq, e_ite, kite_t, kite_f, e_nil, e_cons, kcons_eq, kcons'_eq, kval_some, e_tup, ktup_eq, e_lst, klst_eq, mtup0, mtup1, mtup2, mtup3, mtup4, mtup5, mtup6, mlst0, mlst1, mlst2, mlst3, mlst5, mlst6, e_prim, kprim_eq, e_call, kcall_eq, mcall_eq, e_isi, kisi_eq, misi_eq, e_part, kpart_eq, e_nop, e_sl, ksl_eq, ksl2_eq, ksl3_eq, e_chain, kch_eq, kch1_eq, kch2_t, kch2_f, kch3_eq, e_bix, kbix_eq, kbix1_eq, kbix2_eq, e_skip, e_brk, e_cnt, e_retN, e_raise, e_seq, kseq_nx, kseq_rt, kseq_bk, kseq_ct, e_drop, kdrop_eq, e_ret, kret_fz, kret_fr, e_retv, kretv_fz, kretv_ow, e_if, kif_t, kif_f, e_set, kset_fz, kset_fr, e_freeze, kfreeze_ow, kfreeze_fz, e_par, kpar_eq, kpar2_eq, mpar_eq, sl_fz, sl_fr, e_par3, kpar3_eq, mpar3_eq, e_for, kfor_eq, e_fun, kfun_nx, kfun_fz, kfun_fr, kfun_ex, kvar_fz, kvar_ow, kopt_some, e_seti, kseti_ow, kseti_box, ksb_eq, msb_eq, kso_fz, kso_fr, mso_eq, e_app, kapp_eq, kapp'_fz, kapp'_fr, e_pop, kpop_eq, mpop_eq, e_asg, kasg_fz, kasg_fr, masg_eq, e_gname, e_gnil, e_gcons, e_seqv, kseqv_l, kseqv_t, kseqv_f, kseqv_b, klc'_eq, klc_eq, e_lc, e_rng1, e_rng2, e_rng3, e_enum, kenum_t, kenum_l, kenum_f, e_lrng, klrng_eq, e_trng, ktrng_eq, e_ss, e_lc2, klc2_eq, e_sd2, ksd2_eq, Re.bind_ok, Re.bind_ex, vals_nil, vals_fz, vals_fr, List.getElem?_cons_zero, List.getElem?_cons_succ, List.set_cons_zero, List.set_cons_succ, List.map_cons, List.map_nil, List.replicate_succ, List.replicate_zero, List.cons_append, List.nil_append, Option.map_some, Option.map_none, Option.bind_some, noex_ok, wipeE_nil, wipeE_cons, osub_ii, oadd_ii, olt_ii, ole_ii, ogt_ii, oge_ii, oneg_i, olen_t, olen_l, otuple_t, otuple_l, olist_t, olist_l, oint_i, oabs_i, is_nn, is_in, is_sn, is_tn, is_ln, is_bn, is_nb, is_ib, is_sb, is_tb, is_lb, is_bb, isnt_n, isnt_t, isnt_i, isnt_l, ty_n, ty_b, ty_i, ty_s, ty_t, ty_l, oix_t0, oix_t1, oix_t2, oeq_ii, oeq_ss, one_ii, sub_ii, sub_ib, sub_bi, sub_is, sub_it, sub_il, sub_si, sub_ss, sub_st, sub_sl, sub_sb, sub_ti, sub_ts, sub_tt, sub_tl, sub_tb, sub_li, sub_ls, sub_lt, sub_ll, sub_ni, sub_nt, hc, decide_true, hx]
theorem stream_ok (ns : List Int) : ∃ a b : Int, ∀ g : G, fn_law_stream [.lst (ns.map .int), .int 0] g = .ok (.fr, .lst [.int a, .int b]) g := by
  obtain ⟨a, ha⟩ := cell_ok ns
  refine ⟨a, 1 + 48271 * a % 2147483647, fun g => ?_⟩
  unfold fn_law_stream bn_law_stream
  have k48 : (-(2 : Int) ^ 64 < 48271 ∧ (48271 : Int) < 2 ^ 64) := by decide
  simp only [e_var, e_lit, e_2, k2_eq, k2'_eq, e_1, k1_eq, e_tv, ktv_eq, e_not, knot_eq, e_and, kand_t, kand_f, e_or, kor_t, kor_f, e_andv, kandv_t, kandv_f, e_orv, korv_t, korv_f, e_notv, knotv_eq, e_ite, kite_t, kite_f, e_nil, e_cons, kcons_eq, kcons'_eq, kval_some, e_tup, ktup_eq, e_lst, klst_eq, mtup0, mtup1, mtup2, mtup3, mtup4, mtup5, mtup6, mlst0, mlst1, mlst2, mlst3, mlst5, mlst6, e_prim, kprim_eq, e_call, kcall_eq, mcall_eq, e_isi, kisi_eq, misi_eq, e_part, kpart_eq, e_nop, e_sl, ksl_eq, ksl2_eq, ksl3_eq, e_chain, kch_eq, kch1_eq, kch2_t, kch2_f, kch3_eq, e_bix, kbix_eq, kbix1_eq, kbix2_eq, e_skip, e_brk, e_cnt, e_retN, e_raise, e_seq, kseq_nx, kseq_rt, kseq_bk, kseq_ct, e_drop, kdrop_eq, e_ret, kret_fz, kret_fr, e_retv, kretv_fz, kretv_ow, e_if, kif_t, kif_f, e_set, kset_fz, kset_fr, e_freeze, kfreeze_ow, kfreeze_fz, e_par, kpar_eq, kpar2_eq, mpar_eq, sl_fz, sl_fr, e_par3, kpar3_eq, mpar3_eq, e_for, kfor_eq, e_fun, kfun_nx, kfun_fz, kfun_fr, kfun_ex, kvar_fz, kvar_ow, kopt_some, e_seti, kseti_ow, kseti_box, ksb_eq, msb_eq, kso_fz, kso_fr, mso_eq, e_app, kapp_eq, kapp'_fz, kapp'_fr, e_pop, kpop_eq, mpop_eq, e_asg, kasg_fz, kasg_fr, masg_eq, e_gname, e_gnil, e_gcons, e_seqv, kseqv_l, kseqv_t, kseqv_f, kseqv_b, klc'_eq, klc_eq, e_lc, e_rng1, e_rng2, e_rng3, e_enum, kenum_t, kenum_l, kenum_f, e_lrng, klrng_eq, e_trng, ktrng_eq, e_ss, e_lc2, klc2_eq, e_sd2, ksd2_eq, Re.bind_ok, Re.bind_ex, vals_nil, vals_fz, vals_fr, List.getElem?_cons_zero, List.getElem?_cons_succ, List.set_cons_zero, List.set_cons_succ, List.map_cons, List.map_nil, List.replicate_succ, List.replicate_zero, List.cons_append, List.nil_append, Option.map_some, Option.map_none, Option.bind_some, noex_ok, wipeE_nil, wipeE_cons, osub_ii, oadd_ii, olt_ii, ole_ii, ogt_ii, oge_ii, oneg_i, olen_t, olen_l, otuple_t, otuple_l, olist_t, olist_l, oint_i, oabs_i, is_nn, is_in, is_sn, is_tn, is_ln, is_bn, is_nb, is_ib, is_sb, is_tb, is_lb, is_bb, isnt_n, isnt_t, isnt_i, isnt_l, ty_n, ty_b, ty_i, ty_s, ty_t, ty_l, oix_t0, oix_t1, oix_t2, oeq_ii, oeq_ss, one_ii, sub_ii, sub_ib, sub_bi, sub_is, sub_it, sub_il, sub_si, sub_ss, sub_st, sub_sl, sub_sb, sub_ti, sub_ts, sub_tt, sub_tl, sub_tb, sub_li, sub_ls, sub_lt, sub_ll, sub_ni, sub_nt, ha, omul_l k48, omod_ii (show (0 : Int) < 2147483647 by decide)]
/-! ### what is drawn and asked: each bad part in its place -/
theorem forL_inv {f : D → Dn.Env → G → Re Fl} (P : List D → Dn.Env → G → Prop) : ∀ (suf pre : List D), (∀ a d b, pre ++ suf = a ++ d :: b → ∀ ρ g, P a ρ g → ∃ ρ' g', f d ρ g = .ok (.nx ρ') g' ∧ P (a ++ [d]) ρ' g') → ∀ ρ g, P pre ρ g → ∃ ρ' g', forL f suf ρ g = .ok (.nx ρ') g' ∧ P (pre ++ suf) ρ' g'
  | [], pre, _, ρ, g, h => ⟨ρ, g, rfl, by rw [List.append_nil]; exact h⟩
  | d :: suf, pre, hf, ρ, g, h => by
    obtain ⟨ρ1, g1, e1, h1⟩ := hf pre d suf rfl ρ g h
    obtain ⟨ρ2, g2, e2, h2⟩ := forL_inv P suf (pre ++ [d]) (fun a d' b e => hf a d' b (by rw [← e, List.append_assoc]; rfl)) ρ1 g1 h1
    refine ⟨ρ2, g2, ?_, by rw [List.append_assoc] at h2; exact h2⟩
    rw [forL_nx e1]; exact e2
abbrev Part := D × List D
def mk (p : Part) : D := .tup [p.1, .lst p.2]
/-- the answer to the row is an own error, not the range's -/
def Wrong (r : DF) (row : List D) : Prop := ∀ g : G, r [.lst row] g = .ex 0 g ∨ r [.lst row] g = .ex 1 g
theorem oix_l {xs : List D} {k : Nat} {d : D} (h : xs[k]? = some d) : oix (.lst xs) (.int (k : Int)) = some (.fz, d) := by
  obtain ⟨hl, e⟩ := List.getElem?_eq_some_iff.mp h
  show (atI xs ((k : Nat) : Int)).map _ = _
  rw [atI_n hl, e]; rfl
theorem F1_ok {r : DF} {p : Part} {R : List D} {k : Int} {bad : D} {acc : List D} {s6 s7 : Sl} (hp : 0 < p.2.length ∧ p.2.length < 1000) (I : Inv g) (hl : acc.length < 1000) :
    ∃ x g', Inv g' ∧ fbody (gtup 2 (gcons (gname 6) (gcons (gname 7) (gnil)))) (bn_law_right_F1 r) (mk p) [.fz .box, .rf 0, .fz (.lst R), .fz (.int k), .fz bad, .ow (.lst acc), s6, s7] g
      = .ok (.nx [.fz .box, .rf 0, .fz (.lst R), .fz (.int k), .fz bad, .ow (.lst (acc ++ [x])), .fz p.1, .fz (.lst p.2)]) g' := by
  obtain ⟨go, ot⟩ := p
  dsimp only at hp ⊢
  have hl' : acc.length < 100000 := by omega
  rw [fbody_eq (ρ' := [.fz .box, .rf 0, .fz (.lst R), .fz (.int k), .fz bad, .ow (.lst acc), .fz go, .fz (.lst ot)]) rfl]
  obtain ⟨v, g1, v0, v1, I1, e1⟩ := draw (h := 2) (by decide) (by decide) I
  unfold bn_law_right_F1
  by_cases hv : v = 0
  · obtain ⟨u, g2, u0, u1, I2, e2⟩ := draw (h := (ot.length : Int)) (by omega) (by omega) I1
    have hx : oix (.lst ot) (.int u) = some (.fz, ot[u.toNat]'(by omega)) := by
      have := oix_l (xs := ot) (k := u.toNat) (d := ot[u.toNat]'(by omega)) (List.getElem?_eq_getElem (by omega))
      rw [Int.toNat_of_nonneg u0] at this
      exact this
    refine ⟨ot[u.toNat]'(by omega), g2, I2, ?_⟩
    simp only [e_var, e_lit, e_2, k2_eq, k2'_eq, e_1, k1_eq, e_tv, ktv_eq, e_not, knot_eq, e_and, kand_t, kand_f, e_or, kor_t, kor_f, e_andv, kandv_t, kandv_f, e_orv, korv_t, korv_f, e_notv, knotv_eq, e_ite, kite_t, kite_f, e_nil, e_cons, kcons_eq, kcons'_eq, kval_some, e_tup, ktup_eq, e_lst, klst_eq, mtup0, mtup1, mtup2, mtup3, mtup4, mtup5, mtup6, mlst0, mlst1, mlst2, mlst3, mlst5, mlst6, e_prim, kprim_eq, e_call, kcall_eq, mcall_eq, e_isi, kisi_eq, misi_eq, e_part, kpart_eq, e_nop, e_sl, ksl_eq, ksl2_eq, ksl3_eq, e_chain, kch_eq, kch1_eq, kch2_t, kch2_f, kch3_eq, e_bix, kbix_eq, kbix1_eq, kbix2_eq, e_skip, e_brk, e_cnt, e_retN, e_raise, e_seq, kseq_nx, kseq_rt, kseq_bk, kseq_ct, e_drop, kdrop_eq, e_ret, kret_fz, kret_fr, e_retv, kretv_fz, kretv_ow, e_if, kif_t, kif_f, e_set, kset_fz, kset_fr, e_freeze, kfreeze_ow, kfreeze_fz, e_par, kpar_eq, kpar2_eq, mpar_eq, sl_fz, sl_fr, e_par3, kpar3_eq, mpar3_eq, e_for, kfor_eq, e_fun, kfun_nx, kfun_fz, kfun_fr, kfun_ex, kvar_fz, kvar_ow, kopt_some, e_seti, kseti_ow, kseti_box, ksb_eq, msb_eq, kso_fz, kso_fr, mso_eq, e_app, kapp_eq, kapp'_fz, kapp'_fr, e_pop, kpop_eq, mpop_eq, e_asg, kasg_fz, kasg_fr, masg_eq, e_gname, e_gnil, e_gcons, e_seqv, kseqv_l, kseqv_t, kseqv_f, kseqv_b, klc'_eq, klc_eq, e_lc, e_rng1, e_rng2, e_rng3, e_enum, kenum_t, kenum_l, kenum_f, e_lrng, klrng_eq, e_trng, ktrng_eq, e_ss, e_lc2, klc2_eq, e_sd2, ksd2_eq, Re.bind_ok, Re.bind_ex, vals_nil, vals_fz, vals_fr, List.getElem?_cons_zero, List.getElem?_cons_succ, List.set_cons_zero, List.set_cons_succ, List.map_cons, List.map_nil, List.replicate_succ, List.replicate_zero, List.cons_append, List.nil_append, Option.map_some, Option.map_none, Option.bind_some, noex_ok, wipeE_nil, wipeE_cons, osub_ii, oadd_ii, olt_ii, ole_ii, ogt_ii, oge_ii, oneg_i, olen_t, olen_l, otuple_t, otuple_l, olist_t, olist_l, oint_i, oabs_i, is_nn, is_in, is_sn, is_tn, is_ln, is_bn, is_nb, is_ib, is_sb, is_tb, is_lb, is_bb, isnt_n, isnt_t, isnt_i, isnt_l, ty_n, ty_b, ty_i, ty_s, ty_t, ty_l, oix_t0, oix_t1, oix_t2, oeq_ii, oeq_ss, one_ii, sub_ii, sub_ib, sub_bi, sub_is, sub_it, sub_il, sub_si, sub_ss, sub_st, sub_sl, sub_sb, sub_ti, sub_ts, sub_tt, sub_tl, sub_tb, sub_li, sub_ls, sub_lt, sub_ll, sub_ni, sub_nt, e1, e2, hv, hx, mapp_ok hl', decide_true]
  · refine ⟨go, g1, I1, ?_⟩
    simp only [e_var, e_lit, e_2, k2_eq, k2'_eq, e_1, k1_eq, e_tv, ktv_eq, e_not, knot_eq, e_and, kand_t, kand_f, e_or, kor_t, kor_f, e_andv, kandv_t, kandv_f, e_orv, korv_t, korv_f, e_notv, knotv_eq, e_ite, kite_t, kite_f, e_nil, e_cons, kcons_eq, kcons'_eq, kval_some, e_tup, ktup_eq, e_lst, klst_eq, mtup0, mtup1, mtup2, mtup3, mtup4, mtup5, mtup6, mlst0, mlst1, mlst2, mlst3, mlst5, mlst6, e_prim, kprim_eq, e_call, kcall_eq, mcall_eq, e_isi, kisi_eq, misi_eq, e_part, kpart_eq, e_nop, e_sl, ksl_eq, ksl2_eq, ksl3_eq, e_chain, kch_eq, kch1_eq, kch2_t, kch2_f, kch3_eq, e_bix, kbix_eq, kbix1_eq, kbix2_eq, e_skip, e_brk, e_cnt, e_retN, e_raise, e_seq, kseq_nx, kseq_rt, kseq_bk, kseq_ct, e_drop, kdrop_eq, e_ret, kret_fz, kret_fr, e_retv, kretv_fz, kretv_ow, e_if, kif_t, kif_f, e_set, kset_fz, kset_fr, e_freeze, kfreeze_ow, kfreeze_fz, e_par, kpar_eq, kpar2_eq, mpar_eq, sl_fz, sl_fr, e_par3, kpar3_eq, mpar3_eq, e_for, kfor_eq, e_fun, kfun_nx, kfun_fz, kfun_fr, kfun_ex, kvar_fz, kvar_ow, kopt_some, e_seti, kseti_ow, kseti_box, ksb_eq, msb_eq, kso_fz, kso_fr, mso_eq, e_app, kapp_eq, kapp'_fz, kapp'_fr, e_pop, kpop_eq, mpop_eq, e_asg, kasg_fz, kasg_fr, masg_eq, e_gname, e_gnil, e_gcons, e_seqv, kseqv_l, kseqv_t, kseqv_f, kseqv_b, klc'_eq, klc_eq, e_lc, e_rng1, e_rng2, e_rng3, e_enum, kenum_t, kenum_l, kenum_f, e_lrng, klrng_eq, e_trng, ktrng_eq, e_ss, e_lc2, klc2_eq, e_sd2, ksd2_eq, Re.bind_ok, Re.bind_ex, vals_nil, vals_fz, vals_fr, List.getElem?_cons_zero, List.getElem?_cons_succ, List.set_cons_zero, List.set_cons_succ, List.map_cons, List.map_nil, List.replicate_succ, List.replicate_zero, List.cons_append, List.nil_append, Option.map_some, Option.map_none, Option.bind_some, noex_ok, wipeE_nil, wipeE_cons, osub_ii, oadd_ii, olt_ii, ole_ii, ogt_ii, oge_ii, oneg_i, olen_t, olen_l, otuple_t, otuple_l, olist_t, olist_l, oint_i, oabs_i, is_nn, is_in, is_sn, is_tn, is_ln, is_bn, is_nb, is_ib, is_sb, is_tb, is_lb, is_bb, isnt_n, isnt_t, isnt_i, isnt_l, ty_n, ty_b, ty_i, ty_s, ty_t, ty_l, oix_t0, oix_t1, oix_t2, oeq_ii, oeq_ss, one_ii, sub_ii, sub_ib, sub_bi, sub_is, sub_it, sub_il, sub_si, sub_ss, sub_st, sub_sl, sub_sb, sub_ti, sub_ts, sub_tt, sub_tl, sub_tb, sub_li, sub_ls, sub_lt, sub_ll, sub_ni, sub_nt, e1, hv, mapp_ok hl', decide_false]
end K01

set_option Elab.async false
set_option linter.all false
set_option maxRecDepth 100000
set_option maxHeartbeats 4000000
namespace K01
open PySem L2 Dn
variable {g : G}
/-- rows of parts that may be drawn from -/
def Fits (ps : List Part) : Prop := ps.length < 100 ∧ ∀ p ∈ ps, 0 < p.2.length ∧ p.2.length < 1000
theorem tail_ok {r : DF} {R : List D} {k : Int} {bad : D} {acc : List D} {suf : List Part} (hf : ∀ p ∈ suf, 0 < p.2.length ∧ p.2.length < 1000) (hl : acc.length + suf.length < 1000) : ∀ {s6 s7 : Sl} {g : G}, Inv g →
    ∃ tl s6' s7' g', tl.length = suf.length ∧ Inv g' ∧ forL (fbody (gtup 2 (gcons (gname 6) (gcons (gname 7) (gnil)))) (bn_law_right_F1 r)) (suf.map mk) [.fz .box, .rf 0, .fz (.lst R), .fz (.int k), .fz bad, .ow (.lst acc), s6, s7] g
      = .ok (.nx [.fz .box, .rf 0, .fz (.lst R), .fz (.int k), .fz bad, .ow (.lst (acc ++ tl)), s6', s7']) g' := by
  induction suf generalizing acc with
  | nil => exact fun {s6 s7 g} I => ⟨[], s6, s7, g, rfl, I, by rw [List.append_nil]; rfl⟩
  | cons p suf ih =>
    intro s6 s7 g I
    rw [List.length_cons] at hl
    obtain ⟨x, g1, I1, e1⟩ := F1_ok (r := r) (R := R) (k := k) (bad := bad) (acc := acc) (s6 := s6) (s7 := s7) (hf p (.head _)) I (by omega)
    obtain ⟨tl, s6', s7', g', h1, h2, h3⟩ := ih (acc := acc ++ [x]) (fun q hq => hf q (.tail _ hq)) (by rw [List.length_append, List.length_singleton]; omega) (s6 := .fz p.1) (s7 := .fz (.lst p.2)) (g := g1) I1
    refine ⟨x :: tl, s6', s7', g', by rw [List.length_cons, h1, List.length_cons], h2, ?_⟩
    rw [List.map_cons, forL_nx e1, h3, List.append_assoc]; rfl
theorem goods_ok {pre : List Part} {ρ : Dn.Env} {s0 s1 s2 s3 s4 s5 : Sl} : (lcL (lbody (gtup 2 (gcons (gname 6) (gcons (gname 7) (gnil)))) dyes (dvar 6) [s0, s1, s2, s3, s4, s5, .un, .un]) (pre.map mk) g).noex = .ok (pre.map (·.1)) g := by
  have h : ∀ d ∈ pre.map mk, lbody (gtup 2 (gcons (gname 6) (gcons (gname 7) (gnil)))) dyes (dvar 6) [s0, s1, s2, s3, s4, s5, .un, .un] d g = .ok [(match d with | .tup (x :: _) => x | _ => .non)] g := fun d hd => by
    obtain ⟨p, hp, rfl⟩ := List.mem_map.mp hd
    rfl
  rw [lc_map h, List.map_map]
  rfl
theorem told_n {n : Nat} (h : n = 0 ∨ n = 1) : ktold (fn_law_read 12) rg "range" "other" (.ex n g) = .ok (.fz, .tup [.int 1, .str "other"]) g := by
  rcases h with rfl | rfl <;> exact told_ex (b := false) rfl
theorem F2_ok {r : DF} {pre suf : List Part} {p : Part} {bad : D} (hf : Fits (pre ++ p :: suf)) (hw : ∀ tl : List D, tl.length = suf.length → Wrong r (pre.map (·.1) ++ bad :: tl)) {s5 s6 s7 : Sl} (I : Inv g) :
    ∃ s5' s6' s7' g', Inv g' ∧ bn_law_right_F2 r [.fz .box, .rf 0, .fz (.lst ((pre ++ p :: suf).map mk)), .fz (.int pre.length), .fz bad, s5, s6, s7] g
      = .ok (.nx [.fz .box, .rf 0, .fz (.lst ((pre ++ p :: suf).map mk)), .fz (.int pre.length), .fz bad, s5', s6', s7']) g' := by
  have hlen : pre.length + (suf.length + 1) < 100 := by have := hf.1; rwa [List.length_append, List.length_cons] at this
  have h1 : osl (.lst ((pre ++ p :: suf).map mk)) none (some (pre.length : Int)) = some (.fr, .lst (pre.map mk)) := by
    unfold osl
    dsimp only
    rw [cutD_to, ← List.map_take, List.take_left]
  have h2 : osl (.lst ((pre ++ p :: suf).map mk)) (some ((pre.length : Int) + 1)) none = some (.fr, .lst (suf.map mk)) := by
    unfold osl
    dsimp only
    rw [show (pre.length : Int) + 1 = ((pre.length + 1 : Nat) : Int) by omega, cutD_from, ← List.map_drop]
    congr 3
    rw [show pre ++ p :: suf = (pre ++ [p]) ++ suf by rw [List.append_assoc]; rfl, show pre.length + 1 = (pre ++ [p]).length by simp, List.drop_left]
  have h3 : oadd (.lst (pre.map (·.1))) (.lst [bad]) = some (.fr, .lst (pre.map (·.1) ++ [bad])) := by
    show (if (pre.map (·.1)).length + [bad].length ≤ 1000000 then _ else _) = _
    rw [if_pos (by rw [List.length_map, List.length_singleton]; omega)]
  have h4 : oadd (.int (pre.length : Int)) (.int 1) = some (.fz, .int ((pre.length : Int) + 1)) := oadd_ii
  obtain ⟨tl, s6', s7', g', t1, I', t3⟩ := tail_ok (r := r) (R := (pre ++ p :: suf).map mk) (k := pre.length) (bad := bad) (acc := pre.map (·.1) ++ [bad]) (suf := suf) (fun q hq => hf.2 q (List.mem_append_right _ (.tail _ hq))) (by rw [List.length_append, List.length_map, List.length_singleton]; omega) (s6 := s6) (s7 := s7) I
  rw [List.append_assoc] at t3
  refine ⟨.fz (.lst (pre.map (·.1) ++ bad :: tl)), s6', s7', g', I', ?_⟩
  unfold bn_law_right_F2
  have hg := goods_ok (g := g) (pre := pre) (ρ := []) (s0 := .fz .box) (s1 := .rf 0) (s2 := .fz (.lst ((pre ++ p :: suf).map mk))) (s3 := .fz (.int pre.length)) (s4 := .fz bad) (s5 := s5)
  have one_f : one (.tup [.int 1, .str "other"]) (.tup [.int 1, .str "other"]) = some (.fz, .bl false) := by rfl
  have hT : dtold (fn_law_read 12) rg "range" "other" (dcallt 1 (fun m => if m = 0 then some r else none) (dcons (dvar 5) (dnil))) [.fz .box, .rf 0, .fz (.lst ((pre ++ p :: suf).map mk)), .fz (.int pre.length), .fz bad, .fz (.lst (pre.map (·.1) ++ bad :: tl)), s6', s7'] g' = .ok (.fz, .tup [.int 1, .str "other"]) g' := by
    rw [e_told, show dcallt 1 (fun m => if m = 0 then some r else none) (dcons (dvar 5) (dnil)) [.fz .box, .rf 0, .fz (.lst ((pre ++ p :: suf).map mk)), .fz (.int pre.length), .fz bad, .fz (.lst (pre.map (·.1) ++ bad :: tl)), s6', s7'] g' = r [.lst (pre.map (·.1) ++ bad :: tl)] g' from rfl]
    rcases hw tl t1 g' with e | e <;> rw [e]
    · exact told_n (.inl rfl)
    · exact told_n (.inr rfl)
  have t3' : forL (fbody (gtup 2 (gcons (gname 6) (gcons (gname 7) (gnil)))) (bn_law_right_F1 r)) (suf.map mk) [.fz .box, .rf 0, .fz (.lst ((pre ++ p :: suf).map mk)), .fz (.int pre.length), .fz bad, .ow (.lst (pre.map (·.1) ++ [bad])), s6, s7] g = _ := t3
  simp only [e_var, e_lit, e_2, k2_eq, k2'_eq, e_1, k1_eq, e_tv, ktv_eq, e_not, knot_eq, e_and, kand_t, kand_f, e_or, kor_t, kor_f, e_andv, kandv_t, kandv_f, e_orv, korv_t, korv_f, e_notv, knotv_eq, e_ite, kite_t, kite_f, e_nil, e_cons, kcons_eq, kcons'_eq, kval_some, e_tup, ktup_eq, e_lst, klst_eq, mtup0, mtup1, mtup2, mtup3, mtup4, mtup5, mtup6, mlst0, mlst1, mlst2, mlst3, mlst5, mlst6, e_prim, kprim_eq, e_call, kcall_eq, mcall_eq, e_isi, kisi_eq, misi_eq, e_part, kpart_eq, e_nop, e_sl, ksl_eq, ksl2_eq, ksl3_eq, e_chain, kch_eq, kch1_eq, kch2_t, kch2_f, kch3_eq, e_bix, kbix_eq, kbix1_eq, kbix2_eq, e_skip, e_brk, e_cnt, e_retN, e_raise, e_seq, kseq_nx, kseq_rt, kseq_bk, kseq_ct, e_drop, kdrop_eq, e_ret, kret_fz, kret_fr, e_retv, kretv_fz, kretv_ow, e_if, kif_t, kif_f, e_set, kset_fz, kset_fr, e_freeze, kfreeze_ow, kfreeze_fz, e_par, kpar_eq, kpar2_eq, mpar_eq, sl_fz, sl_fr, e_par3, kpar3_eq, mpar3_eq, e_for, kfor_eq, e_fun, kfun_nx, kfun_fz, kfun_fr, kfun_ex, kvar_fz, kvar_ow, kopt_some, e_seti, kseti_ow, kseti_box, ksb_eq, msb_eq, kso_fz, kso_fr, mso_eq, e_app, kapp_eq, kapp'_fz, kapp'_fr, e_pop, kpop_eq, mpop_eq, e_asg, kasg_fz, kasg_fr, masg_eq, e_gname, e_gnil, e_gcons, e_seqv, kseqv_l, kseqv_t, kseqv_f, kseqv_b, klc'_eq, klc_eq, e_lc, e_rng1, e_rng2, e_rng3, e_enum, kenum_t, kenum_l, kenum_f, e_lrng, klrng_eq, e_trng, ktrng_eq, e_ss, e_lc2, klc2_eq, e_sd2, ksd2_eq, Re.bind_ok, Re.bind_ex, vals_nil, vals_fz, vals_fr, List.getElem?_cons_zero, List.getElem?_cons_succ, List.set_cons_zero, List.set_cons_succ, List.map_cons, List.map_nil, List.replicate_succ, List.replicate_zero, List.cons_append, List.nil_append, Option.map_some, Option.map_none, Option.bind_some, noex_ok, wipeE_nil, wipeE_cons, osub_ii, oadd_ii, olt_ii, ole_ii, ogt_ii, oge_ii, oneg_i, olen_t, olen_l, otuple_t, otuple_l, olist_t, olist_l, oint_i, oabs_i, is_nn, is_in, is_sn, is_tn, is_ln, is_bn, is_nb, is_ib, is_sb, is_tb, is_lb, is_bb, isnt_n, isnt_t, isnt_i, isnt_l, ty_n, ty_b, ty_i, ty_s, ty_t, ty_l, oix_t0, oix_t1, oix_t2, oeq_ii, oeq_ss, one_ii, sub_ii, sub_ib, sub_bi, sub_is, sub_it, sub_il, sub_si, sub_ss, sub_st, sub_sl, sub_sb, sub_ti, sub_ts, sub_tt, sub_tl, sub_tb, sub_li, sub_ls, sub_lt, sub_ll, sub_ni, sub_nt, h1, hg, h3, h2, h4, t3', List.singleton_append, hT, one_f]
end K01

set_option Elab.async false
set_option linter.all false
set_option maxRecDepth 100000
set_option maxHeartbeats 4000000
namespace K01
open PySem L2 Dn
variable {g : G}
abbrev St4 (R : List D) (k : Int) (s4 s5 s6 s7 : Sl) : Dn.Env := [.fz .box, .rf 0, .fz (.lst R), .fz (.int k), s4, s5, s6, s7]
theorem bads_ok {r : DF} {pre suf : List Part} {p : Part} (hf : Fits (pre ++ p :: suf)) : ∀ (bs : List D), (∀ bad ∈ bs, ∀ tl : List D, tl.length = suf.length → Wrong r (pre.map (·.1) ++ bad :: tl)) → ∀ (s4 s5 s6 s7 : Sl) (g : G), Inv g →
    ∃ s4' s5' s6' s7' g', Inv g' ∧ forL (fbody (gname 4) (bn_law_right_F2 r)) bs (St4 ((pre ++ p :: suf).map mk) pre.length s4 s5 s6 s7) g = .ok (.nx (St4 ((pre ++ p :: suf).map mk) pre.length s4' s5' s6' s7')) g'
  | [], _ => fun s4 s5 s6 s7 g I => ⟨s4, s5, s6, s7, g, I, rfl⟩
  | b :: bs, hw => by
    intro s4 s5 s6 s7 g I
    obtain ⟨t5, t6, t7, g1, I1, e1⟩ := F2_ok (r := r) hf (hw b (.head _)) (s5 := s5) (s6 := s6) (s7 := s7) I
    obtain ⟨u4, u5, u6, u7, g2, I2, e2⟩ := bads_ok hf bs (fun x hx => hw x (.tail _ hx)) (.fz b) t5 t6 t7 g1 I1
    refine ⟨u4, u5, u6, u7, g2, I2, ?_⟩
    rw [forL_nx (by rw [fbody_eq (ρ' := St4 ((pre ++ p :: suf).map mk) pre.length (.fz b) s5 s6 s7) rfl]; exact e1)]
    exact e2
theorem F3_ok {r : DF} {pre suf : List Part} {p : Part} (hf : Fits (pre ++ p :: suf)) (hw : ∀ bad ∈ p.2, ∀ tl : List D, tl.length = suf.length → Wrong r (pre.map (·.1) ++ bad :: tl)) {s4 s5 s6 s7 : Sl} (I : Inv g) :
    ∃ s4' s5' s6' s7' g', Inv g' ∧ bn_law_right_F3 r (St4 ((pre ++ p :: suf).map mk) pre.length s4 s5 s6 s7) g = .ok (.nx (St4 ((pre ++ p :: suf).map mk) pre.length s4' s5' s6' s7')) g' := by
  obtain ⟨u4, u5, u6, u7, g2, I2, e2⟩ := bads_ok hf p.2 hw s4 s5 s6 s7 g I
  refine ⟨u4, u5, u6, u7, g2, I2, ?_⟩
  have hx : oix (.lst ((pre ++ p :: suf).map mk)) (.int (pre.length : Int)) = some (.fz, .tup [p.1, .lst p.2]) := oix_l (by rw [List.map_append, List.getElem?_append_right (by rw [List.length_map]; exact Nat.le_refl _), List.length_map, Nat.sub_self]; rfl)
  unfold bn_law_right_F3
  simp only [e_var, e_lit, e_2, k2_eq, k2'_eq, e_1, k1_eq, e_tv, ktv_eq, e_not, knot_eq, e_and, kand_t, kand_f, e_or, kor_t, kor_f, e_andv, kandv_t, kandv_f, e_orv, korv_t, korv_f, e_notv, knotv_eq, e_ite, kite_t, kite_f, e_nil, e_cons, kcons_eq, kcons'_eq, kval_some, e_tup, ktup_eq, e_lst, klst_eq, mtup0, mtup1, mtup2, mtup3, mtup4, mtup5, mtup6, mlst0, mlst1, mlst2, mlst3, mlst5, mlst6, e_prim, kprim_eq, e_call, kcall_eq, mcall_eq, e_isi, kisi_eq, misi_eq, e_part, kpart_eq, e_nop, e_sl, ksl_eq, ksl2_eq, ksl3_eq, e_chain, kch_eq, kch1_eq, kch2_t, kch2_f, kch3_eq, e_bix, kbix_eq, kbix1_eq, kbix2_eq, e_skip, e_brk, e_cnt, e_retN, e_raise, e_seq, kseq_nx, kseq_rt, kseq_bk, kseq_ct, e_drop, kdrop_eq, e_ret, kret_fz, kret_fr, e_retv, kretv_fz, kretv_ow, e_if, kif_t, kif_f, e_set, kset_fz, kset_fr, e_freeze, kfreeze_ow, kfreeze_fz, e_par, kpar_eq, kpar2_eq, mpar_eq, sl_fz, sl_fr, e_par3, kpar3_eq, mpar3_eq, e_for, kfor_eq, e_fun, kfun_nx, kfun_fz, kfun_fr, kfun_ex, kvar_fz, kvar_ow, kopt_some, e_seti, kseti_ow, kseti_box, ksb_eq, msb_eq, kso_fz, kso_fr, mso_eq, e_app, kapp_eq, kapp'_fz, kapp'_fr, e_pop, kpop_eq, mpop_eq, e_asg, kasg_fz, kasg_fr, masg_eq, e_gname, e_gnil, e_gcons, e_seqv, kseqv_l, kseqv_t, kseqv_f, kseqv_b, klc'_eq, klc_eq, e_lc, e_rng1, e_rng2, e_rng3, e_enum, kenum_t, kenum_l, kenum_f, e_lrng, klrng_eq, e_trng, ktrng_eq, e_ss, e_lc2, klc2_eq, e_sd2, ksd2_eq, Re.bind_ok, Re.bind_ex, vals_nil, vals_fz, vals_fr, List.getElem?_cons_zero, List.getElem?_cons_succ, List.set_cons_zero, List.set_cons_succ, List.map_cons, List.map_nil, List.replicate_succ, List.replicate_zero, List.cons_append, List.nil_append, Option.map_some, Option.map_none, Option.bind_some, noex_ok, wipeE_nil, wipeE_cons, osub_ii, oadd_ii, olt_ii, ole_ii, ogt_ii, oge_ii, oneg_i, olen_t, olen_l, otuple_t, otuple_l, olist_t, olist_l, oint_i, oabs_i, is_nn, is_in, is_sn, is_tn, is_ln, is_bn, is_nb, is_ib, is_sb, is_tb, is_lb, is_bb, isnt_n, isnt_t, isnt_i, isnt_l, ty_n, ty_b, ty_i, ty_s, ty_t, ty_l, oix_t0, oix_t1, oix_t2, oeq_ii, oeq_ss, one_ii, sub_ii, sub_ib, sub_bi, sub_is, sub_it, sub_il, sub_si, sub_ss, sub_st, sub_sl, sub_sb, sub_ti, sub_ts, sub_tt, sub_tl, sub_tb, sub_li, sub_ls, sub_lt, sub_ll, sub_ni, sub_nt, hx, e2]
theorem right_loop {r : DF} : ∀ {suf pre : List Part}, Fits (pre ++ suf) → (∀ a p b, pre ++ suf = a ++ p :: b → ∀ bad ∈ p.2, ∀ tl : List D, tl.length = b.length → Wrong r (a.map (·.1) ++ bad :: tl)) → ∀ (s3 s4 s5 s6 s7 : Sl) (g : G), Inv g →
    ∃ s3' s4' s5' s6' s7' g', Inv g' ∧ forL (fbody (gname 3) (bn_law_right_F3 r)) ((List.range' pre.length suf.length).map fun (i : Nat) => D.int (i : Int)) [.fz .box, .rf 0, .fz (.lst ((pre ++ suf).map mk)), s3, s4, s5, s6, s7] g = .ok (.nx [.fz .box, .rf 0, .fz (.lst ((pre ++ suf).map mk)), s3', s4', s5', s6', s7']) g'
  | [], pre, _, _ => fun s3 s4 s5 s6 s7 g I => ⟨s3, s4, s5, s6, s7, g, I, rfl⟩
  | p :: suf, pre, hf, hw => by
    intro s3 s4 s5 s6 s7 g I
    obtain ⟨t4, t5, t6, t7, g1, I1, e1⟩ := F3_ok (r := r) hf (hw pre p suf rfl) (s4 := s4) (s5 := s5) (s6 := s6) (s7 := s7) I
    have ap : pre ++ p :: suf = (pre ++ [p]) ++ suf := by rw [List.append_assoc]; rfl
    have q := right_loop (r := r) (suf := suf) (pre := pre ++ [p]) (by rw [← ap]; exact hf) (by rw [← ap]; exact hw) (.fz (.int pre.length)) t4 t5 t6 t7 g1 I1
    rw [← ap, List.length_append, List.length_singleton] at q
    obtain ⟨u3, u4, u5, u6, u7, g2, I2, e2⟩ := q
    refine ⟨u3, u4, u5, u6, u7, g2, I2, ?_⟩
    rw [List.length_cons, List.range'_succ, List.map_cons, forL_nx (by rw [fbody_eq (ρ' := St4 ((pre ++ p :: suf).map mk) pre.length s4 s5 s6 s7) rfl]; exact e1)]
    exact e2
theorem right_ok {r : DF} {ps : List Part} (hf : Fits ps) (hw : ∀ a p b, ps = a ++ p :: b → ∀ bad ∈ p.2, ∀ tl : List D, tl.length = b.length → Wrong r (a.map (·.1) ++ bad :: tl)) (I : Inv g) :
    ∃ g', Inv g' ∧ dhofR 5 (bn_law_right r) .box (.lst (ps.map mk)) g = .ok (.fz, .bl true) g' := by
  obtain ⟨u3, u4, u5, u6, u7, g2, I2, e2⟩ := right_loop (r := r) (suf := ps) (pre := []) hf hw .un .un .un .un .un g I
  refine ⟨g2, I2, ?_⟩
  have hl := hf.1
  have hr : krng1 [(Kd.fz, D.int ((ps.map mk).length : Int))] g = .ok ((List.range' 0 ps.length).map fun (i : Nat) => D.int (i : Int)) g := by
    rw [List.length_map, krng1_ok (by omega)]
    unfold rng
    rw [Int.toNat_natCast, List.range_eq_range']
    congr 1
    refine List.map_congr_left fun i _ => ?_
    simp
  have e2' : forL (fbody (gname 3) (bn_law_right_F3 r)) ((List.range' 0 ps.length).map fun (i : Nat) => D.int (i : Int)) [.fz .box, .rf 0, .fz (.lst (ps.map mk)), .un, .un, .un, .un, .un] g = _ := e2
  have hb : bn_law_right r [.fz .box, .rf 0, .fz (.lst (ps.map mk)), .un, .un, .un, .un, .un] g = .ok (.rt .fz (.bl true)) g2 := by
    unfold bn_law_right
    simp only [e_var, e_lit, e_2, k2_eq, k2'_eq, e_1, k1_eq, e_tv, ktv_eq, e_not, knot_eq, e_and, kand_t, kand_f, e_or, kor_t, kor_f, e_andv, kandv_t, kandv_f, e_orv, korv_t, korv_f, e_notv, knotv_eq, e_ite, kite_t, kite_f, e_nil, e_cons, kcons_eq, kcons'_eq, kval_some, e_tup, ktup_eq, e_lst, klst_eq, mtup0, mtup1, mtup2, mtup3, mtup4, mtup5, mtup6, mlst0, mlst1, mlst2, mlst3, mlst5, mlst6, e_prim, kprim_eq, e_call, kcall_eq, mcall_eq, e_isi, kisi_eq, misi_eq, e_part, kpart_eq, e_nop, e_sl, ksl_eq, ksl2_eq, ksl3_eq, e_chain, kch_eq, kch1_eq, kch2_t, kch2_f, kch3_eq, e_bix, kbix_eq, kbix1_eq, kbix2_eq, e_skip, e_brk, e_cnt, e_retN, e_raise, e_seq, kseq_nx, kseq_rt, kseq_bk, kseq_ct, e_drop, kdrop_eq, e_ret, kret_fz, kret_fr, e_retv, kretv_fz, kretv_ow, e_if, kif_t, kif_f, e_set, kset_fz, kset_fr, e_freeze, kfreeze_ow, kfreeze_fz, e_par, kpar_eq, kpar2_eq, mpar_eq, sl_fz, sl_fr, e_par3, kpar3_eq, mpar3_eq, e_for, kfor_eq, e_fun, kfun_nx, kfun_fz, kfun_fr, kfun_ex, kvar_fz, kvar_ow, kopt_some, e_seti, kseti_ow, kseti_box, ksb_eq, msb_eq, kso_fz, kso_fr, mso_eq, e_app, kapp_eq, kapp'_fz, kapp'_fr, e_pop, kpop_eq, mpop_eq, e_asg, kasg_fz, kasg_fr, masg_eq, e_gname, e_gnil, e_gcons, e_seqv, kseqv_l, kseqv_t, kseqv_f, kseqv_b, klc'_eq, klc_eq, e_lc, e_rng1, e_rng2, e_rng3, e_enum, kenum_t, kenum_l, kenum_f, e_lrng, klrng_eq, e_trng, ktrng_eq, e_ss, e_lc2, klc2_eq, e_sd2, ksd2_eq, Re.bind_ok, Re.bind_ex, vals_nil, vals_fz, vals_fr, List.getElem?_cons_zero, List.getElem?_cons_succ, List.set_cons_zero, List.set_cons_succ, List.map_cons, List.map_nil, List.replicate_succ, List.replicate_zero, List.cons_append, List.nil_append, Option.map_some, Option.map_none, Option.bind_some, noex_ok, wipeE_nil, wipeE_cons, osub_ii, oadd_ii, olt_ii, ole_ii, ogt_ii, oge_ii, oneg_i, olen_t, olen_l, otuple_t, otuple_l, olist_t, olist_l, oint_i, oabs_i, is_nn, is_in, is_sn, is_tn, is_ln, is_bn, is_nb, is_ib, is_sb, is_tb, is_lb, is_bb, isnt_n, isnt_t, isnt_i, isnt_l, ty_n, ty_b, ty_i, ty_s, ty_t, ty_l, oix_t0, oix_t1, oix_t2, oeq_ii, oeq_ss, one_ii, sub_ii, sub_ib, sub_bi, sub_is, sub_it, sub_il, sub_si, sub_ss, sub_st, sub_sl, sub_sb, sub_ti, sub_ts, sub_tt, sub_tl, sub_tb, sub_li, sub_ls, sub_lt, sub_ll, sub_ni, sub_nt, hr, e2']
  unfold dhofR
  rw [show ([.fz .box, .rf 0, .fz (.lst (ps.map mk))] ++ List.replicate 5 .un : Dn.Env) = [.fz .box, .rf 0, .fz (.lst (ps.map mk)), .un, .un, .un, .un, .un] from rfl, hb]
end K01

set_option Elab.async false
set_option linter.all false
set_option maxRecDepth 100000
set_option maxHeartbeats 4000000
namespace K01
open PySem L2 Dn
/-- each bad part in its place, anything behind it -/
def WA (r : DF) : List D → List Part → Prop
  | _, [] => True
  | pre, p :: suf => (∀ bad ∈ p.2, ∀ tl : List D, tl.length = suf.length → Wrong r (pre ++ bad :: tl)) ∧ WA r (pre ++ [p.1]) suf
theorem WA.get {r : DF} : ∀ {ps : List Part} {pre : List D}, WA r pre ps → ∀ a p b, ps = a ++ p :: b → ∀ bad ∈ p.2, ∀ tl : List D, tl.length = b.length → Wrong r (pre ++ (a.map (·.1) ++ bad :: tl))
  | [], _, _, a, p, b, e, _, _, _, _ => by cases a <;> cases e
  | _ :: _, pre, h, [], p, b, e, bad, hb, tl, hl => by
    cases e
    exact h.1 bad hb tl hl
  | q :: qs, pre, h, x :: a, p, b, e, bad, hb, tl, hl => by
    cases e
    have := WA.get h.2 a p b rfl bad hb tl hl
    rw [List.append_assoc] at this
    exact this
theorem right_of {g : G} {r : DF} {ps : List Part} (hf : Fits ps) (hw : WA r [] ps) (I : Inv g) : ∃ g', Inv g' ∧ dhofR 5 (bn_law_right r) .box (.lst (ps.map mk)) g = .ok (.fz, .bl true) g' :=
  right_ok hf (fun a p b e bad hb tl hl => hw.get a p b e bad hb tl hl) I
abbrev p_check_machine : List Part := [(gm, bm), (gk, bk)]
theorem w_check_machine {u0 u1 u2 u3 u4 u5 u7 u8 u9 u10 : Sl} : WA (lamF (dcallt 6 (fun m => if m = 0 then some fcheck_machine else if m = 1 then some fis_lively else none) (dcons (d2 oix (dvar 11) (dlit (.int 0))) (dcons (d2 oix (dvar 11) (dlit (.int 1))) (dnil)))) [u0, u1, u2, u3, u4, u5, .rf 0, u7, u8, u9, u10]) [] p_check_machine := ⟨fun b hb tl hl g => match tl, hl with | [t0], _ => .inl (Every.of (P := fun m => lamF (dcallt 6 (fun m => if m = 0 then some fcheck_machine else if m = 1 then some fis_lively else none) (dcons (d2 oix (dvar 11) (dlit (.int 0))) (dcons (d2 oix (dvar 11) (dlit (.int 1))) (dnil)))) [u0, u1, u2, u3, u4, u5, .rf 0, u7, u8, u9, u10] [.lst [m, t0]] g = .ex 0 g) (by repeat' constructor) b hb), ⟨fun b hb tl hl g => match tl, hl with | [], _ => .inl (Every.of (P := fun m => lamF (dcallt 6 (fun m => if m = 0 then some fcheck_machine else if m = 1 then some fis_lively else none) (dcons (d2 oix (dvar 11) (dlit (.int 0))) (dcons (d2 oix (dvar 11) (dlit (.int 1))) (dnil)))) [u0, u1, u2, u3, u4, u5, .rf 0, u7, u8, u9, u10] [.lst [gm, m]] g = .ex 0 g) (by repeat' constructor) b hb), trivial⟩⟩
abbrev p_is_lively : List Part := [(gm, bm), (gk, bk)]
theorem w_is_lively {u0 u1 u2 u3 u4 u5 u7 u8 u9 u10 : Sl} : WA (lamF (dcallt 6 (fun m => if m = 0 then some fcheck_machine else if m = 1 then some fis_lively else none) (dcons (d2 oix (dvar 11) (dlit (.int 0))) (dcons (d2 oix (dvar 11) (dlit (.int 1))) (dnil)))) [u0, u1, u2, u3, u4, u5, .rf 1, u7, u8, u9, u10]) [] p_is_lively := ⟨fun b hb tl hl g => match tl, hl with | [t0], _ => .inl (Every.of (P := fun m => lamF (dcallt 6 (fun m => if m = 0 then some fcheck_machine else if m = 1 then some fis_lively else none) (dcons (d2 oix (dvar 11) (dlit (.int 0))) (dcons (d2 oix (dvar 11) (dlit (.int 1))) (dnil)))) [u0, u1, u2, u3, u4, u5, .rf 1, u7, u8, u9, u10] [.lst [m, t0]] g = .ex 0 g) (by repeat' constructor) b hb), ⟨fun b hb tl hl g => match tl, hl with | [], _ => .inl (Every.of (P := fun m => lamF (dcallt 6 (fun m => if m = 0 then some fcheck_machine else if m = 1 then some fis_lively else none) (dcons (d2 oix (dvar 11) (dlit (.int 0))) (dcons (d2 oix (dvar 11) (dlit (.int 1))) (dnil)))) [u0, u1, u2, u3, u4, u5, .rf 1, u7, u8, u9, u10] [.lst [gm, m]] g = .ex 0 g) (by repeat' constructor) b hb), trivial⟩⟩
abbrev p_is_run : List Part := [(gm, bm), (ge, be)]
theorem w_is_run {u0 u1 u2 u3 u4 u5 u6 u7 u8 u9 u10 : Sl} : WA (lamF (dcall (fis_run) (dcons (d2 oix (dvar 11) (dlit (.int 0))) (dcons (d2 oix (dvar 11) (dlit (.int 1))) (dnil)))) [u0, u1, u2, u3, u4, u5, u6, u7, u8, u9, u10]) [] p_is_run := ⟨fun b hb tl hl g => match tl, hl with | [t0], _ => .inl (Every.of (P := fun m => lamF (dcall (fis_run) (dcons (d2 oix (dvar 11) (dlit (.int 0))) (dcons (d2 oix (dvar 11) (dlit (.int 1))) (dnil)))) [u0, u1, u2, u3, u4, u5, u6, u7, u8, u9, u10] [.lst [m, t0]] g = .ex 0 g) (by repeat' constructor) b hb), ⟨fun b hb tl hl g => match tl, hl with | [], _ => .inr (Every.of (P := fun m => lamF (dcall (fis_run) (dcons (d2 oix (dvar 11) (dlit (.int 0))) (dcons (d2 oix (dvar 11) (dlit (.int 1))) (dnil)))) [u0, u1, u2, u3, u4, u5, u6, u7, u8, u9, u10] [.lst [gm, m]] g = .ex 1 g) (by repeat' constructor) b hb), trivial⟩⟩
abbrev p_log_of : List Part := [(gk, bk2), (ge, be)]
theorem w_log_of {u0 u1 u2 u3 u4 u5 u6 u7 u8 u9 u10 : Sl} : WA (lamF (dcall (flog_of) (dcons (d2 oix (dvar 11) (dlit (.int 0))) (dcons (d2 oix (dvar 11) (dlit (.int 1))) (dnil)))) [u0, u1, u2, u3, u4, u5, u6, u7, u8, u9, u10]) [] p_log_of := ⟨fun b hb tl hl g => match tl, hl with | [t0], _ => .inl (Every.of (P := fun m => lamF (dcall (flog_of) (dcons (d2 oix (dvar 11) (dlit (.int 0))) (dcons (d2 oix (dvar 11) (dlit (.int 1))) (dnil)))) [u0, u1, u2, u3, u4, u5, u6, u7, u8, u9, u10] [.lst [m, t0]] g = .ex 0 g) (by repeat' constructor) b hb), ⟨fun b hb tl hl g => match tl, hl with | [], _ => .inr (Every.of (P := fun m => lamF (dcall (flog_of) (dcons (d2 oix (dvar 11) (dlit (.int 0))) (dcons (d2 oix (dvar 11) (dlit (.int 1))) (dnil)))) [u0, u1, u2, u3, u4, u5, u6, u7, u8, u9, u10] [.lst [gk, m]] g = .ex 1 g) (by repeat' constructor) b hb), trivial⟩⟩
abbrev p_states_behind : List Part := [(gm, bm), (gk, bk), (gl, bl)]
theorem w_states_behind {u0 u1 u2 u3 u4 u5 u7 u8 u9 u10 : Sl} : WA (lamF (dcallt 6 (fun m => if m = 2 then some fstates_behind else if m = 3 then some ffitting_run else none) (dcons (d2 oix (dvar 11) (dlit (.int 0))) (dcons (d2 oix (dvar 11) (dlit (.int 1))) (dcons (d2 oix (dvar 11) (dlit (.int 2))) (dnil))))) [u0, u1, u2, u3, u4, u5, .rf 2, u7, u8, u9, u10]) [] p_states_behind := ⟨fun b hb tl hl g => match tl, hl with | [t0, t1], _ => .inl (Every.of (P := fun m => lamF (dcallt 6 (fun m => if m = 2 then some fstates_behind else if m = 3 then some ffitting_run else none) (dcons (d2 oix (dvar 11) (dlit (.int 0))) (dcons (d2 oix (dvar 11) (dlit (.int 1))) (dcons (d2 oix (dvar 11) (dlit (.int 2))) (dnil))))) [u0, u1, u2, u3, u4, u5, .rf 2, u7, u8, u9, u10] [.lst [m, t0, t1]] g = .ex 0 g) (by repeat' constructor) b hb), ⟨fun b hb tl hl g => match tl, hl with | [t0], _ => .inl (Every.of (P := fun m => lamF (dcallt 6 (fun m => if m = 2 then some fstates_behind else if m = 3 then some ffitting_run else none) (dcons (d2 oix (dvar 11) (dlit (.int 0))) (dcons (d2 oix (dvar 11) (dlit (.int 1))) (dcons (d2 oix (dvar 11) (dlit (.int 2))) (dnil))))) [u0, u1, u2, u3, u4, u5, .rf 2, u7, u8, u9, u10] [.lst [gm, m, t0]] g = .ex 0 g) (by repeat' constructor) b hb), ⟨fun b hb tl hl g => match tl, hl with | [], _ => .inr (Every.of (P := fun m => lamF (dcallt 6 (fun m => if m = 2 then some fstates_behind else if m = 3 then some ffitting_run else none) (dcons (d2 oix (dvar 11) (dlit (.int 0))) (dcons (d2 oix (dvar 11) (dlit (.int 1))) (dcons (d2 oix (dvar 11) (dlit (.int 2))) (dnil))))) [u0, u1, u2, u3, u4, u5, .rf 2, u7, u8, u9, u10] [.lst [gm, gk, m]] g = .ex 1 g) (by repeat' constructor) b hb), trivial⟩⟩⟩
abbrev p_fitting_run : List Part := [(gm, bm), (gk, bk), (gl, bl)]
theorem w_fitting_run {u0 u1 u2 u3 u4 u5 u7 u8 u9 u10 : Sl} : WA (lamF (dcallt 6 (fun m => if m = 2 then some fstates_behind else if m = 3 then some ffitting_run else none) (dcons (d2 oix (dvar 11) (dlit (.int 0))) (dcons (d2 oix (dvar 11) (dlit (.int 1))) (dcons (d2 oix (dvar 11) (dlit (.int 2))) (dnil))))) [u0, u1, u2, u3, u4, u5, .rf 3, u7, u8, u9, u10]) [] p_fitting_run := ⟨fun b hb tl hl g => match tl, hl with | [t0, t1], _ => .inl (Every.of (P := fun m => lamF (dcallt 6 (fun m => if m = 2 then some fstates_behind else if m = 3 then some ffitting_run else none) (dcons (d2 oix (dvar 11) (dlit (.int 0))) (dcons (d2 oix (dvar 11) (dlit (.int 1))) (dcons (d2 oix (dvar 11) (dlit (.int 2))) (dnil))))) [u0, u1, u2, u3, u4, u5, .rf 3, u7, u8, u9, u10] [.lst [m, t0, t1]] g = .ex 0 g) (by repeat' constructor) b hb), ⟨fun b hb tl hl g => match tl, hl with | [t0], _ => .inl (Every.of (P := fun m => lamF (dcallt 6 (fun m => if m = 2 then some fstates_behind else if m = 3 then some ffitting_run else none) (dcons (d2 oix (dvar 11) (dlit (.int 0))) (dcons (d2 oix (dvar 11) (dlit (.int 1))) (dcons (d2 oix (dvar 11) (dlit (.int 2))) (dnil))))) [u0, u1, u2, u3, u4, u5, .rf 3, u7, u8, u9, u10] [.lst [gm, m, t0]] g = .ex 0 g) (by repeat' constructor) b hb), ⟨fun b hb tl hl g => match tl, hl with | [], _ => .inr (Every.of (P := fun m => lamF (dcallt 6 (fun m => if m = 2 then some fstates_behind else if m = 3 then some ffitting_run else none) (dcons (d2 oix (dvar 11) (dlit (.int 0))) (dcons (d2 oix (dvar 11) (dlit (.int 1))) (dcons (d2 oix (dvar 11) (dlit (.int 2))) (dnil))))) [u0, u1, u2, u3, u4, u5, .rf 3, u7, u8, u9, u10] [.lst [gm, gk, m]] g = .ex 1 g) (by repeat' constructor) b hb), trivial⟩⟩⟩
abbrev p_answer : List Part := [(gm, bm), (gk, bk), (gw, bw), (gl, bl)]
theorem w_answer {u0 u1 u2 u3 u4 u5 u6 u7 u8 u9 u10 : Sl} : WA (lamF (dcall (fanswer) (dcons (d2 oix (dvar 11) (dlit (.int 0))) (dcons (d2 oix (dvar 11) (dlit (.int 1))) (dcons (d2 oix (dvar 11) (dlit (.int 2))) (dcons (d2 oix (dvar 11) (dlit (.int 3))) (dnil)))))) [u0, u1, u2, u3, u4, u5, u6, u7, u8, u9, u10]) [] p_answer := ⟨fun b hb tl hl g => match tl, hl with | [t0, t1, t2], _ => .inl (Every.of (P := fun m => lamF (dcall (fanswer) (dcons (d2 oix (dvar 11) (dlit (.int 0))) (dcons (d2 oix (dvar 11) (dlit (.int 1))) (dcons (d2 oix (dvar 11) (dlit (.int 2))) (dcons (d2 oix (dvar 11) (dlit (.int 3))) (dnil)))))) [u0, u1, u2, u3, u4, u5, u6, u7, u8, u9, u10] [.lst [m, t0, t1, t2]] g = .ex 0 g) (by repeat' constructor) b hb), ⟨fun b hb tl hl g => match tl, hl with | [t0, t1], _ => .inl (Every.of (P := fun m => lamF (dcall (fanswer) (dcons (d2 oix (dvar 11) (dlit (.int 0))) (dcons (d2 oix (dvar 11) (dlit (.int 1))) (dcons (d2 oix (dvar 11) (dlit (.int 2))) (dcons (d2 oix (dvar 11) (dlit (.int 3))) (dnil)))))) [u0, u1, u2, u3, u4, u5, u6, u7, u8, u9, u10] [.lst [gm, m, t0, t1]] g = .ex 0 g) (by repeat' constructor) b hb), ⟨fun b hb tl hl g => match tl, hl with | [t0], _ => .inl (Every.of (P := fun m => lamF (dcall (fanswer) (dcons (d2 oix (dvar 11) (dlit (.int 0))) (dcons (d2 oix (dvar 11) (dlit (.int 1))) (dcons (d2 oix (dvar 11) (dlit (.int 2))) (dcons (d2 oix (dvar 11) (dlit (.int 3))) (dnil)))))) [u0, u1, u2, u3, u4, u5, u6, u7, u8, u9, u10] [.lst [gm, gk, m, t0]] g = .ex 0 g) (by repeat' constructor) b hb), ⟨fun b hb tl hl g => match tl, hl with | [], _ => .inr (Every.of (P := fun m => lamF (dcall (fanswer) (dcons (d2 oix (dvar 11) (dlit (.int 0))) (dcons (d2 oix (dvar 11) (dlit (.int 1))) (dcons (d2 oix (dvar 11) (dlit (.int 2))) (dcons (d2 oix (dvar 11) (dlit (.int 3))) (dnil)))))) [u0, u1, u2, u3, u4, u5, u6, u7, u8, u9, u10] [.lst [gm, gk, gw, m]] g = .ex 1 g) (by repeat' constructor) b hb), trivial⟩⟩⟩⟩
abbrev p_answer_left : List Part := [(gm, bm), (gk, bk), (gw, bw), (gr, br), (gl, bl)]
theorem w_answer_left {u0 u1 u2 u3 u4 u5 u6 u7 u8 u9 u10 : Sl} : WA (lamF (dcall (fanswer_left) (dcons (d2 oix (dvar 11) (dlit (.int 0))) (dcons (d2 oix (dvar 11) (dlit (.int 1))) (dcons (d2 oix (dvar 11) (dlit (.int 2))) (dcons (d2 oix (dvar 11) (dlit (.int 3))) (dcons (d2 oix (dvar 11) (dlit (.int 4))) (dcons (d1 oneg (dlit (.int 1))) (dnil)))))))) [u0, u1, u2, u3, u4, u5, u6, u7, u8, u9, u10]) [] p_answer_left := ⟨fun b hb tl hl g => match tl, hl with | [t0, t1, t2, t3], _ => .inl (Every.of (P := fun m => lamF (dcall (fanswer_left) (dcons (d2 oix (dvar 11) (dlit (.int 0))) (dcons (d2 oix (dvar 11) (dlit (.int 1))) (dcons (d2 oix (dvar 11) (dlit (.int 2))) (dcons (d2 oix (dvar 11) (dlit (.int 3))) (dcons (d2 oix (dvar 11) (dlit (.int 4))) (dcons (d1 oneg (dlit (.int 1))) (dnil)))))))) [u0, u1, u2, u3, u4, u5, u6, u7, u8, u9, u10] [.lst [m, t0, t1, t2, t3]] g = .ex 0 g) (by repeat' constructor) b hb), ⟨fun b hb tl hl g => match tl, hl with | [t0, t1, t2], _ => .inl (Every.of (P := fun m => lamF (dcall (fanswer_left) (dcons (d2 oix (dvar 11) (dlit (.int 0))) (dcons (d2 oix (dvar 11) (dlit (.int 1))) (dcons (d2 oix (dvar 11) (dlit (.int 2))) (dcons (d2 oix (dvar 11) (dlit (.int 3))) (dcons (d2 oix (dvar 11) (dlit (.int 4))) (dcons (d1 oneg (dlit (.int 1))) (dnil)))))))) [u0, u1, u2, u3, u4, u5, u6, u7, u8, u9, u10] [.lst [gm, m, t0, t1, t2]] g = .ex 0 g) (by repeat' constructor) b hb), ⟨fun b hb tl hl g => match tl, hl with | [t0, t1], _ => .inl (Every.of (P := fun m => lamF (dcall (fanswer_left) (dcons (d2 oix (dvar 11) (dlit (.int 0))) (dcons (d2 oix (dvar 11) (dlit (.int 1))) (dcons (d2 oix (dvar 11) (dlit (.int 2))) (dcons (d2 oix (dvar 11) (dlit (.int 3))) (dcons (d2 oix (dvar 11) (dlit (.int 4))) (dcons (d1 oneg (dlit (.int 1))) (dnil)))))))) [u0, u1, u2, u3, u4, u5, u6, u7, u8, u9, u10] [.lst [gm, gk, m, t0, t1]] g = .ex 0 g) (by repeat' constructor) b hb), ⟨fun b hb tl hl g => match tl, hl with | [t0], _ => .inr (Every.of (P := fun m => lamF (dcall (fanswer_left) (dcons (d2 oix (dvar 11) (dlit (.int 0))) (dcons (d2 oix (dvar 11) (dlit (.int 1))) (dcons (d2 oix (dvar 11) (dlit (.int 2))) (dcons (d2 oix (dvar 11) (dlit (.int 3))) (dcons (d2 oix (dvar 11) (dlit (.int 4))) (dcons (d1 oneg (dlit (.int 1))) (dnil)))))))) [u0, u1, u2, u3, u4, u5, u6, u7, u8, u9, u10] [.lst [gm, gk, gw, m, t0]] g = .ex 1 g) (by repeat' constructor) b hb), ⟨fun b hb tl hl g => match tl, hl with | [], _ => .inr (Every.of (P := fun m => lamF (dcall (fanswer_left) (dcons (d2 oix (dvar 11) (dlit (.int 0))) (dcons (d2 oix (dvar 11) (dlit (.int 1))) (dcons (d2 oix (dvar 11) (dlit (.int 2))) (dcons (d2 oix (dvar 11) (dlit (.int 3))) (dcons (d2 oix (dvar 11) (dlit (.int 4))) (dcons (d1 oneg (dlit (.int 1))) (dnil)))))))) [u0, u1, u2, u3, u4, u5, u6, u7, u8, u9, u10] [.lst [gm, gk, gw, gr, m]] g = .ex 1 g) (by repeat' constructor) b hb), trivial⟩⟩⟩⟩⟩
abbrev p_told : List Part := [(gm, bm), (gk, bk), (gw, bw)]
theorem w_told {u0 u1 u2 u3 u4 u5 u7 u8 u9 u10 : Sl} : WA (lamF (dcallt 6 (fun m => if m = 4 then some ftold else if m = 5 then some fsecret else none) (dcons (d2 oix (dvar 11) (dlit (.int 0))) (dcons (d2 oix (dvar 11) (dlit (.int 1))) (dcons (d2 oix (dvar 11) (dlit (.int 2))) (dnil))))) [u0, u1, u2, u3, u4, u5, .rf 4, u7, u8, u9, u10]) [] p_told := ⟨fun b hb tl hl g => match tl, hl with | [t0, t1], _ => .inl (Every.of (P := fun m => lamF (dcallt 6 (fun m => if m = 4 then some ftold else if m = 5 then some fsecret else none) (dcons (d2 oix (dvar 11) (dlit (.int 0))) (dcons (d2 oix (dvar 11) (dlit (.int 1))) (dcons (d2 oix (dvar 11) (dlit (.int 2))) (dnil))))) [u0, u1, u2, u3, u4, u5, .rf 4, u7, u8, u9, u10] [.lst [m, t0, t1]] g = .ex 0 g) (by repeat' constructor) b hb), ⟨fun b hb tl hl g => match tl, hl with | [t0], _ => .inl (Every.of (P := fun m => lamF (dcallt 6 (fun m => if m = 4 then some ftold else if m = 5 then some fsecret else none) (dcons (d2 oix (dvar 11) (dlit (.int 0))) (dcons (d2 oix (dvar 11) (dlit (.int 1))) (dcons (d2 oix (dvar 11) (dlit (.int 2))) (dnil))))) [u0, u1, u2, u3, u4, u5, .rf 4, u7, u8, u9, u10] [.lst [gm, m, t0]] g = .ex 0 g) (by repeat' constructor) b hb), ⟨fun b hb tl hl g => match tl, hl with | [], _ => .inl (Every.of (P := fun m => lamF (dcallt 6 (fun m => if m = 4 then some ftold else if m = 5 then some fsecret else none) (dcons (d2 oix (dvar 11) (dlit (.int 0))) (dcons (d2 oix (dvar 11) (dlit (.int 1))) (dcons (d2 oix (dvar 11) (dlit (.int 2))) (dnil))))) [u0, u1, u2, u3, u4, u5, .rf 4, u7, u8, u9, u10] [.lst [gm, gk, m]] g = .ex 0 g) (by repeat' constructor) b hb), trivial⟩⟩⟩
abbrev p_secret : List Part := [(gm, bm), (gk, bk), (gw, bw)]
theorem w_secret {u0 u1 u2 u3 u4 u5 u7 u8 u9 u10 : Sl} : WA (lamF (dcallt 6 (fun m => if m = 4 then some ftold else if m = 5 then some fsecret else none) (dcons (d2 oix (dvar 11) (dlit (.int 0))) (dcons (d2 oix (dvar 11) (dlit (.int 1))) (dcons (d2 oix (dvar 11) (dlit (.int 2))) (dnil))))) [u0, u1, u2, u3, u4, u5, .rf 5, u7, u8, u9, u10]) [] p_secret := ⟨fun b hb tl hl g => match tl, hl with | [t0, t1], _ => .inl (Every.of (P := fun m => lamF (dcallt 6 (fun m => if m = 4 then some ftold else if m = 5 then some fsecret else none) (dcons (d2 oix (dvar 11) (dlit (.int 0))) (dcons (d2 oix (dvar 11) (dlit (.int 1))) (dcons (d2 oix (dvar 11) (dlit (.int 2))) (dnil))))) [u0, u1, u2, u3, u4, u5, .rf 5, u7, u8, u9, u10] [.lst [m, t0, t1]] g = .ex 0 g) (by repeat' constructor) b hb), ⟨fun b hb tl hl g => match tl, hl with | [t0], _ => .inl (Every.of (P := fun m => lamF (dcallt 6 (fun m => if m = 4 then some ftold else if m = 5 then some fsecret else none) (dcons (d2 oix (dvar 11) (dlit (.int 0))) (dcons (d2 oix (dvar 11) (dlit (.int 1))) (dcons (d2 oix (dvar 11) (dlit (.int 2))) (dnil))))) [u0, u1, u2, u3, u4, u5, .rf 5, u7, u8, u9, u10] [.lst [gm, m, t0]] g = .ex 0 g) (by repeat' constructor) b hb), ⟨fun b hb tl hl g => match tl, hl with | [], _ => .inl (Every.of (P := fun m => lamF (dcallt 6 (fun m => if m = 4 then some ftold else if m = 5 then some fsecret else none) (dcons (d2 oix (dvar 11) (dlit (.int 0))) (dcons (d2 oix (dvar 11) (dlit (.int 1))) (dcons (d2 oix (dvar 11) (dlit (.int 2))) (dnil))))) [u0, u1, u2, u3, u4, u5, .rf 5, u7, u8, u9, u10] [.lst [gm, gk, m]] g = .ex 0 g) (by repeat' constructor) b hb), trivial⟩⟩⟩
abbrev p_is_never : List Part := [(gm, bm), (gk, bk), (gw, bw)]
theorem w_is_never {u0 u1 u2 u3 u4 u5 u6 u7 u8 u9 u10 : Sl} : WA (lamF (dcall (fis_never) (dcons (d2 oix (dvar 11) (dlit (.int 0))) (dcons (d2 oix (dvar 11) (dlit (.int 1))) (dcons (d2 oix (dvar 11) (dlit (.int 2))) (dcons (dlit (.int 3)) (dnil)))))) [u0, u1, u2, u3, u4, u5, u6, u7, u8, u9, u10]) [] p_is_never := ⟨fun b hb tl hl g => match tl, hl with | [t0, t1], _ => .inl (Every.of (P := fun m => lamF (dcall (fis_never) (dcons (d2 oix (dvar 11) (dlit (.int 0))) (dcons (d2 oix (dvar 11) (dlit (.int 1))) (dcons (d2 oix (dvar 11) (dlit (.int 2))) (dcons (dlit (.int 3)) (dnil)))))) [u0, u1, u2, u3, u4, u5, u6, u7, u8, u9, u10] [.lst [m, t0, t1]] g = .ex 0 g) (by repeat' constructor) b hb), ⟨fun b hb tl hl g => match tl, hl with | [t0], _ => .inl (Every.of (P := fun m => lamF (dcall (fis_never) (dcons (d2 oix (dvar 11) (dlit (.int 0))) (dcons (d2 oix (dvar 11) (dlit (.int 1))) (dcons (d2 oix (dvar 11) (dlit (.int 2))) (dcons (dlit (.int 3)) (dnil)))))) [u0, u1, u2, u3, u4, u5, u6, u7, u8, u9, u10] [.lst [gm, m, t0]] g = .ex 0 g) (by repeat' constructor) b hb), ⟨fun b hb tl hl g => match tl, hl with | [], _ => .inl (Every.of (P := fun m => lamF (dcall (fis_never) (dcons (d2 oix (dvar 11) (dlit (.int 0))) (dcons (d2 oix (dvar 11) (dlit (.int 1))) (dcons (d2 oix (dvar 11) (dlit (.int 2))) (dcons (dlit (.int 3)) (dnil)))))) [u0, u1, u2, u3, u4, u5, u6, u7, u8, u9, u10] [.lst [gm, gk, m]] g = .ex 0 g) (by repeat' constructor) b hb), trivial⟩⟩⟩
abbrev p_least_sets : List Part := [(gm, bm), (gw, bw)]
theorem w_least_sets {u0 u1 u2 u3 u4 u5 u6 u7 u8 u9 u10 : Sl} : WA (lamF (dcall (fleast_sets) (dcons (d2 oix (dvar 11) (dlit (.int 0))) (dcons (d2 oix (dvar 11) (dlit (.int 1))) (dnil)))) [u0, u1, u2, u3, u4, u5, u6, u7, u8, u9, u10]) [] p_least_sets := ⟨fun b hb tl hl g => match tl, hl with | [t0], _ => .inl (Every.of (P := fun m => lamF (dcall (fleast_sets) (dcons (d2 oix (dvar 11) (dlit (.int 0))) (dcons (d2 oix (dvar 11) (dlit (.int 1))) (dnil)))) [u0, u1, u2, u3, u4, u5, u6, u7, u8, u9, u10] [.lst [m, t0]] g = .ex 0 g) (by repeat' constructor) b hb), ⟨fun b hb tl hl g => match tl, hl with | [], _ => .inl (Every.of (P := fun m => lamF (dcall (fleast_sets) (dcons (d2 oix (dvar 11) (dlit (.int 0))) (dcons (d2 oix (dvar 11) (dlit (.int 1))) (dnil)))) [u0, u1, u2, u3, u4, u5, u6, u7, u8, u9, u10] [.lst [gm, m]] g = .ex 0 g) (by repeat' constructor) b hb), trivial⟩⟩
end K01

set_option Elab.async false
set_option linter.all false
set_option maxRecDepth 100000
set_option maxHeartbeats 4000000
namespace K01
open PySem L2 Dn PyProof PyProof.Rows PySem.Builtin
variable {g : G}
abbrev Md : D := mk (gm, bm)
abbrev Ks : D := mk (gk, bk)
abbrev Wd : D := mk (gw, bw)
abbrev Ld : D := mk (gl, bl)
abbrev Ed : D := mk (ge, be)
abbrev Rd : D := mk (gr, br)
def kd : D := .str (toP (.lst [Md, Ks, Wd])).shown
theorem sl {i : Int} (h : i.natAbs ≤ 900) : decide ((PyData.shown (.int i)).length ≤ 1000) = true := by
  have := len_str_of_int i
  refine decide_eq_true ?_
  show (Str.ofString (toString i)).length ≤ 1000
  omega
theorem ls_kd : (toP (.lst [Md, Ks, Wd])).leavesShort 1000 = true := by
  simp only [mk, toP, toPs, PyData.leavesShort, PyData.leavesShortAll, sl (i := 0) (by decide), sl (i := 1) (by decide), sl (i := 2) (by decide), sl (i := 3) (by decide), sl (i := 5) (by decide), sl (i := 6) (by decide), sl (i := 7) (by decide), sl (i := 10) (by decide), sl (i := -1) (by decide), sl (i := -2) (by decide), Bool.and_self, Bool.true_and, Bool.and_true]
  decide +kernel
theorem wt_kd : (toP (.lst [Md, Ks, Wd])).weight ≤ 900 := by decide +kernel
theorem ok_kd : shownOk (.lst [Md, Ks, Wd]) = true := by
  have h1 : (toP (.lst [Md, Ks, Wd])).showable = true := by decide +kernel
  have h2 : (toP (.lst [Md, Ks, Wd])).hasDict = false := by decide +kernel
  have h3 : (toP (.lst [Md, Ks, Wd])).shown.length ≤ 1000000 := by
    have q := PyData.shown_le 1000 (by decide) _ ls_kd
    have := wt_kd
    omega
  unfold shownOk
  rw [h1, h2, decide_eq_true h3]; rfl
theorem sh_kd : sh 60 (.lst [Md, Ks, Wd]) = true := by decide +kernel
theorem repr_kd : orepr [.lst [Md, Ks, Wd]] = some (.fz, kd) := by
  unfold orepr kd
  dsimp only
  rw [if_pos ⟨sh_kd, ok_kd⟩]
abbrev Lv (ns : List Int) (s6 s7 : Sl) : Dn.Env := [.fz (.lst (ns.map .int)), .fz .box, .fz Md, .fz Ed, .fz Rd, .fz kd, s6, s7, .fz Ks, .fz Wd, .fz Ld]
theorem seq_nx {s t : DS} {ρ ρ' : Dn.Env} {g' : G} (h : s ρ g = .ok (.nx ρ') g') : dseq s t ρ g = t ρ' g' := by
  rw [e_seq, h]; rfl
theorem dhof_of {b : DF → DS} {δ da db : DE} {ρ : Dn.Env} {xs : List D} (h1 : da ρ g = .ok (.fz, .box) g) (h2 : db (ρ.map wipB) g = .ok (.fr, .lst xs) g) : dhof 5 b δ da db ρ g = dhofR 5 (b (lamF δ (ρ.map wipS))) .box (.lst xs) g := by
  unfold dhof
  rw [h1]
  dsimp only
  rw [h2]
/-- one asking -/
theorem ask {δ db : DE} {ρ : Dn.Env} {ps : List Part} (I : Inv g) (hf : Fits ps) (h1 : (dvar 1) ρ g = .ok (.fz, .box) g) (h2 : db (ρ.map wipB) g = .ok (.fr, .lst (ps.map mk)) g) (hw : WA (lamF δ (ρ.map wipS)) [] ps) :
    ∃ g', Inv g' ∧ dif (dnot (dtv (dhof 5 bn_law_right δ (dvar 1) db))) (dret (dlit (.bl false))) (dskip) ρ g = .ok (.nx ρ) g' := by
  obtain ⟨g', I', e⟩ := right_of hf hw I
  refine ⟨g', I', ?_⟩
  have e' := (dhof_of (b := bn_law_right) (δ := δ) (da := dvar 1) (db := db) (ρ := ρ) h1 h2).trans e
  simp only [e_var, e_lit, e_2, k2_eq, k2'_eq, e_1, k1_eq, e_tv, ktv_eq, e_not, knot_eq, e_and, kand_t, kand_f, e_or, kor_t, kor_f, e_andv, kandv_t, kandv_f, e_orv, korv_t, korv_f, e_notv, knotv_eq, e_ite, kite_t, kite_f, e_nil, e_cons, kcons_eq, kcons'_eq, kval_some, e_tup, ktup_eq, e_lst, klst_eq, mtup0, mtup1, mtup2, mtup3, mtup4, mtup5, mtup6, mlst0, mlst1, mlst2, mlst3, mlst5, mlst6, e_prim, kprim_eq, e_call, kcall_eq, mcall_eq, e_isi, kisi_eq, misi_eq, e_part, kpart_eq, e_nop, e_sl, ksl_eq, ksl2_eq, ksl3_eq, e_chain, kch_eq, kch1_eq, kch2_t, kch2_f, kch3_eq, e_bix, kbix_eq, kbix1_eq, kbix2_eq, e_skip, e_brk, e_cnt, e_retN, e_raise, e_seq, kseq_nx, kseq_rt, kseq_bk, kseq_ct, e_drop, kdrop_eq, e_ret, kret_fz, kret_fr, e_retv, kretv_fz, kretv_ow, e_if, kif_t, kif_f, e_set, kset_fz, kset_fr, e_freeze, kfreeze_ow, kfreeze_fz, e_par, kpar_eq, kpar2_eq, mpar_eq, sl_fz, sl_fr, e_par3, kpar3_eq, mpar3_eq, e_for, kfor_eq, e_fun, kfun_nx, kfun_fz, kfun_fr, kfun_ex, kvar_fz, kvar_ow, kopt_some, e_seti, kseti_ow, kseti_box, ksb_eq, msb_eq, kso_fz, kso_fr, mso_eq, e_app, kapp_eq, kapp'_fz, kapp'_fr, e_pop, kpop_eq, mpop_eq, e_asg, kasg_fz, kasg_fr, masg_eq, e_gname, e_gnil, e_gcons, e_seqv, kseqv_l, kseqv_t, kseqv_f, kseqv_b, klc'_eq, klc_eq, e_lc, e_rng1, e_rng2, e_rng3, e_enum, kenum_t, kenum_l, kenum_f, e_lrng, klrng_eq, e_trng, ktrng_eq, e_ss, e_lc2, klc2_eq, e_sd2, ksd2_eq, Re.bind_ok, Re.bind_ex, vals_nil, vals_fz, vals_fr, List.getElem?_cons_zero, List.getElem?_cons_succ, List.set_cons_zero, List.set_cons_succ, List.map_cons, List.map_nil, List.replicate_succ, List.replicate_zero, List.cons_append, List.nil_append, Option.map_some, Option.map_none, Option.bind_some, noex_ok, wipeE_nil, wipeE_cons, e', Bool.not_true]
theorem two {δ db : DE} {b : DS} {ns : List Int} {s6 s7 : Sl} {ps : List Part} {i j : Nat} (hb : b = dif (dnot (dtv (dhof 5 bn_law_right δ (dvar 1) db))) (dret (dlit (.bl false))) (dskip)) (I : Inv g) (hf : Fits ps) (h2 : ∀ (s : Sl) (g : G), db ((Lv ns s s7).map wipB) g = .ok (.fr, .lst (ps.map mk)) g)
    (hi : WA (lamF δ ((Lv ns (.rf i) s7).map wipS)) [] ps) (hj : WA (lamF δ ((Lv ns (.rf j) s7).map wipS)) [] ps) : ∃ g', Inv g' ∧ dforfn 6 [i, j] b (Lv ns s6 s7) g = .ok (.nx (Lv ns (.rf j) s7)) g' := by
  obtain ⟨g1, I1, e1⟩ := ask (g := g) (δ := δ) (db := db) (ρ := Lv ns (.rf i) s7) I hf rfl (h2 _ _) hi
  obtain ⟨g2, I2, e2⟩ := ask (g := g1) (δ := δ) (db := db) (ρ := Lv ns (.rf j) s7) I1 hf rfl (h2 _ _) hj
  rw [← hb] at e1 e2
  refine ⟨g2, I2, ?_⟩
  unfold dforfn
  rw [List.map_cons, List.map_cons, List.map_nil, forL_nx (show fnb 6 b (.int (i : Int)) (Lv ns s6 s7) g = .ok (.nx (Lv ns (.rf i) s7)) g1 from e1), forL_nx (show fnb 6 b (.int (j : Int)) (Lv ns (.rf i) s7) g1 = .ok (.nx (Lv ns (.rf j) s7)) g2 from e2)]
  rfl
theorem fits1 : Fits p_check_machine := ⟨by decide, by decide⟩
theorem fits2 : Fits p_is_run := ⟨by decide, by decide⟩
theorem fits3 : Fits p_log_of := ⟨by decide, by decide⟩
theorem fits4 : Fits p_states_behind := ⟨by decide, by decide⟩
theorem fits5 : Fits p_answer := ⟨by decide, by decide⟩
theorem fits6 : Fits p_answer_left := ⟨by decide, by decide⟩
theorem fits7 : Fits p_told := ⟨by decide, by decide⟩
theorem fits8 : Fits p_least_sets := ⟨by decide, by decide⟩
end K01

set_option Elab.async false
set_option linter.all false
set_option maxRecDepth 100000
set_option maxHeartbeats 4000000
namespace K01
open PySem L2 Dn PyProof PyProof.Rows PySem.Builtin
variable {g : G}
theorem enough_bad : ∀ m ∈ bE, fenough [gm, gw, m] g = .ex 2 g := Every.of (by repeat' constructor)
theorem F4_ok {ns : List Int} {s6 s7 : Sl} {m : D} (h : fenough [gm, gw, m] g = .ex 2 g) : fbody (gname 7) blaw_F4 m (Lv ns s6 s7) g = .ok (.nx (Lv ns s6 (.fz m))) g := by
  rw [fbody_eq (ρ' := Lv ns s6 (.fz m)) rfl]
  have hT : dtold (fn_law_read 12) rg "range" "other" (dcall (fenough) (dcons (d2 oix (dvar 2) (dlit (.int 0))) (dcons (d2 oix (dvar 9) (dlit (.int 0))) (dcons (dvar 7) (dnil))))) (Lv ns s6 (.fz m)) g = .ok (.fz, .tup [.int 1, .str "range"]) g := by
    rw [e_told, show dcall (fenough) (dcons (d2 oix (dvar 2) (dlit (.int 0))) (dcons (d2 oix (dvar 9) (dlit (.int 0))) (dcons (dvar 7) (dnil)))) (Lv ns s6 (.fz m)) g = fenough [gm, gw, m] g from rfl, h]
    exact told_ex (b := true) rfl
  have one_f : one (.tup [.int 1, .str "range"]) (.tup [.int 1, .str "range"]) = some (.fz, .bl false) := by rfl
  unfold blaw_F4
  simp only [e_var, e_lit, e_2, k2_eq, k2'_eq, e_1, k1_eq, e_tv, ktv_eq, e_not, knot_eq, e_and, kand_t, kand_f, e_or, kor_t, kor_f, e_andv, kandv_t, kandv_f, e_orv, korv_t, korv_f, e_notv, knotv_eq, e_ite, kite_t, kite_f, e_nil, e_cons, kcons_eq, kcons'_eq, kval_some, e_tup, ktup_eq, e_lst, klst_eq, mtup0, mtup1, mtup2, mtup3, mtup4, mtup5, mtup6, mlst0, mlst1, mlst2, mlst3, mlst5, mlst6, e_prim, kprim_eq, e_call, kcall_eq, mcall_eq, e_isi, kisi_eq, misi_eq, e_part, kpart_eq, e_nop, e_sl, ksl_eq, ksl2_eq, ksl3_eq, e_chain, kch_eq, kch1_eq, kch2_t, kch2_f, kch3_eq, e_bix, kbix_eq, kbix1_eq, kbix2_eq, e_skip, e_brk, e_cnt, e_retN, e_raise, e_seq, kseq_nx, kseq_rt, kseq_bk, kseq_ct, e_drop, kdrop_eq, e_ret, kret_fz, kret_fr, e_retv, kretv_fz, kretv_ow, e_if, kif_t, kif_f, e_set, kset_fz, kset_fr, e_freeze, kfreeze_ow, kfreeze_fz, e_par, kpar_eq, kpar2_eq, mpar_eq, sl_fz, sl_fr, e_par3, kpar3_eq, mpar3_eq, e_for, kfor_eq, e_fun, kfun_nx, kfun_fz, kfun_fr, kfun_ex, kvar_fz, kvar_ow, kopt_some, e_seti, kseti_ow, kseti_box, ksb_eq, msb_eq, kso_fz, kso_fr, mso_eq, e_app, kapp_eq, kapp'_fz, kapp'_fr, e_pop, kpop_eq, mpop_eq, e_asg, kasg_fz, kasg_fr, masg_eq, e_gname, e_gnil, e_gcons, e_seqv, kseqv_l, kseqv_t, kseqv_f, kseqv_b, klc'_eq, klc_eq, e_lc, e_rng1, e_rng2, e_rng3, e_enum, kenum_t, kenum_l, kenum_f, e_lrng, klrng_eq, e_trng, ktrng_eq, e_ss, e_lc2, klc2_eq, e_sd2, ksd2_eq, Re.bind_ok, Re.bind_ex, vals_nil, vals_fz, vals_fr, List.getElem?_cons_zero, List.getElem?_cons_succ, List.set_cons_zero, List.set_cons_succ, List.map_cons, List.map_nil, List.replicate_succ, List.replicate_zero, List.cons_append, List.nil_append, Option.map_some, Option.map_none, Option.bind_some, noex_ok, wipeE_nil, wipeE_cons, osub_ii, oadd_ii, olt_ii, ole_ii, ogt_ii, oge_ii, oneg_i, olen_t, olen_l, otuple_t, otuple_l, olist_t, olist_l, oint_i, oabs_i, is_nn, is_in, is_sn, is_tn, is_ln, is_bn, is_nb, is_ib, is_sb, is_tb, is_lb, is_bb, isnt_n, isnt_t, isnt_i, isnt_l, ty_n, ty_b, ty_i, ty_s, ty_t, ty_l, oix_t0, oix_t1, oix_t2, oeq_ii, oeq_ss, one_ii, sub_ii, sub_ib, sub_bi, sub_is, sub_it, sub_il, sub_si, sub_ss, sub_st, sub_sl, sub_sb, sub_ti, sub_ts, sub_tt, sub_tl, sub_tb, sub_li, sub_ls, sub_lt, sub_ll, sub_ni, sub_nt, hT, one_f]
theorem F4_loop {ns : List Int} {s6 : Sl} : ∀ (bs : List D) (s7 : Sl), (∀ m ∈ bs, fenough [gm, gw, m] g = .ex 2 g) → ∃ s7', forL (fbody (gname 7) blaw_F4) bs (Lv ns s6 s7) g = .ok (.nx (Lv ns s6 s7')) g
  | [], s7, _ => ⟨s7, rfl⟩
  | b :: bs, s7, h => by
    obtain ⟨t, e⟩ := F4_loop (ns := ns) (s6 := s6) bs (.fz b) (fun m hm => h m (.tail _ hm))
    exact ⟨t, by rw [forL_nx (F4_ok (h b (.head _)))]; exact e⟩

theorem kd_eq : oeq kd kd = some (.fz, .bl true) := by
  unfold kd
  rw [oeq_ss, beq_self_eq_true]
theorem repr_at {ns : List Int} {s5 s6 s7 : Sl} : dprim orepr (dcons (dlst (dcons (dvar 2) (dcons (dvar 8) (dcons (dvar 9) (dnil))))) (dnil)) [.fz (.lst (ns.map .int)), .fz .box, .fz Md, .fz Ed, .fz Rd, s5, s6, s7, .fz Ks, .fz Wd, .fz Ld] g = .ok (.fz, kd) g := by
  simp only [e_var, e_lit, e_2, k2_eq, k2'_eq, e_1, k1_eq, e_tv, ktv_eq, e_not, knot_eq, e_and, kand_t, kand_f, e_or, kor_t, kor_f, e_andv, kandv_t, kandv_f, e_orv, korv_t, korv_f, e_notv, knotv_eq, e_ite, kite_t, kite_f, e_nil, e_cons, kcons_eq, kcons'_eq, kval_some, e_tup, ktup_eq, e_lst, klst_eq, mtup0, mtup1, mtup2, mtup3, mtup4, mtup5, mtup6, mlst0, mlst1, mlst2, mlst3, mlst5, mlst6, e_prim, kprim_eq, e_call, kcall_eq, mcall_eq, e_isi, kisi_eq, misi_eq, e_part, kpart_eq, e_nop, e_sl, ksl_eq, ksl2_eq, ksl3_eq, e_chain, kch_eq, kch1_eq, kch2_t, kch2_f, kch3_eq, e_bix, kbix_eq, kbix1_eq, kbix2_eq, e_skip, e_brk, e_cnt, e_retN, e_raise, e_seq, kseq_nx, kseq_rt, kseq_bk, kseq_ct, e_drop, kdrop_eq, e_ret, kret_fz, kret_fr, e_retv, kretv_fz, kretv_ow, e_if, kif_t, kif_f, e_set, kset_fz, kset_fr, e_freeze, kfreeze_ow, kfreeze_fz, e_par, kpar_eq, kpar2_eq, mpar_eq, sl_fz, sl_fr, e_par3, kpar3_eq, mpar3_eq, e_for, kfor_eq, e_fun, kfun_nx, kfun_fz, kfun_fr, kfun_ex, kvar_fz, kvar_ow, kopt_some, e_seti, kseti_ow, kseti_box, ksb_eq, msb_eq, kso_fz, kso_fr, mso_eq, e_app, kapp_eq, kapp'_fz, kapp'_fr, e_pop, kpop_eq, mpop_eq, e_asg, kasg_fz, kasg_fr, masg_eq, e_gname, e_gnil, e_gcons, e_seqv, kseqv_l, kseqv_t, kseqv_f, kseqv_b, klc'_eq, klc_eq, e_lc, e_rng1, e_rng2, e_rng3, e_enum, kenum_t, kenum_l, kenum_f, e_lrng, klrng_eq, e_trng, ktrng_eq, e_ss, e_lc2, klc2_eq, e_sd2, ksd2_eq, Re.bind_ok, Re.bind_ex, vals_nil, vals_fz, vals_fr, List.getElem?_cons_zero, List.getElem?_cons_succ, List.set_cons_zero, List.set_cons_succ, List.map_cons, List.map_nil, List.replicate_succ, List.replicate_zero, List.cons_append, List.nil_append, Option.map_some, Option.map_none, Option.bind_some, noex_ok, wipeE_nil, wipeE_cons, repr_kd]
theorem set_of {i : Nat} {a : DE} {ρ : Dn.Env} {g' : G} {d : D} (h : a ρ g = .ok (.fz, d) g') : dset i a ρ g = .ok (.nx (ρ.set i (.fz d))) g' := by
  rw [e_set, h]; rfl
theorem box_of {i : Nat} {δ : DS} {ρ : Dn.Env} {ds : List D} {ns : List Int} {b : Bool} {g' : G} (h : ρ[i]? = some (.ow (.lst ds))) (hi : intsD ds = some ns) (hb : δ (ρ.set i (.fz .box)) ns = .ok (.rt .fz (.bl b)) g') : dbox i δ ρ g = .ok (.rt .fz (.bl b)) g' := by
  unfold dbox
  rw [h]
  dsimp only
  rw [hi]
  dsimp only
  rw [hb]
theorem fun_of {m : Nat} {s : DS} {ds : List D} {d : D} {g' : G} (h : s (ds.map .fz ++ List.replicate m .un) g = .ok (.rt .fz d) g') : dfun m s ds g = .ok (.fz, d) g' := by
  rw [e_fun, h]; rfl
theorem for_of {it : DI} {γ : DG} {s : DS} {ρ ρ' : Dn.Env} {ds : List D} {g' : G} (h1 : it ρ g = .ok ds g) (h2 : forL (fbody γ s) ds ρ g = .ok (.nx ρ') g') : dfor it γ s ρ g = .ok (.nx ρ') g' := by
  rw [e_for, h1]; exact h2
theorem ret_eq {x : D} {a b : DE} {ρ : Dn.Env} {g1 g2 : G} (h1 : a ρ g = .ok (.fz, x) g1) (h2 : b ρ g1 = .ok (.fz, x) g2) (h : oeq x x = some (.fz, .bl true)) : dret (d2 oeq a b) ρ g = .ok (.rt .fz (.bl true)) g2 := by
  simp only [e_var, e_lit, e_2, k2_eq, k2'_eq, e_1, k1_eq, e_tv, ktv_eq, e_not, knot_eq, e_and, kand_t, kand_f, e_or, kor_t, kor_f, e_andv, kandv_t, kandv_f, e_orv, korv_t, korv_f, e_notv, knotv_eq, e_ite, kite_t, kite_f, e_nil, e_cons, kcons_eq, kcons'_eq, kval_some, e_tup, ktup_eq, e_lst, klst_eq, mtup0, mtup1, mtup2, mtup3, mtup4, mtup5, mtup6, mlst0, mlst1, mlst2, mlst3, mlst5, mlst6, e_prim, kprim_eq, e_call, kcall_eq, mcall_eq, e_isi, kisi_eq, misi_eq, e_part, kpart_eq, e_nop, e_sl, ksl_eq, ksl2_eq, ksl3_eq, e_chain, kch_eq, kch1_eq, kch2_t, kch2_f, kch3_eq, e_bix, kbix_eq, kbix1_eq, kbix2_eq, e_skip, e_brk, e_cnt, e_retN, e_raise, e_seq, kseq_nx, kseq_rt, kseq_bk, kseq_ct, e_drop, kdrop_eq, e_ret, kret_fz, kret_fr, e_retv, kretv_fz, kretv_ow, e_if, kif_t, kif_f, e_set, kset_fz, kset_fr, e_freeze, kfreeze_ow, kfreeze_fz, e_par, kpar_eq, kpar2_eq, mpar_eq, sl_fz, sl_fr, e_par3, kpar3_eq, mpar3_eq, e_for, kfor_eq, e_fun, kfun_nx, kfun_fz, kfun_fr, kfun_ex, kvar_fz, kvar_ow, kopt_some, e_seti, kseti_ow, kseti_box, ksb_eq, msb_eq, kso_fz, kso_fr, mso_eq, e_app, kapp_eq, kapp'_fz, kapp'_fr, e_pop, kpop_eq, mpop_eq, e_asg, kasg_fz, kasg_fr, masg_eq, e_gname, e_gnil, e_gcons, e_seqv, kseqv_l, kseqv_t, kseqv_f, kseqv_b, klc'_eq, klc_eq, e_lc, e_rng1, e_rng2, e_rng3, e_enum, kenum_t, kenum_l, kenum_f, e_lrng, klrng_eq, e_trng, ktrng_eq, e_ss, e_lc2, klc2_eq, e_sd2, ksd2_eq, Re.bind_ok, Re.bind_ex, vals_nil, vals_fz, vals_fr, List.getElem?_cons_zero, List.getElem?_cons_succ, List.set_cons_zero, List.set_cons_succ, List.map_cons, List.map_nil, List.replicate_succ, List.replicate_zero, List.cons_append, List.nil_append, Option.map_some, Option.map_none, Option.bind_some, noex_ok, wipeE_nil, wipeE_cons, h1, h2, h]
theorem s1 {ns : List Int} {a b : Int} : (dset 2 (dtup (dcons (dtup (dcons (dlit (.int 2)) (dcons (dlit (.int 2)) (dcons (dtup (dcons (dlit (.int 0)) (dnil))) (dcons (dtup (dcons (dtup (dcons (dlit (.int 0)) (dcons (dlit (.int 0)) (dcons (dlit (.int 1)) (dnil))))) (dcons (dtup (dcons (dlit (.int 1)) (dcons (dlit (.int 1)) (dcons (dlit (.int 0)) (dnil))))) (dnil)))) (dnil)))))) (dcons (dcall (fn_law_bad_machines) dnil) (dnil))))) [.fz (.lst (ns.map .int)), .fz .box, .un, .un, .un, .un, .un, .un, .un, .un, .un] [a, b] = .ok (.nx [.fz (.lst (ns.map .int)), .fz .box, .fz Md, .un, .un, .un, .un, .un, .un, .un, .un]) [a, b] := rfl
theorem s2 {ns : List Int} {a b : Int} : (dasg (gtup 3 (gcons (gname 8) (gcons (gname 9) (gcons (gname 10) (gnil))))) (dtup (dcons (dtup (dcons (dtup (dcons (dlit (.int 0)) (dcons (d1 oneg (dlit (.int 1))) (dnil)))) (dcons (dcall (fn_law_bad_marks) dnil) (dnil)))) (dcons (dtup (dcons (dtup (dcons (dlit (.int 2)) (dcons (dlit (.int 0)) (dcons (dtup (dcons (dtup (dcons (dlit (.int 0)) (dcons (dlit (.int 1)) (dnil)))) (dcons (dtup (dcons (dlit (.int 1)) (dcons (dlit (.int 1)) (dnil)))) (dnil)))) (dcons (dtup (dcons (dlit (.int 1)) (dnil))) (dnil)))))) (dcons (dcall (fn_law_bad_watches) dnil) (dnil)))) (dcons (dtup (dcons (dtup (dcons (dlit (.int 0)) (dcons (dlit (.int 0)) (dnil)))) (dcons (dcall (fn_law_bad_logs) dnil) (dnil)))) (dnil)))))) [.fz (.lst (ns.map .int)), .fz .box, .fz Md, .un, .un, .un, .un, .un, .un, .un, .un] [a, b] = .ok (.nx [.fz (.lst (ns.map .int)), .fz .box, .fz Md, .un, .un, .un, .un, .un, .fz Ks, .fz Wd, .fz Ld]) [a, b] := rfl
theorem s3 {ns : List Int} {a b : Int} : (dset 3 (dtup (dcons (dtup (dcons (dlit (.int 0)) (dcons (dlit (.int 1)) (dnil)))) (dcons (dlst (dcons (dlit (.int 3)) (dcons (dtup (dcons (dlit (.int 2)) (dnil))) (dcons (dtup (dcons (dlit (.str "0")) (dnil))) (dcons (dlit (.str "0")) (dcons (dtup (dcons (d1 oneg (dlit (.int 1))) (dnil))) (dcons (dtup (dcons (dtup (dcons (dlit (.int 0)) (dnil))) (dnil))) (dnil)))))))) (dnil))))) [.fz (.lst (ns.map .int)), .fz .box, .fz Md, .un, .un, .un, .un, .un, .fz Ks, .fz Wd, .fz Ld] [a, b] = .ok (.nx [.fz (.lst (ns.map .int)), .fz .box, .fz Md, .fz Ed, .un, .un, .un, .un, .fz Ks, .fz Wd, .fz Ld]) [a, b] := rfl
theorem s4 {ns : List Int} {a b : Int} : (dset 4 (dtup (dcons (dtup (dcons (dlit (.str "last")) (dcons (dlit (.int 1)) (dnil)))) (dcons (dlst (dcons (dlit (.int 3)) (dcons (dtup (dnil)) (dcons (dtup (dcons (dlit (.str "last")) (dnil))) (dcons (dtup (dcons (dlit (.str "last")) (dcons (dlit (.int 0)) (dnil)))) (dcons (dtup (dcons (dlit (.str "first")) (dcons (dlit (.str "1")) (dnil)))) (dcons (dtup (dcons (dlit (.str "only")) (dcons (dtup (dcons (dlit (.int 1)) (dcons (dlit (.int 0)) (dnil)))) (dnil)))) (dcons (dtup (dcons (dlit (.str "all")) (dcons (dlit (.int 1)) (dnil)))) (dcons (dtup (dcons (dlit (.str "some")) (dcons (dlit (.int 1)) (dnil)))) (dcons (dlit (.str "all")) (dnil))))))))))) (dnil))))) [.fz (.lst (ns.map .int)), .fz .box, .fz Md, .fz Ed, .un, .un, .un, .un, .fz Ks, .fz Wd, .fz Ld] [a, b] = .ok (.nx [.fz (.lst (ns.map .int)), .fz .box, .fz Md, .fz Ed, .fz Rd, .un, .un, .un, .fz Ks, .fz Wd, .fz Ld]) [a, b] := rfl
theorem s5 {ns : List Int} {a b : Int} : (dset 5 (dprim orepr (dcons (dlst (dcons (dvar 2) (dcons (dvar 8) (dcons (dvar 9) (dnil))))) (dnil)))) [.fz (.lst (ns.map .int)), .fz .box, .fz Md, .fz Ed, .fz Rd, .un, .un, .un, .fz Ks, .fz Wd, .fz Ld] [a, b] = .ok (.nx (Lv ns .un .un)) [a, b] := set_of repr_at
theorem last_ok {ns : List Int} {s6 s7 : Sl} : dseq (dfor (dseqv true (dlst (dcons (dlit (.int 3)) (dcons (dtup (dcons (dlit (.int 1)) (dcons (dlit (.int 0)) (dnil)))) (dcons (dtup (dcons (dlit (.int 2)) (dnil))) (dcons (dtup (dcons (dlit (.str "0")) (dnil))) (dcons (dlit (.str "0")) (dnil)))))))) (gname 7) (blaw_F4)) (dret (d2 oeq (dprim orepr (dcons (dlst (dcons (dvar 2) (dcons (dvar 8) (dcons (dvar 9) (dnil))))) (dnil))) (dvar 5))) (Lv ns s6 s7) g = .ok (.rt .fz (.bl true)) g := by
  obtain ⟨t7, e10⟩ := F4_loop (g := g) (ns := ns) (s6 := s6) bE s7 enough_bad
  exact (seq_nx (for_of (ds := bE) rfl e10)).trans (ret_eq repr_at rfl kd_eq)
theorem law_true : ∀ ns : List Int, ns.length ≤ 63 → (∀ z ∈ ns, Builtin.Int.intBits z ≤ 1048576) → ∃ g', flaw [.lst (ns.map .int)] [] = .ok (.fz, .bl true) g' := fun ns _ _ => by
  obtain ⟨a, b, hs⟩ := stream_ok ns
  obtain ⟨g1, I1, e1⟩ := two (g := [a, b]) (ns := ns) (s6 := .un) (s7 := .un) (i := 0) (j := 1) (b := blaw_F1) rfl ⟨a, b, rfl⟩ fits1 (fun _ _ => rfl) w_check_machine w_is_lively
  obtain ⟨g2, I2, e2⟩ := ask (g := g1) (ρ := Lv ns (.rf 1) .un) (db := dlst (dcons (dvar 2) (dcons (dvar 3) (dnil)))) I1 fits2 rfl rfl w_is_run
  obtain ⟨g3, I3, e3⟩ := ask (g := g2) (ρ := Lv ns (.rf 1) .un) (db := dlst (dcons (dtup (dcons (d2 oix (dvar 8) (dlit (.int 0))) (dcons (dlst (dcons (dlit (.int 3)) (dcons (dtup (dnil)) (dcons (dtup (dcons (dlit (.int 1)) (dcons (d1 oneg (dlit (.int 2))) (dnil)))) (dcons (dtup (dcons (dlit (.int 1)) (dcons (dlit (.str "2")) (dnil)))) (dcons (dlit (.str "12")) (dcons (d2 omul (dtup (dcons (dlit (.int 0)) (dnil))) (dlit (.int 6))) (dnil)))))))) (dnil)))) (dcons (dvar 3) (dnil)))) I2 fits3 rfl rfl w_log_of
  obtain ⟨g4, I4, e4⟩ := two (g := g3) (ns := ns) (s6 := .rf 1) (s7 := .un) (i := 2) (j := 3) (b := blaw_F2) rfl I3 fits4 (fun _ _ => rfl) w_states_behind w_fitting_run
  obtain ⟨g5, I5, e5⟩ := ask (g := g4) (ρ := Lv ns (.rf 3) .un) (db := dlst (dcons (dvar 2) (dcons (dvar 8) (dcons (dvar 9) (dcons (dvar 10) (dnil)))))) I4 fits5 rfl rfl w_answer
  obtain ⟨g6, I6, e6⟩ := ask (g := g5) (ρ := Lv ns (.rf 3) .un) (db := dlst (dcons (dvar 2) (dcons (dvar 8) (dcons (dvar 9) (dcons (dvar 4) (dcons (dvar 10) (dnil))))))) I5 fits6 rfl rfl w_answer_left
  obtain ⟨g7, I7, e7⟩ := two (g := g6) (ns := ns) (s6 := .rf 3) (s7 := .un) (i := 4) (j := 5) (b := blaw_F3) rfl I6 fits7 (fun _ _ => rfl) w_told w_secret
  obtain ⟨g8, I8, e8⟩ := ask (g := g7) (ρ := Lv ns (.rf 5) .un) (db := dlst (dcons (dvar 2) (dcons (dvar 8) (dcons (dvar 9) (dnil))))) I7 fits7 rfl rfl w_is_never
  obtain ⟨g9, I9, e9⟩ := ask (g := g8) (ρ := Lv ns (.rf 5) .un) (db := dlst (dcons (dvar 2) (dcons (dvar 9) (dnil)))) I8 fits8 rfl rfl w_least_sets
  exact ⟨g9, fun_of (s := blaw) (ds := [.lst (ns.map .int)]) ((seq_nx (ρ' := [.fz (.lst (ns.map .int)), .ow (.lst [.int a, .int b]), .un, .un, .un, .un, .un, .un, .un, .un, .un]) (g' := []) (by simp only [e_var, e_lit, e_2, k2_eq, k2'_eq, e_1, k1_eq, e_tv, ktv_eq, e_not, knot_eq, e_and, kand_t, kand_f, e_or, kor_t, kor_f, e_andv, kandv_t, kandv_f, e_orv, korv_t, korv_f, e_notv, knotv_eq, e_ite, kite_t, kite_f, e_nil, e_cons, kcons_eq, kcons'_eq, kval_some, e_tup, ktup_eq, e_lst, klst_eq, mtup0, mtup1, mtup2, mtup3, mtup4, mtup5, mtup6, mlst0, mlst1, mlst2, mlst3, mlst5, mlst6, e_prim, kprim_eq, e_call, kcall_eq, mcall_eq, e_isi, kisi_eq, misi_eq, e_part, kpart_eq, e_nop, e_sl, ksl_eq, ksl2_eq, ksl3_eq, e_chain, kch_eq, kch1_eq, kch2_t, kch2_f, kch3_eq, e_bix, kbix_eq, kbix1_eq, kbix2_eq, e_skip, e_brk, e_cnt, e_retN, e_raise, e_seq, kseq_nx, kseq_rt, kseq_bk, kseq_ct, e_drop, kdrop_eq, e_ret, kret_fz, kret_fr, e_retv, kretv_fz, kretv_ow, e_if, kif_t, kif_f, e_set, kset_fz, kset_fr, e_freeze, kfreeze_ow, kfreeze_fz, e_par, kpar_eq, kpar2_eq, mpar_eq, sl_fz, sl_fr, e_par3, kpar3_eq, mpar3_eq, e_for, kfor_eq, e_fun, kfun_nx, kfun_fz, kfun_fr, kfun_ex, kvar_fz, kvar_ow, kopt_some, e_seti, kseti_ow, kseti_box, ksb_eq, msb_eq, kso_fz, kso_fr, mso_eq, e_app, kapp_eq, kapp'_fz, kapp'_fr, e_pop, kpop_eq, mpop_eq, e_asg, kasg_fz, kasg_fr, masg_eq, e_gname, e_gnil, e_gcons, e_seqv, kseqv_l, kseqv_t, kseqv_f, kseqv_b, klc'_eq, klc_eq, e_lc, e_rng1, e_rng2, e_rng3, e_enum, kenum_t, kenum_l, kenum_f, e_lrng, klrng_eq, e_trng, ktrng_eq, e_ss, e_lc2, klc2_eq, e_sd2, ksd2_eq, Re.bind_ok, Re.bind_ex, vals_nil, vals_fz, vals_fr, List.getElem?_cons_zero, List.getElem?_cons_succ, List.set_cons_zero, List.set_cons_succ, List.map_cons, List.map_nil, List.replicate_succ, List.replicate_zero, List.cons_append, List.nil_append, Option.map_some, Option.map_none, Option.bind_some, noex_ok, wipeE_nil, wipeE_cons, hs])).trans (box_of (ds := [.int a, .int b]) (ns := [a, b]) rfl rfl ((seq_nx s1).trans ((seq_nx s2).trans ((seq_nx s3).trans ((seq_nx s4).trans ((seq_nx s5).trans
    ((seq_nx e1).trans ((seq_nx e2).trans ((seq_nx e3).trans ((seq_nx e4).trans ((seq_nx e5).trans ((seq_nx e6).trans ((seq_nx e7).trans ((seq_nx e8).trans ((seq_nx e9).trans last_ok))))))))))))))))⟩
end K01

set_option Elab.async false
set_option linter.all false
set_option maxRecDepth 100000
set_option maxHeartbeats 8000000
namespace K01
open PySem PySem.Spec PyProof.Rows L2 Dn
theorem all_mk {w : World} {K : PySem.W.Frag} {h : Heap} {mg : Str → Option Value} {fa : Addr} (X : K.In h) (G : h.Ns mainGlobals mg) (hfa : mg "law" = some (.ref fa)) (OT_n_law_right : ∀ fa, mg "_law_right" = some (.ref fa) → LamX.OwnTab K fa h) (OT_law : ∀ fa, mg "law" = some (.ref fa) → LamX.OwnTab K fa h)
    {f_is_integer : Addr} {od_is_integer an_is_integer : Option Addr} {sl_is_integer : Array (Option Value)} {oc_is_integer kV_is_integer dc_is_integer pm_is_integer ct_is_integer : Value} {cd_is_integer : Value}
    {f_is_below : Addr} {od_is_below an_is_below : Option Addr} {sl_is_below : Array (Option Value)} {oc_is_below kV_is_below dc_is_below pm_is_below ct_is_below : Value} {cd_is_below : Value}
    {f_is_between : Addr} {od_is_between an_is_between : Option Addr} {sl_is_between : Array (Option Value)} {oc_is_between kV_is_between dc_is_between pm_is_between ct_is_between : Value} {cd_is_between : Value}
    {f_is_set : Addr} {od_is_set an_is_set : Option Addr} {sl_is_set : Array (Option Value)} {oc_is_set kV_is_set dc_is_set pm_is_set ct_is_set : Value} {cd_is_set : Value}
    {f_is_arrow : Addr} {od_is_arrow an_is_arrow : Option Addr} {sl_is_arrow : Array (Option Value)} {oc_is_arrow kV_is_arrow dc_is_arrow pm_is_arrow ct_is_arrow : Value} {cd_is_arrow : Value}
    {f_check_machine_alone : Addr} {od_check_machine_alone an_check_machine_alone : Option Addr} {sl_check_machine_alone : Array (Option Value)} {oc_check_machine_alone kV_check_machine_alone dc_check_machine_alone pm_check_machine_alone ct_check_machine_alone : Value} {cd_check_machine_alone : Value}
    {f_check_marks : Addr} {od_check_marks an_check_marks : Option Addr} {sl_check_marks : Array (Option Value)} {oc_check_marks kV_check_marks dc_check_marks pm_check_marks ct_check_marks : Value} {cd_check_marks : Value}
    {f_check_both : Addr} {od_check_both an_check_both : Option Addr} {sl_check_both : Array (Option Value)} {oc_check_both kV_check_both dc_check_both pm_check_both ct_check_both : Value} {cd_check_both : Value}
    {f_check_watch : Addr} {od_check_watch an_check_watch : Option Addr} {sl_check_watch : Array (Option Value)} {oc_check_watch kV_check_watch dc_check_watch pm_check_watch ct_check_watch : Value} {cd_check_watch : Value}
    {f_check_all : Addr} {od_check_all an_check_all : Option Addr} {sl_check_all : Array (Option Value)} {oc_check_all kV_check_all dc_check_all pm_check_all ct_check_all : Value} {cd_check_all : Value}
    {f_check_log : Addr} {od_check_log an_check_log : Option Addr} {sl_check_log : Array (Option Value)} {oc_check_log kV_check_log dc_check_log pm_check_log ct_check_log : Value} {cd_check_log : Value}
    {f_check_machine : Addr} {od_check_machine an_check_machine : Option Addr} {sl_check_machine : Array (Option Value)} {oc_check_machine kV_check_machine dc_check_machine pm_check_machine ct_check_machine : Value} {cd_check_machine : Value}
    {f_is_run : Addr} {od_is_run an_is_run : Option Addr} {sl_is_run : Array (Option Value)} {oc_is_run kV_is_run dc_is_run pm_is_run ct_is_run : Value} {cd_is_run : Value}
    {f_check_events : Addr} {od_check_events an_check_events : Option Addr} {sl_check_events : Array (Option Value)} {oc_check_events kV_check_events dc_check_events pm_check_events ct_check_events : Value} {cd_check_events : Value}
    {f_states_after : Addr} {od_states_after an_states_after : Option Addr} {sl_states_after : Array (Option Value)} {oc_states_after kV_states_after dc_states_after pm_states_after ct_states_after : Value} {cd_states_after : Value}
    {f_log_of : Addr} {od_log_of an_log_of : Option Addr} {sl_log_of : Array (Option Value)} {oc_log_of kV_log_of dc_log_of pm_log_of ct_log_of : Value} {cd_log_of : Value}
    {f_lines_of : Addr} {od_lines_of an_lines_of : Option Addr} {sl_lines_of : Array (Option Value)} {oc_lines_of kV_lines_of dc_lines_of pm_lines_of ct_lines_of : Value} {cd_lines_of : Value}
    {f_is_lively_machine : Addr} {od_is_lively_machine an_is_lively_machine : Option Addr} {sl_is_lively_machine : Array (Option Value)} {oc_is_lively_machine kV_is_lively_machine dc_is_lively_machine pm_is_lively_machine ct_is_lively_machine : Value} {cd_is_lively_machine : Value}
    {f_is_lively : Addr} {od_is_lively an_is_lively : Option Addr} {sl_is_lively : Array (Option Value)} {oc_is_lively kV_is_lively dc_is_lively pm_is_lively ct_is_lively : Value} {cd_is_lively : Value}
    {f_states_behind : Addr} {od_states_behind an_states_behind : Option Addr} {sl_states_behind : Array (Option Value)} {oc_states_behind kV_states_behind dc_states_behind pm_states_behind ct_states_behind : Value} {cd_states_behind : Value}
    {f_told : Addr} {od_told an_told : Option Addr} {sl_told : Array (Option Value)} {oc_told kV_told dc_told pm_told ct_told : Value} {cd_told : Value}
    {f_stays : Addr} {od_stays an_stays : Option Addr} {sl_stays : Array (Option Value)} {oc_stays kV_stays dc_stays pm_stays ct_stays : Value} {cd_stays : Value}
    {f_check_end : Addr} {od_check_end an_check_end : Option Addr} {sl_check_end : Array (Option Value)} {oc_check_end kV_check_end dc_check_end pm_check_end ct_check_end : Value} {cd_check_end : Value}
    {f_is_row : Addr} {od_is_row an_is_row : Option Addr} {sl_is_row : Array (Option Value)} {oc_is_row kV_is_row dc_is_row pm_is_row ct_is_row : Value} {cd_is_row : Value}
    {f_along : Addr} {od_along an_along : Option Addr} {sl_along : Array (Option Value)} {oc_along kV_along dc_along pm_along ct_along : Value} {cd_along : Value}
    {f_goes_round : Addr} {od_goes_round an_goes_round : Option Addr} {sl_goes_round : Array (Option Value)} {oc_goes_round kV_goes_round dc_goes_round pm_goes_round ct_goes_round : Value} {cd_goes_round : Value}
    {f_is_never : Addr} {od_is_never an_is_never : Option Addr} {sl_is_never : Array (Option Value)} {oc_is_never kV_is_never dc_is_never pm_is_never ct_is_never : Value} {cd_is_never : Value}
    {f_is_enough : Addr} {od_is_enough an_is_enough : Option Addr} {sl_is_enough : Array (Option Value)} {oc_is_enough kV_is_enough dc_is_enough pm_is_enough ct_is_enough : Value} {cd_is_enough : Value}
    {f_enough : Addr} {od_enough an_enough : Option Addr} {sl_enough : Array (Option Value)} {oc_enough kV_enough dc_enough pm_enough ct_enough : Value} {cd_enough : Value}
    {f_least_sets : Addr} {od_least_sets an_least_sets : Option Addr} {sl_least_sets : Array (Option Value)} {oc_least_sets kV_least_sets dc_least_sets pm_least_sets ct_least_sets : Value} {cd_least_sets : Value}
    {f_secret : Addr} {od_secret an_secret : Option Addr} {sl_secret : Array (Option Value)} {oc_secret kV_secret dc_secret pm_secret ct_secret : Value} {cd_secret : Value}
    {f_check_rule : Addr} {od_check_rule an_check_rule : Option Addr} {sl_check_rule : Array (Option Value)} {oc_check_rule kV_check_rule dc_check_rule pm_check_rule ct_check_rule : Value} {cd_check_rule : Value}
    {f_reader_of : Addr} {od_reader_of an_reader_of : Option Addr} {sl_reader_of : Array (Option Value)} {oc_reader_of kV_reader_of dc_reader_of pm_reader_of ct_reader_of : Value} {cd_reader_of : Value}
    {f_answer : Addr} {od_answer an_answer : Option Addr} {sl_answer : Array (Option Value)} {oc_answer kV_answer dc_answer pm_answer ct_answer : Value} {cd_answer : Value}
    {f_check_left : Addr} {od_check_left an_check_left : Option Addr} {sl_check_left : Array (Option Value)} {oc_check_left kV_check_left dc_check_left pm_check_left ct_check_left : Value} {cd_check_left : Value}
    {f_answer_left : Addr} {od_answer_left an_answer_left : Option Addr} {sl_answer_left : Array (Option Value)} {oc_answer_left kV_answer_left dc_answer_left pm_answer_left ct_answer_left : Value} {cd_answer_left : Value}
    {f_fitting_run : Addr} {od_fitting_run an_fitting_run : Option Addr} {sl_fitting_run : Array (Option Value)} {oc_fitting_run kV_fitting_run dc_fitting_run pm_fitting_run ct_fitting_run : Value} {cd_fitting_run : Value}
    {f_n_law_cell : Addr} {od_n_law_cell an_n_law_cell : Option Addr} {sl_n_law_cell : Array (Option Value)} {oc_n_law_cell kV_n_law_cell dc_n_law_cell pm_n_law_cell ct_n_law_cell : Value} {cd_n_law_cell : Value}
    {f_n_law_stream : Addr} {od_n_law_stream an_n_law_stream : Option Addr} {sl_n_law_stream : Array (Option Value)} {oc_n_law_stream kV_n_law_stream dc_n_law_stream pm_n_law_stream ct_n_law_stream : Value} {cd_n_law_stream : Value}
    {f_n_law_draw : Addr} {od_n_law_draw an_n_law_draw : Option Addr} {sl_n_law_draw : Array (Option Value)} {oc_n_law_draw kV_n_law_draw dc_n_law_draw pm_n_law_draw ct_n_law_draw : Value} {cd_n_law_draw : Value}
    {f_n_law_read : Addr} {od_n_law_read an_n_law_read : Option Addr} {sl_n_law_read : Array (Option Value)} {oc_n_law_read kV_n_law_read dc_n_law_read pm_n_law_read ct_n_law_read : Value} {cd_n_law_read : Value}
    {f_n_law_told : Addr} {od_n_law_told an_n_law_told : Option Addr} {sl_n_law_told : Array (Option Value)} {oc_n_law_told kV_n_law_told dc_n_law_told pm_n_law_told ct_n_law_told : Value} {cd_n_law_told : Value}
    {f_n_law_bad_machines : Addr} {od_n_law_bad_machines an_n_law_bad_machines : Option Addr} {sl_n_law_bad_machines : Array (Option Value)} {oc_n_law_bad_machines kV_n_law_bad_machines dc_n_law_bad_machines pm_n_law_bad_machines ct_n_law_bad_machines : Value} {cd_n_law_bad_machines : Value}
    {f_n_law_bad_marks : Addr} {od_n_law_bad_marks an_n_law_bad_marks : Option Addr} {sl_n_law_bad_marks : Array (Option Value)} {oc_n_law_bad_marks kV_n_law_bad_marks dc_n_law_bad_marks pm_n_law_bad_marks ct_n_law_bad_marks : Value} {cd_n_law_bad_marks : Value}
    {f_n_law_bad_watches : Addr} {od_n_law_bad_watches an_n_law_bad_watches : Option Addr} {sl_n_law_bad_watches : Array (Option Value)} {oc_n_law_bad_watches kV_n_law_bad_watches dc_n_law_bad_watches pm_n_law_bad_watches ct_n_law_bad_watches : Value} {cd_n_law_bad_watches : Value}
    {f_n_law_bad_logs : Addr} {od_n_law_bad_logs an_n_law_bad_logs : Option Addr} {sl_n_law_bad_logs : Array (Option Value)} {oc_n_law_bad_logs kV_n_law_bad_logs dc_n_law_bad_logs pm_n_law_bad_logs ct_n_law_bad_logs : Value} {cd_n_law_bad_logs : Value}
    {f_n_law_right : Addr} {od_n_law_right an_n_law_right : Option Addr} {sl_n_law_right : Array (Option Value)} {oc_n_law_right kV_n_law_right dc_n_law_right pm_n_law_right ct_n_law_right : Value} {cL_n_law_right P_n_law_right : Addr} {ddL_n_law_right : Option Addr} {slL_n_law_right : Array (Option Value)} {vL_n_law_right : Array Value} {fileL_n_law_right : Str} {tfL_n_law_right tgL_n_law_right ttL_n_law_right : Tok} {flL_n_law_right txL_n_law_right : Int} {inL_n_law_right : Bool}
    {f_law : Addr} {od_law an_law : Option Addr} {sl_law : Array (Option Value)} {oc_law kV_law dc_law pm_law ct_law : Value} {cL_law P_law : Addr} {ddL_law : Option Addr} {slL_law : Array (Option Value)} {vL_law : Array Value} {fileL_law : Str} {tfL_law tgL_law ttL_law : Tok} {flL_law txL_law : Int} {inL_law : Bool}
    {t_MOST_EVENTS : Tok}
    {t_MOST_FOR_SECRET : Tok}
    {t_MOST_LINE : Tok}
    {t_MOST_LOG : Tok}
    {t_MOST_STATES : Tok}
    {t_MOST_WATCH : Tok}
    {CS : Addr}
    {C_BadMachine : Addr}
    {C_BadLog : Addr}
    {C_OutOfRange : Addr}
    (a_is_integer : PySem.W.nsIn K mainGlobals "is_integer" = some (some (.ref f_is_integer)))
    (l_is_integer : K.lookup f_is_integer = some ⟨oc_is_integer, od_is_integer, .func (PySem.W.fnOf "is_integer" "is_integer" (defArgs sis_integer) (defBody sis_integer) (defScope sis_integer) .none kV_is_integer dc_is_integer pm_is_integer an_is_integer cd_is_integer ct_is_integer), sl_is_integer⟩)
    (c_is_integer : PySem.W.codeIn K cd_is_integer "is_integer" = true)
    (k_is_integer : PySem.W.keepIn K (.ref f_is_integer) = true)
    (a_is_below : PySem.W.nsIn K mainGlobals "is_below" = some (some (.ref f_is_below)))
    (l_is_below : K.lookup f_is_below = some ⟨oc_is_below, od_is_below, .func (PySem.W.fnOf "is_below" "is_below" (defArgs sis_below) (defBody sis_below) (defScope sis_below) .none kV_is_below dc_is_below pm_is_below an_is_below cd_is_below ct_is_below), sl_is_below⟩)
    (c_is_below : PySem.W.codeIn K cd_is_below "is_below" = true)
    (k_is_below : PySem.W.keepIn K (.ref f_is_below) = true)
    (a_is_between : PySem.W.nsIn K mainGlobals "is_between" = some (some (.ref f_is_between)))
    (l_is_between : K.lookup f_is_between = some ⟨oc_is_between, od_is_between, .func (PySem.W.fnOf "is_between" "is_between" (defArgs sis_between) (defBody sis_between) (defScope sis_between) .none kV_is_between dc_is_between pm_is_between an_is_between cd_is_between ct_is_between), sl_is_between⟩)
    (c_is_between : PySem.W.codeIn K cd_is_between "is_between" = true)
    (k_is_between : PySem.W.keepIn K (.ref f_is_between) = true)
    (a_is_set : PySem.W.nsIn K mainGlobals "is_set" = some (some (.ref f_is_set)))
    (l_is_set : K.lookup f_is_set = some ⟨oc_is_set, od_is_set, .func (PySem.W.fnOf "is_set" "is_set" (defArgs sis_set) (defBody sis_set) (defScope sis_set) .none kV_is_set dc_is_set pm_is_set an_is_set cd_is_set ct_is_set), sl_is_set⟩)
    (c_is_set : PySem.W.codeIn K cd_is_set "is_set" = true)
    (k_is_set : PySem.W.keepIn K (.ref f_is_set) = true)
    (a_is_arrow : PySem.W.nsIn K mainGlobals "is_arrow" = some (some (.ref f_is_arrow)))
    (l_is_arrow : K.lookup f_is_arrow = some ⟨oc_is_arrow, od_is_arrow, .func (PySem.W.fnOf "is_arrow" "is_arrow" (defArgs sis_arrow) (defBody sis_arrow) (defScope sis_arrow) .none kV_is_arrow dc_is_arrow pm_is_arrow an_is_arrow cd_is_arrow ct_is_arrow), sl_is_arrow⟩)
    (c_is_arrow : PySem.W.codeIn K cd_is_arrow "is_arrow" = true)
    (k_is_arrow : PySem.W.keepIn K (.ref f_is_arrow) = true)
    (a_check_machine_alone : PySem.W.nsIn K mainGlobals "check_machine_alone" = some (some (.ref f_check_machine_alone)))
    (l_check_machine_alone : K.lookup f_check_machine_alone = some ⟨oc_check_machine_alone, od_check_machine_alone, .func (PySem.W.fnOf "check_machine_alone" "check_machine_alone" (defArgs scheck_machine_alone) (defBody scheck_machine_alone) (defScope scheck_machine_alone) .none kV_check_machine_alone dc_check_machine_alone pm_check_machine_alone an_check_machine_alone cd_check_machine_alone ct_check_machine_alone), sl_check_machine_alone⟩)
    (c_check_machine_alone : PySem.W.codeIn K cd_check_machine_alone "check_machine_alone" = true)
    (k_check_machine_alone : PySem.W.keepIn K (.ref f_check_machine_alone) = true)
    (a_check_marks : PySem.W.nsIn K mainGlobals "check_marks" = some (some (.ref f_check_marks)))
    (l_check_marks : K.lookup f_check_marks = some ⟨oc_check_marks, od_check_marks, .func (PySem.W.fnOf "check_marks" "check_marks" (defArgs scheck_marks) (defBody scheck_marks) (defScope scheck_marks) .none kV_check_marks dc_check_marks pm_check_marks an_check_marks cd_check_marks ct_check_marks), sl_check_marks⟩)
    (c_check_marks : PySem.W.codeIn K cd_check_marks "check_marks" = true)
    (k_check_marks : PySem.W.keepIn K (.ref f_check_marks) = true)
    (a_check_both : PySem.W.nsIn K mainGlobals "check_both" = some (some (.ref f_check_both)))
    (l_check_both : K.lookup f_check_both = some ⟨oc_check_both, od_check_both, .func (PySem.W.fnOf "check_both" "check_both" (defArgs scheck_both) (defBody scheck_both) (defScope scheck_both) .none kV_check_both dc_check_both pm_check_both an_check_both cd_check_both ct_check_both), sl_check_both⟩)
    (c_check_both : PySem.W.codeIn K cd_check_both "check_both" = true)
    (k_check_both : PySem.W.keepIn K (.ref f_check_both) = true)
    (a_check_watch : PySem.W.nsIn K mainGlobals "check_watch" = some (some (.ref f_check_watch)))
    (l_check_watch : K.lookup f_check_watch = some ⟨oc_check_watch, od_check_watch, .func (PySem.W.fnOf "check_watch" "check_watch" (defArgs scheck_watch) (defBody scheck_watch) (defScope scheck_watch) .none kV_check_watch dc_check_watch pm_check_watch an_check_watch cd_check_watch ct_check_watch), sl_check_watch⟩)
    (c_check_watch : PySem.W.codeIn K cd_check_watch "check_watch" = true)
    (k_check_watch : PySem.W.keepIn K (.ref f_check_watch) = true)
    (a_check_all : PySem.W.nsIn K mainGlobals "check_all" = some (some (.ref f_check_all)))
    (l_check_all : K.lookup f_check_all = some ⟨oc_check_all, od_check_all, .func (PySem.W.fnOf "check_all" "check_all" (defArgs scheck_all) (defBody scheck_all) (defScope scheck_all) .none kV_check_all dc_check_all pm_check_all an_check_all cd_check_all ct_check_all), sl_check_all⟩)
    (c_check_all : PySem.W.codeIn K cd_check_all "check_all" = true)
    (k_check_all : PySem.W.keepIn K (.ref f_check_all) = true)
    (a_check_log : PySem.W.nsIn K mainGlobals "check_log" = some (some (.ref f_check_log)))
    (l_check_log : K.lookup f_check_log = some ⟨oc_check_log, od_check_log, .func (PySem.W.fnOf "check_log" "check_log" (defArgs scheck_log) (defBody scheck_log) (defScope scheck_log) .none kV_check_log dc_check_log pm_check_log an_check_log cd_check_log ct_check_log), sl_check_log⟩)
    (c_check_log : PySem.W.codeIn K cd_check_log "check_log" = true)
    (k_check_log : PySem.W.keepIn K (.ref f_check_log) = true)
    (a_check_machine : PySem.W.nsIn K mainGlobals "check_machine" = some (some (.ref f_check_machine)))
    (l_check_machine : K.lookup f_check_machine = some ⟨oc_check_machine, od_check_machine, .func (PySem.W.fnOf "check_machine" "check_machine" (defArgs scheck_machine) (defBody scheck_machine) (defScope scheck_machine) .none kV_check_machine dc_check_machine pm_check_machine an_check_machine cd_check_machine ct_check_machine), sl_check_machine⟩)
    (c_check_machine : PySem.W.codeIn K cd_check_machine "check_machine" = true)
    (k_check_machine : PySem.W.keepIn K (.ref f_check_machine) = true)
    (a_is_run : PySem.W.nsIn K mainGlobals "is_run" = some (some (.ref f_is_run)))
    (l_is_run : K.lookup f_is_run = some ⟨oc_is_run, od_is_run, .func (PySem.W.fnOf "is_run" "is_run" (defArgs sis_run) (defBody sis_run) (defScope sis_run) .none kV_is_run dc_is_run pm_is_run an_is_run cd_is_run ct_is_run), sl_is_run⟩)
    (c_is_run : PySem.W.codeIn K cd_is_run "is_run" = true)
    (k_is_run : PySem.W.keepIn K (.ref f_is_run) = true)
    (a_check_events : PySem.W.nsIn K mainGlobals "check_events" = some (some (.ref f_check_events)))
    (l_check_events : K.lookup f_check_events = some ⟨oc_check_events, od_check_events, .func (PySem.W.fnOf "check_events" "check_events" (defArgs scheck_events) (defBody scheck_events) (defScope scheck_events) .none kV_check_events dc_check_events pm_check_events an_check_events cd_check_events ct_check_events), sl_check_events⟩)
    (c_check_events : PySem.W.codeIn K cd_check_events "check_events" = true)
    (k_check_events : PySem.W.keepIn K (.ref f_check_events) = true)
    (a_states_after : PySem.W.nsIn K mainGlobals "states_after" = some (some (.ref f_states_after)))
    (l_states_after : K.lookup f_states_after = some ⟨oc_states_after, od_states_after, .func (PySem.W.fnOf "states_after" "states_after" (defArgs sstates_after) (defBody sstates_after) (defScope sstates_after) .none kV_states_after dc_states_after pm_states_after an_states_after cd_states_after ct_states_after), sl_states_after⟩)
    (c_states_after : PySem.W.codeIn K cd_states_after "states_after" = true)
    (k_states_after : PySem.W.keepIn K (.ref f_states_after) = true)
    (a_log_of : PySem.W.nsIn K mainGlobals "log_of" = some (some (.ref f_log_of)))
    (l_log_of : K.lookup f_log_of = some ⟨oc_log_of, od_log_of, .func (PySem.W.fnOf "log_of" "log_of" (defArgs slog_of) (defBody slog_of) (defScope slog_of) .none kV_log_of dc_log_of pm_log_of an_log_of cd_log_of ct_log_of), sl_log_of⟩)
    (c_log_of : PySem.W.codeIn K cd_log_of "log_of" = true)
    (k_log_of : PySem.W.keepIn K (.ref f_log_of) = true)
    (a_lines_of : PySem.W.nsIn K mainGlobals "lines_of" = some (some (.ref f_lines_of)))
    (l_lines_of : K.lookup f_lines_of = some ⟨oc_lines_of, od_lines_of, .func (PySem.W.fnOf "lines_of" "lines_of" (defArgs slines_of) (defBody slines_of) (defScope slines_of) .none kV_lines_of dc_lines_of pm_lines_of an_lines_of cd_lines_of ct_lines_of), sl_lines_of⟩)
    (c_lines_of : PySem.W.codeIn K cd_lines_of "lines_of" = true)
    (k_lines_of : PySem.W.keepIn K (.ref f_lines_of) = true)
    (a_is_lively_machine : PySem.W.nsIn K mainGlobals "is_lively_machine" = some (some (.ref f_is_lively_machine)))
    (l_is_lively_machine : K.lookup f_is_lively_machine = some ⟨oc_is_lively_machine, od_is_lively_machine, .func (PySem.W.fnOf "is_lively_machine" "is_lively_machine" (defArgs sis_lively_machine) (defBody sis_lively_machine) (defScope sis_lively_machine) .none kV_is_lively_machine dc_is_lively_machine pm_is_lively_machine an_is_lively_machine cd_is_lively_machine ct_is_lively_machine), sl_is_lively_machine⟩)
    (c_is_lively_machine : PySem.W.codeIn K cd_is_lively_machine "is_lively_machine" = true)
    (k_is_lively_machine : PySem.W.keepIn K (.ref f_is_lively_machine) = true)
    (a_is_lively : PySem.W.nsIn K mainGlobals "is_lively" = some (some (.ref f_is_lively)))
    (l_is_lively : K.lookup f_is_lively = some ⟨oc_is_lively, od_is_lively, .func (PySem.W.fnOf "is_lively" "is_lively" (defArgs sis_lively) (defBody sis_lively) (defScope sis_lively) .none kV_is_lively dc_is_lively pm_is_lively an_is_lively cd_is_lively ct_is_lively), sl_is_lively⟩)
    (c_is_lively : PySem.W.codeIn K cd_is_lively "is_lively" = true)
    (k_is_lively : PySem.W.keepIn K (.ref f_is_lively) = true)
    (a_states_behind : PySem.W.nsIn K mainGlobals "states_behind" = some (some (.ref f_states_behind)))
    (l_states_behind : K.lookup f_states_behind = some ⟨oc_states_behind, od_states_behind, .func (PySem.W.fnOf "states_behind" "states_behind" (defArgs sstates_behind) (defBody sstates_behind) (defScope sstates_behind) .none kV_states_behind dc_states_behind pm_states_behind an_states_behind cd_states_behind ct_states_behind), sl_states_behind⟩)
    (c_states_behind : PySem.W.codeIn K cd_states_behind "states_behind" = true)
    (k_states_behind : PySem.W.keepIn K (.ref f_states_behind) = true)
    (a_told : PySem.W.nsIn K mainGlobals "told" = some (some (.ref f_told)))
    (l_told : K.lookup f_told = some ⟨oc_told, od_told, .func (PySem.W.fnOf "told" "told" (defArgs stold) (defBody stold) (defScope stold) .none kV_told dc_told pm_told an_told cd_told ct_told), sl_told⟩)
    (c_told : PySem.W.codeIn K cd_told "told" = true)
    (k_told : PySem.W.keepIn K (.ref f_told) = true)
    (a_stays : PySem.W.nsIn K mainGlobals "stays" = some (some (.ref f_stays)))
    (l_stays : K.lookup f_stays = some ⟨oc_stays, od_stays, .func (PySem.W.fnOf "stays" "stays" (defArgs sstays) (defBody sstays) (defScope sstays) .none kV_stays dc_stays pm_stays an_stays cd_stays ct_stays), sl_stays⟩)
    (c_stays : PySem.W.codeIn K cd_stays "stays" = true)
    (k_stays : PySem.W.keepIn K (.ref f_stays) = true)
    (a_check_end : PySem.W.nsIn K mainGlobals "check_end" = some (some (.ref f_check_end)))
    (l_check_end : K.lookup f_check_end = some ⟨oc_check_end, od_check_end, .func (PySem.W.fnOf "check_end" "check_end" (defArgs scheck_end) (defBody scheck_end) (defScope scheck_end) .none kV_check_end dc_check_end pm_check_end an_check_end cd_check_end ct_check_end), sl_check_end⟩)
    (c_check_end : PySem.W.codeIn K cd_check_end "check_end" = true)
    (k_check_end : PySem.W.keepIn K (.ref f_check_end) = true)
    (a_is_row : PySem.W.nsIn K mainGlobals "is_row" = some (some (.ref f_is_row)))
    (l_is_row : K.lookup f_is_row = some ⟨oc_is_row, od_is_row, .func (PySem.W.fnOf "is_row" "is_row" (defArgs sis_row) (defBody sis_row) (defScope sis_row) .none kV_is_row dc_is_row pm_is_row an_is_row cd_is_row ct_is_row), sl_is_row⟩)
    (c_is_row : PySem.W.codeIn K cd_is_row "is_row" = true)
    (k_is_row : PySem.W.keepIn K (.ref f_is_row) = true)
    (a_along : PySem.W.nsIn K mainGlobals "along" = some (some (.ref f_along)))
    (l_along : K.lookup f_along = some ⟨oc_along, od_along, .func (PySem.W.fnOf "along" "along" (defArgs salong) (defBody salong) (defScope salong) .none kV_along dc_along pm_along an_along cd_along ct_along), sl_along⟩)
    (c_along : PySem.W.codeIn K cd_along "along" = true)
    (k_along : PySem.W.keepIn K (.ref f_along) = true)
    (a_goes_round : PySem.W.nsIn K mainGlobals "goes_round" = some (some (.ref f_goes_round)))
    (l_goes_round : K.lookup f_goes_round = some ⟨oc_goes_round, od_goes_round, .func (PySem.W.fnOf "goes_round" "goes_round" (defArgs sgoes_round) (defBody sgoes_round) (defScope sgoes_round) .none kV_goes_round dc_goes_round pm_goes_round an_goes_round cd_goes_round ct_goes_round), sl_goes_round⟩)
    (c_goes_round : PySem.W.codeIn K cd_goes_round "goes_round" = true)
    (k_goes_round : PySem.W.keepIn K (.ref f_goes_round) = true)
    (a_is_never : PySem.W.nsIn K mainGlobals "is_never" = some (some (.ref f_is_never)))
    (l_is_never : K.lookup f_is_never = some ⟨oc_is_never, od_is_never, .func (PySem.W.fnOf "is_never" "is_never" (defArgs sis_never) (defBody sis_never) (defScope sis_never) .none kV_is_never dc_is_never pm_is_never an_is_never cd_is_never ct_is_never), sl_is_never⟩)
    (c_is_never : PySem.W.codeIn K cd_is_never "is_never" = true)
    (k_is_never : PySem.W.keepIn K (.ref f_is_never) = true)
    (a_is_enough : PySem.W.nsIn K mainGlobals "is_enough" = some (some (.ref f_is_enough)))
    (l_is_enough : K.lookup f_is_enough = some ⟨oc_is_enough, od_is_enough, .func (PySem.W.fnOf "is_enough" "is_enough" (defArgs sis_enough) (defBody sis_enough) (defScope sis_enough) .none kV_is_enough dc_is_enough pm_is_enough an_is_enough cd_is_enough ct_is_enough), sl_is_enough⟩)
    (c_is_enough : PySem.W.codeIn K cd_is_enough "is_enough" = true)
    (k_is_enough : PySem.W.keepIn K (.ref f_is_enough) = true)
    (a_enough : PySem.W.nsIn K mainGlobals "enough" = some (some (.ref f_enough)))
    (l_enough : K.lookup f_enough = some ⟨oc_enough, od_enough, .func (PySem.W.fnOf "enough" "enough" (defArgs senough) (defBody senough) (defScope senough) .none kV_enough dc_enough pm_enough an_enough cd_enough ct_enough), sl_enough⟩)
    (c_enough : PySem.W.codeIn K cd_enough "enough" = true)
    (k_enough : PySem.W.keepIn K (.ref f_enough) = true)
    (a_least_sets : PySem.W.nsIn K mainGlobals "least_sets" = some (some (.ref f_least_sets)))
    (l_least_sets : K.lookup f_least_sets = some ⟨oc_least_sets, od_least_sets, .func (PySem.W.fnOf "least_sets" "least_sets" (defArgs sleast_sets) (defBody sleast_sets) (defScope sleast_sets) .none kV_least_sets dc_least_sets pm_least_sets an_least_sets cd_least_sets ct_least_sets), sl_least_sets⟩)
    (c_least_sets : PySem.W.codeIn K cd_least_sets "least_sets" = true)
    (k_least_sets : PySem.W.keepIn K (.ref f_least_sets) = true)
    (a_secret : PySem.W.nsIn K mainGlobals "secret" = some (some (.ref f_secret)))
    (l_secret : K.lookup f_secret = some ⟨oc_secret, od_secret, .func (PySem.W.fnOf "secret" "secret" (defArgs ssecret) (defBody ssecret) (defScope ssecret) .none kV_secret dc_secret pm_secret an_secret cd_secret ct_secret), sl_secret⟩)
    (c_secret : PySem.W.codeIn K cd_secret "secret" = true)
    (k_secret : PySem.W.keepIn K (.ref f_secret) = true)
    (a_check_rule : PySem.W.nsIn K mainGlobals "check_rule" = some (some (.ref f_check_rule)))
    (l_check_rule : K.lookup f_check_rule = some ⟨oc_check_rule, od_check_rule, .func (PySem.W.fnOf "check_rule" "check_rule" (defArgs scheck_rule) (defBody scheck_rule) (defScope scheck_rule) .none kV_check_rule dc_check_rule pm_check_rule an_check_rule cd_check_rule ct_check_rule), sl_check_rule⟩)
    (c_check_rule : PySem.W.codeIn K cd_check_rule "check_rule" = true)
    (k_check_rule : PySem.W.keepIn K (.ref f_check_rule) = true)
    (a_reader_of : PySem.W.nsIn K mainGlobals "reader_of" = some (some (.ref f_reader_of)))
    (l_reader_of : K.lookup f_reader_of = some ⟨oc_reader_of, od_reader_of, .func (PySem.W.fnOf "reader_of" "reader_of" (defArgs sreader_of) (defBody sreader_of) (defScope sreader_of) .none kV_reader_of dc_reader_of pm_reader_of an_reader_of cd_reader_of ct_reader_of), sl_reader_of⟩)
    (c_reader_of : PySem.W.codeIn K cd_reader_of "reader_of" = true)
    (k_reader_of : PySem.W.keepIn K (.ref f_reader_of) = true)
    (a_answer : PySem.W.nsIn K mainGlobals "answer" = some (some (.ref f_answer)))
    (l_answer : K.lookup f_answer = some ⟨oc_answer, od_answer, .func (PySem.W.fnOf "answer" "answer" (defArgs sanswer) (defBody sanswer) (defScope sanswer) .none kV_answer dc_answer pm_answer an_answer cd_answer ct_answer), sl_answer⟩)
    (c_answer : PySem.W.codeIn K cd_answer "answer" = true)
    (k_answer : PySem.W.keepIn K (.ref f_answer) = true)
    (a_check_left : PySem.W.nsIn K mainGlobals "check_left" = some (some (.ref f_check_left)))
    (l_check_left : K.lookup f_check_left = some ⟨oc_check_left, od_check_left, .func (PySem.W.fnOf "check_left" "check_left" (defArgs scheck_left) (defBody scheck_left) (defScope scheck_left) .none kV_check_left dc_check_left pm_check_left an_check_left cd_check_left ct_check_left), sl_check_left⟩)
    (c_check_left : PySem.W.codeIn K cd_check_left "check_left" = true)
    (k_check_left : PySem.W.keepIn K (.ref f_check_left) = true)
    (a_answer_left : PySem.W.nsIn K mainGlobals "answer_left" = some (some (.ref f_answer_left)))
    (l_answer_left : K.lookup f_answer_left = some ⟨oc_answer_left, od_answer_left, .func (PySem.W.fnOf "answer_left" "answer_left" (defArgs sanswer_left) (defBody sanswer_left) (defScope sanswer_left) .none kV_answer_left dc_answer_left pm_answer_left an_answer_left cd_answer_left ct_answer_left), sl_answer_left⟩)
    (c_answer_left : PySem.W.codeIn K cd_answer_left "answer_left" = true)
    (k_answer_left : PySem.W.keepIn K (.ref f_answer_left) = true)
    (a_fitting_run : PySem.W.nsIn K mainGlobals "fitting_run" = some (some (.ref f_fitting_run)))
    (l_fitting_run : K.lookup f_fitting_run = some ⟨oc_fitting_run, od_fitting_run, .func (PySem.W.fnOf "fitting_run" "fitting_run" (defArgs sfitting_run) (defBody sfitting_run) (defScope sfitting_run) .none kV_fitting_run dc_fitting_run pm_fitting_run an_fitting_run cd_fitting_run ct_fitting_run), sl_fitting_run⟩)
    (c_fitting_run : PySem.W.codeIn K cd_fitting_run "fitting_run" = true)
    (k_fitting_run : PySem.W.keepIn K (.ref f_fitting_run) = true)
    (a_n_law_cell : PySem.W.nsIn K mainGlobals "_law_cell" = some (some (.ref f_n_law_cell)))
    (l_n_law_cell : K.lookup f_n_law_cell = some ⟨oc_n_law_cell, od_n_law_cell, .func (PySem.W.fnOf "_law_cell" "_law_cell" (defArgs sn_law_cell) (defBody sn_law_cell) (defScope sn_law_cell) .none kV_n_law_cell dc_n_law_cell pm_n_law_cell an_n_law_cell cd_n_law_cell ct_n_law_cell), sl_n_law_cell⟩)
    (c_n_law_cell : PySem.W.codeIn K cd_n_law_cell "_law_cell" = true)
    (k_n_law_cell : PySem.W.keepIn K (.ref f_n_law_cell) = true)
    (a_n_law_stream : PySem.W.nsIn K mainGlobals "_law_stream" = some (some (.ref f_n_law_stream)))
    (l_n_law_stream : K.lookup f_n_law_stream = some ⟨oc_n_law_stream, od_n_law_stream, .func (PySem.W.fnOf "_law_stream" "_law_stream" (defArgs sn_law_stream) (defBody sn_law_stream) (defScope sn_law_stream) .none kV_n_law_stream dc_n_law_stream pm_n_law_stream an_n_law_stream cd_n_law_stream ct_n_law_stream), sl_n_law_stream⟩)
    (c_n_law_stream : PySem.W.codeIn K cd_n_law_stream "_law_stream" = true)
    (k_n_law_stream : PySem.W.keepIn K (.ref f_n_law_stream) = true)
    (a_n_law_draw : PySem.W.nsIn K mainGlobals "_law_draw" = some (some (.ref f_n_law_draw)))
    (l_n_law_draw : K.lookup f_n_law_draw = some ⟨oc_n_law_draw, od_n_law_draw, .func (PySem.W.fnOf "_law_draw" "_law_draw" (defArgs sn_law_draw) (defBody sn_law_draw) (defScope sn_law_draw) .none kV_n_law_draw dc_n_law_draw pm_n_law_draw an_n_law_draw cd_n_law_draw ct_n_law_draw), sl_n_law_draw⟩)
    (c_n_law_draw : PySem.W.codeIn K cd_n_law_draw "_law_draw" = true)
    (k_n_law_draw : PySem.W.keepIn K (.ref f_n_law_draw) = true)
    (a_n_law_read : PySem.W.nsIn K mainGlobals "_law_read" = some (some (.ref f_n_law_read)))
    (l_n_law_read : K.lookup f_n_law_read = some ⟨oc_n_law_read, od_n_law_read, .func (PySem.W.fnOf "_law_read" "_law_read" (defArgs sn_law_read) (defBody sn_law_read) (defScope sn_law_read) .none kV_n_law_read dc_n_law_read pm_n_law_read an_n_law_read cd_n_law_read ct_n_law_read), sl_n_law_read⟩)
    (c_n_law_read : PySem.W.codeIn K cd_n_law_read "_law_read" = true)
    (k_n_law_read : PySem.W.keepIn K (.ref f_n_law_read) = true)
    (a_n_law_told : PySem.W.nsIn K mainGlobals "_law_told" = some (some (.ref f_n_law_told)))
    (l_n_law_told : K.lookup f_n_law_told = some ⟨oc_n_law_told, od_n_law_told, .func (PySem.W.fnOf "_law_told" "_law_told" (defArgs sn_law_told) (defBody sn_law_told) (defScope sn_law_told) .none kV_n_law_told dc_n_law_told pm_n_law_told an_n_law_told cd_n_law_told ct_n_law_told), sl_n_law_told⟩)
    (c_n_law_told : PySem.W.codeIn K cd_n_law_told "_law_told" = true)
    (k_n_law_told : PySem.W.keepIn K (.ref f_n_law_told) = true)
    (a_n_law_bad_machines : PySem.W.nsIn K mainGlobals "_law_bad_machines" = some (some (.ref f_n_law_bad_machines)))
    (l_n_law_bad_machines : K.lookup f_n_law_bad_machines = some ⟨oc_n_law_bad_machines, od_n_law_bad_machines, .func (PySem.W.fnOf "_law_bad_machines" "_law_bad_machines" (defArgs sn_law_bad_machines) (defBody sn_law_bad_machines) (defScope sn_law_bad_machines) .none kV_n_law_bad_machines dc_n_law_bad_machines pm_n_law_bad_machines an_n_law_bad_machines cd_n_law_bad_machines ct_n_law_bad_machines), sl_n_law_bad_machines⟩)
    (c_n_law_bad_machines : PySem.W.codeIn K cd_n_law_bad_machines "_law_bad_machines" = true)
    (k_n_law_bad_machines : PySem.W.keepIn K (.ref f_n_law_bad_machines) = true)
    (a_n_law_bad_marks : PySem.W.nsIn K mainGlobals "_law_bad_marks" = some (some (.ref f_n_law_bad_marks)))
    (l_n_law_bad_marks : K.lookup f_n_law_bad_marks = some ⟨oc_n_law_bad_marks, od_n_law_bad_marks, .func (PySem.W.fnOf "_law_bad_marks" "_law_bad_marks" (defArgs sn_law_bad_marks) (defBody sn_law_bad_marks) (defScope sn_law_bad_marks) .none kV_n_law_bad_marks dc_n_law_bad_marks pm_n_law_bad_marks an_n_law_bad_marks cd_n_law_bad_marks ct_n_law_bad_marks), sl_n_law_bad_marks⟩)
    (c_n_law_bad_marks : PySem.W.codeIn K cd_n_law_bad_marks "_law_bad_marks" = true)
    (k_n_law_bad_marks : PySem.W.keepIn K (.ref f_n_law_bad_marks) = true)
    (a_n_law_bad_watches : PySem.W.nsIn K mainGlobals "_law_bad_watches" = some (some (.ref f_n_law_bad_watches)))
    (l_n_law_bad_watches : K.lookup f_n_law_bad_watches = some ⟨oc_n_law_bad_watches, od_n_law_bad_watches, .func (PySem.W.fnOf "_law_bad_watches" "_law_bad_watches" (defArgs sn_law_bad_watches) (defBody sn_law_bad_watches) (defScope sn_law_bad_watches) .none kV_n_law_bad_watches dc_n_law_bad_watches pm_n_law_bad_watches an_n_law_bad_watches cd_n_law_bad_watches ct_n_law_bad_watches), sl_n_law_bad_watches⟩)
    (c_n_law_bad_watches : PySem.W.codeIn K cd_n_law_bad_watches "_law_bad_watches" = true)
    (k_n_law_bad_watches : PySem.W.keepIn K (.ref f_n_law_bad_watches) = true)
    (a_n_law_bad_logs : PySem.W.nsIn K mainGlobals "_law_bad_logs" = some (some (.ref f_n_law_bad_logs)))
    (l_n_law_bad_logs : K.lookup f_n_law_bad_logs = some ⟨oc_n_law_bad_logs, od_n_law_bad_logs, .func (PySem.W.fnOf "_law_bad_logs" "_law_bad_logs" (defArgs sn_law_bad_logs) (defBody sn_law_bad_logs) (defScope sn_law_bad_logs) .none kV_n_law_bad_logs dc_n_law_bad_logs pm_n_law_bad_logs an_n_law_bad_logs cd_n_law_bad_logs ct_n_law_bad_logs), sl_n_law_bad_logs⟩)
    (c_n_law_bad_logs : PySem.W.codeIn K cd_n_law_bad_logs "_law_bad_logs" = true)
    (k_n_law_bad_logs : PySem.W.keepIn K (.ref f_n_law_bad_logs) = true)
    (a_n_law_right : PySem.W.nsIn K mainGlobals "_law_right" = some (some (.ref f_n_law_right)))
    (l_n_law_right : K.lookup f_n_law_right = some ⟨oc_n_law_right, od_n_law_right, .func (PySem.W.fnOf "_law_right" "_law_right" (defArgs sn_law_right) (defBody sn_law_right) (defScope sn_law_right) .none kV_n_law_right dc_n_law_right pm_n_law_right an_n_law_right (.ref cL_n_law_right) ct_n_law_right), sl_n_law_right⟩)
    (c_n_law_right : PySem.W.codeIn K (.ref cL_n_law_right) "_law_right" = true)
    (k_n_law_right : PySem.W.keepIn K (.ref f_n_law_right) = true)
    (a_law : PySem.W.nsIn K mainGlobals "law" = some (some (.ref f_law)))
    (l_law : K.lookup f_law = some ⟨oc_law, od_law, .func (PySem.W.fnOf "law" "law" (defArgs slaw) (defBody slaw) (defScope slaw) .none kV_law dc_law pm_law an_law (.ref cL_law) ct_law), sl_law⟩)
    (c_law : PySem.W.codeIn K (.ref cL_law) "law" = true)
    (k_law : PySem.W.keepIn K (.ref f_law) = true)
    (xc_n_law_right : K.lookup cL_n_law_right = some ⟨.type "code", ddL_n_law_right, .fields vL_n_law_right, slL_n_law_right⟩)
    (x11_n_law_right : vL_n_law_right[11]? = some (.ref P_n_law_right))
    (nP_n_law_right : K.lookup P_n_law_right = none)
    (x18_n_law_right : vL_n_law_right.getD 18 .none = .str fileL_n_law_right tfL_n_law_right)
    (x7_n_law_right : vL_n_law_right.getD 7 .none = .int flL_n_law_right tgL_n_law_right)
    (x9_n_law_right : vL_n_law_right.getD 9 .none = .bool inL_n_law_right)
    (x10_n_law_right : vL_n_law_right.getD 10 .none = .int txL_n_law_right ttL_n_law_right)
    (cP_n_law_right : cL_n_law_right ≠ P_n_law_right)
    (xc_law : K.lookup cL_law = some ⟨.type "code", ddL_law, .fields vL_law, slL_law⟩)
    (x11_law : vL_law[11]? = some (.ref P_law))
    (nP_law : K.lookup P_law = none)
    (x18_law : vL_law.getD 18 .none = .str fileL_law tfL_law)
    (x7_law : vL_law.getD 7 .none = .int flL_law tgL_law)
    (x9_law : vL_law.getD 9 .none = .bool inL_law)
    (x10_law : vL_law.getD 10 .none = .int txL_law ttL_law)
    (cP_law : cL_law ≠ P_law)
    (ndP : ([P_n_law_right, P_law] : List Addr).Nodup)
    (z_abs : PySem.W.nsIn K mainGlobals "abs" = some none)
    (z_all : PySem.W.nsIn K mainGlobals "all" = some none)
    (z_bool : PySem.W.nsIn K mainGlobals "bool" = some none)
    (z_int : PySem.W.nsIn K mainGlobals "int" = some none)
    (z_isinstance : PySem.W.nsIn K mainGlobals "isinstance" = some none)
    (z_len : PySem.W.nsIn K mainGlobals "len" = some none)
    (z_list : PySem.W.nsIn K mainGlobals "list" = some none)
    (z_range : PySem.W.nsIn K mainGlobals "range" = some none)
    (z_repr : PySem.W.nsIn K mainGlobals "repr" = some none)
    (z_sorted : PySem.W.nsIn K mainGlobals "sorted" = some none)
    (z_str : PySem.W.nsIn K mainGlobals "str" = some none)
    (z_tuple : PySem.W.nsIn K mainGlobals "tuple" = some none)
    (a_MOST_EVENTS : PySem.W.nsIn K mainGlobals "MOST_EVENTS" = some (some (.int 5 t_MOST_EVENTS)))
    (a_MOST_FOR_SECRET : PySem.W.nsIn K mainGlobals "MOST_FOR_SECRET" = some (some (.int 12 t_MOST_FOR_SECRET)))
    (a_MOST_LINE : PySem.W.nsIn K mainGlobals "MOST_LINE" = some (some (.int 9 t_MOST_LINE)))
    (a_MOST_LOG : PySem.W.nsIn K mainGlobals "MOST_LOG" = some (some (.int 200 t_MOST_LOG)))
    (a_MOST_STATES : PySem.W.nsIn K mainGlobals "MOST_STATES" = some (some (.int 6 t_MOST_STATES)))
    (a_MOST_WATCH : PySem.W.nsIn K mainGlobals "MOST_WATCH" = some (some (.int 4 t_MOST_WATCH)))
    (a_ToldError : PySem.W.nsIn K mainGlobals "ToldError" = some (some (.ref CS)))
    (s_ToldError : PySem.W.subIn K (.ref CS) (.type "BaseException") = some true)
    (i_ToldError : PySem.W.isClsIn K CS = true)
    (t_ToldError : PySem.W.typeIn K (.ref CS) = some (.type "type"))
    (a_BadMachine : PySem.W.nsIn K mainGlobals "BadMachine" = some (some (.ref C_BadMachine)))
    (a_BadLog : PySem.W.nsIn K mainGlobals "BadLog" = some (some (.ref C_BadLog)))
    (a_OutOfRange : PySem.W.nsIn K mainGlobals "OutOfRange" = some (some (.ref C_OutOfRange)))
    (x_BadMachine : PySem.W.excIn K C_BadMachine [.type "ValueError", .type "Exception", .type "BaseException", .type "object"] "ValueError.__new__" = true)
    (k_BadMachine : PySem.W.keepIn K (.ref C_BadMachine) = true)
    (s_BadMachine : PySem.W.subIn K (.ref C_BadMachine) (.type "BaseException") = some true)
    (t_BadMachine : PySem.W.typeIn K (.ref C_BadMachine) = some (.type "type"))
    (g_BadMachine : PySem.W.findIn K (.ref C_BadMachine) "__getattribute__" = some (some (.builtin "BaseException.__getattribute__")))
    (h_BadMachine : PySem.W.findIn K (.ref C_BadMachine) "__getattr__" = some none)
    (d_BadMachine : PySem.W.hasDictIn K C_BadMachine = true)
    (q_BadMachine : PySem.W.findIn K (.ref C_BadMachine) "__class__" = some (some (.builtin "object.__class__")))
    (m_BadMachine : PySem.W.mroIn K C_BadMachine (.type "object") = some true)
    (u_BadMachine : PySem.W.subIn K (.ref C_BadMachine) (.ref CS) = some true)
    (v_BadMachine : PySem.W.kitOne K (.ref C_BadMachine) (.ref C_OutOfRange) = some false)
    (x_BadLog : PySem.W.excIn K C_BadLog [.type "ValueError", .type "Exception", .type "BaseException", .type "object"] "ValueError.__new__" = true)
    (k_BadLog : PySem.W.keepIn K (.ref C_BadLog) = true)
    (s_BadLog : PySem.W.subIn K (.ref C_BadLog) (.type "BaseException") = some true)
    (t_BadLog : PySem.W.typeIn K (.ref C_BadLog) = some (.type "type"))
    (g_BadLog : PySem.W.findIn K (.ref C_BadLog) "__getattribute__" = some (some (.builtin "BaseException.__getattribute__")))
    (h_BadLog : PySem.W.findIn K (.ref C_BadLog) "__getattr__" = some none)
    (d_BadLog : PySem.W.hasDictIn K C_BadLog = true)
    (q_BadLog : PySem.W.findIn K (.ref C_BadLog) "__class__" = some (some (.builtin "object.__class__")))
    (m_BadLog : PySem.W.mroIn K C_BadLog (.type "object") = some true)
    (u_BadLog : PySem.W.subIn K (.ref C_BadLog) (.ref CS) = some true)
    (v_BadLog : PySem.W.kitOne K (.ref C_BadLog) (.ref C_OutOfRange) = some false)
    (x_OutOfRange : PySem.W.excIn K C_OutOfRange [.type "ValueError", .type "Exception", .type "BaseException", .type "object"] "ValueError.__new__" = true)
    (k_OutOfRange : PySem.W.keepIn K (.ref C_OutOfRange) = true)
    (s_OutOfRange : PySem.W.subIn K (.ref C_OutOfRange) (.type "BaseException") = some true)
    (t_OutOfRange : PySem.W.typeIn K (.ref C_OutOfRange) = some (.type "type"))
    (g_OutOfRange : PySem.W.findIn K (.ref C_OutOfRange) "__getattribute__" = some (some (.builtin "BaseException.__getattribute__")))
    (h_OutOfRange : PySem.W.findIn K (.ref C_OutOfRange) "__getattr__" = some none)
    (d_OutOfRange : PySem.W.hasDictIn K C_OutOfRange = true)
    (q_OutOfRange : PySem.W.findIn K (.ref C_OutOfRange) "__class__" = some (some (.builtin "object.__class__")))
    (m_OutOfRange : PySem.W.mroIn K C_OutOfRange (.type "object") = some true)
    (u_OutOfRange : PySem.W.subIn K (.ref C_OutOfRange) (.ref CS) = some true)
    (v_OutOfRange : PySem.W.kitOne K (.ref C_OutOfRange) (.ref C_OutOfRange) = some true)
    (y1 : PySem.W.specialIn K (.builtin "object.__class__") "__get__" = some (some (.builtin "getset_descriptor.__get__")))
    (y2 : PySem.W.takesIn K (.builtin "object.__class__") = some true) :
    LawG PySem.Challenge.rw_stilltold_k01_errors w K (L2.CX PySem.Challenge.pw_stilltold_k01_errors w) 63 mg fa h := by
  have e := hfa.symm.trans (PySem.W.mg_of X G a_law)
  cases e
  have T : TX K mg (clv [C_BadMachine, C_BadLog, C_OutOfRange]) := { b_abs := PySem.W.mg_none_of X G z_abs, b_all := PySem.W.mg_none_of X G z_all, b_bool := PySem.W.mg_none_of X G z_bool, b_int := PySem.W.mg_none_of X G z_int, b_isinstance := PySem.W.mg_none_of X G z_isinstance, b_len := PySem.W.mg_none_of X G z_len, b_list := PySem.W.mg_none_of X G z_list, b_range := PySem.W.mg_none_of X G z_range, b_repr := PySem.W.mg_none_of X G z_repr, b_sorted := PySem.W.mg_none_of X G z_sorted, b_str := PySem.W.mg_none_of X G z_str, b_tuple := PySem.W.mg_none_of X G z_tuple, c_MOST_EVENTS := ⟨_, PySem.W.mg_of X G a_MOST_EVENTS⟩, c_MOST_FOR_SECRET := ⟨_, PySem.W.mg_of X G a_MOST_FOR_SECRET⟩, c_MOST_LINE := ⟨_, PySem.W.mg_of X G a_MOST_LINE⟩, c_MOST_LOG := ⟨_, PySem.W.mg_of X G a_MOST_LOG⟩, c_MOST_STATES := ⟨_, PySem.W.mg_of X G a_MOST_STATES⟩, c_MOST_WATCH := ⟨_, PySem.W.mg_of X G a_MOST_WATCH⟩, e_BadLog := ⟨_, x_BadLog, PySem.W.mg_of X G a_BadLog, k_BadLog, s_BadLog, t_BadLog, rfl⟩, e_BadMachine := ⟨_, x_BadMachine, PySem.W.mg_of X G a_BadMachine, k_BadMachine, s_BadMachine, t_BadMachine, rfl⟩, e_OutOfRange := ⟨_, x_OutOfRange, PySem.W.mg_of X G a_OutOfRange, k_OutOfRange, s_OutOfRange, t_OutOfRange, rfl⟩ }
  have hrg : Rgs K (clv [C_BadMachine, C_BadLog, C_OutOfRange]) CS C_OutOfRange rg := by
    intro n b e
    unfold rg at e
    split at e
    · cases e; exact ⟨C_BadMachine, rfl, ⟨g_BadMachine, h_BadMachine, s_BadMachine, d_BadMachine, q_BadMachine, y1, y2, m_BadMachine⟩, exm_of s_ToldError i_ToldError t_ToldError u_BadMachine, v_BadMachine⟩
    · cases e; exact ⟨C_BadLog, rfl, ⟨g_BadLog, h_BadLog, s_BadLog, d_BadLog, q_BadLog, y1, y2, m_BadLog⟩, exm_of s_ToldError i_ToldError t_ToldError u_BadLog, v_BadLog⟩
    · cases e; exact ⟨C_OutOfRange, rfl, ⟨g_OutOfRange, h_OutOfRange, s_OutOfRange, d_OutOfRange, q_OutOfRange, y1, y2, m_OutOfRange⟩, exm_of s_ToldError i_ToldError t_ToldError u_OutOfRange, v_OutOfRange⟩
    · cases e
  refine ⟨[(cL_n_law_right, P_n_law_right), (cL_law, P_law)], (List.forall_mem_cons.mpr ⟨tab_ok (OT_n_law_right _ (PySem.W.mg_of X G a_n_law_right)) X l_n_law_right rfl xc_n_law_right x11_n_law_right nP_n_law_right x18_n_law_right x7_n_law_right x9_n_law_right x10_n_law_right cP_n_law_right, (List.forall_mem_cons.mpr ⟨tab_ok (OT_law _ (PySem.W.mg_of X G a_law)) X l_law rfl xc_law x11_law nP_law x18_law x7_law x9_law x10_law cP_law, (fun _ z => nomatch z)⟩)⟩), fun base s H a ns hl hbits kb nb TB e0 tabs sq => ?_⟩
  have F_is_integer := fun_mk (st := sis_integer) l_is_integer c_is_integer k_is_integer
  have B_is_integer := F_is_integer.binds (ps := ["thing"]) fun _ _ _ _ _ _ us hl => match us, hl with | [_], _ => rfl
  have O_is_integer : Ok PySem.Challenge.pw_stilltold_k01_errors w K mg base (clv [C_BadMachine, C_BadLog, C_OutOfRange]) "is_integer" 1 1 fis_integer := ⟨_, _, _, ok_is_integer T F_is_integer , PySem.W.mg_of X G a_is_integer, k_is_integer, B_is_integer⟩
  have F_states_after := fun_mk (st := sstates_after) l_states_after c_states_after k_states_after
  have B_states_after := F_states_after.binds (ps := ["machine", "states", "events"]) fun _ _ _ _ _ _ us hl => match us, hl with | [_, _, _], _ => rfl
  have O_states_after : Ok PySem.Challenge.pw_stilltold_k01_errors w K mg base (clv [C_BadMachine, C_BadLog, C_OutOfRange]) "states_after" 3 1 fstates_after := ⟨_, _, _, ok_states_after T F_states_after , PySem.W.mg_of X G a_states_after, k_states_after, B_states_after⟩
  have F_lines_of := fun_mk (st := slines_of) l_lines_of c_lines_of k_lines_of
  have B_lines_of := F_lines_of.binds (ps := ["marks", "events"]) fun _ _ _ _ _ _ us hl => match us, hl with | [_, _], _ => rfl
  have O_lines_of : Ok PySem.Challenge.pw_stilltold_k01_errors w K mg base (clv [C_BadMachine, C_BadLog, C_OutOfRange]) "lines_of" 2 1 flines_of := ⟨_, _, _, ok_lines_of T F_lines_of , PySem.W.mg_of X G a_lines_of, k_lines_of, B_lines_of⟩
  have F_is_lively_machine := fun_mk (st := sis_lively_machine) l_is_lively_machine c_is_lively_machine k_is_lively_machine
  have B_is_lively_machine := F_is_lively_machine.binds (ps := ["machine", "marks"]) fun _ _ _ _ _ _ us hl => match us, hl with | [_, _], _ => rfl
  have O_is_lively_machine : Ok PySem.Challenge.pw_stilltold_k01_errors w K mg base (clv [C_BadMachine, C_BadLog, C_OutOfRange]) "is_lively_machine" 2 1 fis_lively_machine := ⟨_, _, _, ok_is_lively_machine T F_is_lively_machine , PySem.W.mg_of X G a_is_lively_machine, k_is_lively_machine, B_is_lively_machine⟩
  have F_stays := fun_mk (st := sstays) l_stays c_stays k_stays
  have B_stays := F_stays.binds (ps := ["watch"]) fun _ _ _ _ _ _ us hl => match us, hl with | [_], _ => rfl
  have O_stays : Ok PySem.Challenge.pw_stilltold_k01_errors w K mg base (clv [C_BadMachine, C_BadLog, C_OutOfRange]) "stays" 1 1 fstays := ⟨_, _, _, ok_stays T F_stays , PySem.W.mg_of X G a_stays, k_stays, B_stays⟩
  have F_along := fun_mk (st := salong) l_along c_along k_along
  have B_along := F_along.binds (ps := ["watch", "state", "events"]) fun _ _ _ _ _ _ us hl => match us, hl with | [_, _, _], _ => rfl
  have O_along : Ok PySem.Challenge.pw_stilltold_k01_errors w K mg base (clv [C_BadMachine, C_BadLog, C_OutOfRange]) "along" 3 1 falong := ⟨_, _, _, ok_along T F_along , PySem.W.mg_of X G a_along, k_along, B_along⟩
  have F_is_enough := fun_mk (st := sis_enough) l_is_enough c_is_enough k_is_enough
  have B_is_enough := F_is_enough.binds (ps := ["machine", "watch", "events"]) fun _ _ _ _ _ _ us hl => match us, hl with | [_, _, _], _ => rfl
  have O_is_enough : Ok PySem.Challenge.pw_stilltold_k01_errors w K mg base (clv [C_BadMachine, C_BadLog, C_OutOfRange]) "is_enough" 3 1 fis_enough := ⟨_, _, _, ok_is_enough T F_is_enough , PySem.W.mg_of X G a_is_enough, k_is_enough, B_is_enough⟩
  have F_reader_of := fun_mk (st := sreader_of) l_reader_of c_reader_of k_reader_of
  have B_reader_of := F_reader_of.binds (ps := ["rule", "lines", "lost"]) fun _ _ _ _ _ _ us hl => match us, hl with | [_, _, _], _ => rfl
  have O_reader_of : Ok PySem.Challenge.pw_stilltold_k01_errors w K mg base (clv [C_BadMachine, C_BadLog, C_OutOfRange]) "reader_of" 3 1 freader_of := ⟨_, _, _, ok_reader_of T F_reader_of , PySem.W.mg_of X G a_reader_of, k_reader_of, B_reader_of⟩
  have F_n_law_cell := fun_mk (st := sn_law_cell) l_n_law_cell c_n_law_cell k_n_law_cell
  have B_n_law_cell := F_n_law_cell.binds (ps := ["script", "k"]) fun _ _ _ _ _ _ us hl => match us, hl with | [_, _], _ => rfl
  have O_n_law_cell : Ok PySem.Challenge.pw_stilltold_k01_errors w K mg base (clv [C_BadMachine, C_BadLog, C_OutOfRange]) "_law_cell" 2 1 fn_law_cell := ⟨_, _, _, ok_n_law_cell T F_n_law_cell , PySem.W.mg_of X G a_n_law_cell, k_n_law_cell, B_n_law_cell⟩
  have F_n_law_draw := fun_mk (st := sn_law_draw) l_n_law_draw c_n_law_draw k_n_law_draw
  have B_n_law_draw := F_n_law_draw.binds (ps := ["box", "high"]) fun _ _ _ _ _ _ us hl => match us, hl with | [_, _], _ => rfl
  have O_n_law_draw : Ok PySem.Challenge.pw_stilltold_k01_errors w K mg base (clv [C_BadMachine, C_BadLog, C_OutOfRange]) "_law_draw" 2 1 fn_law_draw := ⟨_, _, _, ok_n_law_draw T F_n_law_draw , PySem.W.mg_of X G a_n_law_draw, k_n_law_draw, B_n_law_draw⟩
  have F_n_law_read := fun_mk (st := sn_law_read) l_n_law_read c_n_law_read k_n_law_read
  have B_n_law_read := F_n_law_read.binds (ps := ["gave"]) fun _ _ _ _ _ _ us hl => match us, hl with | [_], _ => rfl
  have O_n_law_read : Ok PySem.Challenge.pw_stilltold_k01_errors w K mg base (clv [C_BadMachine, C_BadLog, C_OutOfRange]) "_law_read" 1 13 (fn_law_read 12) := ⟨_, _, _, ok_n_law_read T F_n_law_read B_n_law_read (PySem.W.mg_of X G a_n_law_read)  12, PySem.W.mg_of X G a_n_law_read, k_n_law_read, B_n_law_read⟩
  have F_n_law_bad_machines := fun_mk (st := sn_law_bad_machines) l_n_law_bad_machines c_n_law_bad_machines k_n_law_bad_machines
  have B_n_law_bad_machines := F_n_law_bad_machines.binds (ps := []) fun _ _ _ _ _ _ us hl => match us, hl with | [], _ => rfl
  have O_n_law_bad_machines : Ok PySem.Challenge.pw_stilltold_k01_errors w K mg base (clv [C_BadMachine, C_BadLog, C_OutOfRange]) "_law_bad_machines" 0 1 fn_law_bad_machines := ⟨_, _, _, ok_n_law_bad_machines T F_n_law_bad_machines , PySem.W.mg_of X G a_n_law_bad_machines, k_n_law_bad_machines, B_n_law_bad_machines⟩
  have F_n_law_bad_marks := fun_mk (st := sn_law_bad_marks) l_n_law_bad_marks c_n_law_bad_marks k_n_law_bad_marks
  have B_n_law_bad_marks := F_n_law_bad_marks.binds (ps := []) fun _ _ _ _ _ _ us hl => match us, hl with | [], _ => rfl
  have O_n_law_bad_marks : Ok PySem.Challenge.pw_stilltold_k01_errors w K mg base (clv [C_BadMachine, C_BadLog, C_OutOfRange]) "_law_bad_marks" 0 1 fn_law_bad_marks := ⟨_, _, _, ok_n_law_bad_marks T F_n_law_bad_marks , PySem.W.mg_of X G a_n_law_bad_marks, k_n_law_bad_marks, B_n_law_bad_marks⟩
  have F_n_law_bad_watches := fun_mk (st := sn_law_bad_watches) l_n_law_bad_watches c_n_law_bad_watches k_n_law_bad_watches
  have B_n_law_bad_watches := F_n_law_bad_watches.binds (ps := []) fun _ _ _ _ _ _ us hl => match us, hl with | [], _ => rfl
  have O_n_law_bad_watches : Ok PySem.Challenge.pw_stilltold_k01_errors w K mg base (clv [C_BadMachine, C_BadLog, C_OutOfRange]) "_law_bad_watches" 0 1 fn_law_bad_watches := ⟨_, _, _, ok_n_law_bad_watches T F_n_law_bad_watches , PySem.W.mg_of X G a_n_law_bad_watches, k_n_law_bad_watches, B_n_law_bad_watches⟩
  have F_n_law_bad_logs := fun_mk (st := sn_law_bad_logs) l_n_law_bad_logs c_n_law_bad_logs k_n_law_bad_logs
  have B_n_law_bad_logs := F_n_law_bad_logs.binds (ps := []) fun _ _ _ _ _ _ us hl => match us, hl with | [], _ => rfl
  have O_n_law_bad_logs : Ok PySem.Challenge.pw_stilltold_k01_errors w K mg base (clv [C_BadMachine, C_BadLog, C_OutOfRange]) "_law_bad_logs" 0 1 fn_law_bad_logs := ⟨_, _, _, ok_n_law_bad_logs T F_n_law_bad_logs , PySem.W.mg_of X G a_n_law_bad_logs, k_n_law_bad_logs, B_n_law_bad_logs⟩
  have F_is_below := fun_mk (st := sis_below) l_is_below c_is_below k_is_below
  have B_is_below := F_is_below.binds (ps := ["thing", "bound"]) fun _ _ _ _ _ _ us hl => match us, hl with | [_, _], _ => rfl
  have O_is_below : Ok PySem.Challenge.pw_stilltold_k01_errors w K mg base (clv [C_BadMachine, C_BadLog, C_OutOfRange]) "is_below" 2 2 fis_below := ⟨_, _, _, ok_is_below T F_is_below O_is_integer, PySem.W.mg_of X G a_is_below, k_is_below, B_is_below⟩
  have F_is_between := fun_mk (st := sis_between) l_is_between c_is_between k_is_between
  have B_is_between := F_is_between.binds (ps := ["thing", "low", "high"]) fun _ _ _ _ _ _ us hl => match us, hl with | [_, _, _], _ => rfl
  have O_is_between : Ok PySem.Challenge.pw_stilltold_k01_errors w K mg base (clv [C_BadMachine, C_BadLog, C_OutOfRange]) "is_between" 3 2 fis_between := ⟨_, _, _, ok_is_between T F_is_between O_is_integer, PySem.W.mg_of X G a_is_between, k_is_between, B_is_between⟩
  have F_goes_round := fun_mk (st := sgoes_round) l_goes_round c_goes_round k_goes_round
  have B_goes_round := F_goes_round.binds (ps := ["machine", "ahead", "around"]) fun _ _ _ _ _ _ us hl => match us, hl with | [_, _, _], _ => rfl
  have O_goes_round : Ok PySem.Challenge.pw_stilltold_k01_errors w K mg base (clv [C_BadMachine, C_BadLog, C_OutOfRange]) "goes_round" 3 2 fgoes_round := ⟨_, _, _, ok_goes_round T F_goes_round O_states_after, PySem.W.mg_of X G a_goes_round, k_goes_round, B_goes_round⟩
  have F_n_law_stream := fun_mk (st := sn_law_stream) l_n_law_stream c_n_law_stream k_n_law_stream
  have B_n_law_stream := F_n_law_stream.binds (ps := ["script", "k"]) fun _ _ _ _ _ _ us hl => match us, hl with | [_, _], _ => rfl
  have O_n_law_stream : Ok PySem.Challenge.pw_stilltold_k01_errors w K mg base (clv [C_BadMachine, C_BadLog, C_OutOfRange]) "_law_stream" 2 2 fn_law_stream := ⟨_, _, _, ok_n_law_stream T F_n_law_stream O_n_law_cell, PySem.W.mg_of X G a_n_law_stream, k_n_law_stream, B_n_law_stream⟩
  have F_is_set := fun_mk (st := sis_set) l_is_set c_is_set k_is_set
  have B_is_set := F_is_set.binds (ps := ["thing", "bound"]) fun _ _ _ _ _ _ us hl => match us, hl with | [_, _], _ => rfl
  have O_is_set : Ok PySem.Challenge.pw_stilltold_k01_errors w K mg base (clv [C_BadMachine, C_BadLog, C_OutOfRange]) "is_set" 2 3 fis_set := ⟨_, _, _, ok_is_set T F_is_set O_is_below, PySem.W.mg_of X G a_is_set, k_is_set, B_is_set⟩
  have F_is_arrow := fun_mk (st := sis_arrow) l_is_arrow c_is_arrow k_is_arrow
  have B_is_arrow := F_is_arrow.binds (ps := ["thing", "k", "n"]) fun _ _ _ _ _ _ us hl => match us, hl with | [_, _, _], _ => rfl
  have O_is_arrow : Ok PySem.Challenge.pw_stilltold_k01_errors w K mg base (clv [C_BadMachine, C_BadLog, C_OutOfRange]) "is_arrow" 3 3 fis_arrow := ⟨_, _, _, ok_is_arrow T F_is_arrow O_is_below, PySem.W.mg_of X G a_is_arrow, k_is_arrow, B_is_arrow⟩
  have F_check_marks := fun_mk (st := scheck_marks) l_check_marks c_check_marks k_check_marks
  have B_check_marks := F_check_marks.binds (ps := ["machine", "marks"]) fun _ _ _ _ _ _ us hl => match us, hl with | [_, _], _ => rfl
  have O_check_marks : Ok PySem.Challenge.pw_stilltold_k01_errors w K mg base (clv [C_BadMachine, C_BadLog, C_OutOfRange]) "check_marks" 2 3 fcheck_marks := ⟨_, _, _, ok_check_marks T F_check_marks O_is_between, PySem.W.mg_of X G a_check_marks, k_check_marks, B_check_marks⟩
  have F_check_log := fun_mk (st := scheck_log) l_check_log c_check_log k_check_log
  have B_check_log := F_check_log.binds (ps := ["log"]) fun _ _ _ _ _ _ us hl => match us, hl with | [_], _ => rfl
  have O_check_log : Ok PySem.Challenge.pw_stilltold_k01_errors w K mg base (clv [C_BadMachine, C_BadLog, C_OutOfRange]) "check_log" 1 3 fcheck_log := ⟨_, _, _, ok_check_log T F_check_log O_is_between, PySem.W.mg_of X G a_check_log, k_check_log, B_check_log⟩
  have F_check_events := fun_mk (st := scheck_events) l_check_events c_check_events k_check_events
  have B_check_events := F_check_events.binds (ps := ["events", "k"]) fun _ _ _ _ _ _ us hl => match us, hl with | [_, _], _ => rfl
  have O_check_events : Ok PySem.Challenge.pw_stilltold_k01_errors w K mg base (clv [C_BadMachine, C_BadLog, C_OutOfRange]) "check_events" 2 3 fcheck_events := ⟨_, _, _, ok_check_events T F_check_events O_is_below, PySem.W.mg_of X G a_check_events, k_check_events, B_check_events⟩
  have F_is_row := fun_mk (st := sis_row) l_is_row c_is_row k_is_row
  have B_is_row := F_is_row.binds (ps := ["thing", "k"]) fun _ _ _ _ _ _ us hl => match us, hl with | [_, _], _ => rfl
  have O_is_row : Ok PySem.Challenge.pw_stilltold_k01_errors w K mg base (clv [C_BadMachine, C_BadLog, C_OutOfRange]) "is_row" 2 3 fis_row := ⟨_, _, _, ok_is_row T F_is_row O_is_below, PySem.W.mg_of X G a_is_row, k_is_row, B_is_row⟩
  have F_check_machine_alone := fun_mk (st := scheck_machine_alone) l_check_machine_alone c_check_machine_alone k_check_machine_alone
  have B_check_machine_alone := F_check_machine_alone.binds (ps := ["machine"]) fun _ _ _ _ _ _ us hl => match us, hl with | [_], _ => rfl
  have O_check_machine_alone : Ok PySem.Challenge.pw_stilltold_k01_errors w K mg base (clv [C_BadMachine, C_BadLog, C_OutOfRange]) "check_machine_alone" 1 4 fcheck_machine_alone := ⟨_, _, _, ok_check_machine_alone T F_check_machine_alone O_is_arrow O_is_between O_is_set, PySem.W.mg_of X G a_check_machine_alone, k_check_machine_alone, B_check_machine_alone⟩
  have F_check_watch := fun_mk (st := scheck_watch) l_check_watch c_check_watch k_check_watch
  have B_check_watch := F_check_watch.binds (ps := ["machine", "watch"]) fun _ _ _ _ _ _ us hl => match us, hl with | [_, _], _ => rfl
  have O_check_watch : Ok PySem.Challenge.pw_stilltold_k01_errors w K mg base (clv [C_BadMachine, C_BadLog, C_OutOfRange]) "check_watch" 2 4 fcheck_watch := ⟨_, _, _, ok_check_watch T F_check_watch O_is_below O_is_between O_is_set, PySem.W.mg_of X G a_check_watch, k_check_watch, B_check_watch⟩
  have F_log_of := fun_mk (st := slog_of) l_log_of c_log_of k_log_of
  have B_log_of := F_log_of.binds (ps := ["marks", "events"]) fun _ _ _ _ _ _ us hl => match us, hl with | [_, _], _ => rfl
  have O_log_of : Ok PySem.Challenge.pw_stilltold_k01_errors w K mg base (clv [C_BadMachine, C_BadLog, C_OutOfRange]) "log_of" 2 4 flog_of := ⟨_, _, _, ok_log_of T F_log_of O_check_events O_check_marks O_is_between O_lines_of, PySem.W.mg_of X G a_log_of, k_log_of, B_log_of⟩
  have F_check_rule := fun_mk (st := scheck_rule) l_check_rule c_check_rule k_check_rule
  have B_check_rule := F_check_rule.binds (ps := ["rule"]) fun _ _ _ _ _ _ us hl => match us, hl with | [_], _ => rfl
  have O_check_rule : Ok PySem.Challenge.pw_stilltold_k01_errors w K mg base (clv [C_BadMachine, C_BadLog, C_OutOfRange]) "check_rule" 1 4 fcheck_rule := ⟨_, _, _, ok_check_rule T F_check_rule O_is_between O_is_set, PySem.W.mg_of X G a_check_rule, k_check_rule, B_check_rule⟩
  have F_check_both := fun_mk (st := scheck_both) l_check_both c_check_both k_check_both
  have B_check_both := F_check_both.binds (ps := ["machine", "marks"]) fun _ _ _ _ _ _ us hl => match us, hl with | [_, _], _ => rfl
  have O_check_both : Ok PySem.Challenge.pw_stilltold_k01_errors w K mg base (clv [C_BadMachine, C_BadLog, C_OutOfRange]) "check_both" 2 5 fcheck_both := ⟨_, _, _, ok_check_both T F_check_both O_check_machine_alone O_check_marks, PySem.W.mg_of X G a_check_both, k_check_both, B_check_both⟩
  have F_is_run := fun_mk (st := sis_run) l_is_run c_is_run k_is_run
  have B_is_run := F_is_run.binds (ps := ["machine", "events"]) fun _ _ _ _ _ _ us hl => match us, hl with | [_, _], _ => rfl
  have O_is_run : Ok PySem.Challenge.pw_stilltold_k01_errors w K mg base (clv [C_BadMachine, C_BadLog, C_OutOfRange]) "is_run" 2 5 fis_run := ⟨_, _, _, ok_is_run T F_is_run O_check_events O_check_machine_alone O_states_after, PySem.W.mg_of X G a_is_run, k_is_run, B_is_run⟩
  have F_enough := fun_mk (st := senough) l_enough c_enough k_enough
  have B_enough := F_enough.binds (ps := ["machine", "watch", "E"]) fun _ _ _ _ _ _ us hl => match us, hl with | [_, _, _], _ => rfl
  have O_enough : Ok PySem.Challenge.pw_stilltold_k01_errors w K mg base (clv [C_BadMachine, C_BadLog, C_OutOfRange]) "enough" 3 5 fenough := ⟨_, _, _, ok_enough T F_enough O_check_machine_alone O_check_watch O_is_enough O_is_set, PySem.W.mg_of X G a_enough, k_enough, B_enough⟩
  have F_least_sets := fun_mk (st := sleast_sets) l_least_sets c_least_sets k_least_sets
  have B_least_sets := F_least_sets.binds (ps := ["machine", "watch"]) fun _ _ _ _ _ _ us hl => match us, hl with | [_, _], _ => rfl
  have O_least_sets : Ok PySem.Challenge.pw_stilltold_k01_errors w K mg base (clv [C_BadMachine, C_BadLog, C_OutOfRange]) "least_sets" 2 5 fleast_sets := ⟨_, _, _, ok_least_sets T F_least_sets O_check_machine_alone O_check_watch, PySem.W.mg_of X G a_least_sets, k_least_sets, B_least_sets⟩
  have F_check_all := fun_mk (st := scheck_all) l_check_all c_check_all k_check_all
  have B_check_all := F_check_all.binds (ps := ["machine", "marks", "watch"]) fun _ _ _ _ _ _ us hl => match us, hl with | [_, _, _], _ => rfl
  have O_check_all : Ok PySem.Challenge.pw_stilltold_k01_errors w K mg base (clv [C_BadMachine, C_BadLog, C_OutOfRange]) "check_all" 3 6 fcheck_all := ⟨_, _, _, ok_check_all T F_check_all O_check_both O_check_watch, PySem.W.mg_of X G a_check_all, k_check_all, B_check_all⟩
  have F_check_machine := fun_mk (st := scheck_machine) l_check_machine c_check_machine k_check_machine
  have B_check_machine := F_check_machine.binds (ps := ["machine", "marks"]) fun _ _ _ _ _ _ us hl => match us, hl with | [_, _], _ => rfl
  have O_check_machine : Ok PySem.Challenge.pw_stilltold_k01_errors w K mg base (clv [C_BadMachine, C_BadLog, C_OutOfRange]) "check_machine" 2 6 fcheck_machine := ⟨_, _, _, ok_check_machine T F_check_machine O_check_both, PySem.W.mg_of X G a_check_machine, k_check_machine, B_check_machine⟩
  have F_is_lively := fun_mk (st := sis_lively) l_is_lively c_is_lively k_is_lively
  have B_is_lively := F_is_lively.binds (ps := ["machine", "marks"]) fun _ _ _ _ _ _ us hl => match us, hl with | [_, _], _ => rfl
  have O_is_lively : Ok PySem.Challenge.pw_stilltold_k01_errors w K mg base (clv [C_BadMachine, C_BadLog, C_OutOfRange]) "is_lively" 2 6 fis_lively := ⟨_, _, _, ok_is_lively T F_is_lively O_check_both O_is_lively_machine, PySem.W.mg_of X G a_is_lively, k_is_lively, B_is_lively⟩
  have F_states_behind := fun_mk (st := sstates_behind) l_states_behind c_states_behind k_states_behind
  have B_states_behind := F_states_behind.binds (ps := ["machine", "marks", "log"]) fun _ _ _ _ _ _ us hl => match us, hl with | [_, _, _], _ => rfl
  have O_states_behind : Ok PySem.Challenge.pw_stilltold_k01_errors w K mg base (clv [C_BadMachine, C_BadLog, C_OutOfRange]) "states_behind" 3 6 fstates_behind := ⟨_, _, _, ok_states_behind T F_states_behind O_check_both O_check_log, PySem.W.mg_of X G a_states_behind, k_states_behind, B_states_behind⟩
  have F_fitting_run := fun_mk (st := sfitting_run) l_fitting_run c_fitting_run k_fitting_run
  have B_fitting_run := F_fitting_run.binds (ps := ["machine", "marks", "log"]) fun _ _ _ _ _ _ us hl => match us, hl with | [_, _, _], _ => rfl
  have O_fitting_run : Ok PySem.Challenge.pw_stilltold_k01_errors w K mg base (clv [C_BadMachine, C_BadLog, C_OutOfRange]) "fitting_run" 3 6 ffitting_run := ⟨_, _, _, ok_fitting_run T F_fitting_run O_check_both O_check_log, PySem.W.mg_of X G a_fitting_run, k_fitting_run, B_fitting_run⟩
  have F_told := fun_mk (st := stold) l_told c_told k_told
  have B_told := F_told.binds (ps := ["machine", "marks", "watch"]) fun _ _ _ _ _ _ us hl => match us, hl with | [_, _, _], _ => rfl
  have O_told : Ok PySem.Challenge.pw_stilltold_k01_errors w K mg base (clv [C_BadMachine, C_BadLog, C_OutOfRange]) "told" 3 7 ftold := ⟨_, _, _, ok_told T F_told O_check_all, PySem.W.mg_of X G a_told, k_told, B_told⟩
  have F_check_end := fun_mk (st := scheck_end) l_check_end c_check_end k_check_end
  have B_check_end := F_check_end.binds (ps := ["machine", "marks", "watch"]) fun _ _ _ _ _ _ us hl => match us, hl with | [_, _, _], _ => rfl
  have O_check_end : Ok PySem.Challenge.pw_stilltold_k01_errors w K mg base (clv [C_BadMachine, C_BadLog, C_OutOfRange]) "check_end" 3 7 fcheck_end := ⟨_, _, _, ok_check_end T F_check_end O_check_all O_is_lively_machine O_stays, PySem.W.mg_of X G a_check_end, k_check_end, B_check_end⟩
  have F_secret := fun_mk (st := ssecret) l_secret c_secret k_secret
  have B_secret := F_secret.binds (ps := ["machine", "marks", "watch"]) fun _ _ _ _ _ _ us hl => match us, hl with | [_, _, _], _ => rfl
  have O_secret : Ok PySem.Challenge.pw_stilltold_k01_errors w K mg base (clv [C_BadMachine, C_BadLog, C_OutOfRange]) "secret" 3 7 fsecret := ⟨_, _, _, ok_secret T F_secret O_check_all, PySem.W.mg_of X G a_secret, k_secret, B_secret⟩
  have F_answer := fun_mk (st := sanswer) l_answer c_answer k_answer
  have B_answer := F_answer.binds (ps := ["machine", "marks", "watch", "log"]) fun _ _ _ _ _ _ us hl => match us, hl with | [_, _, _, _], _ => rfl
  have O_answer : Ok PySem.Challenge.pw_stilltold_k01_errors w K mg base (clv [C_BadMachine, C_BadLog, C_OutOfRange]) "answer" 4 7 fanswer := ⟨_, _, _, ok_answer T F_answer O_check_all O_check_log, PySem.W.mg_of X G a_answer, k_answer, B_answer⟩
  have F_check_left := fun_mk (st := scheck_left) l_check_left c_check_left k_check_left
  have B_check_left := F_check_left.binds (ps := ["machine", "marks", "watch", "rule", "lines", "lost"]) fun _ _ _ _ _ _ us hl => match us, hl with | [_, _, _, _, _, _], _ => rfl
  have O_check_left : Ok PySem.Challenge.pw_stilltold_k01_errors w K mg base (clv [C_BadMachine, C_BadLog, C_OutOfRange]) "check_left" 6 7 fcheck_left := ⟨_, _, _, ok_check_left T F_check_left O_check_all O_check_log O_check_rule O_is_between, PySem.W.mg_of X G a_check_left, k_check_left, B_check_left⟩
  have F_is_never := fun_mk (st := sis_never) l_is_never c_is_never k_is_never
  have B_is_never := F_is_never.binds (ps := ["machine", "marks", "watch", "paper"]) fun _ _ _ _ _ _ us hl => match us, hl with | [_, _, _, _], _ => rfl
  have O_is_never : Ok PySem.Challenge.pw_stilltold_k01_errors w K mg base (clv [C_BadMachine, C_BadLog, C_OutOfRange]) "is_never" 4 8 fis_never := ⟨_, _, _, ok_is_never T F_is_never O_along O_check_end O_goes_round O_is_row O_lines_of, PySem.W.mg_of X G a_is_never, k_is_never, B_is_never⟩
  have F_answer_left := fun_mk (st := sanswer_left) l_answer_left c_answer_left k_answer_left
  have B_answer_left := F_answer_left.binds (ps := ["machine", "marks", "watch", "rule", "lines", "lost"]) fun _ _ _ _ _ _ us hl => match us, hl with | [_, _, _, _, _, _], _ => rfl
  have O_answer_left : Ok PySem.Challenge.pw_stilltold_k01_errors w K mg base (clv [C_BadMachine, C_BadLog, C_OutOfRange]) "answer_left" 6 8 fanswer_left := ⟨_, _, _, ok_answer_left T F_answer_left O_check_left O_reader_of, PySem.W.mg_of X G a_answer_left, k_answer_left, B_answer_left⟩
  have F_n_law_told := fun_mk (st := sn_law_told) l_n_law_told c_n_law_told k_n_law_told
  have TO := tld (w := w) (P := PySem.Challenge.pw_stilltold_k01_errors) (base := base) T l_n_law_told c_n_law_told (PySem.W.mg_of X G a_n_law_told) k_n_law_told (Binds.all fun us hl => match us, hl with | [_], _ => rfl) O_n_law_read (PySem.W.mg_of X G a_ToldError) (PySem.W.mg_of X G a_OutOfRange) hrg
  have OH_n_law_right := ok_n_law_right (TT := [(P_n_law_right, lamQ "_law_right"), (P_law, lamQ "law")]) T l_n_law_right c_n_law_right TO (TB (cL_n_law_right, P_n_law_right) (.head _)) (.head _) (hu_of ndP (.head _)) O_n_law_draw (PySem.W.mg_of X G a_n_law_right) k_n_law_right (Binds.all fun us hl => match us, hl with | [_, _, _], _ => rfl)
  exact ok_law (TT := [(P_n_law_right, lamQ "_law_right"), (P_law, lamQ "law")]) T l_law c_law TO (TB (cL_law, P_law) (.tail _ (.head _))) (.tail _ (.head _)) (hu_of ndP (.tail _ (.head _))) O_n_law_bad_logs O_n_law_bad_machines O_n_law_bad_marks O_n_law_bad_watches O_n_law_stream O_answer O_answer_left O_check_machine O_enough O_fitting_run O_is_lively O_is_never O_is_run O_least_sets O_log_of O_secret O_states_behind O_told (PySem.W.mg_of X G a_check_machine) (PySem.W.mg_of X G a_is_lively) (PySem.W.mg_of X G a_states_behind) (PySem.W.mg_of X G a_fitting_run) (PySem.W.mg_of X G a_told) (PySem.W.mg_of X G a_secret) OH_n_law_right e0 (List.forall_mem_cons.mpr ⟨tabs (cL_n_law_right, P_n_law_right) (.head _), (List.forall_mem_cons.mpr ⟨tabs (cL_law, P_law) (.tail _ (.head _)), (fun _ z => nomatch z)⟩)⟩) sq (by rw [sizeLine_eq]; omega) (law_true ns hl hbits)
end K01
open PySem PySem.W PyProof.Rows
set_option maxHeartbeats 0 in
theorem PySem.Challenge.cw_stilltold_k01_errors_holds : PySem.Challenge.rw_stilltold_k01_errors.Holds := by
  w_on; o_law; k_head; (case hw => w_witness2)
  k_fill
  refine Dn.walk_lawG (l := PySem.Challenge.rw_stilltold_k01_errors) rfl rfl (fun w h Y => by first | exact PySem.W.km_in_of Y | exact PySem.W.kIn_of Y) ?F
  case F =>
    intro w mg fa h Y KX G hmg OT
    refine' K01.all_mk KX G hmg (fun fa hm => OT "_law_right" fa (by decide +kernel) hm) (fun fa hm => OT "law" fa (by decide +kernel) hm) ?a_is_integer ?l_is_integer ?c_is_integer ?k_is_integer ?a_is_below ?l_is_below ?c_is_below ?k_is_below ?a_is_between ?l_is_between ?c_is_between ?k_is_between ?a_is_set ?l_is_set ?c_is_set ?k_is_set ?a_is_arrow ?l_is_arrow ?c_is_arrow ?k_is_arrow ?a_check_machine_alone ?l_check_machine_alone ?c_check_machine_alone ?k_check_machine_alone ?a_check_marks ?l_check_marks ?c_check_marks ?k_check_marks ?a_check_both ?l_check_both ?c_check_both ?k_check_both ?a_check_watch ?l_check_watch ?c_check_watch ?k_check_watch ?a_check_all ?l_check_all ?c_check_all ?k_check_all ?a_check_log ?l_check_log ?c_check_log ?k_check_log ?a_check_machine ?l_check_machine ?c_check_machine ?k_check_machine ?a_is_run ?l_is_run ?c_is_run ?k_is_run ?a_check_events ?l_check_events ?c_check_events ?k_check_events ?a_states_after ?l_states_after ?c_states_after ?k_states_after ?a_log_of ?l_log_of ?c_log_of ?k_log_of ?a_lines_of ?l_lines_of ?c_lines_of ?k_lines_of ?a_is_lively_machine ?l_is_lively_machine ?c_is_lively_machine ?k_is_lively_machine ?a_is_lively ?l_is_lively ?c_is_lively ?k_is_lively ?a_states_behind ?l_states_behind ?c_states_behind ?k_states_behind ?a_told ?l_told ?c_told ?k_told ?a_stays ?l_stays ?c_stays ?k_stays ?a_check_end ?l_check_end ?c_check_end ?k_check_end ?a_is_row ?l_is_row ?c_is_row ?k_is_row ?a_along ?l_along ?c_along ?k_along ?a_goes_round ?l_goes_round ?c_goes_round ?k_goes_round ?a_is_never ?l_is_never ?c_is_never ?k_is_never ?a_is_enough ?l_is_enough ?c_is_enough ?k_is_enough ?a_enough ?l_enough ?c_enough ?k_enough ?a_least_sets ?l_least_sets ?c_least_sets ?k_least_sets ?a_secret ?l_secret ?c_secret ?k_secret ?a_check_rule ?l_check_rule ?c_check_rule ?k_check_rule ?a_reader_of ?l_reader_of ?c_reader_of ?k_reader_of ?a_answer ?l_answer ?c_answer ?k_answer ?a_check_left ?l_check_left ?c_check_left ?k_check_left ?a_answer_left ?l_answer_left ?c_answer_left ?k_answer_left ?a_fitting_run ?l_fitting_run ?c_fitting_run ?k_fitting_run ?a_n_law_cell ?l_n_law_cell ?c_n_law_cell ?k_n_law_cell ?a_n_law_stream ?l_n_law_stream ?c_n_law_stream ?k_n_law_stream ?a_n_law_draw ?l_n_law_draw ?c_n_law_draw ?k_n_law_draw ?a_n_law_read ?l_n_law_read ?c_n_law_read ?k_n_law_read ?a_n_law_told ?l_n_law_told ?c_n_law_told ?k_n_law_told ?a_n_law_bad_machines ?l_n_law_bad_machines ?c_n_law_bad_machines ?k_n_law_bad_machines ?a_n_law_bad_marks ?l_n_law_bad_marks ?c_n_law_bad_marks ?k_n_law_bad_marks ?a_n_law_bad_watches ?l_n_law_bad_watches ?c_n_law_bad_watches ?k_n_law_bad_watches ?a_n_law_bad_logs ?l_n_law_bad_logs ?c_n_law_bad_logs ?k_n_law_bad_logs ?a_n_law_right ?l_n_law_right ?c_n_law_right ?k_n_law_right ?a_law ?l_law ?c_law ?k_law ?xc_n_law_right ?x11_n_law_right ?nP_n_law_right ?x18_n_law_right ?x7_n_law_right ?x9_n_law_right ?x10_n_law_right ?cP_n_law_right ?xc_law ?x11_law ?nP_law ?x18_law ?x7_law ?x9_law ?x10_law ?cP_law ?ndP ?z_abs ?z_all ?z_bool ?z_int ?z_isinstance ?z_len ?z_list ?z_range ?z_repr ?z_sorted ?z_str ?z_tuple ?a_MOST_EVENTS ?a_MOST_FOR_SECRET ?a_MOST_LINE ?a_MOST_LOG ?a_MOST_STATES ?a_MOST_WATCH ?a_ToldError ?s_ToldError ?i_ToldError ?t_ToldError ?a_BadMachine ?a_BadLog ?a_OutOfRange ?x_BadMachine ?k_BadMachine ?s_BadMachine ?t_BadMachine ?g_BadMachine ?h_BadMachine ?d_BadMachine ?q_BadMachine ?m_BadMachine ?u_BadMachine ?v_BadMachine ?x_BadLog ?k_BadLog ?s_BadLog ?t_BadLog ?g_BadLog ?h_BadLog ?d_BadLog ?q_BadLog ?m_BadLog ?u_BadLog ?v_BadLog ?x_OutOfRange ?k_OutOfRange ?s_OutOfRange ?t_OutOfRange ?g_OutOfRange ?h_OutOfRange ?d_OutOfRange ?q_OutOfRange ?m_OutOfRange ?u_OutOfRange ?v_OutOfRange ?y1 ?y2
    (case a_is_integer => k_is)
    (case l_is_integer => k_is)
    (case c_is_integer => k_is)
    (case k_is_integer => k_is)
    (case a_is_below => k_is)
    (case l_is_below => k_is)
    (case c_is_below => k_is)
    (case k_is_below => k_is)
    (case a_is_between => k_is)
    (case l_is_between => k_is)
    (case c_is_between => k_is)
    (case k_is_between => k_is)
    (case a_is_set => k_is)
    (case l_is_set => k_is)
    (case c_is_set => k_is)
    (case k_is_set => k_is)
    (case a_is_arrow => k_is)
    (case l_is_arrow => k_is)
    (case c_is_arrow => k_is)
    (case k_is_arrow => k_is)
    (case a_check_machine_alone => k_is)
    (case l_check_machine_alone => k_is)
    (case c_check_machine_alone => k_is)
    (case k_check_machine_alone => k_is)
    (case a_check_marks => k_is)
    (case l_check_marks => k_is)
    (case c_check_marks => k_is)
    (case k_check_marks => k_is)
    (case a_check_both => k_is)
    (case l_check_both => k_is)
    (case c_check_both => k_is)
    (case k_check_both => k_is)
    (case a_check_watch => k_is)
    (case l_check_watch => k_is)
    (case c_check_watch => k_is)
    (case k_check_watch => k_is)
    (case a_check_all => k_is)
    (case l_check_all => k_is)
    (case c_check_all => k_is)
    (case k_check_all => k_is)
    (case a_check_log => k_is)
    (case l_check_log => k_is)
    (case c_check_log => k_is)
    (case k_check_log => k_is)
    (case a_check_machine => k_is)
    (case l_check_machine => k_is)
    (case c_check_machine => k_is)
    (case k_check_machine => k_is)
    (case a_is_run => k_is)
    (case l_is_run => k_is)
    (case c_is_run => k_is)
    (case k_is_run => k_is)
    (case a_check_events => k_is)
    (case l_check_events => k_is)
    (case c_check_events => k_is)
    (case k_check_events => k_is)
    (case a_states_after => k_is)
    (case l_states_after => k_is)
    (case c_states_after => k_is)
    (case k_states_after => k_is)
    (case a_log_of => k_is)
    (case l_log_of => k_is)
    (case c_log_of => k_is)
    (case k_log_of => k_is)
    (case a_lines_of => k_is)
    (case l_lines_of => k_is)
    (case c_lines_of => k_is)
    (case k_lines_of => k_is)
    (case a_is_lively_machine => k_is)
    (case l_is_lively_machine => k_is)
    (case c_is_lively_machine => k_is)
    (case k_is_lively_machine => k_is)
    (case a_is_lively => k_is)
    (case l_is_lively => k_is)
    (case c_is_lively => k_is)
    (case k_is_lively => k_is)
    (case a_states_behind => k_is)
    (case l_states_behind => k_is)
    (case c_states_behind => k_is)
    (case k_states_behind => k_is)
    (case a_told => k_is)
    (case l_told => k_is)
    (case c_told => k_is)
    (case k_told => k_is)
    (case a_stays => k_is)
    (case l_stays => k_is)
    (case c_stays => k_is)
    (case k_stays => k_is)
    (case a_check_end => k_is)
    (case l_check_end => k_is)
    (case c_check_end => k_is)
    (case k_check_end => k_is)
    (case a_is_row => k_is)
    (case l_is_row => k_is)
    (case c_is_row => k_is)
    (case k_is_row => k_is)
    (case a_along => k_is)
    (case l_along => k_is)
    (case c_along => k_is)
    (case k_along => k_is)
    (case a_goes_round => k_is)
    (case l_goes_round => k_is)
    (case c_goes_round => k_is)
    (case k_goes_round => k_is)
    (case a_is_never => k_is)
    (case l_is_never => k_is)
    (case c_is_never => k_is)
    (case k_is_never => k_is)
    (case a_is_enough => k_is)
    (case l_is_enough => k_is)
    (case c_is_enough => k_is)
    (case k_is_enough => k_is)
    (case a_enough => k_is)
    (case l_enough => k_is)
    (case c_enough => k_is)
    (case k_enough => k_is)
    (case a_least_sets => k_is)
    (case l_least_sets => k_is)
    (case c_least_sets => k_is)
    (case k_least_sets => k_is)
    (case a_secret => k_is)
    (case l_secret => k_is)
    (case c_secret => k_is)
    (case k_secret => k_is)
    (case a_check_rule => k_is)
    (case l_check_rule => k_is)
    (case c_check_rule => k_is)
    (case k_check_rule => k_is)
    (case a_reader_of => k_is)
    (case l_reader_of => k_is)
    (case c_reader_of => k_is)
    (case k_reader_of => k_is)
    (case a_answer => k_is)
    (case l_answer => k_is)
    (case c_answer => k_is)
    (case k_answer => k_is)
    (case a_check_left => k_is)
    (case l_check_left => k_is)
    (case c_check_left => k_is)
    (case k_check_left => k_is)
    (case a_answer_left => k_is)
    (case l_answer_left => k_is)
    (case c_answer_left => k_is)
    (case k_answer_left => k_is)
    (case a_fitting_run => k_is)
    (case l_fitting_run => k_is)
    (case c_fitting_run => k_is)
    (case k_fitting_run => k_is)
    (case a_n_law_cell => k_is)
    (case l_n_law_cell => k_is)
    (case c_n_law_cell => k_is)
    (case k_n_law_cell => k_is)
    (case a_n_law_stream => k_is)
    (case l_n_law_stream => k_is)
    (case c_n_law_stream => k_is)
    (case k_n_law_stream => k_is)
    (case a_n_law_draw => k_is)
    (case l_n_law_draw => k_is)
    (case c_n_law_draw => k_is)
    (case k_n_law_draw => k_is)
    (case a_n_law_read => k_is)
    (case l_n_law_read => k_is)
    (case c_n_law_read => k_is)
    (case k_n_law_read => k_is)
    (case a_n_law_told => k_is)
    (case l_n_law_told => k_is)
    (case c_n_law_told => k_is)
    (case k_n_law_told => k_is)
    (case a_n_law_bad_machines => k_is)
    (case l_n_law_bad_machines => k_is)
    (case c_n_law_bad_machines => k_is)
    (case k_n_law_bad_machines => k_is)
    (case a_n_law_bad_marks => k_is)
    (case l_n_law_bad_marks => k_is)
    (case c_n_law_bad_marks => k_is)
    (case k_n_law_bad_marks => k_is)
    (case a_n_law_bad_watches => k_is)
    (case l_n_law_bad_watches => k_is)
    (case c_n_law_bad_watches => k_is)
    (case k_n_law_bad_watches => k_is)
    (case a_n_law_bad_logs => k_is)
    (case l_n_law_bad_logs => k_is)
    (case c_n_law_bad_logs => k_is)
    (case k_n_law_bad_logs => k_is)
    (case a_n_law_right => k_is)
    (case l_n_law_right => k_is)
    (case c_n_law_right => k_is)
    (case k_n_law_right => k_is)
    (case a_law => k_is)
    (case l_law => k_is)
    (case c_law => k_is)
    (case k_law => k_is)
    (case xc_n_law_right => k_is)
    (case x11_n_law_right => rfl)
    (case nP_n_law_right => first | rfl | k_is | decide +kernel)
    (case x18_n_law_right => rfl)
    (case x7_n_law_right => rfl)
    (case x9_n_law_right => rfl)
    (case x10_n_law_right => rfl)
    (case cP_n_law_right => first | decide | k_is)
    (case xc_law => k_is)
    (case x11_law => rfl)
    (case nP_law => first | rfl | k_is | decide +kernel)
    (case x18_law => rfl)
    (case x7_law => rfl)
    (case x9_law => rfl)
    (case x10_law => rfl)
    (case cP_law => first | decide | k_is)
    (case ndP => first | decide | k_is)
    (case z_abs => k_is)
    (case z_all => k_is)
    (case z_bool => k_is)
    (case z_int => k_is)
    (case z_isinstance => k_is)
    (case z_len => k_is)
    (case z_list => k_is)
    (case z_range => k_is)
    (case z_repr => k_is)
    (case z_sorted => k_is)
    (case z_str => k_is)
    (case z_tuple => k_is)
    (case a_MOST_EVENTS => k_is)
    (case a_MOST_FOR_SECRET => k_is)
    (case a_MOST_LINE => k_is)
    (case a_MOST_LOG => k_is)
    (case a_MOST_STATES => k_is)
    (case a_MOST_WATCH => k_is)
    (case a_ToldError => k_is)
    (case s_ToldError => k_is)
    (case i_ToldError => k_is)
    (case t_ToldError => k_is)
    (case a_BadMachine => k_is)
    (case a_BadLog => k_is)
    (case a_OutOfRange => k_is)
    (case x_BadMachine => first | k_exc | k_is)
    (case k_BadMachine => k_is)
    (case s_BadMachine => k_is)
    (case t_BadMachine => k_is)
    (case g_BadMachine => k_is)
    (case h_BadMachine => k_is)
    (case d_BadMachine => k_is)
    (case q_BadMachine => k_is)
    (case m_BadMachine => k_is)
    (case u_BadMachine => k_is)
    (case v_BadMachine => first | k_is | rfl | decide +kernel)
    (case x_BadLog => first | k_exc | k_is)
    (case k_BadLog => k_is)
    (case s_BadLog => k_is)
    (case t_BadLog => k_is)
    (case g_BadLog => k_is)
    (case h_BadLog => k_is)
    (case d_BadLog => k_is)
    (case q_BadLog => k_is)
    (case m_BadLog => k_is)
    (case u_BadLog => k_is)
    (case v_BadLog => first | k_is | rfl | decide +kernel)
    (case x_OutOfRange => first | k_exc | k_is)
    (case k_OutOfRange => k_is)
    (case s_OutOfRange => k_is)
    (case t_OutOfRange => k_is)
    (case g_OutOfRange => k_is)
    (case h_OutOfRange => k_is)
    (case d_OutOfRange => k_is)
    (case q_OutOfRange => k_is)
    (case m_OutOfRange => k_is)
    (case u_OutOfRange => k_is)
    (case v_OutOfRange => first | k_is | rfl | decide +kernel)
    (case y1 => k_is)
    (case y2 => k_is)
#print axioms PySem.Challenge.cw_stilltold_k01_errors_holds
