import PyProof.Rows.All
import Wide.All
import OpenK.AllK
import Wide.FinOn
import HandS.ForMost
import HandS.TupAny
import HandS.TupMul
import HandS.Style
import HandS.IsInst
import HandS.Wide
import HandS.More
import KE.GoesMore
import KE.GoesEnum
import HandS.SortInts
import KE.SortData
import HandS.List
import HandS.Words
import HandS.Text
import PySem.Challenge.RW_marblewright_k03_main_marbles_in_any_ord
set_option Elab.async false
set_option linter.all false
set_option maxRecDepth 100000
set_option maxHeartbeats 4000000
/-! The data layer: a def's body read as a total function upon plain data (PyData). -/
namespace DL
open PySem PySem.Spec PyProof.Rows L2

abbrev Fg := PySem.W.Frag
abbrev D := PyData
abbrev Sg := L2.St

/-! ### what a run upon data gives -/
inductive R (α : Type) where
  | bad
  | ok (a : α)
  | ex (C : Addr)
namespace R
def bind {α β : Type} (r : R α) (f : α → R β) : R β := match r with
  | .bad => .bad
  | .ok a => f a
  | .ex C => .ex C
instance : Monad R where
  pure := R.ok
  bind := R.bind
@[simp] theorem bind_ok {α β : Type} (a : α) (f : α → R β) : (R.ok a >>= f) = f a := rfl
@[simp] theorem bind_bad {α β : Type} (f : α → R β) : ((R.bad : R α) >>= f) = R.bad := rfl
@[simp] theorem bind_ex {α β : Type} (C : Addr) (f : α → R β) : ((R.ex C : R α) >>= f) = R.ex C := rfl
@[simp] theorem pure_ok {α : Type} (a : α) : (pure a : R α) = R.ok a := rfl
@[simp] theorem bind_ok' {α β : Type} (a : α) (f : α → R β) : (R.ok a).bind f = f a := rfl
@[simp] theorem bind_bad' {α β : Type} (f : α → R β) : (R.bad : R α).bind f = R.bad := rfl
@[simp] theorem bind_ex' {α β : Type} (C : Addr) (f : α → R β) : (R.ex C : R α).bind f = R.ex C := rfl
end R

/-! ### heaps that grow -/
def Ex (H H' : Hp) : Prop := ∀ a o, H a = some o → H' a = some o
theorem Ex.refl (H : Hp) : Ex H H := fun _ _ h => h
theorem Ex.trans {H H1 H2 : Hp} (a : Ex H H1) (b : Ex H1 H2) : Ex H H2 := fun x o h => b x o (a x o h)
theorem Ex.new {H : Hp} {p : Addr} {o : HO} (h : H p = none) : Ex H (upd H p o) := fun a u e => by
  rw [upd_ne (ne_of_none e h)]
  exact e
theorem Ex.mut {H H' : Hp} {p : Addr} {o : HO} (e : Ex H H') (h : H p = none) : Ex H (upd H' p o) := fun a u ha => by
  rw [upd_ne (ne_of_none ha h)]
  exact e a u ha
theorem Ex.both {B H : Hp} {p : Addr} {o : HO} (e : Ex B H) : Ex (upd B p o) (upd H p o) := fun a u ha => by
  by_cases h : a = p
  · subst h
    rw [upd_same] at ha ⊢
    exact ha
  · rw [upd_ne h] at ha ⊢
    exact e a u ha
theorem ex_rd {H H' : Hp} {a : Addr} {u : HO} (e : Ex H H') (h : Rd H a u) : Rd H' a u := by
  rcases h with h | ⟨o, h⟩
  · exact Or.inl (e a _ h)
  · exact Or.inr ⟨o, e a _ h⟩
theorem ex_l {K : Fg} {H H' : Hp} {a : Addr} {xs : List V} (e : Ex H H') (h : SqL K H a xs) : SqL K H' a xs := by
  rcases h with h | h
  · exact Or.inl (ex_rd e h)
  · exact Or.inr h
theorem ex_t {K : Fg} {H H' : Hp} {a : Addr} {xs : List V} (e : Ex H H') (h : SqT K H a xs) : SqT K H' a xs := by
  rcases h with h | h
  · exact Or.inl (ex_rd e h)
  · exact Or.inr h
theorem fresh_back {H H' : Hp} {p : Addr} (e : Ex H H') (h : H' p = none) : H p = none := by
  cases h1 : H p with
  | none => rfl
  | some o =>
    rw [e p o h1] at h
    cases h

/-! ### data in the heap -/
def keyD : List Key → D := fun ks => .tuple (ks.map fun k => match k with
  | .inl i => .int i
  | .inr x => .str x)
mutual
inductive Rp (K : Fg) (H : Hp) : V → D → Prop
  | non : Rp K H .non .none
  | bl (b : Bool) : Rp K H (.bl b) (.bool b)
  | int (i : Int) : Rp K H (.int i) (.int i)
  | str (x : Str) : Rp K H (.str x) (.str x)
  | lst {a : Addr} {xs : List V} {ds : List D} : SqL K H a xs → RpAll K H xs ds → Rp K H (.ref a) (.list ds)
  | tup {a : Addr} {xs : List V} {ds : List D} : SqT K H a xs → RpAll K H xs ds → Rp K H (.ref a) (.tuple ds)
  | dT {a : Addr} {kvs : List (List Key × V)} {ds : List D} : H a = some (.dT kvs) → RpAll K H (kvs.map (·.2)) ds → Rp K H (.ref a) (.dict ((kvs.map fun p => keyD p.1).zip ds))
inductive RpAll (K : Fg) (H : Hp) : List V → List D → Prop
  | nil : RpAll K H [] []
  | cons {v : V} {vs : List V} {d : D} {ds : List D} : Rp K H v d → RpAll K H vs ds → RpAll K H (v :: vs) (d :: ds)
end
section
variable {K : Fg} {H H' : Hp}
mutual
theorem Rp.mono (e : Ex H H') : ∀ {v : V} {d : D}, Rp K H v d → Rp K H' v d
  | _, _, .non => .non
  | _, _, .bl b => .bl b
  | _, _, .int i => .int i
  | _, _, .str x => .str x
  | _, _, .lst h r => .lst (ex_l e h) (RpAll.mono e r)
  | _, _, .tup h r => .tup (ex_t e h) (RpAll.mono e r)
  | _, _, .dT h r => .dT (e _ _ h) (RpAll.mono e r)
theorem RpAll.mono (e : Ex H H') : ∀ {vs : List V} {ds : List D}, RpAll K H vs ds → RpAll K H' vs ds
  | _, _, .nil => .nil
  | _, _, .cons a b => .cons (Rp.mono e a) (RpAll.mono e b)
end
theorem Rp.int_inv {v : V} {i : Int} (h : Rp K H v (.int i)) : v = .int i := by cases h; rfl
theorem Rp.str_inv {v : V} {x : Str} (h : Rp K H v (.str x)) : v = .str x := by cases h; rfl
theorem Rp.bl_inv {v : V} {b : Bool} (h : Rp K H v (.bool b)) : v = .bl b := by cases h; rfl
theorem Rp.non_inv {v : V} (h : Rp K H v .none) : v = .non := by cases h; rfl
theorem Rp.tup_inv {v : V} {ds : List D} (h : Rp K H v (.tuple ds)) : ∃ a xs, v = .ref a ∧ SqT K H a xs ∧ RpAll K H xs ds := by
  cases h with
  | tup h r => exact ⟨_, _, rfl, h, r⟩
theorem Rp.lst_inv {v : V} {ds : List D} (h : Rp K H v (.list ds)) : ∃ a xs, v = .ref a ∧ SqL K H a xs ∧ RpAll K H xs ds := by
  cases h with
  | lst h r => exact ⟨_, _, rfl, h, r⟩
theorem RpAll.length : ∀ {vs : List V} {ds : List D}, RpAll K H vs ds → vs.length = ds.length
  | _, _, .nil => rfl
  | _, _, .cons _ t => by rw [List.length_cons, List.length_cons, RpAll.length t]
theorem RpAll.get : ∀ {vs : List V} {ds : List D} {i : Nat} {d : D}, RpAll K H vs ds → ds[i]? = some d → ∃ v, vs[i]? = some v ∧ Rp K H v d
  | _, _, _, _, .nil, e => by simp at e
  | _, _, 0, _, .cons r _, e => by simp at e; subst e; exact ⟨_, rfl, r⟩
  | _, _, i + 1, d, .cons _ t, e => by
    obtain ⟨v, h1, h2⟩ := RpAll.get (i := i) (d := d) t (by simpa using e)
    exact ⟨v, by simpa using h1, h2⟩
theorem RpAll.getV : ∀ {vs : List V} {ds : List D} {i : Nat} {v : V}, RpAll K H vs ds → vs[i]? = some v → ∃ d, ds[i]? = some d ∧ Rp K H v d
  | _, _, _, _, .nil, e => by simp at e
  | _, _, 0, _, .cons r _, e => by simp at e; subst e; exact ⟨_, rfl, r⟩
  | _, _, i + 1, v, .cons _ t, e => by
    obtain ⟨d, h1, h2⟩ := RpAll.getV (i := i) (v := v) t (by simpa using e)
    exact ⟨d, by simpa using h1, h2⟩
theorem RpAll.append : ∀ {xs ys : List V} {as bs : List D}, RpAll K H xs as → RpAll K H ys bs → RpAll K H (xs ++ ys) (as ++ bs)
  | _, _, _, _, .nil, s => s
  | _, _, _, _, .cons r t, s => .cons r (RpAll.append t s)
theorem RpAll.take : ∀ {xs : List V} {as : List D} (n : Nat), RpAll K H xs as → RpAll K H (xs.take n) (as.take n)
  | _, _, 0, _ => by rw [List.take_zero, List.take_zero]; exact .nil
  | _, _, _ + 1, .nil => .nil
  | _, _, n + 1, .cons r t => .cons r (RpAll.take n t)
theorem RpAll.drop : ∀ {xs : List V} {as : List D} (n : Nat), RpAll K H xs as → RpAll K H (xs.drop n) (as.drop n)
  | _, _, 0, r => r
  | _, _, _ + 1, .nil => .nil
  | _, _, n + 1, .cons _ t => RpAll.drop n t
theorem RpAll.set {x : V} {u : D} (r : Rp K H x u) : ∀ {xs : List V} {us : List D} (i : Nat), RpAll K H xs us → RpAll K H (xs.set i x) (us.set i u)
  | _, _, _, .nil => .nil
  | _, _, 0, .cons _ t => .cons r t
  | _, _, i + 1, .cons q t => .cons q (RpAll.set r i t)
theorem RpAll.reverse : ∀ {xs : List V} {as : List D}, RpAll K H xs as → RpAll K H xs.reverse as.reverse
  | _, _, .nil => .nil
  | _, _, .cons r t => by
    rw [List.reverse_cons, List.reverse_cons]
    exact (RpAll.reverse t).append (.cons r .nil)
theorem RpAll.one {v : V} {d : D} (r : Rp K H v d) : RpAll K H [v] [d] := .cons r .nil
theorem RpAll.nil_inv {vs : List V} (h : RpAll K H vs []) : vs = [] := by cases h; rfl
theorem RpAll.cons_inv {vs : List V} {d : D} {ds : List D} (h : RpAll K H vs (d :: ds)) : ∃ x xs, vs = x :: xs ∧ Rp K H x d ∧ RpAll K H xs ds := by
  cases h with
  | cons a b => exact ⟨_, _, rfl, a, b⟩
theorem RpAll.one_inv {vs : List V} {d : D} (h : RpAll K H vs [d]) : ∃ x, vs = [x] ∧ Rp K H x d := by
  obtain ⟨x, xs, rfl, r, t⟩ := h.cons_inv
  cases t
  exact ⟨x, rfl, r⟩
theorem RpAll.two_inv {vs : List V} {d e : D} (h : RpAll K H vs [d, e]) : ∃ x y, vs = [x, y] ∧ Rp K H x d ∧ Rp K H y e := by
  obtain ⟨x, xs, rfl, r, t⟩ := h.cons_inv
  obtain ⟨y, rfl, q⟩ := t.one_inv
  exact ⟨x, y, rfl, r, q⟩

/-- data without what may change -/
def imm : D → Bool
  | .none => true
  | .bool _ => true
  | .int _ => true
  | .str _ => true
  | .tuple xs => immAll xs
  | .list _ => false
  | .dict _ => false
where immAll : List D → Bool
  | [] => true
  | x :: xs => imm x && immAll xs
mutual
theorem Rp.imm (e : ∀ a xs, SqT K H a xs → SqT K H' a xs) : ∀ {v : V} {d : D}, imm d = true → Rp K H v d → Rp K H' v d
  | _, _, _, .non => .non
  | _, _, _, .bl b => .bl b
  | _, _, _, .int i => .int i
  | _, _, _, .str x => .str x
  | _, _, i, .lst h r => by simp [DL.imm] at i
  | _, _, i, .tup h r => .tup (e _ _ h) (RpAll.imm e (by simpa [DL.imm] using i) r)
  | _, _, i, .dT h r => by simp [DL.imm] at i
theorem RpAll.imm (e : ∀ a xs, SqT K H a xs → SqT K H' a xs) : ∀ {vs : List V} {ds : List D}, imm.immAll ds = true → RpAll K H vs ds → RpAll K H' vs ds
  | _, _, _, .nil => .nil
  | _, _, i, .cons a b => .cons (Rp.imm e (by simp [DL.imm.immAll] at i; exact i.1) a) (RpAll.imm e (by simp [DL.imm.immAll] at i; exact i.2) b)
end
end

/-! ### the state -/
/-- an object of the def's own, that may change: a list; a list of such lists -/
inductive Own where
  | l1 (ds : List D)
  | l2 (dss : List (List D))
inductive Slot where
  | no
  | fr (d : D)
  | ow (o : Own)
abbrev Gm := List Slot
/-- what may be written -/
def mutO : HO → Bool
  | .tup _ => false
  | .frz _ _ => false
  | _ => true
/-- B grows to B', H to H'; what H had (that may change) and B did not know B' does not know -/
structure Gro (B H B' H' : Hp) : Prop where
  b : Ex B B'
  bh : Ex B' H'
  h : Ex H H'
  new : ∀ a o, B a = none → H a = some o → mutO o = true → B' a = none
theorem Gro.refl {B H : Hp} (e : Ex B H) : Gro B H B H := ⟨Ex.refl B, e, Ex.refl H, fun _ _ h _ _ => h⟩
theorem Gro.trans {B H B1 H1 B2 H2 : Hp} (a : Gro B H B1 H1) (b : Gro B1 H1 B2 H2) : Gro B H B2 H2 :=
  ⟨a.b.trans b.b, b.bh, a.h.trans b.h, fun x o h n m => b.new x o (a.new x o h n m) (a.h x o n) m⟩
/-- a new object -/
theorem Gro.add {B H : Hp} {p : Addr} {o : HO} (e : Ex B H) (hp : H p = none) : Gro B H (upd B p o) (upd H p o) :=
  ⟨Ex.new (fresh_back e hp), e.both, Ex.new hp, fun a u hb hn _ => by
    rw [upd_ne (ne_of_none hn hp)]
    exact hb⟩
/-- a new object that stays apart -/
theorem Gro.apart {B H : Hp} {p : Addr} {o : HO} (e : Ex B H) (hp : H p = none) : Gro B H B (upd H p o) :=
  ⟨Ex.refl B, e.mut (fresh_back e hp), Ex.new hp, fun _ _ h _ _ => h⟩
/-- what stood apart is known from here on -/
theorem Gro.know {B H B' H' : Hp} {p : Addr} {o : HO} (g : Gro B H B' H') (hb : B' p = none) (hp : H p = none) (e : H' p = some o) : Gro B H (upd B' p o) H' :=
  ⟨g.b.mut (fresh_back g.b hb), fun a u q => by
    by_cases z : a = p
    · subst z; rw [upd_same] at q; rw [e]; exact q
    · rw [upd_ne z] at q; exact g.bh a u q, g.h, fun a u h n m => by
    rw [upd_ne (ne_of_none n hp)]
    exact g.new a u h n m⟩
def OwnOk (K : Fg) (B H : Hp) (v : V) (fp : List Addr) : Own → Prop
  | .l1 ds => ∃ a vs, v = .ref a ∧ fp = [a] ∧ H a = some (.lst vs) ∧ RpAll K B vs ds
  | .l2 dss => ∃ a as, v = .ref a ∧ fp = a :: as ∧ H a = some (.lst (as.map V.ref)) ∧ Paired (fun b ds => ∃ vs, H b = some (.lst vs) ∧ RpAll K B vs ds) as dss
structure StOk (K : Fg) (B0 H0 : Hp) (Γ : Gm) (B H : Hp) (σ : Sg) : Prop where
  gro : Gro B0 H0 B H
  len : σ.length = Γ.length
  fr : ∀ (i : Nat) d, Γ[i]? = some (.fr d) → ∃ v, σ[i]? = some (some v) ∧ Rp K B v d
  ow : ∃ fp : Nat → List Addr, (∀ (i : Nat) o, Γ[i]? = some (.ow o) → (∃ v, σ[i]? = some (some v) ∧ OwnOk K B H v (fp i) o) ∧ (fp i).Nodup ∧ ∀ a ∈ fp i, B a = none ∧ H0 a = none) ∧
    ∀ (i j : Nat) o o' a, Γ[i]? = some (.ow o) → Γ[j]? = some (.ow o') → a ∈ fp i → a ∈ fp j → i = j
section
variable {K : Fg} {B0 H0 B H B' H' : Hp} {Γ : Gm} {σ : Sg}
theorem StOk.bh (s : StOk K B0 H0 Γ B H σ) : Ex B H := s.gro.bh
theorem OwnOk.there {v : V} {fp : List Addr} {o : Own} (h : OwnOk K B H v fp o) : ∀ a ∈ fp, ∃ xs, H a = some (.lst xs) := by
  cases o with
  | l1 ds =>
    obtain ⟨a, vs, rfl, rfl, e, _⟩ := h
    intro b hb
    rw [List.mem_singleton.mp hb]
    exact ⟨_, e⟩
  | l2 dss =>
    obtain ⟨a, as, rfl, rfl, e, p⟩ := h
    intro b hb
    rcases List.mem_cons.mp hb with q | hb
    · rw [q]; exact ⟨_, e⟩
    · clear e
      induction p with
      | nil => cases hb
      | cons r t ih =>
        rcases List.mem_cons.mp hb with q | hb
        · rw [q]; obtain ⟨vs, e, _⟩ := r; exact ⟨_, e⟩
        · exact ih (List.mem_cons_of_mem _ hb) hb
theorem Paired.mp {α β : Type} {F G : α → β → Prop} (h : ∀ a b, F a b → G a b) : ∀ {as : List α} {bs : List β}, Paired F as bs → Paired G as bs
  | _, _, .nil => .nil
  | _, _, .cons r t => .cons (h _ _ r) (Paired.mp h t)
theorem OwnOk.keep {v : V} {fp : List Addr} {o : Own} (h : OwnOk K B H v fp o) (eB : Ex B B') (eH : ∀ a ∈ fp, ∀ o, H a = some o → H' a = some o) : OwnOk K B' H' v fp o := by
  cases o with
  | l1 ds =>
    obtain ⟨a, vs, rfl, rfl, e, r⟩ := h
    exact ⟨a, vs, rfl, rfl, eH a List.mem_cons_self _ e, r.mono eB⟩
  | l2 dss =>
    obtain ⟨a, as, rfl, rfl, e, p⟩ := h
    refine ⟨a, as, rfl, rfl, eH a List.mem_cons_self _ e, ?_⟩
    have : ∀ b ∈ as, ∀ o, H b = some o → H' b = some o := fun b hb => eH b (List.mem_cons_of_mem _ hb)
    clear eH e
    induction p with
    | nil => exact .nil
    | cons r t ih =>
      obtain ⟨vs, e1, r1⟩ := r
      exact .cons ⟨vs, this _ List.mem_cons_self _ e1, r1.mono eB⟩ (ih fun b hb => this b (List.mem_cons_of_mem _ hb))
theorem StOk.grow (s : StOk K B0 H0 Γ B H σ) (g : Gro B H B' H') : StOk K B0 H0 Γ B' H' σ := by
  refine ⟨s.gro.trans g, s.len, fun i d e => ?_, ?_⟩
  · obtain ⟨v, h1, h2⟩ := s.fr i d e
    exact ⟨v, h1, h2.mono g.b⟩
  · obtain ⟨fp, h1, h2⟩ := s.ow
    refine ⟨fp, fun i o e => ?_, h2⟩
    obtain ⟨⟨v, ev, ok⟩, nd, no⟩ := h1 i o e
    refine ⟨⟨v, ev, ok.keep g.b fun a _ o' q => g.h a o' q⟩, nd, fun a ha => ?_⟩
    obtain ⟨xs, q⟩ := ok.there a ha
    exact ⟨g.new a _ (no a ha).1 q rfl, (no a ha).2⟩
end

theorem StOk.set {K : Fg} {B0 H0 B H : Hp} {Γ : Gm} {σ : Sg} (s : StOk K B0 H0 Γ B H σ) {v : V} {d : D} (r : Rp K B v d) (i : Nat) : StOk K B0 H0 (Γ.set i (.fr d)) B H (σ.set i (some v)) := by
  have hl := s.len
  refine ⟨s.gro, by rw [List.length_set, List.length_set]; exact hl, fun j d' e => ?_, ?_⟩
  · by_cases q : i = j
    · subst q
      by_cases hi : i < Γ.length
      · rw [List.getElem?_set_self hi] at e
        cases e
        exact ⟨v, List.getElem?_set_self (by omega), r⟩
      · rw [List.getElem?_eq_none (by rw [List.length_set]; omega)] at e
        cases e
    · rw [List.getElem?_set_ne q] at e ⊢
      exact s.fr j d' e
  · obtain ⟨fp, h1, h2⟩ := s.ow
    have back : ∀ {j : Nat} {o : Own}, (Γ.set i (.fr d))[j]? = some (.ow o) → Γ[j]? = some (.ow o) ∧ i ≠ j := fun {j o} e => by
      by_cases q : i = j
      · subst q
        by_cases hi : i < Γ.length
        · rw [List.getElem?_set_self hi] at e
          cases e
        · rw [List.getElem?_eq_none (by rw [List.length_set]; omega)] at e
          cases e
      · rw [List.getElem?_set_ne q] at e
        exact ⟨e, q⟩
    refine ⟨fp, fun j o e => ?_, fun j k o o' a e e' => h2 j k o o' a (back e).1 (back e').1⟩
    obtain ⟨e', q⟩ := back e
    rw [List.getElem?_set_ne q]
    exact h1 j o e'

/-! ### readings -/
section
variable {α β γ δ : Type}
/-- what is wanted behind a run upon data -/
def Fin (P : Hp → Hp → α → Prop) (E : XK) (B H : Hp) : R α → Prop
  | .bad => False
  | .ok d => P B H d
  | .ex C => ∀ B' H', Gro B H B' H' → E (.ref C) none H'
def Clo (P : Hp → Hp → α → Prop) : Prop := ∀ (B H B' H' : Hp) (d : α), P B H d → Gro B H B' H' → P B' H' d
theorem Fin.grow {P : Hp → Hp → α → Prop} (c : Clo P) {E : XK} {B H B' H' : Hp} {r : R α} (h : Fin P E B H r) (g : Gro B H B' H') : Fin P E B' H' r := by
  cases r with
  | bad => exact h
  | ok d => exact c _ _ _ _ _ h g
  | ex C => exact fun B2 H2 g2 => h B2 H2 (g.trans g2)
/-- a value that stands for the data -/
def Post (rel : Hp → β → α → Prop) (Q : β → Hp → Prop) : Hp → Hp → α → Prop := fun B H d => ∀ v B' H', Gro B H B' H' → rel B' v d → Q v H'
theorem Post.clo {rel : Hp → β → α → Prop} {Q : β → Hp → Prop} : Clo (Post rel Q) := fun _ _ _ _ _ h g v B2 H2 g2 r => h v B2 H2 (g.trans g2) r
theorem Post.here {rel : Hp → β → α → Prop} {Q : β → Hp → Prop} {B H : Hp} {d : α} {v : β} (h : Post rel Q B H d) (e : Ex B H) (r : rel B v d) : Q v H := h v B H (Gro.refl e) r
/-- a new list -/
def PostL (K : Fg) (Q : VK) : Hp → Hp → List D → Prop := fun B H ds => ∀ p vs B' H', Gro B H B' H' → B' p = none → H p = none → H' p = some (.lst vs) → RpAll K B' vs ds → Q (.ref p) H'
theorem PostL.clo {K : Fg} {Q : VK} : Clo (PostL K Q) := fun _ _ _ _ _ h g p vs B2 H2 g2 n1 n2 e r => h p vs B2 H2 (g.trans g2) n1 (fresh_back g.h n2) e r
/-- a new list of new lists -/
def PostL2 (K : Fg) (Q : VK) : Hp → Hp → List (List D) → Prop := fun B H dss => ∀ p as B' H', Gro B H B' H' → (p :: as).Nodup → (∀ a ∈ p :: as, B' a = none ∧ H a = none) → H' p = some (.lst (as.map V.ref)) →
  Paired (fun b ds => ∃ vs, H' b = some (.lst vs) ∧ RpAll K B' vs ds) as dss → Q (.ref p) H'
theorem PostL2.clo {K : Fg} {Q : VK} : Clo (PostL2 K Q) := fun _ _ _ _ _ h g p as B2 H2 g2 nd n e r => h p as B2 H2 (g.trans g2) nd (fun a ha => ⟨(n a ha).1, fresh_back g.h (n a ha).2⟩) e r
/-- the reading of a run upon data -/
def tP (K : Fg) (P : Hp → Hp → α → Prop) (E : XK) (f : Gm → R α) (σ : Sg) (H : Hp) : Prop := ∃ B0 H0 Γ B, StOk K B0 H0 Γ B H σ ∧ Fin P E B H (f Γ)
def relB (_ : Hp) (b : Bool) (d : Bool) : Prop := b = d
def tE (K : Fg) (E : XK) (f : Gm → R D) : TE := fun σ H Q => tP K (Post (Rp K) Q) E f σ H
def tT (K : Fg) (E : XK) (f : Gm → R Bool) : TT := fun σ H Q => tP K (Post relB Q) E f σ H
def tA (K : Fg) (E : XK) (f : Gm → R (List D)) : TA := fun σ H Q => tP K (Post (RpAll K) Q) E f σ H
def tL (K : Fg) (E : XK) (f : Gm → R (List D)) : TE := fun σ H Q => tP K (PostL K Q) E f σ H
def tL2 (K : Fg) (E : XK) (f : Gm → R (List (List D))) : TE := fun σ H Q => tP K (PostL2 K Q) E f σ H
theorem Fin.bind {K : Fg} {P : Hp → Hp → γ → Prop} (c : Clo P) {rel : Hp → β → α → Prop} {E : XK} {r : R α} {g : α → R γ} {B H : Hp} (fin : Fin P E B H (r >>= g)) {Q : β → Hp → Prop}
    (q : ∀ v B1 H1 d, Gro B H B1 H1 → rel B1 v d → Fin P E B1 H1 (g d) → Q v H1) : Fin (Post rel Q) E B H r := by
  cases r with
  | bad => exact fin
  | ex C => exact fin
  | ok d =>
    have fin' : Fin P E B H (g d) := fin
    exact fun v B' H' gr r => q v B' H' d gr r (Fin.grow c fin' gr)
theorem tP.bind {K : Fg} {P : Hp → Hp → γ → Prop} (c : Clo P) {rel : Hp → β → α → Prop} {E : XK} {f : Gm → R α} {g : α → R γ} {σ : Sg} {B0 H0 : Hp} {Γ : Gm} {B H : Hp} (s : StOk K B0 H0 Γ B H σ) (fin : Fin P E B H (f Γ >>= g)) {Q : β → Hp → Prop}
    (q : ∀ v B1 H1 d, StOk K B0 H0 Γ B1 H1 σ → Gro B H B1 H1 → rel B1 v d → Fin P E B1 H1 (g d) → Q v H1) : tP K (Post rel Q) E f σ H :=
  ⟨B0, H0, Γ, B, s, Fin.bind (K := K) c fin fun v B1 H1 d gr r fin' => q v B1 H1 d (s.grow gr) gr r fin'⟩
/-- from the state at hand -/
theorem tP.of {K : Fg} {P : Hp → Hp → α → Prop} {E : XK} {f : Gm → R α} {B0 H0 : Hp} {Γ : Gm} {B H : Hp} {σ : Sg} (s : StOk K B0 H0 Γ B H σ) (h : Fin P E B H (f Γ)) : tP K P E f σ H := ⟨B0, H0, Γ, B, s, h⟩
end
section
variable {X : Cx}
theorem PE.weak {e : Expr} {t t' : TE} (h : PE X e t) (w : ∀ σ H Q, t' σ H Q → t σ H Q) : PE X e t' := ⟨fun pins s σ H Q I q => h.run pins s σ H Q I (w σ H Q q)⟩
theorem PT.weak {e : Expr} {t t' : TT} (h : PT X e t) (w : ∀ σ H Q, t' σ H Q → t σ H Q) : PT X e t' := ⟨fun pins s σ H Q I q => h.run pins s σ H Q I (w σ H Q q)⟩
theorem PW.weak {e : Expr} {t t' : TT} (h : PW X e t) (w : ∀ σ H Q, t' σ H Q → t σ H Q) : PW X e t' := ⟨fun wh pins s σ H Q I q => h.run wh pins s σ H Q I (w σ H Q q)⟩
theorem PA.weak {es : List Expr} {t t' : TA} (h : PA X es t) (w : ∀ σ H Q, t' σ H Q → t σ H Q) : PA X es t' := ⟨fun pos pins s σ H Q I q => h.run pos pins s σ H Q I (w σ H Q q)⟩
theorem PS.weak {e : Stmt} {t t' : TS} (h : PS X e t) (w : ∀ D σ H, t' D σ H → t D σ H) : PS X e t' := ⟨fun pins s σ H D I q => h.run pins s σ H D I (w D σ H q)⟩
theorem PSs.weak {e : List Stmt} {t t' : TS} (h : PSs X e t) (w : ∀ D σ H, t' D σ H → t D σ H) : PSs X e t' := ⟨fun pins s σ H D I q => h.run pins s σ H D I (w D σ H q)⟩
end

/-- an expression (a test, arguments) is read so -/
abbrev JE (X : Cx) (E : XK) (e : Expr) (f : Gm → R D) : Prop := PE X e (tE X.K E f)
abbrev JT (X : Cx) (E : XK) (e : Expr) (f : Gm → R Bool) : Prop := PT X e (tT X.K E f)
abbrev JW (X : Cx) (E : XK) (e : Expr) (f : Gm → R Bool) : Prop := PW X e (tT X.K E f)
abbrev JA (X : Cx) (E : XK) (es : List Expr) (f : Gm → R (List D)) : Prop := PA X es (tA X.K E f)

/-! ### names and constants -/
def eVar (i : Nat) : Gm → R D := fun Γ => match Γ[i]? with
  | some (.fr d) => .ok d
  | _ => .bad
def eC (d : D) : Gm → R D := fun _ => .ok d
section
variable {X : Cx} {E : XK}
theorem je_var (i : Nat) {x : Str} {pos : Pos} (hN : X.N[i]? = some x := by rfl) (hv : Vis X.env.scope x := by first | exact Or.inl rfl | exact Or.inr (Or.inl rfl) | exact Or.inr (Or.inr rfl)) (hd : (x == ("__debug__" : Str)) = false := by decide)
    (hcd : (x == ("__classdict__" : Str)) = false := by decide) : JE X E (.Name x pos) (eVar i) := by
  refine PE.weak (pe_var hN hv hd hcd) fun σ H Q h => ?_
  obtain ⟨B0, H0, Γ, B, s, fin⟩ := h
  unfold eVar at fin
  cases e : Γ[i]? with
  | none => rw [e] at fin; exact fin.elim
  | some z =>
    rw [e] at fin
    cases z with
    | no => exact fin.elim
    | ow o => exact fin.elim
    | fr d =>
      obtain ⟨v, ev, r⟩ := s.fr i d e
      exact ⟨v, ev, Post.here fin s.bh r⟩
theorem tE_const {d : D} {v : V} {K : Fg} {σ : Sg} {H : Hp} {Q : VK} (h : tE K E (eC d) σ H Q) (r : ∀ B, Rp K B v d) : Q v H := by
  obtain ⟨B0, H0, Γ, B, s, fin⟩ := h
  exact Post.here fin s.bh (r B)
theorem je_int {i j pos} : JE X E (.Constant (.int i) j pos) (eC (.int i)) := PE.weak pe_int fun _ _ _ h => tE_const h fun _ => .int i
theorem je_bl {b j pos} : JE X E (.Constant (.bool b) j pos) (eC (.bool b)) := PE.weak pe_bl fun _ _ _ h => tE_const h fun _ => .bl b
theorem je_non {j pos} : JE X E (.Constant .none j pos) (eC .none) := PE.weak pe_non fun _ _ _ h => tE_const h fun _ => .non
theorem je_str {x j pos} : JE X E (.Constant (.str x) j pos) (eC (.str x)) := PE.weak pe_str fun _ _ _ h => tE_const h fun _ => .str x
/-- a constant of the module -/
theorem je_glob {x : Str} {v : V} {u : Value} {d : D} {pos : Pos} (hg : Gl X x) (hm : X.mg x = some u) (r : RelV v u) (q : ∀ B, Rp X.K B v d) (hd : (x == ("__debug__" : Str)) = false := by decide) : JE X E (.Name x pos) (eC d) :=
  PE.weak (pe_glob hg hm r hd) fun _ _ _ h => tE_const h q
/-- never come to -/
def eNever {α : Type} : Gm → R α := fun _ => .bad
theorem je_never {e : Expr} : JE X E e eNever := ⟨fun _ _ _ _ _ _ h => by obtain ⟨_, _, _, _, _, fin⟩ := h; exact fin.elim⟩
end
end DL

/-! The data layer: expressions. -/
namespace DL
open PySem PySem.Spec PyProof.Rows L2

theorem szl {n : Nat} (h : n ≤ 16777216) : n ≤ sizeLine := by rw [sizeLine_eq]; exact h

/-! ### tests -/
def asB : D → R Bool
  | .bool b => .ok b
  | _ => .bad
def eT (f : Gm → R D) : Gm → R Bool := fun Γ => f Γ >>= asB
def fAnd (f g : Gm → R Bool) : Gm → R Bool := fun Γ => f Γ >>= fun a => if a = true then g Γ else .ok false
def fOr (f g : Gm → R Bool) : Gm → R Bool := fun Γ => f Γ >>= fun a => if a = true then .ok true else g Γ
def fNot (f : Gm → R Bool) : Gm → R Bool := fun Γ => f Γ >>= fun a => .ok (!a)
def eAnd (f g : Gm → R D) : Gm → R D := fun Γ => f Γ >>= fun d => asB d >>= fun a => if a = true then g Γ else .ok (.bool false)
def eOr (f g : Gm → R D) : Gm → R D := fun Γ => f Γ >>= fun d => asB d >>= fun a => if a = true then .ok (.bool true) else g Γ
def eNot (f : Gm → R D) : Gm → R D := fun Γ => f Γ >>= fun d => asB d >>= fun a => .ok (.bool (!a))
def eIf (c : Gm → R Bool) (f g : Gm → R D) : Gm → R D := fun Γ => c Γ >>= fun a => if a = true then f Γ else g Γ
section
variable {X : Cx} {E : XK} {K : Fg} {e a b c : Expr} {f g : Gm → R D} {t u : Gm → R Bool} {rest : List Expr} {pos : Pos}
theorem tB_of {σ : Sg} {H : Hp} {Q : Bool → Hp → Prop} (h : tT K E (eT f) σ H Q) : tB (tE K E f) σ H Q := by
  obtain ⟨B0, H0, Γ, B, s, fin⟩ := h
  refine tP.bind (g := asB) Post.clo s fin fun v B1 H1 d s1 _ r fin1 => ?_
  cases d with
  | bool k => exact ⟨k, r.bl_inv, Post.here fin1 s1.bh rfl⟩
  | _ => exact fin1.elim
theorem tTest_of {σ : Sg} {H : Hp} {Q : Bool → Hp → Prop} (h : tT K E (eT f) σ H Q) : tTest (tE K E f) σ H Q := tB_of h
theorem jt_val (h : JE X E e f) (he : ∀ whole, isTrue e X.env whole = (do let v ← whole; standAt e.pos; holding [v] (truthy v)) := by intro _; rfl) : JT X E e (eT f) := PT.weak (pt_val h he) fun _ _ _ q => tB_of q
theorem jw_and1 (h : JT X E a t) : JW X E (.BoolOp .And [a] pos) t := pw_and1 h
theorem jw_or1 (h : JT X E a t) : JW X E (.BoolOp .Or [a] pos) t := pw_or1 h
theorem jw_and (ha : JT X E a t) (hb : JW X E (.BoolOp .And (b :: rest) pos) u) : JW X E (.BoolOp .And (a :: b :: rest) pos) (fAnd t u) := PW.weak (pw_and ha hb) fun σ H Q ⟨B0, H0, Γ, B, s, fin⟩ => by
  refine tP.bind (f := t) Post.clo s fin fun v B1 H1 d s1 _ r fin1 => ?_
  obtain rfl : v = d := r
  cases v with
  | true => exact ⟨B0, H0, Γ, B1, s1, fin1⟩
  | false => exact Post.here fin1 s1.bh rfl
theorem jw_or (ha : JT X E a t) (hb : JW X E (.BoolOp .Or (b :: rest) pos) u) : JW X E (.BoolOp .Or (a :: b :: rest) pos) (fOr t u) := PW.weak (pw_or ha hb) fun σ H Q ⟨B0, H0, Γ, B, s, fin⟩ => by
  refine tP.bind (f := t) Post.clo s fin fun v B1 H1 d s1 _ r fin1 => ?_
  obtain rfl : v = d := r
  cases v with
  | false => exact ⟨B0, H0, Γ, B1, s1, fin1⟩
  | true => exact Post.here fin1 s1.bh rfl
theorem jt_not (ha : JT X E a t) : JT X E (.UnaryOp .Not a pos) (fNot t) := PT.weak (pt_not ha) fun σ H Q ⟨B0, H0, Γ, B, s, fin⟩ => by
  refine tP.bind (f := t) Post.clo s fin fun v B1 H1 d s1 _ r fin1 => ?_
  obtain rfl : v = d := r
  exact Post.here fin1 s1.bh rfl
theorem je_one {op} (h : JE X E a f) : JE X E (.BoolOp op [a] pos) f := pe_one h
theorem je_and (ha : JE X E a f) (hb : JE X E (.BoolOp .And (b :: rest) pos) g) : JE X E (.BoolOp .And (a :: b :: rest) pos) (eAnd f g) := PE.weak (pe_and ha hb) fun σ H Q ⟨B0, H0, Γ, B, s, fin⟩ => by
  refine tP.bind (f := f) Post.clo s fin fun v B1 H1 d s1 _ r fin1 => ?_
  cases d with
  | bool k =>
    refine ⟨k, r.bl_inv, ?_⟩
    cases k with
    | true => exact ⟨B0, H0, Γ, B1, s1, fin1⟩
    | false => exact Post.here fin1 s1.bh (.bl false)
  | _ => exact fin1.elim
theorem je_or (ha : JE X E a f) (hb : JE X E (.BoolOp .Or (b :: rest) pos) g) : JE X E (.BoolOp .Or (a :: b :: rest) pos) (eOr f g) := PE.weak (pe_or ha hb) fun σ H Q ⟨B0, H0, Γ, B, s, fin⟩ => by
  refine tP.bind (f := f) Post.clo s fin fun v B1 H1 d s1 _ r fin1 => ?_
  cases d with
  | bool k =>
    refine ⟨k, r.bl_inv, ?_⟩
    cases k with
    | false => exact ⟨B0, H0, Γ, B1, s1, fin1⟩
    | true => exact Post.here fin1 s1.bh (.bl true)
  | _ => exact fin1.elim
theorem je_not (ha : JE X E a f) : JE X E (.UnaryOp .Not a pos) (eNot f) := PE.weak (pe_not ha) fun σ H Q ⟨B0, H0, Γ, B, s, fin⟩ => by
  refine tP.bind (f := f) Post.clo s fin fun v B1 H1 d s1 _ r fin1 => ?_
  cases d with
  | bool k => exact ⟨k, r.bl_inv, Post.here fin1 s1.bh (.bl _)⟩
  | _ => exact fin1.elim
theorem je_if (hc : JT X E c t) (ha : JE X E a f) (hb : JE X E b g) : JE X E (.IfExp c a b pos) (eIf t f g) := PE.weak (pe_ifExp hc ha hb) fun σ H Q ⟨B0, H0, Γ, B, s, fin⟩ => by
  refine tP.bind (f := t) Post.clo s fin fun v B1 H1 d s1 _ r fin1 => ?_
  obtain rfl : v = d := r
  cases v with
  | true => exact ⟨B0, H0, Γ, B1, s1, fin1⟩
  | false => exact ⟨B0, H0, Γ, B1, s1, fin1⟩

/-! ### arguments, displays -/
def aNil : Gm → R (List D) := fun _ => .ok []
def aCons (f : Gm → R D) (t : Gm → R (List D)) : Gm → R (List D) := fun Γ => f Γ >>= fun d => t Γ >>= fun ds => .ok (d :: ds)
def mkT (ds : List D) : R D := if ds.length ≤ 16777216 then .ok (.tuple ds) else .bad
def mkL (ds : List D) : R (List D) := if ds.length ≤ 16777216 then .ok ds else .bad
def eTup (t : Gm → R (List D)) : Gm → R D := fun Γ => t Γ >>= mkT
def eLst (t : Gm → R (List D)) : Gm → R (List D) := fun Γ => t Γ >>= mkL
abbrev JL (X : Cx) (E : XK) (e : Expr) (f : Gm → R (List D)) : Prop := PE X e (tL X.K E f)
abbrev JL2 (X : Cx) (E : XK) (e : Expr) (f : Gm → R (List (List D))) : Prop := PE X e (tL2 X.K E f)
variable {es : List Expr} {ts : Gm → R (List D)}
theorem ja_nil : JA X E [] aNil := PA.weak pa_nil fun σ H Q ⟨B0, H0, Γ, B, s, fin⟩ => Post.here fin s.bh .nil
theorem ja_cons (ha : JE X E e f) (hr : JA X E es ts) (hs : starEach (e :: es) X.env = (false, eval e X.env) :: starEach es X.env := by rfl) : JA X E (e :: es) (aCons f ts) := PA.weak (pa_cons ha hr hs) fun σ H Q ⟨B0, H0, Γ, B, s, fin⟩ => by
  refine tP.bind (f := f) Post.clo s fin fun v B1 H1 d s1 _ r fin1 => ?_
  refine tP.bind (f := ts) Post.clo s1 fin1 fun vs B2 H2 ds s2 g2 r2 fin2 => ?_
  exact Post.here fin2 s2.bh (.cons (r.mono g2.b) r2)
theorem newTup {K : Fg} {B H : Hp} {xs : List V} {ds : List D} {Q : VK} (e : Ex B H) (r : RpAll K B xs ds) (fin : Post (Rp K) Q B H (.tuple ds)) {p : Addr} (hp : H p = none) : Q (.ref p) (upd H p (.tup xs)) :=
  fin _ _ _ (Gro.add e hp) (.tup (SqT.of upd_same) (r.mono (Ex.new (fresh_back e hp))))
theorem newLst {K : Fg} {B H : Hp} {xs : List V} {ds : List D} {Q : VK} (e : Ex B H) (r : RpAll K B xs ds) (fin : PostL K Q B H ds) {p : Addr} (hp : H p = none) : Q (.ref p) (upd H p (.lst xs)) :=
  fin p xs B _ (Gro.apart e hp) (fresh_back e hp) hp upd_same r
theorem mkT_fin {K : Fg} {B H : Hp} {P : Hp → Hp → D → Prop} {ds : List D} (fin : Fin P E B H (mkT ds)) : ds.length ≤ sizeLine ∧ P B H (.tuple ds) := by
  unfold mkT at fin
  split at fin
  · rename_i h; exact ⟨szl h, fin⟩
  · exact fin.elim
theorem mkL_fin {K : Fg} {B H : Hp} {P : Hp → Hp → List D → Prop} {ds : List D} (fin : Fin P E B H (mkL ds)) : ds.length ≤ sizeLine ∧ P B H ds := by
  unfold mkL at fin
  split at fin
  · rename_i h; exact ⟨szl h, fin⟩
  · exact fin.elim
theorem je_tup {k} (h : JA X E es ts) : JE X E (.Tuple es k pos) (eTup ts) := PE.weak (pe_tup h) fun σ H Q ⟨B0, H0, Γ, B, s, fin⟩ => by
  refine tP.bind (f := ts) Post.clo s fin fun vs B1 H1 ds s1 _ r fin1 => ?_
  obtain ⟨hz, q⟩ := mkT_fin (K := X.K) fin1
  exact ⟨by rw [r.length]; exact hz, fun p hp => newTup s1.bh r q hp⟩
theorem jl_lst (h : JA X E es ts) : JL X E (.List es pos) (eLst ts) := PE.weak (pe_lst h) fun σ H Q ⟨B0, H0, Γ, B, s, fin⟩ => by
  refine tP.bind (f := ts) PostL.clo s fin fun vs B1 H1 ds s1 _ r fin1 => ?_
  obtain ⟨hz, q⟩ := mkL_fin (K := X.K) fin1
  exact ⟨by rw [r.length]; exact hz, fun p hp => newLst s1.bh r q hp⟩
/-- a new list, known from here on -/
def eFr (f : Gm → R (List D)) : Gm → R D := fun Γ => f Γ >>= fun ds => .ok (.list ds)
theorem PostL.know {K : Fg} {B H : Hp} {Q : VK} {ds : List D} (fin : Post (Rp K) Q B H (.list ds)) : PostL K Q B H ds := fun p vs B' H' g n1 n2 e r =>
  fin _ _ _ (g.know n1 n2 e) (.lst (SqL.of upd_same) (r.mono (Ex.new n1)))
theorem tL_know {σ : Sg} {H : Hp} {Q : VK} (h : tE K E (eFr ts) σ H Q) : tL K E ts σ H Q := by
  obtain ⟨B0, H0, Γ, B, s, fin⟩ := h
  refine ⟨B0, H0, Γ, B, s, ?_⟩
  replace fin : Fin (Post (Rp K) Q) E B H (ts Γ >>= fun ds => .ok (.list ds)) := fin
  cases e : ts Γ with
  | bad => rw [e] at fin; exact fin
  | ex C => rw [e] at fin; exact fin
  | ok ds => rw [e] at fin; exact PostL.know fin
theorem je_fr (h : JL X E e ts) : JE X E e (eFr ts) := PE.weak h fun _ _ _ q => tL_know q

/-! ### operations on two values -/
def e2 (o : D → D → R D) (f g : Gm → R D) : Gm → R D := fun Γ => f Γ >>= fun x => g Γ >>= fun y => o x y
def e1 (o : D → R D) (f : Gm → R D) : Gm → R D := fun Γ => f Γ >>= o
def OpD (K : Fg) (r : R2) (o : D → D → R D) : Prop := ∀ (Q : VK) (E : XK) (B H : Hp) (x y : V) (d e : D), Ex B H → Rp K B x d → Rp K B y e → Fin (Post (Rp K) Q) E B H (o d e) → r x y H Q
def UnD (K : Fg) (r : V → Hp → VK → Prop) (o : D → R D) : Prop := ∀ (Q : VK) (E : XK) (B H : Hp) (x : V) (d : D), Ex B H → Rp K B x d → Fin (Post (Rp K) Q) E B H (o d) → r x H Q
variable {r r' : R2} {o o' : D → D → R D}
theorem tOp_of (hd : OpD K r o) {σ : Sg} {H : Hp} {Q : VK} (h : tE K E (e2 o f g) σ H Q) : tOp r (tE K E f) (tE K E g) σ H Q := by
  obtain ⟨B0, H0, Γ, B, s, fin⟩ := h
  refine tP.bind (f := f) Post.clo s fin fun v B1 H1 d s1 _ r1 fin1 => ?_
  refine tP.bind (f := g) Post.clo s1 fin1 fun w B2 H2 d2 s2 g2 r2 fin2 => ?_
  exact hd Q E B2 H2 v w d d2 s2.bh (r1.mono g2.b) r2 fin2
theorem je_op {op : Operator} (ho : OpR X (binaryOp op) r) (hd : OpD X.K r o) (ha : JE X E a f) (hb : JE X E b g) : JE X E (.BinOp a op b pos) (e2 o f g) := PE.weak (pe_op ho ha hb) fun _ _ _ q => tOp_of hd q
theorem je_cmp {op : CmpOp} (ho : OpR X (compareOp op) r) (hd : OpD X.K r o) (ha : JE X E a f) (hb : JE X E b g) (hm : behindInMarks op b = false := by first | exact nomark _ | rfl) : JE X E (.Compare a [op] [b] pos) (e2 o f g) := PE.weak (pe_cmpR ho ha hb hm) fun _ _ _ q => tOp_of hd q
theorem tTest_mono {t : TE} {t' : TE} (w : ∀ σ H Q, t' σ H Q → t σ H Q) {σ : Sg} {H : Hp} {Q : Bool → Hp → Prop} (h : tTest t' σ H Q) : tTest t σ H Q := w σ H _ h
theorem jt_cmp {op : CmpOp} (ho : OpR X (compareOp op) r) (hd : OpD X.K r o) (ha : JE X E a f) (hb : JE X E b g) (hm : behindInMarks op b = false := by first | exact nomark _ | rfl) : JT X E (.Compare a [op] [b] pos) (eT (e2 o f g)) :=
  PT.weak (pt_cmpR ho ha hb hm) fun _ _ _ q => tTest_mono (t' := tE X.K E (e2 o f g)) (fun _ _ _ z => tOp_of hd z) (tTest_of q)
/-- a op1 b op2 c -/
def e3 (o o' : D → D → R D) (f g h : Gm → R D) : Gm → R D := fun Γ => f Γ >>= fun x => g Γ >>= fun y => o x y >>= fun z => asB z >>= fun k => if k = true then (h Γ >>= fun w => o' y w) else .ok (.bool false)
theorem Fin.thenV {K : Fg} {Q : VK} {E : XK} {B H : Hp} {r : R D} {g : D → R D} (fin : Fin (Post (Rp K) Q) E B H (r >>= g)) : Fin (Post (Rp K) fun v H1 => ∃ B1 d, Gro B H B1 H1 ∧ Rp K B1 v d ∧ Fin (Post (Rp K) Q) E B1 H1 (g d)) E B H r :=
  Fin.bind (K := K) Post.clo fin fun v B1 H1 d gr r fin' => ⟨B1, d, gr, r, fin'⟩
variable {h : Gm → R D}
theorem tChain_of (hd : OpD K r o) (hd' : OpD K r' o') {σ : Sg} {H : Hp} {Q : VK} (q : tE K E (e3 o o' f g h) σ H Q) : tChain r r' (tE K E f) (tE K E g) (tE K E h) σ H Q := by
  obtain ⟨B0, H0, Γ, B, s, fin⟩ := q
  refine tP.bind (f := f) Post.clo s fin fun v B1 H1 d s1 _ r1 fin1 => ?_
  refine tP.bind (f := g) Post.clo s1 fin1 fun w B2 H2 d2 s2 g2 r2 fin2 => ?_
  refine hd _ E B2 H2 v w d d2 s2.bh (r1.mono g2.b) r2 (Fin.bind (K := K) Post.clo fin2 fun z B3 H3 d3 g3 r3 fin3 => ?_)
  have s3 := s2.grow g3
  cases d3 with
  | bool k =>
    refine ⟨k, r3.bl_inv, ?_⟩
    cases k with
    | true =>
      refine tP.bind (f := h) Post.clo s3 fin3 fun w' B4 H4 d4 s4 g4 r4 fin4 => ?_
      exact hd' Q E B4 H4 w w' d2 d4 s4.bh (r2.mono (g3.b.trans g4.b)) r4 fin4
    | false => exact Post.here fin3 s3.bh (.bl false)
  | _ => exact fin3.elim
theorem je_chain {op op' : CmpOp} (ho : OpR X (compareOp op) r) (hd : OpD X.K r o) (ho' : OpR X (compareOp op') r') (hd' : OpD X.K r' o') (ha : JE X E a f) (hb : JE X E b g) (hc : JE X E c h)
    (hm : lastMarks [op, op'] [b, c] = false := by with_unfolding_all rfl) : JE X E (.Compare a [op, op'] [b, c] pos) (e3 o o' f g h) := PE.weak (pe_chain ho ho' ha hb hc hm) fun _ _ _ q => tChain_of hd hd' q
theorem jt_chain {op op' : CmpOp} (ho : OpR X (compareOp op) r) (hd : OpD X.K r o) (ho' : OpR X (compareOp op') r') (hd' : OpD X.K r' o') (ha : JE X E a f) (hb : JE X E b g) (hc : JE X E c h)
    (hm : lastMarks [op, op'] [b, c] = false := by with_unfolding_all rfl) : JT X E (.Compare a [op, op'] [b, c] pos) (eT (e3 o o' f g h)) :=
  PT.weak (pt_chain ho ho' ha hb hc hm) fun _ _ _ q => tTest_mono (t' := tE X.K E (e3 o o' f g h)) (fun _ _ _ z => tChain_of hd hd' z) (tTest_of q)
theorem je_un {op : UnaryOp} {r : V → Hp → VK → Prop} {o : D → R D} (ho : UnR X (unaryOp op) r) (hd : UnD X.K r o) (ha : JE X E a f) : JE X E (.UnaryOp op a pos) (e1 o f) := PE.weak (pe_un ho ha) fun σ H Q ⟨B0, H0, Γ, B, s, fin⟩ => by
  refine tP.bind (f := f) Post.clo s fin fun v B1 H1 d s1 _ r1 fin1 => ?_
  exact hd Q E B1 H1 v d s1.bh r1 fin1
end

/-! ### the operators upon data -/
def dInt2 (C : Int → Int → Prop) [∀ i j, Decidable (C i j)] (g : Int → Int → D) : D → D → R D
  | .int i, .int j => if C i j then .ok (g i j) else .bad
  | _, _ => .bad
section
variable {K : Fg}
theorem opd_int {C C' : Int → Int → Prop} [∀ i j, Decidable (C i j)] {g : Int → Int → D} {gv : Int → Int → V} (hc : ∀ i j, C i j → C' i j) (hg : ∀ i j B, Rp K B (gv i j) (g i j)) : OpD K (rI C' gv) (dInt2 C g) := by
  intro Q E B H x y d e ex rx ry fin
  unfold dInt2 at fin
  split at fin
  · rename_i i j
    split at fin
    · rename_i h
      exact ⟨i, j, rx.int_inv, ry.int_inv, hc i j h, Post.here fin ex (hg i j B)⟩
    · exact fin.elim
  · exact fin.elim
def dI (g : Int → Int → D) : D → D → R D
  | .int i, .int j => .ok (g i j)
  | _, _ => .bad
theorem opd_int0 {g : Int → Int → D} {gv : Int → Int → V} (hg : ∀ i j B, Rp K B (gv i j) (g i j)) : OpD K (rI0 gv) (dI g) := by
  intro Q E B H x y d e ex rx ry fin
  unfold dI at fin
  split at fin
  · rename_i i j
    exact ⟨i, j, rx.int_inv, ry.int_inv, Post.here fin ex (hg i j B)⟩
  · exact fin.elim
theorem OpD.or_l {r r' : R2} {o : D → D → R D} (h : OpD K r o) : OpD K (fun x y H Q => r x y H Q ∨ r' x y H Q) o := fun Q E B H x y d e a b c z => .inl (h Q E B H x y d e a b c z)
end
abbrev dSub : D → D → R D := dI fun i j => .int (i - j)
abbrev dLt : D → D → R D := dI fun i j => .bool (decide (i < j))
abbrev dLe : D → D → R D := dI fun i j => .bool (decide (i ≤ j))
abbrev dGt : D → D → R D := dI fun i j => .bool (decide (j < i))
abbrev dGe : D → D → R D := dI fun i j => .bool (decide (j ≤ i))
def dMod : D → D → R D
  | .int i, .int j => if j = 0 then .bad else .ok (.int (i.fmod j))
  | _, _ => .bad
def dDiv : D → D → R D
  | .int i, .int j => if j ≠ 0 ∧ j.natAbs < 1073741824 then .ok (.int (i.fdiv j)) else .bad
  | _, _ => .bad
def dPow : D → D → R D
  | .int i, .int j => if 0 ≤ j ∧ j ≤ 1000000 ∧ i.natAbs < 18446744073709551616 then .ok (.int (i ^ j.toNat)) else .bad
  | _, _ => .bad
def dAdd : D → D → R D
  | .int i, .int j => .ok (.int (i + j))
  | .str x, .str y => if x.length + y.length ≤ 16777216 then .ok (.str (x ++ y)) else .bad
  | .tuple xs, .tuple ys => if xs.length + ys.length ≤ 16777216 then .ok (.tuple (xs ++ ys)) else .bad
  | _, _ => .bad
def dMul : D → D → R D
  | .int i, .int j => if (-18446744073709551616 < i ∧ i < 18446744073709551616) ∨ (-18446744073709551616 < j ∧ j < 18446744073709551616) then .ok (.int (i * j)) else .bad
  | .tuple xs, .int k => if xs ≠ [] ∧ 2 ≤ k ∧ k ≤ 1000 ∧ xs.length ≤ 1000 then .ok (.tuple (List.replicate k.toNat xs).flatten) else .bad
  | _, _ => .bad
def dEq (x y : D) : R D := if SeqAt.shaped x = true ∧ SeqAt.shaped y = true then .ok (.bool (PyData.eqv x y)) else .bad
def dNe (x y : D) : R D := if SeqAt.shaped x = true ∧ SeqAt.shaped y = true then .ok (.bool (!PyData.eqv x y)) else .bad
def dIsN (x y : D) : R D := match y with
  | .none => .ok (.bool (match x with | .none => true | _ => false))
  | _ => .bad
def dNotN (x y : D) : R D := match y with
  | .none => .ok (.bool (match x with | .none => false | _ => true))
  | _ => .bad
def dNeg : D → R D
  | .int i => .ok (.int (-i))
  | _ => .bad
def signOf (x : Str) : Option Nat := match x.cps.toList with
  | [c] => some c
  | _ => none
def dInS : D → D → R D
  | .str x, .str z => match signOf x with
    | some c => .ok (.bool (decide (c ∈ z.cps.toList)))
    | none => .bad
  | _, _ => .bad
def dNotInS : D → D → R D
  | .str x, .str z => match signOf x with
    | some c => .ok (.bool (!decide (c ∈ z.cps.toList)))
    | none => .bad
  | _, _ => .bad
theorem signOf_some {x : Str} {c : Nat} (h : signOf x = some c) : x = ⟨#[c]⟩ := by
  unfold signOf at h
  split at h
  · rename_i k e
    cases h
    cases x with
    | mk cps =>
      have e' : cps.toList = [c] := e
      have : cps = #[c] := by
        rw [← Array.toArray_toList (xs := cps), e']
      rw [this]
  · cases h
section
variable {K : Fg}
theorem Rp.dp {B : Hp} : ∀ {v : V} {d : D}, SeqAt.shaped d = true → Rp K B v d → Dp K B v d := by
  intro v d hs
  have hc : d.canLay0 = true := SeqAt.canLay_of_shaped hs
  clear hs
  revert v d
  have key : (∀ {v : V} {d : D}, Rp K B v d → d.canLay0 = true → Dp K B v d) := by
    intro v d h
    refine Rp.rec (motive_1 := fun v d _ => d.canLay0 = true → Dp K B v d) (motive_2 := fun vs ds _ => PyData.canLayAll0 ds = true → DpAll K B vs ds) ?_ ?_ ?_ ?_ ?_ ?_ ?_ ?_ ?_ h
    · exact fun _ => .non
    · exact fun b _ => .bl b
    · exact fun i _ => .int i
    · exact fun x _ => .str x
    · exact fun h r ih c => .lst h (ih (by simpa [PyData.canLay0] using c))
    · exact fun h r ih c => .tup h (ih (by simpa [PyData.canLay0] using c))
    · exact fun h r ih c => by simp [PyData.canLay0] at c
    · exact fun _ => .nil
    · exact fun a b ih1 ih2 c => .cons (ih1 (by simp [PyData.canLayAll0] at c; exact c.1)) (ih2 (by simp [PyData.canLayAll0] at c; exact c.2))
  intro v d hc h
  exact key h hc
end
end DL

/-! The data layer: the operators. -/
namespace DL
open PySem PySem.Spec PyProof.Rows L2
section
variable {K : Fg}
theorem Rp.ref_of {B : Hp} {a : Addr} {xs : List V} {ds : List D} (h : SqT K B a xs) (r : RpAll K B xs ds) : Rp K B (.ref a) (.tuple ds) := .tup h r
theorem RpAll.ne_nil {B : Hp} {xs : List V} {ds : List D} (r : RpAll K B xs ds) : xs = [] ↔ ds = [] := by
  cases r with
  | nil => simp
  | cons _ _ => simp
abbrev rAdd : R2 := fun x y H Q => (rI0 (fun i j => .int (i + j)) x y H Q ∨ ∃ i j, x = .str i ∧ y = .str j ∧ i.length + j.length ≤ sizeLine ∧ Q (.str (i ++ j)) H)
abbrev rAddA (K : Fg) : R2 := fun x y H Q => rAdd x y H Q ∨ rCatA K x y H Q
theorem op_addA {X : Cx} : OpR X (binaryOp .Add) (rAddA X.K) := (op_add.or op_add_str).or op_catA
theorem opd_add : OpD K (rAddA K) dAdd := by
  intro Q E B H x y d e ex rx ry fin
  unfold dAdd at fin
  split at fin
  · rename_i i j
    exact .inl (.inl ⟨i, j, rx.int_inv, ry.int_inv, Post.here fin ex (.int _)⟩)
  · rename_i i j
    split at fin
    · rename_i h
      exact .inl (.inr ⟨i, j, rx.str_inv, ry.str_inv, szl h, Post.here fin ex (.str _)⟩)
    · exact fin.elim
  · rename_i xs ys
    split at fin
    · rename_i h
      obtain ⟨a, us, rfl, ha, ra⟩ := rx.tup_inv
      obtain ⟨b, ws, rfl, hb, rb⟩ := ry.tup_inv
      refine .inr ⟨a, b, us, ws, rfl, rfl, ex_t ex ha, ex_t ex hb, by rw [ra.length, rb.length]; exact szl h, fun z => ?_, fun _ z => ?_, fun _ _ p hp => ?_⟩
      · have z' := ra.ne_nil.mp z
        subst z'
        exact Post.here fin ex (.tup hb (by rw [List.nil_append]; exact rb))
      · have z' := rb.ne_nil.mp z
        subst z'
        exact Post.here fin ex (.tup ha (by rw [List.append_nil]; exact ra))
      · exact newTup ex (ra.append rb) fin hp
    · exact fin.elim
  · exact fin.elim
theorem opd_sub : OpD K (rI0 fun i j => .int (i - j)) dSub := opd_int0 fun _ _ _ => .int _
theorem opd_lt : OpD K (rI0 fun i j => .bl (decide (i < j))) dLt := opd_int0 fun _ _ _ => .bl _
theorem opd_le : OpD K (rI0 fun i j => .bl (decide (i ≤ j))) dLe := opd_int0 fun _ _ _ => .bl _
theorem opd_gt : OpD K (rI0 fun i j => .bl (decide (j < i))) dGt := opd_int0 fun _ _ _ => .bl _
theorem opd_ge : OpD K (rI0 fun i j => .bl (decide (j ≤ i))) dGe := opd_int0 fun _ _ _ => .bl _
theorem opd_mod : OpD K (rI (fun _ j => j ≠ 0) fun i j => .int (i.fmod j)) dMod := by
  intro Q E B H x y d e ex rx ry fin
  unfold dMod at fin
  split at fin
  · rename_i i j
    split at fin
    · exact fin.elim
    · rename_i h
      exact ⟨i, j, rx.int_inv, ry.int_inv, h, Post.here fin ex (.int _)⟩
  · exact fin.elim
theorem opd_div : OpD K (rI CDivN fun i j => .int (i.fdiv j)) dDiv := by
  intro Q E B H x y d e ex rx ry fin
  unfold dDiv at fin
  split at fin
  · rename_i i j
    split at fin
    · rename_i h
      exact ⟨i, j, rx.int_inv, ry.int_inv, h, Post.here fin ex (.int _)⟩
    · exact fin.elim
  · exact fin.elim
theorem opd_pow : OpD K (rI CPow fun i j => .int (i ^ j.toNat)) dPow := by
  intro Q E B H x y d e ex rx ry fin
  unfold dPow at fin
  split at fin
  · rename_i i j
    split at fin
    · rename_i h
      exact ⟨i, j, rx.int_inv, ry.int_inv, ⟨h.1, h.2.1, by have := h.2.2; omega⟩, Post.here fin ex (.int _)⟩
    · exact fin.elim
  · exact fin.elim
abbrev rMulA (K : Fg) : R2 := fun x y H Q => rI CMul (fun i j => .int (i * j)) x y H Q ∨ rRepT K x y H Q
theorem op_mulA {X : Cx} : OpR X (binaryOp .Mult) (rMulA X.K) := op_mul.or op_repT
theorem RpAll.rep {B : Hp} {xs : List V} {ds : List D} (r : RpAll K B xs ds) : ∀ k : Nat, RpAll K B (List.replicate k xs).flatten (List.replicate k ds).flatten
  | 0 => .nil
  | k + 1 => by
    rw [List.replicate_succ, List.replicate_succ, List.flatten_cons, List.flatten_cons]
    exact r.append (RpAll.rep r k)
theorem opd_mul : OpD K (rMulA K) dMul := by
  intro Q E B H x y d e ex rx ry fin
  unfold dMul at fin
  split at fin
  · rename_i i j
    split at fin
    · rename_i h
      exact .inl ⟨i, j, rx.int_inv, ry.int_inv, h, Post.here fin ex (.int _)⟩
    · exact fin.elim
  · rename_i xs k
    split at fin
    · rename_i h
      obtain ⟨a, us, rfl, ha, ra⟩ := rx.tup_inv
      exact .inr ⟨a, k, us, rfl, ry.int_inv, ex_t ex ha, fun z => h.1 (ra.ne_nil.mp z), h.2.1, h.2.2.1, by rw [ra.length]; exact h.2.2.2, fun p hp => newTup ex (ra.rep _) fin hp⟩
    · exact fin.elim
  · exact fin.elim
theorem opd_eq : OpD K (rEqD K) dEq := by
  intro Q E B H x y d e ex rx ry fin
  unfold dEq at fin
  split at fin
  · rename_i h
    exact ⟨d, e, Rp.dp h.1 (rx.mono ex), Rp.dp h.2 (ry.mono ex), h.1, h.2, Post.here fin ex (.bl _)⟩
  · exact fin.elim
theorem opd_ne : OpD K (rNeD K) dNe := by
  intro Q E B H x y d e ex rx ry fin
  unfold dNe at fin
  split at fin
  · rename_i h
    exact ⟨d, e, Rp.dp h.1 (rx.mono ex), Rp.dp h.2 (ry.mono ex), h.1, h.2, Post.here fin ex (.bl _)⟩
  · exact fin.elim
theorem opd_isN : OpD K (fun x y H Q => y = .non ∧ Q (.bl (decide (x = .non))) H) dIsN := by
  intro Q E B H x y d e ex rx ry fin
  unfold dIsN at fin
  split at fin
  · refine ⟨ry.non_inv, ?_⟩
    cases rx <;> exact Post.here fin ex (.bl _)
  · exact fin.elim
theorem opd_notN : OpD K (fun x y H Q => y = .non ∧ Q (.bl (!decide (x = .non))) H) dNotN := by
  intro Q E B H x y d e ex rx ry fin
  unfold dNotN at fin
  split at fin
  · refine ⟨ry.non_inv, ?_⟩
    cases rx <;> exact Post.here fin ex (.bl _)
  · exact fin.elim
theorem und_neg : UnD K (rU fun i => .int (-i)) dNeg := by
  intro Q E B H x d ex rx fin
  unfold dNeg at fin
  split at fin
  · rename_i i
    exact ⟨i, rx.int_inv, Post.here fin ex (.int _)⟩
  · exact fin.elim
theorem opd_inS : OpD K (fun x y H Q => ∃ (c : Nat) (z : Str), x = .str ⟨#[c]⟩ ∧ y = .str z ∧ Q (.bl (decide (c ∈ z.cps.toList))) H) dInS := by
  intro Q E B H x y d e ex rx ry fin
  unfold dInS at fin
  split at fin
  · rename_i a z
    split at fin
    · rename_i c h
      have h' := signOf_some h
      subst h'
      exact ⟨c, z, rx.str_inv, ry.str_inv, Post.here fin ex (.bl _)⟩
    · exact fin.elim
  · exact fin.elim
theorem opd_notInS : OpD K (fun x y H Q => ∃ (c : Nat) (z : Str), x = .str ⟨#[c]⟩ ∧ y = .str z ∧ Q (.bl (!decide (c ∈ z.cps.toList))) H) dNotInS := by
  intro Q E B H x y d e ex rx ry fin
  unfold dNotInS at fin
  split at fin
  · rename_i a z
    split at fin
    · rename_i c h
      have h' := signOf_some h
      subst h'
      exact ⟨c, z, rx.str_inv, ry.str_inv, Post.here fin ex (.bl _)⟩
    · exact fin.elim
  · exact fin.elim
/-! ### x[i] -/
def dIx : D → D → R D
  | .list xs, .int i => match atI xs i with
    | some d => .ok d
    | none => .bad
  | .tuple xs, .int i => match atI xs i with
    | some d => .ok d
    | none => .bad
  | .str z, .int i => if z.length ≤ 16777216 then (match atI z.cps.toList i with
    | some c => .ok (.str ⟨#[c]⟩)
    | none => .bad) else .bad
  | _, _ => .bad
theorem atI_all {B : Hp} {xs : List V} {ds : List D} {i : Int} {d : D} (r : RpAll K B xs ds) (h : atI ds i = some d) : ∃ v, atI xs i = some v ∧ Rp K B v d := by
  unfold atI at h ⊢
  rw [r.length]
  cases e : ixN ds.length i with
  | none => rw [e] at h; cases h
  | some j =>
    rw [e] at h
    exact r.get h
theorem opd_ix : OpD K (rIx K) dIx := by
  intro Q E B H x y d e ex rx ry fin
  unfold dIx at fin
  split at fin
  · rename_i xs i
    split at fin
    · rename_i z h
      obtain ⟨a, us, rfl, ha, ra⟩ := rx.lst_inv
      obtain ⟨v, hv, rv⟩ := atI_all ra h
      exact .inl ⟨a, us, i, v, rfl, ry.int_inv, ex_l ex ha, hv, Post.here fin ex rv⟩
    · exact fin.elim
  · rename_i xs i
    split at fin
    · rename_i z h
      obtain ⟨a, us, rfl, ha, ra⟩ := rx.tup_inv
      obtain ⟨v, hv, rv⟩ := atI_all ra h
      exact .inr (.inl ⟨a, us, i, v, rfl, ry.int_inv, ex_t ex ha, hv, Post.here fin ex rv⟩)
    · exact fin.elim
  · rename_i z i
    split at fin
    · rename_i hz
      split at fin
      · rename_i c h
        exact .inr (.inr ⟨z, i, c, rx.str_inv, ry.int_inv, szl hz, h, Post.here fin ex (.str _)⟩)
      · exact fin.elim
    · exact fin.elim
  · exact fin.elim
end
section
variable {X : Cx} {E : XK} {a b : Expr} {f g : Gm → R D} {pos p2 : Pos}
theorem je_ixR {r : R2} {o : D → D → R D} (hr : IxR X r) (hd : OpD X.K r o) (ha : JE X E a f) (hb : JE X E b g) (hs : PlainIx b := by exact fun _ _ => rfl) : JE X E (.Subscript a b pos) (e2 o f g) := PE.weak (pe_ix hr ha hb hs) fun _ _ _ q => tOp_of hd q
theorem je_ix (ha : JE X E a f) (hb : JE X E b g) (hs : PlainIx b := by exact fun _ _ => rfl) : JE X E (.Subscript a b pos) (e2 dIx f g) := je_ixR ix_seq opd_ix ha hb hs
/-! ### WAYS[sign]: a dict of the module with text keys -/
/-- what the written dict at a holds, by the data -/
def dTab (t : List (Str × D)) : D → R D
  | .str x => match t.lookup x with
    | some d => .ok d
    | none => .bad
  | _ => .bad
def TabOk (K : Fg) (w : World) (a : Addr) (t : List (Str × D)) : Prop := ∀ x d, t.lookup x = some d → ∃ v, KDct K w a x v ∧ ∀ B, Rp K B v d
theorem je_tab {x : Str} {da : Addr} {t : List (Str × D)} {px : Pos} (hg : Gl X x) (hm : X.mg x = some (.ref da)) (ht : TabOk X.K X.w da t) (hb : JE X E b g) (hs : PlainIx b := by exact fun _ _ => rfl) (hd : (x == ("__debug__" : Str)) = false := by decide) :
    JE X E (.Subscript (.Name x px) b pos) (e1 (dTab t) g) := PE.weak (pe_ix ix_kdict (pe_glob (v := .ref da) hg hm rfl hd) hb hs) fun σ H Q ⟨B0, H0, Γ, B, s, fin⟩ => by
  show tE X.K E g σ H fun y H2 => rIxD X.K X.w (.ref da) y H2 Q
  refine tP.bind (f := g) Post.clo s fin fun w B1 H1 d s1 _ r1 fin1 => ?_
  unfold dTab at fin1
  split at fin1
  · rename_i z
    split at fin1
    · rename_i d' h
      obtain ⟨v, kd, rv⟩ := ht z d' h
      exact ⟨da, z, v, rfl, r1.str_inv, kd, Post.here fin1 s1.bh (rv B1)⟩
    · exact fin1.elim
  · exact fin1.elim

/-! ### slices -/
/-- a part of a slice -/
def oNone : Gm → R (Option Int) := fun _ => .ok none
def asI : D → R Int
  | .int i => .ok i
  | _ => .bad
def oSome (f : Gm → R D) : Gm → R (Option Int) := fun Γ => f Γ >>= fun d => asI d >>= fun i => .ok (some i)
def relO (_ : Hp) (o : Option Int) (d : Option Int) : Prop := o = d
def tO (K : Fg) (E : XK) (f : Gm → R (Option Int)) : TO := fun σ H Q => tP K (Post relO Q) E f σ H
structure JO (X : Cx) (E : XK) (e : Option Expr) (f : Gm → R (Option Int)) : Prop where
  po : PO X e (tO X.K E f)
theorem jo_none : JO X E none oNone := ⟨⟨fun pins s σ H Q I h => po_none.run pins s σ H Q I (by
  obtain ⟨B0, H0, Γ, B, st, fin⟩ := h
  exact Post.here fin st.bh rfl)⟩⟩
theorem jo_some (h : JE X E a f) : JO X E (some a) (oSome f) := ⟨⟨fun pins s σ H Q I q => (po_some h).run pins s σ H Q I (by
  obtain ⟨B0, H0, Γ, B, st, fin⟩ := q
  show tE X.K E f σ H fun x H1 => ∃ i, x = .int i ∧ Q (some i) H1
  refine tP.bind (f := f) Post.clo st fin fun v B1 H1 d s1 _ r fin1 => ?_
  cases d with
  | int i => exact ⟨i, r.int_inv, Post.here fin1 s1.bh rfl⟩
  | _ => exact fin1.elim)⟩⟩
def cutD (xs : List D) (lo hi : Option Int) : List D := (xs.drop (HT.sIx xs.length 0 lo)).take (HT.sIx xs.length xs.length hi - HT.sIx xs.length 0 lo)
theorem cut_all {K : Fg} {B : Hp} {xs : List V} {ds : List D} {lo hi : Option Int} (r : RpAll K B xs ds) : RpAll K B (cutV xs lo hi) (cutD ds lo hi) := by
  unfold cutV cutD
  rw [r.length]
  exact (r.drop _).take _
theorem cut_whole {xs : List D} {lo hi : Option Int} (h : HT.sIx xs.length 0 lo = 0 ∧ HT.sIx xs.length xs.length hi = xs.length) : cutD xs lo hi = xs := by
  unfold cutD
  rw [h.1, h.2, List.drop_zero, Nat.sub_zero, List.take_length]
/-- a tuple's slice, a text's -/
def dSl (d : D) (lo hi : Option Int) : R D := match d with
  | .tuple xs => .ok (.tuple (cutD xs lo hi))
  | .str z => if z.length ≤ 16777216 then .ok (.str (cutS z lo hi)) else .bad
  | _ => .bad
def eSl (f : Gm → R D) (l h : Gm → R (Option Int)) : Gm → R D := fun Γ => f Γ >>= fun d => l Γ >>= fun lo => h Γ >>= fun hi => dSl d lo hi
variable {lo hi : Option Expr} {l h : Gm → R (Option Int)}
theorem je_sl (ha : JE X E a f) (hl : JO X E lo l) (hh : JO X E hi h) : JE X E (.Subscript a (.Slice lo hi none p2) pos) (eSl f l h) := PE.weak (pe_slice (sl_tupA.or sl_str) ha hl.po hh.po) fun σ H Q ⟨B0, H0, Γ, B, s, fin⟩ => by
  show tE X.K E f σ H fun x H1 => tO X.K E l σ H1 fun i H2 => tO X.K E h σ H2 fun u H3 => rSlA X.K x i u H3 Q ∨ rSlS x i u H3 Q
  refine tP.bind (f := f) Post.clo s fin fun v B1 H1 d s1 _ r fin1 => ?_
  refine tP.bind (f := l) Post.clo s1 fin1 fun i B2 H2 i' s2 g2 r2 fin2 => ?_
  refine tP.bind (f := h) Post.clo s2 fin2 fun u B3 H3 u' s3 g3 r3 fin3 => ?_
  obtain rfl : i = i' := r2
  obtain rfl : u = u' := r3
  have r' := r.mono (g2.b.trans g3.b)
  cases d with
  | tuple xs =>
    obtain ⟨p, us, rfl, hp, ru⟩ := r'.tup_inv
    refine .inl ⟨p, us, rfl, ex_t s3.bh hp, fun z => ?_, fun _ q hq => newTup s3.bh (cut_all ru) fin3 hq⟩
    rw [ru.length] at z
    exact Post.here fin3 s3.bh (.tup hp (by rw [cut_whole z]; exact ru))
  | str z =>
    have fin3 : Fin (Post (Rp X.K) Q) E B3 H3 (if z.length ≤ 16777216 then .ok (.str (cutS z i u)) else .bad) := fin3
    split at fin3
    · rename_i hz
      exact .inr ⟨z, r'.str_inv, szl hz, Post.here fin3 s3.bh (.str _)⟩
    · exact fin3.elim
  | _ => exact fin3.elim
def dSlL (d : D) (lo hi : Option Int) : R (List D) := match d with
  | .list xs => .ok (cutD xs lo hi)
  | _ => .bad
def lSl (f : Gm → R D) (l h : Gm → R (Option Int)) : Gm → R (List D) := fun Γ => f Γ >>= fun d => l Γ >>= fun lo => h Γ >>= fun hi => dSlL d lo hi
theorem jl_sl (ha : JE X E a f) (hl : JO X E lo l) (hh : JO X E hi h) : JL X E (.Subscript a (.Slice lo hi none p2) pos) (lSl f l h) := PE.weak (pe_slice sl_list ha hl.po hh.po) fun σ H Q ⟨B0, H0, Γ, B, s, fin⟩ => by
  show tE X.K E f σ H fun x H1 => tO X.K E l σ H1 fun i H2 => tO X.K E h σ H2 fun u H3 => rSlL X.K x i u H3 Q
  refine tP.bind (f := f) PostL.clo s fin fun v B1 H1 d s1 _ r fin1 => ?_
  refine tP.bind (f := l) PostL.clo s1 fin1 fun i B2 H2 i' s2 g2 r2 fin2 => ?_
  refine tP.bind (f := h) PostL.clo s2 fin2 fun u B3 H3 u' s3 g3 r3 fin3 => ?_
  obtain rfl : i = i' := r2
  obtain rfl : u = u' := r3
  have r' := r.mono (g2.b.trans g3.b)
  cases d with
  | list xs =>
    obtain ⟨p, us, rfl, hp, ru⟩ := r'.lst_inv
    exact ⟨p, us, rfl, ex_l s3.bh hp, fun q hq => newLst s3.bh (cut_all ru) fin3 hq⟩
  | _ => exact fin3.elim
end
end DL

/-! The data layer: what is walked. -/
namespace PySem
open Sem (wp)
open AutoSeq1 (wpAny_loadPart')
theorem dl_meets_enum_tup (l : Addr) (items : Array Value) (n : Nat) (dct : Option Addr) (sl : Array (Option Value)) :
    Meets (Builtin.«enumerate.__new__» ⟨[.type "enumerate", .ref l], []⟩) (fun _ R s => s.heap.get? l = some { cls := .type "tuple", dict := dct, data := .seq items n, slots := sl } ∧
      R (.ok (.ret (.ref (s.heap.push { cls := .type "tuple_iterator", data := .fields #[.ref l, .int 0 0] }).objs.size)))
        { s with heap := (s.heap.push { cls := .type "tuple_iterator", data := .fields #[.ref l, .int 0 0] }).push { cls := .type "enumerate", data := .fields #[.none, .bool false, .ref s.heap.objs.size, rawInt 0, .none, .none] } }) :=
  .of_wp fun prog w A R s h => by
    obtain ⟨hp, g, d, tk, os⟩ := s; obtain ⟨hl, h⟩ := h
    have hsub := sub_enumerate
    have hL : Heap.IsTuple (Shared.heap ⟨hp, g, d, tk, os⟩) l items := ⟨_, hl, rfl, n, rfl⟩
    wp_walk using wpAny_loadPart' hl
    refine wpAny_stack_any fun st => wpAny_pure ?_
    split
    · rename_i c _ _ _ _ _
      cases (c == Value.type "enumerate")
      · wp_walk using wpAny_loadPart' hl, wpAny_pyIter_tuple hL
        exact ⟨_, rfl, h⟩
      · wp_walk using wpAny_loadPart' hl, wpAny_pyIter_tuple hL
        exact ⟨_, rfl, h⟩
    · wp_walk using wpAny_loadPart' hl, wpAny_pyIter_tuple hL
      exact ⟨_, rfl, h⟩
section
variable {prog : Program} {w : World} {A : Around} {E : Value → Shared → Prop} {s : Shared}
theorem dl_call_enum_tup {l : Addr} {items : Array Value} {Q : Value → Shared → Prop} (hL : s.heap.IsTuple l items)
    (h : ∀ h', IsEnum h' (s.heap.objs.size + 1) s.heap.objs.size 0 .none → h'.IsTupleIter s.heap.objs.size l 0 → h'.objs.size = s.heap.objs.size + 2 →
      (∀ b o, s.heap.get? b = some o → h'.get? b = some o) → Q (.ref (s.heap.objs.size + 1)) { s with heap := h' }) :
    wpAny (model prog w) A (call (.type "enumerate") [.ref l]) Q E s := by
  obtain ⟨⟨c, dct, dt, sl⟩, hl, hc, n, hd⟩ := hL
  replace hc : c = .type "tuple" := hc
  replace hd : dt = .seq items n := hd
  subst hc hd
  refine callType_new F.called_enumerate (by decide) (F.typeCall_enumerate_1 _) (F.newCall_enumerate_1 _) (fun obj => F.args_object_init_2 obj _) F.entry_enumerate_new
    (dl_meets_enum_tup l items n dct sl) ⟨hl, ?_⟩
  have hz : (s.heap.push { cls := .type "tuple_iterator", data := .fields #[.ref l, .int 0 0] }).objs.size = s.heap.objs.size + 1 := Heap.size_push ..
  show _ ∧ _
  rw [hz]
  have he : IsEnum ((s.heap.push { cls := .type "tuple_iterator", data := .fields #[.ref l, .int 0 0] }).push
      { cls := .type "enumerate", data := .fields #[.none, .bool false, .ref s.heap.objs.size, rawInt 0, .none, .none] }) (s.heap.objs.size + 1) s.heap.objs.size 0 .none := by
    have := Heap.get?_push_size (s.heap.push { cls := .type "tuple_iterator", data := .fields #[.ref l, .int 0 0] })
      (o := { cls := .type "enumerate", data := .fields #[.none, .bool false, .ref s.heap.objs.size, rawInt 0, .none, .none] }) rfl
    rw [hz] at this; exact this
  refine ⟨⟨_, he, rfl⟩, h _ he ⟨_, Heap.get?_push_of_some _ (Heap.get?_push_size _ rfl), rfl, rfl⟩ (by rw [Heap.size_push, hz]) fun b o x => Heap.get?_push_of_some _ (Heap.get?_push_of_some _ x)⟩
end
end PySem
namespace DL
open PySem PySem.Spec PyProof.Rows L2

/-! ### enumerate of a tuple, of a text -/
def Itet (K : Fg) (a : Addr) : It :=
  ⟨fun i H => ∃ (xs : List V) (x : V), SqT K H a xs ∧ xs[i]? = some x, fun i H v H' => ∃ T x, v = .ref T ∧ H T = none ∧ H' = upd H T (.tup [.int (i : Nat), x]) ∧ ∀ xs, SqT K H a xs → xs[i]? = some x, fun i H => ∃ xs : List V, SqT K H a xs ∧ xs.length ≤ i⟩
theorem turn_enumT {P : Program} {w : World} {K : Fg} {elts : List Expr} {kk : Nat} {tpos : Pos} (a e it : Addr) :
    Turn P w K (.Tuple elts kk tpos) (Itet K a) [e, it] e (fun i h => (∃ old, IsEnum h e it ((i : Nat) : Int) old) ∧ h.IsTupleIter it a i ∧ e ≠ it) where
  mem := by simp
  obj := fun i h st b hb => by
    obtain ⟨⟨old, he⟩, ⟨o, ho, hc, hd⟩, _⟩ := st
    have e' : b = e ∨ b = it := by simpa using hb
    rcases e' with z | z
    · rw [z]; exact ⟨_, he, fun v q => nomatch q⟩
    · rw [z]; exact ⟨o, ho, fun v q => by rw [hd] at q; cases q⟩
  keep := fun i h h' st k => let ⟨⟨old, he⟩, hi, hne⟩ := st; ⟨⟨old, k e (by simp) _ he⟩, hi.at fun o q => k it (by simp) o q, hne⟩
  item := by
    intro X hP hw hK hc i pins s σ H E I hf st hg
    subst hP hw hK
    obtain ⟨⟨old, he⟩, hit, hne⟩ := st
    obtain ⟨xs, x, hq, hx⟩ := hg
    obtain ⟨its, rv, p, hz⟩ := I.tuple hq
    obtain ⟨u, hu, ru⟩ := rv.get hx
    have hel : e < s.heap.objs.size := Heap.lt_size he
    have hil : it < s.heap.objs.size := by obtain ⟨_, q, _⟩ := hit; exact Heap.lt_size q
    have pt : s.heap.IsTuple a its.toArray := p
    have nae : a ≠ e := fun z => by
      subst z
      obtain ⟨o, ho, hcc, _⟩ := pt
      rw [show s.heap.get? a = some _ from he] at ho; cases ho; exact absurd (Value.type.inj hcc) (by decide)
    have nai : a ≠ it := fun z => by
      subst z
      obtain ⟨o, ho, hcc, _⟩ := pt
      obtain ⟨o', ho', hc', _⟩ := hit
      rw [ho] at ho'; cases ho'; rw [hcc] at hc'; exact absurd (Value.type.inj hc') (by decide)
    have Dr := Draws.tuple (prog := X.prog) (w := X.w) (A := X.A.in1) (I.ok.hd hc) it a nai its.toArray
    have hlt : i < its.toArray.size := by
      rw [List.size_toArray]
      exact (List.getElem?_eq_some_iff.mp hu).1
    refine wpAny_pyNext_enum_itemD Dr he ⟨hit, pt⟩ hlt hne (by simp only [List.mem_cons, List.not_mem_nil, or_false, not_or]; exact ⟨hne, Ne.symm nae⟩) fun y h' tk hy ho hst hT hsz hk => ?_
    have hyu : y = u := by
      have h1 : its[i]? = some y := by simpa using hy
      rw [hu] at h1
      exact (Option.some.inj h1).symm
    subst hyu
    obtain ⟨hit', _⟩ := hst
    refine ⟨_, rfl, wpAny_letOwnedTupleGo_enum (s := { s with heap := h', toks := tk + 1 }) ho fun h'' he' sb => ?_⟩
    have hT2 : h''.get? s.heap.objs.size = some { cls := .type "tuple", data := .seq #[.int i tk, y] } := (sb.2 _ (Nat.ne_of_gt hel)).trans hT
    have new : ObjOk X.prog X.w (upd H s.heap.objs.size (.tup [.int (i : Nat), x])) h'' s.heap.objs.size (.tup [.int (i : Nat), x]) :=
      ⟨by show 2 ≤ sizeLine; decide, [.int i tk, y], .cons ⟨_, rfl⟩ (.cons ru .nil), ⟨_, hT2, rfl, _, rfl⟩⟩
    have I1 : Inv X pins σ (upd H s.heap.objs.size (.tup [.int (i : Nat), x])) { s with heap := h'', toks := tk + 1 } :=
      I.turnedNew (ch := [e, it]) (fun b ob hb q => (sb.2 b (fun z => hb (by simp [z]))).trans (hk b ob (fun z => hb (by simp [z])) (fun z => hb (by simp [z])) q)) hf (Nat.le_refl _) new
    refine ⟨.ref s.heap.objs.size, _, I1, rfl, ⟨_, x, rfl, I.hok.fresh (Nat.le_refl _), rfl, fun ys hy => by rw [I.tuple_inj hy hq]; exact hx⟩, ⟨⟨y, ?_⟩, hit'.at fun o q => (sb.2 it (Ne.symm hne)).trans q, hne⟩, fun b hb => ?_⟩
    · have e1 : ((i + 1 : Nat) : Int) = (i : Int) + 1 := by omega
      rw [e1]; exact he'
    · have hb' : b < s.heap.objs.size := by
        have e' : b = e ∨ b = it := by simpa using hb
        rcases e' with z | z
        · rw [z]; exact hel
        · rw [z]; exact hil
      rw [upd_ne (Nat.ne_of_lt hb')]
      exact (hf b hb).1
  done := by
    intro X hP hw hK hc i pins s σ H E I hf st hg
    subst hP hw hK
    obtain ⟨⟨old, he⟩, hit, hne⟩ := st
    obtain ⟨xs, hq, hx⟩ := hg
    obtain ⟨its, rv, p, hz⟩ := I.tuple hq
    obtain ⟨f0, f1, f2, f3, f4, f5⟩ := hf it (by simp)
    have pt : s.heap.IsTuple a its.toArray := p
    have hl := rv.length
    have hT : s.TypeIs (.ref e) "enumerate" := ⟨_, he, rfl⟩
    unfold pyNext
    refine wpAny_bind (wpAny_attempt (wpAny_callSpecial?_slot (name := Str.ofString "__next__") hT F.slot_enumerate_next
      (wpAny_call_entry F.slot_enumerate_next hT F.entry_enumerate_next ?_ (F.args_enumerate_next_1 _))))
    show wpAny _ _ (field (.ref e) 2 >>= _) _ _ _
    refine wpAny_bind (wpAny_field he rfl (x := .ref it) rfl ?_)
    refine wpAny_bind (wpAny_nextOf_tuple_end (A := X.A.in1) (I.ok.hd hc) hit pt (Array.getElem?_eq_none (by rw [List.size_toArray]; omega)) fun h' x he' hx' => ?_)
    obtain ⟨o, ho, hcc⟩ := hx'
    refine wpAny_bind (wpAny_isInstance (T := "StopIteration") (b := true) ⟨o, ho, hcc⟩ isSubtype_stop ?_)
    exact wpAny_pure ⟨rfl, I.turned (t' := s.toks) (fun b o hb q => he' b o hb q) f0 f1 f3 f4 f5⟩
  self := fun A i s Q E st h => let ⟨⟨_, he⟩, _⟩ := st; wpAny_pyIter_enum he h
def Ites (z : Str) : It :=
  ⟨fun i _ => i < z.cps.size, fun i H v H' => ∃ T c, v = .ref T ∧ H T = none ∧ H' = upd H T (.tup [.int (i : Nat), .str ⟨#[c]⟩]) ∧ z.cps[i]? = some c, fun i _ => z.cps.size ≤ i⟩
theorem turn_enumS {P : Program} {w : World} {K : Fg} {elts : List Expr} {kk : Nat} {tpos : Pos} (z : Str) (t : Tok) (e it : Addr) :
    Turn P w K (.Tuple elts kk tpos) (Ites z) [e, it] e (fun i h => i ≤ z.cps.size ∧ (∃ old, IsEnum h e it ((i : Nat) : Int) old) ∧ h.IsStrIter it (strIterType z) z t i ∧ e ≠ it) where
  mem := by simp
  obj := fun i h st b hb => by
    obtain ⟨_, ⟨old, he⟩, ⟨o, ho, hc, hd⟩, _⟩ := st
    have e' : b = e ∨ b = it := by simpa using hb
    rcases e' with q | q
    · rw [q]; exact ⟨_, he, fun v q => nomatch q⟩
    · rw [q]; exact ⟨o, ho, fun v q => by rw [hd] at q; cases q⟩
  keep := fun i h h' st k => let ⟨hn, ⟨old, he⟩, ⟨o, ho, r⟩, hne⟩ := st; ⟨hn, ⟨old, k e (by simp) _ he⟩, ⟨o, k it (by simp) o ho, r⟩, hne⟩
  item := by
    intro X hP hw hK hc i pins s σ H E I hf st hg
    subst hP hw hK
    obtain ⟨_, ⟨old, he⟩, hit, hne⟩ := st
    have hel : e < s.heap.objs.size := Heap.lt_size he
    have hil : it < s.heap.objs.size := by obtain ⟨_, q, _⟩ := hit; exact Heap.lt_size q
    have Dr := Draws.text (prog := X.prog) (w := X.w) (A := X.A.in1) (I.ok.hd hc) it z t
    refine wpAny_pyNext_enum_itemD Dr he hit hg hne (by simpa using hne) fun y h' tk hy ho hit' hT hsz hk => ?_
    obtain ⟨c, u, hcx, rfl⟩ := hy
    refine ⟨_, rfl, wpAny_letOwnedTupleGo_enum (s := { s with heap := h', toks := tk + 1 }) ho fun h'' he' sb => ?_⟩
    have hT2 : h''.get? s.heap.objs.size = some { cls := .type "tuple", data := .seq #[.int i tk, .str ⟨#[c]⟩ u] } := (sb.2 _ (Nat.ne_of_gt hel)).trans hT
    have new : ObjOk X.prog X.w (upd H s.heap.objs.size (.tup [.int (i : Nat), .str ⟨#[c]⟩])) h'' s.heap.objs.size (.tup [.int (i : Nat), .str ⟨#[c]⟩]) :=
      ⟨by show 2 ≤ sizeLine; decide, [.int i tk, .str ⟨#[c]⟩ u], .cons ⟨_, rfl⟩ (.cons ⟨_, rfl⟩ .nil), ⟨_, hT2, rfl, _, rfl⟩⟩
    have I1 : Inv X pins σ (upd H s.heap.objs.size (.tup [.int (i : Nat), .str ⟨#[c]⟩])) { s with heap := h'', toks := tk + 1 } :=
      I.turnedNew (ch := [e, it]) (fun b ob hb q => (sb.2 b (fun z => hb (by simp [z]))).trans (hk b ob (fun z => hb (by simp [z])) (fun z => hb (by simp [z])) q)) hf (Nat.le_refl _) new
    obtain ⟨o, ho', r⟩ := hit'
    refine ⟨.ref s.heap.objs.size, _, I1, rfl, ⟨_, c, rfl, I.hok.fresh (Nat.le_refl _), rfl, hcx⟩, ⟨hg, ⟨.str ⟨#[c]⟩ u, ?_⟩, ⟨o, (sb.2 it (Ne.symm hne)).trans ho', r⟩, hne⟩, fun b hb => ?_⟩
    · have e1 : ((i + 1 : Nat) : Int) = (i : Int) + 1 := by omega
      rw [e1]; exact he'
    · have hb' : b < s.heap.objs.size := by
        have e' : b = e ∨ b = it := by simpa using hb
        rcases e' with z | z
        · rw [z]; exact hel
        · rw [z]; exact hil
      rw [upd_ne (Nat.ne_of_lt hb')]
      exact (hf b hb).1
  done := by
    intro X hP hw hK hc i pins s σ H E I hf st hg
    subst hP hw hK
    obtain ⟨hn, ⟨old, he⟩, hit, hne⟩ := st
    obtain ⟨f0, f1, f2, f3, f4, f5⟩ := hf it (by simp)
    have Dr := Draws.text (prog := X.prog) (w := X.w) (A := X.A.in1) (I.ok.hd hc) it z t
    have ei : i = z.cps.size := Nat.le_antisymm hn hg
    subst ei
    exact wpAny_pyNext_enum_endD Dr he hit fun h' eb => ⟨rfl, I.turned (t' := s.toks) (fun b o hb q => eb b o hb q) f0 f1 f3 f4 f5⟩
  self := fun A i s Q E st h => let ⟨_, ⟨_, he⟩, _⟩ := st; wpAny_pyIter_enum he h

/-! ### what is walked, whatever it is -/
section
variable {X : Cx} {tg : Expr}
/-- a list, a tuple, a text -/
def iSeq (K : Fg) (tl : TE) : TI := fun σ H R => tl σ H fun x H1 => (∃ a, x = .ref a ∧ (∃ xs, SqL K H1 a xs) ∧ R (Itl K a) H1) ∨ (∃ a, x = .ref a ∧ (∃ xs, SqT K H1 a xs) ∧ R (Itt K a) H1) ∨ ∃ z, x = .str z ∧ R (Its z) H1
theorem pi_seq {l : Expr} {tl : TE} (hl : PE X l tl) : PI X tg l (iSeq X.K tl) := by
  refine ⟨fun pins s σ H R I h => ?_⟩
  refine thn (hl.run pins s σ H _ I h) fun v s1 ⟨x, H1, I1, r1, q1⟩ => ?_
  rcases q1 with ⟨a, e, ⟨xs, hq⟩, q⟩ | ⟨a, e, ⟨xs, hq⟩, q⟩ | ⟨z, e, q⟩
  · subst e
    cases r1
    obtain ⟨its, rv, p, hz⟩ := I1.list hq
    exact wpAny_pyIter_list p.isList (pi_one (tk := s1.toks) I1 _ (turn_list a _) ⟨_, Heap.get?_push_size _ rfl, rfl, rfl⟩ q)
  · subst e
    cases r1
    obtain ⟨its, rv, p, hz⟩ := I1.tuple hq
    exact wpAny_pyIter_tuple (show s1.heap.IsTuple a its.toArray from p) (pi_one (tk := s1.toks) I1 _ (turn_tuple a _) ⟨_, Heap.get?_push_size _ rfl, rfl, rfl⟩ q)
  · subst e
    obtain ⟨t, rfl⟩ := r1
    cases ha : z.cps.all (· < 128)
    · exact wpAny_pyIter_wide ha (pi_one (tk := s1.toks) I1 _ (turn_str _ z t "str_iterator" (.inr rfl)) ⟨_, Heap.get?_push_size _ rfl, rfl, rfl⟩ q)
    · exact wpAny_pyIter_ascii ha (pi_one (tk := s1.toks) I1 _ (turn_str _ z t "str_ascii_iterator" (.inl rfl)) ⟨_, Heap.get?_push_size _ rfl, rfl, rfl⟩ q)
/-- enumerate of one -/
def iEnumA (K : Fg) (ta : TA) : TI := fun σ H R => ta σ H fun vs H1 => (∃ a xs, vs = [.ref a] ∧ SqL K H1 a xs ∧ R (Ite K a) H1) ∨ (∃ a xs, vs = [.ref a] ∧ SqT K H1 a xs ∧ R (Itet K a) H1) ∨ ∃ z, vs = [.str z] ∧ R (Ites z) H1
theorem pi_enumA {e : Expr} {ta : TA} {p pos tpos : Pos} {elts : List Expr} {kk : Nat} (hg : Gl X "enumerate") (hm : X.mg "enumerate" = none) (ha : PA X [e] ta) (hs : starEach [e] X.env = [(false, eval e X.env)] := by rfl) :
    PI X (.Tuple elts kk tpos) (.Call (.Name "enumerate" p) [e] [] pos) (iEnumA X.K ta) := by
  refine ⟨fun pins s σ H R I h => ?_⟩
  refine Call_ (ld_blt I hg hm boot_enumerate (PyProof.Rows.callWith_type1 (thn (ha.run pos pins s σ H _ I h) fun us s1 ⟨vs, H1, I1, r1, q1⟩ => ?_) hs rfl))
  have fp : ∀ b ∈ [s1.heap.objs.size + 1, s1.heap.objs.size], FpOk X pins H1 b := fun b hb => by
    have e' : b = s1.heap.objs.size + 1 ∨ b = s1.heap.objs.size := by simpa using hb
    have hle : s1.heap.objs.size ≤ b := by
      rcases e' with z | z
      · rw [z]; exact Nat.le_add_right _ _
      · rw [z]; exact Nat.le_refl _
    exact I1.fpOk hle (I1.hok.fresh hle)
  rcases q1 with ⟨a, xs, ex, hq, q⟩ | ⟨a, xs, ex, hq, q⟩ | ⟨z, ex, q⟩
  · subst ex
    cases r1 with
    | cons r rr =>
      cases rr
      cases r
      obtain ⟨its, rv, p', hz⟩ := I1.list hq
      refine call_enumerate_list p'.isList fun h' he hit hsz hk => wpAny_pyIter_enum he ?_
      have I2 : Inv X pins σ H1 { s1 with heap := h' } := I1.kept (t' := s1.toks) hk
      exact ⟨s1.heap.objs.size + 1, [s1.heap.objs.size + 1, s1.heap.objs.size], _, _, H1, rfl, I2, turn_enum a (s1.heap.objs.size + 1) s1.heap.objs.size, ⟨⟨.none, he⟩, hit, Nat.succ_ne_self _⟩, fp, q⟩
  · subst ex
    cases r1 with
    | cons r rr =>
      cases rr
      cases r
      obtain ⟨its, rv, p', hz⟩ := I1.tuple hq
      refine dl_call_enum_tup (show s1.heap.IsTuple a its.toArray from p') fun h' he hit hsz hk => wpAny_pyIter_enum he ?_
      have I2 : Inv X pins σ H1 { s1 with heap := h' } := I1.kept (t' := s1.toks) hk
      exact ⟨s1.heap.objs.size + 1, [s1.heap.objs.size + 1, s1.heap.objs.size], _, _, H1, rfl, I2, turn_enumT a (s1.heap.objs.size + 1) s1.heap.objs.size, ⟨⟨.none, he⟩, hit, Nat.succ_ne_self _⟩, fp, q⟩
  · subst ex
    cases r1 with
    | cons r rr =>
      cases rr
      obtain ⟨t, rfl⟩ := r
      refine call_enumerate_str fun h' he hit hsz hk => wpAny_pyIter_enum he ?_
      have I2 : Inv X pins σ H1 { s1 with heap := h' } := I1.kept (t' := s1.toks) hk
      exact ⟨s1.heap.objs.size + 1, [s1.heap.objs.size + 1, s1.heap.objs.size], _, _, H1, rfl, I2, turn_enumS z t (s1.heap.objs.size + 1) s1.heap.objs.size, ⟨Nat.zero_le _, ⟨.none, he⟩, hit, Nat.succ_ne_self _⟩, fp, q⟩
end

/-! ### the same upon data -/
/-- J gives the items ds, one by one, while what B has stands -/
structure ItOk (K : Fg) (J : It) (ds : List D) (B : Hp) : Prop where
  goes : ∀ i H, Ex B H → i < ds.length → J.go i H
  stops : ∀ H, Ex B H → J.stop ds.length H
  yields : ∀ i B1 H1 x H2 d, Ex B B1 → Ex B1 H1 → ds[i]? = some d → J.yld i H1 x H2 → ∃ B2, Gro B1 H1 B2 H2 ∧ Rp K B2 x d
theorem ItOk.mono {K : Fg} {J : It} {ds : List D} {B B' : Hp} (h : ItOk K J ds B) (e : Ex B B') : ItOk K J ds B' :=
  ⟨fun i H x => h.goes i H (e.trans x), fun H x => h.stops H (e.trans x), fun i B1 H1 x H2 d a b c y => h.yields i B1 H1 x H2 d (e.trans a) b c y⟩
def PostI (K : Fg) (R : It → Hp → Prop) : Hp → Hp → List D → Prop := fun B H ds => ∀ J B' H', Gro B H B' H' → ItOk K J ds B' → R J H'
theorem PostI.clo {K : Fg} {R : It → Hp → Prop} : Clo (PostI K R) := fun _ _ _ _ _ h g J B2 H2 g2 ok => h J B2 H2 (g.trans g2) ok
def tI (K : Fg) (E : XK) (f : Gm → R (List D)) : TI := fun σ H R => tP K (PostI K R) E f σ H
abbrev JI (X : Cx) (E : XK) (tg e : Expr) (f : Gm → R (List D)) : Prop := PI X tg e (tI X.K E f)
theorem PI.weak {X : Cx} {tg e : Expr} {t t' : TI} (h : PI X tg e t) (w : ∀ σ H R, t' σ H R → t σ H R) : PI X tg e t' := ⟨fun pins s σ H R I q => h.run pins s σ H R I (w σ H R q)⟩
def signsD (z : Str) : List D := z.cps.toList.map fun c => .str ⟨#[c]⟩
def dItems : D → R (List D)
  | .list xs => .ok xs
  | .tuple xs => .ok xs
  | .str z => .ok (signsD z)
  | _ => .bad
def enumD (ds : List D) : List D := ds.zipIdx.map fun p => .tuple [.int (p.2 : Nat), p.1]
def iSeqD (f : Gm → R D) : Gm → R (List D) := fun Γ => f Γ >>= dItems
def iEnumD (f : Gm → R D) : Gm → R (List D) := fun Γ => f Γ >>= fun d => dItems d >>= fun ds => .ok (enumD ds)
def iRange1 (f : Gm → R D) : Gm → R (List D) := fun Γ => f Γ >>= fun d => asI d >>= fun j => if j < 4611686018427387904 ∧ -4611686018427387904 ≤ j then .ok ((List.range j.toNat).map fun i => .int (i : Nat)) else .bad
def iRange2 (f g : Gm → R D) : Gm → R (List D) := fun Γ => f Γ >>= fun d => asI d >>= fun i => g Γ >>= fun e => asI e >>= fun j =>
  if (-4611686018427387904 ≤ i ∧ i < 4611686018427387904) ∧ -4611686018427387904 ≤ j ∧ j < 4611686018427387904 then .ok ((List.range (j - i).toNat).map fun k => .int (i + (k : Nat))) else .bad
section
variable {X : Cx} {E : XK} {K : Fg} {tg e a b : Expr} {f g : Gm → R D} {p pos tpos : Pos}
theorem itok_list {J : It} {B : Hp} {ad : Addr} {xs : List V} {ds : List D} (h : SqL K B ad xs) (r : RpAll K B xs ds) : ItOk K (Itl K ad) ds B := by
  have hl := r.length
  refine ⟨fun i H e hi => ⟨xs, xs[i], ex_l e h, by simp [hl, hi]⟩, fun H e => ⟨xs, ex_l e h, by omega⟩, fun i B1 H1 x H2 d eB eH hd y => ?_⟩
  obtain ⟨e1, y⟩ := y
  subst e1
  obtain ⟨v, hv, rv⟩ := r.get hd
  have q := y xs (ex_l (eB.trans eH) h)
  rw [hv] at q
  cases q
  exact ⟨B1, Gro.refl eH, rv.mono eB⟩
theorem itok_tup {J : It} {B : Hp} {ad : Addr} {xs : List V} {ds : List D} (h : SqT K B ad xs) (r : RpAll K B xs ds) : ItOk K (Itt K ad) ds B := by
  have hl := r.length
  refine ⟨fun i H e hi => ⟨xs, xs[i], ex_t e h, by simp [hl, hi]⟩, fun H e => ⟨xs, ex_t e h, by omega⟩, fun i B1 H1 x H2 d eB eH hd y => ?_⟩
  obtain ⟨e1, y⟩ := y
  subst e1
  obtain ⟨v, hv, rv⟩ := r.get hd
  have q := y xs (ex_t (eB.trans eH) h)
  rw [hv] at q
  cases q
  exact ⟨B1, Gro.refl eH, rv.mono eB⟩
theorem signs_get {z : Str} {i : Nat} {d : D} (h : (signsD z)[i]? = some d) : ∃ c, z.cps[i]? = some c ∧ d = .str ⟨#[c]⟩ := by
  unfold signsD at h
  rw [List.getElem?_map] at h
  cases q : z.cps.toList[i]? with
  | none => rw [q] at h; cases h
  | some c =>
    rw [q] at h
    exact ⟨c, by simpa using q, (Option.some.inj h).symm⟩
theorem signs_len (z : Str) : (signsD z).length = z.cps.size := by unfold signsD; rw [List.length_map, Array.length_toList]
theorem itok_str {z : Str} {B : Hp} : ItOk K (Its z) (signsD z) B := by
  refine ⟨fun i H e hi => by rw [signs_len] at hi; exact hi, fun H e => by rw [signs_len]; exact Nat.le_refl _, fun i B1 H1 x H2 d eB eH hd y => ?_⟩
  obtain ⟨e1, c, hc, ev⟩ := y
  subst e1 ev
  obtain ⟨c', hc', rfl⟩ := signs_get hd
  rw [hc] at hc'
  cases hc'
  exact ⟨B1, Gro.refl eH, .str _⟩
theorem ji_seq (he : JE X E e f) : JI X E tg e (iSeqD f) := PI.weak (pi_seq he) fun σ H R ⟨B0, H0, Γ, B, s, fin⟩ => by
  show tE X.K E f σ H _
  refine tP.bind (f := f) PostI.clo s fin fun v B1 H1 d s1 _ r fin1 => ?_
  cases d with
  | list xs =>
    obtain ⟨ad, us, rfl, h, ra⟩ := r.lst_inv
    exact .inl ⟨ad, rfl, ⟨us, ex_l s1.bh h⟩, fin1 _ B1 H1 (Gro.refl s1.bh) (itok_list (J := Itl X.K ad) h ra)⟩
  | tuple xs =>
    obtain ⟨ad, us, rfl, h, ra⟩ := r.tup_inv
    exact .inr (.inl ⟨ad, rfl, ⟨us, ex_t s1.bh h⟩, fin1 _ B1 H1 (Gro.refl s1.bh) (itok_tup (J := Itt X.K ad) h ra)⟩)
  | str z => exact .inr (.inr ⟨z, r.str_inv, fin1 _ B1 H1 (Gro.refl s1.bh) itok_str⟩)
  | _ => exact fin1.elim
theorem enum_get {ds : List D} {i : Nat} {d : D} (h : (enumD ds)[i]? = some d) : ∃ x, ds[i]? = some x ∧ d = .tuple [.int (i : Nat), x] := by
  unfold enumD at h
  rw [List.getElem?_map, List.getElem?_zipIdx] at h
  cases q : ds[i]? with
  | none => rw [q] at h; cases h
  | some x =>
    rw [q] at h
    refine ⟨x, rfl, ?_⟩
    have h' := (Option.some.inj h).symm
    simpa using h'
theorem enum_len (ds : List D) : (enumD ds).length = ds.length := by unfold enumD; rw [List.length_map, List.length_zipIdx]
theorem pair_new {B1 H1 : Hp} {T : Addr} {i : Nat} {x : V} {d : D} (eH : Ex B1 H1) (hT : H1 T = none) (r : Rp K B1 x d) : ∃ B2, Gro B1 H1 B2 (upd H1 T (.tup [.int (i : Nat), x])) ∧ Rp K B2 (.ref T) (.tuple [.int (i : Nat), d]) :=
  ⟨_, Gro.add eH hT, .tup (SqT.of upd_same) (.cons (.int _) (.cons (r.mono (Ex.new (fresh_back eH hT))) .nil))⟩
theorem itok_enumL {B : Hp} {ad : Addr} {xs : List V} {ds : List D} (h : SqL K B ad xs) (r : RpAll K B xs ds) : ItOk K (Ite K ad) (enumD ds) B := by
  have hl := r.length
  refine ⟨fun i H e hi => ⟨xs, xs[i]'(by rw [enum_len] at hi; omega), ex_l e h, by rw [enum_len] at hi; simp [hl, hi]⟩, fun H e => ⟨xs, ex_l e h, by rw [enum_len]; omega⟩, fun i B1 H1 x H2 d eB eH hd y => ?_⟩
  obtain ⟨T, x0, e1, hT, e2, y⟩ := y
  subst e1 e2
  obtain ⟨d0, hd0, rfl⟩ := enum_get hd
  obtain ⟨v, hv, rv⟩ := r.get hd0
  have q := y xs (ex_l (eB.trans eH) h)
  rw [hv] at q
  cases q
  exact pair_new eH hT (rv.mono eB)
theorem itok_enumT {B : Hp} {ad : Addr} {xs : List V} {ds : List D} (h : SqT K B ad xs) (r : RpAll K B xs ds) : ItOk K (Itet K ad) (enumD ds) B := by
  have hl := r.length
  refine ⟨fun i H e hi => ⟨xs, xs[i]'(by rw [enum_len] at hi; omega), ex_t e h, by rw [enum_len] at hi; simp [hl, hi]⟩, fun H e => ⟨xs, ex_t e h, by rw [enum_len]; omega⟩, fun i B1 H1 x H2 d eB eH hd y => ?_⟩
  obtain ⟨T, x0, e1, hT, e2, y⟩ := y
  subst e1 e2
  obtain ⟨d0, hd0, rfl⟩ := enum_get hd
  obtain ⟨v, hv, rv⟩ := r.get hd0
  have q := y xs (ex_t (eB.trans eH) h)
  rw [hv] at q
  cases q
  exact pair_new eH hT (rv.mono eB)
theorem itok_enumS {B : Hp} {z : Str} : ItOk K (Ites z) (enumD (signsD z)) B := by
  refine ⟨fun i H e hi => by rw [enum_len, signs_len] at hi; exact hi, fun H e => by rw [enum_len, signs_len]; exact Nat.le_refl _, fun i B1 H1 x H2 d eB eH hd y => ?_⟩
  obtain ⟨T, c, e1, hT, e2, hc⟩ := y
  subst e1 e2
  obtain ⟨d0, hd0, rfl⟩ := enum_get hd
  obtain ⟨c', hc', rfl⟩ := signs_get hd0
  rw [hc] at hc'
  cases hc'
  exact pair_new eH hT (.str _)
theorem ji_enum {elts : List Expr} {kk : Nat} (hg : Gl X "enumerate") (hm : X.mg "enumerate" = none) (he : JE X E e f) (hs : starEach [e] X.env = [(false, eval e X.env)] := by rfl) :
    JI X E (.Tuple elts kk tpos) (.Call (.Name "enumerate" p) [e] [] pos) (iEnumD f) := PI.weak (pi_enumA hg hm (pa_cons he pa_nil hs) hs) fun σ H R ⟨B0, H0, Γ, B, s, fin⟩ => by
  show tE X.K E f σ H _
  refine tP.bind (f := f) PostI.clo s fin fun v B1 H1 d s1 _ r fin1 => ?_
  cases d with
  | list xs =>
    obtain ⟨ad, us, rfl, h, ra⟩ := r.lst_inv
    exact .inl ⟨ad, us, rfl, ex_l s1.bh h, fin1 _ B1 H1 (Gro.refl s1.bh) (itok_enumL h ra)⟩
  | tuple xs =>
    obtain ⟨ad, us, rfl, h, ra⟩ := r.tup_inv
    exact .inr (.inl ⟨ad, us, rfl, ex_t s1.bh h, fin1 _ B1 H1 (Gro.refl s1.bh) (itok_enumT h ra)⟩)
  | str z => exact .inr (.inr ⟨z, by rw [r.str_inv], fin1 _ B1 H1 (Gro.refl s1.bh) itok_enumS⟩)
  | _ => exact fin1.elim
theorem itok_range {B : Hp} {lo : Int} {n : Nat} : ItOk K (Itr lo n) ((List.range n).map fun k => .int (lo + (k : Nat))) B := by
  refine ⟨fun i H e hi => by rw [List.length_map, List.length_range] at hi; exact hi, fun H e => by rw [List.length_map, List.length_range]; exact Nat.le_refl _, fun i B1 H1 x H2 d eB eH hd y => ?_⟩
  obtain ⟨e1, e2⟩ := y
  subst e1 e2
  rw [List.getElem?_map] at hd
  cases q : (List.range n)[i]? with
  | none => rw [q] at hd; cases hd
  | some k =>
    rw [q] at hd
    have hk : k = i := by
      rw [List.getElem?_range] at q
      · exact (Option.some.inj q).symm
      · exact (List.getElem?_eq_some_iff.mp q).1 |> (fun h => by simpa using h)
    subst hk
    cases hd
    exact ⟨B1, Gro.refl eH, .int _⟩
theorem ji_range1 (hg : Gl X "range") (hm : X.mg "range" = none) (ha : JE X E a f) (hs : starEach [a] X.env = [(false, eval a X.env)] := by rfl) : JI X E tg (.Call (.Name "range" p) [a] [] pos) (iRange1 f) := PI.weak (pi_range1 hg hm (pa_cons ha pa_nil hs) hs) fun σ H R ⟨B0, H0, Γ, B, s, fin⟩ => by
  show tE X.K E f σ H _
  refine tP.bind (f := f) PostI.clo s fin fun v B1 H1 d s1 _ r fin1 => ?_
  cases d with
  | int j =>
    have fin1 : Fin (PostI X.K R) E B1 H1 (if j < 4611686018427387904 ∧ -4611686018427387904 ≤ j then .ok ((List.range j.toNat).map fun i => .int (i : Nat)) else .bad) := fin1
    split at fin1
    · rename_i h
      have e0 : ((List.range j.toNat).map fun (i : Nat) => PyData.int (i : Nat)) = (List.range j.toNat).map fun (k : Nat) => PyData.int (0 + (k : Nat)) := by
        congr 1; funext k; rw [Int.zero_add]
      refine ⟨j, by rw [r.int_inv], by omega, by omega, fin1 _ B1 H1 (Gro.refl s1.bh) ?_⟩
      rw [e0]
      exact itok_range
    · exact fin1.elim
  | _ => exact fin1.elim
theorem ji_range2 (hg : Gl X "range") (hm : X.mg "range" = none) (ha : JE X E a f) (hb : JE X E b g) (hs : starEach [a, b] X.env = [(false, eval a X.env), (false, eval b X.env)] := by rfl) (hs2 : starEach [b] X.env = [(false, eval b X.env)] := by rfl)
    (hs3 : starEach (a :: [b]) X.env = (false, eval a X.env) :: starEach [b] X.env := by rfl) (hs4 : starEach (b :: []) X.env = (false, eval b X.env) :: starEach [] X.env := by rfl) : JI X E tg (.Call (.Name "range" p) [a, b] [] pos) (iRange2 f g) := PI.weak (pi_range2 hg hm (pa_cons ha (pa_cons hb pa_nil hs4) hs3) hs hs2) fun σ H R ⟨B0, H0, Γ, B, s, fin⟩ => by
  show tE X.K E f σ H _
  refine tP.bind (f := f) PostI.clo s fin fun v B1 H1 d s1 _ r fin1 => ?_
  cases d with
  | int i =>
    have fin1 : Fin (PostI X.K R) E B1 H1 (g Γ >>= fun e => asI e >>= fun j => if (-4611686018427387904 ≤ i ∧ i < 4611686018427387904) ∧ -4611686018427387904 ≤ j ∧ j < 4611686018427387904 then .ok ((List.range (j - i).toNat).map fun k => .int (i + (k : Nat))) else .bad) := fin1
    show tE X.K E g σ H1 _
    refine tP.bind (f := g) PostI.clo s1 fin1 fun w B2 H2 d2 s2 g2 r2 fin2 => ?_
    cases d2 with
    | int j =>
      have fin2 : Fin (PostI X.K R) E B2 H2 (if (-4611686018427387904 ≤ i ∧ i < 4611686018427387904) ∧ -4611686018427387904 ≤ j ∧ j < 4611686018427387904 then .ok ((List.range (j - i).toNat).map fun k => .int (i + (k : Nat))) else .bad) := fin2
      split at fin2
      · rename_i h
        exact ⟨i, j, by rw [r.int_inv, r2.int_inv], by omega, fin2 _ B2 H2 (Gro.refl s2.bh) itok_range⟩
      · exact fin2.elim
    | _ => exact fin2.elim
  | _ => exact fin1.elim
end
end DL

/-! The data layer: targets, comprehensions. -/
namespace DL
open PySem PySem.Spec PyProof.Rows L2

/-! ### targets -/
inductive Tg where
  | n (i : Nat)
  | t (ts : List Tg)
mutual
def asgn : Tg → D → Gm → R Gm
  | .n i, d, Γ => .ok (Γ.set i (.fr d))
  | .t ts, d, Γ => match d with
    | .tuple ds => asgnAll ts ds Γ
    | _ => .bad
def asgnAll : List Tg → List D → Gm → R Gm
  | [], ds, Γ => match ds with
    | [] => .ok Γ
    | _ => .bad
  | t :: ts, ds, Γ => match ds with
    | d :: ds => asgn t d Γ >>= fun Γ1 => asgnAll ts ds Γ1
    | [] => .bad
end
mutual
def idx : Tg → List Nat
  | .n i => [i]
  | .t ts => idxs ts
def idxs : List Tg → List Nat
  | [] => []
  | t :: ts => idx t ++ idxs ts
end
theorem asgnAll_len : ∀ {ts : List Tg} {ds : List D} {Γ Γ' : Gm}, asgnAll ts ds Γ = .ok Γ' → ds.length = ts.length
  | [], [], _, _, _ => rfl
  | [], _ :: _, _, _, h => by simp [asgnAll] at h
  | _ :: _, [], _, _, h => by simp [asgnAll] at h
  | t :: ts, d :: ds, Γ, Γ', h => by
    simp only [asgnAll] at h
    cases e : asgn t d Γ with
    | bad => rw [e] at h; simp at h
    | ex C => rw [e] at h; simp at h
    | ok Γ1 =>
      rw [e] at h
      have := asgnAll_len (ts := ts) (ds := ds) (Γ := Γ1) (Γ' := Γ') (by simpa using h)
      rw [List.length_cons, List.length_cons, this]
def Off (is : List Nat) (σ σ' : Sg) : Prop := σ'.length = σ.length ∧ ∀ j, j ∉ is → σ'[j]? = σ[j]?
def tgD (K : Fg) (T : Tg) : TG := fun v σ H Q => ∃ B0 H0 Γ B d Γ', StOk K B0 H0 Γ B H σ ∧ Rp K B v d ∧ asgn T d Γ = .ok Γ' ∧ ∀ σ', StOk K B0 H0 Γ' B H σ' → Off (idx T) σ σ' → Q σ' H
def tgsD (K : Fg) (Ts : List Tg) : TGs := fun vs σ H Q => ∃ B0 H0 Γ B ds Γ', StOk K B0 H0 Γ B H σ ∧ RpAll K B vs ds ∧ asgnAll Ts ds Γ = .ok Γ' ∧ ∀ σ', StOk K B0 H0 Γ' B H σ' → Off (idxs Ts) σ σ' → Q σ' H
abbrev JG (X : Cx) (tg : Expr) (T : Tg) : Prop := PG X tg (tgD X.K T)
abbrev JGs (X : Cx) (es : List Expr) (Ts : List Tg) : Prop := PGs X es (tgsD X.K Ts)
section
variable {X : Cx} {e : Expr} {es : List Expr} {T : Tg} {Ts : List Tg} {pos : Pos}
theorem PG.weak {t t' : TG} (h : PG X e t) (w : ∀ v σ H Q, t' v σ H Q → t v σ H Q) : PG X e t' := ⟨fun pins s σ H v u Q I r q => h.run pins s σ H v u Q I r (w v σ H Q q)⟩
theorem PGs.weak {t t' : TGs} (h : PGs X es t) (w : ∀ v σ H Q, t' v σ H Q → t v σ H Q) : PGs X es t' := ⟨fun pins s σ H v u Q I r q => h.run pins s σ H v u Q I r (w v σ H Q q)⟩
theorem Off.set {σ : Sg} {i : Nat} {o : Option V} : Off [i] σ (σ.set i o) := ⟨List.length_set, fun j hj => List.getElem?_set_ne fun z => hj (by simp [z])⟩
theorem Off.trans {is js : List Nat} {σ σ1 σ2 : Sg} (a : Off is σ σ1) (b : Off js σ1 σ2) : Off (is ++ js) σ σ2 := ⟨b.1.trans a.1, fun j hj => by
  rw [List.mem_append, not_or] at hj
  exact (b.2 j hj.2).trans (a.2 j hj.1)⟩
theorem jg_name {i : Nat} {x : Str} (hN : X.N.Nodup) (hi : X.N[i]? = some x) (hx : Loc X.env.scope x) (hf : X.fn x = true ∨ X.env.scope.names.lookup x = some .local := by first | exact .inl rfl | exact .inr rfl | assumption) : JG X (.Name x pos) (.n i) :=
  PG.weak (pg_name hN hi hx hf) fun v σ H Q ⟨B0, H0, Γ, B, d, Γ', s, r, ea, q⟩ => by
    simp only [asgn, R.ok.injEq] at ea
    subst ea
    exact q _ (s.set r i) Off.set
theorem jgs_nil : JGs X [] [] := PGs.weak pgs_nil fun vs σ H Q ⟨B0, H0, Γ, B, ds, Γ', s, r, ea, q⟩ => by
  cases ds with
  | nil =>
    simp only [asgnAll, R.ok.injEq] at ea
    subst ea
    exact ⟨r.nil_inv, q σ s ⟨rfl, fun _ _ => rfl⟩⟩
  | cons d ds => simp [asgnAll] at ea
theorem jgs_cons (h1 : JG X e T) (h2 : JGs X es Ts) (hs : (assignEach (e :: es) X.env).map (·.2) = assign e X.env :: (assignEach es X.env).map (·.2) := by rfl) : JGs X (e :: es) (T :: Ts) :=
  PGs.weak (pgs_cons h1 h2 hs) fun vs σ H Q ⟨B0, H0, Γ, B, ds, Γ', s, r, ea, q⟩ => by
    cases ds with
    | nil => simp [asgnAll] at ea
    | cons d ds =>
      obtain ⟨x, xs, rfl, rx, rr⟩ := r.cons_inv
      simp only [asgnAll] at ea
      cases e1 : asgn T d Γ with
      | bad => rw [e1] at ea; simp at ea
      | ex C => rw [e1] at ea; simp at ea
      | ok Γ1 =>
        rw [e1] at ea
        replace ea : asgnAll Ts ds Γ1 = .ok Γ' := by simpa using ea
        exact ⟨x, xs, rfl, B0, H0, Γ, B, d, Γ1, s, rx, e1, fun σ1 s1 o1 => ⟨B0, H0, Γ1, B, ds, Γ', s1, rr, ea, fun σ2 s2 o2 => q σ2 s2 (by
          show Off (idx T ++ idxs Ts) σ σ2
          exact o1.trans o2)⟩⟩
theorem jg_tup {k : Nat} (hc : X.calm = true) (h : JGs X es Ts) (hn : (assignEach es X.env).length = Ts.length := by rfl) (hst : (assignEach es X.env).findIdx? (·.1) = none := by rfl) : JG X (.Tuple es k pos) (.t Ts) :=
  PG.weak (pg_tup (n := Ts.length) hc h hn hst) fun v σ H Q ⟨B0, H0, Γ, B, d, Γ', s, r, ea, q⟩ => by
    cases d with
    | tuple ds =>
      replace ea : asgnAll Ts ds Γ = .ok Γ' := by simpa [asgn] using ea
      obtain ⟨a, xs, rfl, ha, ra⟩ := r.tup_inv
      exact ⟨a, xs, rfl, ex_t s.bh ha, by rw [ra.length]; exact asgnAll_len ea, B0, H0, Γ, B, ds, Γ', s, ra, ea, q⟩
    | _ => simp [asgn] at ea
end

/-! ### slots forgotten -/
theorem StOk.forget {K : Fg} {B0 H0 B H : Hp} {Γ : Gm} {σ : Sg} (s : StOk K B0 H0 Γ B H σ) (i : Nat) (o : Option V) : StOk K B0 H0 (Γ.set i .no) B H (σ.set i o) := by
  have hl := s.len
  have off : ∀ {j : Nat} {S : Slot}, (Γ.set i .no)[j]? = some S → S ≠ .no → Γ[j]? = some S ∧ i ≠ j := fun {j S} e hS => by
    by_cases q : i = j
    · subst q
      by_cases hi : i < Γ.length
      · rw [List.getElem?_set_self hi] at e
        exact absurd (Option.some.inj e).symm hS
      · rw [List.getElem?_eq_none (by rw [List.length_set]; omega)] at e
        cases e
    · rw [List.getElem?_set_ne q] at e
      exact ⟨e, q⟩
  refine ⟨s.gro, by rw [List.length_set, List.length_set]; exact hl, fun j d' e => ?_, ?_⟩
  · obtain ⟨e', q⟩ := off e (fun z => nomatch z)
    rw [List.getElem?_set_ne q]
    exact s.fr j d' e'
  · obtain ⟨fp, h1, h2⟩ := s.ow
    refine ⟨fp, fun j o e => ?_, fun j k o o' a e e' => h2 j k o o' a (off e (fun z => nomatch z)).1 (off e' (fun z => nomatch z)).1⟩
    obtain ⟨e', q⟩ := off e (fun z => nomatch z)
    rw [List.getElem?_set_ne q]
    exact h1 j o e'
def wipeG (Γ : Gm) : List Nat → Gm
  | [] => Γ
  | v :: vs => (wipeG Γ vs).set v .no
theorem StOk.wiped {K : Fg} {B0 H0 B H : Hp} {Γ : Gm} {σ : Sg} (s : StOk K B0 H0 Γ B H σ) : ∀ vs : List Nat, StOk K B0 H0 (wipeG Γ vs) B H (wipe σ vs)
  | [] => s
  | v :: vs => StOk.forget (StOk.wiped s vs) v none
theorem wipe_get (σ : Sg) : ∀ (vs : List Nat) (j : Nat), (wipe σ vs)[j]? = if j ∈ vs ∧ j < σ.length then some none else σ[j]?
  | [], j => by
    rw [if_neg (by simp)]
    rfl
  | v :: vs, j => by
    show ((wipe σ vs).set v none)[j]? = _
    by_cases q : v = j
    · subst q
      by_cases hl : v < σ.length
      · rw [List.getElem?_set_self (by rw [wipe_length]; exact hl), if_pos ⟨List.mem_cons_self, hl⟩]
      · rw [List.getElem?_eq_none (by rw [List.length_set, wipe_length]; omega), if_neg (fun z => hl z.2), List.getElem?_eq_none (by omega)]
    · rw [List.getElem?_set_ne q, wipe_get σ vs j]
      have hm : j ∈ v :: vs ↔ j ∈ vs := ⟨fun z => (List.mem_cons.mp z).resolve_left (fun y => q y.symm), List.mem_cons_of_mem _⟩
      by_cases h : j ∈ vs ∧ j < σ.length
      · rw [if_pos h, if_pos ⟨hm.mpr h.1, h.2⟩]
      · rw [if_neg h, if_neg (fun z => h ⟨hm.mp z.1, z.2⟩)]
theorem wipe_off {σ σ' : Sg} {is vs : List Nat} (h : Off is (wipe σ vs) σ') (hs : ∀ i ∈ is, i ∈ vs) : wipe σ' vs = wipe σ vs := by
  have hl : σ'.length = σ.length := by rw [h.1, wipe_length]
  refine List.ext_getElem? fun j => ?_
  rw [wipe_get, wipe_get, hl]
  by_cases c : j ∈ vs ∧ j < σ.length
  · rw [if_pos c, if_pos c]
  · rw [if_neg c, if_neg c]
    by_cases hj : j ∈ is
    · have : ¬ j < σ.length := fun z => c ⟨hs j hj, z⟩
      rw [List.getElem?_eq_none (by omega), List.getElem?_eq_none (by omega)]
    · rw [h.2 j hj, wipe_get, if_neg c]

/-! ### comprehensions -/
def noX {α : Type} (r : R α) : R α := match r with
  | .bad => .bad
  | .ok a => .ok a
  | .ex _ => .bad
@[simp] theorem noX_ok {α : Type} (a : α) : noX (.ok a) = .ok a := rfl
@[simp] theorem noX_bad {α : Type} : noX (.bad : R α) = .bad := rfl
@[simp] theorem noX_ex {α : Type} (C : Addr) : noX (.ex C : R α) = .bad := rfl
theorem noX_inv {α : Type} {r : R α} {a : α} (h : noX r = .ok a) : r = .ok a := by
  cases r with
  | bad => cases h
  | ok b => exact h
  | ex C => cases h
def lcTurn (tg : Tg) (c : Gm → R Bool) (e : Gm → R D) (Γ : Gm) (d : D) : R (List D) := noX (asgn tg d Γ >>= fun Γ1 => c Γ1 >>= fun b => if b = true then (e Γ1 >>= fun y => .ok [y]) else .ok [])
def lcLoop (tg : Tg) (c : Gm → R Bool) (e : Gm → R D) (Γ : Gm) : List D → R (List D)
  | [] => .ok []
  | d :: ds => lcTurn tg c e Γ d >>= fun ys => lcLoop tg c e Γ ds >>= fun zs => .ok (ys ++ zs)
def eLc (it : Gm → R (List D)) (tg : Tg) (c : Gm → R Bool) (e : Gm → R D) (vs : List Nat) : Gm → R (List D) := fun Γ => it Γ >>= fun ds => lcLoop tg c e (wipeG Γ vs) ds >>= mkL
def cYes : Gm → R Bool := fun _ => .ok true
theorem lcTurn_noex (tg : Tg) (c : Gm → R Bool) (e : Gm → R D) (Γ : Gm) (d : D) (C : Addr) : lcTurn tg c e Γ d ≠ .ex C := by
  unfold lcTurn noX
  split <;> exact fun z => nomatch z
theorem lcLoop_noex (tg : Tg) (c : Gm → R Bool) (e : Gm → R D) (Γ : Gm) (C : Addr) : ∀ ds : List D, lcLoop tg c e Γ ds ≠ .ex C
  | [] => fun z => nomatch z
  | d :: ds => by
    unfold lcLoop
    cases h : lcTurn tg c e Γ d with
    | bad => exact fun z => nomatch z
    | ex C' => exact absurd h (lcTurn_noex tg c e Γ d C')
    | ok ys =>
      rw [R.bind_ok]
      cases h2 : lcLoop tg c e Γ ds with
      | bad => exact fun z => nomatch z
      | ex C' => exact absurd h2 (lcLoop_noex tg c e Γ C' ds)
      | ok zs => exact fun z => nomatch z
theorem lcLoop_cons {tg : Tg} {c : Gm → R Bool} {e : Gm → R D} {Γ : Gm} {d : D} {ds rest : List D} (h : lcLoop tg c e Γ (d :: ds) = .ok rest) :
    ∃ Γ1 b ys zs, asgn tg d Γ = .ok Γ1 ∧ c Γ1 = .ok b ∧ (b = true → ∃ y, e Γ1 = .ok y ∧ ys = [y]) ∧ (b = false → ys = []) ∧ lcLoop tg c e Γ ds = .ok zs ∧ rest = ys ++ zs := by
  unfold lcLoop at h
  cases h1 : lcTurn tg c e Γ d with
  | bad => rw [h1] at h; cases h
  | ex C => rw [h1] at h; cases h
  | ok ys =>
    rw [h1, R.bind_ok] at h
    cases h2 : lcLoop tg c e Γ ds with
    | bad => rw [h2] at h; cases h
    | ex C => rw [h2] at h; cases h
    | ok zs =>
      rw [h2, R.bind_ok] at h
      unfold lcTurn at h1
      have h3 := noX_inv h1
      cases ha : asgn tg d Γ with
      | bad => rw [ha] at h3; cases h3
      | ex C => rw [ha] at h3; cases h3
      | ok Γ1 =>
        rw [ha, R.bind_ok] at h3
        cases hc : c Γ1 with
        | bad => rw [hc] at h3; cases h3
        | ex C => rw [hc] at h3; cases h3
        | ok b =>
          rw [hc, R.bind_ok] at h3
          refine ⟨Γ1, b, ys, zs, rfl, hc, fun hb => ?_, fun hb => ?_, rfl, (R.ok.inj h).symm⟩
          · rw [if_pos hb] at h3
            cases he : e Γ1 with
            | bad => rw [he] at h3; cases h3
            | ex C => rw [he] at h3; cases h3
            | ok y =>
              rw [he, R.bind_ok] at h3
              exact ⟨y, rfl, (R.ok.inj h3).symm⟩
          · subst hb
            rw [if_neg Bool.false_ne_true] at h3
            exact (R.ok.inj h3).symm
abbrev X0 : XK := fun _ _ _ => False
section
variable {K : Fg} {E : XK}
theorem tLc_of {it : Gm → R (List D)} {T : Tg} {c : Gm → R Bool} {e : Gm → R D} {vs : List Nat} (hT : ∀ i ∈ idx T, i ∈ vs) {σ : Sg} {H : Hp} {Q : VK} (h : tL K E (eLc it T c e vs) σ H Q) :
    tLc (tI K E it) (tgD K T) (tT K X0 c) (tE K X0 e) vs σ H Q := by
  obtain ⟨B0, H0, Γ, B, s, fin⟩ := h
  refine ⟨B0, H0, Γ, B, s, ?_⟩
  replace fin : Fin (PostL K Q) E B H (it Γ >>= fun ds => lcLoop T c e (wipeG Γ vs) ds >>= mkL) := fin
  cases hi : it Γ with
  | bad => rw [hi] at fin; exact fin
  | ex C => rw [hi] at fin; exact fin
  | ok ds =>
    rw [hi, R.bind_ok] at fin
    intro J B1 H1 g1 ok1 Dd hD
    have fin1 := Fin.grow PostL.clo fin g1
    have s1 := (s.grow g1).wiped vs
    cases hl : lcLoop T c e (wipeG Γ vs) ds with
    | bad => rw [hl] at fin1; exact fin1.elim
    | ex C => exact absurd hl (lcLoop_noex _ _ _ _ _ _)
    | ok ys =>
      rw [hl, R.bind_ok] at fin1
      obtain ⟨hz, pq⟩ := mkL_fin (K := K) fin1
      let W : Nat → Nat → Hp → Prop := fun i m H' => m = ds.length - i ∧ i ≤ ds.length ∧ ∃ B' acc dacc rest, Gro B1 H1 B' H' ∧ B' Dd = none ∧ H' Dd = some (.lst acc) ∧ RpAll K B' acc dacc ∧ lcLoop T c e (wipeG Γ vs) (ds.drop i) = .ok rest ∧ dacc ++ rest = ys
      refine ⟨W, ⟨ds.length, by simp, Nat.zero_le _, B1, [], [], ys, Gro.apart s1.bh hD, fresh_back s1.bh hD, upd_same, .nil, by simpa using hl, rfl⟩, ?_⟩
      rintro i m H' ⟨rfl, hi, B', acc, dacc, rest, g', nD, eD, ra, hr, hy⟩
      have exB : Ex B1 H' := g'.b.trans g'.bh
      by_cases hlt : i < ds.length
      · refine .inr ⟨ok1.goes i H' exB hlt, fun H'' => ∃ m', m' < ds.length - i ∧ W (i + 1) m' H'', fun _ z => z, fun x H2 y => ?_⟩
        have hd : ds[i]? = some ds[i] := by simp [hlt]
        obtain ⟨B2, g2, rx⟩ := ok1.yields i B' H' x H2 _ g'.b g'.bh hd y
        rw [List.drop_eq_getElem_cons hlt] at hr
        obtain ⟨Γ1, b, ys1, zs, ha, hc, hb1, hb2, hr2, e2⟩ := lcLoop_cons hr
        have g12 := g'.trans g2
        refine ⟨B0, H0, wipeG Γ vs, B2, ds[i], Γ1, s1.grow g12, rx, ha, fun σ2 s2 o2 => ⟨wipe_off o2 hT, ?_⟩⟩
        refine ⟨B0, H0, Γ1, B2, s2, ?_⟩
        rw [hc]
        rintro v B3 H3 g3 (rfl : v = b)
        have nD3 : B3 Dd = none := (g2.trans g3).new Dd _ nD eD rfl
        have eD3 : H3 Dd = some (.lst acc) := (g2.trans g3).h Dd _ eD
        have next : ∀ (B4 H4 : Hp) (acc' : List V) (dacc' : List D), Gro B3 H3 B4 H4 → RpAll K B4 acc' dacc' → dacc' ++ zs = ys → B4 Dd = none → ∀ H5, (H5 Dd = some (.lst acc') ∧ (H5 = H4 ∨ H5 = upd H4 Dd (.lst acc'))) → ∃ m', m' < ds.length - i ∧ W (i + 1) m' H5 := fun B4 H4 acc' dacc' g4 r4 e4 n4 H5 ⟨h5, h6⟩ => by
          refine ⟨ds.length - (i + 1), by omega, rfl, hlt, B4, acc', dacc', zs, ?_, n4, h5, r4, hr2, e4⟩
          have g14 := (g12.trans g3).trans g4
          rcases h6 with h6 | h6
          · subst h6; exact g14
          · subst h6
            exact ⟨g14.b, g14.bh.mut n4, g14.h.mut hD, g14.new⟩
        cases v with
        | false =>
          show ∃ m', m' < ds.length - i ∧ W (i + 1) m' H3
          have e3 := hb2 rfl
          subst e3
          exact next B3 H3 acc dacc (Gro.refl ((g12.trans g3).bh)) (ra.mono (g2.b.trans g3.b)) (by rw [← hy, e2, List.nil_append]) nD3 H3 ⟨eD3, .inl rfl⟩
        | true =>
          obtain ⟨y, hy1, e3⟩ := hb1 rfl
          subst e3
          refine ⟨B0, H0, Γ1, B3, s2.grow g3, ?_⟩
          rw [hy1]
          intro v B4 H4 g4 r4
          have n4 : B4 Dd = none := g4.new Dd _ nD3 eD3 rfl
          have ra4 : RpAll K B4 acc dacc := ra.mono (g2.b.trans (g3.b.trans g4.b))
          refine ⟨acc, g4.h Dd _ eD3, ?_, next B4 H4 (acc ++ [v]) (dacc ++ [y]) g4 (ra4.append (RpAll.one r4)) (by rw [← hy, e2, List.append_assoc]) n4 _ ⟨upd_same, .inr rfl⟩⟩
          have l1 := ra.length
          have l2 : ys.length = dacc.length + ([y] ++ zs).length := by rw [← hy, e2, List.length_append]
          rw [List.length_append, List.length_singleton] at l2
          omega
      · have ei : i = ds.length := by omega
        subst ei
        rw [List.drop_length] at hr
        have hr' : rest = [] := (R.ok.inj hr).symm
        subst hr'
        rw [List.append_nil] at hy
        subst hy
        exact .inl ⟨ok1.stops H' exB, pq Dd acc B' H' g' nD hD eD ra⟩
/-! a new list of new lists -/
def lc2Turn (tg : Tg) (e : Gm → R (List D)) (Γ : Gm) (d : D) : R (List D) := noX (asgn tg d Γ >>= fun Γ1 => e Γ1)
def lc2Loop (tg : Tg) (e : Gm → R (List D)) (Γ : Gm) : List D → R (List (List D))
  | [] => .ok []
  | d :: ds => lc2Turn tg e Γ d >>= fun y => lc2Loop tg e Γ ds >>= fun zs => .ok (y :: zs)
def mkL2 (dss : List (List D)) : R (List (List D)) := if dss.length ≤ 16777216 then .ok dss else .bad
def eLc2 (it : Gm → R (List D)) (tg : Tg) (e : Gm → R (List D)) (vs : List Nat) : Gm → R (List (List D)) := fun Γ => it Γ >>= fun ds => lc2Loop tg e (wipeG Γ vs) ds >>= mkL2
theorem lc2Turn_noex (tg : Tg) (e : Gm → R (List D)) (Γ : Gm) (d : D) (C : Addr) : lc2Turn tg e Γ d ≠ .ex C := by
  unfold lc2Turn noX
  split <;> exact fun z => nomatch z
theorem lc2Loop_noex (tg : Tg) (e : Gm → R (List D)) (Γ : Gm) (C : Addr) : ∀ ds : List D, lc2Loop tg e Γ ds ≠ .ex C
  | [] => fun z => nomatch z
  | d :: ds => by
    unfold lc2Loop
    cases h : lc2Turn tg e Γ d with
    | bad => exact fun z => nomatch z
    | ex C' => exact absurd h (lc2Turn_noex tg e Γ d C')
    | ok ys =>
      rw [R.bind_ok]
      cases h2 : lc2Loop tg e Γ ds with
      | bad => exact fun z => nomatch z
      | ex C' => exact absurd h2 (lc2Loop_noex tg e Γ C' ds)
      | ok zs => exact fun z => nomatch z
theorem lc2Loop_cons {tg : Tg} {e : Gm → R (List D)} {Γ : Gm} {d : D} {ds : List D} {rest : List (List D)} (h : lc2Loop tg e Γ (d :: ds) = .ok rest) :
    ∃ Γ1 y zs, asgn tg d Γ = .ok Γ1 ∧ e Γ1 = .ok y ∧ lc2Loop tg e Γ ds = .ok zs ∧ rest = y :: zs := by
  unfold lc2Loop at h
  cases h1 : lc2Turn tg e Γ d with
  | bad => rw [h1] at h; cases h
  | ex C => rw [h1] at h; cases h
  | ok ys =>
    rw [h1, R.bind_ok] at h
    cases h2 : lc2Loop tg e Γ ds with
    | bad => rw [h2] at h; cases h
    | ex C => rw [h2] at h; cases h
    | ok zs =>
      rw [h2, R.bind_ok] at h
      unfold lc2Turn at h1
      have h3 := noX_inv h1
      cases ha : asgn tg d Γ with
      | bad => rw [ha] at h3; cases h3
      | ex C => rw [ha] at h3; cases h3
      | ok Γ1 =>
        rw [ha, R.bind_ok] at h3
        exact ⟨Γ1, ys, zs, rfl, h3, rfl, (R.ok.inj h).symm⟩
theorem paired_length {α β : Type} {F : α → β → Prop} : ∀ {as : List α} {bs : List β}, Paired F as bs → as.length = bs.length
  | _, _, .nil => rfl
  | _, _, .cons _ t => by rw [List.length_cons, List.length_cons, paired_length t]
theorem paired_append {α β : Type} {F : α → β → Prop} {a : α} {b : β} (r : F a b) : ∀ {as : List α} {bs : List β}, Paired F as bs → Paired F (as ++ [a]) (bs ++ [b])
  | _, _, .nil => .cons r .nil
  | _, _, .cons x t => .cons x (paired_append r t)
theorem paired_keep {B H B' H' : Hp} (eB : Ex B B') : ∀ {as : List Addr} {dss : List (List D)}, (∀ a ∈ as, ∀ o, H a = some o → H' a = some o) → Paired (fun b ds => ∃ vs, H b = some (.lst vs) ∧ RpAll K B vs ds) as dss → Paired (fun b ds => ∃ vs, H' b = some (.lst vs) ∧ RpAll K B' vs ds) as dss
  | _, _, _, .nil => .nil
  | _, _, eH, .cons ⟨vs, e, r⟩ t => .cons ⟨vs, eH _ List.mem_cons_self _ e, r.mono eB⟩ (paired_keep eB (fun a ha => eH a (List.mem_cons_of_mem _ ha)) t)
theorem tLc2_of {it : Gm → R (List D)} {T : Tg} {e : Gm → R (List D)} {vs : List Nat} (hT : ∀ i ∈ idx T, i ∈ vs) {σ : Sg} {H : Hp} {Q : VK} (h : tL2 K E (eLc2 it T e vs) σ H Q) :
    tLc (tI K E it) (tgD K T) tYes (tL K X0 e) vs σ H Q := by
  obtain ⟨B0, H0, Γ, B, s, fin⟩ := h
  refine ⟨B0, H0, Γ, B, s, ?_⟩
  replace fin : Fin (PostL2 K Q) E B H (it Γ >>= fun ds => lc2Loop T e (wipeG Γ vs) ds >>= mkL2) := fin
  cases hi : it Γ with
  | bad => rw [hi] at fin; exact fin
  | ex C => rw [hi] at fin; exact fin
  | ok ds =>
    rw [hi, R.bind_ok] at fin
    intro J B1 H1 g1 ok1 Dd hD
    have fin1 := Fin.grow PostL2.clo fin g1
    have s1 := (s.grow g1).wiped vs
    cases hl : lc2Loop T e (wipeG Γ vs) ds with
    | bad => rw [hl] at fin1; exact fin1.elim
    | ex C => exact absurd hl (lc2Loop_noex _ _ _ _ _)
    | ok ys =>
      rw [hl, R.bind_ok] at fin1
      obtain ⟨hz, pq⟩ : ys.length ≤ sizeLine ∧ PostL2 K Q B1 H1 ys := by
        unfold mkL2 at fin1
        split at fin1
        · rename_i h; exact ⟨szl h, fin1⟩
        · exact fin1.elim
      let W : Nat → Nat → Hp → Prop := fun i m H' => m = ds.length - i ∧ i ≤ ds.length ∧ ∃ B' as dss rest, Gro B1 H1 B' H' ∧ (Dd :: as).Nodup ∧ (∀ a ∈ Dd :: as, B' a = none ∧ H1 a = none) ∧ H' Dd = some (.lst (as.map V.ref)) ∧
        Paired (fun b ds => ∃ vs, H' b = some (.lst vs) ∧ RpAll K B' vs ds) as dss ∧ lc2Loop T e (wipeG Γ vs) (ds.drop i) = .ok rest ∧ dss ++ rest = ys
      refine ⟨W, ⟨ds.length, by simp, Nat.zero_le _, B1, [], [], ys, Gro.apart s1.bh hD, by simp, fun a ha => by rw [List.mem_singleton.mp ha]; exact ⟨fresh_back s1.bh hD, hD⟩, upd_same, .nil, by simpa using hl, rfl⟩, ?_⟩
      rintro i m H' ⟨rfl, hi, B', as, dss, rest, g', nd, nA, eD, pa, hr, hy⟩
      have exB : Ex B1 H' := g'.b.trans g'.bh
      by_cases hlt : i < ds.length
      · refine .inr ⟨ok1.goes i H' exB hlt, fun H'' => ∃ m', m' < ds.length - i ∧ W (i + 1) m' H'', fun _ z => z, fun x H2 y => ?_⟩
        have hd : ds[i]? = some ds[i] := by simp [hlt]
        obtain ⟨B2, g2, rx⟩ := ok1.yields i B' H' x H2 _ g'.b g'.bh hd y
        rw [List.drop_eq_getElem_cons hlt] at hr
        obtain ⟨Γ1, y1, zs, ha, he, hr2, e2⟩ := lc2Loop_cons hr
        have g12 := g'.trans g2
        refine ⟨B0, H0, wipeG Γ vs, B2, ds[i], Γ1, s1.grow g12, rx, ha, fun σ2 s2 o2 => ⟨wipe_off o2 hT, ?_⟩⟩
        show tL K X0 e σ2 H2 _
        refine ⟨B0, H0, Γ1, B2, s2, ?_⟩
        rw [he]
        intro p us B3 H3 g3 n3 nH3 e3 r3
        have g13 := g12.trans g3
        have old : ∀ a ∈ Dd :: as, ∃ xs, H' a = some (.lst xs) := fun a ha => by
          rcases List.mem_cons.mp ha with q | q
          · rw [q]; exact ⟨_, eD⟩
          · clear hr nd nA eD hy ha
            induction pa with
            | nil => cases q
            | cons r t ih =>
              rcases List.mem_cons.mp q with z | z
              · rw [z]; obtain ⟨vs, e, _⟩ := r; exact ⟨_, e⟩
              · exact ih z
        have pne : ∀ a ∈ Dd :: as, p ≠ a := fun a ha z => by
          subst z
          obtain ⟨xs, q⟩ := old p ha
          rw [g2.h p _ q] at nH3
          cases nH3
        have hpD : p ≠ Dd := pne Dd List.mem_cons_self
        refine ⟨as.map V.ref, (g2.trans g3).h Dd _ eD, ?_, ?_⟩
        · have l1 := paired_length pa
          have l2 : ys.length = dss.length + (y1 :: zs).length := by rw [← hy, e2, List.length_append]
          rw [List.length_cons] at l2
          rw [List.length_map]
          omega
        · refine ⟨ds.length - (i + 1), by omega, rfl, hlt, B3, as ++ [p], dss ++ [y1], zs, ?_, ?_, ?_, ?_, ?_, hr2, by rw [← hy, e2, List.append_assoc] <;> rfl⟩
          · have nD3 : B3 Dd = none := (g2.trans g3).new Dd _ (nA Dd List.mem_cons_self).1 eD rfl
            exact ⟨g13.b, g13.bh.mut nD3, g13.h.mut hD, g13.new⟩
          · rw [← List.cons_append]
            refine List.nodup_append.mpr ⟨nd, by simp, fun a ha b hb => ?_⟩
            rw [List.mem_singleton.mp hb]
            exact (pne a ha).symm
          · intro a ha
            rw [← List.cons_append] at ha
            rcases List.mem_append.mp ha with q | q
            · obtain ⟨xs, h⟩ := old a q
              exact ⟨(g2.trans g3).new a _ (nA a q).1 h rfl, (nA a q).2⟩
            · rw [List.mem_singleton.mp q]
              exact ⟨n3, fresh_back (g'.h.trans g2.h) nH3⟩
          · rw [upd_same, List.map_append]
            rfl
          · refine paired_append ⟨us, by rw [upd_ne hpD]; exact e3, r3⟩ (paired_keep (g2.b.trans g3.b) (fun a ha o q => ?_) pa)
            have : a ≠ Dd := fun z => by
              subst z
              exact (List.nodup_cons.mp nd).1 ha
            rw [upd_ne this]
            exact (g2.trans g3).h a _ q
      · have ei : i = ds.length := by omega
        subst ei
        rw [List.drop_length] at hr
        have hr' : rest = [] := (R.ok.inj hr).symm
        subst hr'
        rw [List.append_nil] at hy
        subst hy
        exact .inl ⟨ok1.stops H' exB, pq Dd as B' H' g' nd (fun a ha => nA a ha) eD pa⟩
end
section
variable {X : Cx} {E : XK} {elt tg iter : Expr} {ifs : List Expr} {scope : Scope} {own : List (Str × Nat)} {pos : Pos} {it : Gm → R (List D)} {T : Tg} {c : Gm → R Bool} {e : Gm → R D} {e' : Gm → R (List D)}
theorem PTs.weak {X : Cx} {ifs : List Expr} {t t' : TT} (h : PTs X ifs t) (w : ∀ σ H Q, t' σ H Q → t σ H Q) : PTs X ifs t' := ⟨fun pins s σ H Q I q => h.run pins s σ H Q I (w σ H Q q)⟩
abbrev JTs (X : Cx) (E : XK) (ifs : List Expr) (c : Gm → R Bool) : Prop := PTs X ifs (tT X.K E c)
theorem jts_nil : JTs X E [] cYes := PTs.weak pts_nil fun σ H Q ⟨B0, H0, Γ, B, s, fin⟩ => Post.here fin s.bh rfl
theorem jts_one {a : Expr} {t : Gm → R Bool} (h : JT X E a t) : JTs X E [a] t := pts_one h
theorem jl_lc (hc : X.calm = true) (hN : X.N.Nodup) (hi : JI X E tg iter it) (ok : BlkOk X.N X.env.scope scope own) (hg : ∀ (s : Shared) (H : Hp) (C : Addr) (cl : List (Str × Addr)) (fp : List Addr), JG (X.blk s H scope (compEnvC scope cl C X.env) fp) tg T)
    (ht : ∀ (s : Shared) (H : Hp) (C : Addr) (cl : List (Str × Addr)) (fp : List Addr), JTs (X.blk s H scope (compEnvC scope cl C X.env) fp) X0 ifs c) (he : ∀ (s : Shared) (H : Hp) (C : Addr) (cl : List (Str × Addr)) (fp : List Addr), JE (X.blk s H scope (compEnvC scope cl C X.env) fp) X0 elt e)
    (hT : ∀ i ∈ idx T, i ∈ own.map (·.2) := by decide) (hs : ∀ x, foldedSetIterable iter X.env x = pure x := by intro _; rfl) : JL X E (.ListComp elt [⟨tg, iter, ifs, 0⟩] scope pos) (eLc it T c e (own.map (·.2))) :=
  PE.weak (pe_lc hc hN hi ok hg ht he hs) fun σ H Q q => tLc_of hT q
theorem jl2_lc (hc : X.calm = true) (hN : X.N.Nodup) (hi : JI X E tg iter it) (ok : BlkOk X.N X.env.scope scope own) (hg : ∀ (s : Shared) (H : Hp) (C : Addr) (cl : List (Str × Addr)) (fp : List Addr), JG (X.blk s H scope (compEnvC scope cl C X.env) fp) tg T)
    (he : ∀ (s : Shared) (H : Hp) (C : Addr) (cl : List (Str × Addr)) (fp : List Addr), JL (X.blk s H scope (compEnvC scope cl C X.env) fp) X0 elt e')
    (hT : ∀ i ∈ idx T, i ∈ own.map (·.2) := by decide) (hs : ∀ x, foldedSetIterable iter X.env x = pure x := by intro _; rfl) : JL2 X E (.ListComp elt [⟨tg, iter, [], 0⟩] scope pos) (eLc2 it T e' (own.map (·.2))) :=
  PE.weak (pe_lc hc hN hi ok hg (fun _ _ _ _ _ => pts_nil) he hs) fun σ H Q q => tLc2_of hT q
end
end DL

/-! The data layer: statements. -/
namespace DL
open PySem PySem.Spec PyProof.Rows L2

/-! ### a value for a slot -/
/-- what stands for a slot's content, behind a step from H to (B', H') -/
def SlotEv (K : Fg) (H B' H' : Hp) (v : V) : Slot → Prop
  | .no => False
  | .fr d => Rp K B' v d
  | .ow o => ∃ fp, OwnOk K B' H' v fp o ∧ fp.Nodup ∧ ∀ a ∈ fp, B' a = none ∧ H a = none
theorem SlotEv.keep {K : Fg} {H B' H' B2 H2 : Hp} {v : V} {S : Slot} (h : SlotEv K H B' H' v S) (g : Gro B' H' B2 H2) : SlotEv K H B2 H2 v S := by
  cases S with
  | no => exact h
  | fr d => exact Rp.mono g.b h
  | ow o =>
    obtain ⟨fp, ok, nd, n⟩ := h
    refine ⟨fp, ok.keep g.b fun a _ o' q => g.h a o' q, nd, fun a ha => ?_⟩
    obtain ⟨xs, q⟩ := ok.there a ha
    exact ⟨g.new a _ (n a ha).1 q rfl, (n a ha).2⟩
theorem SlotEv.back {K : Fg} {H0 H B' H' : Hp} {v : V} {S : Slot} (h : SlotEv K H B' H' v S) (e : Ex H0 H) : SlotEv K H0 B' H' v S := by
  cases S with
  | no => exact h
  | fr d => exact h
  | ow o =>
    obtain ⟨fp, ok, nd, n⟩ := h
    exact ⟨fp, ok, nd, fun a ha => ⟨(n a ha).1, fresh_back e (n a ha).2⟩⟩
def PostS (K : Fg) (Q : VK) : Hp → Hp → Slot → Prop := fun B H S => ∀ v B' H', Gro B H B' H' → SlotEv K H B' H' v S → Q v H'
theorem PostS.clo {K : Fg} {Q : VK} : Clo (PostS K Q) := fun _ _ _ _ _ h g v B2 H2 g2 r => h v B2 H2 (g.trans g2) (r.back g.h)
def tX (K : Fg) (E : XK) (f : Gm → R Slot) : TE := fun σ H Q => tP K (PostS K Q) E f σ H
abbrev JX (X : Cx) (E : XK) (e : Expr) (f : Gm → R Slot) : Prop := PE X e (tX X.K E f)
def xFr (f : Gm → R D) : Gm → R Slot := fun Γ => f Γ >>= fun d => .ok (.fr d)
def xL (f : Gm → R (List D)) : Gm → R Slot := fun Γ => f Γ >>= fun ds => .ok (.ow (.l1 ds))
def xL2 (f : Gm → R (List (List D))) : Gm → R Slot := fun Γ => f Γ >>= fun ds => .ok (.ow (.l2 ds))
section
variable {α β γ : Type} {K : Fg} {E : XK}
theorem Fin.map {P : Hp → Hp → γ → Prop} {P' : Hp → Hp → α → Prop} {r : R α} {k : α → γ} {B H : Hp} (fin : Fin P E B H (r >>= fun d => .ok (k d))) (w : ∀ d, P B H (k d) → P' B H d) : Fin P' E B H r := by
  cases r with
  | bad => exact fin
  | ex C => exact fin
  | ok d => exact w d fin
theorem tX_fr {f : Gm → R D} {σ : Sg} {H : Hp} {Q : VK} (h : tX K E (xFr f) σ H Q) : tE K E f σ H Q := by
  obtain ⟨B0, H0, Γ, B, s, fin⟩ := h
  exact ⟨B0, H0, Γ, B, s, Fin.map fin fun d q v B' H' g r => q v B' H' g r⟩
theorem tX_L {f : Gm → R (List D)} {σ : Sg} {H : Hp} {Q : VK} (h : tX K E (xL f) σ H Q) : tL K E f σ H Q := by
  obtain ⟨B0, H0, Γ, B, s, fin⟩ := h
  refine ⟨B0, H0, Γ, B, s, Fin.map fin fun ds q p vs B' H' g n1 n2 e r => q (.ref p) B' H' g ⟨[p], ⟨p, vs, rfl, rfl, e, r⟩, by simp, fun a ha => ?_⟩⟩
  rw [List.mem_singleton.mp ha]
  exact ⟨n1, n2⟩
theorem tX_L2 {f : Gm → R (List (List D))} {σ : Sg} {H : Hp} {Q : VK} (h : tX K E (xL2 f) σ H Q) : tL2 K E f σ H Q := by
  obtain ⟨B0, H0, Γ, B, s, fin⟩ := h
  exact ⟨B0, H0, Γ, B, s, Fin.map fin fun ds q p as B' H' g nd n e r => q (.ref p) B' H' g ⟨p :: as, ⟨p, as, rfl, rfl, e, r⟩, nd, n⟩⟩
variable {X : Cx} {e : Expr}
theorem jx_fr {f : Gm → R D} (h : JE X E e f) : JX X E e (xFr f) := PE.weak h fun _ _ _ q => tX_fr q
theorem jx_l {f : Gm → R (List D)} (h : JL X E e f) : JX X E e (xL f) := PE.weak h fun _ _ _ q => tX_L q
theorem jx_l2 {f : Gm → R (List (List D))} (h : JL2 X E e f) : JX X E e (xL2 f) := PE.weak h fun _ _ _ q => tX_L2 q
end
/-- a value is laid into a slot -/
theorem StOk.put {K : Fg} {B0 H0 B H B' H' : Hp} {Γ : Gm} {σ : Sg} {v : V} {S : Slot} (s : StOk K B0 H0 Γ B H σ) (g : Gro B H B' H') (ev : SlotEv K H B' H' v S) (i : Nat) : StOk K B0 H0 (Γ.set i S) B' H' (σ.set i (some v)) := by
  have s' := s.grow g
  cases S with
  | no => exact ev.elim
  | fr d => exact s'.set ev i
  | ow o =>
    obtain ⟨fp, ok, nd, n⟩ := ev
    have hl := s.len
    have off : ∀ {j : Nat} {S : Slot}, (Γ.set i (.ow o))[j]? = some S → i ≠ j → Γ[j]? = some S := fun {j S} e q => by
      rw [List.getElem?_set_ne q] at e
      exact e
    have on : ∀ {S : Slot}, (Γ.set i (.ow o))[i]? = some S → S = .ow o ∧ i < Γ.length := fun {S} e => by
      by_cases hi : i < Γ.length
      · rw [List.getElem?_set_self hi] at e
        exact ⟨(Option.some.inj e).symm, hi⟩
      · rw [List.getElem?_eq_none (by rw [List.length_set]; omega)] at e
        cases e
    obtain ⟨fq, h1, h2⟩ := s.ow
    have old : ∀ (j : Nat) o' a, Γ[j]? = some (.ow o') → a ∈ fq j → ∃ xs, H a = some (.lst xs) := fun j o' a e ha => by
      obtain ⟨⟨v', _, ok'⟩, _⟩ := h1 j o' e
      exact ok'.there a ha
    obtain ⟨F, Fi, Fj⟩ : ∃ F : Nat → List Addr, F i = fp ∧ ∀ j, j ≠ i → F j = fq j := ⟨fun j => if j = i then fp else fq j, if_pos rfl, fun j h => if_neg h⟩
    refine ⟨s'.gro, by rw [List.length_set, List.length_set]; exact hl, fun j d e => ?_, F, fun j o' e => ?_, fun j k o1 o2 a e1 e2 m1 m2 => ?_⟩
    · by_cases q : i = j
      · subst q
        cases (on e).1
      · rw [List.getElem?_set_ne q]
        exact s'.fr j d (off e q)
    · by_cases q : i = j
      · subst q
        obtain ⟨e1, hi⟩ := on e
        cases e1
        refine ⟨⟨v, List.getElem?_set_self (by omega), by rw [Fi]; exact ok⟩, by rw [Fi]; exact nd, fun a ha => ?_⟩
        rw [Fi] at ha
        exact ⟨(n a ha).1, fresh_back s.gro.h (n a ha).2⟩
      · have qj : ¬ j = i := fun z => q z.symm
        rw [Fj j qj, List.getElem?_set_ne q]
        obtain ⟨⟨v', ev', ok'⟩, nd', n'⟩ := h1 j o' (off e q)
        refine ⟨⟨v', ev', ok'.keep g.b fun a _ o'' z => g.h a o'' z⟩, nd', fun a ha => ?_⟩
        obtain ⟨xs, z⟩ := ok'.there a ha
        exact ⟨g.new a _ (n' a ha).1 z rfl, (n' a ha).2⟩
    · by_cases q1 : i = j
      · by_cases q2 : i = k
        · exact q1.symm.trans q2
        · have qk : ¬ k = i := fun z => q2 z.symm
          subst q1
          rw [Fi] at m1
          rw [Fj k qk] at m2
          obtain ⟨xs, z⟩ := old k o2 a (off e2 q2) m2
          rw [(n a m1).2] at z
          cases z
      · have qj : ¬ j = i := fun z => q1 z.symm
        rw [Fj j qj] at m1
        by_cases q2 : i = k
        · subst q2
          rw [Fi] at m2
          obtain ⟨xs, z⟩ := old j o1 a (off e1 q1) m1
          rw [(n a m2).2] at z
          cases z
        · have qk : ¬ k = i := fun z => q2 z.symm
          rw [Fj k qk] at m2
          exact h2 j k o1 o2 a (off e1 q1) (off e2 q2) m1 m2
/-- an own list is changed -/
theorem StOk.chg1 {K : Fg} {B0 H0 B H : Hp} {Γ : Gm} {σ : Sg} {i : Nat} {ds : List D} (s : StOk K B0 H0 Γ B H σ) (h : Γ[i]? = some (.ow (.l1 ds))) :
    ∃ a vs, σ[i]? = some (some (.ref a)) ∧ H a = some (.lst vs) ∧ RpAll K B vs ds ∧ ∀ vs' ds', RpAll K B vs' ds' → StOk K B0 H0 (Γ.set i (.ow (.l1 ds'))) B (upd H a (.lst vs')) σ := by
  obtain ⟨fq, h1, h2⟩ := id s.ow
  obtain ⟨⟨v, ev, a, vs, rfl, efp, eH, r⟩, nd, n⟩ := h1 i _ h
  have na := n a (by rw [efp]; exact List.mem_singleton.mpr rfl)
  refine ⟨a, vs, ev, eH, r, fun vs' ds' r' => ?_⟩
  have hi : i < Γ.length := (List.getElem?_eq_some_iff.mp h).1
  refine ⟨⟨s.gro.b, s.gro.bh.mut na.1, s.gro.h.mut na.2, s.gro.new⟩, by rw [List.length_set]; exact s.len, fun j d e => ?_, fq, fun j o' e => ?_, fun j k o1 o2 b e1 e2 m1 m2 => ?_⟩
  · by_cases q : i = j
    · subst q
      rw [List.getElem?_set_self hi] at e
      cases e
    · rw [List.getElem?_set_ne q] at e
      exact s.fr j d e
  · by_cases q : i = j
    · subst q
      rw [List.getElem?_set_self hi] at e
      cases e
      exact ⟨⟨.ref a, ev, a, vs', rfl, efp, upd_same, r'⟩, nd, n⟩
    · rw [List.getElem?_set_ne q] at e
      obtain ⟨⟨v', ev', ok'⟩, nd', n'⟩ := h1 j o' e
      refine ⟨⟨v', ev', ok'.keep (Ex.refl B) fun b hb o'' z => ?_⟩, nd', n'⟩
      have : b ≠ a := fun z => by
        subst z
        exact q (h2 i j _ _ b h e (by rw [efp]; exact List.mem_singleton.mpr rfl) hb)
      rw [upd_ne this]
      exact z
  · have own : ∀ {j : Nat} {o : Own}, (Γ.set i (.ow (.l1 ds')))[j]? = some (.ow o) → ∃ o', Γ[j]? = some (.ow o') := fun {j o} e => by
      by_cases q : i = j
      · subst q; exact ⟨_, h⟩
      · rw [List.getElem?_set_ne q] at e; exact ⟨_, e⟩
    obtain ⟨o1', e1'⟩ := own e1
    obtain ⟨o2', e2'⟩ := own e2
    exact h2 j k o1' o2' b e1' e2' m1 m2
/-- an own list of lists: one of its lists is changed -/
theorem paired_upd {K : Fg} {B H : Hp} {b : Addr} {o : HO} : ∀ {as : List Addr} {dss : List (List D)}, b ∉ as → Paired (fun b ds => ∃ vs, H b = some (.lst vs) ∧ RpAll K B vs ds) as dss → Paired (fun c ds => ∃ vs, (upd H b o) c = some (.lst vs) ∧ RpAll K B vs ds) as dss
  | _, _, _, .nil => .nil
  | _, _, hn, .cons ⟨vs, e, r⟩ t => .cons ⟨vs, by rw [upd_ne fun z => hn (by simp [z])]; exact e, r⟩ (paired_upd (fun z => hn (List.mem_cons_of_mem _ z)) t)
theorem paired_set {K : Fg} {B H : Hp} {vs' : List V} {ds' : List D} (r' : RpAll K B vs' ds') {b : Addr} : ∀ {as : List Addr} {dss : List (List D)} {j : Nat}, as.Nodup → as[j]? = some b →
    Paired (fun b ds => ∃ vs, H b = some (.lst vs) ∧ RpAll K B vs ds) as dss → Paired (fun c ds => ∃ vs, (upd H b (.lst vs')) c = some (.lst vs) ∧ RpAll K B vs ds) as (dss.set j ds')
  | _, _, _, _, e, .nil => by simp at e
  | _, _, 0, nd, e, .cons _ t => by
    simp at e
    subst e
    exact .cons ⟨vs', upd_same, r'⟩ (paired_upd (List.nodup_cons.mp nd).1 t)
  | _, _, j + 1, nd, e, .cons ⟨vs, e1, r⟩ t => by
    have e' := e
    simp at e'
    have hm : b ∈ _ := List.mem_of_getElem? e'
    exact .cons ⟨vs, by rw [upd_ne fun z => (List.nodup_cons.mp nd).1 (by rw [z]; exact hm)]; exact e1, r⟩ (paired_set r' (List.nodup_cons.mp nd).2 e' t)
theorem paired_get {α β : Type} {F : α → β → Prop} : ∀ {as : List α} {bs : List β} {j : Nat} {b : β}, Paired F as bs → bs[j]? = some b → ∃ a, as[j]? = some a ∧ F a b
  | _, _, _, _, .nil, e => by simp at e
  | _, _, 0, _, .cons r _, e => by simp at e; subst e; exact ⟨_, rfl, r⟩
  | _, _, j + 1, _, .cons _ t, e => by
    obtain ⟨a, h1, h2⟩ := paired_get t (show _ = some _ by simpa using e)
    exact ⟨a, by simpa using h1, h2⟩
theorem StOk.chg2 {K : Fg} {B0 H0 B H : Hp} {Γ : Gm} {σ : Sg} {i : Nat} {dss : List (List D)} (s : StOk K B0 H0 Γ B H σ) (h : Γ[i]? = some (.ow (.l2 dss))) :
    ∃ (a : Addr) (as : List Addr), σ[i]? = some (some (.ref a)) ∧ H a = some (.lst (as.map V.ref)) ∧ as.length = dss.length ∧ ∀ (j : Nat) ds, dss[j]? = some ds → ∃ b vs, as[j]? = some b ∧ H b = some (.lst vs) ∧ RpAll K B vs ds ∧
      ∀ vs' ds', RpAll K B vs' ds' → StOk K B0 H0 (Γ.set i (.ow (.l2 (dss.set j ds')))) B (upd H b (.lst vs')) σ := by
  obtain ⟨fq, h1, h2⟩ := id s.ow
  obtain ⟨⟨v, ev, a, as, rfl, efp, eH, pr⟩, nd, n⟩ := h1 i _ h
  rw [efp] at nd
  refine ⟨a, as, ev, eH, paired_length pr, fun j ds e => ?_⟩
  obtain ⟨b, hb, vs, eb, r⟩ := paired_get pr e
  refine ⟨b, vs, hb, eb, r, fun vs' ds' r' => ?_⟩
  have hi : i < Γ.length := (List.getElem?_eq_some_iff.mp h).1
  have mb : b ∈ fq i := by rw [efp]; exact List.mem_cons_of_mem _ (List.mem_of_getElem? hb)
  have na := n b mb
  have ab : a ≠ b := fun z => by
    subst z
    exact (List.nodup_cons.mp nd).1 (List.mem_of_getElem? hb)
  refine ⟨⟨s.gro.b, s.gro.bh.mut na.1, s.gro.h.mut na.2, s.gro.new⟩, by rw [List.length_set]; exact s.len, fun k d e => ?_, fq, fun k o' e => ?_, fun j' k o1 o2 c e1 e2 m1 m2 => ?_⟩
  · by_cases q : i = k
    · subst q
      rw [List.getElem?_set_self hi] at e
      cases e
    · rw [List.getElem?_set_ne q] at e
      exact s.fr k d e
  · by_cases q : i = k
    · subst q
      rw [List.getElem?_set_self hi] at e
      cases e
      exact ⟨⟨.ref a, ev, a, as, rfl, efp, by rw [upd_ne ab]; exact eH, paired_set r' (List.nodup_cons.mp nd).2 hb pr⟩, by rw [efp]; exact nd, n⟩
    · rw [List.getElem?_set_ne q] at e
      obtain ⟨⟨v', ev', ok'⟩, nd', n'⟩ := h1 k o' e
      refine ⟨⟨v', ev', ok'.keep (Ex.refl B) fun c hc o'' z => ?_⟩, nd', n'⟩
      have : c ≠ b := fun z => by
        subst z
        exact q (h2 i k _ _ c h e mb hc)
      rw [upd_ne this]
      exact z
  · have own : ∀ {k : Nat} {o : Own}, (Γ.set i (.ow (.l2 (dss.set j ds'))))[k]? = some (.ow o) → ∃ o', Γ[k]? = some (.ow o') := fun {k o} e => by
      by_cases q : i = k
      · subst q; exact ⟨_, h⟩
      · rw [List.getElem?_set_ne q] at e; exact ⟨_, e⟩
    obtain ⟨o1', e1'⟩ := own e1
    obtain ⟨o2', e2'⟩ := own e2
    exact h2 j' k o1' o2' c e1' e2' m1 m2

/-! ### what a statement gives -/
inductive O where
  | nx (Γ : Gm)
  | rt (d : D)
  | bk (Γ : Gm)
  | ct (Γ : Gm)
/-- B: what was known at the start is known -/
def FinO (K : Fg) (B0 H0 B : Hp) (Z : Ends) : O → Prop
  | .nx Γ => ∀ σ B' H, StOk K B0 H0 Γ B' H σ → Ex B B' → Z.nx σ H
  | .bk Γ => ∀ σ B' H, StOk K B0 H0 Γ B' H σ → Ex B B' → Z.bk σ H
  | .ct Γ => ∀ σ B' H, StOk K B0 H0 Γ B' H σ → Ex B B' → Z.ct σ H
  | .rt d => ∀ v B' H, Gro B0 H0 B' H → Rp K B' v d → Z.rt v H
def FinS (K : Fg) (E : XK) (B0 H0 B : Hp) (Z : Ends) : R O → Prop
  | .bad => False
  | .ok o => FinO K B0 H0 B Z o
  | .ex C => ∀ B' H, Gro B0 H0 B' H → E (.ref C) none H
theorem FinS.mono {K : Fg} {E : XK} {B0 H0 B B1 : Hp} {Z : Ends} {r : R O} (h : FinS K E B0 H0 B Z r) (e : Ex B B1) : FinS K E B0 H0 B1 Z r := by
  cases r with
  | bad => exact h
  | ex C => exact h
  | ok o =>
    cases o with
    | nx Γ => exact fun σ B' H s e' => h σ B' H s (e.trans e')
    | bk Γ => exact fun σ B' H s e' => h σ B' H s (e.trans e')
    | ct Γ => exact fun σ B' H s e' => h σ B' H s (e.trans e')
    | rt d => exact h
def tS (K : Fg) (E : XK) (F : Gm → R O) : TS := fun Z σ H => ∃ B0 H0 Γ B, StOk K B0 H0 Γ B H σ ∧ FinS K E B0 H0 B Z (F Γ)
abbrev JS (X : Cx) (E : XK) (st : Stmt) (F : Gm → R O) : Prop := PS X st (tS X.K E F)
abbrev JSs (X : Cx) (E : XK) (st : List Stmt) (F : Gm → R O) : Prop := PSs X st (tS X.K E F)
section
variable {α β : Type} {K : Fg} {E : XK} {B0 H0 : Hp} {Z : Ends} {Γ : Gm} {B H : Hp} {σ : Sg}
theorem FinS.fin {r : R α} {g : α → R O} (fin : FinS K E B0 H0 B Z (r >>= g)) (gr : Gro B0 H0 B H) {P : Hp → Hp → α → Prop} (q : ∀ d, FinS K E B0 H0 B Z (g d) → P B H d) : Fin P E B H r := by
  cases r with
  | bad => exact fin
  | ex C => exact fun B' H' g' => fin B' H' (gr.trans g')
  | ok d => exact q d fin
theorem tS.bind {rel : Hp → β → α → Prop} {f : Gm → R α} {g : α → R O} (s : StOk K B0 H0 Γ B H σ) (fin : FinS K E B0 H0 B Z (f Γ >>= g)) {Q : β → Hp → Prop}
    (q : ∀ v B1 H1 d, StOk K B0 H0 Γ B1 H1 σ → Gro B H B1 H1 → rel B1 v d → FinS K E B0 H0 B1 Z (g d) → Q v H1) : tP K (Post rel Q) E f σ H :=
  ⟨B0, H0, Γ, B, s, fin.fin s.gro fun d fin' v B1 H1 gr r => q v B1 H1 d (s.grow gr) gr r (fin'.mono gr.b)⟩
theorem tS.bindX {f : Gm → R Slot} {g : Slot → R O} (s : StOk K B0 H0 Γ B H σ) (fin : FinS K E B0 H0 B Z (f Γ >>= g)) {Q : VK}
    (q : ∀ v B1 H1 S, Gro B H B1 H1 → SlotEv K H B1 H1 v S → FinS K E B0 H0 B1 Z (g S) → Q v H1) : tX K E f σ H Q :=
  ⟨B0, H0, Γ, B, s, fin.fin s.gro fun S fin' v B1 H1 gr ev => q v B1 H1 S gr ev (fin'.mono gr.b)⟩
end

def sNext : Gm → R O := fun Γ => .ok (.nx Γ)
def sSeq (F G : Gm → R O) : Gm → R O := fun Γ => F Γ >>= fun o => match o with
  | .nx Γ1 => G Γ1
  | o => .ok o
def sSet (i : Nat) (f : Gm → R Slot) : Gm → R O := fun Γ => f Γ >>= fun S => .ok (.nx (Γ.set i S))
def sAsg (T : Tg) (f : Gm → R D) : Gm → R O := fun Γ => f Γ >>= fun d => asgn T d Γ >>= fun Γ1 => .ok (.nx Γ1)
def sPar (i j : Nat) (f g : Gm → R Slot) : Gm → R O := fun Γ => f Γ >>= fun S => g Γ >>= fun S' => .ok (.nx ((Γ.set i S).set j S'))
def sDrop (f : Gm → R D) : Gm → R O := fun Γ => f Γ >>= fun _ => .ok (.nx Γ)
/-- all that is the def's own is known (what it hands back may hold it) -/
def frzS : Slot → Slot
  | .no => .no
  | .fr d => .fr d
  | .ow (.l1 ds) => .fr (.list ds)
  | .ow (.l2 dss) => .fr (.list (dss.map .list))
def frz (Γ : Gm) : Gm := Γ.map frzS
def sRet (f : Gm → R D) : Gm → R O := fun Γ => f (frz Γ) >>= fun d => .ok (.rt d)
def sRetN : Gm → R O := fun _ => .ok (.rt .none)
def sIf (c : Gm → R Bool) (F G : Gm → R O) : Gm → R O := fun Γ => c Γ >>= fun b => if b = true then F Γ else G Γ
def sBrk : Gm → R O := fun Γ => .ok (.bk Γ)
def sCnt : Gm → R O := fun Γ => .ok (.ct Γ)
def frzAt (i : Nat) (Γ : Gm) : Gm := match Γ[i]? with
  | some S => Γ.set i (frzS S)
  | none => Γ
def sFrz (i : Nat) (F : Gm → R O) : Gm → R O := fun Γ => F (frzAt i Γ)
def sApp (i : Nat) (f : Gm → R D) : Gm → R O := fun Γ => match Γ[i]? with
  | some (.ow (.l1 ds)) => f Γ >>= fun d => if ds.length < 16777216 then .ok (.nx (Γ.set i (.ow (.l1 (ds ++ [d]))))) else .bad
  | _ => .bad
def sSet2 (i : Nat) (fe fr fc : Gm → R D) : Gm → R O := fun Γ => match Γ[i]? with
  | some (.ow (.l2 dss)) => fe Γ >>= fun d => fr Γ >>= fun r => asI r >>= fun r => match ixN dss.length r with
    | some j => match dss[j]? with
      | some ds => fc Γ >>= fun c => asI c >>= fun c => match ixN ds.length c with
        | some k => .ok (.nx (Γ.set i (.ow (.l2 (dss.set j (ds.set k d))))))
        | none => .bad
      | none => .bad
    | none => .bad
  | _ => .bad
def sAug (i : Nat) (o : D → D → R D) (f : Gm → R D) : Gm → R O := fun Γ => eVar i Γ >>= fun x => f Γ >>= fun y => o x y >>= fun z => .ok (.nx (Γ.set i (.fr z)))
def forLoop (T : Tg) (F : Gm → R O) : List D → Gm → R O
  | [], Γ => .ok (.nx Γ)
  | d :: ds, Γ => asgn T d Γ >>= fun Γ1 => F Γ1 >>= fun o => match o with
    | .nx Γ2 => forLoop T F ds Γ2
    | .ct Γ2 => forLoop T F ds Γ2
    | .bk Γ2 => .ok (.nx Γ2)
    | .rt d => .ok (.rt d)
def sFor (it : Gm → R (List D)) (T : Tg) (F : Gm → R O) : Gm → R O := fun Γ => it Γ >>= fun ds => forLoop T F ds Γ
def whileLoop (c : Gm → R Bool) (F : Gm → R O) : Nat → Gm → R O
  | 0, _ => .bad
  | n + 1, Γ => c Γ >>= fun b => if b = true then (F Γ >>= fun o => match o with
    | .nx Γ2 => whileLoop c F n Γ2
    | .ct Γ2 => whileLoop c F n Γ2
    | .bk Γ2 => .ok (.nx Γ2)
    | .rt d => .ok (.rt d)) else .ok (.nx Γ)
/-- n: enough turns -/
def sWhile (n : Gm → Nat) (c : Gm → R Bool) (F : Gm → R O) : Gm → R O := fun Γ => whileLoop c F (n Γ) Γ

section
variable {K : Fg} {B0 H0 B H : Hp} {Γ : Gm} {σ : Sg}
/-- what a slot holds, frozen over the whole heap -/
theorem StOk.rp (s : StOk K B0 H0 Γ B H σ) {i : Nat} {S : Slot} (h : Γ[i]? = some S) {d : D} (e : frzS S = .fr d) : ∃ v, σ[i]? = some (some v) ∧ Rp K H v d := by
  cases S with
  | no => cases e
  | fr d' =>
    cases e
    obtain ⟨v, h1, h2⟩ := s.fr i d h
    exact ⟨v, h1, h2.mono s.bh⟩
  | ow o =>
    obtain ⟨fq, h1, _⟩ := s.ow
    cases o with
    | l1 ds =>
      cases e
      obtain ⟨⟨v, ev, a, vs, rfl, efp, eH, r⟩, _⟩ := h1 i _ h
      exact ⟨_, ev, .lst (SqL.of eH) (r.mono s.bh)⟩
    | l2 dss =>
      cases e
      obtain ⟨⟨v, ev, a, as, rfl, efp, eH, r⟩, _⟩ := h1 i _ h
      refine ⟨_, ev, .lst (SqL.of eH) ?_⟩
      have hb := s.bh
      clear h1 h ev eH efp
      induction r with
      | nil => exact .nil
      | cons z t ih =>
        obtain ⟨vs, e, r⟩ := z
        exact .cons (.lst (SqL.of e) (r.mono hb)) ih
theorem frz_get {Γ : Gm} {i : Nat} {S : Slot} (h : (frz Γ)[i]? = some S) : ∃ S0, Γ[i]? = some S0 ∧ S = frzS S0 := by
  unfold frz at h
  rw [List.getElem?_map] at h
  cases e : Γ[i]? with
  | none => rw [e] at h; cases h
  | some S0 => rw [e] at h; exact ⟨S0, rfl, (Option.some.inj h).symm⟩
theorem frzS_ow {S : Slot} {o : Own} : frzS S ≠ .ow o := by
  cases S with
  | no => exact fun z => nomatch z
  | fr d => exact fun z => nomatch z
  | ow o => cases o <;> exact fun z => nomatch z
/-- all is known: the whole heap is -/
theorem StOk.frzAll (s : StOk K B0 H0 Γ B H σ) : StOk K H H (frz Γ) H H σ := by
  refine ⟨Gro.refl (Ex.refl H), by unfold frz; rw [List.length_map]; exact s.len, fun i d e => ?_, fun _ => [], fun i o e => ?_, fun i j o o' a e _ _ _ => ?_⟩
  · obtain ⟨S0, h, e'⟩ := frz_get e
    exact s.rp h e'.symm
  · obtain ⟨S0, h, e'⟩ := frz_get e
    exact absurd e'.symm frzS_ow
  · obtain ⟨S0, h, e'⟩ := frz_get e
    exact absurd e'.symm frzS_ow
/-- ..: as much of it as stands apart from what the caller holds -/
theorem StOk.frzOwn (s : StOk K B0 H0 Γ B H σ) : ∃ B', StOk K B0 H0 (frz Γ) B' H σ ∧ Ex B B' := by
  classical
  -- what is known from here on: B, and what is neither the caller's nor B's
  let B' : Hp := fun a => match B a with
    | some o => some o
    | none => if H0 a = none then H a else none
  have eB : Ex B B' := fun a o e => by
    show (match B a with | some o => some o | none => if H0 a = none then H a else none) = some o
    rw [e]
  have eH : Ex B' H := fun a o e => by
    have e' : (match B a with | some o => some o | none => if H0 a = none then H a else none) = some o := e
    cases q : B a with
    | some u => rw [q] at e'; cases e'; exact s.bh a o q
    | none =>
      rw [q] at e'
      dsimp only at e'
      split at e'
      · exact e'
      · cases e'
  have own : ∀ {a : Addr} {o : HO}, B a = none → H0 a = none → H a = some o → B' a = some o := fun {a o} h1 h2 h3 => by
    show (match B a with | some o => some o | none => if H0 a = none then H a else none) = some o
    rw [h1]
    dsimp only
    rw [if_pos h2]
    exact h3
  refine ⟨B', ⟨⟨s.gro.b.trans eB, eH, s.gro.h, fun a o h n m => ?_⟩, by unfold frz; rw [List.length_map]; exact s.len, fun i d e => ?_, fun _ => [], fun i o e => ?_, fun i j o o' a e _ _ _ => ?_⟩, eB⟩
  · have h1 := s.gro.new a o h n m
    show (match B a with | some o => some o | none => if H0 a = none then H a else none) = none
    rw [h1]
    dsimp only
    rw [if_neg (by rw [n]; exact fun z => nomatch z)]
  · obtain ⟨S0, h, e'⟩ := frz_get e
    cases S0 with
    | no => cases e'
    | fr d' =>
      cases e'
      obtain ⟨v, h1, h2⟩ := s.fr i d h
      exact ⟨v, h1, h2.mono eB⟩
    | ow o =>
      obtain ⟨fq, h1, _⟩ := s.ow
      cases o with
      | l1 ds =>
        cases e'
        obtain ⟨⟨v, ev, a, vs, rfl, efp, eHa, r⟩, _, n⟩ := h1 i _ h
        have na := n a (by rw [efp]; exact List.mem_singleton.mpr rfl)
        exact ⟨_, ev, .lst (SqL.of (own na.1 na.2 eHa)) (r.mono eB)⟩
      | l2 dss =>
        cases e'
        obtain ⟨⟨v, ev, a, as, rfl, efp, eHa, r⟩, _, n⟩ := h1 i _ h
        have na := n a (by rw [efp]; exact List.mem_cons_self)
        refine ⟨_, ev, .lst (SqL.of (own na.1 na.2 eHa)) ?_⟩
        have nb : ∀ b ∈ as, B b = none ∧ H0 b = none := fun b hb => n b (by rw [efp]; exact List.mem_cons_of_mem _ hb)
        clear h1 h ev eHa efp n na e
        induction r with
        | nil => exact .nil
        | cons z t ih =>
          obtain ⟨vs, e, r⟩ := z
          have n0 := nb _ List.mem_cons_self
          exact .cons (.lst (SqL.of (own n0.1 n0.2 e)) (r.mono eB)) (ih fun b hb => nb b (List.mem_cons_of_mem _ hb))
  · obtain ⟨S0, h, e'⟩ := frz_get e
    exact absurd e'.symm frzS_ow
  · obtain ⟨S0, h, e'⟩ := frz_get e
    exact absurd e'.symm frzS_ow
end
end DL

/-! The data layer: the rules of statements. -/
namespace DL
open PySem PySem.Spec PyProof.Rows L2
section
variable {X : Cx} {E : XK} {st : Stmt} {rest : List Stmt} {F G : Gm → R O} {e a b c : Expr} {f g : Gm → R D} {h h' : Gm → R Slot} {pos pos' : Pos}
theorem js_nil : JSs X E [] sNext := PSs.weak pss_nil fun Z σ H ⟨B0, H0, Γ, B, s, fin⟩ => fin σ B H s (Ex.refl B)
theorem tS_seq {K : Fg} {Z : Ends} {σ : Sg} {H : Hp} (q : tS K E (sSeq F G) Z σ H) : tSeq (tS K E F) (tS K E G) Z σ H := by
  obtain ⟨B0, H0, Γ, B, s, fin⟩ := q
  refine ⟨B0, H0, Γ, B, s, ?_⟩
  unfold sSeq at fin
  cases e : F Γ with
  | bad => rw [e] at fin; exact fin
  | ex C => rw [e] at fin; exact fin
  | ok o =>
    rw [e, R.bind_ok] at fin
    cases o with
    | nx Γ1 => exact fun σ' B' H' s' e' => ⟨B0, H0, Γ1, B', s', FinS.mono (r := G Γ1) fin e'⟩
    | rt d => exact fin
    | bk Γ1 => exact fin
    | ct Γ1 => exact fin
theorem js_cons (h1 : JS X E st F) (h2 : JSs X E rest G) : JSs X E (st :: rest) (sSeq F G) := PSs.weak (pss_cons h1 h2) fun Z σ H q => tS_seq q
theorem js_one (h1 : JS X E st F) : JSs X E [st] F := pss_one h1
/-- what a def has of its own is known behind this place -/
theorem StOk.frz1 {K : Fg} {B0 H0 B H : Hp} {Γ : Gm} {σ : Sg} (s : StOk K B0 H0 Γ B H σ) (i : Nat) : ∃ B', StOk K B0 H0 (frzAt i Γ) B' H σ ∧ Ex B B' := by
  by_cases hi : i < Γ.length
  · have hg : Γ[i]? = some Γ[i] := by simp [hi]
    have em : frzAt i Γ = Γ.set i (frzS Γ[i]) := by unfold frzAt; rw [hg]
    rw [em]
    cases hS : Γ[i] with
    | no =>
      refine ⟨B, ?_⟩
      have : Γ.set i (frzS .no) = Γ := by
        show Γ.set i .no = Γ
        rw [← hS]
        exact List.set_getElem_self hi
      rw [this]
      exact ⟨s, Ex.refl B⟩
    | fr d =>
      refine ⟨B, ?_⟩
      have : Γ.set i (frzS (.fr d)) = Γ := by
        show Γ.set i (.fr d) = Γ
        rw [← hS]
        exact List.set_getElem_self hi
      rw [this]
      exact ⟨s, Ex.refl B⟩
    | ow o =>
      rw [hS] at hg
      -- the objects at the footprint of i become known
      obtain ⟨fq, h1, h2⟩ := id s.ow
      obtain ⟨⟨v, ev, ok⟩, nd, n⟩ := h1 i o hg
      classical
      let B' : Hp := fun a => if a ∈ fq i then H a else B a
      have eB : Ex B B' := fun a u q => by
        show (if a ∈ fq i then H a else B a) = some u
        by_cases z : a ∈ fq i
        · rw [(n a z).1] at q; cases q
        · rw [if_neg z]; exact q
      have eH : Ex B' H := fun a u q => by
        have q' : (if a ∈ fq i then H a else B a) = some u := q
        by_cases z : a ∈ fq i
        · rw [if_pos z] at q'; exact q'
        · rw [if_neg z] at q'; exact s.bh a u q'
      have at' : ∀ {a : Addr} {u : HO}, a ∈ fq i → H a = some u → B' a = some u := fun {a u} z q => by
        show (if a ∈ fq i then H a else B a) = some u
        rw [if_pos z]; exact q
      have off' : ∀ {a : Addr}, a ∉ fq i → B' a = B a := fun {a} z => if_neg z
      have other : ∀ {j : Nat} {S : Slot}, (Γ.set i (frzS (.ow o)))[j]? = some S → i ≠ j → Γ[j]? = some S := fun {j S} e q => by
        rw [List.getElem?_set_ne q] at e
        exact e
      refine ⟨B', ⟨⟨s.gro.b.trans eB, eH, s.gro.h, fun a u q1 q2 m => ?_⟩, by rw [List.length_set]; exact s.len, fun j d e => ?_, fq, fun j o' e => ?_, fun j k o1 o2 x e1 e2 m1 m2 => ?_⟩, eB⟩
      · have z : a ∉ fq i := fun z => by rw [(n a z).2] at q2; cases q2
        rw [off' z]
        exact s.gro.new a u q1 q2 m
      · by_cases q : i = j
        · subst q
          rw [List.getElem?_set_self hi] at e
          have e' := Option.some.inj e
          cases o with
          | l1 ds =>
            cases e'
            obtain ⟨x, vs, rfl, efp, ex, r⟩ := ok
            exact ⟨_, ev, .lst (SqL.of (at' (by rw [efp]; exact List.mem_singleton.mpr rfl) ex)) (r.mono eB)⟩
          | l2 dss =>
            cases e'
            obtain ⟨x, as, rfl, efp, ex, r⟩ := ok
            refine ⟨_, ev, .lst (SqL.of (at' (by rw [efp]; exact List.mem_cons_self) ex)) ?_⟩
            have mem : ∀ y ∈ as, y ∈ fq i := fun y hy => by rw [efp]; exact List.mem_cons_of_mem _ hy
            clear other
            clear ev efp ex nd n h1 h2 hg hS em e
            induction r with
            | nil => exact .nil
            | cons z t ih =>
              obtain ⟨vs, e, r⟩ := z
              exact .cons (.lst (SqL.of (at' (mem _ List.mem_cons_self) e)) (r.mono eB)) (ih fun y hy => mem y (List.mem_cons_of_mem _ hy))
        · obtain ⟨w, w1, w2⟩ := s.fr j d (other e q)
          exact ⟨w, w1, w2.mono eB⟩
      · by_cases q : i = j
        · subst q
          rw [List.getElem?_set_self hi] at e
          exact absurd (Option.some.inj e) frzS_ow
        · obtain ⟨⟨w, w1, w2⟩, nd', n'⟩ := h1 j o' (other e q)
          refine ⟨⟨w, w1, w2.keep eB fun _ _ _ z => z⟩, nd', fun a ha => ⟨?_, (n' a ha).2⟩⟩
          rw [off' fun z => q (h2 i j _ _ a hg (other e q) z ha)]
          exact (n' a ha).1
      · have ne1 : i ≠ j := fun z => by
          subst z
          rw [List.getElem?_set_self hi] at e1
          exact absurd (Option.some.inj e1) frzS_ow
        have ne2 : i ≠ k := fun z => by
          subst z
          rw [List.getElem?_set_self hi] at e2
          exact absurd (Option.some.inj e2) frzS_ow
        exact h2 j k o1 o2 x (other e1 ne1) (other e2 ne2) m1 m2
  · have em : frzAt i Γ = Γ := by
      unfold frzAt
      rw [List.getElem?_eq_none (by omega)]
    rw [em]
    exact ⟨B, s, Ex.refl B⟩
theorem js_frz (i : Nat) {sts : List Stmt} (h1 : JSs X E sts F) : JSs X E sts (sFrz i F) := PSs.weak h1 fun Z σ H ⟨B0, H0, Γ, B, s, fin⟩ => by
  obtain ⟨B', s', e'⟩ := s.frz1 i
  exact ⟨B0, H0, _, B', s', FinS.mono fin e'⟩

/-! ### assignments -/
theorem js_set {i : Nat} {x : Str} (hN : X.N.Nodup) (hi : X.N[i]? = some x) (hx : Loc X.env.scope x) (he : JX X E e h) (hs : swapsWith e (some (.Name x pos')) pos.line X.env = pure false := by rfl) (hf : X.fn x = true ∨ X.env.scope.names.lookup x = some .local := by first | exact .inl rfl | exact .inr rfl | assumption) :
    JS X E (.Assign [.Name x pos'] e pos) (sSet i h) := PS.weak (ps_set hN hi hx he hs hf) fun Z σ H ⟨B0, H0, Γ, B, s, fin⟩ => by
  show tX X.K E h σ H fun v H1 => Z.nx (σ.set i (some v)) H1
  exact tS.bindX s fin fun v B1 H1 S gr ev fin1 => fin1 _ B1 H1 (s.put gr ev i) (Ex.refl B1)
/-- x = [..]: on one line -/
theorem tAsg_lc {K : Fg} {i : Nat} {te : TE} {Z : Ends} {σ : Sg} {H : Hp} (w : ∀ σ H Q, tX K E h σ H Q → te σ H Q) (q : tS K E (sSet i h) Z σ H) : tAsg te (gName i) Z σ H := by
  obtain ⟨B0, H0, Γ, B, s, fin⟩ := q
  exact w σ H _ (tS.bindX s fin fun v B1 H1 S gr ev fin1 => fin1 _ B1 H1 (s.put gr ev i) (Ex.refl B1))
section
variable {i : Nat} {y : Str} {py spos : Pos} {elt tg iter : Expr} {ifs : List Expr} {scope : Scope} {own : List (Str × Nat)} {it : Gm → R (List D)} {T : Tg} {cc : Gm → R Bool} {ee : Gm → R D} {e' : Gm → R (List D)}
theorem js_setLc (hc : X.calm = true) (hN : X.N.Nodup) (hy : X.N[i]? = some y) (hyl : X.env.scope.names.lookup y = some .local) (hsw : swapsWith (.ListComp elt [⟨tg, iter, ifs, 0⟩] scope pos) (some (.Name y py)) spos.line X.env = pure true)
    (hi : JI X E tg iter it) (ok : BlkOk X.N X.env.scope scope own) (hg : ∀ (s : Shared) (H : Hp) (C : Addr) (cl : List (Str × Addr)) (fp : List Addr), JG (X.blk s H scope (compEnvC scope cl C X.env) fp) tg T)
    (ht : ∀ (s : Shared) (H : Hp) (C : Addr) (cl : List (Str × Addr)) (fp : List Addr), JTs (X.blk s H scope (compEnvC scope cl C X.env) fp) X0 ifs cc) (he : ∀ (s : Shared) (H : Hp) (C : Addr) (cl : List (Str × Addr)) (fp : List Addr), JE (X.blk s H scope (compEnvC scope cl C X.env) fp) X0 elt ee)
    (hT : ∀ i ∈ idx T, i ∈ own.map (·.2) := by decide) (hs : ∀ x, foldedSetIterable iter X.env x = pure x := by intro _; rfl) : JS X E (.Assign [.Name y py] (.ListComp elt [⟨tg, iter, ifs, 0⟩] scope pos) spos) (sSet i (xL (eLc it T cc ee (own.map (·.2))))) :=
  PS.weak (ps_setLc hc hN hy hyl hsw hi ok hg ht he hs) fun Z σ H q => tAsg_lc (fun _ _ _ z => tLc_of hT (tX_L z)) q
theorem js_setLcF (hc : X.calm = true) (hN : X.N.Nodup) (hy : X.N[i]? = some y) (hyl : X.env.scope.names.lookup y = some .local) (hsw : swapsWith (.ListComp elt [⟨tg, iter, ifs, 0⟩] scope pos) (some (.Name y py)) spos.line X.env = pure true)
    (hi : JI X E tg iter it) (ok : BlkOk X.N X.env.scope scope own) (hg : ∀ (s : Shared) (H : Hp) (C : Addr) (cl : List (Str × Addr)) (fp : List Addr), JG (X.blk s H scope (compEnvC scope cl C X.env) fp) tg T)
    (ht : ∀ (s : Shared) (H : Hp) (C : Addr) (cl : List (Str × Addr)) (fp : List Addr), JTs (X.blk s H scope (compEnvC scope cl C X.env) fp) X0 ifs cc) (he : ∀ (s : Shared) (H : Hp) (C : Addr) (cl : List (Str × Addr)) (fp : List Addr), JE (X.blk s H scope (compEnvC scope cl C X.env) fp) X0 elt ee)
    (hT : ∀ i ∈ idx T, i ∈ own.map (·.2) := by decide) (hs : ∀ x, foldedSetIterable iter X.env x = pure x := by intro _; rfl) : JS X E (.Assign [.Name y py] (.ListComp elt [⟨tg, iter, ifs, 0⟩] scope pos) spos) (sSet i (xFr (eFr (eLc it T cc ee (own.map (·.2)))))) :=
  PS.weak (ps_setLc hc hN hy hyl hsw hi ok hg ht he hs) fun Z σ H q => tAsg_lc (fun _ _ _ z => tLc_of hT (tL_know (tX_fr z))) q
theorem js_setLc2 (hc : X.calm = true) (hN : X.N.Nodup) (hy : X.N[i]? = some y) (hyl : X.env.scope.names.lookup y = some .local) (hsw : swapsWith (.ListComp elt [⟨tg, iter, [], 0⟩] scope pos) (some (.Name y py)) spos.line X.env = pure true)
    (hi : JI X E tg iter it) (ok : BlkOk X.N X.env.scope scope own) (hg : ∀ (s : Shared) (H : Hp) (C : Addr) (cl : List (Str × Addr)) (fp : List Addr), JG (X.blk s H scope (compEnvC scope cl C X.env) fp) tg T)
    (he : ∀ (s : Shared) (H : Hp) (C : Addr) (cl : List (Str × Addr)) (fp : List Addr), JL (X.blk s H scope (compEnvC scope cl C X.env) fp) X0 elt e')
    (hT : ∀ i ∈ idx T, i ∈ own.map (·.2) := by decide) (hs : ∀ x, foldedSetIterable iter X.env x = pure x := by intro _; rfl) : JS X E (.Assign [.Name y py] (.ListComp elt [⟨tg, iter, [], 0⟩] scope pos) spos) (sSet i (xL2 (eLc2 it T e' (own.map (·.2))))) :=
  PS.weak (ps_setLc hc hN hy hyl hsw hi ok hg (fun _ _ _ _ _ => pts_nil) he hs) fun Z σ H q => tAsg_lc (fun _ _ _ z => tLc2_of hT (tX_L2 z)) q
end
theorem js_asg {tg : Expr} {T : Tg} (he : JE X E e f) (hg : JG X tg T) (hs : swapsWithSole [tg] e pos.line X.env = pure false := by rfl) (hw : swappedStores [tg] e X.env = pure none := by rfl) (h1 : (assignEach [tg] X.env).map (·.2) = [assign tg X.env] := by rfl) :
    JS X E (.Assign [tg] e pos) (sAsg T f) := PS.weak (ps_asg he hg hs hw h1) fun Z σ H ⟨B0, H0, Γ, B, s, fin⟩ => by
  show tE X.K E f σ H fun v H1 => tgD X.K T v σ H1 Z.nx
  refine tS.bind (f := f) s fin fun v B1 H1 d s1 gr r fin1 => ?_
  cases ea : asgn T d Γ with
  | bad => rw [ea] at fin1; exact fin1.elim
  | ok Γ1 =>
    rw [ea] at fin1
    exact ⟨B0, H0, Γ, B1, d, Γ1, s1, r, ea, fun σ' s' _ => fin1 σ' B1 H1 s' (Ex.refl B1)⟩
  | ex C =>
    -- a target raises nothing: the run is bad there
    exact absurd ea (asgn_noex T d Γ C)
where
  asgn_noex : ∀ (T : Tg) (d : D) (Γ : Gm) (C : Addr), asgn T d Γ ≠ .ex C
    | .n i, d, Γ, C => by simp [asgn]
    | .t ts, d, Γ, C => by
      cases d with
      | tuple ds => simp only [asgn]; exact asgnAll_noex ts ds Γ C
      | _ => simp [asgn]
  asgnAll_noex : ∀ (ts : List Tg) (ds : List D) (Γ : Gm) (C : Addr), asgnAll ts ds Γ ≠ .ex C
    | [], ds, Γ, C => by cases ds <;> simp [asgnAll]
    | t :: ts, [], Γ, C => by simp [asgnAll]
    | t :: ts, d :: ds, Γ, C => by
      simp only [asgnAll]
      cases e : asgn t d Γ with
      | bad => simp
      | ok Γ1 => simp only [R.bind_ok]; exact asgnAll_noex ts ds Γ1 C
      | ex C' => exact absurd e (asgn_noex t d Γ C')
/-- a, b = x, y: two local names -/
theorem js_par {i j : Nat} {x y : Str} {px py pt : Pos} {kt k2 pt2} (hc : X.calm = true) (hN : X.N.Nodup) (hi : X.N[i]? = some x) (hj : X.N[j]? = some y) (hij : i ≠ j)
    (hx : X.env.scope.names.lookup x = some .local) (hy : X.env.scope.names.lookup y = some .local) (ha : JX X E a h) (hb : JX X E b h')
    (hw : swappedStores [.Tuple [.Name x px, .Name y py] kt pt] (.Tuple [a, b] k2 pt2) X.env = pure (some [x, y]) := by rfl)
    (hs : swapsWithSole [.Tuple [.Name x px, .Name y py] kt pt] (.Tuple [a, b] k2 pt2) pos.line X.env = pure false := by rfl)
    (hs1 : starEach (a :: [b]) X.env = (false, eval a X.env) :: starEach [b] X.env := by rfl) (hs2 : starEach (b :: []) X.env = (false, eval b X.env) :: starEach [] X.env := by rfl) :
    JS X E (.Assign [.Tuple [.Name x px, .Name y py] kt pt] (.Tuple [a, b] k2 pt2) pos) (sPar i j h h') := PS.weak (ps_par hc hN hi hj hij hx hy (pa_cons ha (pa_cons hb pa_nil hs2) hs1) hw hs) fun Z σ H ⟨B0, H0, Γ, B, s, fin⟩ => by
  show tX X.K E h σ H fun v H1 => tX X.K E h' σ H1 fun w H2 => ∃ v' w', [v, w] = [v', w'] ∧ Z.nx ((σ.set i (some v')).set j (some w')) H2
  refine tS.bindX s fin fun v B1 H1 S gr ev fin1 => ?_
  refine tS.bindX (s.grow gr) fin1 fun w B2 H2 S' gr2 ev2 fin2 => ?_
  exact ⟨v, w, rfl, fin2 _ B2 H2 ((s.put gr ev i).put gr2 ev2 j) (Ex.refl B2)⟩
theorem js_drop (he : JE X E e f) (hs : swapsWith e none pos.line X.env = pure false := by rfl) : JS X E (.Expr e pos) (sDrop f) := PS.weak (ps_expr he hs) fun Z σ H ⟨B0, H0, Γ, B, s, fin⟩ => by
  show tE X.K E f σ H fun _ H1 => Z.nx σ H1
  exact tS.bind (f := f) s fin fun v B1 H1 d s1 gr r fin1 => fin1 σ B1 H1 s1 (Ex.refl B1)
theorem js_ret (he : JE X E e f) : JS X E (.Return (some e) pos) (sRet f) := PS.weak (ps_ret he) fun Z σ H ⟨B0, H0, Γ, B, s, fin⟩ => by
  show tE X.K E f σ H Z.rt
  obtain ⟨B', s', e'⟩ := s.frzOwn
  replace fin : FinS X.K E B0 H0 B Z (f (frz Γ) >>= fun d => .ok (.rt d)) := fin
  exact tS.bind (f := f) (Γ := frz Γ) s' (fin.mono e') fun v B1 H1 d s1 gr r fin1 => fin1 v B1 H1 s1.gro r
theorem js_retN : JS X E (.Return none pos) sRetN := PS.weak ps_retN fun Z σ H ⟨B0, H0, Γ, B, s, fin⟩ => fin .non B H s.gro .non
theorem js_if {sa sb : List Stmt} {t : Gm → R Bool} (hc : JT X E c t) (ha : JSs X E sa F) (hb : JSs X E sb G) : JS X E (.If c sa sb pos) (sIf t F G) := PS.weak (ps_if hc ha hb) fun Z σ H ⟨B0, H0, Γ, B, s, fin⟩ => by
  show tT X.K E t σ H fun b H1 => if b = true then tS X.K E F Z σ H1 else tS X.K E G Z σ H1
  refine tS.bind (f := t) s fin fun v B1 H1 d s1 gr r fin1 => ?_
  obtain rfl : v = d := r
  cases v with
  | true => exact ⟨B0, H0, Γ, B1, s1, fin1⟩
  | false => exact ⟨B0, H0, Γ, B1, s1, fin1⟩
theorem js_pass : JS X E (.Pass pos) sNext := PS.weak ps_pass fun Z σ H ⟨B0, H0, Γ, B, s, fin⟩ => fin σ B H s (Ex.refl B)
theorem js_brk : JS X E (.Break pos) sBrk := PS.weak ps_break fun Z σ H ⟨B0, H0, Γ, B, s, fin⟩ => fin σ B H s (Ex.refl B)
theorem js_cnt : JS X E (.Continue pos) sCnt := PS.weak ps_continue fun Z σ H ⟨B0, H0, Γ, B, s, fin⟩ => fin σ B H s (Ex.refl B)
theorem js_never : JS X E st eNever := ⟨fun _ _ _ _ _ _ ⟨_, _, _, _, _, fin⟩ => fin.elim⟩
theorem jss_never {sts : List Stmt} : JSs X E sts eNever := ⟨fun _ _ _ _ _ _ ⟨_, _, _, _, _, fin⟩ => fin.elim⟩
theorem js_aug {i : Nat} {x : Str} {op : Operator} {r : R2} {o : D → D → R D} (hN : X.N.Nodup) (hi : X.N[i]? = some x) (hx : Loc X.env.scope x) (he : JE X E e f) (ho : OpR X (inplaceOp op) r) (hd : OpD X.K r o) (hf : X.fn x = true ∨ X.env.scope.names.lookup x = some .local := by first | exact .inl rfl | exact .inr rfl | assumption) :
    JS X E (.AugAssign (.Name x pos') op e pos) (sAug i o f) := PS.weak (ps_aug hN hi hx he (ti := r) ho hf) fun Z σ H ⟨B0, H0, Γ, B, s, fin⟩ => by
  unfold sAug at fin
  have ex : ∃ d0, eVar i Γ = .ok d0 ∧ Γ[i]? = some (.fr d0) := by
    unfold eVar at fin ⊢
    split
    · rename_i d0 e0; exact ⟨d0, rfl, e0⟩
    · rename_i h0
      split at fin
      · rename_i d0 e0; exact absurd e0 (h0 d0)
      · exact fin.elim
  obtain ⟨d0, e0, g0⟩ := ex
  rw [e0, R.bind_ok] at fin
  obtain ⟨v0, ev0, r0⟩ := s.fr i d0 g0
  refine ⟨v0, ev0, ?_⟩
  show tE X.K E f σ H _
  refine tS.bind (f := f) s fin fun w B1 H1 d1 s1 g1 r1 fin1 => ?_
  refine hd _ E B1 H1 v0 w d0 d1 s1.bh (r0.mono g1.b) r1 (fin1.fin s1.gro fun d2 fin2 z B2 H2 g2 r2 => ?_)
  exact fin2 _ B2 H2 ((s1.grow g2).set r2 i) g2.b
/-- xs.append(e), xs a list of the def's own -/
theorem js_app {i : Nat} {x : Str} {px apos cpos : Pos} (hp : PE X (.Call (.Attribute (.Name x px) "append" apos) [e] [] cpos) (tBM X.K "list" rAppend (tVar i) (tCons (tE X.K E f) tNil)))
    (hs : swapsWith (.Call (.Attribute (.Name x px) "append" apos) [e] [] cpos) none pos.line X.env = pure false := by rfl) : JS X E (.Expr (.Call (.Attribute (.Name x px) "append" apos) [e] [] cpos) pos) (sApp i f) := PS.weak (ps_expr hp hs) fun Z σ H ⟨B0, H0, Γ, B, s, fin⟩ => by
  unfold sApp at fin
  split at fin
  · rename_i ds hg
    obtain ⟨ad, vs, ev, eH, r, ch⟩ := s.chg1 hg
    refine ⟨.ref ad, ev, .inl ⟨rfl, vs, SqL.of eH⟩, ?_⟩
    show tE X.K E f σ H _
    refine tS.bind (f := f) s fin fun w B1 H1 d1 s1 g1 r1 fin1 => ?_
    split at fin1
    · rename_i hz
      obtain ⟨ad', vs', ev', eH', r', ch'⟩ := s1.chg1 hg
      rw [ev] at ev'
      cases ev'
      refine ⟨ad, vs', w, rfl, rfl, eH', by rw [r'.length]; exact Nat.lt_of_lt_of_le hz (by rw [sizeLine_eq]; exact Nat.le_refl _), ?_⟩
      exact fin1 σ B1 _ (ch' _ _ (r'.append (RpAll.one r1))) (Ex.refl B1)
    · exact fin1.elim
  · exact fin.elim
/-- rows[r][c] = e, rows a list of lists of the def's own -/
theorem js_set2 {i : Nat} {x : Str} {er ec : Expr} {fr fc : Gm → R D} {px p1 p2 : Pos} (hv : PE X (.Name x px) (tVar i)) (he : JE X E e f) (hr : JE X E er fr) (hc : JE X E ec fc) (hx : PlainIx er := by exact fun _ _ => rfl)
    (ha : ∀ v, assign (.Subscript (.Subscript (.Name x px) er p1) ec p2) X.env v = (do
      let ov ← holding [v] (eval (.Subscript (.Name x px) er p1) X.env)
      let iv ← holding [v, ov] (eval ec X.env)
      standAt p2
      holding [v, ov, iv] (setItem ov iv v)
      release [v, ov, iv] []) := by intro _; rfl)
    (hs : swapsWithSole [.Subscript (.Subscript (.Name x px) er p1) ec p2] e pos.line X.env = pure false := by rfl) (hw : swappedStores [.Subscript (.Subscript (.Name x px) er p1) ec p2] e X.env = pure none := by rfl)
    (h1 : (assignEach [.Subscript (.Subscript (.Name x px) er p1) ec p2] X.env).map (·.2) = [assign (.Subscript (.Subscript (.Name x px) er p1) ec p2) X.env] := by rfl) :
    JS X E (.Assign [.Subscript (.Subscript (.Name x px) er p1) ec p2] e pos) (sSet2 i f fr fc) := PS.weak (ps_asg he (pg_sub (pe_ix ix_list hv hr hx) hc set_list ha) hs hw h1) fun Z σ H ⟨B0, H0, Γ, B, s, fin⟩ => by
  unfold sSet2 at fin
  split at fin
  · rename_i dss hg
    show tE X.K E f σ H fun v H1 => tOp (rIxL X.K) (tVar i) (tE X.K E fr) σ H1 fun o H2 => tE X.K E fc σ H2 fun ci H3 => rSetL o ci v H3 fun H4 => Z.nx σ H4
    refine tS.bind (f := f) s fin fun v B1 H1 d s1 g1 rv fin1 => ?_
    obtain ⟨ad, as, ev, _, _, _⟩ := s1.chg2 hg
    refine ⟨.ref ad, ev, ?_⟩
    show tE X.K E fr σ H1 fun ri H2 => rIxL X.K (.ref ad) ri H2 _
    refine tS.bind (f := fr) s1 fin1 fun ri B2 H2 dr s2 g2 rr fin2 => ?_
    cases dr with
    | int r0 =>
      replace fin2 : FinS X.K E B0 H0 B2 Z (match ixN dss.length r0 with
        | some j => match dss[j]? with
          | some ds => fc Γ >>= fun c => asI c >>= fun c => match ixN ds.length c with
            | some k => .ok (.nx (Γ.set i (.ow (.l2 (dss.set j (ds.set k d))))))
            | none => .bad
          | none => .bad
        | none => .bad) := fin2
      -- the row must be there: look at it first
      obtain ⟨ad2, as2, ev2, eH2, el2, ch2⟩ := s2.chg2 hg
      rw [ev] at ev2
      cases ev2
      cases hj : ixN dss.length r0 with
      | none => rw [hj] at fin2; exact fin2.elim
      | some j =>
        cases hd : dss[j]? with
        | none => simp only [hj, hd] at fin2; exact fin2.elim
        | some ds =>
          simp only [hj, hd] at fin2
          obtain ⟨b0, vs0, hb0, eb0, rb0, up0⟩ := ch2 j ds hd
          have hat : atI (as2.map V.ref) r0 = some (.ref b0) := by
            unfold atI
            rw [List.length_map, el2, hj]
            show (as2.map V.ref)[j]? = _
            rw [List.getElem?_map, hb0]
            rfl
          refine ⟨ad, _, r0, .ref b0, rfl, rr.int_inv, SqL.of eH2, hat, ?_⟩
          refine tS.bind (f := fc) s2 fin2 fun ci B3 H3 dc s3 g3 rc fin3 => ?_
          cases dc with
          | int c0 =>
            replace fin3 : FinS X.K E B0 H0 B3 Z (match ixN ds.length c0 with
              | some k => .ok (.nx (Γ.set i (.ow (.l2 (dss.set j (ds.set k d))))))
              | none => .bad) := fin3
            cases hk : ixN ds.length c0 with
            | none => rw [hk] at fin3; exact fin3.elim
            | some k =>
              rw [hk] at fin3
              obtain ⟨ad3, as3, ev3, eH3, el3, ch3⟩ := s3.chg2 hg
              rw [ev] at ev3
              cases ev3
              have e23 := g3.h ad _ eH2
              rw [eH3] at e23
              have e23' : as3.map V.ref = as2.map V.ref := by
                injection e23 with z
                injection z
              have eas : as3 = as2 := map_ref_inj e23'
              subst eas
              obtain ⟨b3, vs3, hb3, eb3, rb3, up3⟩ := ch3 j ds hd
              rw [hb0] at hb3
              cases hb3
              refine ⟨b0, vs3, c0, k, rfl, rc.int_inv, eb3, by rw [rb3.length]; exact hk, ?_⟩
              exact fin3 σ B3 _ (up3 _ _ (rb3.set (rv.mono (g2.b.trans g3.b)) k)) (Ex.refl B3)
          | _ => exact fin3.elim
    | _ => exact fin2.elim
  · exact fin.elim
where
  map_ref_inj : ∀ {l m : List Addr}, l.map V.ref = m.map V.ref → l = m
    | [], [], _ => rfl
    | [], _ :: _, h => by simp at h
    | _ :: _, [], h => by simp at h
    | a :: l, b :: m, h => by
      simp only [List.map_cons, List.cons.injEq, V.ref.injEq] at h
      rw [h.1, map_ref_inj h.2]
end
end DL

/-! The data layer: loops, defs, calls. -/
namespace DL
open PySem PySem.Spec PyProof.Rows L2
section
variable {X : Cx} {E : XK} {F : Gm → R O} {e a b c : Expr} {f g : Gm → R D} {t : Gm → R Bool} {it : Gm → R (List D)} {T : Tg} {pos pos' : Pos} {body : List Stmt}
theorem asgn_noex (T : Tg) (d : D) (Γ : Gm) (C : Addr) : asgn T d Γ ≠ .ex C := js_asg.asgn_noex T d Γ C
theorem js_for {iter tg : Expr} (hp : PassesOwn (model X.prog X.w) X.A X.env X.xe) (hc : X.calm = true) (hi : JI X E tg iter it) (hg : JG X tg T) (hb : JSs X E body F) (hs : ∀ x, foldedSetIterable iter X.env x = pure x := by intro _; rfl) :
    JS X E (.For tg iter body [] pos) (sFor it T F) := PS.weak (ps_for hp hc hi hg hb hs) fun Z σ H ⟨B0, H0, Γ, B, s, fin⟩ => by
  show tI X.K E it σ H _
  refine ⟨B0, H0, Γ, B, s, FinS.fin (r := it Γ) fin s.gro fun ds fin0 J B1 H1 g1 ok1 => ?_⟩
  have fin1 := FinS.mono fin0 g1.b
  have s1 := s.grow g1
  refine ⟨fun i m σ' H' => m = ds.length - i ∧ i ≤ ds.length ∧ ∃ Γ' B', StOk X.K B0 H0 Γ' B' H' σ' ∧ Ex B1 B' ∧ FinS X.K E B0 H0 B' Z (forLoop T F (ds.drop i) Γ'), ⟨ds.length, by simp, Nat.zero_le _, Γ, B1, s1, Ex.refl B1, fin1⟩, ?_⟩
  rintro i m σ' H' ⟨rfl, hi, Γ', B', s', eB, fin'⟩
  by_cases hlt : i < ds.length
  · refine .inr ⟨ok1.goes i H' (eB.trans s'.bh) hlt, fun σ2 H2 => ∃ Γ2 B2, StOk X.K B0 H0 Γ2 B2 H2 σ2 ∧ Ex B1 B2 ∧ FinS X.K E B0 H0 B2 Z (forLoop T F (ds.drop (i + 1)) Γ2), fun σ2 H2 ⟨Γ2, B2, s2, e2, f2⟩ => ⟨ds.length - (i + 1), by omega, rfl, hlt, Γ2, B2, s2, e2, f2⟩, fun x H2 y => ?_⟩
    have hd : ds[i]? = some ds[i] := by simp [hlt]
    obtain ⟨B2, g2, rx⟩ := ok1.yields i B' H' x H2 _ eB s'.bh hd y
    rw [List.drop_eq_getElem_cons hlt] at fin'
    unfold forLoop at fin'
    cases ha : asgn T ds[i] Γ' with
    | bad => rw [ha] at fin'; exact fin'.elim
    | ex C => exact absurd ha (asgn_noex _ _ _ _)
    | ok Γ1 =>
      rw [ha, R.bind_ok] at fin'
      refine ⟨B0, H0, Γ', B2, ds[i], Γ1, s'.grow g2, rx, ha, fun σ3 s3 _ => ⟨B0, H0, Γ1, B2, s3, ?_⟩⟩
      replace fin' := FinS.mono fin' g2.b
      cases hF : F Γ1 with
      | bad => rw [hF] at fin'; exact fin'.elim
      | ex C => rw [hF] at fin'; exact fin'
      | ok o =>
        rw [hF, R.bind_ok] at fin'
        cases o with
        | rt d => exact fin'
        | bk Γ2 => exact fin'
        | nx Γ2 => exact fun σ4 B4 H4 s4 e4 => ⟨Γ2, B4, s4, (eB.trans g2.b).trans e4, FinS.mono (r := forLoop T F (ds.drop (i + 1)) Γ2) fin' e4⟩
        | ct Γ2 => exact fun σ4 B4 H4 s4 e4 => ⟨Γ2, B4, s4, (eB.trans g2.b).trans e4, FinS.mono (r := forLoop T F (ds.drop (i + 1)) Γ2) fin' e4⟩
  · have ei : i = ds.length := by omega
    subst ei
    rw [List.drop_length] at fin'
    exact .inl ⟨ok1.stops H' (eB.trans s'.bh), fin' σ' B' H' s' (Ex.refl B')⟩

theorem js_while {n : Gm → Nat} (hp : PassesOwn (model X.prog X.w) X.A X.env X.xe) (hc : JT X E c t) (hb : JSs X E body F) : JS X E (.While c body [] pos) (sWhile n t F) := PS.weak (ps_while hp hc hb) fun Z σ H ⟨B0, H0, Γ, B, s, fin⟩ => by
  refine ⟨fun m σ' H' => ∃ Γ' B', StOk X.K B0 H0 Γ' B' H' σ' ∧ FinS X.K E B0 H0 B' Z (whileLoop t F m Γ'), ⟨n Γ, Γ, B, s, fin⟩, fun m σ' H' ⟨Γ', B', s', fin'⟩ => ?_⟩
  cases m with
  | zero => exact fin'.elim
  | succ m =>
    unfold whileLoop at fin'
    show tT X.K E t σ' H' _
    refine tS.bind (f := t) s' fin' fun v B1 H1 d s1 gr r fin1 => ?_
    obtain rfl : v = d := r
    cases v with
    | false => exact fin1 σ' B1 H1 s1 (Ex.refl B1)
    | true =>
      refine ⟨fun σ2 H2 => ∃ Γ2 B2, StOk X.K B0 H0 Γ2 B2 H2 σ2 ∧ FinS X.K E B0 H0 B2 Z (whileLoop t F m Γ2), fun σ2 H2 ⟨Γ2, B2, s2, f2⟩ => ⟨m, Nat.lt_succ_self m, Γ2, B2, s2, f2⟩, B0, H0, Γ', B1, s1, ?_⟩
      replace fin1 : FinS X.K E B0 H0 B1 Z (F Γ' >>= fun o => match o with
        | .nx Γ2 => whileLoop t F m Γ2
        | .ct Γ2 => whileLoop t F m Γ2
        | .bk Γ2 => .ok (.nx Γ2)
        | .rt d => .ok (.rt d)) := fin1
      cases hF : F Γ' with
      | bad => rw [hF] at fin1; exact fin1.elim
      | ex C => rw [hF] at fin1; exact fin1
      | ok o =>
        rw [hF, R.bind_ok] at fin1
        cases o with
        | rt d => exact fin1
        | bk Γ2 => exact fin1
        | nx Γ2 => exact fun σ4 B4 H4 s4 e4 => ⟨Γ2, B4, s4, FinS.mono (r := whileLoop t F m Γ2) fin1 e4⟩
        | ct Γ2 => exact fun σ4 B4 H4 s4 e4 => ⟨Γ2, B4, s4, FinS.mono (r := whileLoop t F m Γ2) fin1 e4⟩
end

/-! ### defs -/
def spD (K : Fg) (n : Nat) (Φ : List D → R D) : Sp := fun vs H Q E => vs.length = n ∧ ∃ B ds, Ex B H ∧ RpAll K B vs ds ∧ Fin (Post (Rp K) Q) E B H (Φ ds)
def startG (N : Nat) (ds : List D) : Gm := ds.map Slot.fr ++ List.replicate (N - ds.length) .no
def outD : O → R D
  | .rt d => .ok d
  | .nx _ => .ok .none
  | _ => .bad
/-- a body run upon the arguments -/
def runD (N : Nat) (F : Gm → R O) : List D → R D := fun ds => noX (F (startG N ds) >>= outD)
theorem runD_noex {N : Nat} {F : Gm → R O} {ds : List D} {C : Addr} : runD N F ds ≠ .ex C := by
  unfold runD noX
  split <;> exact fun z => nomatch z
section
variable {P : Program} {w : World} {K : Fg} {mg : Str → Option Value} {base : Heap}
theorem start_ok {N : Nat} {B H : Hp} {vs : List V} {ds : List D} (e : Ex B H) (r : RpAll K B vs ds) (hl : vs.length ≤ N) (Ns : List Str) (hN : Ns.length = N) : StOk K B H (startG N ds) B H (L2.start Ns vs) := by
  have el := r.length
  refine ⟨Gro.refl e, ?_, fun i d h => ?_, fun _ => [], fun i o h => ?_, fun i j o o' a h _ _ => ?_⟩
  · unfold L2.start startG
    simp only [List.length_append, List.length_map, List.length_replicate]
    omega
  · unfold startG at h
    by_cases hi : i < ds.length
    · rw [List.getElem?_append_left (by simpa using hi), List.getElem?_map] at h
      cases q : ds[i]? with
      | none => rw [q] at h; cases h
      | some d' =>
        rw [q] at h
        cases h
        obtain ⟨v, hv, rv⟩ := r.get q
        refine ⟨v, ?_, rv⟩
        unfold L2.start
        rw [List.getElem?_append_left (by simpa using by omega), List.getElem?_map, hv]
        rfl
    · rw [List.getElem?_append_right (by simpa using hi), List.getElem?_replicate] at h
      split at h <;> cases h
  all_goals
    exfalso
    unfold startG at h
    by_cases hi : i < ds.length
    · rw [List.getElem?_append_left (by simpa using hi), List.getElem?_map] at h
      cases q : ds[i]? with
      | none => rw [q] at h; cases h
      | some d' => rw [q] at h; cases h
    · rw [List.getElem?_append_right (by simpa using hi), List.getElem?_replicate] at h
      split at h <;> cases h
theorem fn_ok {x qual : Str} {st : Stmt} {f : Addr} {fd : FuncData} {N ps : List Str} {k : Nat} {F : Gm → R O} (Fu : Fun K x qual st f fd) (S : FnScope N ps (defScope st))
    (hb : ∀ (cdv : Value) (A : Around) (outer : List Env) (s : Shared) (H : Hp) (E : XK), Room k (A.deeper (envOfC qual (defScope st) s.heap.objs.size f cdv)) →
      JSs (cxOf CX0 P w K mg base N qual (defScope st) f cdv A outer s H E).nox X0 (defBody st) F) : FnOk P w K mg base CX0 (k + 1) f fd ps (spD K ps.length (runD N.length F)) := by
  have hpl : ps.length ≤ N.length := by have := congrArg List.length S.pre; rw [List.length_take] at this; omega
  refine Fu.ok S (fun vs H Q E h => h.1) fun cdv A outer s H vs Q E hr h => ?_
  obtain ⟨hl, B, ds, e, r, fin⟩ := h
  refine ⟨_, hb cdv A outer s H E hr, B, H, startG N.length ds, B, start_ok e r (by omega) N rfl, ?_⟩
  unfold runD at fin
  cases hF : F (startG N.length ds) with
  | bad => rw [hF] at fin; exact fin.elim
  | ex C => rw [hF] at fin; exact fin.elim
  | ok o =>
    rw [hF, R.bind_ok] at fin
    cases o with
    | rt d => exact fun v B' H' g rv => fin v B' H' g rv
    | nx Γ => exact fun σ B' H' st' _ => fin .non B' H' st'.gro .non
    | bk Γ => exact fin.elim
    | ct Γ => exact fin.elim
end
section
variable {X : Cx} {E : XK} {e : Expr} {es : List Expr} {t : Gm → R (List D)} {x : Str} {p pos : Pos}
def eCall (n : Nat) (Φ : List D → R D) (t : Gm → R (List D)) : Gm → R D := fun Γ => t Γ >>= fun ds => if ds.length = n then noX (Φ ds) else .bad
theorem je_call {k n : Nat} {f : Addr} {fd : FuncData} {ps : List Str} {Φ : List D → R D} (F : FnOk X.prog X.w X.K X.mg X.base CX0 k f fd ps (spD X.K n Φ)) (hr : Room k X.A) (hg : Gl X x) (hm : X.mg x = some (.ref f)) (hk : PySem.W.keepIn X.K (.ref f) = true) (hb : Binds X.K fd ps [])
    (ha : JA X E (e :: es) t) (hdb : (x == ("__debug__" : Str)) = false := by decide) (he : starEach (e :: es) X.env = (false, eval e X.env) :: starEach es X.env := by rfl) (hpl : (backTo pos (starEach es X.env)).any (·.1) = false := by rfl) :
    JE X E (.Call (.Name x p) (e :: es) [] pos) (eCall n Φ t) := PE.weak (pe_call F hr hg hm hk hb .nil (pass0 (X := X)) ha hdb he hpl) fun σ H Q ⟨B0, H0, Γ, B, s, fin⟩ => by
  show tA X.K E t σ H fun vs H1 => spD X.K n Φ (vs ++ []) H1 Q E0
  refine tP.bind (f := t) Post.clo s fin fun vs B1 H1 ds s1 _ r fin1 => ?_
  split at fin1
  · rename_i hn
    rw [List.append_nil]
    refine ⟨by rw [r.length]; exact hn, B1, ds, s1.bh, r, ?_⟩
    cases hΦ : Φ ds with
    | bad => rw [hΦ] at fin1; exact fin1.elim
    | ex C => rw [hΦ] at fin1; exact fin1.elim
    | ok d => rw [hΦ] at fin1; exact fin1
  · exact fin1.elim
end

/-! ### what is the def's own, read: an expression that gives what cannot change -/
def fBor (f : Gm → R D) : Gm → R D := fun Γ => f (frz Γ) >>= fun d => if imm d = true then .ok d else .bad
def fBorL (f : Gm → R (List D)) : Gm → R (List D) := fun Γ => f (frz Γ) >>= fun ds => if imm.immAll ds = true then .ok ds else .bad
def fBorT (f : Gm → R Bool) : Gm → R Bool := fun Γ => f (frz Γ)
section
variable {K : Fg} {E : XK} {B0 H0 B H : Hp} {Γ : Gm} {σ : Sg}
/-- B, grown by what a run has made that started with all known -/
theorem Gro.hide {B H B' H' : Hp} (e : Ex B H) (g : Gro H H B' H') : ∃ B'', Gro B H B'' H' ∧ (∀ a xs, SqT K B' a xs → SqT K B'' a xs) ∧ ∀ a, H a = none → B'' a = B' a := by
  classical
  let B'' : Hp := fun a => if ∃ o, B a = none ∧ H a = some o ∧ mutO o = true then none else B' a
  have val : ∀ {a : Addr}, (¬ ∃ o, B a = none ∧ H a = some o ∧ mutO o = true) → B'' a = B' a := fun {a} h => if_neg h
  refine ⟨B'', ⟨fun a o q => ?_, fun a o q => ?_, g.h, fun a o h n m => if_pos ⟨o, h, n, m⟩⟩, fun a xs q => ?_, fun a q => val fun ⟨o, _, n, _⟩ => by rw [q] at n; cases n⟩
  · rw [val fun ⟨_, z, _⟩ => by rw [z] at q; cases q]
    exact g.b a o (e a o q)
  · have q' : (if ∃ o, B a = none ∧ H a = some o ∧ mutO o = true then none else B' a) = some o := q
    split at q'
    · cases q'
    · exact g.bh a o q'
  · rcases q with (q | ⟨o, q⟩) | q
    · refine .inl (.inl ?_)
      have nv : ¬ ∃ o, B a = none ∧ H a = some o ∧ mutO o = true := fun ⟨o, _, n, m⟩ => by
        have := g.b a o n
        rw [q] at this
        cases this
        cases m
      rw [val nv]
      exact q
    · refine .inl (.inr ⟨o, ?_⟩)
      have nv : ¬ ∃ o, B a = none ∧ H a = some o ∧ mutO o = true := fun ⟨o', _, n, m⟩ => by
        have := g.b a o' n
        rw [q] at this
        cases this
        cases m
      rw [val nv]
      exact q
    · exact .inr q
variable {X : Cx} {e : Expr} {f : Gm → R D} {fl : Gm → R (List D)} {t : Gm → R Bool}
theorem je_bor (h : JE X E e f) : JE X E e (fBor f) := PE.weak h fun σ H Q ⟨B0, H0, Γ, B, s, fin⟩ => by
  refine ⟨H, H, frz Γ, H, s.frzAll, ?_⟩
  unfold fBor at fin
  cases hf : f (frz Γ) with
  | bad => rw [hf] at fin; exact fin.elim
  | ex C =>
    rw [hf] at fin
    intro B' H' g
    obtain ⟨B'', g', _⟩ := Gro.hide (K := X.K) s.bh g
    exact fin B'' H' g'
  | ok d =>
    rw [hf, R.bind_ok] at fin
    split at fin
    · rename_i hi
      intro v B' H' g r
      obtain ⟨B'', g', ht, _⟩ := Gro.hide (K := X.K) s.bh g
      exact fin v B'' H' g' (r.imm ht hi)
    · exact fin.elim
theorem jl_bor (h : JL X E e fl) : JL X E e (fBorL fl) := PE.weak h fun σ H Q ⟨B0, H0, Γ, B, s, fin⟩ => by
  refine ⟨H, H, frz Γ, H, s.frzAll, ?_⟩
  unfold fBorL at fin
  cases hf : fl (frz Γ) with
  | bad => rw [hf] at fin; exact fin.elim
  | ex C =>
    rw [hf] at fin
    intro B' H' g
    obtain ⟨B'', g', _⟩ := Gro.hide (K := X.K) s.bh g
    exact fin B'' H' g'
  | ok ds =>
    rw [hf, R.bind_ok] at fin
    split at fin
    · rename_i hi
      intro p vs B' H' g n1 n2 e r
      obtain ⟨B'', g', ht, hz⟩ := Gro.hide (K := X.K) s.bh g
      exact fin p vs B'' H' g' (by rw [hz p n2]; exact n1) n2 e (r.imm ht hi)
    · exact fin.elim
theorem jt_bor (h : JT X E e t) : JT X E e (fBorT t) := PT.weak h fun σ H Q ⟨B0, H0, Γ, B, s, fin⟩ => by
  refine ⟨H, H, frz Γ, H, s.frzAll, ?_⟩
  unfold fBorT at fin
  cases hf : t (frz Γ) with
  | bad => rw [hf] at fin; exact fin.elim
  | ex C =>
    rw [hf] at fin
    intro B' H' g
    obtain ⟨B'', g', _⟩ := Gro.hide (K := X.K) s.bh g
    exact fin B'' H' g'
  | ok d =>
    rw [hf] at fin
    intro v B' H' g r
    obtain ⟨B'', g', _⟩ := Gro.hide (K := X.K) s.bh g
    exact fin v B'' H' g' r
end
end DL

/-! The data layer: built-ins. -/
namespace DL
open PySem PySem.Spec PyProof.Rows L2

def CallD (K : Fg) (r : List V → Hp → VK → Prop) (o : List D → R D) : Prop := ∀ (Q : VK) (E : XK) (B H : Hp) (vs : List V) (ds : List D), Ex B H → RpAll K B vs ds → Fin (Post (Rp K) Q) E B H (o ds) → r vs H Q
def CallL (K : Fg) (r : List V → Hp → VK → Prop) (o : List D → R (List D)) : Prop := ∀ (Q : VK) (E : XK) (B H : Hp) (vs : List V) (ds : List D), Ex B H → RpAll K B vs ds → Fin (PostL K Q) E B H (o ds) → r vs H Q
def eCB (o : List D → R D) (t : Gm → R (List D)) : Gm → R D := fun Γ => t Γ >>= o
def lCB (o : List D → R (List D)) (t : Gm → R (List D)) : Gm → R (List D) := fun Γ => t Γ >>= o
section
variable {X : Cx} {E : XK} {K : Fg} {x : Str} {p pos : Pos} {e : Expr} {es : List Expr} {t : Gm → R (List D)} {id T : String} {r : List V → Hp → VK → Prop} {o : List D → R D} {ol : List D → R (List D)}
theorem tCB_of (hd : CallD K r o) {σ : Sg} {H : Hp} {Q : VK} (q : tE K E (eCB o t) σ H Q) : tCB r (tA K E t) σ H Q := by
  obtain ⟨B0, H0, Γ, B, s, fin⟩ := q
  exact tP.bind (f := t) Post.clo s fin fun vs B1 H1 ds s1 _ rv fin1 => hd Q E B1 H1 vs ds s1.bh rv fin1
theorem tCB_ofL (hd : CallL K r ol) {σ : Sg} {H : Hp} {Q : VK} (q : tL K E (lCB ol t) σ H Q) : tCB r (tA K E t) σ H Q := by
  obtain ⟨B0, H0, Γ, B, s, fin⟩ := q
  exact tP.bind (f := t) PostL.clo s fin fun vs B1 H1 ds s1 _ rv fin1 => hd Q E B1 H1 vs ds s1.bh rv fin1
theorem je_callB (hc : CallR X (.builtin id) r) (hd : CallD X.K r o) (hg : Gl X x) (hm : X.mg x = none) (hv : bootBuiltins x = some (.builtin id)) (ha : JA X E (e :: es) t) (hn : x ≠ "__name__" := by decide) (hdb : (x == ("__debug__" : Str)) = false := by decide)
    (he : starEach (e :: es) X.env = (false, eval e X.env) :: starEach es X.env := by rfl) (hpl : (backTo pos (starEach es X.env)).any (·.1) = false := by rfl) : JE X E (.Call (.Name x p) (e :: es) [] pos) (eCB o t) :=
  PE.weak (pe_callB hc hg hm hv ha hn hdb he hpl) fun _ _ _ q => tCB_of hd q
theorem jl_callB (hc : CallR X (.builtin id) r) (hd : CallL X.K r ol) (hg : Gl X x) (hm : X.mg x = none) (hv : bootBuiltins x = some (.builtin id)) (ha : JA X E (e :: es) t) (hn : x ≠ "__name__" := by decide) (hdb : (x == ("__debug__" : Str)) = false := by decide)
    (he : starEach (e :: es) X.env = (false, eval e X.env) :: starEach es X.env := by rfl) (hpl : (backTo pos (starEach es X.env)).any (·.1) = false := by rfl) : JL X E (.Call (.Name x p) (e :: es) [] pos) (lCB ol t) :=
  PE.weak (pe_callB hc hg hm hv ha hn hdb he hpl) fun _ _ _ q => tCB_ofL hd q
theorem je_callTy (hc : CallR X (.type T) r) (hd : CallD X.K r o) (hg : Gl X x) (hm : X.mg x = none) (hv : bootBuiltins x = some (.type T)) (ha : JA X E (e :: es) t) (hn : x ≠ "__name__" := by decide) (hdb : (x == ("__debug__" : Str)) = false := by decide)
    (he : starEach (e :: es) X.env = (false, eval e X.env) :: starEach es X.env := by rfl) (hpl : (backTo pos (starEach es X.env)).any (·.1) = false := by rfl) : JE X E (.Call (.Name x p) (e :: es) [] pos) (eCB o t) :=
  PE.weak (pe_callTy hc hg hm hv ha hn hdb he hpl) fun _ _ _ q => tCB_of hd q
theorem jl_callTy (hc : CallR X (.type T) r) (hd : CallL X.K r ol) (hg : Gl X x) (hm : X.mg x = none) (hv : bootBuiltins x = some (.type T)) (ha : JA X E (e :: es) t) (hn : x ≠ "__name__" := by decide) (hdb : (x == ("__debug__" : Str)) = false := by decide)
    (he : starEach (e :: es) X.env = (false, eval e X.env) :: starEach es X.env := by rfl) (hpl : (backTo pos (starEach es X.env)).any (·.1) = false := by rfl) : JL X E (.Call (.Name x p) (e :: es) [] pos) (lCB ol t) :=
  PE.weak (pe_callTy hc hg hm hv ha hn hdb he hpl) fun _ _ _ q => tCB_ofL hd q
end

/-! ### len, abs, int, all, any, tuple, list -/
def dLen : List D → R D
  | [.str z] => if z.length ≤ 16777216 then .ok (.int z.length) else .bad
  | [.list xs] => .ok (.int xs.length)
  | [.tuple xs] => .ok (.int xs.length)
  | _ => .bad
def dAbs : List D → R D
  | [.int i] => .ok (.int (if i < 0 then -i else i))
  | _ => .bad
def dIntC : List D → R D
  | [.int i] => .ok (.int i)
  | _ => .bad
def asBools : List D → Option (List Bool)
  | [] => some []
  | .bool b :: ds => (asBools ds).map (b :: ·)
  | _ => none
def dAll : List D → R D
  | [.list bs] => match asBools bs with
    | some bs => .ok (.bool (bs.all _root_.id))
    | none => .bad
  | _ => .bad
def dAny : List D → R D
  | [.list bs] => match asBools bs with
    | some bs => .ok (.bool (bs.any _root_.id))
    | none => .bad
  | _ => .bad
def dTuple : List D → R D
  | [.list xs] => .ok (.tuple xs)
  | [.tuple xs] => .ok (.tuple xs)
  | _ => .bad
def dList : List D → R (List D)
  | [.list xs] => .ok xs
  | [.tuple xs] => .ok xs
  | [.str z] => if z.cps.size ≤ 16777216 then .ok (signsD z) else .bad
  | _ => .bad
section
variable {K : Fg}
abbrev rLenA (K : Fg) : List V → Hp → VK → Prop := fun xs H Q => (∃ p ys, xs = [.ref p] ∧ (SqL K H p ys ∨ SqT K H p ys) ∧ Q (.int ys.length) H) ∨ ∃ z, xs = [.str z] ∧ z.length ≤ sizeLine ∧ Q (.int z.length) H
theorem call_lenA {X : Cx} : CallR X (.builtin "len") (rLenA X.K) := call_len_seq.or call_len_str
theorem cd_len : CallD K (rLenA K) dLen := by
  intro Q E B H vs ds ex r fin
  unfold dLen at fin
  split at fin
  · rename_i z
    split at fin
    · rename_i hz
      obtain ⟨v, rfl, rv⟩ := r.one_inv
      exact .inr ⟨z, by rw [rv.str_inv], szl hz, Post.here fin ex (.int _)⟩
    · exact fin.elim
  · rename_i xs
    obtain ⟨v, rfl, rv⟩ := r.one_inv
    obtain ⟨a, us, rfl, ha, ra⟩ := rv.lst_inv
    exact .inl ⟨a, us, rfl, .inl (ex_l ex ha), Post.here fin ex (by rw [ra.length]; exact .int _)⟩
  · rename_i xs
    obtain ⟨v, rfl, rv⟩ := r.one_inv
    obtain ⟨a, us, rfl, ha, ra⟩ := rv.tup_inv
    exact .inl ⟨a, us, rfl, .inr (ex_t ex ha), Post.here fin ex (by rw [ra.length]; exact .int _)⟩
  · exact fin.elim
theorem cd_abs : CallD K (fun xs H Q => ∃ i, xs = [.int i] ∧ Q (.int (if i < 0 then -i else i)) H) dAbs := by
  intro Q E B H vs ds ex r fin
  unfold dAbs at fin
  split at fin
  · rename_i i
    obtain ⟨v, rfl, rv⟩ := r.one_inv
    exact ⟨i, by rw [rv.int_inv], Post.here fin ex (.int _)⟩
  · exact fin.elim
theorem cd_int : CallD K (fun xs H Q => (∃ i, xs = [.int i] ∧ Q (.int i) H) ∨ ∃ k, xs = [.bl k] ∧ Q (.int (if k then 1 else 0)) H) dIntC := by
  intro Q E B H vs ds ex r fin
  unfold dIntC at fin
  split at fin
  · rename_i i
    obtain ⟨v, rfl, rv⟩ := r.one_inv
    exact .inl ⟨i, by rw [rv.int_inv], Post.here fin ex (.int _)⟩
  · exact fin.elim
theorem bools_all {B : Hp} : ∀ {ds : List D} {bs : List Bool} {us : List V}, asBools ds = some bs → RpAll K B us ds → us = bs.map V.bl
  | [], _, _, h, r => by
    cases h
    rw [r.nil_inv]
    rfl
  | d :: ds, bs, us, h, r => by
    cases d with
    | bool b =>
      simp only [asBools] at h
      cases e : asBools ds with
      | none => rw [e] at h; cases h
      | some cs =>
        rw [e] at h
        cases h
        obtain ⟨x, xs, rfl, r1, r2⟩ := r.cons_inv
        rw [r1.bl_inv, bools_all e r2]
        rfl
    | _ => simp [asBools] at h
theorem cd_all : CallD K (rAll K) dAll := by
  intro Q E B H vs ds ex r fin
  unfold dAll at fin
  split at fin
  · rename_i bs
    split at fin
    · rename_i cs h
      obtain ⟨v, rfl, rv⟩ := r.one_inv
      obtain ⟨a, us, rfl, ha, ra⟩ := rv.lst_inv
      exact ⟨a, cs, rfl, by rw [← bools_all h ra]; exact ex_l ex ha, Post.here fin ex (.bl _)⟩
    · exact fin.elim
  · exact fin.elim
theorem cd_any : CallD K (rAny K) dAny := by
  intro Q E B H vs ds ex r fin
  unfold dAny at fin
  split at fin
  · rename_i bs
    split at fin
    · rename_i cs h
      obtain ⟨v, rfl, rv⟩ := r.one_inv
      obtain ⟨a, us, rfl, ha, ra⟩ := rv.lst_inv
      exact ⟨a, cs, rfl, by rw [← bools_all h ra]; exact ex_l ex ha, Post.here fin ex (.bl _)⟩
    · exact fin.elim
  · exact fin.elim
theorem cd_tuple : CallD K (fun xs H Q => ∃ p ys, xs = [.ref p] ∧ ((SqL K H p ys ∧ ∀ l, H l = none → Q (.ref l) (upd H l (.tup ys))) ∨ (SqT K H p ys ∧ Q (.ref p) H))) dTuple := by
  intro Q E B H vs ds ex r fin
  unfold dTuple at fin
  split at fin
  · rename_i xs
    obtain ⟨v, rfl, rv⟩ := r.one_inv
    obtain ⟨a, us, rfl, ha, ra⟩ := rv.lst_inv
    exact ⟨a, us, rfl, .inl ⟨ex_l ex ha, fun l hl => newTup ex ra fin hl⟩⟩
  · rename_i xs
    obtain ⟨v, rfl, rv⟩ := r.one_inv
    obtain ⟨a, us, rfl, ha, ra⟩ := rv.tup_inv
    exact ⟨a, us, rfl, .inr ⟨ex_t ex ha, Post.here fin ex rv⟩⟩
  · exact fin.elim
end
theorem vals_signs {z : Str} {acc : Array Value} (h : ItemsOf (SignAt z) acc z.cps.size) : Vals (z.cps.toList.map fun c => V.str ⟨#[c]⟩) acc.toList := by
  have hl : acc.toList.length = z.cps.toList.length := by rw [Array.length_toList, Array.length_toList]; exact h.1
  have key : ∀ (l : List Nat) (us : List Value), us.length = l.length → (∀ (j : Nat) u, us[j]? = some u → ∃ c t, l[j]? = some c ∧ u = .str ⟨#[c]⟩ t) → Vals (l.map fun c => V.str ⟨#[c]⟩) us := by
    intro l
    induction l with
    | nil =>
      intro us hu _
      have := List.eq_nil_of_length_eq_zero hu
      subst this
      exact .nil
    | cons c l ih =>
      intro us hu hj
      cases us with
      | nil => cases hu
      | cons u us =>
        obtain ⟨c', t, hc, rfl⟩ := hj 0 u rfl
        cases hc
        exact .cons ⟨t, rfl⟩ (ih us (by simpa using hu) fun j u e => by
          obtain ⟨c', t, h1, h2⟩ := hj (j + 1) u (by simpa using e)
          exact ⟨c', t, by simpa using h1, h2⟩)
  refine key _ _ hl fun j u e => ?_
  obtain ⟨c, t, h1, h2⟩ := h.2 j u (by simpa using e)
  exact ⟨c, t, by simpa using h1, h2⟩
theorem call_listS {X : Cx} (hc : X.calm = true) : CallR X (.type "list") (fun xs H Q => ∃ z, xs = [.str z] ∧ z.cps.size ≤ sizeLine ∧ ∀ p, H p = none → Q (.ref p) (upd H p (.lst (z.cps.toList.map fun c => V.str ⟨#[c]⟩)))) := by
  intro pins s σ H xs us Q I r h
  obtain ⟨z, rfl, hz, q⟩ := h
  obtain ⟨u, rfl, t, rfl⟩ := vals1 r
  refine call_list_str (I.ok.hd hc) z t (fun h' tk acc c' kp e it => ?_) hz
  have rv := vals_signs it
  refine ⟨.ref s.heap.objs.size, _, I.laid (t' := tk) (o := .lst (z.cps.toList.map fun c => V.str ⟨#[c]⟩)) kp (Nat.le_refl _) ?_, rfl, q _ (I.hok.fresh (Nat.le_refl _))⟩
  exact ⟨by rw [List.length_map, Array.length_toList]; exact hz, acc.toList, c', rv, by rw [Array.toArray_toList]; exact e⟩
abbrev rListA (K : Fg) : List V → Hp → VK → Prop := fun xs H Q => (∃ p ys, xs = [.ref p] ∧ (SqL K H p ys ∨ SqT K H p ys) ∧ ∀ l, H l = none → Q (.ref l) (upd H l (.lst ys))) ∨ ∃ z, xs = [.str z] ∧ z.cps.size ≤ sizeLine ∧ ∀ p, H p = none → Q (.ref p) (upd H p (.lst (z.cps.toList.map fun c => V.str ⟨#[c]⟩)))
theorem call_listA {X : Cx} (hc : X.calm = true) : CallR X (.type "list") (rListA X.K) := call_list_of.or (call_listS hc)
theorem signs_all {K : Fg} {B : Hp} (z : Str) : RpAll K B (z.cps.toList.map fun c => V.str ⟨#[c]⟩) (signsD z) := by
  unfold signsD
  induction z.cps.toList with
  | nil => exact .nil
  | cons c l ih => exact .cons (.str _) ih
theorem cl_list {K : Fg} : CallL K (rListA K) dList := by
  intro Q E B H vs ds ex r fin
  unfold dList at fin
  split at fin
  · rename_i xs
    obtain ⟨v, rfl, rv⟩ := r.one_inv
    obtain ⟨a, us, rfl, ha, ra⟩ := rv.lst_inv
    exact .inl ⟨a, us, rfl, .inl (ex_l ex ha), fun l hl => newLst ex ra fin hl⟩
  · rename_i xs
    obtain ⟨v, rfl, rv⟩ := r.one_inv
    obtain ⟨a, us, rfl, ha, ra⟩ := rv.tup_inv
    exact .inl ⟨a, us, rfl, .inr (ex_t ex ha), fun l hl => newLst ex ra fin hl⟩
  · rename_i z
    split at fin
    · rename_i hz
      obtain ⟨v, rfl, rv⟩ := r.one_inv
      exact .inr ⟨z, by rw [rv.str_inv], szl hz, fun p hp => newLst ex (signs_all z) fin hp⟩
    · exact fin.elim
  · exact fin.elim

/-! ### isinstance(x, T) -/
def tyName : D → String
  | .none => "NoneType"
  | .bool _ => "bool"
  | .int _ => "int"
  | .str _ => "str"
  | .list _ => "list"
  | .tuple _ => "tuple"
  | .dict _ => "dict"
def dIsi (T : String) (d : D) : R D := match kitB (tyName d) T with
  | some b => .ok (.bool b)
  | none => .bad
theorem Rp.tyX {K : Fg} {B H : Hp} (ex : Ex B H) {v : V} {d : D} (r : Rp K B v d) : TyX K H v (.type (tyName d)) := by
  cases r with
  | non => exact .base .non
  | bl b => exact .base (.bl b)
  | int i => exact .base (.int i)
  | str x => exact .base (.str x)
  | lst h _ =>
    rcases ex_l ex h with (h | ⟨o, h⟩) | ⟨o, its, n, h, c, _⟩
    · exact .base (.lst h)
    · exact .base (.frz h)
    · exact .kList h c
  | tup h _ =>
    rcases ex_t ex h with (h | ⟨o, h⟩) | ⟨o, its, n, h, c, _⟩
    · exact .base (.tup h)
    · exact .fTuple h
    · exact .kTuple h c
  | dT h _ => exact .base (.dT (ex _ _ h))
section
variable {X : Cx} {E : XK} {a : Expr} {f : Gm → R D} {tn : Str} {T : String} {p p2 pos : Pos}
theorem je_isi (hg : Gl X "isinstance") (hm : X.mg "isinstance" = none) (ha : JE X E a f) (hgT : Gl X tn) (hmT : X.mg tn = none) (hvT : bootBuiltins tn = some (.type T)) (hnT : tn ≠ "__name__" := by decide) (hdT : (tn == ("__debug__" : Str)) = false := by decide)
    (hs : starEach (a :: [.Name tn p2]) X.env = (false, eval a X.env) :: starEach [.Name tn p2] X.env := by rfl) (hs2 : starEach (.Name tn p2 :: []) X.env = (false, eval (.Name tn p2) X.env) :: starEach [] X.env := by rfl)
    (hpl : (backTo pos (starEach [.Name tn p2] X.env)).any (·.1) = false := by rfl) :
    JE X E (.Call (.Name "isinstance" p) [a, .Name tn p2] [] pos) (e1 (dIsi T) f) := PE.weak (pe_callB call_isi hg hm (by decide +kernel) (pa_cons ha (pa_cons (pe_bltn (v := .ty T) hgT hmT hvT rfl hnT hdT) pa_nil hs2) hs) (by decide) (by decide) hs hpl) fun σ H Q ⟨B0, H0, Γ, B, s, fin⟩ => by
  show tE X.K E f σ H fun x H1 => rIsi X.K [x, .ty T] H1 Q
  refine tP.bind (f := f) Post.clo s fin fun v B1 H1 d s1 _ r fin1 => ?_
  unfold dIsi at fin1
  split at fin1
  · rename_i b h
    exact ⟨v, .ty T, _, _, b, rfl, .ty T, r.tyX s1.bh, kit_ty h, Post.here fin1 s1.bh (.bl b)⟩
  · exact fin1.elim
end
end DL

/-! The data layer: sorted; texts' methods. -/
namespace PySem.W
open PySem PySem.Calls PyProof.Rows
section
variable {prog : Program} {w : World} {A : Around} {E : Value → Shared → Prop} {s : Shared}
theorem dl_collect_tup {l : Addr} {vs : List Value} {Q : List Value → Shared → Prop} (hl : s.heap.IsTuple l vs.toArray)
    (h : Q vs { s with heap := (s.heap.push (seqObj "list" #[] 0)).update s.heap.objs.size (Obj.mapSeq (· ++ vs.toArray)) }) (hsz : vs.length ≤ sizeLine) :
    wpAny (model prog w) A (collect (.ref l)) Q E s := by
  obtain ⟨o, ho, hc, n, hd⟩ := id hl
  unfold collect
  refine wpAny_bind (wpAny_runValue (codeAny_builtin entry_proto_collect' ?_))
  show wpAny _ _ (do again (.builtin "list.__iadd__" ⟨[← newList [], .ref l], []⟩)) _ _ s
  refine wpAny_bind (wpAny_newList (wpAny_pure ⟨Code.quiet_builtin _ (by decide +kernel), codeAny_builtin entry_list_iadd' ?_⟩))
  show wpAny _ _ (Builtin.List.listExtendWith (.ref s.heap.objs.size) (.ref l) (.ref s.heap.objs.size)) _ _ { s with heap := s.heap.push (seqObj "list" #[] 0) }
  unfold Builtin.List.listExtendWith
  have ho' : (s.heap.push (seqObj "list" #[] 0)).get? l = some o := Heap.get?_push_of_some _ ho
  refine wpAny_bind (wpAny_typeOf (T := "tuple") ⟨o, ho', hc⟩ ?_)
  have ht : (Value.type "tuple" == Value.type "tuple") = true := by rfl
  rw [if_pos (by rw [ht]; simp)]
  refine wpAny_bind (listItems_at ho' hd ?_)
  refine wpAny_bind (listItems_at (xs := #[]) (n := 0) (Heap.get?_push_size _ rfl) rfl ?_)
  rw [if_neg (by simp)]
  refine wpAny_bind (listUpdate_at (xs := #[]) (n := 0) (Heap.get?_push_size _ rfl) rfl ?_ (Nat.zero_le _) (by show (#[] ++ vs.toArray).size ≤ sizeLine + 1; simp only [Array.size_append, List.size_toArray, List.length_nil]; omega))
  refine wpAny_pure ?_
  show wpAny (model prog w) A (do
      let o ← load s.heap.objs.size
      match o.data with
      | .seq xs _ => pure xs.toList
      | _ => unsupported "internal:collect") Q E { s with heap := (s.heap.push (seqObj "list" #[] 0)).update s.heap.objs.size (Obj.mapSeq (· ++ vs.toArray)) }
  refine wpAny_bind (wpAny_load (get?_update_seq (Heap.get?_push_size _ rfl) _) ?_)
  show wpAny _ _ (pure ((#[] : Array Value) ++ vs.toArray).toList) Q E _
  rw [show ((#[] : Array Value) ++ vs.toArray).toList = vs by simp]
  exact wpAny_pure h
theorem dl_sorted_tup {l : Addr} {vs : List Value} {Q : Value → Shared → Prop} (hl : s.heap.IsTuple l vs.toArray) (hL : vs.length ≤ sizeLine)
    (body : ∀ E' : Value → Shared → Prop, wpAny (model prog w) A.in1.in1 (Builtin.«list.sort» ⟨[.ref (s.heap.objs.size + 1)], []⟩) (fun f s' => f = .done (.ret .none) ∧ Q (.ref (s.heap.objs.size + 1)) s') E' { s with heap := copyHeap s.heap vs }) :
    wpAny (model prog w) A (call (.builtin "sorted") [.ref l] []) Q E s := by
  refine call_function_entry_kw kind_sorted plain_sorted entry_sorted (args_sorted1 _) ?_
  unfold Builtin.«sorted»
  refine wpAny_bind (m := checkCount "sorted" 1 1 _) (wpAny_pure ?_)
  refine wpAny_bind (dl_collect_tup hl ?_ hL)
  refine wpAny_bind (wpAny_newList ?_ hL)
  have hsz : ((s.heap.push (seqObj "list" #[] 0)).update s.heap.objs.size (Obj.mapSeq (· ++ vs.toArray))).objs.size = s.heap.objs.size + 1 := by
    rw [Heap.size_update, size_push']
  show wpAny _ _ _ _ _ { s with heap := copyHeap s.heap vs }
  rw [hsz]
  refine wpAny_bind (wpAny_holding (wpAny_call_entry_kw slot_list_sort ⟨_, copyHeap_at s.heap vs, rfl⟩ entry_list_sort ?body (args_list_sort _)))
  case body =>
    show wpAny (model prog w) A.in1.in1 (Builtin.«list.sort» ⟨[.ref (s.heap.objs.size + 1)], []⟩) _ _ _
    refine wpAny_mono (body _) (fun f s' hf => ?_) fun _ _ e => e
    obtain ⟨rfl, hq⟩ := hf
    exact ⟨_, rfl, wpAny_pure ⟨_, rfl, hq⟩⟩
variable {β : Type} {bs : List β} {vs : List Value} {R : Value → β → Prop} {enc : β → PyData}
/-- sorted(t), t a tuple -/
theorem dl_sorted_tup_data {l : Addr} {Q : Value → Shared → Prop} (hl : s.heap.IsTuple l vs.toArray) (e : EachIs R vs bs) (er : EachIs (fun v b => ∃ as, Reads s.heap v (enc b) as) vs bs) (hal : AllAlike (bs.map enc)) (hk : Sortable (bs.map enc)) (hL : bs.length ≤ sizeLine)
    (hu : ∀ b, b ∈ bs → A.units + 2 + (enc b).depth < cLine) (h : ∀ out, out.length = bs.length → EachIs R out (bs.mergeSort (dataLe false enc)) → Q (.ref (s.heap.objs.size + 1)) { s with heap := sortedAll s.heap vs (List.toArray out) }) :
    wpAny (model prog w) A (call (.builtin "sorted") [.ref l]) Q E s := by
  have er' : EachIs (fun v b => ∃ as, Reads (sortingHeap (copyHeap s.heap vs) (s.heap.objs.size + 1) vs) v (enc b) as) vs bs := er.mono fun _ _ ⟨as, r⟩ => ⟨as, PyProof.Rows.Reads.keeps (fun _ _ => sorting_copy_old) r⟩
  have S := SortsAt.data (prog := prog) (w := w) (A := A.in1.in1) (s := { s with heap := sortingHeap (copyHeap s.heap vs) (s.heap.objs.size + 1) vs }) (each_map (R := fun v d => ∃ as, Reads (sortingHeap (copyHeap s.heap vs) (s.heap.objs.size + 1) vs) v d as) enc er') hal hk (bound_map hu)
  have hL' : vs.length ≤ sizeLine := by rw [e.length]; exact hL
  exact dl_sorted_tup hl hL' fun _ => list_sort_vals (s := { s with heap := copyHeap s.heap vs }) (copyHeap_at s.heap vs) S hL' ⟨rfl, h _ (by rw [sortVals_length false rfl]; exact e.length) (sortVals_data false e er' hal)⟩
end
end PySem.W
namespace DL
open PySem PySem.Spec PyProof.Rows L2

/-! ### sorted -/
abbrev dLeD : D → D → Bool := PySem.W.dataLe false (fun d => d)
def isTup1 : D → Bool
  | .tuple (_ :: _) => true
  | _ => false
def isAtomS : D → Bool
  | .none => false
  | .tuple _ => false
  | _ => true
/-- what sorted is asked of -/
def sortOk (xs : List D) : Bool := decide (xs.length ≤ 16777216) && (xs.all fun a => xs.all fun b => PySem.W.alike a b) && (xs.all isTup1 || xs.all isAtomS) && (xs.all fun d => SeqAt.shaped d && decide (d.depth ≤ 60))
def sortD (xs : List D) : R (List D) := if sortOk xs = true then .ok (xs.mergeSort dLeD) else .bad
def dSorted : List D → R (List D)
  | [.list xs] => sortD xs
  | [.tuple xs] => sortD xs
  | _ => .bad
theorem sortOk_parts {xs : List D} (h : sortOk xs = true) : xs.length ≤ sizeLine ∧ PySem.W.AllAlike xs ∧ PySem.W.Sortable xs ∧ ∀ d ∈ xs, SeqAt.shaped d = true ∧ d.depth ≤ 60 := by
  unfold sortOk at h
  simp only [Bool.and_eq_true, Bool.or_eq_true, decide_eq_true_eq, List.all_eq_true] at h
  obtain ⟨⟨⟨h1, h2⟩, h3⟩, h4⟩ := h
  refine ⟨szl h1, fun d hd d' hd' => h2 d hd d' hd', ?_, h4⟩
  rcases h3 with h3 | h3
  · refine .inl fun d hd => ?_
    have := h3 d hd
    unfold isTup1 at this
    split at this
    · exact ⟨_, _, rfl⟩
    · cases this
  · refine .inr fun d hd => ?_
    have := h3 d hd
    unfold isAtomS at this
    refine ⟨fun z => by subst z; simp at this, fun ys z => by subst z; simp at this⟩
section
variable {X : Cx}
theorem each_vals {K : Fg} {H : Hp} {h : Heap} (rd : ∀ v d u, Rp K H v d → SeqAt.shaped d = true → RelV v u → ∃ as, Reads h u d as) : ∀ {vs : List V} {ds : List D} {us : List Value}, RpAll K H vs ds → (∀ d ∈ ds, SeqAt.shaped d = true) → Vals vs us →
    PySem.W.EachIs (fun (u : Value) (p : V × D) => RelV p.1 u ∧ Rp K H p.1 p.2) us (vs.zip ds) ∧ PySem.W.EachIs (fun (u : Value) (p : V × D) => ∃ as, Reads h u p.2 as) us (vs.zip ds)
  | _, _, _, .nil, _, r => by cases r; exact ⟨.nil, .nil⟩
  | _, _, _, .cons a t, hs, r => by
    cases r with
    | cons q r =>
      obtain ⟨h1, h2⟩ := each_vals rd t (fun d hd => hs d (List.mem_cons_of_mem _ hd)) r
      exact ⟨.cons ⟨q, a⟩ h1, .cons (rd _ _ _ a (hs _ List.mem_cons_self) q) h2⟩
theorem each_back {K : Fg} {H : Hp} : ∀ {us : List Value} {ps : List (V × D)}, PySem.W.EachIs (fun (u : Value) (p : V × D) => RelV p.1 u ∧ Rp K H p.1 p.2) us ps → Vals (ps.map (·.1)) us ∧ RpAll K H (ps.map (·.1)) (ps.map (·.2))
  | _, _, .nil => ⟨.nil, .nil⟩
  | _, _, .cons h t => ⟨.cons h.1 (each_back t).1, .cons h.2 (each_back t).2⟩
theorem zip_snd : ∀ {vs : List V} {ds : List D}, vs.length = ds.length → (vs.zip ds).map (·.2) = ds
  | [], [], _ => rfl
  | v :: vs, d :: ds, h => by
    rw [List.zip_cons_cons, List.map_cons, zip_snd (by simpa using h)]
  | [], _ :: _, h => by cases h
  | _ :: _, [], h => by cases h
/-- sorted of a list, a tuple: at the heap, by the data -/
def rSortD (K : Fg) : List V → Hp → VK → Prop := fun xs H Q => ∃ a us ds B, xs = [.ref a] ∧ (SqL K H a us ∨ SqT K H a us) ∧ Ex B H ∧ RpAll K B us ds ∧ sortOk ds = true ∧ ∀ p zs, H p = none → RpAll K B zs (ds.mergeSort dLeD) → Q (.ref p) (upd H p (.lst zs))
theorem cr_sortD (hu : X.A.units + 64 < cLine) : CallR X (.builtin "sorted") (rSortD X.K) := by
  intro pins s σ H xs us Q I r h
  obtain ⟨a, vs, ds, B, rfl, hs, ex, ra, ok, q⟩ := h
  obtain ⟨hz, hal, hk, hsd⟩ := sortOk_parts ok
  rw [Vals.ref1 r]
  have hl := ra.length
  have fin : ∀ (its : List Value), Vals vs its → ∀ out : List Value, out.length = (vs.zip ds).length → PySem.W.EachIs (fun (u : Value) (p : V × D) => RelV p.1 u ∧ Rp X.K B p.1 p.2) out ((vs.zip ds).mergeSort (PySem.W.dataLe false (·.2))) →
      EP X pins σ Q (.ref (s.heap.objs.size + 1)) { s with heap := sortedAll s.heap its (List.toArray out) } := fun its rv out ho eo => by
    obtain ⟨k1, k2⟩ := each_back eo
    obtain ⟨ep, he'⟩ := PyProof.Rows.sortedAll_at s.heap its out.toArray
    have em : ((vs.zip ds).mergeSort (PySem.W.dataLe false (·.2))).map (·.2) = ds.mergeSort dLeD := by
      have z := PySem.W.sort_maps (r := PySem.W.dataLe false fun p : V × D => p.2) (s := dLeD) (fun p : V × D => p.2) (l := vs.zip ds) fun a _ b _ => rfl
      rw [zip_snd hl] at z
      exact z
    rw [em] at k2
    have hlen : (((vs.zip ds).mergeSort (PySem.W.dataLe false (·.2))).map (·.1)).length ≤ sizeLine := by
      rw [List.length_map, List.length_mergeSort, List.length_zip]
      omega
    exact ⟨.ref _, _, I.laid (t' := s.toks) (o := .lst (((vs.zip ds).mergeSort (PySem.W.dataLe false (·.2))).map (·.1))) (fun _ _ => PyProof.Rows.sortedAll_old) (Nat.le_succ _) ⟨hlen, out, ep, k1, he'⟩, rfl, q _ _ (I.hok.fresh (Nat.le_succ _)) k2⟩
  have hal' : PySem.W.AllAlike ((vs.zip ds).map (·.2)) := by rw [zip_snd hl]; exact hal
  have hk' : PySem.W.Sortable ((vs.zip ds).map (·.2)) := by rw [zip_snd hl]; exact hk
  have hL' : (vs.zip ds).length ≤ sizeLine := by rw [List.length_zip]; omega
  have hu' : ∀ b, b ∈ vs.zip ds → X.A.units + 2 + b.2.depth < cLine := fun b hb => by
    have hm : b.2 ∈ ds := (List.of_mem_zip (a := b.1) (b := b.2) hb).2
    have := (hsd _ hm).2
    omega
  have rd : ∀ v d u, Rp X.K B v d → SeqAt.shaped d = true → RelV v u → ∃ as, Reads s.heap u d as := fun v d u rv hs ru => Dp.reads I d v u (Rp.dp hs (rv.mono ex)) ru
  rcases hs with hs | hs
  · obtain ⟨its, rv, hl1, hz1⟩ := I.list hs
    obtain ⟨e1, e2⟩ := each_vals rd ra (fun d hd => (hsd d hd).1) rv
    exact PySem.W.sorted_data hl1.isList e1 e2 hal' hk' hL' hu' fun out ho eo => fin its rv out ho eo
  · obtain ⟨its, rv, ht, hz1⟩ := I.tuple hs
    obtain ⟨e1, e2⟩ := each_vals rd ra (fun d hd => (hsd d hd).1) rv
    exact PySem.W.dl_sorted_tup_data (show s.heap.IsTuple a its.toArray from ht) e1 e2 hal' hk' hL' hu' fun out ho eo => fin its rv out ho eo
theorem sortD_fin {K : Fg} {P : Hp → Hp → List D → Prop} {E : XK} {B H : Hp} {xs : List D} (fin : Fin P E B H (sortD xs)) : sortOk xs = true ∧ P B H (xs.mergeSort dLeD) := by
  unfold sortD at fin
  split at fin
  · rename_i h; exact ⟨h, fin⟩
  · exact fin.elim
theorem cl_sorted {K : Fg} : CallL K (rSortD K) dSorted := by
  intro Q E B H vs ds ex r fin
  unfold dSorted at fin
  split at fin
  · rename_i xs
    obtain ⟨v, rfl, rv⟩ := r.one_inv
    obtain ⟨a, us, rfl, ha, ra⟩ := rv.lst_inv
    obtain ⟨ok, pq⟩ := sortD_fin (K := K) fin
    exact ⟨a, us, xs, B, rfl, .inl (ex_l ex ha), ex, ra, ok, fun p zs hp rz => newLst ex rz pq hp⟩
  · rename_i xs
    obtain ⟨v, rfl, rv⟩ := r.one_inv
    obtain ⟨a, us, rfl, ha, ra⟩ := rv.tup_inv
    obtain ⟨ok, pq⟩ := sortD_fin (K := K) fin
    exact ⟨a, us, xs, B, rfl, .inr (ex_t ex ha), ex, ra, ok, fun p zs hp rz => newLst ex rz pq hp⟩
  · exact fin.elim
end

/-! ### ''.join(xs) -/
def asStrs : List D → Option (List Str)
  | [] => some []
  | .str x :: ds => (asStrs ds).map (x :: ·)
  | _ => none
def asS : D → R Str
  | .str x => .ok x
  | _ => .bad
def dJoin (a : Str) : D → R D
  | .list xs => match asStrs xs with
    | some ys => if (ys.map (·.length)).sum + ys.length * a.length ≤ 16777216 then .ok (.str (Txt.join a ys)) else .bad
    | none => .bad
  | _ => .bad
def eJoin (f g : Gm → R D) : Gm → R D := fun Γ => f Γ >>= fun d => asS d >>= fun a => g Γ >>= dJoin a
section
variable {X : Cx} {E : XK} {o e : Expr} {f g : Gm → R D} {apos pos : Pos}
theorem strs_all {K : Fg} {B : Hp} : ∀ {ds : List D} {ys : List Str} {us : List V}, asStrs ds = some ys → RpAll K B us ds → us = ys.map V.str
  | [], _, _, h, r => by
    cases h
    rw [r.nil_inv]
    rfl
  | d :: ds, ys, us, h, r => by
    cases d with
    | str x =>
      simp only [asStrs] at h
      cases e : asStrs ds with
      | none => rw [e] at h; cases h
      | some cs =>
        rw [e] at h
        cases h
        obtain ⟨v, vs, rfl, r1, r2⟩ := r.cons_inv
        rw [r1.str_inv, strs_all e r2]
        rfl
    | _ => simp [asStrs] at h
theorem je_join (ho : JE X E o f) (he : JE X E e g) (hs : starEach [e] X.env = [(false, eval e X.env)] := by rfl) (hbase : attributeBase o "join" X.env (eval o X.env) = eval o X.env := by rfl) (hline : (apos.endLine == pos.line) = true := by rfl) :
    JE X E (.Call (.Attribute o "join" apos) [e] [] pos) (eJoin f g) := PE.weak (pe_join ho he hs hbase hline) fun σ H Q ⟨B0, H0, Γ, B, s, fin⟩ => by
  show tE X.K E f σ H fun x H1 => (∃ a, x = .str a) ∧ tE X.K E g σ H1 fun y H2 => ∃ a p, ∃ ys : List Str, x = .str a ∧ [y] = [.ref p] ∧ (SqL X.K H2 p (ys.map V.str) ∨ SqT X.K H2 p (ys.map V.str)) ∧ (ys.map (·.length)).sum + ys.length * a.length ≤ 16777216 ∧ Q (.str (Txt.join a ys)) H2
  refine tP.bind (f := f) Post.clo s fin fun v B1 H1 d s1 _ r fin1 => ?_
  cases d with
  | str a =>
    refine ⟨⟨a, r.str_inv⟩, ?_⟩
    refine tP.bind (f := g) (g := dJoin a) Post.clo s1 fin1 fun w B2 H2 d2 s2 _ r2 fin2 => ?_
    unfold dJoin at fin2
    split at fin2
    · rename_i xs
      split at fin2
      · rename_i ys hy
        split at fin2
        · rename_i hz
          obtain ⟨p, us, rfl, hp, ra⟩ := r2.lst_inv
          exact ⟨a, p, ys, r.str_inv, rfl, .inl (by rw [← strs_all hy ra]; exact ex_l s2.bh hp), hz, Post.here fin2 s2.bh (.str _)⟩
        · exact fin2.elim
      · exact fin2.elim
    · exact fin2.elim
  | _ => exact fin1.elim
end
end DL

/-! The data layer: what a printed text leans on; list + list, tuple[::-1]. -/
namespace HT
open PySem PySem.Spec PyProof.Rows L2
section
variable {prog : Program} {w : World} {A : Around} {E : Value → Shared → Prop} {s : Shared}
theorem sliceApplied_rev {sl : Addr} {vs : Value} {n : Nat} {Q : Int × Int × Nat → Shared → Prop} (hs : s.heap.IsSliceOf sl .none .none vs) (ps : IsPart vs (some (-1)))
    (h : Q ((n : Int) - 1, -1, n) s) : wpAny (model prog w) A (Builtin.Slice.sliceApplied (.ref sl) (pure (n : Int))) Q E s := by
  obtain ⟨os, hos, hcs, hds⟩ := id hs
  unfold Builtin.Slice.sliceApplied Builtin.Slice.sliceFields
  refine wpAny_bind (wpAny_bind (wpAny_field hos hds (x := .none) rfl (wpAny_bind (wpAny_field hos hds (x := .none) rfl (wpAny_bind (wpAny_field hos hds (x := vs) rfl (wpAny_pure ?_)))))))
  refine wpAny_bind (slicePart_ ps ?_)
  show wpAny _ _ (if ((-1 : Int) == 0) = true then _ else _) _ _ s
  rw [if_neg (by decide)]
  refine wpAny_bind (slicePart_none (wpAny_bind (slicePart_none (wpAny_bind (wpAny_pure ?_)))))
  show wpAny _ _ (match Builtin.Slice.sliceAdjust none none (-1) (n : Int) with | (lo, hi) => pure (lo, (-1 : Int), Builtin.Slice.slicePlaces lo hi (-1))) _ _ s
  have e1 : Builtin.Slice.sliceAdjust none none (-1) (n : Int) = ((n : Int) - 1, -1) := rfl
  rw [e1]
  have e2 : Builtin.Slice.slicePlaces ((n : Int) - 1) (-1) (-1) = n := by
    unfold Builtin.Slice.slicePlaces
    rw [if_neg (by decide)]
    by_cases h : 0 < n
    · rw [if_pos (by omega)]
      have : ((n : Int) - 1 - -1 - 1) / - -1 = (n : Int) - 1 := by
        have : (- -1 : Int) = 1 := by decide
        rw [this, Int.ediv_one]
        omega
      rw [this]
      omega
    · rw [if_neg (by omega)]
      omega
  show wpAny _ _ (pure ((n : Int) - 1, (-1 : Int), Builtin.Slice.slicePlaces ((n : Int) - 1) (-1) (-1))) _ _ s
  rw [e2]
  exact wpAny_pure h
theorem pick_rev (xs : Array Value) : ((List.range xs.size).filterMap fun (k : Nat) => xs[(((xs.size : Int) - 1) + (k : Int) * -1).toNat]?) = xs.toList.reverse := by
  apply List.ext_getElem?
  have key : ∀ n : Nat, n ≤ xs.size → ((List.range n).filterMap fun (k : Nat) => xs[(((xs.size : Int) - 1) + (k : Int) * -1).toNat]?) = xs.toList.reverse.take n := by
    intro n
    induction n with
    | zero => intro _; simp
    | succ n ih =>
      intro h
      rw [List.range_succ, List.filterMap_append, ih (by omega)]
      have e : (((xs.size : Int) - 1) + (n : Int) * -1).toNat = xs.size - 1 - n := by omega
      have hlt : xs.size - 1 - n < xs.size := by omega
      have e2 : xs[xs.size - 1 - n]? = some xs[xs.size - 1 - n] := by simp [hlt]
      simp only [List.filterMap_cons, List.filterMap_nil, e, e2]
      rw [List.take_succ]
      congr 1
      have hl : n < xs.toList.reverse.length := by simp; omega
      rw [List.getElem?_eq_getElem hl]
      simp
  intro i
  rw [key xs.size (Nat.le_refl _), List.take_of_length_le (by simp)]
theorem getItem_tuple_rev {t sl : Addr} {items : Array Value} {vs : Value} {Q : Value → Shared → Prop} (ht : IsTup s.heap t items) (hs : s.heap.IsSliceOf sl .none .none vs) (ps : IsPart vs (some (-1)))
    (h : Q (.ref s.heap.objs.size) { s with heap := s.heap.push { cls := .type "tuple", data := .seq items.toList.reverse.toArray } })
    (hsz : items.size ≤ sizeLine) : wpAny (model prog w) A (getItem (.ref t) (.ref sl)) Q E s := by
  have htake : sizeOk (.seq items.toList.reverse.toArray) := by
    show items.toList.reverse.toArray.size ≤ sizeLine
    simpa using hsz
  obtain ⟨os, hos, hcs, hds⟩ := id hs
  have hTs : s.TypeIs (.ref sl) "slice" := ⟨os, hos, hcs⟩
  unfold getItem
  try with_reducible refine wpAny_holding ?_
  first | refine wpAny_bind (wpAny_pure ?_) | skip
  refine wpAny_bind (wpAny_sequenceKey ht.typeIs (by decide) ?_)
  refine wpAny_bind (wpAny_callSpecial?_slot (name := Str.ofString "__getitem__") ht.typeIs PyProof.Rows.slot_tuple_getitem
    (wpAny_call_entry PyProof.Rows.slot_tuple_getitem ht.typeIs entry_tuple_getitem ?_ (args_tuple_getitem _ _)))
  show wpAny _ _ (Builtin.Tuple.tupleItemsOf (.ref t) >>= _) _ _ s
  refine wpAny_bind (tupleItemsOf_ ht ?_)
  refine wpAny_bind (wpAny_typeOf hTs ?_)
  rw [if_pos (by decide)]
  refine wpAny_bind (sliceApplied_rev hs ps ?_)
  have hno : ¬ ((((items.size : Int) - 1) == 0 && (-1 : Int) == 1 && items.size == items.size) = true) := by
    intro q
    rw [Bool.and_eq_true, Bool.and_eq_true] at q
    exact absurd q.1.2 (by decide)
  show wpAny _ _ (if (((items.size : Int) - 1) == 0 && (-1 : Int) == 1 && items.size == items.size) = true then _ else _) _ _ s
  rw [if_neg hno, pick_rev]
  first
    | exact wpAny_bind (m := Builtin.Tuple.tupleExact _) (wpAny_newObj_type (wpAny_pure ⟨_, rfl, wpAny_pure h⟩) htake)
    | exact wpAny_bind (m := Builtin.Tuple.tupleExact _) (wpAny_newObj_type (wpAny_bind (wpAny_pure (wpAny_pure ⟨_, rfl, wpAny_pure h⟩))) htake)
end
end HT
namespace DL
open PySem PySem.Spec PyProof.Rows L2

/-! ### t[::-1] -/
def tRevT (K : Fg) (te : TE) : TE := fun σ H Q => te σ H fun x H1 => ∃ a xs, x = .ref a ∧ SqT K H1 a xs ∧ ∀ p, H1 p = none → Q (.ref p) (upd H1 p (.tup xs.reverse))
section
variable {X : Cx} {E : XK}
theorem pe_revT {e : Expr} {te : TE} {k : Nat} {p1 p2 p3 pos : Pos} (he : PE X e te) : PE X (.Subscript e (.Slice none none (some (.UnaryOp .USub (.Constant (.int 1) k p1) p2)) p3) pos) (tRevT X.K te) := by
  refine ⟨fun pins s σ H Q I h => ?_⟩
  refine Subscript_ (thn (he.run pins s σ H _ I h) fun v s1 ⟨x, H1, I1, r1, q1⟩ => ?_)
  obtain ⟨a, xs, ex, hx, q⟩ := q1
  subst ex
  cases r1
  have hst : PO X (some (.UnaryOp .USub (.Constant (.int 1) k p1) p2)) (tPart (tUn (rU fun i => .int (-i)) (tC (.int 1)))) := po_some (pe_un un_neg pe_int)
  refine wpAny_Slice (thn (po_none.run pins s1 σ H1 (fun o H2 => o = none ∧ H2 = H1) I1 ⟨rfl, rfl⟩) fun vl s2 ⟨l, H2, I2, pl, el, e2⟩ => ?_)
  subst el e2
  refine thn (po_none.run pins s2 σ H2 (fun o H3 => o = none ∧ H3 = H2) I2 ⟨rfl, rfl⟩) fun vu s3 ⟨u, H3, I3, pu, eu, e3⟩ => ?_
  subst eu e3
  refine thn (hst.run pins s3 σ H3 (fun o H4 => o = some (-1) ∧ H4 = H3) I3 ⟨1, rfl, -1, rfl, rfl, rfl⟩) fun vs s4 ⟨o, H4, I4, ps, eo, e4⟩ => ?_
  subst eo e4
  cases pl
  cases pu
  have I5 : Inv X pins σ H4 { s4 with heap := s4.heap.push { cls := .type "slice", data := .fields #[.none, .none, vs] } } := I4.kept (t' := s4.toks) fun b ob q => Heap.get?_push_of_some _ q
  obtain ⟨its, r, ht, hz⟩ := I5.tuple hx
  have hlen := r.length
  show wpAny (model X.prog X.w) X.A (subscriptTail e (.Slice none none (some (.UnaryOp .USub (.Constant (.int 1) k p1) p2)) p3) (.ref a) (.ref s4.heap.objs.size)) (EP X pins σ Q) X.xe { s4 with heap := s4.heap.push { cls := .type "slice", data := .fields #[.none, .none, vs] } }
  refine tail_any (ops := [.ref a, .ref s4.heap.objs.size]) ht.typeIs (PyProof.Rows.slot_tuple_getitem.lookup) ?_ (by with_unfolding_all rfl)
  refine HT.getItem_tuple_rev ht (Heap.IsSliceOf.new _ .none .none vs) ps ?_ (by rw [List.size_toArray]; omega)
  refine ⟨.ref _, _, I5.laid (t' := s4.toks) (o := .tup xs.reverse) (fun b ob q => Heap.get?_push_of_some _ q) (Nat.le_refl _) ?_, rfl, q _ (I5.hok.fresh (Nat.le_refl _))⟩
  exact ⟨by rw [List.length_reverse]; exact hz, _, r.reverse, IsTup.new _ _⟩
def dRevT : D → R D
  | .tuple xs => .ok (.tuple xs.reverse)
  | _ => .bad
theorem je_revT {e : Expr} {f : Gm → R D} {k : Nat} {p1 p2 p3 pos : Pos} (he : JE X E e f) : JE X E (.Subscript e (.Slice none none (some (.UnaryOp .USub (.Constant (.int 1) k p1) p2)) p3) pos) (e1 dRevT f) := PE.weak (pe_revT he) fun σ H Q ⟨B0, H0, Γ, B, s, fin⟩ => by
  show tE X.K E f σ H _
  refine tP.bind (f := f) Post.clo s fin fun v B1 H1 d s1 _ r fin1 => ?_
  unfold dRevT at fin1
  split at fin1
  · rename_i ds
    obtain ⟨a, xs, rfl, ha, ra⟩ := r.tup_inv
    exact ⟨a, xs, rfl, ex_t s1.bh ha, fun p hp => newTup s1.bh ra.reverse fin1 hp⟩
  · exact fin1.elim

/-! ### list + list -/
def rCatL (K : Fg) : R2 := fun x y H Q => ∃ a b xs ys, x = .ref a ∧ y = .ref b ∧ SqL K H a xs ∧ SqL K H b ys ∧ xs.length + ys.length ≤ sizeLine ∧ ∀ p, H p = none → Q (.ref p) (upd H p (.lst (xs ++ ys)))
theorem op_catL : OpR X (binaryOp .Add) (rCatL X.K) := by
  intro pins s σ H x y v u Q I rx ry h
  obtain ⟨a, b, xs, ys, rfl, rfl, ha, hb, hz, q⟩ := h
  cases rx
  cases ry
  obtain ⟨its, r, ⟨⟨cls, dd, data, sl⟩, n, e, hc, hd0, hd⟩, _⟩ := I.list ha
  obtain ⟨its2, r2, ⟨⟨cls2, dd2, data2, sl2⟩, n2, e2, hc2, hd02, hd2⟩, _⟩ := I.list hb
  simp only at hc hd hc2 hd2
  subst hc hd hc2 hd2
  have l1 := r.length
  have l2 := r2.length
  refine concat_meets ⟨_, e, rfl⟩ ⟨_, e2, rfl⟩ noFill_list_add seq_list_add PySem.F.slot_list_add PySem.F.entry_list_add (PySem.F.args_list_add_2 _ _)
    (list_addW a b its.toArray its2.toArray n n2 dd dd2 sl sl2 (by rw [List.size_toArray, List.size_toArray]; omega)) ⟨e, e2, ?_⟩
  have ea : its.toArray ++ its2.toArray = (its ++ its2).toArray := by simp
  rw [ea]
  exact ⟨.ref _, _, I.lnew (t' := s.toks) (r.append r2) (by rw [List.length_append]; omega), rfl, q _ I.fresh⟩
def dCat : D → D → R (List D)
  | .list xs, .list ys => if xs.length + ys.length ≤ 16777216 then .ok (xs ++ ys) else .bad
  | _, _ => .bad
def l2 (o : D → D → R (List D)) (f g : Gm → R D) : Gm → R (List D) := fun Γ => f Γ >>= fun x => g Γ >>= fun y => o x y
def OpL (K : Fg) (r : R2) (o : D → D → R (List D)) : Prop := ∀ (Q : VK) (E : XK) (B H : Hp) (x y : V) (d e : D), Ex B H → Rp K B x d → Rp K B y e → Fin (PostL K Q) E B H (o d e) → r x y H Q
theorem opl_cat {K : Fg} : OpL K (rCatL K) dCat := by
  intro Q E B H x y d e ex rx ry fin
  unfold dCat at fin
  split at fin
  · rename_i xs ys
    split at fin
    · rename_i h
      obtain ⟨a, us, rfl, ha, ra⟩ := rx.lst_inv
      obtain ⟨b, ws, rfl, hb, rb⟩ := ry.lst_inv
      exact ⟨a, b, us, ws, rfl, rfl, ex_l ex ha, ex_l ex hb, by rw [ra.length, rb.length]; exact szl h, fun p hp => newLst ex (ra.append rb) fin hp⟩
    · exact fin.elim
  · exact fin.elim
theorem jl_op {op : Operator} {r : R2} {o : D → D → R (List D)} {a b : Expr} {f g : Gm → R D} {pos : Pos} (ho : OpR X (binaryOp op) r) (hd : OpL X.K r o) (ha : JE X E a f) (hb : JE X E b g) : JL X E (.BinOp a op b pos) (l2 o f g) := PE.weak (pe_op ho ha hb) fun σ H Q ⟨B0, H0, Γ, B, s, fin⟩ => by
  show tE X.K E f σ H fun x H1 => tE X.K E g σ H1 fun y H2 => r x y H2 Q
  refine tP.bind (f := f) PostL.clo s fin fun v B1 H1 d s1 _ r1 fin1 => ?_
  refine tP.bind (f := g) PostL.clo s1 fin1 fun w B2 H2 d2 s2 g2 r2 fin2 => ?_
  exact hd Q E B2 H2 v w d d2 s2.bh (r1.mono g2.b) r2 fin2
end

/-! ### the module's constants, its dicts, its defs -/
theorem boot_int : bootBuiltins "int" = some (.type "int") := by decide +kernel
theorem boot_bool : bootBuiltins "bool" = some (.type "bool") := by decide +kernel
theorem boot_tuple : bootBuiltins "tuple" = some (.type "tuple") := by decide +kernel
theorem boot_str : bootBuiltins "str" = some (.type "str") := by decide +kernel
def CstOk (K : Fg) (mg : Str → Option Value) (x : Str) (d : D) : Prop := ∃ v u, mg x = some u ∧ RelV v u ∧ ∀ B, Rp K B v d
theorem je_cst {X : Cx} {E : XK} {x : Str} {d : D} {pos : Pos} (hg : Gl X x) (h : CstOk X.K X.mg x d) (hd : (x == ("__debug__" : Str)) = false := by decide) : JE X E (.Name x pos) (eC d) := by
  obtain ⟨v, u, hm, r, q⟩ := h
  exact je_glob hg hm r q hd
def TabAt (K : Fg) (w : World) (mg : Str → Option Value) (x : Str) (t : List (Str × D)) : Prop := ∃ a, mg x = some (.ref a) ∧ TabOk K w a t
theorem je_tabT {X : Cx} {E : XK} {b : Expr} {g : Gm → R D} {x : Str} {t : List (Str × D)} {px pos : Pos} (hg : Gl X x) (h : TabAt X.K X.w X.mg x t) (hb : JE X E b g) (hs : PlainIx b := by exact fun _ _ => rfl) (hd : (x == ("__debug__" : Str)) = false := by decide) :
    JE X E (.Subscript (.Name x px) b pos) (e1 (dTab t) g) := by
  obtain ⟨a, hm, ht⟩ := h
  exact je_tab hg hm ht hb hs hd
def FnB (P : Program) (w : World) (K : Fg) (mg : Str → Option Value) (base : Heap) (x : Str) (k n : Nat) (Φ : List D → R D) : Prop :=
  ∃ (f : Addr) (fd : FuncData) (ps : List Str), FnOk P w K mg base CX0 k f fd ps (spD K n Φ) ∧ mg x = some (.ref f) ∧ PySem.W.keepIn K (.ref f) = true ∧ Binds K fd ps []
theorem je_fn {X : Cx} {E : XK} {e : Expr} {es : List Expr} {t : Gm → R (List D)} {x : Str} {p pos : Pos} {k n : Nat} {Φ : List D → R D} (F : FnB X.prog X.w X.K X.mg X.base x k n Φ) (hr : Room k X.A) (hg : Gl X x)
    (ha : JA X E (e :: es) t) (hdb : (x == ("__debug__" : Str)) = false := by decide) (he : starEach (e :: es) X.env = (false, eval e X.env) :: starEach es X.env := by rfl) (hpl : (backTo pos (starEach es X.env)).any (·.1) = false := by rfl) :
    JE X E (.Call (.Name x p) (e :: es) [] pos) (eCall n Φ t) := by
  obtain ⟨f, fd, ps, ok, hm, hk, hb⟩ := F
  exact je_call ok hr hg hm hk hb ha hdb he hpl
section
variable {K : Fg} {w : World} {mg : Str → Option Value} {x : Str}
theorem cst_int {i : Int} {t : Tok} (h : mg x = some (.int i t)) : CstOk K mg x (.int i) := ⟨.int i, _, h, ⟨t, rfl⟩, fun _ => .int i⟩
theorem cst_str {i : Str} {t : Tok} (h : mg x = some (.str i t)) : CstOk K mg x (.str i) := ⟨.str i, _, h, ⟨t, rfl⟩, fun _ => .str i⟩
inductive Lits : List Value → List D → Prop
  | nil : Lits [] []
  | int {i : Int} {t : Tok} {vs : List Value} {ds : List D} : Lits vs ds → Lits (.int i t :: vs) (.int i :: ds)
  | str {i : Str} {t : Tok} {vs : List Value} {ds : List D} : Lits vs ds → Lits (.str i t :: vs) (.str i :: ds)
theorem Lits.vals : ∀ {us : List Value} {ds : List D}, Lits us ds → ∃ vs, Vals vs us ∧ ∀ B, RpAll K B vs ds
  | _, _, .nil => ⟨[], .nil, fun _ => .nil⟩
  | _, _, .int r => by
    obtain ⟨vs, a, b⟩ := Lits.vals r
    exact ⟨.int _ :: vs, .cons (show RelV (.int _) (.int _ _) from ⟨_, rfl⟩) a, fun B => .cons (.int _) (b B)⟩
  | _, _, .str r => by
    obtain ⟨vs, a, b⟩ := Lits.vals r
    exact ⟨.str _ :: vs, .cons (show RelV (.str _) (.str _ _) from ⟨_, rfl⟩) a, fun B => .cons (.str _) (b B)⟩
theorem cst_tup {a : Addr} {its : List Value} {n : Nat} {dd : Option Addr} {sl : Array (Option Value)} {ds : List D} (h : mg x = some (.ref a)) (hl : K.lookup a = some ⟨.type "tuple", dd, .seq its.toArray n, sl⟩) (hz : its.length ≤ 16777216) (r : Lits its ds) : CstOk K mg x (.tuple ds) := by
  obtain ⟨vs, h1, h2⟩ := r.vals (K := K)
  exact ⟨.ref a, _, h, rfl, fun B => .tup (.inr ⟨_, _, _, hl, rfl, rfl, by rw [List.size_toArray]; exact szl hz, h1⟩) (h2 B)⟩
theorem TabOk.nil {a : Addr} : TabOk K w a [] := fun x d h => by cases h
theorem TabOk.add {a : Addr} {es : Array DictEntry} {n : Nat} {k : Str} {d : D} {v : V} {u : Value} {t : List (Str × D)} (hl : K.lookup a = some ⟨.type "dict", none, .dict es n, #[]⟩) (hk : PySem.W.KeysLit w.params es.toList)
    (e : PySem.W.nsIn K a k = some (some u)) (ru : RelV v u) (rd : ∀ B, Rp K B v d) (r : TabOk K w a t) : TabOk K w a ((k, d) :: t) := fun x d' h => by
  rw [List.lookup_cons] at h
  split at h
  · rename_i q
    cases h
    have q' : x = k := by simpa using q
    rw [q']
    exact ⟨v, ⟨es, n, u, hl, hk, e, ru⟩, rd⟩
  · exact r x d' h
theorem TabOk.str {a : Addr} {es : Array DictEntry} {n : Nat} {k y : Str} {i : Tok} {t : List (Str × D)} (hl : K.lookup a = some ⟨.type "dict", none, .dict es n, #[]⟩) (hk : PySem.W.KeysLit w.params es.toList)
    (e : PySem.W.nsIn K a k = some (some (.str y i))) (r : TabOk K w a t) : TabOk K w a ((k, .str y) :: t) := TabOk.add (v := .str y) hl hk e ⟨_, rfl⟩ (fun _ => .str y) r
theorem TabOk.int {a : Addr} {es : Array DictEntry} {n : Nat} {k : Str} {y : Int} {i : Tok} {t : List (Str × D)} (hl : K.lookup a = some ⟨.type "dict", none, .dict es n, #[]⟩) (hk : PySem.W.KeysLit w.params es.toList)
    (e : PySem.W.nsIn K a k = some (some (.int y i))) (r : TabOk K w a t) : TabOk K w a ((k, .int y) :: t) := TabOk.add (v := .int y) hl hk e ⟨_, rfl⟩ (fun _ => .int y) r
end
theorem fn_okN {P : Program} {w : World} {K : Fg} {mg : Str → Option Value} {base : Heap} {x qual : Str} {st : Stmt} {f : Addr} {fd : FuncData} {N ps : List Str} {k m : Nat} {F : Gm → R O} {Φ : List D → R D} (Fu : Fun K x qual st f fd) (S : FnScope N ps (defScope st)) (hm : ps.length = m) (hΦ : Φ = runD N.length F)
    (hb : ∀ (cdv : Value) (A : Around) (outer : List Env) (s : Shared) (H : Hp) (E : XK), Room k (A.deeper (envOfC qual (defScope st) s.heap.objs.size f cdv)) →
      JSs (cxOf CX0 P w K mg base N qual (defScope st) f cdv A outer s H E).nox X0 (defBody st) F) : FnOk P w K mg base CX0 (k + 1) f fd ps (spD K m Φ) := by
  subst hm hΦ
  exact fn_ok Fu S hb
end DL

namespace DL
open PySem PySem.Spec PyProof.Rows L2
abbrev pw : Program := PySem.Challenge.pw_marblewright_k03_main_marbles_in_any_ord
def topS (i : Nat) : Stmt := pw.main.body.getD i (.Pass ⟨0, 0, 0, 0⟩)
def t_OTHERS : List (Str × D) := [("L", (.str "R")), ("R", (.str "L")), ("<", (.str ">")), (">", (.str "<"))]
def t_WAYS : List (Str × D) := [(".", (.int 0)), ("/", (.int (-1))), ("L", (.int (-1))), ("<", (.int (-1))), ("\\", (.int 1)), ("R", (.int 1)), (">", (.int 1))]
structure Top (K : Fg) (w : World) (mg : Str → Option Value) : Prop where
  z_abs : mg "abs" = none
  z_all : mg "all" = none
  z_bool : mg "bool" = none
  z_enumerate : mg "enumerate" = none
  z_int : mg "int" = none
  z_isinstance : mg "isinstance" = none
  z_len : mg "len" = none
  z_list : mg "list" = none
  z_range : mg "range" = none
  z_sorted : mg "sorted" = none
  z_str : mg "str" = none
  z_tuple : mg "tuple" = none
  c_CROSSING : CstOk K mg "CROSSING" (.str "X")
  c_FORM : CstOk K mg "FORM" (.tuple [(.str "form")])
  c_LINKED : CstOk K mg "LINKED" (.str "<>")
  c_MOST_MARBLES : CstOk K mg "MOST_MARBLES" (.int 200)
  c_MOST_SIDE : CstOk K mg "MOST_SIDE" (.int 16)
  c_SIGNS : CstOk K mg "SIGNS" (.str ".\\/LR<>X#")
  c_STOP : CstOk K mg "STOP" (.str "#")
  c_STRAIGHT : CstOk K mg "STRAIGHT" (.int 0)
  c_SWITCHES : CstOk K mg "SWITCHES" (.str "LR<>")
  d_OTHERS : TabAt K w mg "OTHERS" t_OTHERS
  d_WAYS : TabAt K w mg "WAYS" t_WAYS
/-! is_whole -/
abbrev s_is_whole : Stmt := topS 12
abbrev n_is_whole : List Str := ["value", "least", "most"]
theorem sc_is_whole : FnScope ["value", "least", "most"] ["value", "least", "most"] (defScope s_is_whole) := ⟨rfl, rfl, rfl, by decide +kernel, rfl, by decide +kernel, by decide +kernel⟩
def b_is_whole : Gm → R O :=
  (sRet (eAnd (e1 (dIsi "int") (eVar 0)) (eAnd (eNot (e1 (dIsi "bool") (eVar 0))) (e3 dLe dLe (eVar 1) (eVar 0) (eVar 2)))))
def phi_is_whole : List D → R D := runD 3 b_is_whole
theorem ok_is_whole {P : Program} {w : World} {K : Fg} {mg : Str → Option Value} {base : Heap} {f : Addr} {fd : FuncData} (Fu : Fun K "is_whole" "is_whole" s_is_whole f fd) (T : Top K w mg) :
    FnOk P w K mg base CX0 1 f fd ["value", "least", "most"] (spD K 3 phi_is_whole) :=
  fn_okN (F := b_is_whole) Fu sc_is_whole rfl rfl fun cdv A outer s H E hr =>
  (js_one (js_ret (je_and (je_isi rfl T.z_isinstance (je_var 0) rfl T.z_int boot_int) (je_and (je_not (je_isi rfl T.z_isinstance (je_var 0) rfl T.z_bool boot_bool)) (je_one (je_chain op_le opd_le op_le opd_le (je_var 1) (je_var 0) (je_var 2)))))))

/-! board_fault -/
abbrev s_board_fault : Stmt := topS 13
abbrev n_board_fault : List Str := ["value", "row", "number", "wrong", "column", "sign"]
theorem sc_board_fault : FnScope ["value", "row", "number", "wrong", "column", "sign"] ["value"] (defScope s_board_fault) := ⟨rfl, rfl, rfl, by decide +kernel, rfl, by decide +kernel, by decide +kernel⟩
def b_board_fault : Gm → R O :=
  (sSeq (sIf (fOr (fNot (eT (e1 (dIsi "tuple") (eVar 0)))) (fNot (eT (e3 dLe dLe (eC (.int 1)) (eCB dLen (aCons (eVar 0) aNil)) (eC (.int 16))))))
  (sRet (eC (.tuple [(.str "form")])))
  sNext)
  (sSeq (sIf (fNot (eT (eCB dAll (aCons (eFr (eLc (iSeqD (eVar 0)) (.n 1) cYes (e1 (dIsi "str") (eVar 1)) [1])) aNil))))
  (sRet (eC (.tuple [(.str "form")])))
  sNext)
  (sSeq (sIf (fOr (fNot (eT (e3 dLe dLe (eC (.int 1)) (eCB dLen (aCons (e2 dIx (eVar 0) (eC (.int 0))) aNil)) (eC (.int 16))))) (fNot (eT (eCB dAll (aCons (eFr (eLc (iSeqD (eVar 0)) (.n 1) cYes (e2 dEq (eCB dLen (aCons (eVar 1) aNil)) (eCB dLen (aCons (e2 dIx (eVar 0) (eC (.int 0))) aNil))) [1])) aNil)))))
  (sRet (eC (.tuple [(.str "form")])))
  sNext)
  (sSeq (sFor (iEnumD (eVar 0)) (.t [(.n 2), (.n 1)])
  (sSeq (sSet 3 (xFr (eFr (eLc (iEnumD (eVar 1)) (.t [(.n 4), (.n 5)]) (eT (e2 dNotInS (eVar 5) (eC (.str ".\\/LR<>X#")))) (eVar 4) [4, 5]))))
    (sIf (eT (e2 dGt (eCB dLen (aCons (eVar 3) aNil)) (eC (.int 0))))
    (sRet (eTup (aCons (eC (.str "sign")) (aCons (eVar 2) (aCons (e2 dIx (eVar 3) (eC (.int 0))) aNil)))))
    sNext)))
  (sRet (eC .none))))))
def phi_board_fault : List D → R D := runD 6 b_board_fault
theorem ok_board_fault {P : Program} {w : World} {K : Fg} {mg : Str → Option Value} {base : Heap} {f : Addr} {fd : FuncData} (Fu : Fun K "board_fault" "board_fault" s_board_fault f fd) (T : Top K w mg) :
    FnOk P w K mg base CX0 1 f fd ["value"] (spD K 1 phi_board_fault) :=
  fn_okN (F := b_board_fault) Fu sc_board_fault rfl rfl fun cdv A outer s H E hr =>
  (js_cons (js_if (PW.pt (jw_or (jt_not (jt_val (je_isi rfl T.z_isinstance (je_var 0) rfl T.z_tuple boot_tuple))) (jw_or1 (jt_not (jt_chain op_le opd_le op_le opd_le je_int (je_callB call_lenA cd_len rfl T.z_len PySem.boot_len (ja_cons (je_var 0) ja_nil)) (je_cst rfl T.c_MOST_SIDE))))))
  (js_one (js_ret (je_cst rfl T.c_FORM)))
  js_nil)
  (js_cons (js_if (jt_not (jt_val (je_callB (cr_all rfl) cd_all rfl T.z_all (by decide +kernel) (ja_cons (je_fr (jl_lc (own := [("row", 1)]) rfl sc_board_fault.nd (ji_seq (je_var 0)) (blkOk_by (N := n_board_fault) (sc := defScope s_board_fault) (own := [("row", 1)]) (by decide +kernel)) (fun _ _ _ _ _ => (jg_name (i := 1) sc_board_fault.nd rfl (.inl rfl))) (fun _ _ _ _ _ => jts_nil) (fun _ _ _ _ _ => (je_isi rfl T.z_isinstance (je_var 1) rfl T.z_str boot_str)))) ja_nil))))
  (js_one (js_ret (je_cst rfl T.c_FORM)))
  js_nil)
  (js_cons (js_if (PW.pt (jw_or (jt_not (jt_chain op_le opd_le op_le opd_le je_int (je_callB call_lenA cd_len rfl T.z_len PySem.boot_len (ja_cons (je_ix (je_var 0) je_int) ja_nil)) (je_cst rfl T.c_MOST_SIDE))) (jw_or1 (jt_not (jt_val (je_callB (cr_all rfl) cd_all rfl T.z_all (by decide +kernel) (ja_cons (je_fr (jl_lc (own := [("row", 1)]) rfl sc_board_fault.nd (ji_seq (je_var 0)) (blkOk_by (N := n_board_fault) (sc := defScope s_board_fault) (own := [("row", 1)]) (by decide +kernel)) (fun _ _ _ _ _ => (jg_name (i := 1) sc_board_fault.nd rfl (.inl rfl))) (fun _ _ _ _ _ => jts_nil) (fun _ _ _ _ _ => (je_cmp (op_eqD hr.units) opd_eq (je_callB call_lenA cd_len rfl T.z_len PySem.boot_len (ja_cons (je_var 1) ja_nil)) (je_callB call_lenA cd_len rfl T.z_len PySem.boot_len (ja_cons (je_ix (je_var 0) je_int) ja_nil)))))) ja_nil)))))))
  (js_one (js_ret (je_cst rfl T.c_FORM)))
  js_nil)
  (js_cons (js_for PassesOwn.never rfl (ji_enum rfl T.z_enumerate (je_var 0)) (jg_tup rfl (jgs_cons (jg_name (i := 2) sc_board_fault.nd rfl (.inl rfl)) (jgs_cons (jg_name (i := 1) sc_board_fault.nd rfl (.inl rfl)) jgs_nil)))
  (js_cons (js_setLcF (i := 3) (own := [("column", 4), ("sign", 5)]) rfl sc_board_fault.nd rfl rfl (sw_true rfl rfl rfl (by decide +kernel)) (ji_enum rfl T.z_enumerate (je_var 1)) (blkOk_by (N := n_board_fault) (sc := defScope s_board_fault) (own := [("column", 4), ("sign", 5)]) (by decide +kernel)) (fun _ _ _ _ _ => (jg_tup rfl (jgs_cons (jg_name (i := 4) sc_board_fault.nd rfl (.inl rfl)) (jgs_cons (jg_name (i := 5) sc_board_fault.nd rfl (.inl rfl)) jgs_nil)))) (fun _ _ _ _ _ => (jts_one (jt_cmp op_notIn_sign opd_notInS (je_var 5) (je_cst rfl T.c_SIGNS)))) (fun _ _ _ _ _ => (je_var 4)))
    (js_one (js_if (jt_cmp op_gt opd_gt (je_callB call_lenA cd_len rfl T.z_len PySem.boot_len (ja_cons (je_var 3) ja_nil)) je_int)
    (js_one (js_ret (je_tup (ja_cons je_str (ja_cons (je_var 2) (ja_cons (je_ix (je_var 3) je_int) ja_nil))))))
    js_nil))))
  (js_one (js_ret je_non))))))

/-! check_board -/
abbrev s_check_board : Stmt := topS 14
abbrev n_check_board : List Str := ["board"]
theorem sc_check_board : FnScope ["board"] ["board"] (defScope s_check_board) := ⟨rfl, rfl, rfl, by decide +kernel, rfl, by decide +kernel, by decide +kernel⟩
def b_check_board : Gm → R O :=
  (sIf (eT (e2 dNotN (eCall 1 phi_board_fault (aCons (eVar 0) aNil)) (eC .none)))
  eNever
  sNext)
def phi_check_board : List D → R D := runD 1 b_check_board
theorem ok_check_board {P : Program} {w : World} {K : Fg} {mg : Str → Option Value} {base : Heap} {f : Addr} {fd : FuncData} (Fu : Fun K "check_board" "check_board" s_check_board f fd) (T : Top K w mg) (h_board_fault : FnB P w K mg base "board_fault" 1 1 phi_board_fault) :
    FnOk P w K mg base CX0 2 f fd ["board"] (spD K 1 phi_check_board) :=
  fn_okN (F := b_check_board) Fu sc_check_board rfl rfl fun cdv A outer s H E hr =>
  (js_one (js_if (jt_cmp op_notN opd_notN (je_fn h_board_fault (hr.mono (by decide)) rfl (ja_cons (je_var 0) ja_nil)) je_non)
  (js_one js_never)
  js_nil))

/-! turned_at -/
abbrev s_turned_at : Stmt := topS 17
abbrev n_turned_at : List Str := ["board", "places", "rows", "row", "column"]
theorem sc_turned_at : FnScope ["board", "places", "rows", "row", "column"] ["board", "places"] (defScope s_turned_at) := ⟨rfl, rfl, rfl, by decide +kernel, rfl, by decide +kernel, by decide +kernel⟩
def b_turned_at : Gm → R O :=
  (sSeq (sSet 2 (xL2 (eLc2 (iSeqD (eVar 0)) (.n 3) (lCB dList (aCons (eVar 3) aNil)) [3])))
  (sSeq (sFor (iSeqD (eVar 1)) (.t [(.n 3), (.n 4)])
  (sSet2 2 (fBor (e1 (dTab t_OTHERS) (e2 dIx (e2 dIx (eVar 2) (eVar 3)) (eVar 4)))) (eVar 3) (eVar 4)))
  (sRet (eCB dTuple (aCons (eFr (eLc (iSeqD (eVar 2)) (.n 3) cYes (eJoin (eC (.str "")) (eVar 3)) [3])) aNil)))))
def phi_turned_at : List D → R D := runD 5 b_turned_at
theorem ok_turned_at {P : Program} {w : World} {K : Fg} {mg : Str → Option Value} {base : Heap} {f : Addr} {fd : FuncData} (Fu : Fun K "turned_at" "turned_at" s_turned_at f fd) (T : Top K w mg) :
    FnOk P w K mg base CX0 1 f fd ["board", "places"] (spD K 2 phi_turned_at) :=
  fn_okN (F := b_turned_at) Fu sc_turned_at rfl rfl fun cdv A outer s H E hr =>
  (js_cons (js_setLc2 (i := 2) (own := [("row", 3)]) rfl sc_turned_at.nd rfl rfl (sw_true rfl rfl rfl (by decide +kernel)) (ji_seq (je_var 0)) (blkOk_by (N := n_turned_at) (sc := defScope s_turned_at) (own := [("row", 3)]) (by decide +kernel)) (fun _ _ _ _ _ => (jg_name (i := 3) sc_turned_at.nd rfl (.inl rfl))) (fun _ _ _ _ _ => (jl_callTy (call_listA rfl) cl_list rfl T.z_list (by decide +kernel) (ja_cons (je_var 3) ja_nil))))
  (js_cons (js_for PassesOwn.never rfl (ji_seq (je_var 1)) (jg_tup rfl (jgs_cons (jg_name (i := 3) sc_turned_at.nd rfl (.inl rfl)) (jgs_cons (jg_name (i := 4) sc_turned_at.nd rfl (.inl rfl)) jgs_nil)))
  (js_one (js_set2 (i := 2) (pv 2) (je_bor (je_tabT rfl T.d_OTHERS (je_ix (je_ix (je_var 2) (je_var 3)) (je_var 4)))) (je_var 3) (je_var 4))))
  (js_one (js_ret (je_callTy call_tuple_of cd_tuple rfl T.z_tuple (by decide +kernel) (ja_cons (je_fr (jl_lc (own := [("row", 3)]) rfl sc_turned_at.nd (ji_seq (je_var 2)) (blkOk_by (N := n_turned_at) (sc := defScope s_turned_at) (own := [("row", 3)]) (by decide +kernel)) (fun _ _ _ _ _ => (jg_name (i := 3) sc_turned_at.nd rfl (.inl rfl))) (fun _ _ _ _ _ => jts_nil) (fun _ _ _ _ _ => (je_join je_str (je_var 3))))) ja_nil))))))

/-! check_column -/
abbrev s_check_column : Stmt := topS 24
abbrev n_check_column : List Str := ["board", "column"]
theorem sc_check_column : FnScope ["board", "column"] ["board", "column"] (defScope s_check_column) := ⟨rfl, rfl, rfl, by decide +kernel, rfl, by decide +kernel, by decide +kernel⟩
def b_check_column : Gm → R O :=
  (sIf (fNot (eT (eCall 3 phi_is_whole (aCons (eVar 1) (aCons (eC (.int 0)) (aCons (e2 dSub (eCB dLen (aCons (e2 dIx (eVar 0) (eC (.int 0))) aNil)) (eC (.int 1))) aNil))))))
  eNever
  sNext)
def phi_check_column : List D → R D := runD 2 b_check_column
theorem ok_check_column {P : Program} {w : World} {K : Fg} {mg : Str → Option Value} {base : Heap} {f : Addr} {fd : FuncData} (Fu : Fun K "check_column" "check_column" s_check_column f fd) (T : Top K w mg) (h_is_whole : FnB P w K mg base "is_whole" 1 3 phi_is_whole) :
    FnOk P w K mg base CX0 2 f fd ["board", "column"] (spD K 2 phi_check_column) :=
  fn_okN (F := b_check_column) Fu sc_check_column rfl rfl fun cdv A outer s H E hr =>
  (js_one (js_if (jt_not (jt_val (je_fn h_is_whole (hr.mono (by decide)) rfl (ja_cons (je_var 1) (ja_cons je_int (ja_cons (je_op op_sub opd_sub (je_callB call_lenA cd_len rfl T.z_len PySem.boot_len (ja_cons (je_ix (je_var 0) je_int) ja_nil)) je_int) ja_nil))))))
  (js_one js_never)
  js_nil))

/-! way_at -/
abbrev s_way_at : Stmt := topS 25
abbrev n_way_at : List Str := ["sign", "way"]
theorem sc_way_at : FnScope ["sign", "way"] ["sign", "way"] (defScope s_way_at) := ⟨rfl, rfl, rfl, by decide +kernel, rfl, by decide +kernel, by decide +kernel⟩
def b_way_at : Gm → R O :=
  (sRet (eIf (eT (e2 dEq (eVar 0) (eC (.str "X")))) (eVar 1) (e1 (dTab t_WAYS) (eVar 0))))
def phi_way_at : List D → R D := runD 2 b_way_at
theorem ok_way_at {P : Program} {w : World} {K : Fg} {mg : Str → Option Value} {base : Heap} {f : Addr} {fd : FuncData} (Fu : Fun K "way_at" "way_at" s_way_at f fd) (T : Top K w mg) :
    FnOk P w K mg base CX0 1 f fd ["sign", "way"] (spD K 2 phi_way_at) :=
  fn_okN (F := b_way_at) Fu sc_way_at rfl rfl fun cdv A outer s H E hr =>
  (js_one (js_ret (je_if (jt_cmp (op_eqD hr.units) opd_eq (je_var 0) (je_cst rfl T.c_CROSSING)) (je_var 1) (je_tabT rfl T.d_WAYS (je_var 0)))))

/-! beyond -/
abbrev s_beyond : Stmt := topS 26
abbrev n_beyond : List Str := ["board", "row", "column"]
theorem sc_beyond : FnScope ["board", "row", "column"] ["board", "row", "column"] (defScope s_beyond) := ⟨rfl, rfl, rfl, by decide +kernel, rfl, by decide +kernel, by decide +kernel⟩
def b_beyond : Gm → R O :=
  (sSeq (sIf (eT (e2 dLt (eVar 2) (eC (.int 0))))
  (sRet (eTup (aCons (eC (.str "left")) (aCons (eVar 1) aNil))))
  sNext)
  (sRet (eIf (eT (e2 dEq (eVar 2) (eCB dLen (aCons (e2 dIx (eVar 0) (eC (.int 0))) aNil)))) (eTup (aCons (eC (.str "right")) (aCons (eVar 1) aNil))) (eC .none))))
def phi_beyond : List D → R D := runD 3 b_beyond
theorem ok_beyond {P : Program} {w : World} {K : Fg} {mg : Str → Option Value} {base : Heap} {f : Addr} {fd : FuncData} (Fu : Fun K "beyond" "beyond" s_beyond f fd) (T : Top K w mg) :
    FnOk P w K mg base CX0 1 f fd ["board", "row", "column"] (spD K 3 phi_beyond) :=
  fn_okN (F := b_beyond) Fu sc_beyond rfl rfl fun cdv A outer s H E hr =>
  (js_cons (js_if (jt_cmp op_lt opd_lt (je_var 2) je_int)
  (js_one (js_ret (je_tup (ja_cons je_str (ja_cons (je_var 1) ja_nil)))))
  js_nil)
  (js_one (js_ret (je_if (jt_cmp (op_eqD hr.units) opd_eq (je_var 2) (je_callB call_lenA cd_len rfl T.z_len PySem.boot_len (ja_cons (je_ix (je_var 0) je_int) ja_nil))) (je_tup (ja_cons je_str (ja_cons (je_var 1) ja_nil))) je_non))))

/-! behind -/
abbrev s_behind : Stmt := topS 27
abbrev n_behind : List Str := ["board", "row", "column", "sign"]
theorem sc_behind : FnScope ["board", "row", "column", "sign"] ["board", "row", "column"] (defScope s_behind) := ⟨rfl, rfl, rfl, by decide +kernel, rfl, by decide +kernel, by decide +kernel⟩
def b_behind : Gm → R O :=
  (sSeq (sSet 3 (xFr (e2 dIx (e2 dIx (eVar 0) (eVar 1)) (eVar 2))))
  (sSeq (sIf (eT (e2 dNotInS (eVar 3) (eC (.str "LR<>"))))
  (sRet (eVar 0))
  sNext)
  (sRet (eCall 2 phi_turned_at (aCons (eVar 0) (aCons (eIf (eT (e2 dInS (eVar 3) (eC (.str "<>")))) eNever (eTup (aCons (eTup (aCons (eVar 1) (aCons (eVar 2) aNil))) aNil))) aNil))))))
def phi_behind : List D → R D := runD 4 b_behind
theorem ok_behind {P : Program} {w : World} {K : Fg} {mg : Str → Option Value} {base : Heap} {f : Addr} {fd : FuncData} (Fu : Fun K "behind" "behind" s_behind f fd) (T : Top K w mg) (h_turned_at : FnB P w K mg base "turned_at" 1 2 phi_turned_at) :
    FnOk P w K mg base CX0 2 f fd ["board", "row", "column"] (spD K 3 phi_behind) :=
  fn_okN (F := b_behind) Fu sc_behind rfl rfl fun cdv A outer s H E hr =>
  (js_cons (js_set (i := 3) sc_behind.nd rfl (.inl rfl) (jx_fr (je_ix (je_ix (je_var 0) (je_var 1)) (je_var 2))))
  (js_cons (js_if (jt_cmp op_notIn_sign opd_notInS (je_var 3) (je_cst rfl T.c_SWITCHES))
  (js_one (js_ret (je_var 0)))
  js_nil)
  (js_one (js_ret (je_fn h_turned_at (hr.mono (by decide)) rfl (ja_cons (je_var 0) (ja_cons (je_if (jt_cmp op_in_sign opd_inS (je_var 3) (je_cst rfl T.c_LINKED)) je_never (je_tup (ja_cons (je_tup (ja_cons (je_var 1) (ja_cons (je_var 2) ja_nil))) ja_nil))) ja_nil)))))))

/-! fall -/
abbrev s_fall : Stmt := topS 28
abbrev n_fall : List Str := ["board", "column", "places", "way", "row", "sign"]
theorem sc_fall : FnScope ["board", "column", "places", "way", "row", "sign"] ["board", "column"] (defScope s_fall) := ⟨rfl, rfl, rfl, by decide +kernel, rfl, by decide +kernel, by decide +kernel⟩
def b_fall : Gm → R O :=
  (sSeq (sPar 2 3 (xL (eLst aNil)) (xFr (eC (.int 0))))
  (sSeq (sFor (iRange1 (eCB dLen (aCons (eVar 0) aNil))) (.n 4)
  (sSeq (sApp 2 (eTup (aCons (eVar 4) (aCons (eVar 1) aNil))))
    (sSeq (sSet 5 (xFr (e2 dIx (e2 dIx (eVar 0) (eVar 4)) (eVar 1))))
    (sSeq (sIf (eT (e2 dEq (eVar 5) (eC (.str "#"))))
    (sRet (eTup (aCons (eVar 0) (aCons (eVar 2) (aCons (eTup (aCons (eC (.str "stop")) (aCons (eVar 4) (aCons (eVar 1) aNil)))) aNil)))))
    sNext)
    (sSeq (sSet 3 (xFr (eCall 2 phi_way_at (aCons (eVar 5) (aCons (eVar 3) aNil)))))
    (sSeq (sSet 0 (xFr (eCall 3 phi_behind (aCons (eVar 0) (aCons (eVar 4) (aCons (eVar 1) aNil))))))
    (sSeq (sAug 1 (dI fun i j => .int (i + j)) (eVar 3))
    (sIf (eT (e2 dNotN (eCall 3 phi_beyond (aCons (eVar 0) (aCons (eVar 4) (aCons (eVar 1) aNil)))) (eC .none)))
    (sRet (eTup (aCons (eVar 0) (aCons (eVar 2) (aCons (eCall 3 phi_beyond (aCons (eVar 0) (aCons (eVar 4) (aCons (eVar 1) aNil)))) aNil)))))
    sNext))))))))
  (sRet (eTup (aCons (eVar 0) (aCons (eVar 2) (aCons (eTup (aCons (eC (.str "out")) (aCons (eVar 1) aNil))) aNil)))))))
def phi_fall : List D → R D := runD 6 b_fall
theorem ok_fall {P : Program} {w : World} {K : Fg} {mg : Str → Option Value} {base : Heap} {f : Addr} {fd : FuncData} (Fu : Fun K "fall" "fall" s_fall f fd) (T : Top K w mg) (h_way_at : FnB P w K mg base "way_at" 1 2 phi_way_at) (h_behind : FnB P w K mg base "behind" 2 3 phi_behind) (h_beyond : FnB P w K mg base "beyond" 1 3 phi_beyond) :
    FnOk P w K mg base CX0 3 f fd ["board", "column"] (spD K 2 phi_fall) :=
  fn_okN (F := b_fall) Fu sc_fall rfl rfl fun cdv A outer s H E hr =>
  (js_cons (js_par (i := 2) (j := 3) rfl sc_fall.nd rfl rfl (by decide) rfl rfl (jx_l (jl_lst ja_nil)) (jx_fr (je_cst rfl T.c_STRAIGHT)))
  (js_cons (js_for PassesOwn.never rfl (ji_range1 rfl T.z_range (je_callB call_lenA cd_len rfl T.z_len PySem.boot_len (ja_cons (je_var 0) ja_nil))) (jg_name (i := 4) sc_fall.nd rfl (.inl rfl))
  (js_cons (js_app (i := 2) (pe_bm PySem.F.plainAttrs_list PySem.F.slot_list_append PySem.F.type_list_append mt_append (pv 2) (pa_cons (je_tup (ja_cons (je_var 4) (ja_cons (je_var 1) ja_nil))) pa_nil)))
    (js_cons (js_set (i := 5) sc_fall.nd rfl (.inl rfl) (jx_fr (je_ix (je_ix (je_var 0) (je_var 4)) (je_var 1))))
    (js_cons (js_if (jt_cmp (op_eqD hr.units) opd_eq (je_var 5) (je_cst rfl T.c_STOP))
    (js_one (js_ret (je_tup (ja_cons (je_var 0) (ja_cons (je_var 2) (ja_cons (je_tup (ja_cons je_str (ja_cons (je_var 4) (ja_cons (je_var 1) ja_nil)))) ja_nil))))))
    js_nil)
    (js_cons (js_set (i := 3) sc_fall.nd rfl (.inl rfl) (jx_fr (je_fn h_way_at (hr.mono (by decide)) rfl (ja_cons (je_var 5) (ja_cons (je_var 3) ja_nil)))))
    (js_cons (js_set (i := 0) sc_fall.nd rfl (.inl rfl) (jx_fr (je_fn h_behind (hr.mono (by decide)) rfl (ja_cons (je_var 0) (ja_cons (je_var 4) (ja_cons (je_var 1) ja_nil))))))
    (js_cons (js_aug (i := 1) sc_fall.nd rfl (.inl rfl) (je_var 3) iop_add (opd_int0 fun _ _ _ => .int _))
    (js_one (js_if (jt_cmp op_notN opd_notN (je_fn h_beyond (hr.mono (by decide)) rfl (ja_cons (je_var 0) (ja_cons (je_var 4) (ja_cons (je_var 1) ja_nil)))) je_non)
    (js_one (js_ret (je_tup (ja_cons (je_var 0) (ja_cons (je_var 2) (ja_cons (je_fn h_beyond (hr.mono (by decide)) rfl (ja_cons (je_var 0) (ja_cons (je_var 4) (ja_cons (je_var 1) ja_nil)))) ja_nil))))))
    js_nil)))))))))
  (js_one (js_ret (je_tup (ja_cons (je_var 0) (ja_cons (je_var 2) (ja_cons (je_tup (ja_cons je_str (ja_cons (je_var 1) ja_nil))) ja_nil))))))))

/-! drop -/
abbrev s_drop : Stmt := topS 29
abbrev n_drop : List Str := ["board", "column", "after", "_places", "end"]
theorem sc_drop : FnScope ["board", "column", "after", "_places", "end"] ["board", "column"] (defScope s_drop) := ⟨rfl, rfl, rfl, by decide +kernel, rfl, by decide +kernel, by decide +kernel⟩
def b_drop : Gm → R O :=
  (sSeq (sDrop (eCall 1 phi_check_board (aCons (eVar 0) aNil)))
  (sSeq (sDrop (eCall 2 phi_check_column (aCons (eVar 0) (aCons (eVar 1) aNil))))
  (sSeq (sAsg (.t [(.n 2), (.n 3), (.n 4)]) (eCall 2 phi_fall (aCons (eVar 0) (aCons (eVar 1) aNil))))
  (sRet (eTup (aCons (eVar 2) (aCons (eVar 4) aNil)))))))
def phi_drop : List D → R D := runD 5 b_drop
theorem ok_drop {P : Program} {w : World} {K : Fg} {mg : Str → Option Value} {base : Heap} {f : Addr} {fd : FuncData} (Fu : Fun K "drop" "drop" s_drop f fd) (T : Top K w mg) (h_check_board : FnB P w K mg base "check_board" 2 1 phi_check_board) (h_check_column : FnB P w K mg base "check_column" 2 2 phi_check_column) (h_fall : FnB P w K mg base "fall" 3 2 phi_fall) :
    FnOk P w K mg base CX0 4 f fd ["board", "column"] (spD K 2 phi_drop) :=
  fn_okN (F := b_drop) Fu sc_drop rfl rfl fun cdv A outer s H E hr =>
  (js_cons (js_drop (je_fn h_check_board (hr.mono (by decide)) rfl (ja_cons (je_var 0) ja_nil)))
  (js_cons (js_drop (je_fn h_check_column (hr.mono (by decide)) rfl (ja_cons (je_var 0) (ja_cons (je_var 1) ja_nil))))
  (js_cons (js_asg (je_fn h_fall (hr.mono (by decide)) rfl (ja_cons (je_var 0) (ja_cons (je_var 1) ja_nil))) (jg_tup rfl (jgs_cons (jg_name (i := 2) sc_drop.nd rfl (.inl rfl)) (jgs_cons (jg_name (i := 3) sc_drop.nd rfl (.inl rfl)) (jgs_cons (jg_name (i := 4) sc_drop.nd rfl (.inl rfl)) jgs_nil)))))
  (js_one (js_ret (je_tup (ja_cons (je_var 2) (ja_cons (je_var 4) ja_nil))))))))

/-! check_columns -/
abbrev s_check_columns : Stmt := topS 30
abbrev n_check_columns : List Str := ["board", "columns", "one"]
theorem sc_check_columns : FnScope ["board", "columns", "one"] ["board", "columns"] (defScope s_check_columns) := ⟨rfl, rfl, rfl, by decide +kernel, rfl, by decide +kernel, by decide +kernel⟩
def b_check_columns : Gm → R O :=
  (sSeq (sIf (fOr (fNot (eT (e1 (dIsi "tuple") (eVar 1)))) (eT (e2 dGt (eCB dLen (aCons (eVar 1) aNil)) (eC (.int 200)))))
  eNever
  sNext)
  (sIf (fNot (eT (eCB dAll (aCons (eFr (eLc (iSeqD (eVar 1)) (.n 2) cYes (eCall 3 phi_is_whole (aCons (eVar 2) (aCons (eC (.int 0)) (aCons (e2 dSub (eCB dLen (aCons (e2 dIx (eVar 0) (eC (.int 0))) aNil)) (eC (.int 1))) aNil)))) [2])) aNil))))
  eNever
  sNext))
def phi_check_columns : List D → R D := runD 3 b_check_columns
theorem ok_check_columns {P : Program} {w : World} {K : Fg} {mg : Str → Option Value} {base : Heap} {f : Addr} {fd : FuncData} (Fu : Fun K "check_columns" "check_columns" s_check_columns f fd) (T : Top K w mg) (h_is_whole : FnB P w K mg base "is_whole" 1 3 phi_is_whole) :
    FnOk P w K mg base CX0 2 f fd ["board", "columns"] (spD K 2 phi_check_columns) :=
  fn_okN (F := b_check_columns) Fu sc_check_columns rfl rfl fun cdv A outer s H E hr =>
  (js_cons (js_if (PW.pt (jw_or (jt_not (jt_val (je_isi rfl T.z_isinstance (je_var 1) rfl T.z_tuple boot_tuple))) (jw_or1 (jt_cmp op_gt opd_gt (je_callB call_lenA cd_len rfl T.z_len PySem.boot_len (ja_cons (je_var 1) ja_nil)) (je_cst rfl T.c_MOST_MARBLES)))))
  (js_one js_never)
  js_nil)
  (js_one (js_if (jt_not (jt_val (je_callB (cr_all rfl) cd_all rfl T.z_all (by decide +kernel) (ja_cons (je_fr (jl_lc (own := [("one", 2)]) rfl sc_check_columns.nd (ji_seq (je_var 1)) (blkOk_by (N := n_check_columns) (sc := defScope s_check_columns) (own := [("one", 2)]) (by decide +kernel)) (fun _ _ _ _ _ => (jg_name (i := 2) sc_check_columns.nd rfl (.inl rfl))) (fun _ _ _ _ _ => jts_nil) (fun _ _ _ _ _ => (je_fn h_is_whole (hr.mono (by decide)) rfl (ja_cons (je_var 2) (ja_cons je_int (ja_cons (je_op op_sub opd_sub (je_callB call_lenA cd_len rfl T.z_len PySem.boot_len (ja_cons (je_ix (je_var 0) je_int) ja_nil)) je_int) ja_nil))))))) ja_nil))))
  (js_one js_never)
  js_nil)))

/-! all_ends -/
abbrev s_all_ends : Stmt := topS 31
abbrev n_all_ends : List Str := ["board", "columns", "ends", "column", "_places", "end"]
theorem sc_all_ends : FnScope ["board", "columns", "ends", "column", "_places", "end"] ["board", "columns"] (defScope s_all_ends) := ⟨rfl, rfl, rfl, by decide +kernel, rfl, by decide +kernel, by decide +kernel⟩
def b_all_ends : Gm → R O :=
  (sSeq (sSet 2 (xL (eLst aNil)))
  (sSeq (sFor (iSeqD (eVar 1)) (.n 3)
  (sSeq (sAsg (.t [(.n 0), (.n 4), (.n 5)]) (eCall 2 phi_fall (aCons (eVar 0) (aCons (eVar 3) aNil))))
    (sApp 2 (eVar 5))))
  (sRet (eTup (aCons (eVar 0) (aCons (eCB dTuple (aCons (eVar 2) aNil)) aNil))))))
def phi_all_ends : List D → R D := runD 6 b_all_ends
theorem ok_all_ends {P : Program} {w : World} {K : Fg} {mg : Str → Option Value} {base : Heap} {f : Addr} {fd : FuncData} (Fu : Fun K "all_ends" "all_ends" s_all_ends f fd) (T : Top K w mg) (h_fall : FnB P w K mg base "fall" 3 2 phi_fall) :
    FnOk P w K mg base CX0 4 f fd ["board", "columns"] (spD K 2 phi_all_ends) :=
  fn_okN (F := b_all_ends) Fu sc_all_ends rfl rfl fun cdv A outer s H E hr =>
  (js_cons (js_set (i := 2) sc_all_ends.nd rfl (.inl rfl) (jx_l (jl_lst ja_nil)))
  (js_cons (js_for PassesOwn.never rfl (ji_seq (je_var 1)) (jg_name (i := 3) sc_all_ends.nd rfl (.inl rfl))
  (js_cons (js_asg (je_fn h_fall (hr.mono (by decide)) rfl (ja_cons (je_var 0) (ja_cons (je_var 3) ja_nil))) (jg_tup rfl (jgs_cons (jg_name (i := 0) sc_all_ends.nd rfl (.inl rfl)) (jgs_cons (jg_name (i := 4) sc_all_ends.nd rfl (.inl rfl)) (jgs_cons (jg_name (i := 5) sc_all_ends.nd rfl (.inl rfl)) jgs_nil)))))
    (js_one (js_app (i := 2) (pe_bm PySem.F.plainAttrs_list PySem.F.slot_list_append PySem.F.type_list_append mt_append (pv 2) (pa_cons (je_var 5) pa_nil))))))
  (js_one (js_ret (je_tup (ja_cons (je_var 0) (ja_cons (je_callTy call_tuple_of cd_tuple rfl T.z_tuple (by decide +kernel) (ja_cons (je_var 2) ja_nil)) ja_nil)))))))

/-! drop_all -/
abbrev s_drop_all : Stmt := topS 32
abbrev n_drop_all : List Str := ["board", "columns"]
theorem sc_drop_all : FnScope ["board", "columns"] ["board", "columns"] (defScope s_drop_all) := ⟨rfl, rfl, rfl, by decide +kernel, rfl, by decide +kernel, by decide +kernel⟩
def b_drop_all : Gm → R O :=
  (sSeq (sDrop (eCall 1 phi_check_board (aCons (eVar 0) aNil)))
  (sSeq (sDrop (eCall 2 phi_check_columns (aCons (eVar 0) (aCons (eVar 1) aNil))))
  (sRet (eCall 2 phi_all_ends (aCons (eVar 0) (aCons (eVar 1) aNil))))))
def phi_drop_all : List D → R D := runD 2 b_drop_all
theorem ok_drop_all {P : Program} {w : World} {K : Fg} {mg : Str → Option Value} {base : Heap} {f : Addr} {fd : FuncData} (Fu : Fun K "drop_all" "drop_all" s_drop_all f fd) (T : Top K w mg) (h_check_board : FnB P w K mg base "check_board" 2 1 phi_check_board) (h_check_columns : FnB P w K mg base "check_columns" 2 2 phi_check_columns) (h_all_ends : FnB P w K mg base "all_ends" 4 2 phi_all_ends) :
    FnOk P w K mg base CX0 5 f fd ["board", "columns"] (spD K 2 phi_drop_all) :=
  fn_okN (F := b_drop_all) Fu sc_drop_all rfl rfl fun cdv A outer s H E hr =>
  (js_cons (js_drop (je_fn h_check_board (hr.mono (by decide)) rfl (ja_cons (je_var 0) ja_nil)))
  (js_cons (js_drop (je_fn h_check_columns (hr.mono (by decide)) rfl (ja_cons (je_var 0) (ja_cons (je_var 1) ja_nil))))
  (js_one (js_ret (je_fn h_all_ends (hr.mono (by decide)) rfl (ja_cons (je_var 0) (ja_cons (je_var 1) ja_nil)))))))

/-! _law_draws -/
abbrev s__law_draws : Stmt := topS 34
abbrev n__law_draws : List Str := ["script", "many", "draws", "seed", "cell", "number", "k"]
theorem sc__law_draws : FnScope ["script", "many", "draws", "seed", "cell", "number", "k"] ["script", "many"] (defScope s__law_draws) := ⟨rfl, rfl, rfl, by decide +kernel, rfl, by decide +kernel, by decide +kernel⟩
def b__law_draws : Gm → R O :=
  (sSeq (sSet 2 (xL (eLst aNil)))
  (sSeq (sSet 3 (xFr (eC (.int 7))))
  (sSeq (sFor (iSeqD (eFr (lSl (eVar 0) oNone (oSome (eC (.int 63)))))) (.n 4)
  (sSeq (sSet 5 (xFr (eCB dAbs (aCons (eVar 4) aNil))))
    (sSeq (sSet 3 (xFr (e2 dMod (eCB dIntC (aCons (e2 dAdd (e2 dAdd (e2 dMul (eVar 3) (eC (.int 48271))) (eVar 5)) (eC (.int 11))) aNil)) (eC (.int 2147483647)))))
    (sIf (eT (e2 dGe (eVar 5) (e2 dPow (eC (.int 10)) (eC (.int 18)))))
    (sFor (iRange1 (eC (.int 60))) (.n 6)
      (sIf (eT (e2 dGt (eVar 5) (eC (.int 0))))
        (sSeq (sApp 2 (e2 dMod (eCB dIntC (aCons (eVar 5) aNil)) (eC (.int 1009))))
          (sSet 5 (xFr (e2 dDiv (eVar 5) (eC (.int 1009))))))
        sNext))
    (sApp 2 (e2 dMod (e2 dDiv (eCB dIntC (aCons (e2 dAdd (e2 dMul (eVar 3) (eC (.int 16807))) (eC (.int 5))) aNil)) (eC (.int 3))) (eC (.int 65521))))))))
  (sSeq (sFor (iRange1 (eVar 1)) (.n 6)
  (sIf (eT (e2 dLt (fBor (eCB dLen (aCons (eVar 2) aNil))) (eVar 1)))
    (sSeq (sSet 3 (xFr (e2 dMod (eCB dIntC (aCons (e2 dAdd (e2 dAdd (e2 dMul (eVar 3) (eC (.int 69621))) (eVar 6)) (eC (.int 1))) aNil)) (eC (.int 2147483647)))))
      (sApp 2 (e2 dMod (e2 dDiv (eCB dIntC (aCons (eVar 3) aNil)) (eC (.int 7))) (eC (.int 65521)))))
    sNext))
  (sRet (eFr (lSl (eVar 2) oNone (oSome (eVar 1)))))))))
def phi__law_draws : List D → R D := runD 7 b__law_draws
theorem ok__law_draws {P : Program} {w : World} {K : Fg} {mg : Str → Option Value} {base : Heap} {f : Addr} {fd : FuncData} (Fu : Fun K "_law_draws" "_law_draws" s__law_draws f fd) (T : Top K w mg) :
    FnOk P w K mg base CX0 1 f fd ["script", "many"] (spD K 2 phi__law_draws) :=
  fn_okN (F := b__law_draws) Fu sc__law_draws rfl rfl fun cdv A outer s H E hr =>
  (js_cons (js_set (i := 2) sc__law_draws.nd rfl (.inl rfl) (jx_l (jl_lst ja_nil)))
  (js_cons (js_set (i := 3) sc__law_draws.nd rfl (.inl rfl) (jx_fr je_int))
  (js_cons (js_for PassesOwn.never rfl (ji_seq (je_fr (jl_sl (je_var 0) jo_none (jo_some je_int)))) (jg_name (i := 4) sc__law_draws.nd rfl (.inl rfl))
  (js_cons (js_set (i := 5) sc__law_draws.nd rfl (.inl rfl) (jx_fr (je_callB call_abs cd_abs rfl T.z_abs (by decide +kernel) (ja_cons (je_var 4) ja_nil))))
    (js_cons (js_set (i := 3) sc__law_draws.nd rfl (.inl rfl) (jx_fr (je_op op_modN opd_mod (je_callTy call_int1 cd_int rfl T.z_int (by decide +kernel) (ja_cons (je_op op_addA opd_add (je_op op_addA opd_add (je_op op_mulA opd_mul (je_var 3) je_int) (je_var 5)) je_int) ja_nil)) je_int)))
    (js_one (js_if (jt_cmp op_ge opd_ge (je_var 5) (je_op op_pow opd_pow je_int je_int))
    (js_one (js_for PassesOwn.never rfl (ji_range1 rfl T.z_range je_int) (jg_name (i := 6) sc__law_draws.nd rfl (.inl rfl))
      (js_one (js_if (jt_cmp op_gt opd_gt (je_var 5) je_int)
        (js_cons (js_app (i := 2) (pe_bm PySem.F.plainAttrs_list PySem.F.slot_list_append PySem.F.type_list_append mt_append (pv 2) (pa_cons (je_op op_modN opd_mod (je_callTy call_int1 cd_int rfl T.z_int (by decide +kernel) (ja_cons (je_var 5) ja_nil)) je_int) pa_nil)))
          (js_one (js_set (i := 5) sc__law_draws.nd rfl (.inl rfl) (jx_fr (je_op op_fdivN opd_div (je_var 5) je_int)))))
        js_nil))))
    (js_one (js_app (i := 2) (pe_bm PySem.F.plainAttrs_list PySem.F.slot_list_append PySem.F.type_list_append mt_append (pv 2) (pa_cons (je_op op_modN opd_mod (je_op op_fdivN opd_div (je_callTy call_int1 cd_int rfl T.z_int (by decide +kernel) (ja_cons (je_op op_addA opd_add (je_op op_mulA opd_mul (je_var 3) je_int) je_int) ja_nil)) je_int) je_int) pa_nil)))))))))
  (js_cons (js_for PassesOwn.never rfl (ji_range1 rfl T.z_range (je_var 1)) (jg_name (i := 6) sc__law_draws.nd rfl (.inl rfl))
  (js_one (js_if (jt_cmp op_lt opd_lt (je_bor (je_callB call_lenA cd_len rfl T.z_len PySem.boot_len (ja_cons (je_var 2) ja_nil))) (je_var 1))
    (js_cons (js_set (i := 3) sc__law_draws.nd rfl (.inl rfl) (jx_fr (je_op op_modN opd_mod (je_callTy call_int1 cd_int rfl T.z_int (by decide +kernel) (ja_cons (je_op op_addA opd_add (je_op op_addA opd_add (je_op op_mulA opd_mul (je_var 3) je_int) (je_var 6)) je_int) ja_nil)) je_int)))
      (js_one (js_app (i := 2) (pe_bm PySem.F.plainAttrs_list PySem.F.slot_list_append PySem.F.type_list_append mt_append (pv 2) (pa_cons (je_op op_modN opd_mod (je_op op_fdivN opd_div (je_callTy call_int1 cd_int rfl T.z_int (by decide +kernel) (ja_cons (je_var 3) ja_nil)) je_int) je_int) pa_nil)))))
    js_nil)))
  (js_one (js_ret (je_fr (jl_sl (je_var 2) jo_none (jo_some (je_var 1))))))))))

/-! _law_board -/
abbrev s__law_board : Stmt := topS 35
abbrev n__law_board : List Str := ["draws", "high", "wide", "rows", "row", "column"]
theorem sc__law_board : FnScope ["draws", "high", "wide", "rows", "row", "column"] ["draws", "high", "wide"] (defScope s__law_board) := ⟨rfl, rfl, rfl, by decide +kernel, rfl, by decide +kernel, by decide +kernel⟩
def b__law_board : Gm → R O :=
  (sSeq (sSet 3 (xL (eLst aNil)))
  (sSeq (sFor (iRange1 (eVar 1)) (.n 4)
  (sApp 3 (eJoin (eC (.str "")) (eFr (eLc (iRange1 (eVar 2)) (.n 5) cYes (e2 dIx (eC (.str "..\\/LRLRX.#LR")) (e2 dMod (e2 dDiv (eCB dIntC (aCons (e2 dIx (eVar 0) (e2 dMod (e2 dAdd (e2 dMul (eVar 4) (eVar 2)) (eVar 5)) (eCB dLen (aCons (eVar 0) aNil)))) aNil)) (e2 dAdd (eC (.int 1)) (eVar 4))) (eC (.int 13)))) [5])))))
  (sRet (eCB dTuple (aCons (eVar 3) aNil)))))
def phi__law_board : List D → R D := runD 6 b__law_board
theorem ok__law_board {P : Program} {w : World} {K : Fg} {mg : Str → Option Value} {base : Heap} {f : Addr} {fd : FuncData} (Fu : Fun K "_law_board" "_law_board" s__law_board f fd) (T : Top K w mg) :
    FnOk P w K mg base CX0 1 f fd ["draws", "high", "wide"] (spD K 3 phi__law_board) :=
  fn_okN (F := b__law_board) Fu sc__law_board rfl rfl fun cdv A outer s H E hr =>
  (js_cons (js_set (i := 3) sc__law_board.nd rfl (.inl rfl) (jx_l (jl_lst ja_nil)))
  (js_cons (js_for PassesOwn.never rfl (ji_range1 rfl T.z_range (je_var 1)) (jg_name (i := 4) sc__law_board.nd rfl (.inr rfl))
  (js_one (js_app (i := 3) (pe_bm PySem.F.plainAttrs_list PySem.F.slot_list_append PySem.F.type_list_append mt_append (pv 3) (pa_cons (je_join je_str (je_fr (jl_lc (own := [("column", 5)]) rfl sc__law_board.nd (ji_range1 rfl T.z_range (je_var 2)) (blkOk_by (N := n__law_board) (sc := defScope s__law_board) (own := [("column", 5)]) (by decide +kernel)) (fun _ _ _ _ _ => (jg_name (i := 5) sc__law_board.nd rfl (.inl rfl))) (fun _ _ _ _ _ => jts_nil) (fun _ _ _ _ _ => (je_ix je_str (je_op op_modN opd_mod (je_op op_fdivN opd_div (je_callTy call_int1 cd_int rfl T.z_int (by decide +kernel) (ja_cons (je_ix (je_var 0) (je_op op_modN opd_mod (je_op op_addA opd_add (je_op op_mulA opd_mul (je_var 4) (je_var 2)) (je_var 5)) (je_callB call_lenA cd_len rfl T.z_len PySem.boot_len (ja_cons (je_var 0) ja_nil)))) ja_nil)) (je_op op_addA opd_add je_int (je_var 4))) je_int)))))) pa_nil)))))
  (js_one (js_ret (je_callTy call_tuple_of cd_tuple rfl T.z_tuple (by decide +kernel) (ja_cons (je_var 3) ja_nil))))))

/-! _law_fall -/
abbrev s__law_fall : Stmt := topS 36
abbrev n__law_fall : List Str := ["rows", "column", "way", "row", "sign"]
theorem sc__law_fall : FnScope ["rows", "column", "way", "row", "sign"] ["rows", "column"] (defScope s__law_fall) := ⟨rfl, rfl, rfl, by decide +kernel, rfl, by decide +kernel, by decide +kernel⟩
def b__law_fall : Gm → R O :=
  (sSeq (sPar 0 2 (xL2 (eLc2 (iSeqD (eVar 0)) (.n 3) (lCB dList (aCons (eVar 3) aNil)) [3])) (xFr (eC (.int 0))))
  (sSeq (sFor (iRange1 (fBor (eCB dLen (aCons (eVar 0) aNil)))) (.n 3)
  (sSeq (sSet 4 (xFr (fBor (e2 dIx (e2 dIx (eVar 0) (eVar 3)) (eVar 1)))))
    (sSeq (sIf (eT (e2 dEq (eVar 4) (eC (.str "#"))))
    (sRet (eTup (aCons (eVar 0) (aCons (eTup (aCons (eC (.str "stop")) (aCons (eVar 3) (aCons (eVar 1) aNil)))) aNil))))
    sNext)
    (sSeq (sIf (eT (e2 dInS (eVar 4) (eC (.str "LR"))))
    (sSeq (sSet 2 (xFr (eIf (eT (e2 dEq (eVar 4) (eC (.str "L")))) (e1 dNeg (eC (.int 1))) (eC (.int 1)))))
      (sSet2 0 (eIf (eT (e2 dEq (eVar 4) (eC (.str "L")))) (eC (.str "R")) (eC (.str "L"))) (eVar 3) (eVar 1)))
    (sIf (eT (e2 dInS (eVar 4) (eC (.str "\\/"))))
      (sSet 2 (xFr (eIf (eT (e2 dEq (eVar 4) (eC (.str "\\")))) (eC (.int 1)) (e1 dNeg (eC (.int 1))))))
      (sIf (eT (e2 dEq (eVar 4) (eC (.str "."))))
        (sSet 2 (xFr (eC (.int 0))))
        sNext)))
    (sSeq (sSet 1 (xFr (e2 dAdd (eVar 1) (eVar 2))))
    (sIf (fOr (eT (e2 dLt (eVar 1) (eC (.int 0)))) (eT (e2 dGe (eVar 1) (fBor (eCB dLen (aCons (e2 dIx (eVar 0) (eC (.int 0))) aNil))))))
    (sRet (eTup (aCons (eVar 0) (aCons (eTup (aCons (eIf (eT (e2 dLt (eVar 1) (eC (.int 0)))) (eC (.str "left")) (eC (.str "right"))) (aCons (eVar 3) aNil))) aNil))))
    sNext))))))
  (sRet (eTup (aCons (eVar 0) (aCons (eTup (aCons (eC (.str "out")) (aCons (eVar 1) aNil))) aNil))))))
def phi__law_fall : List D → R D := runD 5 b__law_fall
theorem ok__law_fall {P : Program} {w : World} {K : Fg} {mg : Str → Option Value} {base : Heap} {f : Addr} {fd : FuncData} (Fu : Fun K "_law_fall" "_law_fall" s__law_fall f fd) (T : Top K w mg) :
    FnOk P w K mg base CX0 1 f fd ["rows", "column"] (spD K 2 phi__law_fall) :=
  fn_okN (F := b__law_fall) Fu sc__law_fall rfl rfl fun cdv A outer s H E hr =>
  (js_cons (js_par (i := 0) (j := 2) rfl sc__law_fall.nd rfl rfl (by decide) rfl rfl (jx_l2 (jl2_lc (own := [("row", 3)]) rfl sc__law_fall.nd (ji_seq (je_var 0)) (blkOk_by (N := n__law_fall) (sc := defScope s__law_fall) (own := [("row", 3)]) (by decide +kernel)) (fun _ _ _ _ _ => (jg_name (i := 3) sc__law_fall.nd rfl (.inl rfl))) (fun _ _ _ _ _ => (jl_callTy (call_listA rfl) cl_list rfl T.z_list (by decide +kernel) (ja_cons (je_var 3) ja_nil))))) (jx_fr je_int))
  (js_cons (js_for PassesOwn.never rfl (ji_range1 rfl T.z_range (je_bor (je_callB call_lenA cd_len rfl T.z_len PySem.boot_len (ja_cons (je_var 0) ja_nil)))) (jg_name (i := 3) sc__law_fall.nd rfl (.inl rfl))
  (js_cons (js_set (i := 4) sc__law_fall.nd rfl (.inl rfl) (jx_fr (je_bor (je_ix (je_ix (je_var 0) (je_var 3)) (je_var 1)))))
    (js_cons (js_if (jt_cmp (op_eqD hr.units) opd_eq (je_var 4) je_str)
    (js_one (js_ret (je_tup (ja_cons (je_var 0) (ja_cons (je_tup (ja_cons je_str (ja_cons (je_var 3) (ja_cons (je_var 1) ja_nil)))) ja_nil)))))
    js_nil)
    (js_cons (js_if (jt_cmp op_in_sign opd_inS (je_var 4) je_str)
    (js_cons (js_set (i := 2) sc__law_fall.nd rfl (.inl rfl) (jx_fr (je_if (jt_cmp (op_eqD hr.units) opd_eq (je_var 4) je_str) (je_un un_neg und_neg je_int) je_int)))
      (js_one (js_set2 (i := 0) (pv 0) (je_if (jt_cmp (op_eqD hr.units) opd_eq (je_var 4) je_str) je_str je_str) (je_var 3) (je_var 1))))
    (js_one (js_if (jt_cmp op_in_sign opd_inS (je_var 4) je_str)
      (js_one (js_set (i := 2) sc__law_fall.nd rfl (.inl rfl) (jx_fr (je_if (jt_cmp (op_eqD hr.units) opd_eq (je_var 4) je_str) je_int (je_un un_neg und_neg je_int)))))
      (js_one (js_if (jt_cmp (op_eqD hr.units) opd_eq (je_var 4) je_str)
        (js_one (js_set (i := 2) sc__law_fall.nd rfl (.inl rfl) (jx_fr je_int)))
        js_nil)))))
    (js_cons (js_set (i := 1) sc__law_fall.nd rfl (.inl rfl) (jx_fr (je_op op_addA opd_add (je_var 1) (je_var 2))))
    (js_one (js_if (PW.pt (jw_or (jt_cmp op_lt opd_lt (je_var 1) je_int) (jw_or1 (jt_cmp op_ge opd_ge (je_var 1) (je_bor (je_callB call_lenA cd_len rfl T.z_len PySem.boot_len (ja_cons (je_ix (je_var 0) je_int) ja_nil)))))))
    (js_one (js_ret (je_tup (ja_cons (je_var 0) (ja_cons (je_tup (ja_cons (je_if (jt_cmp op_lt opd_lt (je_var 1) je_int) je_str je_str) (ja_cons (je_var 3) ja_nil))) ja_nil)))))
    js_nil)))))))
  (js_one (js_ret (je_tup (ja_cons (je_var 0) (ja_cons (je_tup (ja_cons je_str (ja_cons (je_var 1) ja_nil))) ja_nil)))))))

/-! law -/
abbrev s_law : Stmt := topS 37
abbrev n_law : List Str := ["script", "draws", "turn", "high", "wide", "board", "columns", "k", "rows", "ends", "column", "end", "later", "rest", "order", "at", "other", "found", "cut", "first", "second", "row"]
theorem sc_law : FnScope ["script", "draws", "turn", "high", "wide", "board", "columns", "k", "rows", "ends", "column", "end", "later", "rest", "order", "at", "other", "found", "cut", "first", "second", "row"] ["script"] (defScope s_law) := ⟨rfl, rfl, rfl, by decide +kernel, rfl, by decide +kernel, by decide +kernel⟩
def b_law : Gm → R O :=
  (sSeq (sSet 1 (xFr (eCall 2 phi__law_draws (aCons (eVar 0) (aCons (eC (.int 300)) aNil)))))
  (sSeq (sFor (iRange1 (eC (.int 6))) (.n 2)
  (sSeq (sAsg (.t [(.n 3), (.n 4)]) (eTup (aCons (e2 dAdd (eC (.int 2)) (e2 dMod (eCB dIntC (aCons (e2 dIx (eVar 1) (eVar 2)) aNil)) (eC (.int 6)))) (aCons (e2 dAdd (eC (.int 2)) (e2 dMod (eCB dIntC (aCons (e2 dIx (eVar 1) (e2 dAdd (eC (.int 10)) (eVar 2))) aNil)) (eC (.int 5)))) aNil))))
    (sSeq (sSet 5 (xFr (eCall 3 phi__law_board (aCons (eFr (lSl (eVar 1) (oSome (e2 dAdd (eC (.int 20)) (e2 dMul (eC (.int 30)) (eVar 2)))) oNone)) (aCons (eVar 3) (aCons (eVar 4) aNil))))))
    (sSeq (sSet 6 (xFr (eCB dTuple (aCons (eFr (eLc (iRange1 (e2 dAdd (eC (.int 4)) (e2 dMod (eCB dIntC (aCons (e2 dIx (eVar 1) (e2 dAdd (eC (.int 210)) (eVar 2))) aNil)) (eC (.int 12))))) (.n 7) cYes (e2 dMod (eCB dIntC (aCons (e2 dIx (eVar 1) (e2 dAdd (eC (.int 220)) (e2 dMod (e2 dAdd (e2 dMul (eC (.int 3)) (eVar 2)) (eVar 7)) (eC (.int 70))))) aNil)) (eVar 4)) [7])) aNil))))
    (sSeq (sPar 8 9 (xFr (eFr (eLc (iSeqD (eVar 5)) (.n 21) cYes (eFr (lCB dList (aCons (eVar 21) aNil))) [21]))) (xL (eLst aNil)))
    (sSeq (sFor (iSeqD (eVar 6)) (.n 10)
    (sSeq (sAsg (.t [(.n 8), (.n 11)]) (eCall 2 phi__law_fall (aCons (eVar 8) (aCons (eVar 10) aNil))))
      (sApp 9 (eVar 11))))
    (sSeq (sSet 12 (xFr (eCB dTuple (aCons (eFr (eLc (iSeqD (eVar 8)) (.n 21) cYes (eJoin (eC (.str "")) (eVar 21)) [21])) aNil))))
    (sSeq (sIf (fOr (eT (e2 dNe (eCall 2 phi_drop_all (aCons (eVar 5) (aCons (eVar 6) aNil))) (eTup (aCons (eVar 12) (aCons (fBor (eCB dTuple (aCons (eVar 9) aNil))) aNil))))) (eT (e2 dNe (eCall 2 phi_drop (aCons (eVar 5) (aCons (e2 dIx (eVar 6) (eC (.int 0))) aNil))) (e2 dAdd (eSl (eCall 2 phi_drop_all (aCons (eVar 5) (aCons (eSl (eVar 6) oNone (oSome (eC (.int 1)))) aNil))) oNone (oSome (eC (.int 1)))) (eTup (aCons (fBor (e2 dIx (eVar 9) (eC (.int 0)))) aNil))))))
    (sRet (eC (.bool false)))
    sNext)
    (sSeq (sPar 13 14 (xFr (eFr (lCB dList (aCons (eVar 6) aNil)))) (xFr (eFr (eLst aNil))))
    (sSeq (sFor (iRange1 (eCB dLen (aCons (eVar 6) aNil))) (.n 7)
    (sSeq (sSet 15 (xFr (e2 dMod (eCB dIntC (aCons (e2 dIx (eVar 1) (e2 dMod (e2 dAdd (e2 dMul (eC (.int 5)) (eVar 2)) (e2 dMul (eC (.int 11)) (eVar 7))) (eC (.int 300)))) aNil)) (eCB dLen (aCons (eVar 13) aNil)))))
      (sPar 14 13 (xFr (eFr (l2 dCat (eVar 14) (eFr (eLst (aCons (e2 dIx (eVar 13) (eVar 15)) aNil)))))) (xFr (eFr (l2 dCat (eFr (lSl (eVar 13) oNone (oSome (eVar 15)))) (eFr (lSl (eVar 13) (oSome (e2 dAdd (eVar 15) (eC (.int 1)))) oNone))))))))
    (sSeq (sFor (iSeqD (eTup (aCons (eCB dTuple (aCons (eVar 14) aNil)) (aCons (e1 dRevT (eVar 6)) (aCons (eCB dTuple (aCons (eFr (lCB dSorted (aCons (eVar 6) aNil))) aNil)) aNil))))) (.n 16)
    (sSeq (sSet 17 (xFr (eCall 2 phi_drop_all (aCons (eVar 5) (aCons (eVar 16) aNil)))))
      (sIf (fOr (eT (e2 dNe (e2 dIx (eVar 17) (eC (.int 0))) (eVar 12))) (fBorT (eT (e2 dNe (eFr (lCB dSorted (aCons (e2 dIx (eVar 17) (eC (.int 1))) aNil))) (eFr (lCB dSorted (aCons (eVar 9) aNil)))))))
      (sRet (eC (.bool false)))
      sNext)))
    (sSeq (sSet 18 (xFr (e2 dMod (eCB dIntC (aCons (e2 dIx (eVar 1) (e2 dAdd (eC (.int 290)) (eVar 2))) aNil)) (e2 dAdd (eCB dLen (aCons (eVar 6) aNil)) (eC (.int 1))))))
    (sSeq (sSet 19 (xFr (eCall 2 phi_drop_all (aCons (eVar 5) (aCons (eSl (eVar 6) oNone (oSome (eVar 18))) aNil)))))
    (sSeq (sSet 20 (xFr (eCall 2 phi_drop_all (aCons (e2 dIx (eVar 19) (eC (.int 0))) (aCons (eSl (eVar 6) (oSome (eVar 18)) oNone) aNil)))))
    (sIf (fOr (eT (e2 dNe (e2 dIx (eVar 20) (eC (.int 0))) (eVar 12))) (eT (e2 dNe (e2 dAdd (e2 dIx (eVar 19) (eC (.int 1))) (e2 dIx (eVar 20) (eC (.int 1)))) (fBor (eCB dTuple (aCons (eVar 9) aNil))))))
    (sRet (eC (.bool false)))
    sNext)))))))))))))))
  (sRet (eC (.bool true)))))
def phi_law : List D → R D := runD 22 b_law
theorem ok_law {P : Program} {w : World} {K : Fg} {mg : Str → Option Value} {base : Heap} {f : Addr} {fd : FuncData} (Fu : Fun K "law" "law" s_law f fd) (T : Top K w mg) (h__law_draws : FnB P w K mg base "_law_draws" 1 2 phi__law_draws) (h__law_board : FnB P w K mg base "_law_board" 1 3 phi__law_board) (h__law_fall : FnB P w K mg base "_law_fall" 1 2 phi__law_fall) (h_drop_all : FnB P w K mg base "drop_all" 5 2 phi_drop_all) (h_drop : FnB P w K mg base "drop" 4 2 phi_drop) :
    FnOk P w K mg base CX0 6 f fd ["script"] (spD K 1 phi_law) :=
  fn_okN (F := b_law) Fu sc_law rfl rfl fun cdv A outer s H E hr =>
  (js_cons (js_set (i := 1) sc_law.nd rfl (.inr rfl) (jx_fr (je_fn h__law_draws (hr.mono (by decide)) rfl (ja_cons (je_var 0) (ja_cons je_int ja_nil)))))
  (js_cons (js_for PassesOwn.never rfl (ji_range1 rfl T.z_range je_int) (jg_name (i := 2) sc_law.nd rfl (.inr rfl))
  (js_cons (js_asg (je_tup (ja_cons (je_op op_addA opd_add je_int (je_op op_modN opd_mod (je_callTy call_int1 cd_int rfl T.z_int (by decide +kernel) (ja_cons (je_ix (je_var 1) (je_var 2)) ja_nil)) je_int)) (ja_cons (je_op op_addA opd_add je_int (je_op op_modN opd_mod (je_callTy call_int1 cd_int rfl T.z_int (by decide +kernel) (ja_cons (je_ix (je_var 1) (je_op op_addA opd_add je_int (je_var 2))) ja_nil)) je_int)) ja_nil))) (jg_tup rfl (jgs_cons (jg_name (i := 3) sc_law.nd rfl (.inl rfl)) (jgs_cons (jg_name (i := 4) sc_law.nd rfl (.inr rfl)) jgs_nil))))
    (js_cons (js_set (i := 5) sc_law.nd rfl (.inl rfl) (jx_fr (je_fn h__law_board (hr.mono (by decide)) rfl (ja_cons (je_fr (jl_sl (je_var 1) (jo_some (je_op op_addA opd_add je_int (je_op op_mulA opd_mul je_int (je_var 2)))) jo_none)) (ja_cons (je_var 3) (ja_cons (je_var 4) ja_nil))))))
    (js_cons (js_set (i := 6) sc_law.nd rfl (.inl rfl) (jx_fr (je_callTy call_tuple_of cd_tuple rfl T.z_tuple (by decide +kernel) (ja_cons (je_fr (jl_lc (own := [("k", 7)]) rfl sc_law.nd (ji_range1 rfl T.z_range (je_op op_addA opd_add je_int (je_op op_modN opd_mod (je_callTy call_int1 cd_int rfl T.z_int (by decide +kernel) (ja_cons (je_ix (je_var 1) (je_op op_addA opd_add je_int (je_var 2))) ja_nil)) je_int))) (blkOk_by (N := n_law) (sc := defScope s_law) (own := [("k", 7)]) (by decide +kernel)) (fun _ _ _ _ _ => (jg_name (i := 7) sc_law.nd rfl (.inl rfl))) (fun _ _ _ _ _ => jts_nil) (fun _ _ _ _ _ => (je_op op_modN opd_mod (je_callTy call_int1 cd_int rfl T.z_int (by decide +kernel) (ja_cons (je_ix (je_var 1) (je_op op_addA opd_add je_int (je_op op_modN opd_mod (je_op op_addA opd_add (je_op op_mulA opd_mul je_int (je_var 2)) (je_var 7)) je_int))) ja_nil)) (je_var 4))))) ja_nil))))
    (js_cons (js_par (i := 8) (j := 9) rfl sc_law.nd rfl rfl (by decide) rfl rfl (jx_fr (je_fr (jl_lc (own := [("row", 21)]) rfl sc_law.nd (ji_seq (je_var 5)) (blkOk_by (N := n_law) (sc := defScope s_law) (own := [("row", 21)]) (by decide +kernel)) (fun _ _ _ _ _ => (jg_name (i := 21) sc_law.nd rfl (.inl rfl))) (fun _ _ _ _ _ => jts_nil) (fun _ _ _ _ _ => (je_fr (jl_callTy (call_listA rfl) cl_list rfl T.z_list (by decide +kernel) (ja_cons (je_var 21) ja_nil))))))) (jx_l (jl_lst ja_nil)))
    (js_cons (js_for PassesOwn.never rfl (ji_seq (je_var 6)) (jg_name (i := 10) sc_law.nd rfl (.inl rfl))
    (js_cons (js_asg (je_fn h__law_fall (hr.mono (by decide)) rfl (ja_cons (je_var 8) (ja_cons (je_var 10) ja_nil))) (jg_tup rfl (jgs_cons (jg_name (i := 8) sc_law.nd rfl (.inl rfl)) (jgs_cons (jg_name (i := 11) sc_law.nd rfl (.inl rfl)) jgs_nil))))
      (js_one (js_app (i := 9) (pe_bm PySem.F.plainAttrs_list PySem.F.slot_list_append PySem.F.type_list_append mt_append (pv 9) (pa_cons (je_var 11) pa_nil))))))
    (js_cons (js_set (i := 12) sc_law.nd rfl (.inl rfl) (jx_fr (je_callTy call_tuple_of cd_tuple rfl T.z_tuple (by decide +kernel) (ja_cons (je_fr (jl_lc (own := [("row", 21)]) rfl sc_law.nd (ji_seq (je_var 8)) (blkOk_by (N := n_law) (sc := defScope s_law) (own := [("row", 21)]) (by decide +kernel)) (fun _ _ _ _ _ => (jg_name (i := 21) sc_law.nd rfl (.inl rfl))) (fun _ _ _ _ _ => jts_nil) (fun _ _ _ _ _ => (je_join je_str (je_var 21))))) ja_nil))))
    (js_cons (js_if (PW.pt (jw_or (jt_cmp (op_neD hr.units) opd_ne (je_fn h_drop_all (hr.mono (by decide)) rfl (ja_cons (je_var 5) (ja_cons (je_var 6) ja_nil))) (je_tup (ja_cons (je_var 12) (ja_cons (je_bor (je_callTy call_tuple_of cd_tuple rfl T.z_tuple (by decide +kernel) (ja_cons (je_var 9) ja_nil))) ja_nil)))) (jw_or1 (jt_cmp (op_neD hr.units) opd_ne (je_fn h_drop (hr.mono (by decide)) rfl (ja_cons (je_var 5) (ja_cons (je_ix (je_var 6) je_int) ja_nil))) (je_op op_addA opd_add (je_sl (je_fn h_drop_all (hr.mono (by decide)) rfl (ja_cons (je_var 5) (ja_cons (je_sl (je_var 6) jo_none (jo_some je_int)) ja_nil))) jo_none (jo_some je_int)) (je_tup (ja_cons (je_bor (je_ix (je_var 9) je_int)) ja_nil)))))))
    (js_one (js_ret je_bl))
    js_nil)
    (js_cons (js_par (i := 13) (j := 14) rfl sc_law.nd rfl rfl (by decide) rfl rfl (jx_fr (je_fr (jl_callTy (call_listA rfl) cl_list rfl T.z_list (by decide +kernel) (ja_cons (je_var 6) ja_nil)))) (jx_fr (je_fr (jl_lst ja_nil))))
    (js_cons (js_for PassesOwn.never rfl (ji_range1 rfl T.z_range (je_callB call_lenA cd_len rfl T.z_len PySem.boot_len (ja_cons (je_var 6) ja_nil))) (jg_name (i := 7) sc_law.nd rfl (.inl rfl))
    (js_cons (js_set (i := 15) sc_law.nd rfl (.inl rfl) (jx_fr (je_op op_modN opd_mod (je_callTy call_int1 cd_int rfl T.z_int (by decide +kernel) (ja_cons (je_ix (je_var 1) (je_op op_modN opd_mod (je_op op_addA opd_add (je_op op_mulA opd_mul je_int (je_var 2)) (je_op op_mulA opd_mul je_int (je_var 7))) je_int)) ja_nil)) (je_callB call_lenA cd_len rfl T.z_len PySem.boot_len (ja_cons (je_var 13) ja_nil)))))
      (js_one (js_par (i := 14) (j := 13) rfl sc_law.nd rfl rfl (by decide) rfl rfl (jx_fr (je_fr (jl_op op_catL opl_cat (je_var 14) (je_fr (jl_lst (ja_cons (je_ix (je_var 13) (je_var 15)) ja_nil)))))) (jx_fr (je_fr (jl_op op_catL opl_cat (je_fr (jl_sl (je_var 13) jo_none (jo_some (je_var 15)))) (je_fr (jl_sl (je_var 13) (jo_some (je_op op_addA opd_add (je_var 15) je_int)) jo_none)))))))))
    (js_cons (js_for PassesOwn.never rfl (ji_seq (je_tup (ja_cons (je_callTy call_tuple_of cd_tuple rfl T.z_tuple (by decide +kernel) (ja_cons (je_var 14) ja_nil)) (ja_cons (je_revT (je_var 6)) (ja_cons (je_callTy call_tuple_of cd_tuple rfl T.z_tuple (by decide +kernel) (ja_cons (je_fr (jl_callB (cr_sortD hr.units) cl_sorted rfl T.z_sorted (by decide +kernel) (ja_cons (je_var 6) ja_nil))) ja_nil)) ja_nil))))) (jg_name (i := 16) sc_law.nd rfl (.inl rfl))
    (js_cons (js_set (i := 17) sc_law.nd rfl (.inl rfl) (jx_fr (je_fn h_drop_all (hr.mono (by decide)) rfl (ja_cons (je_var 5) (ja_cons (je_var 16) ja_nil)))))
      (js_one (js_if (PW.pt (jw_or (jt_cmp (op_neD hr.units) opd_ne (je_ix (je_var 17) je_int) (je_var 12)) (jw_or1 (jt_bor (jt_cmp (op_neD hr.units) opd_ne (je_fr (jl_callB (cr_sortD hr.units) cl_sorted rfl T.z_sorted (by decide +kernel) (ja_cons (je_ix (je_var 17) je_int) ja_nil))) (je_fr (jl_callB (cr_sortD hr.units) cl_sorted rfl T.z_sorted (by decide +kernel) (ja_cons (je_var 9) ja_nil))))))))
      (js_one (js_ret je_bl))
      js_nil))))
    (js_cons (js_set (i := 18) sc_law.nd rfl (.inl rfl) (jx_fr (je_op op_modN opd_mod (je_callTy call_int1 cd_int rfl T.z_int (by decide +kernel) (ja_cons (je_ix (je_var 1) (je_op op_addA opd_add je_int (je_var 2))) ja_nil)) (je_op op_addA opd_add (je_callB call_lenA cd_len rfl T.z_len PySem.boot_len (ja_cons (je_var 6) ja_nil)) je_int))))
    (js_cons (js_set (i := 19) sc_law.nd rfl (.inl rfl) (jx_fr (je_fn h_drop_all (hr.mono (by decide)) rfl (ja_cons (je_var 5) (ja_cons (je_sl (je_var 6) jo_none (jo_some (je_var 18))) ja_nil)))))
    (js_cons (js_set (i := 20) sc_law.nd rfl (.inl rfl) (jx_fr (je_fn h_drop_all (hr.mono (by decide)) rfl (ja_cons (je_ix (je_var 19) je_int) (ja_cons (je_sl (je_var 6) (jo_some (je_var 18)) jo_none) ja_nil)))))
    (js_one (js_if (PW.pt (jw_or (jt_cmp (op_neD hr.units) opd_ne (je_ix (je_var 20) je_int) (je_var 12)) (jw_or1 (jt_cmp (op_neD hr.units) opd_ne (je_op op_addA opd_add (je_ix (je_var 19) je_int) (je_ix (je_var 20) je_int)) (je_bor (je_callTy call_tuple_of cd_tuple rfl T.z_tuple (by decide +kernel) (ja_cons (je_var 9) ja_nil)))))))
    (js_one (js_ret je_bl))
    js_nil))))))))))))))))
  (js_one (js_ret je_bl))))

/-! what the top has written -/
theorem all_mk {l : PySem.W.OpenLaw} {w : World} {K : Fg} {h : Heap} {mg : Str → Option Value} {fa f_is_whole f_board_fault f_check_board f_turned_at f_check_column f_way_at f_beyond f_behind f_fall f_drop f_check_columns f_all_ends f_drop_all f__law_draws f__law_board f__law_fall f_law : Addr} (X : K.In h) (G : h.Ns mainGlobals mg) (hfa : mg "law" = some (.ref fa))
    {od_is_whole an_is_whole : Option Addr} {sl_is_whole : Array (Option Value)} {oc_is_whole kV_is_whole dc_is_whole pm_is_whole cd_is_whole ct_is_whole : Value} {od_board_fault an_board_fault : Option Addr} {sl_board_fault : Array (Option Value)} {oc_board_fault kV_board_fault dc_board_fault pm_board_fault cd_board_fault ct_board_fault : Value} {od_check_board an_check_board : Option Addr} {sl_check_board : Array (Option Value)} {oc_check_board kV_check_board dc_check_board pm_check_board cd_check_board ct_check_board : Value} {od_turned_at an_turned_at : Option Addr} {sl_turned_at : Array (Option Value)} {oc_turned_at kV_turned_at dc_turned_at pm_turned_at cd_turned_at ct_turned_at : Value} {od_check_column an_check_column : Option Addr} {sl_check_column : Array (Option Value)} {oc_check_column kV_check_column dc_check_column pm_check_column cd_check_column ct_check_column : Value} {od_way_at an_way_at : Option Addr} {sl_way_at : Array (Option Value)} {oc_way_at kV_way_at dc_way_at pm_way_at cd_way_at ct_way_at : Value} {od_beyond an_beyond : Option Addr} {sl_beyond : Array (Option Value)} {oc_beyond kV_beyond dc_beyond pm_beyond cd_beyond ct_beyond : Value} {od_behind an_behind : Option Addr} {sl_behind : Array (Option Value)} {oc_behind kV_behind dc_behind pm_behind cd_behind ct_behind : Value} {od_fall an_fall : Option Addr} {sl_fall : Array (Option Value)} {oc_fall kV_fall dc_fall pm_fall cd_fall ct_fall : Value} {od_drop an_drop : Option Addr} {sl_drop : Array (Option Value)} {oc_drop kV_drop dc_drop pm_drop cd_drop ct_drop : Value} {od_check_columns an_check_columns : Option Addr} {sl_check_columns : Array (Option Value)} {oc_check_columns kV_check_columns dc_check_columns pm_check_columns cd_check_columns ct_check_columns : Value} {od_all_ends an_all_ends : Option Addr} {sl_all_ends : Array (Option Value)} {oc_all_ends kV_all_ends dc_all_ends pm_all_ends cd_all_ends ct_all_ends : Value} {od_drop_all an_drop_all : Option Addr} {sl_drop_all : Array (Option Value)} {oc_drop_all kV_drop_all dc_drop_all pm_drop_all cd_drop_all ct_drop_all : Value} {od__law_draws an__law_draws : Option Addr} {sl__law_draws : Array (Option Value)} {oc__law_draws kV__law_draws dc__law_draws pm__law_draws cd__law_draws ct__law_draws : Value} {od__law_board an__law_board : Option Addr} {sl__law_board : Array (Option Value)} {oc__law_board kV__law_board dc__law_board pm__law_board cd__law_board ct__law_board : Value} {od__law_fall an__law_fall : Option Addr} {sl__law_fall : Array (Option Value)} {oc__law_fall kV__law_fall dc__law_fall pm__law_fall cd__law_fall ct__law_fall : Value} {od_law an_law : Option Addr} {sl_law : Array (Option Value)} {oc_law kV_law dc_law pm_law cd_law ct_law : Value} {tk_CROSSING : Tok} {ad_FORM nn_FORM : Nat} {dd_FORM : Option Addr} {sl_FORM : Array (Option Value)} {tk_FORM0 : Tok} {tk_LINKED : Tok} {tk_MOST_MARBLES : Tok} {tk_MOST_SIDE : Tok} {tk_SIGNS : Tok} {tk_STOP : Tok} {tk_STRAIGHT : Tok} {tk_SWITCHES : Tok} {ad_OTHERS : Addr} {es_OTHERS : Array DictEntry} {nn_OTHERS : Nat} {tk_OTHERS0 tk_OTHERS1 tk_OTHERS2 tk_OTHERS3 : Tok} {ad_WAYS : Addr} {es_WAYS : Array DictEntry} {nn_WAYS : Nat} {tk_WAYS0 tk_WAYS1 tk_WAYS2 tk_WAYS3 tk_WAYS4 tk_WAYS5 tk_WAYS6 : Tok}
    (a_is_whole : PySem.W.nsIn K mainGlobals "is_whole" = some (some (.ref f_is_whole))) (l_is_whole : K.lookup f_is_whole = some ⟨oc_is_whole, od_is_whole, .func (PySem.W.fnOf "is_whole" "is_whole" (defArgs s_is_whole) (defBody s_is_whole) (defScope s_is_whole) .none kV_is_whole dc_is_whole pm_is_whole an_is_whole cd_is_whole ct_is_whole), sl_is_whole⟩) (c_is_whole : PySem.W.codeIn K cd_is_whole "is_whole" = true) (k_is_whole : PySem.W.keepIn K (.ref f_is_whole) = true)
    (a_board_fault : PySem.W.nsIn K mainGlobals "board_fault" = some (some (.ref f_board_fault))) (l_board_fault : K.lookup f_board_fault = some ⟨oc_board_fault, od_board_fault, .func (PySem.W.fnOf "board_fault" "board_fault" (defArgs s_board_fault) (defBody s_board_fault) (defScope s_board_fault) .none kV_board_fault dc_board_fault pm_board_fault an_board_fault cd_board_fault ct_board_fault), sl_board_fault⟩) (c_board_fault : PySem.W.codeIn K cd_board_fault "board_fault" = true) (k_board_fault : PySem.W.keepIn K (.ref f_board_fault) = true)
    (a_check_board : PySem.W.nsIn K mainGlobals "check_board" = some (some (.ref f_check_board))) (l_check_board : K.lookup f_check_board = some ⟨oc_check_board, od_check_board, .func (PySem.W.fnOf "check_board" "check_board" (defArgs s_check_board) (defBody s_check_board) (defScope s_check_board) .none kV_check_board dc_check_board pm_check_board an_check_board cd_check_board ct_check_board), sl_check_board⟩) (c_check_board : PySem.W.codeIn K cd_check_board "check_board" = true) (k_check_board : PySem.W.keepIn K (.ref f_check_board) = true)
    (a_turned_at : PySem.W.nsIn K mainGlobals "turned_at" = some (some (.ref f_turned_at))) (l_turned_at : K.lookup f_turned_at = some ⟨oc_turned_at, od_turned_at, .func (PySem.W.fnOf "turned_at" "turned_at" (defArgs s_turned_at) (defBody s_turned_at) (defScope s_turned_at) .none kV_turned_at dc_turned_at pm_turned_at an_turned_at cd_turned_at ct_turned_at), sl_turned_at⟩) (c_turned_at : PySem.W.codeIn K cd_turned_at "turned_at" = true) (k_turned_at : PySem.W.keepIn K (.ref f_turned_at) = true)
    (a_check_column : PySem.W.nsIn K mainGlobals "check_column" = some (some (.ref f_check_column))) (l_check_column : K.lookup f_check_column = some ⟨oc_check_column, od_check_column, .func (PySem.W.fnOf "check_column" "check_column" (defArgs s_check_column) (defBody s_check_column) (defScope s_check_column) .none kV_check_column dc_check_column pm_check_column an_check_column cd_check_column ct_check_column), sl_check_column⟩) (c_check_column : PySem.W.codeIn K cd_check_column "check_column" = true) (k_check_column : PySem.W.keepIn K (.ref f_check_column) = true)
    (a_way_at : PySem.W.nsIn K mainGlobals "way_at" = some (some (.ref f_way_at))) (l_way_at : K.lookup f_way_at = some ⟨oc_way_at, od_way_at, .func (PySem.W.fnOf "way_at" "way_at" (defArgs s_way_at) (defBody s_way_at) (defScope s_way_at) .none kV_way_at dc_way_at pm_way_at an_way_at cd_way_at ct_way_at), sl_way_at⟩) (c_way_at : PySem.W.codeIn K cd_way_at "way_at" = true) (k_way_at : PySem.W.keepIn K (.ref f_way_at) = true)
    (a_beyond : PySem.W.nsIn K mainGlobals "beyond" = some (some (.ref f_beyond))) (l_beyond : K.lookup f_beyond = some ⟨oc_beyond, od_beyond, .func (PySem.W.fnOf "beyond" "beyond" (defArgs s_beyond) (defBody s_beyond) (defScope s_beyond) .none kV_beyond dc_beyond pm_beyond an_beyond cd_beyond ct_beyond), sl_beyond⟩) (c_beyond : PySem.W.codeIn K cd_beyond "beyond" = true) (k_beyond : PySem.W.keepIn K (.ref f_beyond) = true)
    (a_behind : PySem.W.nsIn K mainGlobals "behind" = some (some (.ref f_behind))) (l_behind : K.lookup f_behind = some ⟨oc_behind, od_behind, .func (PySem.W.fnOf "behind" "behind" (defArgs s_behind) (defBody s_behind) (defScope s_behind) .none kV_behind dc_behind pm_behind an_behind cd_behind ct_behind), sl_behind⟩) (c_behind : PySem.W.codeIn K cd_behind "behind" = true) (k_behind : PySem.W.keepIn K (.ref f_behind) = true)
    (a_fall : PySem.W.nsIn K mainGlobals "fall" = some (some (.ref f_fall))) (l_fall : K.lookup f_fall = some ⟨oc_fall, od_fall, .func (PySem.W.fnOf "fall" "fall" (defArgs s_fall) (defBody s_fall) (defScope s_fall) .none kV_fall dc_fall pm_fall an_fall cd_fall ct_fall), sl_fall⟩) (c_fall : PySem.W.codeIn K cd_fall "fall" = true) (k_fall : PySem.W.keepIn K (.ref f_fall) = true)
    (a_drop : PySem.W.nsIn K mainGlobals "drop" = some (some (.ref f_drop))) (l_drop : K.lookup f_drop = some ⟨oc_drop, od_drop, .func (PySem.W.fnOf "drop" "drop" (defArgs s_drop) (defBody s_drop) (defScope s_drop) .none kV_drop dc_drop pm_drop an_drop cd_drop ct_drop), sl_drop⟩) (c_drop : PySem.W.codeIn K cd_drop "drop" = true) (k_drop : PySem.W.keepIn K (.ref f_drop) = true)
    (a_check_columns : PySem.W.nsIn K mainGlobals "check_columns" = some (some (.ref f_check_columns))) (l_check_columns : K.lookup f_check_columns = some ⟨oc_check_columns, od_check_columns, .func (PySem.W.fnOf "check_columns" "check_columns" (defArgs s_check_columns) (defBody s_check_columns) (defScope s_check_columns) .none kV_check_columns dc_check_columns pm_check_columns an_check_columns cd_check_columns ct_check_columns), sl_check_columns⟩) (c_check_columns : PySem.W.codeIn K cd_check_columns "check_columns" = true) (k_check_columns : PySem.W.keepIn K (.ref f_check_columns) = true)
    (a_all_ends : PySem.W.nsIn K mainGlobals "all_ends" = some (some (.ref f_all_ends))) (l_all_ends : K.lookup f_all_ends = some ⟨oc_all_ends, od_all_ends, .func (PySem.W.fnOf "all_ends" "all_ends" (defArgs s_all_ends) (defBody s_all_ends) (defScope s_all_ends) .none kV_all_ends dc_all_ends pm_all_ends an_all_ends cd_all_ends ct_all_ends), sl_all_ends⟩) (c_all_ends : PySem.W.codeIn K cd_all_ends "all_ends" = true) (k_all_ends : PySem.W.keepIn K (.ref f_all_ends) = true)
    (a_drop_all : PySem.W.nsIn K mainGlobals "drop_all" = some (some (.ref f_drop_all))) (l_drop_all : K.lookup f_drop_all = some ⟨oc_drop_all, od_drop_all, .func (PySem.W.fnOf "drop_all" "drop_all" (defArgs s_drop_all) (defBody s_drop_all) (defScope s_drop_all) .none kV_drop_all dc_drop_all pm_drop_all an_drop_all cd_drop_all ct_drop_all), sl_drop_all⟩) (c_drop_all : PySem.W.codeIn K cd_drop_all "drop_all" = true) (k_drop_all : PySem.W.keepIn K (.ref f_drop_all) = true)
    (a__law_draws : PySem.W.nsIn K mainGlobals "_law_draws" = some (some (.ref f__law_draws))) (l__law_draws : K.lookup f__law_draws = some ⟨oc__law_draws, od__law_draws, .func (PySem.W.fnOf "_law_draws" "_law_draws" (defArgs s__law_draws) (defBody s__law_draws) (defScope s__law_draws) .none kV__law_draws dc__law_draws pm__law_draws an__law_draws cd__law_draws ct__law_draws), sl__law_draws⟩) (c__law_draws : PySem.W.codeIn K cd__law_draws "_law_draws" = true) (k__law_draws : PySem.W.keepIn K (.ref f__law_draws) = true)
    (a__law_board : PySem.W.nsIn K mainGlobals "_law_board" = some (some (.ref f__law_board))) (l__law_board : K.lookup f__law_board = some ⟨oc__law_board, od__law_board, .func (PySem.W.fnOf "_law_board" "_law_board" (defArgs s__law_board) (defBody s__law_board) (defScope s__law_board) .none kV__law_board dc__law_board pm__law_board an__law_board cd__law_board ct__law_board), sl__law_board⟩) (c__law_board : PySem.W.codeIn K cd__law_board "_law_board" = true) (k__law_board : PySem.W.keepIn K (.ref f__law_board) = true)
    (a__law_fall : PySem.W.nsIn K mainGlobals "_law_fall" = some (some (.ref f__law_fall))) (l__law_fall : K.lookup f__law_fall = some ⟨oc__law_fall, od__law_fall, .func (PySem.W.fnOf "_law_fall" "_law_fall" (defArgs s__law_fall) (defBody s__law_fall) (defScope s__law_fall) .none kV__law_fall dc__law_fall pm__law_fall an__law_fall cd__law_fall ct__law_fall), sl__law_fall⟩) (c__law_fall : PySem.W.codeIn K cd__law_fall "_law_fall" = true) (k__law_fall : PySem.W.keepIn K (.ref f__law_fall) = true)
    (a_law : PySem.W.nsIn K mainGlobals "law" = some (some (.ref f_law))) (l_law : K.lookup f_law = some ⟨oc_law, od_law, .func (PySem.W.fnOf "law" "law" (defArgs s_law) (defBody s_law) (defScope s_law) .none kV_law dc_law pm_law an_law cd_law ct_law), sl_law⟩) (c_law : PySem.W.codeIn K cd_law "law" = true) (k_law : PySem.W.keepIn K (.ref f_law) = true)
    (z_abs : PySem.W.nsIn K mainGlobals "abs" = some none)
    (z_all : PySem.W.nsIn K mainGlobals "all" = some none)
    (z_bool : PySem.W.nsIn K mainGlobals "bool" = some none)
    (z_enumerate : PySem.W.nsIn K mainGlobals "enumerate" = some none)
    (z_int : PySem.W.nsIn K mainGlobals "int" = some none)
    (z_isinstance : PySem.W.nsIn K mainGlobals "isinstance" = some none)
    (z_len : PySem.W.nsIn K mainGlobals "len" = some none)
    (z_list : PySem.W.nsIn K mainGlobals "list" = some none)
    (z_range : PySem.W.nsIn K mainGlobals "range" = some none)
    (z_sorted : PySem.W.nsIn K mainGlobals "sorted" = some none)
    (z_str : PySem.W.nsIn K mainGlobals "str" = some none)
    (z_tuple : PySem.W.nsIn K mainGlobals "tuple" = some none)
    (q_CROSSING : PySem.W.nsIn K mainGlobals "CROSSING" = some (some (.str "X" tk_CROSSING)))
    (q_FORM : PySem.W.nsIn K mainGlobals "FORM" = some (some (.ref ad_FORM))) (qt_FORM : K.lookup ad_FORM = some ⟨.type "tuple", dd_FORM, .seq [(.str "form" tk_FORM0)].toArray nn_FORM, sl_FORM⟩)
    (q_LINKED : PySem.W.nsIn K mainGlobals "LINKED" = some (some (.str "<>" tk_LINKED)))
    (q_MOST_MARBLES : PySem.W.nsIn K mainGlobals "MOST_MARBLES" = some (some (.int 200 tk_MOST_MARBLES)))
    (q_MOST_SIDE : PySem.W.nsIn K mainGlobals "MOST_SIDE" = some (some (.int 16 tk_MOST_SIDE)))
    (q_SIGNS : PySem.W.nsIn K mainGlobals "SIGNS" = some (some (.str ".\\/LR<>X#" tk_SIGNS)))
    (q_STOP : PySem.W.nsIn K mainGlobals "STOP" = some (some (.str "#" tk_STOP)))
    (q_STRAIGHT : PySem.W.nsIn K mainGlobals "STRAIGHT" = some (some (.int 0 tk_STRAIGHT)))
    (q_SWITCHES : PySem.W.nsIn K mainGlobals "SWITCHES" = some (some (.str "LR<>" tk_SWITCHES)))
    (q_OTHERS : PySem.W.nsIn K mainGlobals "OTHERS" = some (some (.ref ad_OTHERS))) (ql_OTHERS : K.lookup ad_OTHERS = some ⟨.type "dict", none, .dict es_OTHERS nn_OTHERS, #[]⟩) (qk_OTHERS : PySem.W.KeysLit w.params es_OTHERS.toList) (qv_OTHERS0 : PySem.W.nsIn K ad_OTHERS "L" = some (some (.str "R" tk_OTHERS0))) (qv_OTHERS1 : PySem.W.nsIn K ad_OTHERS "R" = some (some (.str "L" tk_OTHERS1))) (qv_OTHERS2 : PySem.W.nsIn K ad_OTHERS "<" = some (some (.str ">" tk_OTHERS2))) (qv_OTHERS3 : PySem.W.nsIn K ad_OTHERS ">" = some (some (.str "<" tk_OTHERS3)))
    (q_WAYS : PySem.W.nsIn K mainGlobals "WAYS" = some (some (.ref ad_WAYS))) (ql_WAYS : K.lookup ad_WAYS = some ⟨.type "dict", none, .dict es_WAYS nn_WAYS, #[]⟩) (qk_WAYS : PySem.W.KeysLit w.params es_WAYS.toList) (qv_WAYS0 : PySem.W.nsIn K ad_WAYS "." = some (some (.int 0 tk_WAYS0))) (qv_WAYS1 : PySem.W.nsIn K ad_WAYS "/" = some (some (.int (-1) tk_WAYS1))) (qv_WAYS2 : PySem.W.nsIn K ad_WAYS "L" = some (some (.int (-1) tk_WAYS2))) (qv_WAYS3 : PySem.W.nsIn K ad_WAYS "<" = some (some (.int (-1) tk_WAYS3))) (qv_WAYS4 : PySem.W.nsIn K ad_WAYS "\\" = some (some (.int 1 tk_WAYS4))) (qv_WAYS5 : PySem.W.nsIn K ad_WAYS "R" = some (some (.int 1 tk_WAYS5))) (qv_WAYS6 : PySem.W.nsIn K ad_WAYS ">" = some (some (.int 1 tk_WAYS6))) :
    ∃ fd : FuncData, (∀ (s : Shared) (v : Value), BindsTo s fd ⟨[v], []⟩ [("script", v)]) ∧ ∀ base : Heap, K.In base → base.Ns mainGlobals mg → FnOk l.prog w K mg base CX0 6 fa fd ["script"] (spD K 1 phi_law) := by
  have e := hfa.symm.trans (PySem.W.mg_of X G a_law)
  cases e
  have T : Top K w mg := ⟨PySem.W.mg_none_of X G z_abs, PySem.W.mg_none_of X G z_all, PySem.W.mg_none_of X G z_bool, PySem.W.mg_none_of X G z_enumerate, PySem.W.mg_none_of X G z_int, PySem.W.mg_none_of X G z_isinstance, PySem.W.mg_none_of X G z_len, PySem.W.mg_none_of X G z_list, PySem.W.mg_none_of X G z_range, PySem.W.mg_none_of X G z_sorted, PySem.W.mg_none_of X G z_str, PySem.W.mg_none_of X G z_tuple, cst_str (PySem.W.mg_of X G q_CROSSING), cst_tup (PySem.W.mg_of X G q_FORM) qt_FORM (show 1 ≤ 16777216 by decide) (.str .nil), cst_str (PySem.W.mg_of X G q_LINKED), cst_int (PySem.W.mg_of X G q_MOST_MARBLES), cst_int (PySem.W.mg_of X G q_MOST_SIDE), cst_str (PySem.W.mg_of X G q_SIGNS), cst_str (PySem.W.mg_of X G q_STOP), cst_int (PySem.W.mg_of X G q_STRAIGHT), cst_str (PySem.W.mg_of X G q_SWITCHES), ⟨_, PySem.W.mg_of X G q_OTHERS, (TabOk.str ql_OTHERS qk_OTHERS qv_OTHERS0 (TabOk.str ql_OTHERS qk_OTHERS qv_OTHERS1 (TabOk.str ql_OTHERS qk_OTHERS qv_OTHERS2 (TabOk.str ql_OTHERS qk_OTHERS qv_OTHERS3 TabOk.nil))))⟩, ⟨_, PySem.W.mg_of X G q_WAYS, (TabOk.int ql_WAYS qk_WAYS qv_WAYS0 (TabOk.int ql_WAYS qk_WAYS qv_WAYS1 (TabOk.int ql_WAYS qk_WAYS qv_WAYS2 (TabOk.int ql_WAYS qk_WAYS qv_WAYS3 (TabOk.int ql_WAYS qk_WAYS qv_WAYS4 (TabOk.int ql_WAYS qk_WAYS qv_WAYS5 (TabOk.int ql_WAYS qk_WAYS qv_WAYS6 TabOk.nil)))))))⟩⟩
  have F_is_whole := fun_mk (st := s_is_whole) l_is_whole c_is_whole k_is_whole
  have F_board_fault := fun_mk (st := s_board_fault) l_board_fault c_board_fault k_board_fault
  have F_check_board := fun_mk (st := s_check_board) l_check_board c_check_board k_check_board
  have F_turned_at := fun_mk (st := s_turned_at) l_turned_at c_turned_at k_turned_at
  have F_check_column := fun_mk (st := s_check_column) l_check_column c_check_column k_check_column
  have F_way_at := fun_mk (st := s_way_at) l_way_at c_way_at k_way_at
  have F_beyond := fun_mk (st := s_beyond) l_beyond c_beyond k_beyond
  have F_behind := fun_mk (st := s_behind) l_behind c_behind k_behind
  have F_fall := fun_mk (st := s_fall) l_fall c_fall k_fall
  have F_drop := fun_mk (st := s_drop) l_drop c_drop k_drop
  have F_check_columns := fun_mk (st := s_check_columns) l_check_columns c_check_columns k_check_columns
  have F_all_ends := fun_mk (st := s_all_ends) l_all_ends c_all_ends k_all_ends
  have F_drop_all := fun_mk (st := s_drop_all) l_drop_all c_drop_all k_drop_all
  have F__law_draws := fun_mk (st := s__law_draws) l__law_draws c__law_draws k__law_draws
  have F__law_board := fun_mk (st := s__law_board) l__law_board c__law_board k__law_board
  have F__law_fall := fun_mk (st := s__law_fall) l__law_fall c__law_fall k__law_fall
  have F_law := fun_mk (st := s_law) l_law c_law k_law
  have H_is_whole : ∀ base : Heap, FnB l.prog w K mg base "is_whole" 1 3 phi_is_whole := fun base => ⟨_, _, ["value", "least", "most"], ok_is_whole F_is_whole T , PySem.W.mg_of X G a_is_whole, k_is_whole, F_is_whole.binds (ps := ["value", "least", "most"]) fun _ _ _ _ _ _ us hl => match us, hl with | [_, _, _], _ => rfl⟩
  have H_board_fault : ∀ base : Heap, FnB l.prog w K mg base "board_fault" 1 1 phi_board_fault := fun base => ⟨_, _, ["value"], ok_board_fault F_board_fault T , PySem.W.mg_of X G a_board_fault, k_board_fault, F_board_fault.binds (ps := ["value"]) fun _ _ _ _ _ _ us hl => match us, hl with | [_], _ => rfl⟩
  have H_check_board : ∀ base : Heap, FnB l.prog w K mg base "check_board" 2 1 phi_check_board := fun base => ⟨_, _, ["board"], ok_check_board F_check_board T (H_board_fault base), PySem.W.mg_of X G a_check_board, k_check_board, F_check_board.binds (ps := ["board"]) fun _ _ _ _ _ _ us hl => match us, hl with | [_], _ => rfl⟩
  have H_turned_at : ∀ base : Heap, FnB l.prog w K mg base "turned_at" 1 2 phi_turned_at := fun base => ⟨_, _, ["board", "places"], ok_turned_at F_turned_at T , PySem.W.mg_of X G a_turned_at, k_turned_at, F_turned_at.binds (ps := ["board", "places"]) fun _ _ _ _ _ _ us hl => match us, hl with | [_, _], _ => rfl⟩
  have H_check_column : ∀ base : Heap, FnB l.prog w K mg base "check_column" 2 2 phi_check_column := fun base => ⟨_, _, ["board", "column"], ok_check_column F_check_column T (H_is_whole base), PySem.W.mg_of X G a_check_column, k_check_column, F_check_column.binds (ps := ["board", "column"]) fun _ _ _ _ _ _ us hl => match us, hl with | [_, _], _ => rfl⟩
  have H_way_at : ∀ base : Heap, FnB l.prog w K mg base "way_at" 1 2 phi_way_at := fun base => ⟨_, _, ["sign", "way"], ok_way_at F_way_at T , PySem.W.mg_of X G a_way_at, k_way_at, F_way_at.binds (ps := ["sign", "way"]) fun _ _ _ _ _ _ us hl => match us, hl with | [_, _], _ => rfl⟩
  have H_beyond : ∀ base : Heap, FnB l.prog w K mg base "beyond" 1 3 phi_beyond := fun base => ⟨_, _, ["board", "row", "column"], ok_beyond F_beyond T , PySem.W.mg_of X G a_beyond, k_beyond, F_beyond.binds (ps := ["board", "row", "column"]) fun _ _ _ _ _ _ us hl => match us, hl with | [_, _, _], _ => rfl⟩
  have H_behind : ∀ base : Heap, FnB l.prog w K mg base "behind" 2 3 phi_behind := fun base => ⟨_, _, ["board", "row", "column"], ok_behind F_behind T (H_turned_at base), PySem.W.mg_of X G a_behind, k_behind, F_behind.binds (ps := ["board", "row", "column"]) fun _ _ _ _ _ _ us hl => match us, hl with | [_, _, _], _ => rfl⟩
  have H_fall : ∀ base : Heap, FnB l.prog w K mg base "fall" 3 2 phi_fall := fun base => ⟨_, _, ["board", "column"], ok_fall F_fall T (H_way_at base) (H_behind base) (H_beyond base), PySem.W.mg_of X G a_fall, k_fall, F_fall.binds (ps := ["board", "column"]) fun _ _ _ _ _ _ us hl => match us, hl with | [_, _], _ => rfl⟩
  have H_drop : ∀ base : Heap, FnB l.prog w K mg base "drop" 4 2 phi_drop := fun base => ⟨_, _, ["board", "column"], ok_drop F_drop T (H_check_board base) (H_check_column base) (H_fall base), PySem.W.mg_of X G a_drop, k_drop, F_drop.binds (ps := ["board", "column"]) fun _ _ _ _ _ _ us hl => match us, hl with | [_, _], _ => rfl⟩
  have H_check_columns : ∀ base : Heap, FnB l.prog w K mg base "check_columns" 2 2 phi_check_columns := fun base => ⟨_, _, ["board", "columns"], ok_check_columns F_check_columns T (H_is_whole base), PySem.W.mg_of X G a_check_columns, k_check_columns, F_check_columns.binds (ps := ["board", "columns"]) fun _ _ _ _ _ _ us hl => match us, hl with | [_, _], _ => rfl⟩
  have H_all_ends : ∀ base : Heap, FnB l.prog w K mg base "all_ends" 4 2 phi_all_ends := fun base => ⟨_, _, ["board", "columns"], ok_all_ends F_all_ends T (H_fall base), PySem.W.mg_of X G a_all_ends, k_all_ends, F_all_ends.binds (ps := ["board", "columns"]) fun _ _ _ _ _ _ us hl => match us, hl with | [_, _], _ => rfl⟩
  have H_drop_all : ∀ base : Heap, FnB l.prog w K mg base "drop_all" 5 2 phi_drop_all := fun base => ⟨_, _, ["board", "columns"], ok_drop_all F_drop_all T (H_check_board base) (H_check_columns base) (H_all_ends base), PySem.W.mg_of X G a_drop_all, k_drop_all, F_drop_all.binds (ps := ["board", "columns"]) fun _ _ _ _ _ _ us hl => match us, hl with | [_, _], _ => rfl⟩
  have H__law_draws : ∀ base : Heap, FnB l.prog w K mg base "_law_draws" 1 2 phi__law_draws := fun base => ⟨_, _, ["script", "many"], ok__law_draws F__law_draws T , PySem.W.mg_of X G a__law_draws, k__law_draws, F__law_draws.binds (ps := ["script", "many"]) fun _ _ _ _ _ _ us hl => match us, hl with | [_, _], _ => rfl⟩
  have H__law_board : ∀ base : Heap, FnB l.prog w K mg base "_law_board" 1 3 phi__law_board := fun base => ⟨_, _, ["draws", "high", "wide"], ok__law_board F__law_board T , PySem.W.mg_of X G a__law_board, k__law_board, F__law_board.binds (ps := ["draws", "high", "wide"]) fun _ _ _ _ _ _ us hl => match us, hl with | [_, _, _], _ => rfl⟩
  have H__law_fall : ∀ base : Heap, FnB l.prog w K mg base "_law_fall" 1 2 phi__law_fall := fun base => ⟨_, _, ["rows", "column"], ok__law_fall F__law_fall T , PySem.W.mg_of X G a__law_fall, k__law_fall, F__law_fall.binds (ps := ["rows", "column"]) fun _ _ _ _ _ _ us hl => match us, hl with | [_, _], _ => rfl⟩
  exact ⟨_, fun s v => .of_eq rfl, fun base _ _ => ok_law F_law T (H__law_draws base) (H__law_board base) (H__law_fall base) (H_drop_all base) (H_drop base)⟩
end DL

/-! The data layer: a run upon data, worked out by simp (no continuation is a lambda). -/
namespace DL
open PySem
theorem nr {α : Type} {a b : α} (h : a = b) : a = b := h
def bnd {α β : Type} (r : R α) (f : α → R β) : R β := r >>= f
@[simp] theorem bnd_ok {α β : Type} (a : α) (f : α → R β) : bnd (.ok a) f = f a := nr rfl
theorem bind_bnd {α β : Type} (r : R α) (f : α → R β) : (r >>= f) = bnd r f := nr rfl

section
variable {Γ : Gm} {i j n : Nat} {f g h : Gm → R D} {c t : Gm → R Bool} {F G : Gm → R O} {l : Gm → R (List D)} {ll : Gm → R (List (List D))} {x y : Gm → R Slot} {T : Tg} {d e : D} {Γ1 : Gm} {S S' : Slot} {ds es : List D} {dss : List (List D)} {vs : List Nat}

def seqK (G : Gm → R O) : O → R O := fun o => match o with | .nx Γ1 => G Γ1 | o => .ok o

@[simp] theorem seqK_nx : seqK G (.nx Γ1) = G Γ1 := nr rfl

@[simp] theorem seqK_rt : seqK G (.rt d) = .ok (.rt d) := nr rfl

@[simp] theorem seqK_bk : seqK G (.bk Γ1) = .ok (.bk Γ1) := nr rfl

@[simp] theorem seqK_ct : seqK G (.ct Γ1) = .ok (.ct Γ1) := nr rfl

@[simp] theorem ap_sSeq : sSeq F G Γ = bnd (F Γ) (seqK G) := nr rfl

@[simp] theorem ap_sNext : sNext Γ = .ok (.nx Γ) := nr rfl

@[simp] theorem ap_sBrk : sBrk Γ = .ok (.bk Γ) := nr rfl

@[simp] theorem ap_sCnt : sCnt Γ = .ok (.ct Γ) := nr rfl

def setK (i : Nat) (Γ : Gm) : Slot → R O := fun S => .ok (.nx (Γ.set i S))

@[simp] theorem setK_ap : setK i Γ S = .ok (.nx (Γ.set i S)) := nr rfl

@[simp] theorem ap_sSet : sSet i x Γ = bnd (x Γ) (setK i Γ) := nr rfl

def nxK  : Gm → R O := fun Γ => .ok (.nx Γ)

@[simp] theorem nxK_ap : nxK Γ = .ok (.nx Γ) := nr rfl

def asgK (T : Tg) (Γ : Gm) : D → R O := fun d => bnd (asgn T d Γ) nxK

@[simp] theorem asgK_ap : asgK T Γ d = bnd (asgn T d Γ) nxK := nr rfl

@[simp] theorem ap_sAsg : sAsg T f Γ = bnd (f Γ) (asgK T Γ) := nr rfl

def parK2 (i j : Nat) (Γ : Gm) (S : Slot) : Slot → R O := fun S' => .ok (.nx ((Γ.set i S).set j S'))

@[simp] theorem parK2_ap : parK2 i j Γ S S' = .ok (.nx ((Γ.set i S).set j S')) := nr rfl

def parK (i j : Nat) (y : Gm → R Slot) (Γ : Gm) : Slot → R O := fun S => bnd (y Γ) (parK2 i j Γ S)

@[simp] theorem parK_ap : parK i j y Γ S = bnd (y Γ) (parK2 i j Γ S) := nr rfl

@[simp] theorem ap_sPar : sPar i j x y Γ = bnd (x Γ) (parK i j y Γ) := nr rfl

def dropK (Γ : Gm) : D → R O := fun _ => .ok (.nx Γ)

@[simp] theorem dropK_ap : dropK Γ d = .ok (.nx Γ) := nr rfl

@[simp] theorem ap_sDrop : sDrop f Γ = bnd (f Γ) (dropK Γ) := nr rfl

def rtK  : D → R O := fun d => .ok (.rt d)

@[simp] theorem rtK_ap : rtK d = .ok (.rt d) := nr rfl

@[simp] theorem ap_sRet : sRet f Γ = bnd (f (frz Γ)) rtK := nr rfl

def ifK {α : Type} (F G : Gm → R α) (Γ : Gm) : Bool → R α := fun b => if b = true then F Γ else G Γ

@[simp] theorem ifK_t {α : Type} {F G : Gm → R α} : ifK F G Γ true = F Γ := nr rfl
@[simp] theorem ifK_f {α : Type} {F G : Gm → R α} : ifK F G Γ false = G Γ := nr rfl

@[simp] theorem ap_sIf : sIf c F G Γ = bnd (c Γ) (ifK F G Γ) := nr rfl

@[simp] theorem ap_eIf : eIf c f g Γ = bnd (c Γ) (ifK f g Γ) := nr rfl

def augK2 (i : Nat) (Γ : Gm) : D → R O := fun z => .ok (.nx (Γ.set i (.fr z)))

@[simp] theorem augK2_ap : augK2 i Γ d = .ok (.nx (Γ.set i (.fr d))) := nr rfl

def op2 (o : D → D → R D) (r s : R D) : R D := r >>= fun x => s >>= fun y => o x y
@[simp] theorem op2_ok {o : D → D → R D} : op2 o (.ok d) (.ok e) = o d e := nr rfl

@[simp] theorem ap_sAug {o : D → D → R D} : sAug i o f Γ = bnd (op2 o (eVar i Γ) (f Γ)) (augK2 i Γ) := by
  unfold sAug op2 bnd
  cases eVar i Γ with
  | bad => rfl
  | ex C => rfl
  | ok a => cases f Γ <;> rfl

def forK (T : Tg) (F : Gm → R O) (Γ : Gm) : List D → R O := fun ds => forLoop T F ds Γ

@[simp] theorem forK_ap : forK T F Γ ds = forLoop T F ds Γ := nr rfl

@[simp] theorem ap_sFor : sFor l T F Γ = bnd (l Γ) (forK T F Γ) := nr rfl

def appK (i : Nat) (ds : List D) (Γ : Gm) : D → R O := fun d => if ds.length < 16777216 then .ok (.nx (Γ.set i (.ow (.l1 (ds ++ [d]))))) else .bad

@[simp] theorem appK_ap : appK i ds Γ d = if ds.length < 16777216 then .ok (.nx (Γ.set i (.ow (.l1 (ds ++ [d]))))) else .bad := nr rfl

def appM (i : Nat) (f : Gm → R D) (Γ : Gm) : Option Slot → R O
  | some (.ow (.l1 ds)) => bnd (f Γ) (appK i ds Γ)
  | _ => .bad
@[simp] theorem appM_ap : appM i f Γ (some (.ow (.l1 ds))) = bnd (f Γ) (appK i ds Γ) := nr rfl
@[simp] theorem ap_sApp : sApp i f Γ = appM i f Γ (Γ[i]?) := by
  unfold sApp appM bnd appK
  rfl

@[simp] theorem ap_eVar : eVar i Γ = (match Γ[i]? with | some (.fr d) => .ok d | _ => .bad) := nr rfl

@[simp] theorem ap_eC : eC d Γ = .ok d := nr rfl

@[simp] theorem ap_eT : eT f Γ = bnd (f Γ) asB := nr rfl

def andK (t : Gm → R Bool) (Γ : Gm) : Bool → R Bool := fun a => if a = true then t Γ else .ok false

@[simp] theorem andK_t : andK t Γ true = t Γ := nr rfl

@[simp] theorem andK_f : andK t Γ false = .ok false := nr rfl

@[simp] theorem ap_fAnd : fAnd c t Γ = bnd (c Γ) (andK t Γ) := nr rfl

def orK (t : Gm → R Bool) (Γ : Gm) : Bool → R Bool := fun a => if a = true then .ok true else t Γ

@[simp] theorem orK_t : orK t Γ true = .ok true := nr rfl

@[simp] theorem orK_f : orK t Γ false = t Γ := nr rfl

@[simp] theorem ap_fOr : fOr c t Γ = bnd (c Γ) (orK t Γ) := nr rfl

def notK  : Bool → R Bool := fun a => .ok (!a)

@[simp] theorem notK_ap {b : Bool} : notK b = .ok (!b) := nr rfl

@[simp] theorem ap_fNot : fNot c Γ = bnd (c Γ) notK := nr rfl

def eandK (g : Gm → R D) (Γ : Gm) : D → R D := fun d => asB d >>= fun a => if a = true then g Γ else .ok (.bool false)

@[simp] theorem eandK_t : eandK g Γ (.bool true) = g Γ := nr rfl

@[simp] theorem eandK_f : eandK g Γ (.bool false) = .ok (.bool false) := nr rfl

@[simp] theorem ap_eAnd : eAnd f g Γ = bnd (f Γ) (eandK g Γ) := nr rfl

def eorK (g : Gm → R D) (Γ : Gm) : D → R D := fun d => asB d >>= fun a => if a = true then .ok (.bool true) else g Γ

@[simp] theorem eorK_t : eorK g Γ (.bool true) = .ok (.bool true) := nr rfl

@[simp] theorem eorK_f : eorK g Γ (.bool false) = g Γ := nr rfl

@[simp] theorem ap_eOr : eOr f g Γ = bnd (f Γ) (eorK g Γ) := nr rfl

def enotK  : D → R D := fun d => asB d >>= fun a => .ok (.bool (!a))

@[simp] theorem enotK_ap {b : Bool} : enotK (.bool b) = .ok (.bool (!b)) := nr rfl

@[simp] theorem ap_eNot : eNot f Γ = bnd (f Γ) enotK := nr rfl

@[simp] theorem ap_aNil : aNil Γ = .ok [] := nr rfl

def consR (r : R D) (s : R (List D)) : R (List D) := r >>= fun d => s >>= fun ds => .ok (d :: ds)
@[simp] theorem consR_ok : consR (.ok d) (.ok ds) = .ok (d :: ds) := nr rfl

@[simp] theorem ap_aCons : aCons f l Γ = consR (f Γ) (l Γ) := nr rfl

@[simp] theorem ap_eTup : eTup l Γ = bnd (l Γ) mkT := nr rfl

@[simp] theorem ap_eLst : eLst l Γ = bnd (l Γ) mkL := nr rfl

def frK  : List D → R D := fun ds => .ok (.list ds)

@[simp] theorem frK_ap : frK ds = .ok (.list ds) := nr rfl

@[simp] theorem ap_eFr : eFr l Γ = bnd (l Γ) frK := nr rfl

@[simp] theorem ap_e1 {o : D → R D} : e1 o f Γ = bnd (f Γ) o := nr rfl

@[simp] theorem ap_e2 {o : D → D → R D} : e2 o f g Γ = op2 o (f Γ) (g Γ) := nr rfl

def op2L (o : D → D → R (List D)) (r s : R D) : R (List D) := r >>= fun x => s >>= fun y => o x y
@[simp] theorem op2L_ok {o : D → D → R (List D)} : op2L o (.ok d) (.ok e) = o d e := nr rfl
@[simp] theorem ap_l2 {o : D → D → R (List D)} : l2 o f g Γ = op2L o (f Γ) (g Γ) := nr rfl

def ch2 (o' : D → D → R D) (y : D) (h : Gm → R D) (Γ : Gm) : D → R D := fun z => asB z >>= fun k => if k = true then (h Γ >>= fun w => o' y w) else .ok (.bool false)
@[simp] theorem ch2_t {o' : D → D → R D} : ch2 o' d h Γ (.bool true) = op2 o' (.ok d) (h Γ) := nr rfl
@[simp] theorem ch2_f {o' : D → D → R D} : ch2 o' d h Γ (.bool false) = .ok (.bool false) := nr rfl
def ch1 (o o' : D → D → R D) (h : Gm → R D) (Γ : Gm) (r s : R D) : R D := r >>= fun x => s >>= fun y => bnd (o x y) (ch2 o' y h Γ)
@[simp] theorem ch1_ok {o o' : D → D → R D} : ch1 o o' h Γ (.ok d) (.ok e) = bnd (o d e) (ch2 o' e h Γ) := nr rfl
@[simp] theorem ap_e3 {o o' : D → D → R D} : e3 o o' f g h Γ = ch1 o o' h Γ (f Γ) (g Γ) := nr rfl

@[simp] theorem ap_eCB {o : List D → R D} : eCB o l Γ = bnd (l Γ) o := nr rfl
@[simp] theorem ap_lCB {o : List D → R (List D)} : lCB o l Γ = bnd (l Γ) o := nr rfl

def callK (n : Nat) (Φ : List D → R D) : List D → R D := fun ds => if ds.length = n then noX (Φ ds) else .bad
@[simp] theorem callK_ap {Φ : List D → R D} : callK n Φ ds = if ds.length = n then noX (Φ ds) else .bad := nr rfl
@[simp] theorem ap_eCall {Φ : List D → R D} : eCall n Φ l Γ = bnd (l Γ) (callK n Φ) := nr rfl

def borK  : D → R D := fun d => if imm d = true then .ok d else .bad

@[simp] theorem borK_ap : borK d = if imm d = true then .ok d else .bad := nr rfl

@[simp] theorem ap_fBor : fBor f Γ = bnd (f (frz Γ)) borK := nr rfl

def borLK  : List D → R (List D) := fun ds => if imm.immAll ds = true then .ok ds else .bad

@[simp] theorem borLK_ap : borLK ds = if imm.immAll ds = true then .ok ds else .bad := nr rfl

@[simp] theorem ap_fBorL : fBorL l Γ = bnd (l (frz Γ)) borLK := nr rfl

@[simp] theorem ap_fBorT : fBorT c Γ = c (frz Γ) := nr rfl

def xFrK  : D → R Slot := fun d => .ok (.fr d)

@[simp] theorem xFrK_ap : xFrK d = .ok (.fr d) := nr rfl

@[simp] theorem ap_xFr : xFr f Γ = bnd (f Γ) xFrK := nr rfl

def xLK  : List D → R Slot := fun d => .ok (.ow (.l1 d))

@[simp] theorem xLK_ap : xLK ds = .ok (.ow (.l1 ds)) := nr rfl

@[simp] theorem ap_xL : xL l Γ = bnd (l Γ) xLK := nr rfl

def xL2K  : List (List D) → R Slot := fun d => .ok (.ow (.l2 d))

@[simp] theorem xL2K_ap : xL2K dss = .ok (.ow (.l2 dss)) := nr rfl

@[simp] theorem ap_xL2 : xL2 ll Γ = bnd (ll Γ) xL2K := nr rfl

def joinR (r s : R D) : R D := r >>= fun d => asS d >>= fun a => s >>= dJoin a
@[simp] theorem joinR_ok {a : Str} : joinR (.ok (.str a)) (.ok d) = dJoin a d := nr rfl
@[simp] theorem ap_eJoin : eJoin f g Γ = joinR (f Γ) (g Γ) := nr rfl

def lcK (T : Tg) (c : Gm → R Bool) (e : Gm → R D) (Γ : Gm) : List D → R (List D) := fun ds => bnd (lcLoop T c e Γ ds) mkL
@[simp] theorem lcK_ap : lcK T c f Γ ds = bnd (lcLoop T c f Γ ds) mkL := nr rfl
@[simp] theorem ap_eLc : eLc l T c f vs Γ = bnd (l Γ) (lcK T c f (wipeG Γ vs)) := nr rfl

def lc2K (T : Tg) (e : Gm → R (List D)) (Γ : Gm) : List D → R (List (List D)) := fun ds => bnd (lc2Loop T e Γ ds) mkL2
@[simp] theorem lc2K_ap {k : Gm → R (List D)} : lc2K T k Γ ds = bnd (lc2Loop T k Γ ds) mkL2 := nr rfl
@[simp] theorem ap_eLc2 {k : Gm → R (List D)} : eLc2 l T k vs Γ = bnd (l Γ) (lc2K T k (wipeG Γ vs)) := nr rfl

@[simp] theorem ap_cYes : cYes Γ = .ok true := nr rfl

@[simp] theorem ap_iSeqD : iSeqD f Γ = bnd (f Γ) dItems := nr rfl

def enumK2  : List D → R (List D) := fun ds => .ok (enumD ds)

@[simp] theorem enumK2_ap : enumK2 ds = .ok (enumD ds) := nr rfl

def enumK  : D → R (List D) := fun d => bnd (dItems d) enumK2

@[simp] theorem enumK_ap : enumK d = bnd (dItems d) enumK2 := nr rfl

@[simp] theorem ap_iEnumD : iEnumD f Γ = bnd (f Γ) enumK := nr rfl

def rangeK : D → R (List D) := fun d => asI d >>= fun j => if j < 4611686018427387904 ∧ -4611686018427387904 ≤ j then .ok ((List.range j.toNat).map fun i => .int (i : Nat)) else .bad
@[simp] theorem ap_iRange1 : iRange1 f Γ = bnd (f Γ) rangeK := nr rfl
theorem range_if {α : Type} {j : Int} {a b : α} (h0 : 0 ≤ j) (h : j < 1000000) : (if j < 4611686018427387904 ∧ -4611686018427387904 ≤ j then a else b) = a := if_pos (And.intro (by omega) (by omega))
theorem rangeK_ok {n : Nat} (h : n < 1000000) : rangeK (.int (n : Nat)) = .ok ((List.range n).map fun i => .int (i : Nat)) := by
  have e : asI (.int (n : Nat)) = .ok ((n : Nat) : Int) := nr rfl
  unfold rangeK
  rw [e, R.bind_ok, range_if (by omega) (by omega), Int.toNat_natCast]

@[simp] theorem ap_oNone : oNone Γ = .ok none := nr rfl

def oK2  : Int → R (Option Int) := fun z => .ok (some z)

@[simp] theorem oK2_ap {z : Int} : oK2 z = .ok (some z) := nr rfl

def oK  : D → R (Option Int) := fun d => bnd (asI d) oK2

@[simp] theorem oK_ap : oK d = bnd (asI d) oK2 := nr rfl

@[simp] theorem ap_oSome : oSome f Γ = bnd (f Γ) oK := nr rfl

def slR (r : R D) (a b : R (Option Int)) : R D := r >>= fun d => a >>= fun lo => b >>= fun hi => dSl d lo hi
@[simp] theorem slR_ok {a b : Option Int} : slR (.ok d) (.ok a) (.ok b) = dSl d a b := nr rfl
@[simp] theorem ap_eSl {a b : Gm → R (Option Int)} : eSl f a b Γ = slR (f Γ) (a Γ) (b Γ) := nr rfl
def slLR (r : R D) (a b : R (Option Int)) : R (List D) := r >>= fun d => a >>= fun lo => b >>= fun hi => dSlL d lo hi
@[simp] theorem slLR_ok {a b : Option Int} : slLR (.ok d) (.ok a) (.ok b) = dSlL d a b := nr rfl
@[simp] theorem ap_lSl {a b : Gm → R (Option Int)} : lSl f a b Γ = slLR (f Γ) (a Γ) (b Γ) := nr rfl

@[simp] theorem asI_int (z : Int) : asI (.int z) = .ok z := nr rfl
@[simp] theorem asB_bool (b : Bool) : asB (.bool b) = .ok b := nr rfl
@[simp] theorem dI_int (k : Int → Int → D) (a b : Int) : dI k (.int a) (.int b) = .ok (k a b) := nr rfl
@[simp] theorem dAdd_int (a b : Int) : dAdd (.int a) (.int b) = .ok (.int (a + b)) := nr rfl
@[simp] theorem dLen_l (xs : List D) : dLen [.list xs] = .ok (.int xs.length) := nr rfl
@[simp] theorem dLen_t (xs : List D) : dLen [.tuple xs] = .ok (.int xs.length) := nr rfl
@[simp] theorem dItems_t (xs : List D) : dItems (.tuple xs) = .ok xs := nr rfl
@[simp] theorem dItems_l (xs : List D) : dItems (.list xs) = .ok xs := nr rfl
@[simp] theorem dTuple_l (xs : List D) : dTuple [.list xs] = .ok (.tuple xs) := nr rfl
@[simp] theorem dTuple_t (xs : List D) : dTuple [.tuple xs] = .ok (.tuple xs) := nr rfl
@[simp] theorem dList_l (xs : List D) : dList [.list xs] = .ok xs := nr rfl
@[simp] theorem dList_t (xs : List D) : dList [.tuple xs] = .ok xs := nr rfl
@[simp] theorem dIntC_ap (z : Int) : dIntC [.int z] = .ok (.int z) := nr rfl

@[simp] theorem asgn_n : asgn (.n i) d Γ = .ok (Γ.set i (.fr d)) := nr rfl
@[simp] theorem asgn_t {ts : List Tg} : asgn (.t ts) (.tuple ds) Γ = asgnAll ts ds Γ := nr rfl
def asgAK (ts : List Tg) (ds : List D) : Gm → R Gm := fun Γ1 => asgnAll ts ds Γ1
@[simp] theorem asgAK_ap {ts : List Tg} : asgAK ts ds Γ = asgnAll ts ds Γ := nr rfl
@[simp] theorem asgnAll_nil : asgnAll [] [] Γ = .ok Γ := nr rfl
@[simp] theorem asgnAll_cons {ts : List Tg} : asgnAll (T :: ts) (d :: ds) Γ = bnd (asgn T d Γ) (asgAK ts ds) := nr rfl

@[simp] theorem outD_rt : outD (.rt d) = .ok d := nr rfl
@[simp] theorem outD_nx : outD (.nx Γ) = .ok .none := nr rfl
@[simp] theorem ap_runD {N : Nat} : runD N F ds = noX (bnd (F (startG N ds)) outD) := nr rfl

theorem ap_lcTurn : lcTurn T c f Γ d = noX (bnd (asgn T d Γ) fun Γ1 => bnd (c Γ1) fun b => if b = true then bnd (f Γ1) fun y => .ok [y] else .ok []) := nr rfl
def turnE (f : Gm → R D) (Γ1 : Gm) : Gm → R (List D) := fun _ => bnd (f Γ1) fun y => .ok [y]
def oneK : D → R (List D) := fun y => .ok [y]
@[simp] theorem oneK_ap : oneK d = .ok [d] := nr rfl
def turnB (f : Gm → R D) (Γ1 : Gm) : Bool → R (List D) := fun b => if b = true then bnd (f Γ1) oneK else .ok []
@[simp] theorem turnB_t : turnB f Γ true = bnd (f Γ) oneK := nr rfl
@[simp] theorem turnB_f : turnB f Γ false = .ok [] := nr rfl
def turnK (c : Gm → R Bool) (f : Gm → R D) : Gm → R (List D) := fun Γ1 => bnd (c Γ1) (turnB f Γ1)
@[simp] theorem turnK_ap : turnK c f Γ = bnd (c Γ) (turnB f Γ) := nr rfl
@[simp] theorem lcTurn_ap : lcTurn T c f Γ d = noX (bnd (asgn T d Γ) (turnK c f)) := nr rfl
@[simp] theorem lc2Turn_ap {k : Gm → R (List D)} : lc2Turn T k Γ d = noX (bnd (asgn T d Γ) k) := nr rfl

theorem iRange1_ok {n : Nat} (e : f Γ = .ok (.int (n : Nat))) (h : n < 1000000) : iRange1 f Γ = .ok ((List.range n).map fun i => .int (i : Nat)) := by
  rw [ap_iRange1, e, bnd_ok, rangeK_ok h]
theorem dIx_t {xs : List D} (h : xs[i]? = some d) : dIx (.tuple xs) (.int (i : Nat)) = .ok d := by
  show (match L2.atI xs (i : Int) with | some d => R.ok d | none => .bad) = _
  rw [L2.atI_nat h]
theorem dIx_l {xs : List D} (h : xs[i]? = some d) : dIx (.list xs) (.int (i : Nat)) = .ok d := by
  show (match L2.atI xs (i : Int) with | some d => R.ok d | none => .bad) = _
  rw [L2.atI_nat h]
@[simp] theorem frz_ap : frz Γ = Γ.map frzS := nr rfl
@[simp] theorem frzS_no : frzS .no = .no := nr rfl
@[simp] theorem frzS_fr : frzS (.fr d) = .fr d := nr rfl
@[simp] theorem frzS_l1 : frzS (.ow (.l1 ds)) = .fr (.list ds) := nr rfl
@[simp] theorem frzS_l2 : frzS (.ow (.l2 dss)) = .fr (.list (dss.map .list)) := nr rfl
@[simp] theorem startG_ap {N : Nat} : startG N ds = ds.map Slot.fr ++ List.replicate (N - ds.length) .no := nr rfl
@[simp] theorem wipeG_nil : wipeG Γ [] = Γ := nr rfl
@[simp] theorem wipeG_cons {v : Nat} : wipeG Γ (v :: vs) = (wipeG Γ vs).set v .no := nr rfl
@[simp] theorem mkT_ap : mkT ds = if ds.length ≤ 16777216 then .ok (.tuple ds) else .bad := nr rfl
@[simp] theorem mkL_ap : mkL ds = if ds.length ≤ 16777216 then .ok ds else .bad := nr rfl
end
end DL

/-! The plain law: a marble's fall, row by row; two marbles may change places. -/
namespace MF
inductive End where
  | left (i : Nat)
  | right (i : Nat)
  | stop (i c : Nat)
  | out (c : Nat)
  deriving DecidableEq
abbrev Row := List Nat
def wayOf (s : Nat) (w : Int) : Int := if s = 88 then w else if s = 46 then 0 else if s = 47 ∨ s = 76 then -1 else 1
def turn (s : Nat) : Nat := if s = 76 then 82 else if s = 82 then 76 else s
/-- one row: the row behind the marble, and its end or its next column and way -/
def goTo (W i : Nat) (c : Nat) (w : Int) : End ⊕ (Nat × Int) :=
  if (c : Int) + w < 0 then .inl (.left i) else if (c : Int) + w = W then .inl (.right i) else .inr (((c : Int) + w).toNat, w)
def one (W : Nat) (r : Row) (i : Nat) (m : Nat × Int) : Row × (End ⊕ (Nat × Int)) :=
  if r.getD m.1 0 = 35 then (r, .inl (.stop i m.1)) else (r.set m.1 (turn (r.getD m.1 0)), goTo W i m.1 (wayOf (r.getD m.1 0) m.2))
def go (W : Nat) : List Row → Nat → Nat × Int → List Row × End
  | [], _, m => ([], .out m.1)
  | r :: rs, i, m => match one W r i m with
    | (r', .inl e) => (r' :: rs, e)
    | (r', .inr m') => (r' :: (go W rs (i + 1) m').1, (go W rs (i + 1) m').2)
def okSign (s : Nat) : Prop := s ∈ [46, 92, 47, 76, 82, 88, 35]
instance : DecidablePred okSign := fun s => inferInstanceAs (Decidable (s ∈ [46, 92, 47, 76, 82, 88, 35]))
def okRow (W : Nat) (r : Row) : Prop := r.length = W ∧ ∀ s ∈ r, okSign s
def okRows (W : Nat) (rs : List Row) : Prop := ∀ r ∈ rs, okRow W r
def okM (W : Nat) (m : Nat × Int) : Prop := m.1 < W ∧ (m.2 = 0 ∨ m.2 = 1 ∨ m.2 = -1)
theorem turn_ok {s : Nat} (h : okSign s) : okSign (turn s) := by
  unfold turn
  split
  · decide
  · split
    · decide
    · exact h
theorem wayOf_ok {s : Nat} {w : Int} (hw : w = 0 ∨ w = 1 ∨ w = -1) : wayOf s w = 0 ∨ wayOf s w = 1 ∨ wayOf s w = -1 := by
  unfold wayOf
  split
  · exact hw
  · split
    · exact .inl rfl
    · split
      · exact .inr (.inr rfl)
      · exact .inr (.inl rfl)
theorem mem_set_ok {W : Nat} {r : Row} {c s : Nat} (h : okRow W r) (hs : okSign s) : okRow W (r.set c s) := by
  refine ⟨by rw [List.length_set]; exact h.1, fun x hx => ?_⟩
  rcases List.mem_or_eq_of_mem_set hx with q | q
  · exact h.2 x q
  · rw [q]; exact hs
theorem getD_ok {W : Nat} {r : Row} {c : Nat} (h : okRow W r) (hc : c < W) : okSign (r.getD c 0) := by
  have : c < r.length := by rw [h.1]; exact hc
  rw [List.getD_eq_getElem?_getD, List.getElem?_eq_getElem this]
  exact h.2 _ (List.getElem_mem _)
theorem one_row {W : Nat} {r : Row} {i : Nat} {m : Nat × Int} (h : okRow W r) (hm : okM W m) : okRow W (one W r i m).1 := by
  unfold one
  split
  · exact h
  · exact mem_set_ok h (turn_ok (getD_ok h hm.1))
theorem goTo_ok {W i c : Nat} {w : Int} {m' : Nat × Int} (hc : c < W) (hw : w = 0 ∨ w = 1 ∨ w = -1) (h : goTo W i c w = .inr m') : okM W m' := by
  unfold goTo at h
  split at h
  · cases h
  · split at h
    · cases h
    · rename_i h1 h2
      cases h
      refine ⟨?_, hw⟩
      show ((c : Int) + w).toNat < W
      omega
theorem one_m {W : Nat} {r : Row} {i : Nat} {m m' : Nat × Int} (hm : okM W m) (h : (one W r i m).2 = .inr m') : okM W m' := by
  unfold one at h
  split at h
  · cases h
  · exact goTo_ok hm.1 (wayOf_ok hm.2) h
theorem go_rows {W : Nat} : ∀ {rs : List Row} {i : Nat} {m : Nat × Int}, okRows W rs → okM W m → okRows W (go W rs i m).1
  | [], _, _, h, _ => h
  | r :: rs, i, m, h, hm => by
    have h1 : okRow W r := h r List.mem_cons_self
    have h2 : okRows W rs := fun x hx => h x (List.mem_cons_of_mem _ hx)
    have q1 := one_row (i := i) h1 hm
    have q2 := fun m' => one_m (r := r) (i := i) (m' := m') hm
    unfold go
    generalize hg : one W r i m = z at q1 q2
    obtain ⟨r', x⟩ := z
    cases x with
    | inl e =>
      intro x hx
      rcases List.mem_cons.mp hx with rfl | hx
      · exact q1
      · exact h2 x hx
    | inr m' =>
      intro x hx
      rcases List.mem_cons.mp hx with rfl | hx
      · exact q1
      · exact go_rows h2 (q2 m' rfl) x hx
theorem go_len {W : Nat} : ∀ {rs : List Row} {i : Nat} {m : Nat × Int}, (go W rs i m).1.length = rs.length
  | [], _, _ => rfl
  | r :: rs, i, m => by
    unfold go
    generalize one W r i m = z
    obtain ⟨r', x⟩ := z
    cases x with
    | inl e => rfl
    | inr m' => simp only [List.length_cons, go_len]
theorem getD_set_self {r : Row} {c s : Nat} (h : c < r.length) : (r.set c s).getD c 0 = s := by
  rw [List.getD_eq_getElem?_getD, List.getElem?_set_self h]; rfl
theorem getD_set_ne {r : Row} {c d s : Nat} (h : c ≠ d) : (r.set c s).getD d 0 = r.getD d 0 := by
  rw [List.getD_eq_getElem?_getD, List.getElem?_set_ne h, List.getD_eq_getElem?_getD]
theorem set_getD {r : Row} {c : Nat} (h : c < r.length) : r.set c (r.getD c 0) = r := by
  rw [List.getD_eq_getElem?_getD, List.getElem?_eq_getElem h]
  simp
theorem turn_turn {s : Nat} : turn (turn s) = s := by
  unfold turn
  by_cases h : s = 76
  · subst h; rfl
  · by_cases h2 : s = 82
    · subst h2; rfl
    · rw [if_neg h, if_neg h2, if_neg h, if_neg h2]
theorem turn_stop {s : Nat} : turn s = 35 ↔ s = 35 := by
  unfold turn
  split
  · rename_i h; subst h; decide
  · split
    · rename_i h; subst h; decide
    · exact Iff.rfl
/-- two marbles upon one row -/
theorem one_swap {W : Nat} {r : Row} {i : Nat} {m n : Nat × Int} (h : okRow W r) (hm : okM W m) (hn : okM W n) :
    (one W (one W r i m).1 i n).1 = (one W (one W r i n).1 i m).1 ∧
    (((one W r i m).2 = (one W (one W r i n).1 i m).2 ∧ (one W (one W r i m).1 i n).2 = (one W r i n).2) ∨ ((one W r i m).2 = (one W r i n).2 ∧ (one W (one W r i m).1 i n).2 = (one W (one W r i n).1 i m).2)) := by
  obtain ⟨c, v⟩ := m
  obtain ⟨d, u⟩ := n
  have hc : c < r.length := by rw [h.1]; exact hm.1
  have hd : d < r.length := by rw [h.1]; exact hn.1
  by_cases e : c = d
  · subst e
    by_cases s1 : r.getD c 0 = 35
    · have a1 : one W r i (c, v) = (r, .inl (.stop i c)) := if_pos s1
      have a2 : one W r i (c, u) = (r, .inl (.stop i c)) := if_pos s1
      simp [a1, a2]
    · have a1 : ∀ w, one W r i (c, w) = (r.set c (turn (r.getD c 0)), goTo W i c (wayOf (r.getD c 0) w)) := fun w => if_neg s1
      have s2 : ¬ (r.set c (turn (r.getD c 0))).getD c 0 = 35 := by rw [getD_set_self hc, turn_stop]; exact s1
      have a2 : ∀ w, one W (r.set c (turn (r.getD c 0))) i (c, w) = (r, goTo W i c (wayOf (turn (r.getD c 0)) w)) := fun w => by
        have : one W (r.set c (turn (r.getD c 0))) i (c, w) = _ := if_neg s2
        rw [this]
        dsimp only
        rw [getD_set_self hc, List.set_set, turn_turn, set_getD hc]
      rw [a1, a1]
      dsimp only
      rw [a2, a2]
      dsimp only
      refine ⟨rfl, ?_⟩
      by_cases t : r.getD c 0 = 76 ∨ r.getD c 0 = 82
      · refine .inr ⟨?_, ?_⟩
        · rcases t with t | t <;> rw [t] <;> rfl
        · rcases t with t | t <;> rw [t] <;> rfl
      · have : turn (r.getD c 0) = r.getD c 0 := by
          unfold turn
          rw [if_neg fun z => t (.inl z), if_neg fun z => t (.inr z)]
        rw [this]
        exact .inl ⟨rfl, rfl⟩
  · have one_d : ∀ s w, one W (r.set c s) i (d, w) = ((one W r i (d, w)).1.set c s, (one W r i (d, w)).2) := fun s w => by
      unfold one
      dsimp only
      rw [getD_set_ne e]
      split
      · rfl
      · dsimp only
        rw [List.set_comm _ _ e]
    have one_c : ∀ s w, one W (r.set d s) i (c, w) = ((one W r i (c, w)).1.set d s, (one W r i (c, w)).2) := fun s w => by
      unfold one
      dsimp only
      rw [getD_set_ne (Ne.symm e)]
      split
      · rfl
      · dsimp only
        rw [List.set_comm _ _ (Ne.symm e)]
    have rc : ∃ s, (one W r i (c, v)).1 = r.set c s := by
      unfold one
      split
      · exact ⟨r.getD c 0, (set_getD hc).symm⟩
      · exact ⟨_, rfl⟩
    have rd : ∃ s, (one W r i (d, u)).1 = r.set d s := by
      unfold one
      split
      · exact ⟨r.getD d 0, (set_getD hd).symm⟩
      · exact ⟨_, rfl⟩
    obtain ⟨s, es⟩ := rc
    obtain ⟨t, et⟩ := rd
    rw [es, et, one_d, one_c, es, et]
    exact ⟨List.set_comm _ _ (Ne.symm e), .inl ⟨rfl, rfl⟩⟩
theorem go_cons {W : Nat} {r : Row} {rs : List Row} {i : Nat} {m : Nat × Int} : go W (r :: rs) i m = match (one W r i m).2 with
    | .inl e => ((one W r i m).1 :: rs, e)
    | .inr m' => ((one W r i m).1 :: (go W rs (i + 1) m').1, (go W rs (i + 1) m').2) := by
  conv => lhs; unfold go
  generalize one W r i m = z
  obtain ⟨r', x⟩ := z
  cases x <;> rfl
/-- two marbles may change places -/
theorem go_swap {W : Nat} : ∀ {rs : List Row} {i : Nat} {m n : Nat × Int}, okRows W rs → okM W m → okM W n →
    (go W (go W rs i m).1 i n).1 = (go W (go W rs i n).1 i m).1 ∧
    (((go W rs i m).2 = (go W (go W rs i n).1 i m).2 ∧ (go W (go W rs i m).1 i n).2 = (go W rs i n).2) ∨ ((go W rs i m).2 = (go W rs i n).2 ∧ (go W (go W rs i m).1 i n).2 = (go W (go W rs i n).1 i m).2))
  | [], i, m, n, _, _, _ => ⟨rfl, .inl ⟨rfl, rfl⟩⟩
  | r :: rs, i, m, n, h, hm, hn => by
    have h1 : okRow W r := h r List.mem_cons_self
    have h2 : okRows W rs := fun x hx => h x (List.mem_cons_of_mem _ hx)
    obtain ⟨er, ex⟩ := one_swap (i := i) h1 hm hn
    have k1 := fun m' => one_m (r := r) (i := i) (m := m) (m' := m') hm
    have k2 := fun m' => one_m (r := r) (i := i) (m := n) (m' := m') hn
    have k3 := fun m' => one_m (r := (one W r i m).1) (i := i) (m := n) (m' := m') hn
    have k4 := fun m' => one_m (r := (one W r i n).1) (i := i) (m := m) (m' := m') hm
    rw [go_cons, go_cons]
    generalize hx1 : (one W r i m).2 = x1 at ex k1
    generalize hx2 : (one W r i n).2 = x2 at ex k2
    generalize hy2 : (one W (one W r i m).1 i n).2 = y2 at ex k3
    generalize hy1 : (one W (one W r i n).1 i m).2 = y1 at ex k4
    have G := fun a b ha hb => go_swap (rs := rs) (i := i + 1) (m := a) (n := b) h2 ha hb
    rcases ex with ⟨e1, e2⟩ | ⟨e1, e2⟩
    · subst e1 e2
      cases x1 with
      | inl a =>
        cases y2 with
        | inl b =>
          dsimp only
          rw [go_cons, go_cons, hy2, hy1]
          dsimp only
          rw [er]
          exact ⟨rfl, .inl ⟨rfl, rfl⟩⟩
        | inr b =>
          dsimp only
          rw [go_cons, go_cons, hy2, hy1]
          dsimp only
          rw [er]
          exact ⟨rfl, .inl ⟨rfl, rfl⟩⟩
      | inr a =>
        cases y2 with
        | inl b =>
          dsimp only
          rw [go_cons, go_cons, hy2, hy1]
          dsimp only
          rw [er]
          exact ⟨rfl, .inl ⟨rfl, rfl⟩⟩
        | inr b =>
          obtain ⟨g1, g2⟩ := G a b (k1 a rfl) (k2 b rfl)
          dsimp only
          rw [go_cons, go_cons, hy2, hy1]
          dsimp only
          rw [er, g1]
          exact ⟨rfl, g2⟩
    · subst e1 e2
      cases x1 with
      | inl a =>
        cases y2 with
        | inl b =>
          dsimp only
          rw [go_cons, go_cons, hy2, hy1]
          dsimp only
          rw [er]
          exact ⟨rfl, .inr ⟨rfl, rfl⟩⟩
        | inr b =>
          dsimp only
          rw [go_cons, go_cons, hy2, hy1]
          dsimp only
          rw [er]
          exact ⟨rfl, .inr ⟨rfl, rfl⟩⟩
      | inr a =>
        cases y2 with
        | inl b =>
          dsimp only
          rw [go_cons, go_cons, hy2, hy1]
          dsimp only
          rw [er]
          exact ⟨rfl, .inr ⟨rfl, rfl⟩⟩
        | inr b =>
          dsimp only
          rw [go_cons, go_cons, hy2, hy1]
          dsimp only
          rw [er]
          exact ⟨rfl, .inr ⟨rfl, rfl⟩⟩
/-- one marble from above -/
def fall (W : Nat) (b : List Row) (c : Nat) : List Row × End := go W b 0 (c, 0)
def alls (W : Nat) : List Row → List Nat → List Row × List End
  | b, [] => (b, [])
  | b, c :: cs => ((alls W (fall W b c).1 cs).1, (fall W b c).2 :: (alls W (fall W b c).1 cs).2)
theorem okM0 {W c : Nat} (h : c < W) : okM W (c, 0) := ⟨h, .inl rfl⟩
theorem fall_ok {W : Nat} {b : List Row} {c : Nat} (h : okRows W b) (hc : c < W) : okRows W (fall W b c).1 := go_rows h (okM0 hc)
theorem alls_ok {W : Nat} : ∀ {cs : List Nat} {b : List Row}, okRows W b → (∀ c ∈ cs, c < W) → okRows W (alls W b cs).1
  | [], _, h, _ => h
  | c :: cs, b, h, hc => alls_ok (b := (fall W b c).1) (cs := cs) (fall_ok h (hc c List.mem_cons_self)) fun x hx => hc x (List.mem_cons_of_mem _ hx)
theorem alls_len {W : Nat} : ∀ {cs : List Nat} {b : List Row}, (alls W b cs).1.length = b.length
  | [], _ => rfl
  | c :: cs, b => by
    show (alls W (fall W b c).1 cs).1.length = _
    rw [alls_len]
    exact go_len
theorem alls_ends {W : Nat} : ∀ {cs : List Nat} {b : List Row}, (alls W b cs).2.length = cs.length
  | [], _ => rfl
  | c :: cs, b => by
    show (alls W (fall W b c).1 cs).2.length + 1 = _
    rw [alls_ends]
    rfl
theorem alls_append {W : Nat} : ∀ (cs ds : List Nat) (b : List Row), alls W b (cs ++ ds) = ((alls W (alls W b cs).1 ds).1, (alls W b cs).2 ++ (alls W (alls W b cs).1 ds).2)
  | [], _, _ => rfl
  | c :: cs, ds, b => by
    show ((alls W (fall W b c).1 (cs ++ ds)).1, (fall W b c).2 :: (alls W (fall W b c).1 (cs ++ ds)).2) = _
    rw [alls_append cs ds]
    rfl
theorem alls_perm {W : Nat} {cs ds : List Nat} (p : cs.Perm ds) : ∀ {b : List Row}, okRows W b → (∀ c ∈ cs, c < W) → (alls W b cs).1 = (alls W b ds).1 ∧ ((alls W b cs).2).Perm (alls W b ds).2 := by
  induction p with
  | nil => exact fun _ _ => ⟨rfl, List.Perm.refl _⟩
  | cons x p ih =>
    intro b h hc
    obtain ⟨a1, a2⟩ := ih (fall_ok h (hc x List.mem_cons_self)) fun y hy => hc y (List.mem_cons_of_mem _ hy)
    exact ⟨a1, a2.cons _⟩
  | swap x y l =>
    intro b h hc
    have hx := okM0 (hc x (List.mem_cons_of_mem _ List.mem_cons_self))
    have hy := okM0 (hc y List.mem_cons_self)
    obtain ⟨g1, g2⟩ := go_swap (i := 0) h hy hx
    show (alls W (fall W (fall W b y).1 x).1 l).1 = (alls W (fall W (fall W b x).1 y).1 l).1 ∧ List.Perm ((fall W b y).2 :: (fall W (fall W b y).1 x).2 :: (alls W (fall W (fall W b y).1 x).1 l).2) ((fall W b x).2 :: (fall W (fall W b x).1 y).2 :: (alls W (fall W (fall W b x).1 y).1 l).2)
    have e : (fall W (fall W b y).1 x).1 = (fall W (fall W b x).1 y).1 := g1
    rw [e]
    refine ⟨rfl, ?_⟩
    rcases g2 with ⟨q1, q2⟩ | ⟨q1, q2⟩
    · have q1' : (fall W b y).2 = (fall W (fall W b x).1 y).2 := q1
      have q2' : (fall W (fall W b y).1 x).2 = (fall W b x).2 := q2
      rw [q1', q2']
      exact List.Perm.swap _ _ _
    · have q1' : (fall W b y).2 = (fall W b x).2 := q1
      have q2' : (fall W (fall W b y).1 x).2 = (fall W (fall W b x).1 y).2 := q2
      rw [q1', q2']
  | trans p1 p2 ih1 ih2 =>
    intro b h hc
    obtain ⟨a1, a2⟩ := ih1 h hc
    obtain ⟨b1, b2⟩ := ih2 h fun c hc' => hc c (p1.mem_iff.mpr hc')
    exact ⟨a1.trans b1, a2.trans b2⟩
end MF

namespace DL
open PySem MF
/-! ### data -/
abbrev strOf (r : List Nat) : Str := ⟨r.toArray⟩
abbrev sgn (s : Nat) : D := .str ⟨#[s]⟩
def rowD (r : Row) : D := .str (strOf r)
def bD (b : List Row) : D := .tuple (b.map rowD)
def endD : MF.End → D
  | .left i => .tuple [.str "left", .int i]
  | .right i => .tuple [.str "right", .int i]
  | .stop i c => .tuple [.str "stop", .int i, .int c]
  | .out c => .tuple [.str "out", .int c]
/-- a board -/
structure OkB (W : Nat) (b : List Row) : Prop where
  h1 : 1 ≤ b.length
  h2 : b.length ≤ 16
  w1 : 1 ≤ W
  w2 : W ≤ 16
  rows : okRows W b
theorem OkB.row {W : Nat} {b : List Row} (h : OkB W b) {i : Nat} {r : Row} (e : b[i]? = some r) : okRow W r := h.rows r (List.mem_of_getElem? e)
theorem dIx_b {b : List Row} {i : Nat} {r : Row} (h : b[i]? = some r) : dIx (bD b) (.int (i : Nat)) = .ok (rowD r) := dIx_t (by rw [List.getElem?_map, h]; rfl)
theorem dIx_s {r : List Nat} {c s : Nat} (h : r[c]? = some s) (hl : r.length ≤ 16777216) : dIx (rowD r) (.int (c : Nat)) = .ok (sgn s) := by
  show (if (strOf r).length ≤ 16777216 then (match L2.atI (strOf r).cps.toList (c : Int) with | some c => R.ok (PyData.str ⟨#[c]⟩) | none => .bad) else .bad) = _
  rw [if_pos (by simpa [Str.length] using hl), L2.atI_nat (v := s) (by simpa using h)]
theorem dLen_b (b : List Row) : dLen [bD b] = .ok (.int b.length) := by
  show R.ok (PyData.int ((b.map rowD).length : Nat)) = _
  rw [List.length_map]
theorem dLen_r {r : Row} (h : r.length ≤ 16777216) : dLen [rowD r] = .ok (.int r.length) := by
  show (if (strOf r).length ≤ 16777216 then R.ok (PyData.int (strOf r).length) else .bad) = _
  have e : (strOf r).length = r.length := by simp [Str.length]
  rw [e, if_pos h]
theorem isi_of {T : String} {d : D} {b : Bool} (h : L2.kitB (tyName d) T = some b) : dIsi T d = .ok (.bool b) := by
  unfold dIsi
  rw [h]
theorem isi_tuple (xs : List D) : dIsi "tuple" (.tuple xs) = .ok (.bool true) := isi_of (show L2.kitB "tuple" "tuple" = some true by decide +kernel)
theorem isi_str (x : Str) : dIsi "str" (.str x) = .ok (.bool true) := isi_of (show L2.kitB "str" "str" = some true by decide +kernel)
theorem isi_int (i : Int) : dIsi "int" (.int i) = .ok (.bool true) := isi_of (show L2.kitB "int" "int" = some true by decide +kernel)
theorem isi_bool (i : Int) : dIsi "bool" (.int i) = .ok (.bool false) := isi_of (show L2.kitB "int" "bool" = some false by decide +kernel)
/-! ### loops -/
theorem lc_map {T : Tg} {c : Gm → R Bool} {e : Gm → R D} {Γ : Gm} {g : D → D} : ∀ {ds : List D}, (∀ d ∈ ds, lcTurn T c e Γ d = .ok [g d]) → lcLoop T c e Γ ds = .ok (ds.map g)
  | [], _ => rfl
  | d :: ds, h => by
    rw [lcLoop, h d List.mem_cons_self, R.bind_ok, lc_map fun x hx => h x (List.mem_cons_of_mem _ hx)]
    rfl
theorem lc_none {T : Tg} {c : Gm → R Bool} {e : Gm → R D} {Γ : Gm} : ∀ {ds : List D}, (∀ d ∈ ds, lcTurn T c e Γ d = .ok []) → lcLoop T c e Γ ds = .ok []
  | [], _ => rfl
  | d :: ds, h => by
    rw [lcLoop, h d List.mem_cons_self, R.bind_ok, lc_none fun x hx => h x (List.mem_cons_of_mem _ hx)]
    rfl
theorem bools_true : ∀ {ds : List D} {g : D → D}, (∀ d ∈ ds, g d = .bool true) → ∃ bs, asBools (ds.map g) = some bs ∧ bs.all id = true
  | [], _, _ => ⟨[], rfl, rfl⟩
  | d :: ds, g, h => by
    obtain ⟨bs, e, a⟩ := bools_true (ds := ds) (g := g) fun x hx => h x (List.mem_cons_of_mem _ hx)
    refine ⟨true :: bs, ?_, by simpa using a⟩
    rw [List.map_cons, h d List.mem_cons_self, asBools, e]
    rfl
theorem all_true {n : Nat} : dAll [.list ((List.replicate n ()).map fun _ => .bool true)] = .ok (.bool true) := by
  obtain ⟨bs, e, a⟩ := bools_true (ds := (List.replicate n (PyData.none))) (g := fun _ => .bool true) fun _ _ => rfl
  have e' : (List.replicate n ()).map (fun _ => (PyData.bool true)) = (List.replicate n (PyData.none)).map fun _ => .bool true := by simp
  rw [e', dAll, e]
  simp only [a]
theorem all_map {α : Type} {xs : List α} : dAll [.list (xs.map fun _ => .bool true)] = .ok (.bool true) := by
  have := all_true (n := xs.length)
  rw [List.map_const'] at this ⊢
  rw [List.length_replicate] at this
  exact this
theorem for_inv {T : Tg} {F : Gm → R O} {P : Gm → Prop} : ∀ {ds : List D} {Γ : Gm}, (∀ d ∈ ds, ∀ Γ, P Γ → ∃ Γ1 Γ2, asgn T d Γ = .ok Γ1 ∧ F Γ1 = .ok (.nx Γ2) ∧ P Γ2) → P Γ → ∃ Γ', forLoop T F ds Γ = .ok (.nx Γ') ∧ P Γ'
  | [], Γ, _, hP => ⟨Γ, rfl, hP⟩
  | d :: ds, Γ, h, hP => by
    obtain ⟨Γ1, Γ2, e1, e2, p⟩ := h d List.mem_cons_self Γ hP
    rw [forLoop, e1, R.bind_ok, e2, R.bind_ok]
    exact for_inv (fun x hx => h x (List.mem_cons_of_mem _ hx)) p
/-! ### the small defs -/
theorem ev_is_whole {v a b : Int} (h1 : a ≤ v) (h2 : v ≤ b) : phi_is_whole [.int v, .int a, .int b] = .ok (.bool true) := by
  simp [phi_is_whole, b_is_whole, isi_int, isi_bool, h1, h2]
theorem eq_sgn {s k : Nat} (hs : s < 1114112) (hk : k < 1114112) : dEq (sgn s) (.str ⟨#[k]⟩) = .ok (.bool (decide (s = k))) := by
  unfold dEq
  have e : ∀ k, k < 1114112 → SeqAt.shaped (.str ⟨#[k]⟩) = true := fun k hk => by
    have : PyData.depth (.str ⟨#[k]⟩) ≤ 64 := by simp [PyData.depth]
    simp [SeqAt.shaped, PyData.canLay0, PyData.strOk, this, hk]
  rw [if_pos ⟨e s hs, e k hk⟩, PyData.eqv]
  have : ((⟨#[s]⟩ : Str) == ⟨#[k]⟩) = decide (s = k) := by
    by_cases h : s = k
    · subst h; simp
    · simp [h]
  rw [this]
end DL

namespace DL
open PySem MF
theorem lc_rep {T : Tg} {c : Gm → R Bool} {e : Gm → R D} {Γ : Gm} {v : D} {n : Nat} {ds : List D} (hn : ds.length = n) (h : ∀ d ∈ ds, lcTurn T c e Γ d = .ok [v]) : lcLoop T c e Γ ds = .ok (List.replicate n v) := by
  rw [lc_map (g := fun _ => v) h, List.map_const', hn]
theorem all_rep (n : Nat) : dAll [.list (List.replicate n (.bool true))] = .ok (.bool true) := by
  have := all_true (n := n)
  rw [List.map_const', List.length_replicate] at this
  exact this
theorem okSign_lt {s : Nat} (h : okSign s) : s < 1114112 := by
  unfold okSign at h
  simp at h
  omega
theorem dItems_b (b : List Row) : dItems (bD b) = .ok (b.map rowD) := rfl
theorem dItems_r (r : Row) : dItems (rowD r) = .ok (r.map sgn) := by
  show R.ok ((strOf r).cps.toList.map fun c => PyData.str ⟨#[c]⟩) = _
  rfl
theorem isi_b (b : List Row) : dIsi "tuple" (bD b) = .ok (.bool true) := isi_tuple _
theorem isi_r (r : Row) : dIsi "str" (rowD r) = .ok (.bool true) := isi_str _
theorem notin_signs {s : Nat} (h : okSign s) : dNotInS (sgn s) (.str ".\\/LR<>X#") = .ok (.bool false) := by
  unfold okSign at h
  simp at h
  rcases h with h | h | h | h | h | h | h <;> subst h <;> rfl
theorem OkB.len {W : Nat} {b : List Row} (h : OkB W b) {r : Row} (hr : r ∈ b) : r.length = W := (h.rows r hr).1
theorem OkB.get0 {W : Nat} {b : List Row} (h : OkB W b) : ∃ r, b[0]? = some r ∧ r ∈ b := by
  have := h.h1
  cases b with
  | nil => simp at this
  | cons r rs => exact ⟨r, rfl, List.mem_cons_self⟩
theorem dIx_b0 {b : List Row} {r : Row} (h : b[0]? = some r) : dIx (bD b) (.int 0) = .ok (rowD r) := dIx_b (i := 0) h
theorem eq_int (a b : Int) : dEq (.int a) (.int b) = .ok (.bool (decide (a = b))) := by
  unfold dEq
  have e : ∀ k : Int, SeqAt.shaped (.int k) = true := fun k => by simp [SeqAt.shaped, PyData.canLay0, PyData.depth]
  rw [if_pos ⟨e _, e _⟩, PyData.eqv]
  congr 2
theorem ev_board_fault {W : Nat} {b : List Row} (h : OkB W b) : phi_board_fault [bD b] = .ok .none := by
  obtain ⟨r0, e0, m0⟩ := h.get0
  have h1 := h.h1
  have h2 := h.h2
  have w1 := h.w1
  have w2 := h.w2
  have l0 := h.len m0
  have d0 : dIx (bD b) (.int 0) = .ok (rowD r0) := dIx_b0 e0
  have dl : dLen [rowD r0] = .ok (.int W) := by rw [dLen_r (by omega), l0]
  have c1 : ∀ Γ : Gm, lcLoop (.n 1) cYes (e1 (dIsi "str") (eVar 1)) (Γ.set 1 .no) (b.map rowD) = .ok (List.replicate b.length (.bool true)) ∨ Γ.length ≤ 1 := fun Γ => by
    by_cases hl : Γ.length ≤ 1
    · exact .inr hl
    · refine .inl (lc_rep (by simp) fun d hd => ?_)
      obtain ⟨r, hr, rfl⟩ := List.mem_map.mp hd
      have : (Γ.set 1 .no).set 1 (.fr (rowD r)) = Γ.set 1 (.fr (rowD r)) := List.set_set ..
      have g : (Γ.set 1 (.fr (rowD r)))[1]? = some (.fr (rowD r)) := List.getElem?_set_self (by omega)
      simp [this, g, isi_r]
  have c2 : lcLoop (.n 1) cYes (e2 dEq (eCB dLen (aCons (eVar 1) aNil)) (eCB dLen (aCons (e2 dIx (eVar 0) (eC (.int 0))) aNil))) [.fr (bD b), .no, .no, .no, .no, .no] (b.map rowD) = .ok (List.replicate b.length (.bool true)) := by
    refine lc_rep (by simp) fun d hd => ?_
    obtain ⟨r, hr, rfl⟩ := List.mem_map.mp hd
    have l1 := h.len hr
    have dl' : dLen [rowD r] = .ok (.int W) := by rw [dLen_r (by omega), l1]
    simp [d0, dl, dl', eq_int]
  have c1' := (c1 [.fr (bD b), .no, .no, .no, .no, .no]).resolve_right (by simp)
  simp only [List.set_cons_succ, List.set_cons_zero] at c1'
  have c3 : ∀ r ∈ b, ∀ x0 x1 x2 x3 x4 x5, lcLoop (.t [.n 4, .n 5]) (eT (e2 dNotInS (eVar 5) (eC (.str ".\\/LR<>X#")))) (eVar 4) [x0, x1, x2, x3, x4, x5] (enumD (r.map sgn)) = .ok [] := fun r hr x0 x1 x2 x3 x4 x5 => by
    refine lc_none fun d hd => ?_
    unfold enumD at hd
    obtain ⟨p, hp, rfl⟩ := List.mem_map.mp hd
    obtain ⟨x, i⟩ := p
    have := List.fst_mem_of_mem_zipIdx hp
    obtain ⟨s, hs, rfl⟩ := List.mem_map.mp this
    have ok := (h.rows r hr).2 s hs
    simp [notin_signs ok]
  have c4 : ∃ Γ', forLoop (.t [.n 2, .n 1]) (sSeq (sSet 3 (xFr (eFr (eLc (iEnumD (eVar 1)) (.t [(.n 4), (.n 5)]) (eT (e2 dNotInS (eVar 5) (eC (.str ".\\/LR<>X#")))) (eVar 4) [4, 5]))))
    (sIf (eT (e2 dGt (eCB dLen (aCons (eVar 3) aNil)) (eC (.int 0))))
    (sRet (eTup (aCons (eC (.str "sign")) (aCons (eVar 2) (aCons (e2 dIx (eVar 3) (eC (.int 0))) aNil)))))
    sNext)) (enumD (b.map rowD)) [.fr (bD b), .no, .no, .no, .no, .no] = .ok (.nx Γ') ∧ ∃ x0 x1 x2 x3 x4 x5, Γ' = [x0, x1, x2, x3, x4, x5] := by
    refine for_inv (P := fun Γ' => ∃ x0 x1 x2 x3 x4 x5, Γ' = [x0, x1, x2, x3, x4, x5]) (fun d hd Γ hΓ => ?_) ⟨_, _, _, _, _, _, rfl⟩
    obtain ⟨x0, x1, x2, x3, x4, x5, rfl⟩ := hΓ
    unfold enumD at hd
    obtain ⟨p, hp, rfl⟩ := List.mem_map.mp hd
    obtain ⟨x, i⟩ := p
    have := List.fst_mem_of_mem_zipIdx hp
    obtain ⟨r, hr, rfl⟩ := List.mem_map.mp this
    refine ⟨[x0, .fr (rowD r), .fr (.int i), x3, x4, x5], [x0, .fr (rowD r), .fr (.int i), .fr (.list []), x4, x5], by simp, ?_, ⟨_, _, _, _, _, _, rfl⟩⟩
    simp [dItems_r, c3 r hr]
  obtain ⟨Γ', c4, _⟩ := c4
  have a1 := all_rep b.length
  have n1 : (1 : Int) ≤ b.length := by omega
  have n2 : (b.length : Int) ≤ 16 := by omega
  have n3 : (1 : Int) ≤ W := by omega
  have n4 : (W : Int) ≤ 16 := by omega
  have n5 : b.length ≤ 16777216 := by omega
  simp [phi_board_fault, b_board_fault, isi_b, dLen_b, dItems_b, n1, n2, n3, n4, n5, c1', c2, d0, dl, a1, c4]
theorem ev_check_board {W : Nat} {b : List Row} (h : OkB W b) : phi_check_board [bD b] = .ok .none := by
  simp [phi_check_board, b_check_board, ev_board_fault h, dNotN]
theorem ev_check_column {W : Nat} {b : List Row} (h : OkB W b) {c : Nat} (hc : c < W) : phi_check_column [bD b, .int c] = .ok .none := by
  obtain ⟨r0, e0, m0⟩ := h.get0
  have l0 := h.len m0
  have w2 := h.w2
  have dl : dLen [rowD r0] = .ok (.int W) := by rw [dLen_r (by omega), l0]
  have q : phi_is_whole [.int c, .int 0, .int ((W : Int) - 1)] = .ok (.bool true) := ev_is_whole (by omega) (by omega)
  simp [phi_check_column, b_check_column, dIx_b0 e0, dl, q]
theorem ev_way_at {s : Nat} (h : okSign s) (hs : s ≠ 35) (w : Int) : phi_way_at [sgn s, .int w] = .ok (.int (wayOf s w)) := by
  have q := eq_sgn (s := s) (k := 88) (okSign_lt h) (by decide)
  have q' : dEq (sgn s) (.str "X") = .ok (.bool (decide (s = 88))) := q
  simp [phi_way_at, b_way_at, q']
  by_cases e : s = 88
  · subst e
    simp [wayOf]
  · simp [e]
    unfold okSign at h
    simp at h
    rcases h with h | h | h | h | h | h | h <;> subst h <;> first | rfl | contradiction
theorem ev_beyond {W : Nat} {b : List Row} (h : OkB W b) (i : Nat) (c : Int) : phi_beyond [bD b, .int i, .int c] = .ok (if c < 0 then endD (.left i) else if c = W then endD (.right i) else .none) := by
  obtain ⟨r0, e0, m0⟩ := h.get0
  have l0 := h.len m0
  have w2 := h.w2
  have dl : dLen [rowD r0] = .ok (.int W) := by rw [dLen_r (by omega), l0]
  by_cases h1 : c < 0
  · simp [phi_beyond, b_beyond, h1, endD]
  · by_cases h2 : c = W
    · subst h2
      simp [phi_beyond, b_beyond, endD, dIx_b0 e0, dl, eq_int, h1]
    · simp [phi_beyond, b_beyond, h1, h2, endD, dIx_b0 e0, dl, eq_int]
end DL

namespace DL
open PySem MF
theorem joinL_flat : ∀ ps : List (List Nat), TL.joinL [] ps = ps.flatten
  | [] => rfl
  | [p] => by simp [TL.joinL]
  | p :: q :: r => by rw [TL.joinL, joinL_flat (q :: r)]; simp
theorem strs_sgn : ∀ r : Row, asStrs (r.map sgn) = some (r.map fun s => (⟨#[s]⟩ : Str))
  | [] => rfl
  | s :: r => by
    rw [List.map_cons, asStrs, strs_sgn r]
    rfl
theorem flat_ones : ∀ r : List Nat, ((r.map fun s => (⟨#[s]⟩ : Str)).map fun x => x.cps.toList).flatten = r
  | [] => rfl
  | s :: r => by
    have := flat_ones r
    simp only [List.map_cons, List.flatten_cons, this]
    rfl
theorem sum_ones : ∀ r : List Nat, ((r.map fun s => (⟨#[s]⟩ : Str)).map (·.length)).sum = r.length
  | [] => rfl
  | s :: r => by
    have := sum_ones r
    simp only [List.map_cons, List.sum_cons, this, List.length_cons]
    show 1 + r.length = _
    omega
theorem join_sgn {r : Row} (h : r.length ≤ 16777216) : dJoin "" (.list (r.map sgn)) = .ok (rowD r) := by
  unfold dJoin
  dsimp only
  rw [strs_sgn]
  dsimp only
  rw [sum_ones, if_pos (by
    have : (Str.ofString "").length = 0 := by decide
    rw [this]
    omega)]
  congr 2
  show Builtin.Str.glued (Str.ofString "") _ = _
  rw [StrLaws.glued_eq_join]
  have e := TL.tl_join (Str.ofString "") (r.map fun s => (⟨#[s]⟩ : Str))
  have e2 : TL.tl (Str.ofString "") = [] := by decide
  rw [e2, joinL_flat] at e
  have e3 : ((r.map fun s => (⟨#[s]⟩ : Str)).map TL.tl).flatten = r := flat_ones r
  rw [e3] at e
  exact PySem.W.str_of_cps (by rw [show (Str.join (Str.ofString "") (r.map fun s => (⟨#[s]⟩ : Str))).cps.toList = r from e])
theorem lc2_map {T : Tg} {e : Gm → R (List D)} {Γ : Gm} {α : Type} {k : α → D} {g : α → List D} : ∀ {as : List α}, (∀ a ∈ as, lc2Turn T e Γ (k a) = .ok (g a)) → lc2Loop T e Γ (as.map k) = .ok (as.map g)
  | [], _ => rfl
  | a :: as, h => by
    rw [List.map_cons, lc2Loop, h a List.mem_cons_self, R.bind_ok, lc2_map fun x hx => h x (List.mem_cons_of_mem _ hx)]
    rfl
theorem lc_maps {T : Tg} {c : Gm → R Bool} {e : Gm → R D} {Γ : Gm} {α : Type} {k : α → D} {g : α → D} : ∀ {as : List α}, (∀ a ∈ as, lcTurn T c e Γ (k a) = .ok [g a]) → lcLoop T c e Γ (as.map k) = .ok (as.map g)
  | [], _ => rfl
  | a :: as, h => by
    rw [List.map_cons, lcLoop, h a List.mem_cons_self, R.bind_ok, lc_maps fun x hx => h x (List.mem_cons_of_mem _ hx)]
    rfl
theorem dList_r {r : Row} (h : r.length ≤ 16777216) : dList [rowD r] = .ok (r.map sgn) := by
  show (if (strOf r).cps.size ≤ 16777216 then R.ok (signsD (strOf r)) else .bad) = _
  rw [if_pos (by simpa using h)]
  rfl
theorem tab_turn {s : Nat} (h : s = 76 ∨ s = 82) : dTab t_OTHERS (sgn s) = .ok (sgn (turn s)) := by
  rcases h with h | h <;> subst h <;> rfl
/-- the rows as lists of signs -/
def gridD (b : List Row) : List D := b.map fun r => .list (r.map sgn)
theorem dIx_g {b : List Row} {i : Nat} {r : Row} (h : b[i]? = some r) : dIx (.list (gridD b)) (.int (i : Nat)) = .ok (.list (r.map sgn)) := dIx_l (by rw [gridD, List.getElem?_map, h]; rfl)
theorem dIx_gr {r : Row} {c s : Nat} (h : r[c]? = some s) : dIx (.list (r.map sgn)) (.int (c : Nat)) = .ok (sgn s) := dIx_l (by rw [List.getElem?_map, h]; rfl)
theorem ixN_nat {n i : Nat} (h : i < n) : L2.ixN n (i : Int) = some i := by
  unfold L2.ixN
  rw [if_pos (by omega), if_pos (by omega)]
  simp
theorem join_turn {T : Tg} {Γ : Gm} {b : List Row} (x0 x1 x2 x4 : Slot) (h : ∀ r ∈ b, r.length ≤ 16777216) : lcLoop (.n 3) cYes (eJoin (eC (.str "")) (eVar 3)) [x0, x1, x2, .no, x4] (gridD b) = .ok (b.map rowD) := by
  refine lc_maps fun r hr => ?_
  simp [asS, join_sgn (h r hr)]
theorem ev_turned_at {W : Nat} {b : List Row} (h : OkB W b) {i c : Nat} {r : Row} {s : Nat} (hr : b[i]? = some r) (hs : r[c]? = some s) (hsw : s = 76 ∨ s = 82) :
    phi_turned_at [bD b, .tuple [.tuple [.int i, .int c]]] = .ok (bD (b.set i (r.set c (turn s)))) := by
  have hb : ∀ r ∈ b, r.length ≤ 16777216 := fun r hr => by have := h.len hr; have := h.w2; omega
  have hl : b.length ≤ 16777216 := by have := h.h2; omega
  have k1 : ∀ x0 x1 x2 x4, lc2Loop (.n 3) (lCB dList (aCons (eVar 3) aNil)) [x0, x1, x2, .no, x4] (b.map rowD) = .ok (b.map fun r => r.map sgn) := fun x0 x1 x2 x4 => by
    refine lc2_map fun r hr => ?_
    simp [dList_r (hb r hr)]
  have hi : i < b.length := (List.getElem?_eq_some_iff.mp hr).1
  have hc : c < r.length := (List.getElem?_eq_some_iff.mp hs).1
  have k2 : (b.map fun r => r.map sgn)[i]? = some (r.map sgn) := by rw [List.getElem?_map, hr]; rfl
  have k3 : L2.ixN (b.map fun r => r.map sgn).length (i : Int) = some i := ixN_nat (by simpa using hi)
  have k4 : L2.ixN (r.map sgn).length (c : Int) = some c := ixN_nat (by simpa using hc)
  have k5 : (b.map fun r => r.map sgn).map PyData.list = gridD b := by rw [List.map_map]; rfl
  have k6 : ((b.map fun r => r.map sgn).set i ((r.map sgn).set c (sgn (turn s)))).map PyData.list = gridD (b.set i (r.set c (turn s))) := by
    unfold gridD
    rw [List.map_set, List.map_map, List.map_set (l := b), List.map_set (l := r)]
    rfl
  have hb' : ∀ q ∈ b.set i (r.set c (turn s)), q.length ≤ 16777216 := fun q hq => by
    rcases List.mem_or_eq_of_mem_set hq with z | z
    · exact hb q z
    · rw [z, List.length_set]; exact hb r (List.mem_of_getElem? hr)
  have k7 := fun x0 x1 x2 x4 => join_turn (T := .n 3) (Γ := []) x0 x1 x2 x4 hb'
  have k8 : ∀ x0 x1 : Slot, sSet2 2 (fBor (e1 (dTab t_OTHERS) (e2 dIx (e2 dIx (eVar 2) (eVar 3)) (eVar 4)))) (eVar 3) (eVar 4) [x0, x1, .ow (.l2 (b.map fun r => r.map sgn)), .fr (.int i), .fr (.int c)] =
      .ok (.nx [x0, x1, .ow (.l2 ((b.map fun r => r.map sgn).set i ((r.map sgn).set c (sgn (turn s))))), .fr (.int i), .fr (.int c)]) := fun x0 x1 => by
    have im : imm (sgn (turn s)) = true := rfl
    have im' : fBor (e1 (dTab t_OTHERS) (e2 dIx (e2 dIx (eVar 2) (eVar 3)) (eVar 4))) [x0, x1, .ow (.l2 (b.map fun r => r.map sgn)), .fr (.int i), .fr (.int c)] = .ok (sgn (turn s)) := by
      simp [k5, dIx_g hr, dIx_gr hs, tab_turn hsw, im]
    unfold sSet2
    simp only [List.getElem?_cons_succ, List.getElem?_cons_zero, im', R.bind_ok, ap_eVar, asI_int, k3, k2, k4, List.set_cons_succ, List.set_cons_zero]
  have k9 : (forLoop (.t [.n 3, .n 4]) (sSet2 2 (fBor (e1 (dTab t_OTHERS) (e2 dIx (e2 dIx (eVar 2) (eVar 3)) (eVar 4)))) (eVar 3) (eVar 4)) [.tuple [.int i, .int c]] [.fr (bD b), .fr (.tuple [.tuple [.int i, .int c]]), .ow (.l2 (b.map fun r => r.map sgn)), .no, .no]) =
      .ok (.nx [.fr (bD b), .fr (.tuple [.tuple [.int i, .int c]]), .ow (.l2 ((b.map fun r => r.map sgn).set i ((r.map sgn).set c (sgn (turn s))))), .fr (.int i), .fr (.int c)]) := by
    rw [forLoop]
    simp [k8, forLoop]
  simp [phi_turned_at, b_turned_at, dItems_b, k1, mkL2, hl, dItems_t, dItems_l, k9, dTuple_l, k6, k7]
  unfold bD
  rw [List.map_set]
end DL

namespace DL
open PySem MF
theorem turn_same {s : Nat} (h : ¬ (s = 76 ∨ s = 82)) : turn s = s := by
  unfold turn
  rw [if_neg fun z => h (.inl z), if_neg fun z => h (.inr z)]
theorem set_same {α : Type} {xs : List α} {i : Nat} {x : α} (h : xs[i]? = some x) : xs.set i x = xs := by
  obtain ⟨hi, e⟩ := List.getElem?_eq_some_iff.mp h
  subst e
  simp
theorem ev_behind {W : Nat} {b : List Row} (h : OkB W b) {i c : Nat} {r : Row} {s : Nat} (hr : b[i]? = some r) (hs : r[c]? = some s) :
    phi_behind [bD b, .int i, .int c] = .ok (bD (b.set i (r.set c (turn s)))) := by
  have okr := h.row hr
  have oks : okSign s := okr.2 s (List.mem_of_getElem? hs)
  have hl : r.length ≤ 16777216 := by have := okr.1; have := h.w2; omega
  by_cases hsw : s = 76 ∨ s = 82
  · have n1 : dNotInS (sgn s) (.str "LR<>") = .ok (.bool false) := by rcases hsw with q | q <;> subst q <;> rfl
    have n2 : dInS (sgn s) (.str "<>") = .ok (.bool false) := by rcases hsw with q | q <;> subst q <;> rfl
    simp [phi_behind, b_behind, dIx_b hr, dIx_s hs hl, n1, n2, ev_turned_at h hr hs hsw]
  · have n1 : dNotInS (sgn s) (.str "LR<>") = .ok (.bool true) := by
      unfold okSign at oks
      simp at oks
      rcases oks with q | q | q | q | q | q | q <;> subst q <;> first | rfl | (exact absurd (by simp) hsw)
    rw [turn_same hsw, set_same hs, set_same hr]
    simp [phi_behind, b_behind, dIx_b hr, dIx_s hs hl, n1]
/-- the body of fall's loop -/
def loopF : Gm → R O := (sSeq (sApp 2 (eTup (aCons (eVar 4) (aCons (eVar 1) aNil))))
    (sSeq (sSet 5 (xFr (e2 dIx (e2 dIx (eVar 0) (eVar 4)) (eVar 1))))
    (sSeq (sIf (eT (e2 dEq (eVar 5) (eC (.str "#"))))
    (sRet (eTup (aCons (eVar 0) (aCons (eVar 2) (aCons (eTup (aCons (eC (.str "stop")) (aCons (eVar 4) (aCons (eVar 1) aNil)))) aNil)))))
    sNext)
    (sSeq (sSet 3 (xFr (eCall 2 phi_way_at (aCons (eVar 5) (aCons (eVar 3) aNil)))))
    (sSeq (sSet 0 (xFr (eCall 3 phi_behind (aCons (eVar 0) (aCons (eVar 4) (aCons (eVar 1) aNil))))))
    (sSeq (sAug 1 (dI fun i j => .int (i + j)) (eVar 3))
    (sIf (eT (e2 dNotN (eCall 3 phi_beyond (aCons (eVar 0) (aCons (eVar 4) (aCons (eVar 1) aNil)))) (eC .none)))
    (sRet (eTup (aCons (eVar 0) (aCons (eVar 2) (aCons (eCall 3 phi_beyond (aCons (eVar 0) (aCons (eVar 4) (aCons (eVar 1) aNil)))) aNil)))))
    sNext)))))))
theorem get_mid {α : Type} (xs : List α) (y : α) (ys : List α) : (xs ++ y :: ys)[xs.length]? = some y := by simp
theorem set_mid {α : Type} (xs : List α) (y z : α) (ys : List α) : (xs ++ y :: ys).set xs.length z = xs ++ z :: ys := by simp
theorem OkB.swap {W : Nat} {b : List Row} {xs ys : List Row} (h : OkB W (xs ++ ys)) {zs : List Row} (e : zs.length = ys.length) (hz : okRows W zs) : OkB W (xs ++ zs) := by
  obtain ⟨h1, h2, w1, w2, h3⟩ := h
  rw [List.length_append] at h1 h2
  refine ⟨by rw [List.length_append, e]; exact h1, by rw [List.length_append, e]; exact h2, w1, w2, fun r hr => ?_⟩
  rcases List.mem_append.mp hr with q | q
  · exact h3 r (List.mem_append_left _ q)
  · exact hz r q
theorem loopF_stop {W : Nat} {xs rs : List Row} {r : Row} (h : OkB W (xs ++ r :: rs)) {c : Nat} {w : Int} (hs : r[c]? = some 35) (pl : List D) (hp : pl.length < 16777216) (y : Slot) :
    loopF [.fr (bD (xs ++ r :: rs)), .fr (.int c), .ow (.l1 pl), .fr (.int w), .fr (.int xs.length), y] = .ok (.rt (.tuple [bD (xs ++ r :: rs), .list (pl ++ [.tuple [.int xs.length, .int c]]), endD (.stop xs.length c)])) := by
  have hr := get_mid xs r rs
  have okr := h.row hr
  have hl : r.length ≤ 16777216 := by have := okr.1; have := h.w2; omega
  have q : dEq (sgn 35) (.str "#") = .ok (.bool true) := eq_sgn (s := 35) (k := 35) (by decide) (by decide)
  simp [loopF, hp, dIx_b hr, dIx_s hs hl, q, endD]
theorem loopF_on {W : Nat} {xs rs : List Row} {r : Row} (h : OkB W (xs ++ r :: rs)) {c s : Nat} {w : Int} (hs : r[c]? = some s) (ns : s ≠ 35) (pl : List D) (hp : pl.length < 16777216) (y : Slot) :
    loopF [.fr (bD (xs ++ r :: rs)), .fr (.int c), .ow (.l1 pl), .fr (.int w), .fr (.int xs.length), y] =
      if (c : Int) + wayOf s w < 0 then .ok (.rt (.tuple [bD (xs ++ r.set c (turn s) :: rs), .list (pl ++ [.tuple [.int xs.length, .int c]]), endD (.left xs.length)]))
      else if (c : Int) + wayOf s w = W then .ok (.rt (.tuple [bD (xs ++ r.set c (turn s) :: rs), .list (pl ++ [.tuple [.int xs.length, .int c]]), endD (.right xs.length)]))
      else .ok (.nx [.fr (bD (xs ++ r.set c (turn s) :: rs)), .fr (.int (c + wayOf s w)), .ow (.l1 (pl ++ [.tuple [.int xs.length, .int c]])), .fr (.int (wayOf s w)), .fr (.int xs.length), .fr (sgn s)]) := by
  have hr := get_mid xs r rs
  have okr := h.row hr
  have oks : okSign s := okr.2 s (List.mem_of_getElem? hs)
  have hl : r.length ≤ 16777216 := by have := okr.1; have := h.w2; omega
  have q : dEq (sgn s) (.str "#") = .ok (.bool false) := by
    have := eq_sgn (s := s) (k := 35) (okSign_lt oks) (by decide)
    rw [decide_eq_false ns] at this
    exact this
  have eb := ev_behind h hr hs
  rw [set_mid] at eb
  have h' : OkB W (xs ++ r.set c (turn s) :: rs) := OkB.swap (b := []) h (by simp) fun x hx => by
    rcases List.mem_cons.mp hx with z | z
    · rw [z]; exact mem_set_ok okr (turn_ok oks)
    · exact h.rows x (List.mem_append_right _ (List.mem_cons_of_mem _ z))
  have ey := ev_beyond h' xs.length ((c : Int) + wayOf s w)
  simp [loopF, hp, dIx_b hr, dIx_s hs hl, q, ev_way_at oks ns, eb]
  by_cases h1 : (c : Int) + wayOf s w < 0
  · rw [if_pos h1] at ey
    have dn : dNotN (endD (.left xs.length)) .none = .ok (.bool true) := rfl
    simp [ey, h1, dn]
  · rw [if_neg h1] at ey
    by_cases h2 : (c : Int) + wayOf s w = W
    · rw [if_pos h2] at ey
      have dn : dNotN (endD (.right xs.length)) .none = .ok (.bool true) := rfl
      have ey2 := ey
      rw [h2] at ey2
      simp [ey, ey2, dn, h1, h2]
      exact fun z => absurd z (by omega)
    · rw [if_neg h2] at ey
      have dn : dNotN .none .none = .ok (.bool false) := rfl
      simp [ey, h1, h2, dn]
end DL

namespace DL
open PySem MF
def retF : Gm → R O := (sRet (eTup (aCons (eVar 0) (aCons (eVar 2) (aCons (eTup (aCons (eC (.str "out")) (aCons (eVar 1) aNil))) aNil)))))
theorem fall_loop {W : Nat} : ∀ (rest done : List Row) (c : Nat) (w : Int) (pl : List D) (x y : Slot), OkB W (done ++ rest) → okM W (c, w) → pl.length = done.length →
    ∃ pl', (forLoop (.n 4) loopF ((List.range' done.length rest.length).map fun i => .int (i : Nat)) [.fr (bD (done ++ rest)), .fr (.int c), .ow (.l1 pl), .fr (.int w), x, y] >>= fun o => match o with | .nx Γ1 => retF Γ1 | o => .ok o) =
      .ok (.rt (.tuple [bD (done ++ (go W rest done.length (c, w)).1), .list pl', endD (go W rest done.length (c, w)).2]))
  | [], done, c, w, pl, x, y, h, hm, hp => ⟨pl, by simp [forLoop, retF, go, endD]⟩
  | r :: rs, done, c, w, pl, x, y, h, hm, hp => by
    have okr := h.row (get_mid done r rs)
    have hc : c < r.length := by rw [okr.1]; exact hm.1
    have hs : r[c]? = some (r.getD c 0) := by rw [List.getD_eq_getElem?_getD, List.getElem?_eq_getElem hc]; rfl
    have hp' : pl.length < 16777216 := by have := h.h2; rw [List.length_append] at this; omega
    have e0 : (List.range' done.length (r :: rs).length).map (fun i => PyData.int (i : Nat)) = .int done.length :: (List.range' (done.length + 1) rs.length).map fun i => .int (i : Nat) := by
      rw [List.length_cons, List.range'_succ]; rfl
    rw [e0, forLoop]
    have ea : asgn (.n 4) (.int done.length) [.fr (bD (done ++ r :: rs)), .fr (.int c), .ow (.l1 pl), .fr (.int w), x, y] = .ok [.fr (bD (done ++ r :: rs)), .fr (.int c), .ow (.l1 pl), .fr (.int w), .fr (.int done.length), y] := rfl
    rw [ea, R.bind_ok, go_cons]
    by_cases ns : r.getD c 0 = 35
    · rw [ns] at hs
      rw [loopF_stop h hs pl hp' y]
      have e1 : one W r done.length (c, w) = (r, .inl (.stop done.length c)) := if_pos ns
      rw [e1]
      exact ⟨_, rfl⟩
    · rw [loopF_on h hs ns pl hp' y]
      have e1 : one W r done.length (c, w) = (r.set c (turn (r.getD c 0)), goTo W done.length c (wayOf (r.getD c 0) w)) := if_neg ns
      rw [e1]
      dsimp only
      generalize hv : wayOf (r.getD c 0) w = v
      have hvv : v = 0 ∨ v = 1 ∨ v = -1 := by rw [← hv]; exact wayOf_ok hm.2
      by_cases h1 : (c : Int) + v < 0
      · have e2 : goTo W done.length c v = .inl (.left done.length) := if_pos h1
        rw [if_pos h1, e2]
        exact ⟨_, rfl⟩
      · by_cases h2 : (c : Int) + v = W
        · have e2 : goTo W done.length c v = .inl (.right done.length) := by unfold goTo; rw [if_neg h1, if_pos h2]
          rw [if_neg h1, if_pos h2, e2]
          exact ⟨_, rfl⟩
        · have e2 : goTo W done.length c v = .inr (((c : Int) + v).toNat, v) := by unfold goTo; rw [if_neg h1, if_neg h2]
          rw [if_neg h1, if_neg h2, e2]
          have hr' : okRow W (r.set c (turn (r.getD c 0))) := mem_set_ok okr (turn_ok (getD_ok okr hm.1))
          have h' : OkB W ((done ++ [r.set c (turn (r.getD c 0))]) ++ rs) := by
            rw [List.append_assoc]
            exact OkB.swap (b := []) h (by simp) fun x hx => by
              rcases List.mem_cons.mp hx with z | z
              · rw [z]; exact hr'
              · exact h.rows x (List.mem_append_right _ (List.mem_cons_of_mem _ z))
          obtain ⟨pl', ih⟩ := fall_loop rs (done ++ [r.set c (turn (r.getD c 0))]) ((c : Int) + v).toNat v (pl ++ [.tuple [.int done.length, .int c]]) (.fr (.int done.length)) (.fr (sgn (r.getD c 0))) h' (goTo_ok hm.1 hvv e2) (by simp [hp])
          have ec : ((((c : Int) + v).toNat : Nat) : Int) = c + v := by omega
          rw [ec] at ih
          simp only [List.append_assoc, List.cons_append, List.nil_append, List.length_append, List.length_cons, List.length_nil, Nat.zero_add] at ih
          exact ⟨pl', ih⟩
theorem ev_fall {W : Nat} {b : List Row} (h : OkB W b) {c : Nat} (hc : c < W) : ∃ pl, phi_fall [bD b, .int c] = .ok (.tuple [bD (fall W b c).1, .list pl, endD (fall W b c).2]) := by
  obtain ⟨pl, e⟩ := fall_loop b [] c 0 [] .no .no h (okM0 hc) rfl
  refine ⟨pl, ?_⟩
  rw [List.length_nil, ← List.range_eq_range', List.nil_append, List.nil_append] at e
  have eq : phi_fall [bD b, .int c] = noX ((forLoop (.n 4) loopF ((List.range b.length).map fun i => .int (i : Nat)) [.fr (bD b), .fr (.int c), .ow (.l1 []), .fr (.int 0), .no, .no] >>= fun o => match o with | .nx Γ1 => retF Γ1 | o => .ok o) >>= outD) := by
    have eb : b_fall = sSeq (sPar 2 3 (xL (eLst aNil)) (xFr (eC (.int 0)))) (sSeq (sFor (iRange1 (eCB dLen (aCons (eVar 0) aNil))) (.n 4) loopF) retF) := rfl
    have ep : (sPar 2 3 (xL (eLst aNil)) (xFr (eC (.int 0)))) [.fr (bD b), .fr (.int c), .no, .no, .no, .no] = .ok (.nx [.fr (bD b), .fr (.int c), .ow (.l1 []), .fr (.int 0), .no, .no]) := by simp
    have er : iRange1 (eCB dLen (aCons (eVar 0) aNil)) [.fr (bD b), .fr (.int c), .ow (.l1 []), .fr (.int 0), .no, .no] = .ok ((List.range b.length).map fun i => .int (i : Nat)) :=
      iRange1_ok (by simp [dLen_b]) (by have := h.h2; omega)
    have es : startG 6 [bD b, .int c] = [.fr (bD b), .fr (.int c), .no, .no, .no, .no] := rfl
    unfold phi_fall runD
    rw [eb, es, ap_sSeq, ep, bnd_ok, seqK_nx, ap_sSeq, ap_sFor, er, bnd_ok]
    rfl
  rw [eq, e, R.bind_ok]
  simp only [outD, noX_ok]
  rfl
theorem ev_drop {W : Nat} {b : List Row} (h : OkB W b) {c : Nat} (hc : c < W) : phi_drop [bD b, .int c] = .ok (.tuple [bD (fall W b c).1, endD (fall W b c).2]) := by
  obtain ⟨pl, e⟩ := ev_fall h hc
  generalize (MF.fall W b c).1 = b' at e ⊢
  generalize (MF.fall W b c).2 = en at e ⊢
  simp [phi_drop, b_drop, ev_check_board h, ev_check_column h hc, e]
def colsD (cs : List Nat) : D := .tuple (cs.map fun c => .int (c : Nat))
theorem ev_check_columns {W : Nat} {b : List Row} (h : OkB W b) {cs : List Nat} (hc : ∀ c ∈ cs, c < W) (hl : cs.length ≤ 200) : phi_check_columns [bD b, colsD cs] = .ok .none := by
  obtain ⟨r0, e0, m0⟩ := h.get0
  have l0 := h.len m0
  have w2 := h.w2
  have dl : dLen [rowD r0] = .ok (.int W) := by rw [dLen_r (by omega), l0]
  have q : ∀ c ∈ cs, phi_is_whole [.int c, .int 0, .int ((W : Int) - 1)] = .ok (.bool true) := fun c hc' => ev_is_whole (by omega) (by have := hc c hc'; omega)
  have k1 : lcLoop (.n 2) cYes (eCall 3 phi_is_whole (aCons (eVar 2) (aCons (eC (.int 0)) (aCons (e2 dSub (eCB dLen (aCons (e2 dIx (eVar 0) (eC (.int 0))) aNil)) (eC (.int 1))) aNil)))) [.fr (bD b), .fr (colsD cs), .no] (cs.map fun c => .int (c : Nat)) = .ok (List.replicate cs.length (.bool true)) := by
    refine lc_rep (by simp) fun d hd => ?_
    obtain ⟨c, hc', rfl⟩ := List.mem_map.mp hd
    simp [dIx_b0 e0, dl, q c hc']
  have n1 : ¬ (200 : Int) < cs.length := by omega
  have n2 : cs.length ≤ 16777216 := by omega
  have i1 : dIsi "tuple" (colsD cs) = .ok (.bool true) := isi_tuple _
  have i2 : dLen [colsD cs] = .ok (.int cs.length) := by
    show R.ok (PyData.int ((cs.map fun c => PyData.int (c : Nat)).length : Nat)) = _
    rw [List.length_map]
  have i3 : dItems (colsD cs) = .ok (cs.map fun c => .int (c : Nat)) := rfl
  simp [phi_check_columns, b_check_columns, i1, i2, i3, n1, n2, k1, all_rep]
def loopA : Gm → R O := (sSeq (sAsg (.t [(.n 0), (.n 4), (.n 5)]) (eCall 2 phi_fall (aCons (eVar 0) (aCons (eVar 3) aNil))))
    (sApp 2 (eVar 5)))
theorem loopA_one {z x4 x5 : Slot} {es : List D} {b b' : List Row} {c : Nat} {pl : List D} {en : D} (e : phi_fall [bD b, .int c] = .ok (.tuple [bD b', .list pl, en])) (hl' : es.length < 16777216) :
    loopA [.fr (bD b), z, .ow (.l1 es), .fr (.int c), x4, x5] = .ok (.nx [.fr (bD b'), z, .ow (.l1 (es ++ [en])), .fr (.int c), .fr (.list pl), .fr en]) := by
  simp [loopA, e, hl']
theorem OkB.fall {W : Nat} {b : List Row} (h : OkB W b) {c : Nat} (hc : c < W) : OkB W (MF.fall W b c).1 := by
  obtain ⟨h1, h2, w1, w2, h3⟩ := h
  have e : (MF.fall W b c).1.length = b.length := go_len
  exact ⟨by rw [e]; exact h1, by rw [e]; exact h2, w1, w2, fall_ok h3 hc⟩
theorem all_loop {W : Nat} {z : Slot} : ∀ (cs : List Nat) (b : List Row) (es : List D) (x3 x4 x5 : Slot), OkB W b → (∀ c ∈ cs, c < W) → es.length + cs.length < 16777216 →
    ∃ x3' x4' x5', forLoop (.n 3) loopA (cs.map fun c => .int (c : Nat)) [.fr (bD b), z, .ow (.l1 es), x3, x4, x5] = .ok (.nx [.fr (bD (alls W b cs).1), z, .ow (.l1 (es ++ (alls W b cs).2.map endD)), x3', x4', x5'])
  | [], b, es, x3, x4, x5, h, hc, hl => ⟨x3, x4, x5, by simp [forLoop, alls]⟩
  | c :: cs, b, es, x3, x4, x5, h, hc, hl => by
    obtain ⟨pl, e⟩ := ev_fall h (hc c List.mem_cons_self)
    rw [List.length_cons] at hl
    obtain ⟨x3', x4', x5', ih⟩ := all_loop (W := W) (z := z) cs (MF.fall W b c).1 (es ++ [endD (MF.fall W b c).2]) (.fr (.int c)) (.fr (.list pl)) (.fr (endD (MF.fall W b c).2)) (h.fall (hc c List.mem_cons_self)) (fun x hx => hc x (List.mem_cons_of_mem _ hx)) (by simp; omega)
    refine ⟨x3', x4', x5', ?_⟩
    rw [List.map_cons, forLoop]
    have hl' : es.length < 16777216 := by omega
    have es1 := loopA_one (z := z) (es := es) (c := c) (x4 := x4) (x5 := x5) e hl'
    rw [show asgn (.n 3) (.int (c : Nat)) [.fr (bD b), z, .ow (.l1 es), x3, x4, x5] = .ok [.fr (bD b), z, .ow (.l1 es), .fr (.int c), x4, x5] from rfl, R.bind_ok, es1, R.bind_ok]
    dsimp only
    rw [ih]
    simp [alls]
theorem ev_all_ends {W : Nat} {b : List Row} (h : OkB W b) {cs : List Nat} (hc : ∀ c ∈ cs, c < W) (hl : cs.length ≤ 200) : phi_all_ends [bD b, colsD cs] = .ok (.tuple [bD (alls W b cs).1, .tuple ((alls W b cs).2.map endD)]) := by
  obtain ⟨x3, x4, x5, e⟩ := all_loop (z := .fr (colsD cs)) cs b [] .no .no .no h hc (by simp; omega)
  have i3 : dItems (colsD cs) = .ok (cs.map fun c => .int (c : Nat)) := rfl
  unfold loopA at e
  simp [phi_all_ends, b_all_ends, i3, e, dTuple_l]
theorem ev_drop_all {W : Nat} {b : List Row} (h : OkB W b) {cs : List Nat} (hc : ∀ c ∈ cs, c < W) (hl : cs.length ≤ 200) : phi_drop_all [bD b, colsD cs] = .ok (.tuple [bD (alls W b cs).1, .tuple ((alls W b cs).2.map endD)]) := by
  simp [phi_drop_all, b_drop_all, ev_check_board h, ev_check_columns h hc hl, ev_all_ends h hc hl]
end DL

namespace DL
open PySem MF
def gridL (b : List Row) : List (List D) := b.map fun r => r.map sgn
theorem gridL_list (b : List Row) : (gridL b).map PyData.list = gridD b := by unfold gridL gridD; rw [List.map_map]; rfl
theorem gridL_set {b : List Row} {i c s : Nat} {r : Row} : (gridL b).set i ((r.map sgn).set c (sgn s)) = gridL (b.set i (r.set c s)) := by
  unfold gridL
  rw [List.map_set, List.map_set (l := r)]
theorem sSet2_ok {Γ : Gm} {i j k : Nat} {dss : List (List D)} {ds : List D} {d : D} {fe fr fc : Gm → R D} (h0 : Γ[i]? = some (.ow (.l2 dss))) (he : fe Γ = .ok d) (hr : fr Γ = .ok (.int (j : Nat))) (hc : fc Γ = .ok (.int (k : Nat))) (hj : dss[j]? = some ds) (hk : k < ds.length) :
    sSet2 i fe fr fc Γ = .ok (.nx (Γ.set i (.ow (.l2 (dss.set j (ds.set k d)))))) := by
  unfold sSet2
  have hj' := (List.getElem?_eq_some_iff.mp hj).1
  simp only [h0, he, hr, hc, R.bind_ok, asI_int, ixN_nat hj', hj, ixN_nat hk]
def loopL : Gm → R O := (sSeq (sSet 4 (xFr (fBor (e2 dIx (e2 dIx (eVar 0) (eVar 3)) (eVar 1)))))
    (sSeq (sIf (eT (e2 dEq (eVar 4) (eC (.str "#"))))
    (sRet (eTup (aCons (eVar 0) (aCons (eTup (aCons (eC (.str "stop")) (aCons (eVar 3) (aCons (eVar 1) aNil)))) aNil))))
    sNext)
    (sSeq (sIf (eT (e2 dInS (eVar 4) (eC (.str "LR"))))
    (sSeq (sSet 2 (xFr (eIf (eT (e2 dEq (eVar 4) (eC (.str "L")))) (e1 dNeg (eC (.int 1))) (eC (.int 1)))))
      (sSet2 0 (eIf (eT (e2 dEq (eVar 4) (eC (.str "L")))) (eC (.str "R")) (eC (.str "L"))) (eVar 3) (eVar 1)))
    (sIf (eT (e2 dInS (eVar 4) (eC (.str "\\/"))))
      (sSet 2 (xFr (eIf (eT (e2 dEq (eVar 4) (eC (.str "\\")))) (eC (.int 1)) (e1 dNeg (eC (.int 1))))))
      (sIf (eT (e2 dEq (eVar 4) (eC (.str "."))))
        (sSet 2 (xFr (eC (.int 0))))
        sNext)))
    (sSeq (sSet 1 (xFr (e2 dAdd (eVar 1) (eVar 2))))
    (sIf (fOr (eT (e2 dLt (eVar 1) (eC (.int 0)))) (eT (e2 dGe (eVar 1) (fBor (eCB dLen (aCons (e2 dIx (eVar 0) (eC (.int 0))) aNil))))))
    (sRet (eTup (aCons (eVar 0) (aCons (eTup (aCons (eIf (eT (e2 dLt (eVar 1) (eC (.int 0)))) (eC (.str "left")) (eC (.str "right"))) (aCons (eVar 3) aNil))) aNil))))
    sNext)))))
def retL : Gm → R O := (sRet (eTup (aCons (eVar 0) (aCons (eTup (aCons (eC (.str "out")) (aCons (eVar 1) aNil))) aNil))))
def lp1 : Gm → R O := (sSet 4 (xFr (fBor (e2 dIx (e2 dIx (eVar 0) (eVar 3)) (eVar 1)))))
def lp2 : Gm → R O := (sIf (eT (e2 dEq (eVar 4) (eC (.str "#"))))
    (sRet (eTup (aCons (eVar 0) (aCons (eTup (aCons (eC (.str "stop")) (aCons (eVar 3) (aCons (eVar 1) aNil)))) aNil))))
    sNext)
def lp3 : Gm → R O := (sIf (eT (e2 dInS (eVar 4) (eC (.str "LR"))))
    (sSeq (sSet 2 (xFr (eIf (eT (e2 dEq (eVar 4) (eC (.str "L")))) (e1 dNeg (eC (.int 1))) (eC (.int 1)))))
      (sSet2 0 (eIf (eT (e2 dEq (eVar 4) (eC (.str "L")))) (eC (.str "R")) (eC (.str "L"))) (eVar 3) (eVar 1)))
    (sIf (eT (e2 dInS (eVar 4) (eC (.str "\\/"))))
      (sSet 2 (xFr (eIf (eT (e2 dEq (eVar 4) (eC (.str "\\")))) (eC (.int 1)) (e1 dNeg (eC (.int 1))))))
      (sIf (eT (e2 dEq (eVar 4) (eC (.str "."))))
        (sSet 2 (xFr (eC (.int 0))))
        sNext)))
def lp4 : Gm → R O := (sSeq (sSet 1 (xFr (e2 dAdd (eVar 1) (eVar 2))))
    (sIf (fOr (eT (e2 dLt (eVar 1) (eC (.int 0)))) (eT (e2 dGe (eVar 1) (fBor (eCB dLen (aCons (e2 dIx (eVar 0) (eC (.int 0))) aNil))))))
    (sRet (eTup (aCons (eVar 0) (aCons (eTup (aCons (eIf (eT (e2 dLt (eVar 1) (eC (.int 0)))) (eC (.str "left")) (eC (.str "right"))) (aCons (eVar 3) aNil))) aNil))))
    sNext))
theorem loopL_eq : loopL = sSeq lp1 (sSeq lp2 (sSeq lp3 lp4)) := rfl
theorem lp1_ok {b : List Row} {r : Row} {i c s : Nat} {w : D} {x : Slot} (hr : b[i]? = some r) (hs : r[c]? = some s) :
    lp1 [.ow (.l2 (gridL b)), .fr (.int c), .fr w, .fr (.int i), x] = .ok (.nx [.ow (.l2 (gridL b)), .fr (.int c), .fr w, .fr (.int i), .fr (sgn s)]) := by
  have im : imm (sgn s) = true := rfl
  simp [lp1, gridL_list, dIx_g hr, dIx_gr hs, im]
theorem eq_str {s k : Nat} {x : Str} (hs : okSign s) (hx : x = ⟨#[k]⟩) (hk : k < 1114112) : dEq (sgn s) (.str x) = .ok (.bool (decide (s = k))) := by
  subst hx
  exact eq_sgn (okSign_lt hs) hk
theorem lp2_stop {b : List Row} {i c : Nat} {w : D} : lp2 [.ow (.l2 (gridL b)), .fr (.int c), .fr w, .fr (.int i), .fr (sgn 35)] = .ok (.rt (.tuple [.list (gridD b), endD (.stop i c)])) := by
  have q : dEq (sgn 35) (.str "#") = .ok (.bool true) := eq_sgn (s := 35) (k := 35) (by decide) (by decide)
  simp [lp2, q, gridL_list, endD]
theorem lp2_on {Γ : Gm} {a b c d : Slot} {s : Nat} (hs : okSign s) (ns : s ≠ 35) : lp2 [a, b, c, d, .fr (sgn s)] = .ok (.nx [a, b, c, d, .fr (sgn s)]) := by
  have q : dEq (sgn s) (.str "#") = .ok (.bool false) := by
    have := eq_str (k := 35) (x := "#") hs rfl (by decide)
    rw [decide_eq_false ns] at this
    exact this
  simp [lp2, q]
theorem neg_one : dNeg (.int 1) = .ok (.int (-1)) := rfl
theorem lp3_ok {b : List Row} {r : Row} {i c s : Nat} {w : Int} (hs : okSign s) (ns : s ≠ 35) (hr : b[i]? = some r) (hc : r[c]? = some s) :
    lp3 [.ow (.l2 (gridL b)), .fr (.int c), .fr (.int w), .fr (.int i), .fr (sgn s)] = .ok (.nx [.ow (.l2 (gridL (b.set i (r.set c (turn s))))), .fr (.int c), .fr (.int (wayOf s w)), .fr (.int i), .fr (sgn s)]) := by
  have g1 : (gridL b)[i]? = some (r.map sgn) := by unfold gridL; rw [List.getElem?_map, hr]; rfl
  have g2 : c < (r.map sgn).length := by rw [List.length_map]; exact (List.getElem?_eq_some_iff.mp hc).1
  have qL := eq_str (k := 76) (x := "L") hs rfl (by decide)
  have qB := eq_str (k := 92) (x := "\\") hs rfl (by decide)
  have qD := eq_str (k := 46) (x := ".") hs rfl (by decide)
  by_cases hsw : s = 76 ∨ s = 82
  · have n1 : dInS (sgn s) (.str "LR") = .ok (.bool true) := by rcases hsw with q | q <;> subst q <;> rfl
    have st : ∀ v : D, sSet2 0 (eIf (eT (e2 dEq (eVar 4) (eC (.str "L")))) (eC (.str "R")) (eC (.str "L"))) (eVar 3) (eVar 1) [.ow (.l2 (gridL b)), .fr (.int c), .fr v, .fr (.int i), .fr (sgn s)] = .ok (.nx [.ow (.l2 (gridL (b.set i (r.set c (turn s))))), .fr (.int c), .fr v, .fr (.int i), .fr (sgn s)]) := fun v => by
      rw [sSet2_ok (d := sgn (turn s)) (j := i) (k := c) rfl ?_ (by simp) (by simp) g1 g2, gridL_set]
      · rfl
      · rcases hsw with q | q <;> subst q
        · simp [qL]; rfl
        · simp [qL]; rfl
    have ew : wayOf s w = if s = 76 then -1 else 1 := by rcases hsw with q | q <;> subst q <;> rfl
    rw [ew]
    rcases hsw with q | q <;> subst q
    · simp [lp3, n1, qL, neg_one, st]
    · simp [lp3, n1, qL, neg_one, st]
  · have n1 : dInS (sgn s) (.str "LR") = .ok (.bool false) := by
      unfold okSign at hs
      simp at hs
      rcases hs with q | q | q | q | q | q | q <;> subst q <;> first | rfl | (simp at hsw; done)
    have n2 : dInS (sgn s) (.str "\\/") = .ok (.bool (decide (s = 92 ∨ s = 47))) := by
      unfold okSign at hs
      simp at hs
      rcases hs with q | q | q | q | q | q | q <;> subst q <;> first | rfl | (simp at hsw; done)
    rw [turn_same hsw, set_same hc, set_same hr]
    unfold okSign at hs
    simp at hs
    rcases hs with q | q | q | q | q | q | q <;> subst q <;> first
      | (simp [lp3, n1, n2, qB, qD, neg_one, wayOf]; done)
      | (exact absurd rfl ns)
      | (simp at hsw; done)
theorem lp4_ok {W : Nat} {b : List Row} {i : Nat} {c w : Int} {x : Slot} (h : OkB W b) :
    lp4 [.ow (.l2 (gridL b)), .fr (.int c), .fr (.int w), .fr (.int i), x] =
      if c + w < 0 then .ok (.rt (.tuple [.list (gridD b), endD (.left i)])) else if (W : Int) ≤ c + w then .ok (.rt (.tuple [.list (gridD b), endD (.right i)])) else .ok (.nx [.ow (.l2 (gridL b)), .fr (.int (c + w)), .fr (.int w), .fr (.int i), x]) := by
  obtain ⟨r0, e0, m0⟩ := h.get0
  have l0 := h.len m0
  have d0 : dIx (.list (gridD b)) (.int 0) = .ok (.list (r0.map sgn)) := dIx_g (i := 0) e0
  have im : imm (.int (W : Nat)) = true := rfl
  by_cases h1 : c + w < 0
  · simp [lp4, h1, gridL_list, endD]
  · by_cases h2 : (W : Int) ≤ c + w
    · simp [lp4, h1, h2, gridL_list, endD, d0, l0, im]
    · simp [lp4, h1, h2, gridL_list, endD, d0, l0, im]
end DL

namespace DL
open PySem MF
theorem loopL_on {W : Nat} {xs rs : List Row} {r : Row} (h : OkB W (xs ++ r :: rs)) {c s : Nat} {w : Int} (hs : r[c]? = some s) (ns : s ≠ 35) (y : Slot) :
    loopL [.ow (.l2 (gridL (xs ++ r :: rs))), .fr (.int c), .fr (.int w), .fr (.int xs.length), y] =
      if (c : Int) + wayOf s w < 0 then .ok (.rt (.tuple [.list (gridD (xs ++ r.set c (turn s) :: rs)), endD (.left xs.length)]))
      else if (W : Int) ≤ (c : Int) + wayOf s w then .ok (.rt (.tuple [.list (gridD (xs ++ r.set c (turn s) :: rs)), endD (.right xs.length)]))
      else .ok (.nx [.ow (.l2 (gridL (xs ++ r.set c (turn s) :: rs))), .fr (.int (c + wayOf s w)), .fr (.int (wayOf s w)), .fr (.int xs.length), .fr (sgn s)]) := by
  have hr := get_mid xs r rs
  have okr := h.row hr
  have oks : okSign s := okr.2 s (List.mem_of_getElem? hs)
  have h' : OkB W (xs ++ r.set c (turn s) :: rs) := OkB.swap (b := []) h (by simp) fun x hx => by
    rcases List.mem_cons.mp hx with z | z
    · rw [z]; exact mem_set_ok okr (turn_ok oks)
    · exact h.rows x (List.mem_append_right _ (List.mem_cons_of_mem _ z))
  have e3 := lp3_ok (w := w) oks ns hr hs
  rw [set_mid] at e3
  rw [loopL_eq, ap_sSeq, lp1_ok hr hs, bnd_ok, seqK_nx, ap_sSeq, lp2_on (Γ := []) oks ns, bnd_ok, seqK_nx, ap_sSeq, e3, bnd_ok, seqK_nx, lp4_ok h']
theorem loopL_stop {W : Nat} {xs rs : List Row} {r : Row} (h : OkB W (xs ++ r :: rs)) {c : Nat} {w : Int} (hs : r[c]? = some 35) (y : Slot) :
    loopL [.ow (.l2 (gridL (xs ++ r :: rs))), .fr (.int c), .fr (.int w), .fr (.int xs.length), y] = .ok (.rt (.tuple [.list (gridD (xs ++ r :: rs)), endD (.stop xs.length c)])) := by
  have hr := get_mid xs r rs
  rw [loopL_eq, ap_sSeq, lp1_ok hr hs, bnd_ok, seqK_nx, ap_sSeq, lp2_stop, bnd_ok, seqK_rt]
theorem lf_loop {W : Nat} : ∀ (rest done : List Row) (c : Nat) (w : Int) (x y : Slot), OkB W (done ++ rest) → okM W (c, w) →
    bnd (forLoop (.n 3) loopL ((List.range' done.length rest.length).map fun i => .int (i : Nat)) [.ow (.l2 (gridL (done ++ rest))), .fr (.int c), .fr (.int w), x, y]) (seqK retL) =
      .ok (.rt (.tuple [.list (gridD (done ++ (go W rest done.length (c, w)).1)), endD (go W rest done.length (c, w)).2]))
  | [], done, c, w, x, y, h, hm => by simp [forLoop, retL, go, endD, gridL_list]
  | r :: rs, done, c, w, x, y, h, hm => by
    have okr := h.row (get_mid done r rs)
    have hc : c < r.length := by rw [okr.1]; exact hm.1
    have hs : r[c]? = some (r.getD c 0) := by rw [List.getD_eq_getElem?_getD, List.getElem?_eq_getElem hc]; rfl
    have e0 : (List.range' done.length (r :: rs).length).map (fun i => PyData.int (i : Nat)) = .int done.length :: (List.range' (done.length + 1) rs.length).map fun i => .int (i : Nat) := by
      rw [List.length_cons, List.range'_succ]; rfl
    rw [e0, forLoop]
    have ea : asgn (.n 3) (.int done.length) [.ow (.l2 (gridL (done ++ r :: rs))), .fr (.int c), .fr (.int w), x, y] = .ok [.ow (.l2 (gridL (done ++ r :: rs))), .fr (.int c), .fr (.int w), .fr (.int done.length), y] := rfl
    rw [ea, R.bind_ok, go_cons]
    by_cases ns : r.getD c 0 = 35
    · rw [ns] at hs
      rw [loopL_stop h hs y]
      have e1 : one W r done.length (c, w) = (r, .inl (.stop done.length c)) := if_pos ns
      rw [e1]
      rfl
    · rw [loopL_on h hs ns y]
      have e1 : one W r done.length (c, w) = (r.set c (turn (r.getD c 0)), goTo W done.length c (wayOf (r.getD c 0) w)) := if_neg ns
      rw [e1]
      dsimp only
      generalize hv : wayOf (r.getD c 0) w = v
      have hvv : v = 0 ∨ v = 1 ∨ v = -1 := by rw [← hv]; exact wayOf_ok hm.2
      by_cases h1 : (c : Int) + v < 0
      · have e2 : goTo W done.length c v = .inl (.left done.length) := if_pos h1
        rw [if_pos h1, e2]
        rfl
      · by_cases h2 : (c : Int) + v = W
        · have e2 : goTo W done.length c v = .inl (.right done.length) := by unfold goTo; rw [if_neg h1, if_pos h2]
          rw [if_neg h1, if_pos (by omega), e2]
          rfl
        · have e2 : goTo W done.length c v = .inr (((c : Int) + v).toNat, v) := by unfold goTo; rw [if_neg h1, if_neg h2]
          have hm1 := hm.1
          dsimp only at hm1
          rw [if_neg h1, if_neg (by omega), e2]
          have hr' : okRow W (r.set c (turn (r.getD c 0))) := mem_set_ok okr (turn_ok (getD_ok okr hm.1))
          have h' : OkB W ((done ++ [r.set c (turn (r.getD c 0))]) ++ rs) := by
            rw [List.append_assoc]
            exact OkB.swap (b := []) h (by simp) fun x hx => by
              rcases List.mem_cons.mp hx with z | z
              · rw [z]; exact hr'
              · exact h.rows x (List.mem_append_right _ (List.mem_cons_of_mem _ z))
          have ih := lf_loop rs (done ++ [r.set c (turn (r.getD c 0))]) ((c : Int) + v).toNat v (.fr (.int done.length)) (.fr (sgn (r.getD c 0))) h' (goTo_ok hm.1 hvv e2)
          have ec : ((((c : Int) + v).toNat : Nat) : Int) = c + v := by omega
          rw [ec] at ih
          simp only [List.append_assoc, List.cons_append, List.nil_append, List.length_append, List.length_cons, List.length_nil, Nat.zero_add] at ih
          exact ih
theorem ev_law_fall {W : Nat} {b : List Row} (h : OkB W b) {c : Nat} (hc : c < W) : phi__law_fall [.list (gridD b), .int c] = .ok (.tuple [.list (gridD (fall W b c).1), endD (fall W b c).2]) := by
  have e := lf_loop b [] c 0 .no .no h (okM0 hc)
  rw [List.length_nil, ← List.range_eq_range', List.nil_append, List.nil_append] at e
  have eb : b__law_fall = sSeq (sPar 0 2 (xL2 (eLc2 (iSeqD (eVar 0)) (.n 3) (lCB dList (aCons (eVar 3) aNil)) [3])) (xFr (eC (.int 0)))) (sSeq (sFor (iRange1 (fBor (eCB dLen (aCons (eVar 0) aNil)))) (.n 3) loopL) retL) := rfl
  have k1 : lc2Loop (.n 3) (lCB dList (aCons (eVar 3) aNil)) [.fr (.list (gridD b)), .fr (.int c), .no, .no, .no] (gridD b) = .ok (gridL b) := by
    refine lc2_map (as := b) (k := fun r : Row => .list (r.map sgn)) (g := fun r : Row => r.map sgn) fun r hr => ?_
    simp
  have hl : (gridL b).length ≤ 16777216 := by have := h.h2; unfold gridL; rw [List.length_map]; omega
  have ep : (sPar 0 2 (xL2 (eLc2 (iSeqD (eVar 0)) (.n 3) (lCB dList (aCons (eVar 3) aNil)) [3])) (xFr (eC (.int 0)))) [.fr (.list (gridD b)), .fr (.int c), .no, .no, .no] = .ok (.nx [.ow (.l2 (gridL b)), .fr (.int c), .fr (.int 0), .no, .no]) := by
    simp [k1, mkL2, hl]
  have im : imm (.int (b.length : Nat)) = true := rfl
  have gl : (gridD b).length = b.length := by unfold gridD; rw [List.length_map]
  have er : iRange1 (fBor (eCB dLen (aCons (eVar 0) aNil))) [.ow (.l2 (gridL b)), .fr (.int c), .fr (.int 0), .no, .no] = .ok ((List.range b.length).map fun i => .int (i : Nat)) :=
    iRange1_ok (by simp [gridL_list, gl, im]) (by have := h.h2; omega)
  have es : startG 5 [.list (gridD b), .int c] = [.fr (.list (gridD b)), .fr (.int c), .no, .no, .no] := rfl
  unfold phi__law_fall
  rw [ap_runD, eb, es, ap_sSeq, ep, bnd_ok, seqK_nx, ap_sSeq, ap_sFor, er, bnd_ok, forK_ap, e, bnd_ok, outD_rt, noX_ok]
  rfl
/-! ### the draws -/
def intsD (ns : List Int) : D := .list (ns.map PyData.int)
theorem cut_hi {xs : List D} {k : Nat} : cutD xs none (some (k : Int)) = xs.take k := by
  unfold cutD
  rw [HT.sIx_none, HT.sIx_nat, List.drop_zero, Nat.sub_zero]
  by_cases h : k ≤ xs.length
  · rw [Nat.min_eq_left h]
  · rw [Nat.min_eq_right (by omega), List.take_length, List.take_of_length_le (by omega)]
theorem cut_lo {xs : List D} {k : Nat} : cutD xs (some (k : Int)) none = xs.drop k := by
  unfold cutD
  rw [HT.sIx_none, HT.sIx_nat]
  by_cases h : k ≤ xs.length
  · rw [Nat.min_eq_left h, List.take_of_length_le (by rw [List.length_drop]; omega)]
  · rw [Nat.min_eq_right (by omega), List.drop_length, List.drop_of_length_le (by omega)]
    simp
theorem dMod_ok {a b : Int} (h : b ≠ 0) : dMod (.int a) (.int b) = .ok (.int (a.fmod b)) := by
  unfold dMod
  exact if_neg h
theorem dDiv_ok {a b : Int} (h : b ≠ 0) (h2 : b.natAbs < 1073741824) : dDiv (.int a) (.int b) = .ok (.int (a.fdiv b)) := by
  unfold dDiv
  exact if_pos ⟨h, h2⟩
theorem mul_if {α : Type} {i j : Int} {a b : α} (h : -1000000000000 < j) (h2 : j < 1000000000000) : (if (-18446744073709551616 < i ∧ i < 18446744073709551616) ∨ (-18446744073709551616 < j ∧ j < 18446744073709551616) then a else b) = a := if_pos (.inr (And.intro (by omega) (by omega)))
theorem dMul_ok {a b : Int} (h : -1000000000000 < b) (h2 : b < 1000000000000) : dMul (.int a) (.int b) = .ok (.int (a * b)) := by
  unfold dMul
  exact mul_if h h2
theorem dIx_ints {ns : List Int} {i : Int} (h0 : 0 ≤ i) (h1 : i < ns.length) : ∃ v, v ∈ ns ∧ dIx (intsD ns) (.int i) = .ok (.int v) := by
  have hl : i.toNat < ns.length := by omega
  refine ⟨ns[i.toNat], List.getElem_mem _, ?_⟩
  have := dIx_l (i := i.toNat) (xs := ns.map PyData.int) (d := .int ns[i.toNat]) (by rw [List.getElem?_map, List.getElem?_eq_getElem hl]; rfl)
  have e : ((i.toNat : Nat) : Int) = i := by omega
  rw [e] at this
  exact this
theorem fmod_lt {a b : Int} (h : 0 < b) : 0 ≤ a.fmod b ∧ a.fmod b < b := ⟨Int.fmod_nonneg_of_pos _ h, Int.fmod_lt_of_pos _ h⟩
theorem fdiv_nn {a b : Int} (ha : 0 ≤ a) (h : 0 < b) : 0 ≤ a.fdiv b := by
  rw [Int.fdiv_eq_ediv_of_nonneg _ (by omega)]
  exact Int.ediv_nonneg ha (by omega)
end DL

namespace DL
open PySem MF
theorem for_cnt {T : Tg} {F : Gm → R O} {P : Nat → Gm → Prop} {m : Nat} : ∀ {ds : List D} {k : Nat} {Γ : Gm}, k + ds.length ≤ m → (∀ d ∈ ds, ∀ k Γ, k < m → P k Γ → ∃ Γ1 Γ2, asgn T d Γ = .ok Γ1 ∧ F Γ1 = .ok (.nx Γ2) ∧ P (k + 1) Γ2) → P k Γ → ∃ Γ', forLoop T F ds Γ = .ok (.nx Γ') ∧ P (k + ds.length) Γ'
  | [], k, Γ, _, _, hP => ⟨Γ, rfl, hP⟩
  | d :: ds, k, Γ, hm, h, hP => by
    rw [List.length_cons] at hm
    obtain ⟨Γ1, Γ2, e1, e2, p⟩ := h d List.mem_cons_self k Γ (by omega) hP
    rw [forLoop, e1, R.bind_ok, e2, R.bind_ok]
    obtain ⟨Γ', e, q⟩ := for_cnt (k := k + 1) (ds := ds) (m := m) (by omega) (fun x hx => h x (List.mem_cons_of_mem _ hx)) p
    refine ⟨Γ', e, ?_⟩
    have ek : k + (d :: ds).length = k + 1 + ds.length := by rw [List.length_cons]; omega
    rw [ek]
    exact q
/-- the draws so far -/
def DrawsP (n : Nat) (S : Slot) : Prop := ∃ ns : List Int, S = .ow (.l1 (ns.map PyData.int)) ∧ (∀ v ∈ ns, 0 ≤ v) ∧ ns.length ≤ n
theorem draws_add {n : Nat} {ns : List Int} {v : Int} (h : ∀ v ∈ ns, 0 ≤ v) (hl : ns.length ≤ n) (hv : 0 ≤ v) : DrawsP (n + 1) (.ow (.l1 (ns.map PyData.int ++ [.int v]))) :=
  ⟨ns ++ [v], by simp, fun x hx => by
    rcases List.mem_append.mp hx with q | q
    · exact h x q
    · rw [List.mem_singleton.mp q]; exact hv, by simp; omega⟩
theorem DrawsP.mono {n m : Nat} {S : Slot} (h : DrawsP n S) (hn : n ≤ m) : DrawsP m S := by
  obtain ⟨ns, a, b, c⟩ := h
  exact ⟨ns, a, b, by omega⟩
def inF : Gm → R O := (sIf (eT (e2 dGt (eVar 5) (eC (.int 0))))
        (sSeq (sApp 2 (e2 dMod (eCB dIntC (aCons (eVar 5) aNil)) (eC (.int 1009))))
          (sSet 5 (xFr (e2 dDiv (eVar 5) (eC (.int 1009))))))
        sNext)
theorem inF_ok {a b d e g x : Slot} {n : Nat} {num : Int} (hn : n < 16777215) (hd : DrawsP n d) (h0 : 0 ≤ num) : ∃ d' num', inF [a, b, d, e, g, .fr (.int num), x] = .ok (.nx [a, b, d', e, g, .fr (.int num'), x]) ∧ DrawsP (n + 1) d' ∧ 0 ≤ num' := by
  obtain ⟨ns, rfl, hp, hl⟩ := hd
  have hl' : ns.length < 16777216 := by omega
  by_cases h : 0 < num
  · refine ⟨_, num.fdiv 1009, ?_, draws_add hp hl (fmod_lt (a := num) (b := 1009) (by decide)).1, fdiv_nn h0 (by decide)⟩
    have m1 : dMod (.int num) (.int 1009) = .ok (.int (num.fmod 1009)) := dMod_ok (by decide)
    have m2 : dDiv (.int num) (.int 1009) = .ok (.int (num.fdiv 1009)) := dDiv_ok (by decide) (by decide)
    simp [inF, h, hl', m1, m2]
  · refine ⟨_, num, ?_, ⟨ns, rfl, hp, by omega⟩, h0⟩
    simp [inF, h]
def outF : Gm → R O := (sSeq (sSet 5 (xFr (eCB dAbs (aCons (eVar 4) aNil))))
    (sSeq (sSet 3 (xFr (e2 dMod (eCB dIntC (aCons (e2 dAdd (e2 dAdd (e2 dMul (eVar 3) (eC (.int 48271))) (eVar 5)) (eC (.int 11))) aNil)) (eC (.int 2147483647)))))
    (sIf (eT (e2 dGe (eVar 5) (e2 dPow (eC (.int 10)) (eC (.int 18)))))
    (sFor (iRange1 (eC (.int 60))) (.n 6) inF)
    (sApp 2 (e2 dMod (e2 dDiv (eCB dIntC (aCons (e2 dAdd (e2 dMul (eVar 3) (eC (.int 16807))) (eC (.int 5))) aNil)) (eC (.int 3))) (eC (.int 65521)))))))
theorem pow_ok : dPow (.int 10) (.int 18) = .ok (.int 1000000000000000000) := by
  unfold dPow
  refine (if_pos (And.intro (by decide) (And.intro (by decide) (by decide)))).trans ?_
  have : (10 : Int) ^ (18 : Int).toNat = 1000000000000000000 := by decide +kernel
  rw [this]
def LoopP (a b : Slot) (k : Nat) (Γ : Gm) : Prop := ∃ d, ∃ s : Int, ∃ e g h, Γ = [a, b, d, .fr (.int s), e, g, h] ∧ DrawsP (60 * k) d
theorem outF_ok {a b : Slot} {k : Nat} {Γ : Gm} {cell : Int} (hk : k < 100000) (h : LoopP a b k Γ) : ∃ Γ1 Γ2, asgn (.n 4) (.int cell) Γ = .ok Γ1 ∧ outF Γ1 = .ok (.nx Γ2) ∧ LoopP a b (k + 1) Γ2 := by
  obtain ⟨d, s, e, g, hh, rfl, hd⟩ := h
  refine ⟨[a, b, d, .fr (.int s), .fr (.int cell), g, hh], ?_⟩
  have a0 : 0 ≤ (if cell < 0 then -cell else cell) := by split <;> omega
  have ab : dAbs [.int cell] = .ok (.int (if cell < 0 then -cell else cell)) := rfl
  generalize (if cell < 0 then -cell else cell) = num at a0 ab
  have m0 : dMul (.int s) (.int 48271) = .ok (.int (s * 48271)) := dMul_ok (by decide) (by decide)
  have m1 : dMod (.int (s * 48271 + num + 11)) (.int 2147483647) = .ok (.int ((s * 48271 + num + 11).fmod 2147483647)) := dMod_ok (by decide)
  generalize (s * 48271 + num + 11).fmod 2147483647 = s' at m1
  have m2 : dMul (.int s') (.int 16807) = .ok (.int (s' * 16807)) := dMul_ok (by decide) (by decide)
  have m3 : dDiv (.int (s' * 16807 + 5)) (.int 3) = .ok (.int ((s' * 16807 + 5).fdiv 3)) := dDiv_ok (by decide) (by decide)
  generalize (s' * 16807 + 5).fdiv 3 = t at m3
  have m4 : dMod (.int t) (.int 65521) = .ok (.int (t.fmod 65521)) := dMod_ok (by decide)
  have m5 : 0 ≤ t.fmod 65521 := (fmod_lt (by decide)).1
  have er : rangeK (.int 60) = .ok ((List.range 60).map fun i => .int (i : Nat)) := rangeK_ok (n := 60) (by decide)
  by_cases hb : 1000000000000000000 ≤ num
  · have hl : ∃ Γ', forLoop (.n 6) inF ((List.range 60).map fun i => .int (i : Nat)) [a, b, d, .fr (.int s'), .fr (.int cell), .fr (.int num), hh] = .ok (.nx Γ') ∧ (∃ d', ∃ num' : Int, ∃ h', Γ' = [a, b, d', .fr (.int s'), .fr (.int cell), .fr (.int num'), h'] ∧ DrawsP (60 * k + 60) d' ∧ 0 ≤ num') := by
      have := for_cnt (T := .n 6) (F := inF) (m := 60) (P := fun j Γ' => ∃ d', ∃ num' : Int, ∃ h', Γ' = [a, b, d', .fr (.int s'), .fr (.int cell), .fr (.int num'), h'] ∧ DrawsP (60 * k + j) d' ∧ 0 ≤ num') (ds := (List.range 60).map fun i => .int (i : Nat)) (k := 0) (Γ := [a, b, d, .fr (.int s'), .fr (.int cell), .fr (.int num), hh]) (by simp)
        (fun dd hdd j Γ hj hP => by
          obtain ⟨d', num', h', rfl, q1, q2⟩ := hP
          obtain ⟨d2, n2, q3, q4, q5⟩ := inF_ok (x := .fr dd) (a := a) (b := b) (e := .fr (.int s')) (g := .fr (.int cell)) (n := 60 * k + j) (by omega) q1 q2
          exact ⟨_, _, rfl, q3, d2, n2, _, rfl, q4, q5⟩) ⟨d, num, hh, rfl, hd, a0⟩
      rw [List.length_map, List.length_range, Nat.zero_add] at this
      exact this
    obtain ⟨Γ', e1, d', num', h', rfl, q1, q2⟩ := hl
    refine ⟨[a, b, d', .fr (.int s'), .fr (.int cell), .fr (.int num'), h'], by simp, ?_, ⟨_, _, _, _, _, rfl, by rw [Nat.mul_add, Nat.mul_one]; exact q1⟩⟩
    simp [outF, ab, m0, m1, pow_ok, hb, er, e1]
  · obtain ⟨ns, rfl, hp, hl⟩ := hd
    have hl' : ns.length < 16777216 := by omega
    refine ⟨[a, b, .ow (.l1 (ns.map PyData.int ++ [.int (t.fmod 65521)])), .fr (.int s'), .fr (.int cell), .fr (.int num), hh], by simp, ?_, ⟨_, _, _, _, _, rfl, (draws_add hp hl m5).mono (by omega)⟩⟩
    simp [outF, ab, m0, m1, pow_ok, hb, m2, m3, m4, hl']
def secF : Gm → R O := (sIf (eT (e2 dLt (fBor (eCB dLen (aCons (eVar 2) aNil))) (eVar 1)))
    (sSeq (sSet 3 (xFr (e2 dMod (eCB dIntC (aCons (e2 dAdd (e2 dAdd (e2 dMul (eVar 3) (eC (.int 69621))) (eVar 6)) (eC (.int 1))) aNil)) (eC (.int 2147483647)))))
      (sApp 2 (e2 dMod (e2 dDiv (eCB dIntC (aCons (eVar 3) aNil)) (eC (.int 7))) (eC (.int 65521)))))
    sNext)
def SecP (k : Nat) (Γ : Gm) : Prop := ∃ a, ∃ ns : List Int, ∃ s : Int, ∃ e g h, Γ = [a, .fr (.int 300), .ow (.l1 (ns.map PyData.int)), .fr (.int s), e, g, h] ∧ (∀ v ∈ ns, 0 ≤ v) ∧ ns.length ≤ 4000 + k ∧ k ≤ ns.length
theorem secF_ok {k : Nat} {Γ : Gm} {i : Int} (hk : k < 300) (h : SecP k Γ) : ∃ Γ1 Γ2, asgn (.n 6) (.int i) Γ = .ok Γ1 ∧ secF Γ1 = .ok (.nx Γ2) ∧ SecP (k + 1) Γ2 := by
  obtain ⟨a, ns, s, e, g, hh, rfl, hp, h1, h2⟩ := h
  refine ⟨[a, .fr (.int 300), .ow (.l1 (ns.map PyData.int)), .fr (.int s), e, g, .fr (.int i)], ?_⟩
  have im : imm (.int (ns.length : Nat)) = true := rfl
  by_cases hl : (ns.length : Int) < 300
  · have m0 : dMul (.int s) (.int 69621) = .ok (.int (s * 69621)) := dMul_ok (by decide) (by decide)
    have m1 : dMod (.int (s * 69621 + i + 1)) (.int 2147483647) = .ok (.int ((s * 69621 + i + 1).fmod 2147483647)) := dMod_ok (by decide)
    generalize (s * 69621 + i + 1).fmod 2147483647 = s' at m1
    have m3 : dDiv (.int s') (.int 7) = .ok (.int (s'.fdiv 7)) := dDiv_ok (by decide) (by decide)
    generalize s'.fdiv 7 = t at m3
    have m4 : dMod (.int t) (.int 65521) = .ok (.int (t.fmod 65521)) := dMod_ok (by decide)
    have m5 : 0 ≤ t.fmod 65521 := (fmod_lt (by decide)).1
    have hl' : ns.length < 16777216 := by omega
    refine ⟨[a, .fr (.int 300), .ow (.l1 ((ns ++ [t.fmod 65521]).map PyData.int)), .fr (.int s'), e, g, .fr (.int i)], by simp, ?_, ⟨_, _, _, _, _, _, rfl, fun x hx => ?_, by simp; omega, by simp; omega⟩⟩
    · simp [secF, im, hl, m0, m1, m3, m4, hl']
    · rcases List.mem_append.mp hx with q | q
      · exact hp x q
      · rw [List.mem_singleton.mp q]; exact m5
  · refine ⟨[a, .fr (.int 300), .ow (.l1 (ns.map PyData.int)), .fr (.int s), e, g, .fr (.int i)], by simp, ?_, ⟨_, _, _, _, _, _, rfl, hp, by omega, by omega⟩⟩
    simp [secF, im, hl]
theorem ev_law_draws (script : List Int) : ∃ ns : List Int, phi__law_draws [.list (script.map PyData.int), .int 300] = .ok (intsD ns) ∧ ns.length = 300 ∧ ∀ v ∈ ns, 0 ≤ v := by
  have eb : b__law_draws = sSeq (sSet 2 (xL (eLst aNil))) (sSeq (sSet 3 (xFr (eC (.int 7)))) (sSeq (sFor (iSeqD (eFr (lSl (eVar 0) oNone (oSome (eC (.int 63)))))) (.n 4) outF) (sSeq (sFor (iRange1 (eVar 1)) (.n 6) secF) (sRet (eFr (lSl (eVar 2) oNone (oSome (eVar 1)))))))) := rfl
  have ec : cutD (script.map PyData.int) none (some 63) = (script.map PyData.int).take 63 := cut_hi (k := 63)
  obtain ⟨Γ1, e1, p1⟩ := for_cnt (T := .n 4) (F := outF) (m := 63) (P := LoopP (.fr (.list (script.map PyData.int))) (.fr (.int 300))) (ds := (script.map PyData.int).take 63) (k := 0) (Γ := [.fr (.list (script.map PyData.int)), .fr (.int 300), .ow (.l1 []), .fr (.int 7), .no, .no, .no])
    (by rw [List.length_take]; omega) (fun d hd k Γ hk hP => by
      obtain ⟨i, _, rfl⟩ := List.mem_map.mp (List.mem_of_mem_take hd)
      exact outF_ok (by omega) hP) ⟨_, _, _, _, _, rfl, ⟨[], rfl, by simp, by simp⟩⟩
  obtain ⟨d1, s1, x4, x5, x6, rfl, ns1, rfl, hp1, hl1⟩ := p1
  have hln : ((script.map PyData.int).take 63).length ≤ 63 := by rw [List.length_take]; omega
  obtain ⟨Γ2, e2, p2⟩ := for_cnt (T := .n 6) (F := secF) (m := 300) (P := SecP) (ds := (List.range 300).map fun i => .int (i : Nat)) (k := 0) (Γ := [.fr (.list (script.map PyData.int)), .fr (.int 300), .ow (.l1 (ns1.map PyData.int)), .fr (.int s1), x4, x5, x6])
    (by simp) (fun d hd k Γ hk hP => by
      obtain ⟨i, _, rfl⟩ := List.mem_map.mp hd
      exact secF_ok hk hP) ⟨_, _, _, _, _, _, rfl, hp1, by omega, by omega⟩
  rw [List.length_map, List.length_range, Nat.zero_add] at p2
  obtain ⟨a, ns, s, e, g, hh, rfl, hp, h1, h2⟩ := p2
  have er : rangeK (.int 300) = .ok ((List.range 300).map fun i => .int (i : Nat)) := rangeK_ok (n := 300) (by decide)
  have ec2 : cutD (ns.map PyData.int) none (some 300) = (ns.map PyData.int).take 300 := cut_hi (k := 300)
  have d1 : ∀ xs lo hi, dSlL (.list xs) lo hi = .ok (cutD xs lo hi) := fun _ _ _ => rfl
  refine ⟨ns.take 300, ?_, by rw [List.length_take]; omega, fun v hv => hp v (List.mem_of_mem_take hv)⟩
  unfold phi__law_draws intsD
  rw [List.map_take, eb]
  simp [d1, ec, e1, er, e2, ec2]
end DL

namespace DL
open PySem MF
theorem lc_exists {T : Tg} {c : Gm → R Bool} {e : Gm → R D} {Γ : Gm} {P : Nat → Prop} : ∀ {ds : List D}, (∀ d ∈ ds, ∃ s, P s ∧ lcTurn T c e Γ d = .ok [sgn s]) → ∃ r : Row, lcLoop T c e Γ ds = .ok (r.map sgn) ∧ r.length = ds.length ∧ ∀ s ∈ r, P s
  | [], _ => ⟨[], rfl, rfl, by simp⟩
  | d :: ds, h => by
    obtain ⟨s, hs, e1⟩ := h d List.mem_cons_self
    obtain ⟨r, e2, hl, hr⟩ := lc_exists (ds := ds) fun x hx => h x (List.mem_cons_of_mem _ hx)
    refine ⟨s :: r, ?_, by simp [hl], fun x hx => ?_⟩
    · rw [lcLoop, e1, R.bind_ok, e2]
      rfl
    · rcases List.mem_cons.mp hx with q | q
      · rw [q]; exact hs
      · exact hr x q
def textR : Row := [46, 46, 92, 47, 76, 82, 76, 82, 88, 46, 35, 76, 82]
theorem text_eq : PyData.str "..\\/LRLRX.#LR" = rowD textR := by rfl
theorem text_get {i : Int} (h0 : 0 ≤ i) (h1 : i < 13) : ∃ s, okSign s ∧ dIx (.str "..\\/LRLRX.#LR") (.int i) = .ok (sgn s) := by
  have hl : i.toNat < textR.length := by show i.toNat < 13; omega
  have ok : ∀ s ∈ textR, okSign s := by decide
  refine ⟨textR[i.toNat], ok _ (List.getElem_mem _), ?_⟩
  rw [text_eq]
  have := dIx_s (r := textR) (c := i.toNat) (s := textR[i.toNat]) (List.getElem?_eq_getElem hl) (by decide)
  have e : ((i.toNat : Nat) : Int) = i := by omega
  rw [e] at this
  exact this
theorem dLen_ints (ns : List Int) : dLen [intsD ns] = .ok (.int ns.length) := by
  show R.ok (PyData.int ((ns.map PyData.int).length : Nat)) = _
  rw [List.length_map]
def cellE : Gm → R D := (e2 dIx (eC (.str "..\\/LRLRX.#LR")) (e2 dMod (e2 dDiv (eCB dIntC (aCons (e2 dIx (eVar 0) (e2 dMod (e2 dAdd (e2 dMul (eVar 4) (eVar 2)) (eVar 5)) (eCB dLen (aCons (eVar 0) aNil)))) aNil)) (e2 dAdd (eC (.int 1)) (eVar 4))) (eC (.int 13))))
theorem cell_ok {ns : List Int} (h : ∀ v ∈ ns, 0 ≤ v) (hl : 0 < ns.length) {W row col : Nat} (hW : W ≤ 16) (hrow : row ≤ 1000) {x1 x3 : Slot} : ∃ s, okSign s ∧ cellE [.fr (intsD ns), x1, .fr (.int W), x3, .fr (.int row), .fr (.int col)] = .ok (sgn s) := by
  have m0 : dMul (.int row) (.int W) = .ok (.int ((row : Int) * W)) := dMul_ok (by omega) (by omega)
  have nl : (0 : Int) < ns.length := by omega
  have m1 : dMod (.int ((row : Int) * W + col)) (.int ns.length) = .ok (.int (((row : Int) * W + col).fmod ns.length)) := dMod_ok (by omega)
  obtain ⟨f0, f1⟩ := fmod_lt (a := (row : Int) * W + col) nl
  generalize ((row : Int) * W + col).fmod ns.length = i at m1 f0 f1
  obtain ⟨v, hv, d1⟩ := dIx_ints f0 f1
  have m2 : dDiv (.int v) (.int (1 + (row : Int))) = .ok (.int (v.fdiv (1 + row))) := dDiv_ok (by omega) (by omega)
  generalize v.fdiv (1 + (row : Int)) = u at m2
  have m3 : dMod (.int u) (.int 13) = .ok (.int (u.fmod 13)) := dMod_ok (by decide)
  obtain ⟨g0, g1⟩ := fmod_lt (a := u) (b := 13) (by decide)
  generalize u.fmod 13 = j at m3 g0 g1
  obtain ⟨s, hs, d2⟩ := text_get g0 g1
  exact ⟨s, hs, by simp [cellE, m0, m1, dLen_ints, d1, m2, m3, d2]⟩
def boardF : Gm → R O := (sApp 3 (eJoin (eC (.str "")) (eFr (eLc (iRange1 (eVar 2)) (.n 5) cYes cellE [5]))))
theorem ev_law_board {ns : List Int} (h : ∀ v ∈ ns, 0 ≤ v) (hl : 0 < ns.length) {H W : Nat} (h1 : 1 ≤ H) (h2 : H ≤ 16) (w1 : 1 ≤ W) (w2 : W ≤ 16) : ∃ b, phi__law_board [intsD ns, .int H, .int W] = .ok (bD b) ∧ OkB W b := by
  have eb : b__law_board = sSeq (sSet 3 (xL (eLst aNil))) (sSeq (sFor (iRange1 (eVar 1)) (.n 4) boardF) (sRet (eCB dTuple (aCons (eVar 3) aNil)))) := rfl
  have erH : rangeK (.int (H : Nat)) = .ok ((List.range H).map fun i => .int (i : Nat)) := rangeK_ok (by omega)
  have erW : rangeK (.int (W : Nat)) = .ok ((List.range W).map fun i => .int (i : Nat)) := rangeK_ok (by omega)
  obtain ⟨Γ1, e1, p1⟩ := for_cnt (T := .n 4) (F := boardF) (m := H) (P := fun k Γ => ∃ rows : List Row, ∃ y z, Γ = [.fr (intsD ns), .fr (.int H), .fr (.int W), .ow (.l1 (rows.map rowD)), y, z] ∧ okRows W rows ∧ rows.length = k) (ds := (List.range H).map fun i => .int (i : Nat)) (k := 0) (Γ := [.fr (intsD ns), .fr (.int H), .fr (.int W), .ow (.l1 []), .no, .no])
    (by simp) (fun d hd k Γ hk hP => by
      obtain ⟨row, hrow, rfl⟩ := List.mem_map.mp hd
      have hrow := List.mem_range.mp hrow
      obtain ⟨rows, y, z, rfl, ok, hlen⟩ := hP
      obtain ⟨r, e2, hr1, hr2⟩ := lc_exists (T := .n 5) (c := cYes) (e := cellE) (Γ := [.fr (intsD ns), .fr (.int H), .fr (.int W), .ow (.l1 (rows.map rowD)), .fr (.int row), .no]) (P := okSign) (ds := (List.range W).map fun i => .int (i : Nat)) fun d hd => by
        obtain ⟨col, _, rfl⟩ := List.mem_map.mp hd
        obtain ⟨s, hs, e3⟩ := cell_ok h hl (W := W) (row := row) (col := col) (x1 := .fr (.int H)) (x3 := .ow (.l1 (rows.map rowD))) w2 (by omega)
        exact ⟨s, hs, by simp [e3]⟩
      rw [List.length_map, List.length_range] at hr1
      have hlr : r.length ≤ 16777216 := by omega
      have hll : rows.length < 16777216 := by omega
      refine ⟨[.fr (intsD ns), .fr (.int H), .fr (.int W), .ow (.l1 (rows.map rowD)), .fr (.int row), z], [.fr (intsD ns), .fr (.int H), .fr (.int W), .ow (.l1 ((rows ++ [r]).map rowD)), .fr (.int row), z], by simp, ?_, ⟨rows ++ [r], _, _, rfl, fun q hq => ?_, by simp [hlen]⟩⟩
      · simp [boardF, erW, e2, hlr, join_sgn hlr, hll]
      · rcases List.mem_append.mp hq with q' | q'
        · exact ok q q'
        · rw [List.mem_singleton.mp q']; exact ⟨hr1, hr2⟩) ⟨[], _, _, rfl, (fun _ hq => by cases hq), rfl⟩
  rw [List.length_map, List.length_range, Nat.zero_add] at p1
  obtain ⟨rows, y, z, rfl, ok, hlen⟩ := p1
  refine ⟨rows, ?_, ⟨by omega, by omega, w1, w2, ok⟩⟩
  unfold phi__law_board
  rw [eb]
  simp [erH, e1]
  rfl
/-! ### equal data -/
mutual
theorem eqv_refl : ∀ d : D, d.canLay0 = true → PyData.eqv d d = true
  | .none, _ => by simp [PyData.eqv]
  | .bool b, _ => by simp [PyData.eqv]
  | .int i, _ => by simp [PyData.eqv]
  | .str x, _ => by simp [PyData.eqv]
  | .list xs, h => by
    rw [PyData.eqv]
    exact eqvs_refl xs (by simpa [PyData.canLay0] using h)
  | .tuple xs, h => by
    rw [PyData.eqv]
    exact eqvs_refl xs (by simpa [PyData.canLay0] using h)
  | .dict _, h => by simp [PyData.canLay0] at h
theorem eqvs_refl : ∀ xs : List D, PyData.canLayAll0 xs = true → PyData.eqvAll xs xs = true
  | [], _ => by simp [PyData.eqvAll]
  | x :: xs, h => by
    simp [PyData.canLayAll0] at h
    rw [PyData.eqvAll, eqv_refl x h.1, eqvs_refl xs h.2]
    rfl
end
def Good (n : Nat) (d : D) : Prop := d.canLay0 = true ∧ d.depth ≤ n
theorem Good.shaped {n : Nat} {d : D} (h : Good n d) (hn : n ≤ 64) : SeqAt.shaped d = true := by
  unfold SeqAt.shaped
  rw [h.1, Bool.true_and]
  exact decide_eq_true (Nat.le_trans h.2 hn)
theorem ne_same {n : Nat} {d : D} (h : Good n d) (hn : n ≤ 64) : dNe d d = .ok (.bool false) := by
  unfold dNe
  rw [if_pos ⟨h.shaped hn, h.shaped hn⟩, eqv_refl d h.1]
  rfl
theorem goods : ∀ {xs : List D} {n : Nat}, (∀ x ∈ xs, Good n x) → PyData.canLayAll0 xs = true ∧ PyData.depthAll xs ≤ n
  | [], _, _ => ⟨by simp [PyData.canLayAll0], by simp [PyData.depthAll]⟩
  | x :: xs, n, h => by
    obtain ⟨a, b⟩ := h x List.mem_cons_self
    obtain ⟨c, d⟩ := goods (xs := xs) fun y hy => h y (List.mem_cons_of_mem _ hy)
    refine ⟨by rw [PyData.canLayAll0, a, c]; rfl, ?_⟩
    rw [PyData.depthAll]
    omega
theorem Good.tup {xs : List D} {n : Nat} (h : ∀ x ∈ xs, Good n x) : Good (n + 1) (.tuple xs) := by
  obtain ⟨a, b⟩ := goods h
  exact ⟨by rw [PyData.canLay0]; exact a, by rw [PyData.depth]; omega⟩
theorem Good.lst {xs : List D} {n : Nat} (h : ∀ x ∈ xs, Good n x) : Good (n + 1) (.list xs) := by
  obtain ⟨a, b⟩ := goods h
  exact ⟨by rw [PyData.canLay0]; exact a, by rw [PyData.depth]; omega⟩
theorem Good.int (i : Int) : Good 0 (.int i) := ⟨by simp [PyData.canLay0], by simp [PyData.depth]⟩
theorem Good.strOf {x : Str} (h : PyData.strOk x = true) : Good 0 (.str x) := ⟨by simp [PyData.canLay0, h], by simp [PyData.depth]⟩
theorem Good.mono {n m : Nat} {d : D} (h : Good n d) (hn : n ≤ m) : Good m d := ⟨h.1, Nat.le_trans h.2 hn⟩
theorem good_row {W : Nat} {r : Row} (h : okRow W r) : Good 0 (rowD r) := Good.strOf (by
  unfold PyData.strOk
  rw [← Array.all_toList, List.all_eq_true]
  intro x hx
  exact decide_eq_true (okSign_lt (h.2 x hx)))
theorem good_b {W : Nat} {b : List Row} (h : okRows W b) : Good 1 (bD b) := Good.tup fun x hx => by
  obtain ⟨r, hr, rfl⟩ := List.mem_map.mp hx
  exact good_row (h r hr)
theorem good_end (e : MF.End) : Good 1 (endD e) := by
  cases e <;> refine Good.tup fun x hx => ?_
  all_goals
    simp at hx
    rcases hx with rfl | rfl | rfl <;> first | exact Good.int _ | exact Good.strOf (by decide +kernel)
theorem good_ends (es : List MF.End) : ∀ x ∈ es.map endD, Good 1 x := fun x hx => by
  obtain ⟨e, _, rfl⟩ := List.mem_map.mp hx
  exact good_end e
/-! ### sorted -/
theorem toks_end {a b : MF.End} (h : PySem.W.keyToks (endD a) = PySem.W.keyToks (endD b)) : a = b := by
  cases a <;> cases b <;> simp [endD, PySem.W.keyToks, PySem.W.keyToksAll] at h ⊢ <;> first | omega | (exact absurd h.1 (by decide +kernel)) | (exact absurd h (by decide +kernel))
theorem sort_perm {xs ys : List D} (p : xs.Perm ys) (inj : ∀ a ∈ xs, ∀ b ∈ xs, PySem.W.keyToks a = PySem.W.keyToks b → a = b) : xs.mergeSort dLeD = ys.mergeSort dLeD := by
  have T : PySem.W.TotalLe dLeD := PySem.W.sortLe_total _ _ _
  have p1 : (xs.mergeSort dLeD).Perm xs := List.mergeSort_perm xs dLeD
  have p2 : (ys.mergeSort dLeD).Perm ys := List.mergeSort_perm ys dLeD
  refine List.Perm.eq_of_pairwise (le := fun a b => dLeD a b = true) (fun a b ha hb h1 h2 => ?_) (PySem.W.sort_pairwise T xs) (PySem.W.sort_pairwise T ys) (p1.trans (p.trans p2.symm))
  refine inj a (p1.mem_iff.mp ha) b (p.mem_iff.mpr (p2.mem_iff.mp hb)) ?_
  have h1' : (!PyProof.Rows.lexLt PyProof.Rows.itemOrd (PySem.W.keyToks b) (PySem.W.keyToks a)) = true := h1
  have h2' : (!PyProof.Rows.lexLt PyProof.Rows.itemOrd (PySem.W.keyToks a) (PySem.W.keyToks b)) = true := h2
  exact PyProof.Rows.lex_total _ _ (by simpa using h2') (by simpa using h1')
end DL

namespace DL
open PySem MF
def L1 : Gm → R O := (sAsg (.t [(.n 3), (.n 4)]) (eTup (aCons (e2 dAdd (eC (.int 2)) (e2 dMod (eCB dIntC (aCons (e2 dIx (eVar 1) (eVar 2)) aNil)) (eC (.int 6)))) (aCons (e2 dAdd (eC (.int 2)) (e2 dMod (eCB dIntC (aCons (e2 dIx (eVar 1) (e2 dAdd (eC (.int 10)) (eVar 2))) aNil)) (eC (.int 5)))) aNil))))
def L2 : Gm → R O := (sSet 5 (xFr (eCall 3 phi__law_board (aCons (eFr (lSl (eVar 1) (oSome (e2 dAdd (eC (.int 20)) (e2 dMul (eC (.int 30)) (eVar 2)))) oNone)) (aCons (eVar 3) (aCons (eVar 4) aNil))))))
def L3 : Gm → R O := (sSet 6 (xFr (eCB dTuple (aCons (eFr (eLc (iRange1 (e2 dAdd (eC (.int 4)) (e2 dMod (eCB dIntC (aCons (e2 dIx (eVar 1) (e2 dAdd (eC (.int 210)) (eVar 2))) aNil)) (eC (.int 12))))) (.n 7) cYes (e2 dMod (eCB dIntC (aCons (e2 dIx (eVar 1) (e2 dAdd (eC (.int 220)) (e2 dMod (e2 dAdd (e2 dMul (eC (.int 3)) (eVar 2)) (eVar 7)) (eC (.int 70))))) aNil)) (eVar 4)) [7])) aNil))))
def L4 : Gm → R O := (sPar 8 9 (xFr (eFr (eLc (iSeqD (eVar 5)) (.n 21) cYes (eFr (lCB dList (aCons (eVar 21) aNil))) [21]))) (xL (eLst aNil)))
def L5 : Gm → R O := (sFor (iSeqD (eVar 6)) (.n 10) (sSeq (sAsg (.t [(.n 8), (.n 11)]) (eCall 2 phi__law_fall (aCons (eVar 8) (aCons (eVar 10) aNil)))) (sApp 9 (eVar 11))))
def L6 : Gm → R O := (sSet 12 (xFr (eCB dTuple (aCons (eFr (eLc (iSeqD (eVar 8)) (.n 21) cYes (eJoin (eC (.str "")) (eVar 21)) [21])) aNil))))
def L7 : Gm → R O := (sIf (fOr (eT (e2 dNe (eCall 2 phi_drop_all (aCons (eVar 5) (aCons (eVar 6) aNil))) (eTup (aCons (eVar 12) (aCons (fBor (eCB dTuple (aCons (eVar 9) aNil))) aNil))))) (eT (e2 dNe (eCall 2 phi_drop (aCons (eVar 5) (aCons (e2 dIx (eVar 6) (eC (.int 0))) aNil))) (e2 dAdd (eSl (eCall 2 phi_drop_all (aCons (eVar 5) (aCons (eSl (eVar 6) oNone (oSome (eC (.int 1)))) aNil))) oNone (oSome (eC (.int 1)))) (eTup (aCons (fBor (e2 dIx (eVar 9) (eC (.int 0)))) aNil)))))) (sRet (eC (.bool false))) sNext)
def L8 : Gm → R O := (sPar 13 14 (xFr (eFr (lCB dList (aCons (eVar 6) aNil)))) (xFr (eFr (eLst aNil))))
def L9 : Gm → R O := (sFor (iRange1 (eCB dLen (aCons (eVar 6) aNil))) (.n 7) (sSeq (sSet 15 (xFr (e2 dMod (eCB dIntC (aCons (e2 dIx (eVar 1) (e2 dMod (e2 dAdd (e2 dMul (eC (.int 5)) (eVar 2)) (e2 dMul (eC (.int 11)) (eVar 7))) (eC (.int 300)))) aNil)) (eCB dLen (aCons (eVar 13) aNil))))) (sPar 14 13 (xFr (eFr (l2 dCat (eVar 14) (eFr (eLst (aCons (e2 dIx (eVar 13) (eVar 15)) aNil)))))) (xFr (eFr (l2 dCat (eFr (lSl (eVar 13) oNone (oSome (eVar 15)))) (eFr (lSl (eVar 13) (oSome (e2 dAdd (eVar 15) (eC (.int 1)))) oNone))))))))
def L10 : Gm → R O := (sFor (iSeqD (eTup (aCons (eCB dTuple (aCons (eVar 14) aNil)) (aCons (e1 dRevT (eVar 6)) (aCons (eCB dTuple (aCons (eFr (lCB dSorted (aCons (eVar 6) aNil))) aNil)) aNil))))) (.n 16) (sSeq (sSet 17 (xFr (eCall 2 phi_drop_all (aCons (eVar 5) (aCons (eVar 16) aNil))))) (sIf (fOr (eT (e2 dNe (e2 dIx (eVar 17) (eC (.int 0))) (eVar 12))) (fBorT (eT (e2 dNe (eFr (lCB dSorted (aCons (e2 dIx (eVar 17) (eC (.int 1))) aNil))) (eFr (lCB dSorted (aCons (eVar 9) aNil))))))) (sRet (eC (.bool false))) sNext)))
def L11 : Gm → R O := (sSet 18 (xFr (e2 dMod (eCB dIntC (aCons (e2 dIx (eVar 1) (e2 dAdd (eC (.int 290)) (eVar 2))) aNil)) (e2 dAdd (eCB dLen (aCons (eVar 6) aNil)) (eC (.int 1))))))
def L12 : Gm → R O := (sSet 19 (xFr (eCall 2 phi_drop_all (aCons (eVar 5) (aCons (eSl (eVar 6) oNone (oSome (eVar 18))) aNil)))))
def L13 : Gm → R O := (sSet 20 (xFr (eCall 2 phi_drop_all (aCons (e2 dIx (eVar 19) (eC (.int 0))) (aCons (eSl (eVar 6) (oSome (eVar 18)) oNone) aNil)))))
def L14 : Gm → R O := (sIf (fOr (eT (e2 dNe (e2 dIx (eVar 20) (eC (.int 0))) (eVar 12))) (eT (e2 dNe (e2 dAdd (e2 dIx (eVar 19) (eC (.int 1))) (e2 dIx (eVar 20) (eC (.int 1)))) (fBor (eCB dTuple (aCons (eVar 9) aNil)))))) (sRet (eC (.bool false))) sNext)
def lawA : Gm → R O := (sSeq (sAsg (.t [(.n 8), (.n 11)]) (eCall 2 phi__law_fall (aCons (eVar 8) (aCons (eVar 10) aNil)))) (sApp 9 (eVar 11)))
def shufF : Gm → R O := (sSeq (sSet 15 (xFr (e2 dMod (eCB dIntC (aCons (e2 dIx (eVar 1) (e2 dMod (e2 dAdd (e2 dMul (eC (.int 5)) (eVar 2)) (e2 dMul (eC (.int 11)) (eVar 7))) (eC (.int 300)))) aNil)) (eCB dLen (aCons (eVar 13) aNil))))) (sPar 14 13 (xFr (eFr (l2 dCat (eVar 14) (eFr (eLst (aCons (e2 dIx (eVar 13) (eVar 15)) aNil)))))) (xFr (eFr (l2 dCat (eFr (lSl (eVar 13) oNone (oSome (eVar 15)))) (eFr (lSl (eVar 13) (oSome (e2 dAdd (eVar 15) (eC (.int 1)))) oNone)))))))
def ordF : Gm → R O := (sSeq (sSet 17 (xFr (eCall 2 phi_drop_all (aCons (eVar 5) (aCons (eVar 16) aNil))))) (sIf (fOr (eT (e2 dNe (e2 dIx (eVar 17) (eC (.int 0))) (eVar 12))) (fBorT (eT (e2 dNe (eFr (lCB dSorted (aCons (e2 dIx (eVar 17) (eC (.int 1))) aNil))) (eFr (lCB dSorted (aCons (eVar 9) aNil))))))) (sRet (eC (.bool false))) sNext))
def turnF : Gm → R O := (sSeq L1 (sSeq L2 (sSeq L3 (sSeq L4 (sSeq L5 (sSeq L6 (sSeq L7 (sSeq L8 (sSeq L9 (sSeq L10 (sSeq L11 (sSeq L12 (sSeq L13 L14)))))))))))))
theorem law_eq : b_law = sSeq (sSet 1 (xFr (eCall 2 phi__law_draws (aCons (eVar 0) (aCons (eC (.int 300)) aNil))))) (sSeq (sFor (iRange1 (eC (.int 6))) (.n 2) turnF) (sRet (eC (.bool true)))) := rfl
theorem L5_eq : L5 = sFor (iSeqD (eVar 6)) (.n 10) lawA := rfl
theorem L9_eq : L9 = sFor (iRange1 (eCB dLen (aCons (eVar 6) aNil))) (.n 7) shufF := rfl
theorem L10_eq : L10 = sFor (iSeqD (eTup (aCons (eCB dTuple (aCons (eVar 14) aNil)) (aCons (e1 dRevT (eVar 6)) (aCons (eCB dTuple (aCons (eFr (lCB dSorted (aCons (eVar 6) aNil))) aNil)) aNil))))) (.n 16) ordF := rfl

theorem of_bounds {z : Int} {a b : Nat} (h0 : (a : Int) ≤ z) (h1 : z < b) : ∃ n : Nat, z = n ∧ a ≤ n ∧ n < b := ⟨z.toNat, by omega, by omega, by omega⟩
theorem imm_ints (i : Int) : imm (.int i) = true := rfl
theorem add3 (a b : Nat) : dAdd (.int (a : Nat)) (.int (b : Nat)) = .ok (.int ((a + b : Nat) : Int)) := rfl
theorem colsD_get {cs : List Nat} {i c : Nat} (h : cs[i]? = some c) : dIx (colsD cs) (.int (i : Nat)) = .ok (.int (c : Nat)) := dIx_t (by rw [List.getElem?_map, h]; rfl)
theorem dLen_c (cs : List Nat) : dLen [colsD cs] = .ok (.int cs.length) := by
  show R.ok (PyData.int ((cs.map fun c => PyData.int (c : Nat)).length : Nat)) = _
  rw [List.length_map]
theorem sl_t {xs : List D} {lo hi : Option Int} : dSl (.tuple xs) lo hi = .ok (.tuple (cutD xs lo hi)) := rfl
theorem sl_l {xs : List D} {lo hi : Option Int} : dSlL (.list xs) lo hi = .ok (cutD xs lo hi) := rfl
theorem cols_hi {cs : List Nat} {k : Nat} : dSl (colsD cs) none (some (k : Int)) = .ok (colsD (cs.take k)) := by
  unfold colsD
  rw [sl_t, cut_hi, List.map_take]
theorem cols_lo {cs : List Nat} {k : Nat} : dSl (colsD cs) (some (k : Int)) none = .ok (colsD (cs.drop k)) := by
  unfold colsD
  rw [sl_t, cut_lo, List.map_drop]
theorem ints_lo {ns : List Int} {k : Nat} : dSlL (intsD ns) (some (k : Int)) none = .ok ((ns.drop k).map PyData.int) := by
  unfold intsD
  rw [sl_l, cut_lo, List.map_drop]
/-- a draw -/
theorem draw {ns : List Int} (hl : ns.length = 300) (h : ∀ v ∈ ns, 0 ≤ v) {i : Nat} (hi : i < 300) (m : Nat) (hm : 0 < m) : ∃ v : Int, dIx (intsD ns) (.int (i : Nat)) = .ok (.int v) ∧ ∃ n : Nat, dMod (.int v) (.int (m : Nat)) = .ok (.int (n : Nat)) ∧ n < m := by
  obtain ⟨v, _, e⟩ := dIx_ints (ns := ns) (i := (i : Nat)) (by omega) (by omega)
  refine ⟨v, e, ?_⟩
  have m1 : dMod (.int v) (.int (m : Nat)) = .ok (.int (v.fmod m)) := dMod_ok (by omega)
  obtain ⟨g0, g1⟩ := fmod_lt (a := v) (b := (m : Int)) (by omega)
  obtain ⟨n, e2, _, h2⟩ := of_bounds (a := 0) g0 g1
  exact ⟨n, by rw [m1, e2], h2⟩

theorem L1_ok {x0 x3 x4 x5 x6 x7 x8 x9 x10 x11 x12 x13 x14 x15 x16 x17 x18 x19 x20 x21 : Slot} {ns : List Int} {τ : Nat} (hl : ns.length = 300) (h : ∀ v ∈ ns, 0 ≤ v) (ht : τ < 6) : ∃ H W : Nat, 2 ≤ H ∧ H < 8 ∧ 2 ≤ W ∧ W < 7 ∧ L1 [x0, .fr (intsD ns), .fr (.int (τ : Nat)), x3, x4, x5, x6, x7, x8, x9, x10, x11, x12, x13, x14, x15, x16, x17, x18, x19, x20, x21] = .ok (.nx [x0, .fr (intsD ns), .fr (.int (τ : Nat)), .fr (.int (H : Nat)), .fr (.int (W : Nat)), x5, x6, x7, x8, x9, x10, x11, x12, x13, x14, x15, x16, x17, x18, x19, x20, x21]) := by
  obtain ⟨v, e1, n, e2, h2⟩ := draw hl h (i := τ) (by omega) 6 (by decide)
  obtain ⟨v', e3, n', e4, h4⟩ := draw hl h (i := 10 + τ) (by omega) 5 (by decide)
  have e2' : dMod (.int v) (.int 6) = .ok (.int (n : Nat)) := e2
  have e4' : dMod (.int v') (.int 5) = .ok (.int (n' : Nat)) := e4
  have e3' : dIx (intsD ns) (.int (10 + (τ : Int))) = .ok (.int v') := e3
  refine ⟨2 + n, 2 + n', by omega, by omega, by omega, by omega, ?_⟩
  simp [L1, e1, e2', e3', e4']
theorem L2_ok {x0 x5 x6 x7 x8 x9 x10 x11 x12 x13 x14 x15 x16 x17 x18 x19 x20 x21 : Slot} {ns : List Int} {τ H W : Nat} (hl : ns.length = 300) (h : ∀ v ∈ ns, 0 ≤ v) (ht : τ < 6) (h1 : 2 ≤ H) (h2 : H < 8) (w1 : 2 ≤ W) (w2 : W < 7) : ∃ b, OkB W b ∧ L2 [x0, .fr (intsD ns), .fr (.int (τ : Nat)), .fr (.int (H : Nat)), .fr (.int (W : Nat)), x5, x6, x7, x8, x9, x10, x11, x12, x13, x14, x15, x16, x17, x18, x19, x20, x21] = .ok (.nx [x0, .fr (intsD ns), .fr (.int (τ : Nat)), .fr (.int (H : Nat)), .fr (.int (W : Nat)), .fr (bD b), x6, x7, x8, x9, x10, x11, x12, x13, x14, x15, x16, x17, x18, x19, x20, x21]) := by
  have hd : ∀ v ∈ ns.drop (20 + 30 * τ), 0 ≤ v := fun v hv => h v (List.mem_of_mem_drop hv)
  obtain ⟨b, e, ok⟩ := ev_law_board hd (by rw [List.length_drop]; omega) (H := H) (W := W) (by omega) (by omega) (by omega) (by omega)
  have m0 : dMul (.int 30) (.int (τ : Nat)) = .ok (.int (30 * (τ : Int))) := dMul_ok (by omega) (by omega)
  have s0 : dSlL (intsD ns) (some (20 + 30 * (τ : Int))) none = .ok ((ns.drop (20 + 30 * τ)).map PyData.int) := by
    have := ints_lo (ns := ns) (k := 20 + 30 * τ)
    have ec : ((20 + 30 * τ : Nat) : Int) = 20 + 30 * (τ : Int) := by omega
    rw [ec] at this
    exact this
  have e' : phi__law_board [.list ((ns.drop (20 + 30 * τ)).map PyData.int), .int (H : Nat), .int (W : Nat)] = .ok (bD b) := e
  refine ⟨b, ok, ?_⟩
  generalize (ns.drop (20 + 30 * τ)).map PyData.int = zs at s0 e'
  generalize bD b = bb at e'
  simp [L2, m0, s0, e']
theorem lc_cols {T : Tg} {c : Gm → R Bool} {e : Gm → R D} {Γ : Gm} {P : Nat → Prop} : ∀ {ds : List D}, (∀ d ∈ ds, ∃ s : Nat, P s ∧ lcTurn T c e Γ d = .ok [.int (s : Nat)]) → ∃ r : List Nat, lcLoop T c e Γ ds = .ok (r.map fun c => .int (c : Nat)) ∧ r.length = ds.length ∧ ∀ s ∈ r, P s
  | [], _ => ⟨[], rfl, rfl, by simp⟩
  | d :: ds, h => by
    obtain ⟨s, hs, e1⟩ := h d List.mem_cons_self
    obtain ⟨r, e2, hl, hr⟩ := lc_cols (ds := ds) fun x hx => h x (List.mem_cons_of_mem _ hx)
    refine ⟨s :: r, ?_, by simp [hl], fun x hx => ?_⟩
    · rw [lcLoop, e1, R.bind_ok, e2]
      rfl
    · rcases List.mem_cons.mp hx with q | q
      · rw [q]; exact hs
      · exact hr x q
theorem L3_ok {x0 x3 x5 x6 x7 x8 x9 x10 x11 x12 x13 x14 x15 x16 x17 x18 x19 x20 x21 : Slot} {ns : List Int} {τ W : Nat} (hl : ns.length = 300) (h : ∀ v ∈ ns, 0 ≤ v) (ht : τ < 6) (w1 : 2 ≤ W) : ∃ cs : List Nat, (∀ c ∈ cs, c < W) ∧ 4 ≤ cs.length ∧ cs.length < 16 ∧ L3 [x0, .fr (intsD ns), .fr (.int (τ : Nat)), x3, .fr (.int (W : Nat)), x5, x6, x7, x8, x9, x10, x11, x12, x13, x14, x15, x16, x17, x18, x19, x20, x21] = .ok (.nx [x0, .fr (intsD ns), .fr (.int (τ : Nat)), x3, .fr (.int (W : Nat)), x5, .fr (colsD cs), x7, x8, x9, x10, x11, x12, x13, x14, x15, x16, x17, x18, x19, x20, x21]) := by
  obtain ⟨v, p1, n, p2, h2⟩ := draw hl h (i := 210 + τ) (by omega) 12 (by decide)
  have p1' : dIx (intsD ns) (.int (210 + (τ : Int))) = .ok (.int v) := p1
  have p2' : dMod (.int v) (.int 12) = .ok (.int (n : Nat)) := p2
  have m0 : dMul (.int 3) (.int (τ : Nat)) = .ok (.int (3 * (τ : Int))) := dMul_ok (by omega) (by omega)
  have er : rangeK (.int (4 + (n : Int))) = .ok ((List.range (4 + n)).map fun i => .int (i : Nat)) := rangeK_ok (n := 4 + n) (by omega)
  obtain ⟨cs, ec, hc1, hc2⟩ := lc_cols (T := .n 7) (c := cYes) (e := (e2 dMod (eCB dIntC (aCons (e2 dIx (eVar 1) (e2 dAdd (eC (.int 220)) (e2 dMod (e2 dAdd (e2 dMul (eC (.int 3)) (eVar 2)) (eVar 7)) (eC (.int 70))))) aNil)) (eVar 4))) (P := fun c => c < W) (ds := (List.range (4 + n)).map fun i => .int (i : Nat)) (Γ := [x0, .fr (intsD ns), .fr (.int (τ : Nat)), x3, .fr (.int (W : Nat)), x5, x6, .no, x8, x9, x10, x11, x12, x13, x14, x15, x16, x17, x18, x19, x20, x21]) fun d hd => by
    obtain ⟨k, hk, rfl⟩ := List.mem_map.mp hd
    have m1 : dMod (.int (3 * (τ : Int) + (k : Nat))) (.int 70) = .ok (.int ((3 * (τ : Int) + (k : Nat)).fmod 70)) := dMod_ok (by decide)
    obtain ⟨g0, g1⟩ := fmod_lt (a := 3 * (τ : Int) + (k : Nat)) (b := 70) (by decide)
    obtain ⟨q, eq, _, hq⟩ := of_bounds (a := 0) (b := 70) g0 g1
    rw [eq] at m1
    obtain ⟨v', e3, n', e4, h4⟩ := draw hl h (i := 220 + q) (by omega) W (by omega)
    have e3' : dIx (intsD ns) (.int (220 + (q : Int))) = .ok (.int v') := e3
    exact ⟨n', h4, by simp [m0, m1, e3', e4]⟩
  rw [List.length_map, List.length_range] at hc1
  have hl' : cs.length ≤ 16777216 := by omega
  refine ⟨cs, hc2, by omega, by omega, ?_⟩
  unfold colsD
  simp [L3, p1', p2', er, ec, hl']
theorem L4_ok {x0 x1 x2 x3 x4 x6 x7 x8 x9 x10 x11 x12 x13 x14 x15 x16 x17 x18 x19 x20 x21 : Slot} {b : List Row} {W : Nat} (hb : OkB W b) : L4 [x0, x1, x2, x3, x4, .fr (bD b), x6, x7, x8, x9, x10, x11, x12, x13, x14, x15, x16, x17, x18, x19, x20, x21] = .ok (.nx [x0, x1, x2, x3, x4, .fr (bD b), x6, x7, .fr (.list (gridD b)), .ow (.l1 []), x10, x11, x12, x13, x14, x15, x16, x17, x18, x19, x20, x21]) := by
  have k1 : lcLoop (.n 21) cYes (eFr (lCB dList (aCons (eVar 21) aNil))) [x0, x1, x2, x3, x4, .fr (bD b), x6, x7, x8, x9, x10, x11, x12, x13, x14, x15, x16, x17, x18, x19, x20, .no] (b.map rowD) = .ok (gridD b) := by
    refine lc_maps (g := fun r : Row => .list (r.map sgn)) fun r hr => ?_
    have hl : r.length ≤ 16777216 := by have := hb.len hr; have := hb.w2; omega
    simp [dList_r hl]
  have hl : (gridD b).length ≤ 16777216 := by have := hb.h2; unfold gridD; rw [List.length_map]; omega
  simp [L4, dItems_b, k1, hl]
theorem lawA_one {a0 a1 a2 a3 a4 a5 a6 a7 : Slot} {rest : List Slot} {g g' en : D} {es : List D} {c : Nat} {x11 : Slot} (e : phi__law_fall [g, .int (c : Nat)] = .ok (.tuple [g', en])) (hl : es.length < 16777216) :
    lawA (a0 :: a1 :: a2 :: a3 :: a4 :: a5 :: a6 :: a7 :: .fr g :: .ow (.l1 es) :: .fr (.int (c : Nat)) :: x11 :: rest) = .ok (.nx (a0 :: a1 :: a2 :: a3 :: a4 :: a5 :: a6 :: a7 :: .fr g' :: .ow (.l1 (es ++ [en])) :: .fr (.int (c : Nat)) :: .fr en :: rest)) := by
  simp [lawA, e, hl]
theorem lawA_loop {W : Nat} {a0 a1 a2 a3 a4 a5 a6 a7 : Slot} {rest : List Slot} : ∀ (cs : List Nat) (b : List Row) (es : List D) (x10 x11 : Slot), OkB W b → (∀ c ∈ cs, c < W) → es.length + cs.length < 16777216 →
    ∃ y10 y11, forLoop (.n 10) lawA (cs.map fun c => .int (c : Nat)) (a0 :: a1 :: a2 :: a3 :: a4 :: a5 :: a6 :: a7 :: .fr (.list (gridD b)) :: .ow (.l1 es) :: x10 :: x11 :: rest) =
      .ok (.nx (a0 :: a1 :: a2 :: a3 :: a4 :: a5 :: a6 :: a7 :: .fr (.list (gridD (alls W b cs).1)) :: .ow (.l1 (es ++ (alls W b cs).2.map endD)) :: y10 :: y11 :: rest))
  | [], b, es, x10, x11, h, hc, hl => ⟨x10, x11, by simp [forLoop, alls]⟩
  | c :: cs, b, es, x10, x11, h, hc, hl => by
    have e := ev_law_fall h (hc c List.mem_cons_self)
    rw [List.length_cons] at hl
    obtain ⟨y10, y11, ih⟩ := lawA_loop (W := W) (a0 := a0) (a1 := a1) (a2 := a2) (a3 := a3) (a4 := a4) (a5 := a5) (a6 := a6) (a7 := a7) (rest := rest) cs (MF.fall W b c).1 (es ++ [endD (MF.fall W b c).2]) (.fr (.int c)) (.fr (endD (MF.fall W b c).2)) (h.fall (hc c List.mem_cons_self)) (fun x hx => hc x (List.mem_cons_of_mem _ hx)) (by simp; omega)
    refine ⟨y10, y11, ?_⟩
    rw [List.map_cons, forLoop, asgn_n, R.bind_ok]
    simp only [List.set_cons_succ, List.set_cons_zero]
    rw [lawA_one e (by omega), R.bind_ok]
    dsimp only
    rw [ih]
    simp [alls]
theorem L5_ok {x0 x1 x2 x3 x4 x5 x7 x10 x11 x12 x13 x14 x15 x16 x17 x18 x19 x20 x21 : Slot} {W : Nat} {b : List Row} {cs : List Nat} (hb : OkB W b) (hc : ∀ c ∈ cs, c < W) (hl : cs.length < 16) : ∃ y10 y11, L5 [x0, x1, x2, x3, x4, x5, .fr (colsD cs), x7, .fr (.list (gridD b)), .ow (.l1 []), x10, x11, x12, x13, x14, x15, x16, x17, x18, x19, x20, x21] = .ok (.nx [x0, x1, x2, x3, x4, x5, .fr (colsD cs), x7, .fr (.list (gridD (alls W b cs).1)), .ow (.l1 ((alls W b cs).2.map endD)), y10, y11, x12, x13, x14, x15, x16, x17, x18, x19, x20, x21]) := by
  obtain ⟨y10, y11, e⟩ := lawA_loop (a0 := x0) (a1 := x1) (a2 := x2) (a3 := x3) (a4 := x4) (a5 := x5) (a6 := .fr (colsD cs)) (a7 := x7) (rest := [x12, x13, x14, x15, x16, x17, x18, x19, x20, x21]) cs b [] x10 x11 hb hc (by simp; omega)
  refine ⟨y10, y11, ?_⟩
  have i3 : dItems (colsD cs) = .ok (cs.map fun c => .int (c : Nat)) := rfl
  rw [L5_eq, ap_sFor, show iSeqD (eVar 6) [x0, x1, x2, x3, x4, x5, .fr (colsD cs), x7, .fr (.list (gridD b)), .ow (.l1 []), x10, x11, x12, x13, x14, x15, x16, x17, x18, x19, x20, x21] = .ok (cs.map fun c => .int (c : Nat)) by simp [i3], bnd_ok, forK_ap, e, List.nil_append]
theorem L6_ok {x0 x1 x2 x3 x4 x5 x6 x7 x9 x10 x11 x12 x13 x14 x15 x16 x17 x18 x19 x20 x21 : Slot} {W : Nat} {b : List Row} (hb : OkB W b) : L6 [x0, x1, x2, x3, x4, x5, x6, x7, .fr (.list (gridD b)), x9, x10, x11, x12, x13, x14, x15, x16, x17, x18, x19, x20, x21] = .ok (.nx [x0, x1, x2, x3, x4, x5, x6, x7, .fr (.list (gridD b)), x9, x10, x11, .fr (bD b), x13, x14, x15, x16, x17, x18, x19, x20, x21]) := by
  have k1 : lcLoop (.n 21) cYes (eJoin (eC (.str "")) (eVar 21)) [x0, x1, x2, x3, x4, x5, x6, x7, .fr (.list (gridD b)), x9, x10, x11, x12, x13, x14, x15, x16, x17, x18, x19, x20, .no] (gridD b) = .ok (b.map rowD) := by
    refine lc_maps fun r hr => ?_
    have hl : r.length ≤ 16777216 := by have := hb.len hr; have := hb.w2; omega
    simp [join_sgn hl]
  have hl : b.length ≤ 16777216 := by have := hb.h2; omega
  unfold bD
  simp [L6, k1, hl]
end DL

namespace DL
open PySem MF

theorem imm_tup (xs : List D) : imm (.tuple xs) = imm.immAll xs := rfl
theorem imm_ends (es : List MF.End) : imm.immAll (es.map endD) = true := by
  induction es with
  | nil => rfl
  | cons e es ih =>
    rw [List.map_cons, imm.immAll, ih, Bool.and_true]
    cases e <;> rfl
theorem OkB.alls {W : Nat} {b : List Row} (h : OkB W b) {cs : List Nat} (hc : ∀ c ∈ cs, c < W) : OkB W (MF.alls W b cs).1 := by
  obtain ⟨h1, h2, w1, w2, h3⟩ := h
  have e : (MF.alls W b cs).1.length = b.length := alls_len
  exact ⟨by rw [e]; exact h1, by rw [e]; exact h2, w1, w2, alls_ok h3 hc⟩
theorem fst_t {a b : D} : dIx (.tuple [a, b]) (.int 0) = .ok a := dIx_t (i := 0) rfl
theorem snd_t {a b : D} : dIx (.tuple [a, b]) (.int 1) = .ok b := dIx_t (i := 1) rfl
theorem good_pair {W : Nat} {b : List Row} (h : okRows W b) (es : List MF.End) : Good 3 (.tuple [bD b, .tuple (es.map endD)]) := Good.tup fun x hx => by
  simp at hx
  rcases hx with rfl | rfl
  · exact (good_b h).mono (by decide)
  · exact Good.tup (good_ends es)
theorem good_pair1 {W : Nat} {b : List Row} (h : okRows W b) (e : MF.End) : Good 2 (.tuple [bD b, endD e]) := Good.tup fun x hx => by
  simp at hx
  rcases hx with rfl | rfl
  · exact good_b h
  · exact good_end e
theorem L7_ok {x0 x1 x2 x3 x4 x7 x8 x10 x11 x13 x14 x15 x16 x17 x18 x19 x20 x21 : Slot} {W : Nat} {b : List Row} {cs : List Nat} (hb : OkB W b) (hc : ∀ c ∈ cs, c < W) (h4 : 4 ≤ cs.length) (hl : cs.length < 16) :
    L7 [x0, x1, x2, x3, x4, .fr (bD b), .fr (colsD cs), x7, x8, .ow (.l1 ((alls W b cs).2.map endD)), x10, x11, .fr (bD (alls W b cs).1), x13, x14, x15, x16, x17, x18, x19, x20, x21] = .ok (.nx [x0, x1, x2, x3, x4, .fr (bD b), .fr (colsD cs), x7, x8, .ow (.l1 ((alls W b cs).2.map endD)), x10, x11, .fr (bD (alls W b cs).1), x13, x14, x15, x16, x17, x18, x19, x20, x21]) := by
  have d1 := ev_drop_all hb hc (by omega)
  have g1 := ne_same (good_pair (hb.alls hc).rows (alls W b cs).2) (by decide)
  have im : imm (.tuple ((alls W b cs).2.map endD)) = true := by rw [imm_tup]; exact imm_ends _
  cases cs with
  | nil => simp at h4
  | cons c0 rest =>
    have hc0 := hc c0 List.mem_cons_self
    have i0 : dIx (colsD (c0 :: rest)) (.int 0) = .ok (.int (c0 : Nat)) := colsD_get (i := 0) rfl
    have d2 := ev_drop hb hc0
    have s1 : dSl (colsD (c0 :: rest)) none (some 1) = .ok (colsD [c0]) := cols_hi (k := 1)
    have d3 := ev_drop_all hb (cs := [c0]) (fun c h => by rw [List.mem_singleton.mp h]; exact hc0) (by simp)
    have ea : alls W b [c0] = ((fall W b c0).1, [(fall W b c0).2]) := rfl
    rw [ea] at d3
    simp only [List.map_cons, List.map_nil] at d3
    have s2 : dSl (.tuple [bD (fall W b c0).1, .tuple [endD (fall W b c0).2]]) none (some 1) = .ok (.tuple [bD (fall W b c0).1]) := by
      rw [sl_t, show cutD [bD (fall W b c0).1, .tuple [endD (fall W b c0).2]] none (some 1) = _ from cut_hi (k := 1)]
      rfl
    have i9 : dIx (.list ((alls W b (c0 :: rest)).2.map endD)) (.int 0) = .ok (endD (fall W b c0).2) := dIx_l (i := 0) rfl
    have im2 : imm (endD (fall W b c0).2) = true := by cases (fall W b c0).2 <;> rfl
    have ad : dAdd (.tuple [bD (fall W b c0).1]) (.tuple [endD (fall W b c0).2]) = .ok (.tuple [bD (fall W b c0).1, endD (fall W b c0).2]) := rfl
    have g2 := ne_same (good_pair1 (hb.fall hc0).rows (fall W b c0).2) (by decide)
    generalize (alls W b (c0 :: rest)).1 = b' at *
    generalize (alls W b (c0 :: rest)).2.map endD = es at *
    generalize bD (fall W b c0).1 = f1 at *
    generalize endD (fall W b c0).2 = f2 at *
    have d3' : phi_drop_all [bD b, colsD [c0]] = .ok (.tuple [f1, .tuple [f2]]) := d3
    simp [L7, d1, g1, im, i0, d2, s1, d3', s2, i9, im2, ad, g2]
theorem L8_ok {x0 x1 x2 x3 x4 x5 x7 x8 x9 x10 x11 x12 x13 x14 x15 x16 x17 x18 x19 x20 x21 : Slot} {cs : List Nat} : L8 [x0, x1, x2, x3, x4, x5, .fr (colsD cs), x7, x8, x9, x10, x11, x12, x13, x14, x15, x16, x17, x18, x19, x20, x21] = .ok (.nx [x0, x1, x2, x3, x4, x5, .fr (colsD cs), x7, x8, x9, x10, x11, x12, .fr (.list (cs.map fun c => .int (c : Nat))), .fr (.list []), x15, x16, x17, x18, x19, x20, x21]) := by
  unfold colsD
  simp [L8]
def colsL (cs : List Nat) : D := .list (cs.map fun c => .int (c : Nat))
theorem colsL_get {cs : List Nat} {i c : Nat} (h : cs[i]? = some c) : dIx (colsL cs) (.int (i : Nat)) = .ok (.int (c : Nat)) := dIx_l (by rw [List.getElem?_map, h]; rfl)
theorem colsL_hi {cs : List Nat} {k : Nat} : dSlL (colsL cs) none (some (k : Int)) = .ok ((cs.take k).map fun c => .int (c : Nat)) := by
  unfold colsL
  rw [sl_l, cut_hi, List.map_take]
theorem colsL_lo {cs : List Nat} {k : Nat} : dSlL (colsL cs) (some (k : Int)) none = .ok ((cs.drop k).map fun c => .int (c : Nat)) := by
  unfold colsL
  rw [sl_l, cut_lo, List.map_drop]
theorem dLen_cl (cs : List Nat) : dLen [colsL cs] = .ok (.int cs.length) := by
  show R.ok (PyData.int ((cs.map fun c => PyData.int (c : Nat)).length : Nat)) = _
  rw [List.length_map]
theorem cat_c {xs ys : List Nat} (h : xs.length + ys.length ≤ 16777216) : dCat (colsL xs) (colsL ys) = .ok ((xs ++ ys).map fun c => .int (c : Nat)) := by
  unfold dCat colsL
  dsimp only
  rw [List.length_map, List.length_map, if_pos h, List.map_append]
theorem colsL_eq (xs : List Nat) : PyData.list (xs.map fun c => .int (c : Nat)) = colsL xs := rfl
theorem colsL_one (c : Nat) : PyData.list [.int (c : Nat)] = colsL [c] := rfl
theorem pick_perm {rs : List Nat} {a c : Nat} (h : rs[a]? = some c) (os : List Nat) : ((os ++ [c]) ++ (rs.take a ++ rs.drop (a + 1))).Perm (os ++ rs) := by
  obtain ⟨ha, e⟩ := List.getElem?_eq_some_iff.mp h
  have e2 : rs = rs.take a ++ c :: rs.drop (a + 1) := by
    rw [← e, List.getElem_cons_drop, List.take_append_drop]
  rw [List.append_assoc]
  refine List.Perm.append_left os ?_
  conv => rhs; rw [e2]
  show (c :: (rs.take a ++ rs.drop (a + 1))).Perm _
  exact (List.perm_middle).symm
theorem shufF_ok {x0 x3 x4 x5 x6 x8 x9 x10 x11 x12 x15 x16 x17 x18 x19 x20 x21 : Slot} {ns : List Int} {τ k : Nat} (hl : ns.length = 300) (h : ∀ v ∈ ns, 0 ≤ v) (ht : τ < 6) {os rs : List Nat} (hr : 0 < rs.length) (hm : os.length + rs.length < 16) :
    ∃ (os' rs' : List Nat) (a : Nat), shufF [x0, .fr (intsD ns), .fr (.int (τ : Nat)), x3, x4, x5, x6, .fr (.int (k : Nat)), x8, x9, x10, x11, x12, .fr (colsL rs), .fr (colsL os), x15, x16, x17, x18, x19, x20, x21] = .ok (.nx [x0, .fr (intsD ns), .fr (.int (τ : Nat)), x3, x4, x5, x6, .fr (.int (k : Nat)), x8, x9, x10, x11, x12, .fr (colsL rs'), .fr (colsL os'), .fr (.int (a : Nat)), x16, x17, x18, x19, x20, x21]) ∧ (os' ++ rs').Perm (os ++ rs) ∧ os'.length = os.length + 1 := by
  have m0 : dMul (.int 5) (.int (τ : Nat)) = .ok (.int (5 * (τ : Int))) := dMul_ok (by omega) (by omega)
  have m0' : dMul (.int 11) (.int (k : Nat)) = .ok (.int (11 * (k : Int))) := by
    unfold dMul
    exact if_pos (.inl (And.intro (by decide) (by decide)))
  have m1 : dMod (.int (5 * (τ : Int) + 11 * (k : Int))) (.int 300) = .ok (.int ((5 * (τ : Int) + 11 * (k : Int)).fmod 300)) := dMod_ok (by decide)
  obtain ⟨g0, g1⟩ := fmod_lt (a := 5 * (τ : Int) + 11 * (k : Int)) (b := 300) (by decide)
  obtain ⟨q, eq, _, hq⟩ := of_bounds (a := 0) (b := 300) g0 g1
  rw [eq] at m1
  obtain ⟨v, p1, a, p2, ha⟩ := draw hl h (i := q) hq rs.length hr
  have ea : rs[a]? = some rs[a] := List.getElem?_eq_getElem ha
  have c1 := cat_c (xs := os) (ys := [rs[a]]) (by simp; omega)
  have c2 := cat_c (xs := rs.take a) (ys := rs.drop (a + 1)) (by rw [List.length_take, List.length_drop]; omega)
  have lo := colsL_lo (cs := rs) (k := a + 1)
  have lo' : dSlL (colsL rs) (some ((a : Int) + 1)) none = .ok ((rs.drop (a + 1)).map fun c => .int (c : Nat)) := lo
  have hi := colsL_hi (cs := rs) (k := a)
  refine ⟨os ++ [rs[a]], rs.take a ++ rs.drop (a + 1), a, ?_, pick_perm ea os, by simp⟩
  have k15 : dCat (colsL os) (.list [.int (rs[a] : Nat)]) = .ok ((os ++ [rs[a]]).map fun c => .int (c : Nat)) := c1
  simp only [← colsL_eq] at c2
  have g := colsL_get ea
  generalize (rs.take a).map (fun c => PyData.int (c : Nat)) = u1 at *
  generalize (rs.drop (a + 1)).map (fun c => PyData.int (c : Nat)) = u2 at *
  rw [← colsL_eq (os ++ [rs[a]]), ← colsL_eq (rs.take a ++ rs.drop (a + 1))]
  generalize (os ++ [rs[a]]).map (fun c => PyData.int (c : Nat)) = u3 at *
  generalize (rs.take a ++ rs.drop (a + 1)).map (fun c => PyData.int (c : Nat)) = u4 at *
  simp [shufF, m0, m0', m1, p1, dLen_cl, p2, g, k15, hi, lo', c2]
theorem L9_ok {x0 x3 x4 x5 x7 x8 x9 x10 x11 x12 x15 x16 x17 x18 x19 x20 x21 : Slot} {ns : List Int} {τ : Nat} {cs : List Nat} (hl : ns.length = 300) (h : ∀ v ∈ ns, 0 ≤ v) (ht : τ < 6) (hc : cs.length < 16) :
    ∃ (os : List Nat) (y7 y13 y15 : Slot), os.Perm cs ∧ L9 [x0, .fr (intsD ns), .fr (.int (τ : Nat)), x3, x4, x5, .fr (colsD cs), x7, x8, x9, x10, x11, x12, .fr (colsL cs), .fr (colsL []), x15, x16, x17, x18, x19, x20, x21] = .ok (.nx [x0, .fr (intsD ns), .fr (.int (τ : Nat)), x3, x4, x5, .fr (colsD cs), y7, x8, x9, x10, x11, x12, y13, .fr (colsL os), y15, x16, x17, x18, x19, x20, x21]) := by
  have er : rangeK (.int (cs.length : Nat)) = .ok ((List.range cs.length).map fun i => .int (i : Nat)) := rangeK_ok (by omega)
  obtain ⟨Γ1, e1, p1⟩ := for_cnt (T := .n 7) (F := shufF) (m := cs.length) (P := fun k Γ => ∃ (os rs : List Nat) (y7 y15 : Slot), Γ = [x0, .fr (intsD ns), .fr (.int (τ : Nat)), x3, x4, x5, .fr (colsD cs), y7, x8, x9, x10, x11, x12, .fr (colsL rs), .fr (colsL os), y15, x16, x17, x18, x19, x20, x21] ∧ (os ++ rs).Perm cs ∧ os.length = k) (ds := (List.range cs.length).map fun i => .int (i : Nat)) (k := 0) (Γ := [x0, .fr (intsD ns), .fr (.int (τ : Nat)), x3, x4, x5, .fr (colsD cs), x7, x8, x9, x10, x11, x12, .fr (colsL cs), .fr (colsL []), x15, x16, x17, x18, x19, x20, x21])
    (by simp) (fun d hd k Γ hk hP => by
      obtain ⟨i, _, rfl⟩ := List.mem_map.mp hd
      obtain ⟨os, rs, y7, y15, rfl, pp, hlen⟩ := hP
      have hln := pp.length_eq
      rw [List.length_append] at hln
      obtain ⟨os', rs', a, q1, q2, q3⟩ := shufF_ok (x0 := x0) (x3 := x3) (x4 := x4) (x5 := x5) (x6 := .fr (colsD cs)) (x8 := x8) (x9 := x9) (x10 := x10) (x11 := x11) (x12 := x12) (x15 := y15) (x16 := x16) (x17 := x17) (x18 := x18) (x19 := x19) (x20 := x20) (x21 := x21) (k := i) hl h ht (os := os) (rs := rs) (by omega) (by omega)
      exact ⟨_, _, rfl, q1, os', rs', _, _, rfl, q2.trans pp, by omega⟩) ⟨[], cs, _, _, rfl, by simp, rfl⟩
  rw [List.length_map, List.length_range, Nat.zero_add] at p1
  obtain ⟨os, rs, y7, y15, rfl, pp, hlen⟩ := p1
  have hln := pp.length_eq
  rw [List.length_append] at hln
  have hrs : rs = [] := List.eq_nil_of_length_eq_zero (by omega)
  subst hrs
  rw [List.append_nil] at pp
  refine ⟨os, y7, .fr (colsL []), y15, pp, ?_⟩
  rw [L9_eq, ap_sFor, show iRange1 (eCB dLen (aCons (eVar 6) aNil)) [x0, .fr (intsD ns), .fr (.int (τ : Nat)), x3, x4, x5, .fr (colsD cs), x7, x8, x9, x10, x11, x12, .fr (colsL cs), .fr (colsL []), x15, x16, x17, x18, x19, x20, x21] = .ok ((List.range cs.length).map fun i => .int (i : Nat)) by simp [dLen_c, er], bnd_ok, forK_ap, e1]
end DL

namespace DL
open PySem MF

theorem alike_end (a b : MF.End) : PySem.W.alike (endD a) (endD b) = true := by
  cases a <;> cases b <;> rfl
theorem sortOk_ends (es : List MF.End) (h : es.length ≤ 16777216) : sortOk (es.map endD) = true := by
  unfold sortOk
  simp only [Bool.and_eq_true, Bool.or_eq_true, decide_eq_true_eq, List.all_eq_true]
  refine ⟨⟨⟨by rw [List.length_map]; exact h, fun a ha b hb => ?_⟩, .inl fun a ha => ?_⟩, fun d hd => ?_⟩
  · obtain ⟨x, _, rfl⟩ := List.mem_map.mp ha
    obtain ⟨y, _, rfl⟩ := List.mem_map.mp hb
    exact alike_end x y
  · obtain ⟨x, _, rfl⟩ := List.mem_map.mp ha
    cases x <;> rfl
  · have g := good_ends es d hd
    exact ⟨g.shaped (by decide), Nat.le_trans g.2 (by decide)⟩
theorem sortOk_cols (cs : List Nat) (h : cs.length ≤ 16777216) : sortOk (cs.map fun c => .int (c : Nat)) = true := by
  unfold sortOk
  simp only [Bool.and_eq_true, Bool.or_eq_true, decide_eq_true_eq, List.all_eq_true]
  refine ⟨⟨⟨by rw [List.length_map]; exact h, fun a ha b hb => ?_⟩, .inr fun a ha => ?_⟩, fun d hd => ?_⟩
  · obtain ⟨x, _, rfl⟩ := List.mem_map.mp ha
    obtain ⟨y, _, rfl⟩ := List.mem_map.mp hb
    rfl
  · obtain ⟨x, _, rfl⟩ := List.mem_map.mp ha
    rfl
  · obtain ⟨x, _, rfl⟩ := List.mem_map.mp hd
    exact ⟨(Good.int x).shaped (by decide), Nat.le_trans (Good.int x).2 (by decide)⟩
theorem sorted_cols (cs : List Nat) (h : cs.length ≤ 16777216) : ∃ cs' : List Nat, cs'.Perm cs ∧ dSorted [colsD cs] = .ok (cs'.map fun c => .int (c : Nat)) := by
  have p : ((cs.map fun c => PyData.int (c : Nat)).mergeSort dLeD).Perm (cs.map fun c => PyData.int (c : Nat)) := List.mergeSort_perm _ _
  have e : dSorted [colsD cs] = .ok ((cs.map fun c => PyData.int (c : Nat)).mergeSort dLeD) := by
    show sortD (cs.map fun c => PyData.int (c : Nat)) = _
    unfold sortD
    rw [if_pos (sortOk_cols cs h)]
  rw [e]
  let g : D → Nat := fun d => match d with | .int i => i.toNat | _ => 0
  refine ⟨((cs.map fun c => PyData.int (c : Nat)).mergeSort dLeD).map g, ?_, ?_⟩
  · have q := p.map g
    rw [List.map_map] at q
    have e2 : cs.map (g ∘ fun c => PyData.int (c : Nat)) = cs := by
      have : (g ∘ fun c => PyData.int (c : Nat)) = id := by
        funext c
        show ((c : Nat) : Int).toNat = c
        omega
      rw [this, List.map_id]
    rw [e2] at q
    exact q
  · rw [List.map_map]
    congr 1
    have key : ∀ zs : List D, (∀ d ∈ zs, ((fun c : Nat => PyData.int (c : Nat)) ∘ g) d = d) → zs = zs.map ((fun c : Nat => PyData.int (c : Nat)) ∘ g) := fun zs hz => by
      conv => lhs; rw [← List.map_id zs]
      exact List.map_congr_left fun d hd => (hz d hd).symm
    refine key _ fun d hd => ?_
    obtain ⟨c, _, rfl⟩ := List.mem_map.mp (p.mem_iff.mp hd)
    show PyData.int ((((c : Nat) : Int).toNat : Nat) : Int) = PyData.int (c : Nat)
    rw [Int.toNat_natCast]
theorem sorted_endsT (es : List MF.End) (h : es.length ≤ 16777216) : dSorted [.tuple (es.map endD)] = .ok ((es.map endD).mergeSort dLeD) := by
  show sortD (es.map endD) = _
  unfold sortD
  rw [if_pos (sortOk_ends es h)]
theorem sorted_endsL (es : List MF.End) (h : es.length ≤ 16777216) : dSorted [.list (es.map endD)] = .ok ((es.map endD).mergeSort dLeD) := by
  show sortD (es.map endD) = _
  unfold sortD
  rw [if_pos (sortOk_ends es h)]
theorem ordF_ok {x0 x1 x2 x3 x4 x6 x7 x8 x10 x11 x13 x14 x15 x17 x18 x19 x20 x21 : Slot} {W : Nat} {b : List Row} {cs cs' : List Nat} (hb : OkB W b) (hc : ∀ c ∈ cs, c < W) (hl : cs.length < 16) (p : cs'.Perm cs) :
    ∃ y17, ordF [x0, x1, x2, x3, x4, .fr (bD b), x6, x7, x8, .ow (.l1 ((alls W b cs).2.map endD)), x10, x11, .fr (bD (alls W b cs).1), x13, x14, x15, .fr (colsD cs'), x17, x18, x19, x20, x21] = .ok (.nx [x0, x1, x2, x3, x4, .fr (bD b), x6, x7, x8, .ow (.l1 ((alls W b cs).2.map endD)), x10, x11, .fr (bD (alls W b cs).1), x13, x14, x15, .fr (colsD cs'), y17, x18, x19, x20, x21]) := by
  have hc' : ∀ c ∈ cs', c < W := fun c h => hc c (p.mem_iff.mp h)
  have hl' := p.length_eq
  have d1 := ev_drop_all hb hc' (by omega)
  obtain ⟨q1, q2⟩ := alls_perm p hb.rows hc'
  rw [q1] at d1
  have n1 := ne_same (good_b (hb.alls hc).rows) (by decide)
  have le : (alls W b cs').2.length ≤ 16777216 := by rw [alls_ends]; omega
  have le2 : (alls W b cs).2.length ≤ 16777216 := by rw [alls_ends]; omega
  have s1 := sorted_endsT _ le
  have s2 := sorted_endsL _ le2
  have es : ((alls W b cs').2.map endD).mergeSort dLeD = ((alls W b cs).2.map endD).mergeSort dLeD := sort_perm (q2.map endD) fun x hx y hy h => by
    obtain ⟨e, _, rfl⟩ := List.mem_map.mp hx
    obtain ⟨e', _, rfl⟩ := List.mem_map.mp hy
    rw [toks_end h]
  rw [es] at s1
  have gs : Good 2 (.list (((alls W b cs).2.map endD).mergeSort dLeD)) := Good.lst fun x hx => good_ends _ x ((List.mergeSort_perm _ _).mem_iff.mp hx)
  have n2 := ne_same gs (by decide)
  refine ⟨.fr (.tuple [bD (alls W b cs).1, .tuple ((alls W b cs').2.map endD)]), ?_⟩
  generalize ((alls W b cs).2.map endD).mergeSort dLeD = ms at *
  generalize (alls W b cs).2.map endD = es1 at *
  generalize (alls W b cs').2.map endD = es2 at *
  generalize bD (alls W b cs).1 = lat at *
  simp [ordF, d1, fst_t, snd_t, n1, s1, s2, n2]
theorem L10_ok {x0 x1 x2 x3 x4 x7 x8 x10 x11 x13 x15 x16 x17 x18 x19 x20 x21 : Slot} {W : Nat} {b : List Row} {cs os : List Nat} (hb : OkB W b) (hc : ∀ c ∈ cs, c < W) (hl : cs.length < 16) (p : os.Perm cs) :
    ∃ y16 y17, L10 [x0, x1, x2, x3, x4, .fr (bD b), .fr (colsD cs), x7, x8, .ow (.l1 ((alls W b cs).2.map endD)), x10, x11, .fr (bD (alls W b cs).1), x13, .fr (colsL os), x15, x16, x17, x18, x19, x20, x21] = .ok (.nx [x0, x1, x2, x3, x4, .fr (bD b), .fr (colsD cs), x7, x8, .ow (.l1 ((alls W b cs).2.map endD)), x10, x11, .fr (bD (alls W b cs).1), x13, .fr (colsL os), x15, y16, y17, x18, x19, x20, x21]) := by
  obtain ⟨cs3, p3, e3⟩ := sorted_cols cs (by omega)
  have i1 : dTuple [colsL os] = .ok (colsD os) := rfl
  have i2 : dRevT (colsD cs) = .ok (colsD cs.reverse) := by
    show R.ok (PyData.tuple (cs.map fun c => PyData.int (c : Nat)).reverse) = _
    rw [← List.map_reverse]
    rfl
  have i3 : dTuple [.list (cs3.map fun c => .int (c : Nat))] = .ok (colsD cs3) := rfl
  have it : ∀ Γ : Gm, Γ = [x0, x1, x2, x3, x4, .fr (bD b), .fr (colsD cs), x7, x8, .ow (.l1 ((alls W b cs).2.map endD)), x10, x11, .fr (bD (alls W b cs).1), x13, .fr (colsL os), x15, x16, x17, x18, x19, x20, x21] → iSeqD (eTup (aCons (eCB dTuple (aCons (eVar 14) aNil)) (aCons (e1 dRevT (eVar 6)) (aCons (eCB dTuple (aCons (eFr (lCB dSorted (aCons (eVar 6) aNil))) aNil)) aNil)))) Γ = .ok [colsD os, colsD cs.reverse, colsD cs3] := fun Γ hΓ => by
    subst hΓ
    simp [i1, i2, e3, i3]
  obtain ⟨Γ1, e1, y16, y17, rfl⟩ := for_inv (T := .n 16) (F := ordF) (P := fun Γ => ∃ y16 y17, Γ = [x0, x1, x2, x3, x4, .fr (bD b), .fr (colsD cs), x7, x8, .ow (.l1 ((alls W b cs).2.map endD)), x10, x11, .fr (bD (alls W b cs).1), x13, .fr (colsL os), x15, y16, y17, x18, x19, x20, x21]) (ds := [colsD os, colsD cs.reverse, colsD cs3]) (Γ := [x0, x1, x2, x3, x4, .fr (bD b), .fr (colsD cs), x7, x8, .ow (.l1 ((alls W b cs).2.map endD)), x10, x11, .fr (bD (alls W b cs).1), x13, .fr (colsL os), x15, x16, x17, x18, x19, x20, x21]) (fun d hd Γ hP => by
    obtain ⟨y16, y17, rfl⟩ := hP
    have : ∃ cs', d = colsD cs' ∧ cs'.Perm cs := by
      simp at hd
      rcases hd with rfl | rfl | rfl
      · exact ⟨_, rfl, p⟩
      · exact ⟨_, rfl, List.reverse_perm cs⟩
      · exact ⟨_, rfl, p3⟩
    obtain ⟨cs', rfl, p'⟩ := this
    obtain ⟨z17, e⟩ := ordF_ok (x0 := x0) (x1 := x1) (x2 := x2) (x3 := x3) (x4 := x4) (x6 := .fr (colsD cs)) (x7 := x7) (x8 := x8) (x10 := x10) (x11 := x11) (x13 := x13) (x14 := .fr (colsL os)) (x15 := x15) (x17 := y17) (x18 := x18) (x19 := x19) (x20 := x20) (x21 := x21) hb hc hl p'
    exact ⟨_, _, rfl, e, _, z17, rfl⟩) ⟨_, _, rfl⟩
  exact ⟨y16, y17, by rw [L10_eq, ap_sFor, it _ rfl, bnd_ok, forK_ap, e1]⟩
theorem L11_ok {x0 x3 x4 x5 x7 x8 x9 x10 x11 x12 x13 x14 x15 x16 x17 x18 x19 x20 x21 : Slot} {ns : List Int} {τ : Nat} {cs : List Nat} (hl : ns.length = 300) (h : ∀ v ∈ ns, 0 ≤ v) (ht : τ < 6) : ∃ q : Nat, q ≤ cs.length ∧ L11 [x0, .fr (intsD ns), .fr (.int (τ : Nat)), x3, x4, x5, .fr (colsD cs), x7, x8, x9, x10, x11, x12, x13, x14, x15, x16, x17, x18, x19, x20, x21] = .ok (.nx [x0, .fr (intsD ns), .fr (.int (τ : Nat)), x3, x4, x5, .fr (colsD cs), x7, x8, x9, x10, x11, x12, x13, x14, x15, x16, x17, .fr (.int (q : Nat)), x19, x20, x21]) := by
  obtain ⟨v, p1, n, p2, h2⟩ := draw hl h (i := 290 + τ) (by omega) (cs.length + 1) (by omega)
  have p1' : dIx (intsD ns) (.int (290 + (τ : Int))) = .ok (.int v) := p1
  have p2' : dMod (.int v) (.int ((cs.length : Int) + 1)) = .ok (.int (n : Nat)) := p2
  exact ⟨n, by omega, by simp [L11, p1', p2', dLen_c]⟩
theorem L12_14 {x0 x1 x2 x3 x4 x7 x8 x10 x11 x13 x14 x15 x16 x17 x19 x20 x21 : Slot} {W q : Nat} {b : List Row} {cs : List Nat} (hb : OkB W b) (hc : ∀ c ∈ cs, c < W) (hl : cs.length < 16) :
    ∃ y19 y20, sSeq L12 (sSeq L13 L14) [x0, x1, x2, x3, x4, .fr (bD b), .fr (colsD cs), x7, x8, .ow (.l1 ((alls W b cs).2.map endD)), x10, x11, .fr (bD (alls W b cs).1), x13, x14, x15, x16, x17, .fr (.int (q : Nat)), x19, x20, x21] = .ok (.nx [x0, x1, x2, x3, x4, .fr (bD b), .fr (colsD cs), x7, x8, .ow (.l1 ((alls W b cs).2.map endD)), x10, x11, .fr (bD (alls W b cs).1), x13, x14, x15, x16, x17, .fr (.int (q : Nat)), y19, y20, x21]) := by
  have h1 : ∀ c ∈ cs.take q, c < W := fun c h => hc c (List.mem_of_mem_take h)
  have h2 : ∀ c ∈ cs.drop q, c < W := fun c h => hc c (List.mem_of_mem_drop h)
  have d1 := ev_drop_all hb h1 (by rw [List.length_take]; omega)
  have d2 := ev_drop_all (hb.alls h1) h2 (by rw [List.length_drop]; omega)
  have ap := alls_append (W := W) (cs.take q) (cs.drop q) b
  rw [List.take_append_drop] at ap
  have ap1 := congrArg Prod.fst ap
  have ap2 := congrArg Prod.snd ap
  dsimp only at ap1 ap2
  rw [← ap1] at d2
  have n1 := ne_same (good_b (hb.alls hc).rows) (by decide)
  have l1 : (alls W b (cs.take q)).2.length ≤ 16 := by rw [alls_ends, List.length_take]; omega
  have l2 : (alls W (alls W b (cs.take q)).1 (cs.drop q)).2.length ≤ 16 := by rw [alls_ends, List.length_drop]; omega
  have ad : dAdd (.tuple ((alls W b (cs.take q)).2.map endD)) (.tuple ((alls W (alls W b (cs.take q)).1 (cs.drop q)).2.map endD)) = .ok (.tuple ((alls W b cs).2.map endD)) := by
    rw [ap2, List.map_append]
    unfold dAdd
    exact if_pos (by rw [List.length_map, List.length_map]; omega)
  have gt : Good 2 (.tuple ((alls W b cs).2.map endD)) := Good.tup (good_ends _)
  have n2 := ne_same gt (by decide)
  have im : imm (.tuple ((alls W b cs).2.map endD)) = true := by rw [imm_tup]; exact imm_ends _
  have s1 := cols_hi (cs := cs) (k := q)
  have s2 := cols_lo (cs := cs) (k := q)
  refine ⟨.fr (.tuple [bD (alls W b (cs.take q)).1, .tuple ((alls W b (cs.take q)).2.map endD)]), .fr (.tuple [bD (alls W b cs).1, .tuple ((alls W (alls W b (cs.take q)).1 (cs.drop q)).2.map endD)]), ?_⟩
  · generalize (alls W b (cs.take q)).2.map endD = u1 at *
    generalize (alls W (alls W b (cs.take q)).1 (cs.drop q)).2.map endD = u2 at *
    generalize (alls W b cs).2.map endD = u3 at *
    generalize bD (alls W b (cs.take q)).1 = u4 at *
    generalize bD (alls W b cs).1 = u5 at *
    generalize colsD (cs.take q) = u6 at *
    generalize colsD (cs.drop q) = u7 at *
    simp [L12, L13, L14, s1, d1, fst_t, snd_t, s2, d2, n1, ad, im, n2]

theorem turn_ok {ns : List Int} {τ : Nat} (hl : ns.length = 300) (h : ∀ v ∈ ns, 0 ≤ v) (ht : τ < 6) {Γ : Gm} (hΓ : ∃ x0 x2 x3 x4 x5 x6 x7 x8 x9 x10 x11 x12 x13 x14 x15 x16 x17 x18 x19 x20 x21 : Slot, Γ = [x0, .fr (intsD ns), x2, x3, x4, x5, x6, x7, x8, x9, x10, x11, x12, x13, x14, x15, x16, x17, x18, x19, x20, x21]) :
    ∃ Γ1 Γ2, asgn (.n 2) (.int (τ : Nat)) Γ = .ok Γ1 ∧ turnF Γ1 = .ok (.nx Γ2) ∧ ∃ x0 x2 x3 x4 x5 x6 x7 x8 x9 x10 x11 x12 x13 x14 x15 x16 x17 x18 x19 x20 x21 : Slot, Γ2 = [x0, .fr (intsD ns), x2, x3, x4, x5, x6, x7, x8, x9, x10, x11, x12, x13, x14, x15, x16, x17, x18, x19, x20, x21] := by
  obtain ⟨x0, x2, x3, x4, x5, x6, x7, x8, x9, x10, x11, x12, x13, x14, x15, x16, x17, x18, x19, x20, x21, rfl⟩ := hΓ
  refine ⟨[x0, .fr (intsD ns), .fr (.int (τ : Nat)), x3, x4, x5, x6, x7, x8, x9, x10, x11, x12, x13, x14, x15, x16, x17, x18, x19, x20, x21], ?_⟩
  obtain ⟨H, W, h1, h2, w1, w2, q1⟩ := L1_ok (x0 := x0) (x3 := x3) (x4 := x4) (x5 := x5) (x6 := x6) (x7 := x7) (x8 := x8) (x9 := x9) (x10 := x10) (x11 := x11) (x12 := x12) (x13 := x13) (x14 := x14) (x15 := x15) (x16 := x16) (x17 := x17) (x18 := x18) (x19 := x19) (x20 := x20) (x21 := x21) hl h ht
  obtain ⟨b, hb, q2⟩ := L2_ok (x0 := x0) (x5 := x5) (x6 := x6) (x7 := x7) (x8 := x8) (x9 := x9) (x10 := x10) (x11 := x11) (x12 := x12) (x13 := x13) (x14 := x14) (x15 := x15) (x16 := x16) (x17 := x17) (x18 := x18) (x19 := x19) (x20 := x20) (x21 := x21) hl h ht h1 h2 w1 w2
  obtain ⟨cs, hc, c4, c16, q3⟩ := L3_ok (x0 := x0) (x3 := .fr (.int (H : Nat))) (x5 := .fr (bD b)) (x6 := x6) (x7 := x7) (x8 := x8) (x9 := x9) (x10 := x10) (x11 := x11) (x12 := x12) (x13 := x13) (x14 := x14) (x15 := x15) (x16 := x16) (x17 := x17) (x18 := x18) (x19 := x19) (x20 := x20) (x21 := x21) hl h ht w1
  obtain ⟨y10, y11, q5⟩ := L5_ok (x0 := x0) (x1 := .fr (intsD ns)) (x2 := .fr (.int (τ : Nat))) (x3 := .fr (.int (H : Nat))) (x4 := .fr (.int (W : Nat))) (x5 := .fr (bD b)) (x7 := x7) (x10 := x10) (x11 := x11) (x12 := x12) (x13 := x13) (x14 := x14) (x15 := x15) (x16 := x16) (x17 := x17) (x18 := x18) (x19 := x19) (x20 := x20) (x21 := x21) hb hc c16
  obtain ⟨os, y7, y13, y15, p, q9⟩ := L9_ok (x0 := x0) (x3 := .fr (.int (H : Nat))) (x4 := .fr (.int (W : Nat))) (x5 := .fr (bD b)) (x7 := x7) (x8 := .fr (.list (gridD (alls W b cs).1))) (x9 := .ow (.l1 ((alls W b cs).2.map endD))) (x10 := y10) (x11 := y11) (x12 := .fr (bD (alls W b cs).1)) (x15 := x15) (x16 := x16) (x17 := x17) (x18 := x18) (x19 := x19) (x20 := x20) (x21 := x21) hl h ht c16
  obtain ⟨y16, y17, q10⟩ := L10_ok (x0 := x0) (x1 := .fr (intsD ns)) (x2 := .fr (.int (τ : Nat))) (x3 := .fr (.int (H : Nat))) (x4 := .fr (.int (W : Nat))) (x7 := y7) (x8 := .fr (.list (gridD (alls W b cs).1))) (x10 := y10) (x11 := y11) (x13 := y13) (x15 := y15) (x16 := x16) (x17 := x17) (x18 := x18) (x19 := x19) (x20 := x20) (x21 := x21) hb hc c16 p
  obtain ⟨q, hq, q11⟩ := L11_ok (x0 := x0) (x3 := .fr (.int (H : Nat))) (x4 := .fr (.int (W : Nat))) (x5 := .fr (bD b)) (x7 := y7) (x8 := .fr (.list (gridD (alls W b cs).1))) (x9 := .ow (.l1 ((alls W b cs).2.map endD))) (x10 := y10) (x11 := y11) (x12 := .fr (bD (alls W b cs).1)) (x13 := y13) (x14 := .fr (colsL os)) (x15 := y15) (x16 := y16) (x17 := y17) (x18 := x18) (x19 := x19) (x20 := x20) (x21 := x21) (cs := cs) hl h ht
  obtain ⟨y19, y20, q12⟩ := L12_14 (x0 := x0) (x1 := .fr (intsD ns)) (x2 := .fr (.int (τ : Nat))) (x3 := .fr (.int (H : Nat))) (x4 := .fr (.int (W : Nat))) (x7 := y7) (x8 := .fr (.list (gridD (alls W b cs).1))) (x10 := y10) (x11 := y11) (x13 := y13) (x14 := .fr (colsL os)) (x15 := y15) (x16 := y16) (x17 := y17) (x19 := x19) (x20 := x20) (x21 := x21) (q := q) hb hc c16
  have E : turnF [x0, .fr (intsD ns), .fr (.int (τ : Nat)), x3, x4, x5, x6, x7, x8, x9, x10, x11, x12, x13, x14, x15, x16, x17, x18, x19, x20, x21] = .ok (.nx [x0, .fr (intsD ns), .fr (.int (τ : Nat)), .fr (.int (H : Nat)), .fr (.int (W : Nat)), .fr (bD b), .fr (colsD cs), y7, .fr (.list (gridD (alls W b cs).1)), .ow (.l1 ((alls W b cs).2.map endD)), y10, y11, .fr (bD (alls W b cs).1), y13, .fr (colsL os), y15, y16, y17, .fr (.int (q : Nat)), y19, y20, x21]) := by
    unfold turnF
    rw [ap_sSeq, q1, bnd_ok, seqK_nx, ap_sSeq, q2, bnd_ok, seqK_nx, ap_sSeq, q3, bnd_ok, seqK_nx, ap_sSeq, L4_ok hb, bnd_ok, seqK_nx, ap_sSeq, q5, bnd_ok, seqK_nx, ap_sSeq, L6_ok (hb.alls hc), bnd_ok, seqK_nx,
      ap_sSeq, L7_ok hb hc c4 c16, bnd_ok, seqK_nx, ap_sSeq, L8_ok, bnd_ok, seqK_nx, ap_sSeq]
    have e8 : (PyData.list (cs.map fun c => PyData.int (c : Nat))) = colsL cs := rfl
    have e8' : (PyData.list []) = colsL [] := rfl
    rw [e8, e8', q9, bnd_ok, seqK_nx, ap_sSeq, q10, bnd_ok, seqK_nx, ap_sSeq, q11, bnd_ok, seqK_nx, q12]
  exact ⟨_, rfl, E, _, _, _, _, _, _, _, _, _, _, _, _, _, _, _, _, _, _, _, _, _, rfl⟩
theorem law_true (script : List Int) (_ : script.length ≤ 63) : phi_law [.list (script.map PyData.int)] = .ok (.bool true) := by
  obtain ⟨ns, e0, hl, h⟩ := ev_law_draws script
  have er : rangeK (.int 6) = .ok ((List.range 6).map fun i => .int (i : Nat)) := rangeK_ok (n := 6) (by decide)
  obtain ⟨Γ1, e1, _⟩ := for_inv (T := .n 2) (F := turnF) (P := fun Γ => ∃ x0 x2 x3 x4 x5 x6 x7 x8 x9 x10 x11 x12 x13 x14 x15 x16 x17 x18 x19 x20 x21 : Slot, Γ = [x0, .fr (intsD ns), x2, x3, x4, x5, x6, x7, x8, x9, x10, x11, x12, x13, x14, x15, x16, x17, x18, x19, x20, x21]) (ds := (List.range 6).map fun i => .int (i : Nat)) (Γ := .fr (.list (script.map PyData.int)) :: .fr (intsD ns) :: List.replicate 20 .no) (fun d hd Γ hP => by
    obtain ⟨τ, ht, rfl⟩ := List.mem_map.mp hd
    exact turn_ok hl h (List.mem_range.mp ht) hP) ⟨_, _, _, _, _, _, _, _, _, _, _, _, _, _, _, _, _, _, _, _, _, rfl⟩
  have e1' : forLoop (.n 2) turnF ((List.range 6).map fun i => .int (i : Nat)) [.fr (.list (script.map PyData.int)), .fr (intsD ns), .no, .no, .no, .no, .no, .no, .no, .no, .no, .no, .no, .no, .no, .no, .no, .no, .no, .no, .no, .no] = .ok (.nx Γ1) := e1
  generalize PyData.list (script.map PyData.int) = sd at *
  unfold phi_law
  rw [law_eq]
  simp [e0, er, e1']
end DL

namespace DL
open PySem PySem.Spec PyProof.Rows L2
theorem rp_ints {K : Fg} {B : Hp} : ∀ ns : List Int, RpAll K B (ns.map V.int) (ns.map PyData.int)
  | [] => .nil
  | i :: r => .cons (.int i) (rp_ints r)
theorem end_of {K : Fg} {H : Hp} {a : Addr} {ns : List Int} {Φ : List D → R D} {E : XK} (hS : SqL K H a (ns.map V.int)) (h : Φ [.list (ns.map PyData.int)] = .ok (.bool true)) : spD K 1 Φ [.ref a] H (fun v _ => v = .bl true) E := by
  refine ⟨rfl, H, [.list (ns.map PyData.int)], Ex.refl H, .cons (.lst hS (rp_ints ns)) .nil, ?_⟩
  rw [h]
  exact fun v B' H' _ r => r.bl_inv
end DL

section
open PySem PySem.W PyProof.Rows
set_option maxRecDepth 100000 in
set_option maxHeartbeats 0 in
theorem PySem.Challenge.cw_marblewright_k03_main_marbles_in_any_ord_holds : PySem.Challenge.rw_marblewright_k03_main_marbles_in_any_ord.Holds := by
  w_on; o_law; k_head; (case hw => w_witness2)
  k_fill
  refine L2.walk_of (l := PySem.Challenge.rw_marblewright_k03_main_marbles_in_any_ord) (n := 63) (k := 6) (x := "script") (CX := fun _ => L2.CX0) (sp := fun w => DL.spD _ 1 DL.phi_law) rfl (by decide) rfl ⟨rfl, by decide, by decide⟩ (fun w h Y => PySem.W.kIn_of Y) ?F (fun _ _ a ns hl _ hS => DL.end_of hS (DL.law_true ns hl)) (fun _ _ _ _ _ h => h)
  case F =>
    intro w mg fa h KX G hmg
    refine' DL.all_mk KX G hmg ?a_is_whole ?l_is_whole ?c_is_whole ?k_is_whole ?a_board_fault ?l_board_fault ?c_board_fault ?k_board_fault ?a_check_board ?l_check_board ?c_check_board ?k_check_board ?a_turned_at ?l_turned_at ?c_turned_at ?k_turned_at ?a_check_column ?l_check_column ?c_check_column ?k_check_column ?a_way_at ?l_way_at ?c_way_at ?k_way_at ?a_beyond ?l_beyond ?c_beyond ?k_beyond ?a_behind ?l_behind ?c_behind ?k_behind ?a_fall ?l_fall ?c_fall ?k_fall ?a_drop ?l_drop ?c_drop ?k_drop ?a_check_columns ?l_check_columns ?c_check_columns ?k_check_columns ?a_all_ends ?l_all_ends ?c_all_ends ?k_all_ends ?a_drop_all ?l_drop_all ?c_drop_all ?k_drop_all ?a__law_draws ?l__law_draws ?c__law_draws ?k__law_draws ?a__law_board ?l__law_board ?c__law_board ?k__law_board ?a__law_fall ?l__law_fall ?c__law_fall ?k__law_fall ?a_law ?l_law ?c_law ?k_law ?z_abs ?z_all ?z_bool ?z_enumerate ?z_int ?z_isinstance ?z_len ?z_list ?z_range ?z_sorted ?z_str ?z_tuple ?q_CROSSING ?q_FORM ?qt_FORM ?q_LINKED ?q_MOST_MARBLES ?q_MOST_SIDE ?q_SIGNS ?q_STOP ?q_STRAIGHT ?q_SWITCHES ?q_OTHERS ?ql_OTHERS ?qk_OTHERS ?qv_OTHERS0 ?qv_OTHERS1 ?qv_OTHERS2 ?qv_OTHERS3 ?q_WAYS ?ql_WAYS ?qk_WAYS ?qv_WAYS0 ?qv_WAYS1 ?qv_WAYS2 ?qv_WAYS3 ?qv_WAYS4 ?qv_WAYS5 ?qv_WAYS6
    (case a_is_whole => k_is)
    (case l_is_whole => k_is)
    (case c_is_whole => k_is)
    (case k_is_whole => k_is)
    (case a_board_fault => k_is)
    (case l_board_fault => k_is)
    (case c_board_fault => k_is)
    (case k_board_fault => k_is)
    (case a_check_board => k_is)
    (case l_check_board => k_is)
    (case c_check_board => k_is)
    (case k_check_board => k_is)
    (case a_turned_at => k_is)
    (case l_turned_at => k_is)
    (case c_turned_at => k_is)
    (case k_turned_at => k_is)
    (case a_check_column => k_is)
    (case l_check_column => k_is)
    (case c_check_column => k_is)
    (case k_check_column => k_is)
    (case a_way_at => k_is)
    (case l_way_at => k_is)
    (case c_way_at => k_is)
    (case k_way_at => k_is)
    (case a_beyond => k_is)
    (case l_beyond => k_is)
    (case c_beyond => k_is)
    (case k_beyond => k_is)
    (case a_behind => k_is)
    (case l_behind => k_is)
    (case c_behind => k_is)
    (case k_behind => k_is)
    (case a_fall => k_is)
    (case l_fall => k_is)
    (case c_fall => k_is)
    (case k_fall => k_is)
    (case a_drop => k_is)
    (case l_drop => k_is)
    (case c_drop => k_is)
    (case k_drop => k_is)
    (case a_check_columns => k_is)
    (case l_check_columns => k_is)
    (case c_check_columns => k_is)
    (case k_check_columns => k_is)
    (case a_all_ends => k_is)
    (case l_all_ends => k_is)
    (case c_all_ends => k_is)
    (case k_all_ends => k_is)
    (case a_drop_all => k_is)
    (case l_drop_all => k_is)
    (case c_drop_all => k_is)
    (case k_drop_all => k_is)
    (case a__law_draws => k_is)
    (case l__law_draws => k_is)
    (case c__law_draws => k_is)
    (case k__law_draws => k_is)
    (case a__law_board => k_is)
    (case l__law_board => k_is)
    (case c__law_board => k_is)
    (case k__law_board => k_is)
    (case a__law_fall => k_is)
    (case l__law_fall => k_is)
    (case c__law_fall => k_is)
    (case k__law_fall => k_is)
    (case a_law => k_is)
    (case l_law => k_is)
    (case c_law => k_is)
    (case k_law => k_is)
    (case z_abs => k_is)
    (case z_all => k_is)
    (case z_bool => k_is)
    (case z_enumerate => k_is)
    (case z_int => k_is)
    (case z_isinstance => k_is)
    (case z_len => k_is)
    (case z_list => k_is)
    (case z_range => k_is)
    (case z_sorted => k_is)
    (case z_str => k_is)
    (case z_tuple => k_is)
    (case q_CROSSING => k_is)
    (case q_FORM => k_is)
    (case qt_FORM => k_is)
    (case q_LINKED => k_is)
    (case q_MOST_MARBLES => k_is)
    (case q_MOST_SIDE => k_is)
    (case q_SIGNS => k_is)
    (case q_STOP => k_is)
    (case q_STRAIGHT => k_is)
    (case q_SWITCHES => k_is)
    (case q_OTHERS => k_is)
    (case ql_OTHERS => k_is)
    (case qk_OTHERS => k_keys)
    (case qv_OTHERS0 => k_is)
    (case qv_OTHERS1 => k_is)
    (case qv_OTHERS2 => k_is)
    (case qv_OTHERS3 => k_is)
    (case q_WAYS => k_is)
    (case ql_WAYS => k_is)
    (case qk_WAYS => k_keys)
    (case qv_WAYS0 => k_is)
    (case qv_WAYS1 => k_is)
    (case qv_WAYS2 => k_is)
    (case qv_WAYS3 => k_is)
    (case qv_WAYS4 => k_is)
    (case qv_WAYS5 => k_is)
    (case qv_WAYS6 => k_is)
end
