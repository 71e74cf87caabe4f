import PyProof.Rows.All
import Wide.All
import OpenK.AllK
import Wide.FinOn
import HandS.ForMost
import HandS.DictComp
import HandS.IsInst
import HandS.Conv
import HandS.Wide
import HandS.SortInts
import HandS.Style
import HandS.ListItems
import HandS.Zip
import HandS.Lambda
import HandS.TupAny
import HandS.Deep
import HandS.TupLen
import KE.KDictWalk
import KE.SortData
import HandS.DictTup
import KE.KMinKey
import HandS.Nested
import KE.IntBitsLaws
import HandS.EndTab
import PySem.Challenge.RW_pricedhouses_k92_whole_known_markets
set_option Elab.async false
set_option linter.all false
set_option maxRecDepth 100000
set_option autoImplicit false
/-! T1: pure trees over the hand layer's heap; worlds; judgements. -/
namespace TL
open PySem
open PySem.Spec
open PyProof.Rows
open L2

/-- a pure value, with what it holds; dicts by keys ints and texts (dk), or tuples of these (dt) -/
inductive PV where
  | non | bl (b : Bool) | int (i : Int) | str (x : Str) | lst (xs : List PV) | tup (xs : List PV) | dk (kvs : List (Key × PV)) | dt (kvs : List (List Key × PV)) | stm

def pk : Key → PV
  | .inl i => .int i
  | .inr x => .str x

mutual
/-- v stands for the tree p: lists and dicts frozen, tuples as they are, the stream at a -/
inductive Rep (a : Addr) (H : Hp) : V → PV → Prop
  | non : Rep a H .non .non
  | bl (b : Bool) : Rep a H (.bl b) (.bl b)
  | int (i : Int) : Rep a H (.int i) (.int i)
  | str (x : Str) : Rep a H (.str x) (.str x)
  | frz {c : Addr} {o : Obj} {u : HO} {p : PV} : H c = some (.frz o u) → TopR a H u p → Rep a H (.ref c) p
  | tup {c : Addr} {vs : List V} {ps : List PV} : H c = some (.tup vs) → Reps a H vs ps → Rep a H (.ref c) (.tup ps)
  | stm : Rep a H (.ref a) .stm
/-- a list's, a dict's content -/
inductive TopR (a : Addr) (H : Hp) : HO → PV → Prop
  | l {vs : List V} {ps : List PV} : Reps a H vs ps → TopR a H (.lst vs) (.lst ps)
  | k {kvs : List (Key × V)} {ps : List (Key × PV)} : RepK a H kvs ps → TopR a H (.dK kvs) (.dk ps)
  | t {kvs : List (List Key × V)} {ps : List (List Key × PV)} : RepT a H kvs ps → TopR a H (.dT kvs) (.dt ps)
inductive Reps (a : Addr) (H : Hp) : List V → List PV → Prop
  | nil : Reps a H [] []
  | cons {v : V} {p : PV} {vs : List V} {ps : List PV} : Rep a H v p → Reps a H vs ps → Reps a H (v :: vs) (p :: ps)
inductive RepK (a : Addr) (H : Hp) : List (Key × V) → List (Key × PV) → Prop
  | nil : RepK a H [] []
  | cons {k : Key} {v : V} {p : PV} {vs : List (Key × V)} {ps : List (Key × PV)} : Rep a H v p → RepK a H vs ps → RepK a H ((k, v) :: vs) ((k, p) :: ps)
inductive RepT (a : Addr) (H : Hp) : List (List Key × V) → List (List Key × PV) → Prop
  | nil : RepT a H [] []
  | cons {k : List Key} {v : V} {p : PV} {vs : List (List Key × V)} {ps : List (List Key × PV)} : Rep a H v p → RepT a H vs ps → RepT a H ((k, v) :: vs) ((k, p) :: ps)
end

/-- what is frozen, and the tuples, stay -/
structure Ps (H H' : Hp) : Prop where
  frz : ∀ c o u, H c = some (.frz o u) → H' c = some (.frz o u)
  tup : ∀ c xs, H c = some (.tup xs) → H' c = some (.tup xs)
section
variable {a : Addr} {H H' : Hp}
mutual
theorem Rep.up (u : Ps H H') : ∀ {v : V} {p : PV}, Rep a H v p → Rep a H' v p
  | _, _, .non => .non
  | _, _, .bl b => .bl b
  | _, _, .int i => .int i
  | _, _, .str x => .str x
  | _, _, .frz h r => .frz (u.frz _ _ _ h) (TopR.up u r)
  | _, _, .tup h r => .tup (u.tup _ _ h) (Reps.up u r)
  | _, _, .stm => .stm
theorem TopR.up (u : Ps H H') : ∀ {v : HO} {p : PV}, TopR a H v p → TopR a H' v p
  | _, _, .l r => .l (Reps.up u r)
  | _, _, .k r => .k (RepK.up u r)
  | _, _, .t r => .t (RepT.up u r)
theorem Reps.up (u : Ps H H') : ∀ {v : List V} {p : List PV}, Reps a H v p → Reps a H' v p
  | _, _, .nil => .nil
  | _, _, .cons h r => .cons (Rep.up u h) (Reps.up u r)
theorem RepK.up (u : Ps H H') : ∀ {v : List (Key × V)} {p : List (Key × PV)}, RepK a H v p → RepK a H' v p
  | _, _, .nil => .nil
  | _, _, .cons h r => .cons (Rep.up u h) (RepK.up u r)
theorem RepT.up (u : Ps H H') : ∀ {v : List (List Key × V)} {p : List (List Key × PV)}, RepT a H v p → RepT a H' v p
  | _, _, .nil => .nil
  | _, _, .cons h r => .cons (Rep.up u h) (RepT.up u r)
end
end
/-- a list, a dict -/
def Thg : HO → Prop
  | .lst _ => True
  | .dK _ => True
  | .dT _ => True
  | _ => False
theorem Thg.mut : ∀ {u : HO}, Thg u → Mut (some u) := fun {u} t => by
  cases u <;> first | trivial | cases t
theorem TopR.thg {a : Addr} {H : Hp} {u : HO} {p : PV} (d : TopR a H u p) : Thg u := by
  cases d <;> trivial
theorem TopR.mut {a : Addr} {H : Hp} {u : HO} {p : PV} (d : TopR a H u p) : Mut (some u) := d.thg.mut
/-- no table of code objects -/
def NT (o : HO) : Prop := ∀ ps, o ≠ .tbl ps
theorem Thg.nt {u : HO} (t : Thg u) : NT u := fun ps z => by
  subst z; cases t
/-- where the stream's cells stand; tables of code objects -/
structure Bs where
  c : Addr
  T : List (Addr × Str)

def bigB : Nat := 1048580
/-- the stream: a list of four at a, its cells at b; k bounds how often it was asked -/
structure Amb (a : Addr) (b : Bs) (k : Nat) (H : Hp) : Prop where
  ne : a ≠ b.c
  ex : ∃ (xs : List Int) (c n m : Int), H a = some (.lst [.ref b.c, .int c, .int n, .int m]) ∧ H b.c = some (.lst (xs.map V.int)) ∧ (∀ x ∈ xs, x.natAbs < 2 ^ bigB) ∧
    0 ≤ c ∧ c.natAbs < 2 ^ bigB ∧ 0 ≤ n ∧ n ≤ (k : Int) ∧ 0 ≤ m ∧ m < 2147483647 ∧ xs.length ≤ 63
  tb : LamX.Tabs b.T H

/-- all but the stream and the tables stays -/
structure Up (a : Addr) (b : Bs) (H H' : Hp) : Prop where
  keep : ∀ c o, H c = some o → NT o → c ≠ a → c ≠ b.c → H' c = some o
  non : ∀ c, H' c = none → H c = none
section
variable {a : Addr} {b : Bs} {H H1 H' : Hp} {k : Nat}
theorem Up.refl : Up a b H H := ⟨fun _ _ h _ _ _ => h, fun _ h => h⟩
theorem Up.trans (x : Up a b H H1) (y : Up a b H1 H') : Up a b H H' := ⟨fun c o h t n m => y.keep c o (x.keep c o h t n m) t n m, fun c h => x.non c (y.non c h)⟩
theorem Up.own (u : Up a b H H') {c : Addr} {o : HO} (h : H c = some o) (t : Thg o) (n : c ≠ a) (m : c ≠ b.c) : H' c = some o := u.keep c o h t.nt n m
theorem Amb.at_a (m : Amb a b k H) : ∃ vs, H a = some (.lst vs) := by
  obtain ⟨_, _, _, _, e, _⟩ := m.ex
  exact ⟨_, e⟩
theorem Amb.at_b (m : Amb a b k H) : ∃ vs, H b.c = some (.lst vs) := by
  obtain ⟨_, _, _, _, _, e, _⟩ := m.ex
  exact ⟨_, e⟩
theorem Amb.fa (m : Amb a b k H) {o : Obj} {u : HO} : H a ≠ some (.frz o u) := by
  obtain ⟨_, e⟩ := m.at_a
  rw [e]; intro z; cases z
theorem Amb.fb (m : Amb a b k H) {o : Obj} {u : HO} : H b.c ≠ some (.frz o u) := by
  obtain ⟨_, e⟩ := m.at_b
  rw [e]; intro z; cases z
theorem Amb.ta (m : Amb a b k H) {xs : List V} : H a ≠ some (.tup xs) := by
  obtain ⟨_, e⟩ := m.at_a
  rw [e]; intro z; cases z
theorem Amb.tu (m : Amb a b k H) {xs : List V} : H b.c ≠ some (.tup xs) := by
  obtain ⟨_, e⟩ := m.at_b
  rw [e]; intro z; cases z
theorem Amb.na (m : Amb a b k H) : H a ≠ none := by
  obtain ⟨_, e⟩ := m.at_a
  rw [e]; intro z; cases z
theorem Amb.nb (m : Amb a b k H) : H b.c ≠ none := by
  obtain ⟨_, e⟩ := m.at_b
  rw [e]; intro z; cases z
theorem Up.ps (u : Up a b H H') (m : Amb a b k H) : Ps H H' :=
  ⟨fun c o x h => u.keep c _ h (fun ps z => by cases z) (fun z => m.fa (z ▸ h)) (fun z => m.fb (z ▸ h)), fun c xs h => u.keep c _ h (fun ps z => by cases z) (fun z => m.ta (z ▸ h)) (fun z => m.tu (z ▸ h))⟩
/-- nothing of the stream's, no table, no code object has changed -/
theorem Amb.same (m : Amb a b k H) (ha : H' a = H a) (hb : H' b.c = H b.c) (ht : LamX.Tabs b.T H') : Amb a b k H' := by
  obtain ⟨ne, ⟨xs, c, n, q, e1, e2, r⟩, _⟩ := m
  exact ⟨ne, ⟨xs, c, n, q, ha.trans e1, hb.trans e2, r⟩, ht⟩
/-- a new object -/
theorem Up.new {p : Addr} {u : HO} (hp : H p = none) : Up a b H (upd H p u) := ⟨fun c o h _ _ _ => by
  rw [upd_ne (ne_of_none h hp)]; exact h, fun c h => by
  unfold upd at h
  split at h
  · cases h
  · exact h⟩
theorem Amb.new {p : Addr} {u : HO} (m : Amb a b k H) (hp : H p = none) : Amb a b k (upd H p u) :=
  m.same (upd_ne fun z => m.na (z ▸ hp)) (upd_ne fun z => m.nb (z ▸ hp)) (m.tb.ext fun c o h => by rw [upd_ne (ne_of_none h hp)]; exact h)
/-- a list, a dict is another one -/
theorem Amb.set {D : Addr} {u u' : HO} (m : Amb a b k H) (hD : H D = some u) (t : Thg u) (na : D ≠ a) (nb : D ≠ b.c) : Amb a b k (upd H D u') := by
  refine m.same (upd_ne (Ne.symm na)) (upd_ne (Ne.symm nb)) fun p hp => ?_
  obtain ⟨ps, h1, h2, h3⟩ := m.tb p hp
  have n1 : p.1 ≠ D := fun z => by
    rw [z, hD] at h1; cases h1; exact t
  refine ⟨ps, by rw [upd_ne n1]; exact h1, h2, fun pos cv hc => ?_⟩
  obtain ⟨c, e1, e2⟩ := h3 pos cv hc
  refine ⟨c, e1, ?_⟩
  rw [upd_ne fun z => by rw [z, hD] at e2; cases e2; exact t]
  exact e2
/-- what was locked is open again -/
theorem Amb.unlk {D : Addr} {o : Obj} {w u' : HO} (m : Amb a b k H) (hD : H D = some (.frz o w)) (na : D ≠ a) (nb : D ≠ b.c) : Amb a b k (upd H D u') := by
  refine m.same (upd_ne (Ne.symm na)) (upd_ne (Ne.symm nb)) fun p hp => ?_
  obtain ⟨ps, h1, h2, h3⟩ := m.tb p hp
  have n1 : p.1 ≠ D := fun z => by
    rw [z, hD] at h1; cases h1
  refine ⟨ps, by rw [upd_ne n1]; exact h1, h2, fun pos cv hc => ?_⟩
  obtain ⟨c, e1, e2⟩ := h3 pos cv hc
  refine ⟨c, e1, ?_⟩
  rw [upd_ne fun z => by rw [z, hD] at e2; cases e2]
  exact e2
theorem Up.set {H0 : Hp} {D : Addr} {u' : HO} (u : Up a b H0 H) (h0 : H0 D = none) : Up a b H0 (upd H D u') := ⟨fun c o h t n m => by
  rw [upd_ne (fun z => by rw [z, h0] at h; cases h)]; exact u.keep c o h t n m, fun c h => by
  unfold upd at h
  split at h
  · cases h
  · exact u.non c h⟩
theorem Amb.mono {k' : Nat} (m : Amb a b k H) (h : k ≤ k') : Amb a b k' H := by
  obtain ⟨ne, ⟨xs, c, n, q, e1, e2, r1, r2, r3, r4, r5, r6⟩, t⟩ := m
  exact ⟨ne, ⟨xs, c, n, q, e1, e2, r1, r2, r3, r4, by omega, r6⟩, t⟩
end

/-! ### slots and worlds -/
inductive Slot where
  | un | fz (p : PV) | ow (p : PV)

def SlotR (a : Addr) (H : Hp) (x : Option (Option V)) : Slot → Prop
  | .un => True
  | .fz p => ∃ v, x = some (some v) ∧ Rep a H v p
  | .ow p => ∃ c u, x = some (some (.ref c)) ∧ H c = some u ∧ TopR a H u p

def Own (σ : L2.St) (S : List Slot) (i : Nat) (c : Addr) : Prop := σ[i]? = some (some (.ref c)) ∧ ∃ p, S[i]? = some (.ow p)

structure Wd (a : Addr) (b : Bs) (Hb : Hp) (σ : L2.St) (H : Hp) (S : List Slot) (k : Nat) : Prop where
  len : S.length = σ.length
  sl : ∀ (i : Nat) (t : Slot), S[i]? = some t → SlotR a H σ[i]? t
  own : ∀ (i : Nat) (c : Addr), Own σ S i c → Hb c = none ∧ c ≠ a ∧ c ≠ b.c ∧ ∀ j, Own σ S j c → j = i
  up : Up a b Hb H
  amb : Amb a b k H

theorem ps_upd {H : Hp} {c : Addr} {u u' : HO} (h : H c = some u) (mu : Mut (some u)) : Ps H (upd H c u') := by
  refine ⟨fun d o x e => ?_, fun d xs e => ?_⟩
  · rw [upd_ne]; exact e
    rintro rfl; rw [h] at e; cases e; exact mu
  · rw [upd_ne]; exact e
    rintro rfl; rw [h] at e; cases e; exact mu
section
variable {a : Addr} {b : Bs} {Hb H H' : Hp} {σ : L2.St} {S : List Slot} {k k' : Nat}
theorem Wd.expr (w : Wd a b Hb σ H S k) (u : Up a b H H') (m : Amb a b k' H') : Wd a b Hb σ H' S k' := by
  refine ⟨w.len, fun i t e => ?_, w.own, w.up.trans u, m⟩
  have q := w.sl i t e
  have ps := u.ps w.amb
  cases t with
  | un => trivial
  | fz p => obtain ⟨v, e1, r⟩ := q; exact ⟨v, e1, r.up ps⟩
  | ow l =>
    obtain ⟨c, vs, e1, h1, r⟩ := q
    obtain ⟨_, n1, n2, _⟩ := w.own i c ⟨e1, l, e⟩
    exact ⟨c, vs, e1, u.own h1 r.thg n1 n2, r.up ps⟩
theorem Wd.at_own {i : Nat} {c : Addr} (w : Wd a b Hb σ H S k) (o : Own σ S i c) : ∃ u p, H c = some u ∧ TopR a H u p ∧ S[i]? = some (.ow p) := by
  obtain ⟨e0, l, e⟩ := o
  obtain ⟨c', u, e1, h1, r⟩ := w.sl i _ e
  rw [e0] at e1; cases e1; exact ⟨u, l, h1, r, e⟩
theorem Own.lt {i : Nat} {c : Addr} (o : Own σ S i c) : i < S.length := by
  obtain ⟨_, _, e⟩ := o
  exact (List.getElem?_eq_some_iff.mp e).1
/-- slot i holds another thing, that is not own: the other own things are as they were -/
theorem own_old {i : Nat} {x : Option V} {t : Slot} (nt : ∀ p, t ≠ .ow p) {j : Nat} {c : Addr} (o : Own (σ.set i x) (S.set i t) j c) : j ≠ i ∧ Own σ S j c := by
  obtain ⟨e0, l, e⟩ := o
  have hj : j ≠ i := by
    rintro rfl
    by_cases hi : j < S.length
    · rw [List.getElem?_set_self hi] at e; cases e; exact nt _ rfl
    · rw [List.getElem?_eq_none (by simp; omega)] at e; cases e
  exact ⟨hj, by rw [← e0, List.getElem?_set_ne (Ne.symm hj)], l, by rw [← e, List.getElem?_set_ne (Ne.symm hj)]⟩
theorem own_old' {i : Nat} {t : Slot} (nt : ∀ p, t ≠ .ow p) {j : Nat} {c : Addr} (o : Own σ (S.set i t) j c) : j ≠ i ∧ Own σ S j c := by
  obtain ⟨e0, l, e⟩ := o
  have hj : j ≠ i := by
    rintro rfl
    by_cases hi : j < S.length
    · rw [List.getElem?_set_self hi] at e; cases e; exact nt _ rfl
    · rw [List.getElem?_eq_none (by simp; omega)] at e; cases e
  exact ⟨hj, e0, l, by rw [← e, List.getElem?_set_ne (Ne.symm hj)]⟩
/-- a frozen value stored -/
theorem Wd.set {i : Nat} {v : V} {p : PV} (w : Wd a b Hb σ H S k) (hi : i < S.length) (r : Rep a H v p) : Wd a b Hb (σ.set i (some v)) H (S.set i (.fz p)) k := by
  have hs : i < σ.length := w.len ▸ hi
  refine ⟨by simp [w.len], fun j t e => ?_, fun j c o => ?_, w.up, w.amb⟩
  · by_cases hj : j = i
    · subst hj
      rw [List.getElem?_set_self hi] at e; cases e
      exact ⟨v, List.getElem?_set_self hs, r⟩
    · rw [List.getElem?_set_ne (Ne.symm hj)] at e ⊢
      exact w.sl j t e
  · obtain ⟨hj, o'⟩ := own_old (fun _ z => by cases z) o
    obtain ⟨q1, q2, q3, q4⟩ := w.own j c o'
    exact ⟨q1, q2, q3, fun j' o2 => q4 j' (own_old (fun _ z => by cases z) o2).2⟩
/-- a slot forgotten -/
theorem Wd.drop {i : Nat} {x : Option V} (w : Wd a b Hb σ H S k) : Wd a b Hb (σ.set i x) H (S.set i .un) k := by
  refine ⟨by simp [w.len], fun j t e => ?_, fun j c o => ?_, w.up, w.amb⟩
  · by_cases hj : j = i
    · subst hj
      by_cases hi : j < S.length
      · rw [List.getElem?_set_self hi] at e; cases e; trivial
      · rw [List.getElem?_eq_none (by simp; omega)] at e; cases e
    · rw [List.getElem?_set_ne (Ne.symm hj)] at e ⊢
      exact w.sl j t e
  · obtain ⟨hj, o'⟩ := own_old (fun _ z => by cases z) o
    obtain ⟨q1, q2, q3, q4⟩ := w.own j c o'
    exact ⟨q1, q2, q3, fun j' o2 => q4 j' (own_old (fun _ z => by cases z) o2).2⟩
/-- a new own thing, stored -/
theorem Wd.setOwn {i : Nat} {c : Addr} {u : HO} {p : PV} {H0 : Hp} (w : Wd a b Hb σ H0 S k') (x : Up a b H0 H) (m : Amb a b k H) (hi : i < S.length) (hn : H0 c = none) (h : H c = some u) (o : TopR a H u p) :
    Wd a b Hb (σ.set i (some (.ref c))) H (S.set i (.ow p)) k := by
  have w' := w.expr x m
  have hs : i < σ.length := w.len ▸ hi
  have na : c ≠ a := fun z => w.amb.na (z ▸ hn)
  have nb : c ≠ b.c := fun z => w.amb.nb (z ▸ hn)
  have hb : Hb c = none := w.up.non c hn
  have old : ∀ j d, j ≠ i → Own (σ.set i (some (.ref c))) (S.set i (.ow p)) j d → Own σ S j d := fun j d hj o => by
    obtain ⟨e0, l, e⟩ := o
    exact ⟨by rw [← e0, List.getElem?_set_ne (Ne.symm hj)], l, by rw [← e, List.getElem?_set_ne (Ne.symm hj)]⟩
  have nc : ∀ j, j ≠ i → ¬ Own (σ.set i (some (.ref c))) (S.set i (.ow p)) j c := fun j hj o => by
    obtain ⟨_, _, q, _⟩ := w.at_own (old j c hj o)
    rw [hn] at q; cases q
  have self : ∀ d, Own (σ.set i (some (.ref c))) (S.set i (.ow p)) i d → d = c := fun d o => by
    have := o.1
    rw [List.getElem?_set_self hs] at this
    cases this; rfl
  refine ⟨by simp [w.len], fun j t' e => ?_, fun j d o' => ?_, w'.up, m⟩
  · by_cases hj : j = i
    · subst hj
      rw [List.getElem?_set_self hi] at e; cases e
      exact ⟨c, u, List.getElem?_set_self hs, h, o⟩
    · rw [List.getElem?_set_ne (Ne.symm hj)] at e ⊢
      exact w'.sl j t' e
  · by_cases hj : j = i
    · subst hj
      obtain rfl := self d o'
      exact ⟨hb, na, nb, fun j' o2 => Classical.byContradiction fun z => nc j' z o2⟩
    · obtain ⟨q1, q2, q3, q4⟩ := w.own j d (old j d hj o')
      refine ⟨q1, q2, q3, fun j' o2 => ?_⟩
      by_cases hj' : j' = i
      · subst hj'
        obtain rfl := self d o2
        exact absurd o' (nc j hj)
      · exact q4 j' (old j' d hj' o2)
/-- the object of an own thing is another one now, all else as it was -/
theorem Wd.turn {i : Nat} {c : Addr} {u : HO} {t : Slot} (w : Wd a b Hb σ H S k) (oc : Own σ S i c) (h : SlotR a (upd H c u) σ[i]? t) : Wd a b Hb σ (upd H c u) (S.set i t) k := by
  obtain ⟨hb, na, nb, q⟩ := w.own i c oc
  have hi := oc.lt
  obtain ⟨u0, p0, h0, r0, _⟩ := w.at_own oc
  have p : Ps H (upd H c u) := ps_upd h0 r0.mut
  have old : ∀ j d, Own σ (S.set i t) j d → Own σ S j d := fun j d o' => by
    by_cases hj : j = i
    · subst hj; exact ⟨o'.1, oc.2⟩
    · obtain ⟨e0, l, e⟩ := o'
      exact ⟨e0, l, by rw [← e, List.getElem?_set_ne (Ne.symm hj)]⟩
  refine ⟨by simp [w.len], fun j t' e => ?_, fun j d o' => ?_, w.up.set hb, w.amb.set h0 r0.thg na nb⟩
  · by_cases hj : j = i
    · subst hj
      rw [List.getElem?_set_self hi] at e; cases e
      exact h
    · rw [List.getElem?_set_ne (Ne.symm hj)] at e
      have z := w.sl j t' e
      cases t' with
      | un => trivial
      | fz pv => obtain ⟨v, e1, r⟩ := z; exact ⟨v, e1, r.up p⟩
      | ow l =>
        obtain ⟨d, vs, e1, h1, r⟩ := z
        have hd : d ≠ c := by
          rintro rfl
          exact hj (q j ⟨e1, l, e⟩)
        exact ⟨d, vs, e1, by rw [upd_ne hd]; exact h1, r.up p⟩
  · obtain ⟨q1, q2, q3, q4⟩ := w.own j d (old j d o')
    exact ⟨q1, q2, q3, fun j' o2 => q4 j' (old j' d o2)⟩
/-- an own thing is changed -/
theorem Wd.change {i : Nat} {c : Addr} {u : HO} {p : PV} (w : Wd a b Hb σ H S k) (oc : Own σ S i c) (o : TopR a H u p) : Wd a b Hb σ (upd H c u) (S.set i (.ow p)) k := by
  obtain ⟨u0, p0, h0, r0, _⟩ := w.at_own oc
  exact w.turn oc ⟨c, u, oc.1, upd_same, o.up (ps_upd h0 r0.mut)⟩
/-- an own thing is frozen -/
theorem Wd.freeze {i : Nat} {c : Addr} {u : HO} {od : Obj} {p : PV} (w : Wd a b Hb σ H S k) (oc : Own σ S i c) (h : H c = some u) (r : TopR a H u p) :
    Wd a b Hb σ (upd H c (.frz od u)) (S.set i (.fz p)) k :=
  w.turn oc ⟨_, oc.1, .frz upd_same (r.up (ps_upd h r.mut))⟩
/-- a new base: all that is no slot's own -/
theorem Wd.base (w : Wd a b Hb σ H S k) : ∃ Hc, Wd a b Hc σ H S k ∧ Up a b Hb Hc ∧ Up a b Hc H ∧ ∀ c o, H c = some o → (∀ i, ¬ Own σ S i c) → Hc c = some o := by
  classical
  have val : ∀ c o, (fun c => if ∃ i, Own σ S i c then none else H c) c = some o → H c = some o := fun c o e => by
    replace e : (if ∃ i, Own σ S i c then none else H c) = some o := e
    by_cases z : ∃ i, Own σ S i c
    · rw [if_pos z] at e; cases e
    · rw [if_neg z] at e; exact e
  have uh : Up a b (fun c => if ∃ i, Own σ S i c then none else H c) H := ⟨fun c o e _ _ _ => val c o e, fun c e => by
    show (if ∃ i, Own σ S i c then none else H c) = none
    split
    · rfl
    · exact e⟩
  refine ⟨fun c => if ∃ i, Own σ S i c then none else H c, ⟨w.len, w.sl, fun i c o => ?_, uh, w.amb⟩, ⟨fun c o e t n1 n2 => ?_, fun c e => ?_⟩, uh, fun c o e n => ?_⟩
  · obtain ⟨_, q⟩ := w.own i c o
    exact ⟨if_pos ⟨i, o⟩, q⟩
  · have z : ¬ ∃ i, Own σ S i c := fun ⟨i, o'⟩ => by
      rw [(w.own i c o').1] at e; cases e
    show (if ∃ i, Own σ S i c then none else H c) = some o
    rw [if_neg z]; exact w.up.keep c o e t n1 n2
  · by_cases z : ∃ i, Own σ S i c
    · obtain ⟨i, o⟩ := z
      exact (w.own i c o).1
    · replace e : (if ∃ i, Own σ S i c then none else H c) = none := e
      rw [if_neg z] at e
      exact w.up.non c e
  · show (if ∃ i, Own σ S i c then none else H c) = some o
    rw [if_neg fun ⟨i, o'⟩ => n i o']; exact e
theorem Wd.rebase {Hc : Hp} (w : Wd a b Hc σ H S k) (u : Up a b Hb Hc) : Wd a b Hb σ H S k := by
  refine ⟨w.len, w.sl, fun i c o => ?_, u.trans w.up, w.amb⟩
  obtain ⟨q1, q2, q3, q4⟩ := w.own i c o
  exact ⟨u.non c q1, q2, q3, q4⟩
end
end TL
set_option Elab.async false
set_option linter.all false
set_option maxRecDepth 100000
set_option autoImplicit false
/-! T2: judgements over trees; expressions. -/
namespace TL
open PySem
open PySem.Spec
open PyProof.Rows
open L2

/-! ### what is asked of a def, by trees -/
abbrev PK := PV → Nat → Prop
abbrev TSp := List PV → Nat → PK → Prop
def spT (a : Addr) (b : Bs) (n : Nat) (τ : TSp) : Sp := fun vs H Q _ => vs.length = n ∧ ∃ ps k R, Reps a H vs ps ∧ Amb a b k H ∧ τ ps k R ∧
  ∀ p k' v H', Up a b H H' → Amb a b k' H' → Rep a H' v p → R p k' → Q v H'

/-- the written part of the code around -/
structure CtS where
  N : List Str
  sc : Scope
  fnb : Str → Bool
/-- the rest -/
structure CtD where
  a : Addr
  b : Bs
  fns : List (Str × Nat × TSp)
  bl : List Str
  tb : Option (Addr × Str) := none

def FAt (A : CtD) (X : Cx) (e : Str × Nat × TSp) : Prop := ∃ (f : Addr) (fd : FuncData) (ps : List Str) (j : Nat), X.mg e.1 = some (.ref f) ∧ PySem.W.keepIn X.K (.ref f) = true ∧ Binds X.K fd ps [] ∧ ps.length = e.2.1 ∧
  FnOk X.prog X.w X.K X.mg X.base CX0 j f fd ps (spT A.a A.b e.2.1 e.2.2) ∧ Room j X.A

structure TX (A : CtD) (s : CtS) (X : Cx) : Prop where
  hN : X.N = s.N
  nd : X.N.Nodup
  sc : X.env.scope = s.sc
  kind : s.sc.kind = .function
  calm : X.calm = true
  fn : ∀ x, s.fnb x = true → X.fn x = true
  xe : X.xe = fun _ _ => False
  room : Room 6 X.A
  bl : ∀ x ∈ A.bl, X.mg x = none
  fns : ∀ e ∈ A.fns, FAt A X e
  tab : ∀ P q, A.tb = some (P, q) → (P, q) ∈ A.b.T ∧ (∀ p ∈ A.b.T, p.1 = P → p.2 = q) ∧ X.env.qual ++ "<lambda>" = q ∧ Room 8 X.A ∧ ∃ c, X.env.code = .ref c ∧ LamX.TabB X.base X.mg c P
section
variable {A : CtD} {s : CtS} {X : Cx}
theorem TX.u64 (t : TX A s X) : X.A.units + 64 < cLine := t.room.units
theorem TX.u1 (t : TX A s X) : X.A.units + 1 < cLine := by have := t.room.un; omega
theorem TX.u0 (t : TX A s X) : X.A.units < cLine := by have := t.room.un; omega
theorem TX.u65 (t : TX A s X) : X.A.units + 65 < cLine := by have := t.room.un; omega
theorem TX.gl (t : TX A s X) {x : Str} (h : s.sc.names.lookup x = some .globalImplicit) : Gl X x := by
  show X.env.scope.names.lookup x = some .globalImplicit
  rw [t.sc]; exact h
end

/-! ### readings -/
abbrev WE := List Slot → Nat → PK → Prop
abbrev WT := List Slot → Nat → (Bool → Nat → Prop) → Prop
abbrev WA := List Slot → Nat → (List PV → Nat → Prop) → Prop

/-- an operand: a tree, or an own thing as it stands -/
inductive RepO (a : Addr) (b : Bs) (H : Hp) : V → PV → Prop
  | r {v : V} {p : PV} : Rep a H v p → RepO a b H v p
  | o {c : Addr} {u : HO} {p : PV} : H c = some u → c ≠ a → c ≠ b.c → TopR a H u p → RepO a b H (.ref c) p
theorem RepO.up {a : Addr} {b : Bs} {H H' : Hp} {v : V} {p : PV} {k : Nat} (m : Amb a b k H) (u : Up a b H H') : RepO a b H v p → RepO a b H' v p := fun q => by
  cases q with
  | r r => exact .r (r.up (u.ps m))
  | o h n1 n2 r => exact .o (u.own h r.thg n1 n2) n1 n2 (r.up (u.ps m))

def Post {α β : Type} (A : CtD) (Rl : Hp → α → β → Prop) (R : β → Nat → Prop) (H : Hp) (Q : α → Hp → Prop) : Prop :=
  ∀ p k v H', Up A.a A.b H H' → Amb A.a A.b k H' → Rl H' v p → R p k → Q v H'
def rdG {α β : Type} (A : CtD) (Rl : Hp → α → β → Prop) (w : List Slot → Nat → (β → Nat → Prop) → Prop) : L2.St → Hp → (α → Hp → Prop) → Prop := fun σ H Q =>
  ∃ Hb S k R, Wd A.a A.b Hb σ H S k ∧ w S k R ∧ Post A Rl R H Q
abbrev rdE (A : CtD) (w : WE) : TE := rdG A (fun H v p => Rep A.a H v p) w
abbrev rdO (A : CtD) (w : WE) : TE := rdG A (fun H v p => RepO A.a A.b H v p) w
abbrev rdT (A : CtD) (w : WT) : TT := rdG A (fun _ v p => v = p) w
abbrev rdA (A : CtD) (w : WA) : TA := rdG A (fun H v p => Reps A.a H v p) w
/-- a new list or dict, still open -/
inductive RepF (a : Addr) (b : Bs) (H0 H : Hp) : V → PV → Prop
  | o {c : Addr} {u : HO} {p : PV} : H0 c = none → H c = some u → TopR a H u p → RepF a b H0 H (.ref c) p
def rdF (A : CtD) (w : WE) : TE := fun σ H Q => ∃ Hb S k R, Wd A.a A.b Hb σ H S k ∧ w S k R ∧ ∀ p k v H', Up A.a A.b H H' → Amb A.a A.b k H' → RepF A.a A.b H H' v p → R p k → Q v H'

structure SE (A : CtD) (s : CtS) (e : Expr) (w : WE) : Prop where
  run : ∀ X, TX A s X → PE X e (rdE A w)
structure SO (A : CtD) (s : CtS) (e : Expr) (w : WE) : Prop where
  run : ∀ X, TX A s X → PE X e (rdO A w)
structure SF (A : CtD) (s : CtS) (e : Expr) (w : WE) : Prop where
  run : ∀ X, TX A s X → PE X e (rdF A w)
structure ST (A : CtD) (s : CtS) (e : Expr) (w : WT) : Prop where
  run : ∀ X, TX A s X → PT X e (rdT A w)
structure SW (A : CtD) (s : CtS) (e : Expr) (w : WT) : Prop where
  run : ∀ X, TX A s X → PW X e (rdT A w)
structure SA (A : CtD) (s : CtS) (es : List Expr) (w : WA) : Prop where
  run : ∀ X, TX A s X → PA X es (rdA A w)

/-! ### weaker readings -/
section
variable {X : Cx} {e : Expr} {st : Stmt} {sts : List Stmt} {es : List Expr}
theorem pe_imp {t t' : TE} (h : PE X e t) (i : ∀ σ H Q, t' σ H Q → t σ H Q) : PE X e t' := ⟨fun pins s σ H Q I q => h.run pins s σ H Q I (i σ H Q q)⟩
theorem pt_imp {t t' : TT} (h : PT X e t) (i : ∀ σ H Q, t' σ H Q → t σ H Q) : PT X e t' := ⟨fun pins s σ H Q I q => h.run pins s σ H Q I (i σ H Q q)⟩
theorem pw_imp {t t' : TT} (h : PW X e t) (i : ∀ σ H Q, t' σ H Q → t σ H Q) : PW X e t' := ⟨fun wh pins s σ H Q I q => h.run wh pins s σ H Q I (i σ H Q q)⟩
theorem pa_imp {t t' : TA} (h : PA X es t) (i : ∀ σ H Q, t' σ H Q → t σ H Q) : PA X es t' := ⟨fun pos pins s σ H Q I q => h.run pos pins s σ H Q I (i σ H Q q)⟩
theorem ps_imp {t t' : TS} (h : PS X st t) (i : ∀ D σ H, t' D σ H → t D σ H) : PS X st t' := ⟨fun pins s σ H D I q => h.run pins s σ H D I (i D σ H q)⟩
theorem pss_imp {t t' : TS} (h : PSs X sts t) (i : ∀ D σ H, t' D σ H → t D σ H) : PSs X sts t' := ⟨fun pins s σ H D I q => h.run pins s σ H D I (i D σ H q)⟩
/-- the value may be frozen as it comes -/
theorem pe_fz {t : TE} (h : PE X e t) : PE X e (fun σ H Q => t σ H fun v H1 => Q v H1 ∨ ∃ d u, v = .ref d ∧ H1 d = some u ∧ Mut (some u) ∧ ∀ od, Q v (upd H1 d (.frz od u))) := by
  refine ⟨fun pins s σ H Q I hq => ?_⟩
  refine thn (h.run pins s σ H _ I hq) fun u s1 ⟨v, H1, I1, r1, q1⟩ => ?_
  rcases q1 with q1 | ⟨d, o, rfl, hd, mu, q1⟩
  · exact ⟨v, H1, I1, r1, q1⟩
  · obtain ⟨od, I2⟩ := I1.lock hd mu
    exact ⟨_, _, I2, r1, q1 od⟩
end

section
variable {A : CtD} {s : CtS} {X : Cx}
/-- one reading, then the next -/
theorem rd_step {α β : Type} {Rl : Hp → α → β → Prop} {w : List Slot → Nat → (β → Nat → Prop) → Prop} {σ : L2.St} {H Hb : Hp} {S : List Slot} {k : Nat} {R : β → Nat → Prop} {Q : α → Hp → Prop}
    (W : Wd A.a A.b Hb σ H S k) (h : w S k R) (q : Post A Rl R H Q) : rdG A Rl w σ H Q := ⟨Hb, S, k, R, W, h, q⟩
theorem RepF.toO {H0 H : Hp} {v : V} {p : PV} {a : Addr} {b : Bs} {k : Nat} (m : Amb a b k H0) : RepF a b H0 H v p → RepO a b H v p := fun q => by
  cases q with
  | o n h r => exact .o h (fun z => m.na (z ▸ n)) (fun z => m.nb (z ▸ n)) r
theorem SE.o {e : Expr} {w : WE} (h : SE A s e w) : SO A s e w := ⟨fun X t => pe_imp (h.run X t) fun σ H Q ⟨Hb, S, k, R, W, x, q⟩ => ⟨Hb, S, k, R, W, x, fun p k v H' u m r y => q p k v H' u m (.r r) y⟩⟩
/-- a new thing is frozen -/
theorem RepF.fz {H0 H : Hp} {v : V} {p : PV} {a : Addr} {b : Bs} {k : Nat} {Q : VK} (m0 : Amb a b k H0) {k' : Nat} (m : Amb a b k' H) (u : Up a b H0 H) (r : RepF a b H0 H v p)
    (h : ∀ H', Up a b H0 H' → Amb a b k' H' → Rep a H' v p → Q v H') : ∃ d x, v = .ref d ∧ H d = some x ∧ Mut (some x) ∧ ∀ od, Q v (upd H d (.frz od x)) := by
  cases r with
  | @o c u0 p n hc r =>
    refine ⟨c, _, rfl, hc, r.mut, fun od => h _ (u.set n) (m.set hc r.thg (fun z => m0.na (z ▸ n)) fun z => m0.nb (z ▸ n)) (.frz upd_same (r.up (ps_upd hc r.mut)))⟩
theorem SF.e {e : Expr} {w : WE} (h : SF A s e w) : SE A s e w := ⟨fun X t => pe_imp (pe_fz (h.run X t)) fun σ H Q ⟨Hb, S, k, R, W, x, q⟩ => ⟨Hb, S, k, R, W, x, fun p k v H' u m r y =>
  .inr (r.fz W.amb m u fun H2 u2 m2 r2 => q p k v H2 u2 m2 r2 y)⟩⟩
theorem SF.o {e : Expr} {w : WE} (h : SF A s e w) : SO A s e w := ⟨fun X t => pe_imp (h.run X t) fun σ H Q ⟨Hb, S, k, R, W, x, q⟩ => ⟨Hb, S, k, R, W, x, fun p k v H' u m r y =>
  q p k v H' u m (r.toO W.amb) y⟩⟩

/-! ### names, constants -/
def visB (sc : Scope) (x : Str) : Bool := match sc.names.lookup x with
  | some .local => true
  | some .cell => true
  | some .free => true
  | _ => false
theorem vis_of {sc : Scope} {x : Str} (h : visB sc x = true) : Vis sc x := by
  unfold visB at h
  unfold Vis
  split at h
  · rename_i e; exact .inl e
  · rename_i e; exact .inr (.inl e)
  · rename_i e; exact .inr (.inr e)
  · cases h
/-- the name x stands in slot i -/
def vOk (s : CtS) (i : Nat) (x : Str) : Bool := decide (s.N[i]? = some x) && visB s.sc x && !(x == ("__debug__" : Str)) && !(x == ("__classdict__" : Str))
theorem vOk.ix {i : Nat} {x : Str} (h : vOk s i x = true) : s.N[i]? = some x := by
  unfold vOk at h; simp only [Bool.and_eq_true, decide_eq_true_eq] at h; exact h.1.1.1
theorem vOk.vis {i : Nat} {x : Str} (h : vOk s i x = true) : Vis s.sc x := by
  unfold vOk at h; simp only [Bool.and_eq_true] at h; exact vis_of h.1.1.2
theorem vOk.pe {i : Nat} {x : Str} {pos : Pos} (h : vOk s i x = true) (t : TX A s X) : PE X (.Name x pos) (tVar i) := by
  have h1 := vOk.ix h
  have h2 := vOk.vis h
  unfold vOk at h
  simp only [Bool.and_eq_true, Bool.not_eq_true'] at h
  exact pe_var (by rw [t.hN]; exact h1) (by rw [t.sc]; exact h2) h.1.2 h.2
def wVar (i : Nat) : WE := fun S k R => match S[i]? with
  | some (.fz p) => R p k
  | _ => False
def wRd (i : Nat) : WE := fun S k R => match S[i]? with
  | some (.fz p) => R p k
  | some (.ow p) => R p k
  | _ => False
theorem se_var {i : Nat} {x : Str} {pos : Pos} (h : vOk s i x = true) : SE A s (.Name x pos) (wVar i) := by
  refine ⟨fun X t => pe_imp (vOk.pe h t) fun σ H Q ⟨Hb, S, k, R, W, x, q⟩ => ?_⟩
  unfold wVar at x
  split at x
  · rename_i p e
    obtain ⟨v, e1, r⟩ := W.sl i _ e
    exact ⟨v, e1, q p k v H Up.refl W.amb r x⟩
  · exact x.elim
theorem so_rd {i : Nat} {x : Str} {pos : Pos} (h : vOk s i x = true) : SO A s (.Name x pos) (wRd i) := by
  refine ⟨fun X t => pe_imp (vOk.pe h t) fun σ H Q ⟨Hb, S, k, R, W, x, q⟩ => ?_⟩
  unfold wRd at x
  split at x
  · rename_i p e
    obtain ⟨v, e1, r⟩ := W.sl i _ e
    exact ⟨v, e1, q p k v H Up.refl W.amb (.r r) x⟩
  · rename_i p e
    obtain ⟨c, u, e1, h1, r⟩ := W.sl i _ e
    obtain ⟨_, n1, n2, _⟩ := W.own i c ⟨e1, _, e⟩
    exact ⟨_, e1, q _ k _ H Up.refl W.amb (.o h1 n1 n2 r) x⟩
  · exact x.elim
def wC (p : PV) : WE := fun _ k R => R p k
theorem se_int {i : Int} {j pos} : SE A s (.Constant (.int i) j pos) (wC (.int i)) := ⟨fun X t => pe_imp pe_int fun σ H Q ⟨Hb, S, k, R, W, x, q⟩ => q _ k _ H Up.refl W.amb (.int i) x⟩
theorem se_bl {i : Bool} {j pos} : SE A s (.Constant (.bool i) j pos) (wC (.bl i)) := ⟨fun X t => pe_imp pe_bl fun σ H Q ⟨Hb, S, k, R, W, x, q⟩ => q _ k _ H Up.refl W.amb (.bl i) x⟩
theorem se_non {j pos} : SE A s (.Constant .none j pos) (wC .non) := ⟨fun X t => pe_imp pe_non fun σ H Q ⟨Hb, S, k, R, W, x, q⟩ => q _ k _ H Up.refl W.amb .non x⟩
theorem se_str {i : Str} {j pos} : SE A s (.Constant (.str i) j pos) (wC (.str i)) := ⟨fun X t => pe_imp pe_str fun σ H Q ⟨Hb, S, k, R, W, x, q⟩ => q _ k _ H Up.refl W.amb (.str i) x⟩

/-! ### two operands, then an operation by values -/
def w2 (wa wb : WE) (f : PV → PV → (PV → Prop) → Prop) : WE := fun S k R => wa S k fun p k1 => wb S k1 fun q k2 => f p q fun r => R r k2
def w1 (wa : WE) (f : PV → (PV → Prop) → Prop) : WE := fun S k R => wa S k fun p k1 => f p fun r => R r k1
/-- a reading of values that serves a step of trees -/
def Sv2 (A : CtD) (r : R2) (f : PV → PV → (PV → Prop) → Prop) : Prop := ∀ H k x y p q R (Q : VK), Amb A.a A.b k H → RepO A.a A.b H x p → RepO A.a A.b H y q → f p q R →
  (∀ z v H', Up A.a A.b H H' → Amb A.a A.b k H' → Rep A.a H' v z → R z → Q v H') → r x y H fun v H1 => Q v H1 ∨ ∃ d u, v = .ref d ∧ H1 d = some u ∧ Mut (some u) ∧ ∀ od, Q v (upd H1 d (.frz od u))
def Sv1 (A : CtD) (r : V → Hp → VK → Prop) (f : PV → (PV → Prop) → Prop) : Prop := ∀ H k x p R (Q : VK), Amb A.a A.b k H → RepO A.a A.b H x p → f p R →
  (∀ z v H', Up A.a A.b H H' → Amb A.a A.b k H' → Rep A.a H' v z → R z → Q v H') → r x H fun v H1 => Q v H1 ∨ ∃ d u, v = .ref d ∧ H1 d = some u ∧ Mut (some u) ∧ ∀ od, Q v (upd H1 d (.frz od u))
theorem s2_of {e ea eb : Expr} {wa wb : WE} {f : PV → PV → (PV → Prop) → Prop} {r : R2} (sv : Sv2 A r f) (ha : SO A s ea wa) (hb : SO A s eb wb)
    (h : ∀ X, TX A s X → PE X ea (rdO A wa) → PE X eb (rdO A wb) → PE X e (tOp r (rdO A wa) (rdO A wb))) : SE A s e (w2 wa wb f) := by
  refine ⟨fun X t => pe_imp (pe_fz (h X t (ha.run X t) (hb.run X t))) fun σ H Q ⟨Hb, S, k, R, W, x, q⟩ => ?_⟩
  refine rd_step W x fun p k1 v H1 u1 m1 r1 x1 => ?_
  refine rd_step (W.expr u1 m1) x1 fun p2 k2 v2 H2 u2 m2 r2 x2 => ?_
  exact sv H2 k2 v v2 p p2 _ Q m2 (r1.up m1 u2) r2 x2 fun z v3 H3 u3 m3 r3 x3 => q z k2 v3 H3 ((u1.trans u2).trans u3) m3 r3 x3
theorem s2_x {e ea eb : Expr} {wa wb : WE} {f : PV → PV → (PV → Prop) → Prop} {r : Cx → R2} (sv : ∀ X, TX A s X → Sv2 A (r X) f) (ha : SO A s ea wa) (hb : SO A s eb wb)
    (h : ∀ X, TX A s X → PE X ea (rdO A wa) → PE X eb (rdO A wb) → PE X e (tOp (r X) (rdO A wa) (rdO A wb))) : SE A s e (w2 wa wb f) := by
  refine ⟨fun X t => pe_imp (pe_fz (h X t (ha.run X t) (hb.run X t))) fun σ H Q ⟨Hb, S, k, R, W, x, q⟩ => ?_⟩
  refine rd_step W x fun p k1 v H1 u1 m1 r1 x1 => ?_
  refine rd_step (W.expr u1 m1) x1 fun p2 k2 v2 H2 u2 m2 r2 x2 => ?_
  exact sv X t H2 k2 v v2 p p2 _ Q m2 (r1.up m1 u2) r2 x2 fun z v3 H3 u3 m3 r3 x3 => q z k2 v3 H3 ((u1.trans u2).trans u3) m3 r3 x3
theorem s1_x {e ea : Expr} {wa : WE} {f : PV → (PV → Prop) → Prop} {r : Cx → V → Hp → VK → Prop} (sv : ∀ X, TX A s X → Sv1 A (r X) f) (ha : SO A s ea wa)
    (h : ∀ X, TX A s X → PE X ea (rdO A wa) → PE X e (tUn (r X) (rdO A wa))) : SE A s e (w1 wa f) := by
  refine ⟨fun X t => pe_imp (pe_fz (h X t (ha.run X t))) fun σ H Q ⟨Hb, S, k, R, W, x, q⟩ => ?_⟩
  refine rd_step W x fun p k1 v H1 u1 m1 r1 x1 => ?_
  exact sv X t H1 k1 v p _ Q m1 r1 x1 fun z v3 H3 u3 m3 r3 x3 => q z k1 v3 H3 (u1.trans u3) m3 r3 x3
/-- the same, the answer a new list or dict, still open -/
def SvF (A : CtD) (r : V → Hp → VK → Prop) (f : PV → (PV → Prop) → Prop) : Prop := ∀ H k x p R (Q : VK), Amb A.a A.b k H → RepO A.a A.b H x p → f p R →
  (∀ z v H', Up A.a A.b H H' → Amb A.a A.b k H' → RepF A.a A.b H H' v z → R z → Q v H') → r x H Q
theorem RepF.was {a : Addr} {b : Bs} {H H1 H' : Hp} {k : Nat} {v : V} {p : PV} (u : Up a b H H1) (m : Amb a b k H1) (r : RepF a b H1 H' v p) : RepF a b H H' v p := by
  cases r with
  | @o c x p n h r =>
    exact .o (u.non c n) h r
theorem s1_f {e ea : Expr} {wa : WE} {f : PV → (PV → Prop) → Prop} {r : Cx → V → Hp → VK → Prop} (sv : ∀ X, TX A s X → SvF A (r X) f) (ha : SO A s ea wa)
    (h : ∀ X, TX A s X → PE X ea (rdO A wa) → PE X e (tUn (r X) (rdO A wa))) : SF A s e (w1 wa f) := by
  refine ⟨fun X t => pe_imp (h X t (ha.run X t)) fun σ H Q ⟨Hb, S, k, R, W, x, q⟩ => ?_⟩
  refine rd_step W x fun p k1 v H1 u1 m1 r1 x1 => ?_
  exact sv X t H1 k1 v p _ Q m1 r1 x1 fun z v3 H3 u3 m3 r3 x3 => q z k1 v3 H3 (u1.trans u3) m3 (r3.was u1 m1) x3
theorem s1_of {e ea : Expr} {wa : WE} {f : PV → (PV → Prop) → Prop} {r : V → Hp → VK → Prop} (sv : Sv1 A r f) (ha : SO A s ea wa)
    (h : ∀ X, TX A s X → PE X ea (rdO A wa) → PE X e (tUn r (rdO A wa))) : SE A s e (w1 wa f) := by
  refine ⟨fun X t => pe_imp (pe_fz (h X t (ha.run X t))) fun σ H Q ⟨Hb, S, k, R, W, x, q⟩ => ?_⟩
  refine rd_step W x fun p k1 v H1 u1 m1 r1 x1 => ?_
  exact sv H1 k1 v p _ Q m1 r1 x1 fun z v3 H3 u3 m3 r3 x3 => q z k1 v3 H3 (u1.trans u3) m3 r3 x3
/-- the answer is new -/
theorem new_o {A : CtD} {H : Hp} {k : Nat} {u : HO} {ps : PV} {p : Addr} {Q : VK} (m : Amb A.a A.b k H) (hp : H p = none) (r : TopR A.a H u ps)
    (h : ∀ v H', Up A.a A.b H H' → Amb A.a A.b k H' → Rep A.a H' v ps → Q v H') : ∃ d x, V.ref p = .ref d ∧ (upd H p u) d = some x ∧ Mut (some x) ∧ ∀ od, Q (.ref p) (upd (upd H p u) d (.frz od x)) := by
  refine ⟨p, _, rfl, upd_same, r.mut, fun od => ?_⟩
  rw [upd_upd]
  exact h _ _ (Up.new hp) (m.new hp) (.frz upd_same (r.up ((Up.new (a := A.a) (b := A.b) hp).ps m)))

/-! ### lists and tuples that are read -/
/-- a list, a dict: what stands there -/
theorem RepO.top {a : Addr} {b : Bs} {H : Hp} {v : V} {p : PV} (r : RepO a b H v p) : (∃ c u, v = .ref c ∧ Rd H c u ∧ TopR a H u p) ∨ Rep a H v p := by
  cases r with
  | r r => exact .inr r
  | o h _ _ r => exact .inl ⟨_, _, rfl, .inl h, r⟩
theorem RepO.lst {a : Addr} {b : Bs} {H : Hp} {v : V} {ps : List PV} (K : PySem.W.Frag) (r : RepO a b H v (.lst ps)) : ∃ c vs, v = .ref c ∧ Rd H c (.lst vs) ∧ SqL K H c vs ∧ Reps a H vs ps := by
  cases r with
  | r r => cases r with
    | frz h r => cases r with
      | l r => exact ⟨_, _, rfl, .inr ⟨_, h⟩, .inl (.inr ⟨_, h⟩), r⟩
  | o h _ _ r => cases r with
    | l r => exact ⟨_, _, rfl, .inl h, .inl (.inl h), r⟩
theorem RepO.tup {a : Addr} {b : Bs} {H : Hp} {v : V} {ps : List PV} (K : PySem.W.Frag) (r : RepO a b H v (.tup ps)) : ∃ c vs, v = .ref c ∧ H c = some (.tup vs) ∧ SqT K H c vs ∧ Reps a H vs ps := by
  cases r with
  | r r => cases r with
    | frz h r => cases r
    | tup h r => exact ⟨_, _, rfl, h, .inl (.inl h), r⟩
  | o h _ _ r => cases r
theorem RepO.dk {a : Addr} {b : Bs} {H : Hp} {v : V} {ps : List (Key × PV)} (r : RepO a b H v (.dk ps)) : ∃ c kvs, v = .ref c ∧ Rd H c (.dK kvs) ∧ RepK a H kvs ps := by
  cases r with
  | r r => cases r with
    | frz h r => cases r with
      | k r => exact ⟨_, _, rfl, .inr ⟨_, h⟩, r⟩
  | o h _ _ r => cases r with
    | k r => exact ⟨_, _, rfl, .inl h, r⟩
theorem RepO.dt {a : Addr} {b : Bs} {H : Hp} {v : V} {ps : List (List Key × PV)} (r : RepO a b H v (.dt ps)) : ∃ c kvs, v = .ref c ∧ Rd H c (.dT kvs) ∧ RepT a H kvs ps := by
  cases r with
  | r r => cases r with
    | frz h r => cases r with
      | t r => exact ⟨_, _, rfl, .inr ⟨_, h⟩, r⟩
  | o h _ _ r => cases r with
    | t r => exact ⟨_, _, rfl, .inl h, r⟩
theorem RepO.int {a : Addr} {b : Bs} {H : Hp} {v : V} {i : Int} (r : RepO a b H v (.int i)) : v = .int i := by
  cases r with
  | r r => cases r with
    | int _ => rfl
    | frz h r => cases r
  | o h _ _ r => cases r
theorem RepO.str {a : Addr} {b : Bs} {H : Hp} {v : V} {i : Str} (r : RepO a b H v (.str i)) : v = .str i := by
  cases r with
  | r r => cases r with
    | str _ => rfl
    | frz h r => cases r
  | o h _ _ r => cases r
theorem RepO.bl {a : Addr} {b : Bs} {H : Hp} {v : V} {i : Bool} (r : RepO a b H v (.bl i)) : v = .bl i := by
  cases r with
  | r r => cases r with
    | bl _ => rfl
    | frz h r => cases r
  | o h _ _ r => cases r
theorem RepO.non {a : Addr} {b : Bs} {H : Hp} {v : V} (r : RepO a b H v .non) : v = .non := by
  cases r with
  | r r => cases r with
    | non => rfl
    | frz h r => cases r
  | o h _ _ r => cases r
theorem Reps.length {a : Addr} {H : Hp} : ∀ {vs : List V} {ps : List PV}, Reps a H vs ps → vs.length = ps.length
  | _, _, .nil => rfl
  | _, _, .cons _ r => by simp [Reps.length r]
theorem Reps.append {a : Addr} {H : Hp} : ∀ {vs ws : List V} {ps qs : List PV}, Reps a H vs ps → Reps a H ws qs → Reps a H (vs ++ ws) (ps ++ qs)
  | _, _, _, _, .nil, s => s
  | _, _, _, _, .cons r t, s => .cons r (Reps.append t s)
theorem Reps.get {a : Addr} {H : Hp} : ∀ {vs : List V} {ps : List PV} {i : Nat} {p : PV}, Reps a H vs ps → ps[i]? = some p → ∃ v, vs[i]? = some v ∧ Rep a H v p
  | _, _, _, _, .nil, e => by simp at e
  | _, _, 0, _, .cons r _, e => by simp at e; subst e; exact ⟨_, rfl, r⟩
  | _, _, i + 1, p, .cons _ t, e => by
    obtain ⟨v, h1, h2⟩ := Reps.get (i := i) (p := p) t (by simpa using e)
    exact ⟨v, by simpa using h1, h2⟩
theorem Reps.get' {a : Addr} {H : Hp} : ∀ {vs : List V} {ps : List PV} {i : Nat} {v : V}, Reps a H vs ps → vs[i]? = some v → ∃ p, ps[i]? = some p ∧ Rep a H v p
  | _, _, _, _, .nil, e => by simp at e
  | _, _, 0, _, .cons r _, e => by simp at e; subst e; exact ⟨_, rfl, r⟩
  | _, _, i + 1, p, .cons _ t, e => by
    obtain ⟨v, h1, h2⟩ := Reps.get' (i := i) (v := p) t (by simpa using e)
    exact ⟨v, by simpa using h1, h2⟩
theorem Reps.drop {a : Addr} {H : Hp} : ∀ {vs : List V} {ps : List PV} (n : Nat), Reps a H vs ps → Reps a H (vs.drop n) (ps.drop n)
  | _, _, 0, r => r
  | _, _, _ + 1, .nil => .nil
  | _, _, n + 1, .cons _ t => Reps.drop n t
theorem Reps.take {a : Addr} {H : Hp} : ∀ {vs : List V} {ps : List PV} (n : Nat), Reps a H vs ps → Reps a H (vs.take n) (ps.take n)
  | _, _, 0, _ => .nil
  | _, _, _ + 1, .nil => .nil
  | _, _, n + 1, .cons r t => .cons r (Reps.take n t)
theorem Reps.set {a : Addr} {H : Hp} {v : V} {p : PV} (h : Rep a H v p) : ∀ {vs : List V} {ps : List PV} (n : Nat), Reps a H vs ps → Reps a H (vs.set n v) (ps.set n p)
  | _, _, _, .nil => .nil
  | _, _, 0, .cons _ t => .cons h t
  | _, _, n + 1, .cons q t => .cons q (Reps.set h n t)
theorem Reps.ints {a : Addr} {H : Hp} : ∀ {vs : List V} {ns : List Int}, Reps a H vs (ns.map PV.int) → vs = ns.map V.int
  | _, [], .nil => rfl
  | _, n :: ns, r => by
    cases r with
    | cons h t => cases h with
      | int _ => rw [List.map_cons, Reps.ints t]
      | frz h r => cases r
theorem Reps.strs {a : Addr} {H : Hp} : ∀ {vs : List V} {ns : List Str}, Reps a H vs (ns.map PV.str) → vs = ns.map V.str
  | _, [], .nil => rfl
  | _, n :: ns, r => by
    cases r with
    | cons h t => cases h with
      | str _ => rw [List.map_cons, Reps.strs t]
      | frz h r => cases r
theorem Reps.bls {a : Addr} {H : Hp} : ∀ {vs : List V} {ns : List Bool}, Reps a H vs (ns.map PV.bl) → vs = ns.map V.bl
  | _, [], .nil => rfl
  | _, n :: ns, r => by
    cases r with
    | cons h t => cases h with
      | bl _ => rw [List.map_cons, Reps.bls t]
      | frz h r => cases r
theorem reps_ints {a : Addr} {H : Hp} : ∀ ns : List Int, Reps a H (ns.map V.int) (ns.map PV.int)
  | [] => .nil
  | n :: ns => .cons (.int n) (reps_ints ns)
theorem reps_strs {a : Addr} {H : Hp} : ∀ ns : List Str, Reps a H (ns.map V.str) (ns.map PV.str)
  | [] => .nil
  | n :: ns => .cons (.str n) (reps_strs ns)
end
end TL
set_option Elab.async false
set_option linter.all false
set_option maxRecDepth 100000
set_option autoImplicit false
/-! T3: operators, comparisons, tests. -/
namespace TL
open PySem
open PySem.Spec
open PyProof.Rows
open L2
section
variable {A : CtD} {s : CtS} {X : Cx} {ea eb : Expr} {wa wb : WE} {pos : Pos}

/-! ### list + list, list * int of what is read -/
theorem rd_lst {pins : List (Addr × Obj)} {σ : L2.St} {H : Hp} {s : Shared} {l : Addr} {xs : List V} (I : Inv X pins σ H s) (h : Rd H l (.lst xs)) :
    xs.length ≤ sizeLine ∧ ∃ (its : List Value) (n : Nat), Vals xs its ∧ xs.length = its.length ∧ s.heap.get? l = some { cls := .type "list", data := .seq its.toArray n } := by
  obtain ⟨z, its, n, r, e⟩ := h.ok I.hok
  exact ⟨z, its, n, r, r.length, e⟩
def rCatG : R2 := fun x y H Q => ∃ l b xs zs, x = .ref l ∧ y = .ref b ∧ Rd H l (.lst xs) ∧ Rd H b (.lst zs) ∧ xs.length + zs.length ≤ sizeLine ∧ ∀ p, H p = none → Q (.ref p) (upd H p (.lst (xs ++ zs)))
theorem op_catG : OpR X (binaryOp .Add) rCatG := by
  intro pins s σ H x y v u Q I rx ry h
  obtain ⟨l, b, xs, zs, rfl, rfl, h1, h2, hz, q⟩ := h
  cases rx
  cases ry
  obtain ⟨z1, i1, n1, r1, l1, e1⟩ := rd_lst I h1
  obtain ⟨z2, i2, n2, r2, l2, e2⟩ := rd_lst I h2
  refine PySem.P.add_list e1 e2 ?_ (by simp only [List.size_toArray]; omega)
  have ea : i1.toArray ++ i2.toArray = (i1 ++ i2).toArray := by simp
  rw [ea]
  exact ⟨.ref _, _, I.lnew (t' := s.toks) (r1.append r2) (by rw [List.length_append]; omega), rfl, q _ I.fresh⟩

/-! ### + - * // % -/
def vAdd (p q : PV) (R : PV → Prop) : Prop := match p, q with
  | .int i, .int j => R (.int (i + j))
  | .str x, .str y => x.length + y.length ≤ sizeLine ∧ R (.str (x ++ y))
  | .lst x, .lst y => x.length + y.length ≤ sizeLine ∧ R (.lst (x ++ y))
  | .tup x, .tup y => x.length + y.length ≤ sizeLine ∧ R (.tup (x ++ y))
  | _, _ => False
theorem se_add (ha : SO A s ea wa) (hb : SO A s eb wb) : SE A s (.BinOp ea .Add eb pos) (w2 wa wb vAdd) := by
  refine s2_of (r := fun x y H Q => (rI0 fun i j => .int (i + j)) x y H Q ∨ (fun x y H Q => (∃ i j, x = .str i ∧ y = .str j ∧ i.length + j.length ≤ sizeLine ∧ Q (.str (i ++ j)) H) ∨
    (fun x y H Q => rCatG x y H Q ∨ ∃ a b xs ys, x = .ref a ∧ y = .ref b ∧ Rd H a (.tup xs) ∧ Rd H b (.tup ys) ∧ xs.length + ys.length ≤ sizeLine ∧
      (xs = [] → Q (.ref b) H) ∧ (xs ≠ [] → ys = [] → Q (.ref a) H) ∧ (xs ≠ [] → ys ≠ [] → ∀ p, H p = none → Q (.ref p) (upd H p (.tup (xs ++ ys))))) x y H Q) x y H Q) ?_ ha hb ?_
  · intro H k x y p q R Q m rx ry h hQ
    unfold vAdd at h
    split at h
    · cases rx.int; cases ry.int
      exact .inl ⟨_, _, rfl, rfl, .inl (hQ _ _ _ Up.refl m (.int _) h)⟩
    · cases rx.str; cases ry.str
      exact .inr (.inl ⟨_, _, rfl, rfl, h.1, .inl (hQ _ _ _ Up.refl m (.str _) h.2)⟩)
    · rename_i xs ys
      obtain ⟨c, vs, rfl, hc, _, r⟩ := rx.lst default
      obtain ⟨d, ws, rfl, hd, _, r'⟩ := ry.lst default
      refine .inr (.inr (.inl ⟨c, d, vs, ws, rfl, rfl, hc, hd, by rw [r.length, r'.length]; exact h.1, fun p hp => .inr ?_⟩))
      exact new_o m hp (.l (r.append r')) fun v H' u m' r' => hQ _ v H' u m' r' h.2
    · rename_i xs ys
      obtain ⟨c, vs, rfl, hc, _, r⟩ := rx.tup default
      obtain ⟨d, ws, rfl, hd, _, r'⟩ := ry.tup default
      refine .inr (.inr (.inr ⟨c, d, vs, ws, rfl, rfl, .inl hc, .inl hd, by rw [r.length, r'.length]; exact h.1, fun z => ?_, fun _ z => ?_, fun _ _ p hp => ?_⟩))
      · subst z; cases r
        exact .inl (hQ _ _ _ Up.refl m (.tup hd r') h.2)
      · subst z; cases r'
        exact .inl (hQ _ _ _ Up.refl m (.tup hc (by simpa using r)) h.2)
      · have up : Up A.a A.b H (upd H p (.tup (vs ++ ws))) := Up.new hp
        exact .inl (hQ _ _ _ up (m.new hp) (.tup upd_same ((r.append r').up (up.ps m))) h.2)
    · exact h.elim
  · intro X t pa pb
    refine pe_op (OpR.or op_add (OpR.or op_add_str (OpR.or op_catG ?_))) pa pb
    intro pins s σ H x y v u Q I rx ry ⟨a, b, xs, ys, h1, h2, h3, h4, h5⟩
    exact op_catA pins s σ H x y v u Q I rx ry ⟨a, b, xs, ys, h1, h2, .inl h3, .inl h4, h5⟩
/-- an operation of two ints -/
theorem s_int {op : Operator} {C : Int → Int → Prop} {g : Int → Int → Int} {f : PV → PV → (PV → Prop) → Prop} (ho : ∀ X : Cx, OpR X (binaryOp op) (rI C fun i j => .int (g i j)))
    (hf : ∀ p q R, f p q R → ∃ i j, p = .int i ∧ q = .int j ∧ C i j ∧ R (.int (g i j))) (ha : SO A s ea wa) (hb : SO A s eb wb) : SE A s (.BinOp ea op eb pos) (w2 wa wb f) := by
  refine s2_of (r := rI C fun i j => .int (g i j)) ?_ ha hb fun X t pa pb => pe_op (ho X) pa pb
  intro H k x y p q R Q m rx ry h hQ
  obtain ⟨i, j, rfl, rfl, c, z⟩ := hf p q R h
  cases rx.int; cases ry.int
  exact ⟨i, j, rfl, rfl, c, .inl (hQ _ _ _ Up.refl m (.int _) z)⟩
def vSub (p q : PV) (R : PV → Prop) : Prop := match p, q with
  | .int i, .int j => R (.int (i - j))
  | _, _ => False
theorem se_sub (ha : SO A s ea wa) (hb : SO A s eb wb) : SE A s (.BinOp ea .Sub eb pos) (w2 wa wb vSub) := by
  refine s_int (C := fun _ _ => True) (g := fun i j => i - j) (fun X => ?_) ?_ ha hb
  · intro pins s σ H x y v u Q I rx ry ⟨i, j, h1, h2, _, h3⟩
    exact op_sub pins s σ H x y v u Q I rx ry ⟨i, j, h1, h2, h3⟩
  · intro p q R h
    unfold vSub at h
    split at h
    · exact ⟨_, _, rfl, rfl, trivial, h⟩
    · exact h.elim
def small (i : Int) : Prop := -18446744073709551616 < i ∧ i < 18446744073709551616
def vMul (p q : PV) (R : PV → Prop) : Prop := match p, q with
  | .int i, .int j => (small i ∨ small j) ∧ R (.int (i * j))
  | _, _ => False
theorem se_mul (ha : SO A s ea wa) (hb : SO A s eb wb) : SE A s (.BinOp ea .Mult eb pos) (w2 wa wb vMul) := by
  refine s_int (C := CMul) (g := fun i j => i * j) (fun X => op_mul) ?_ ha hb
  intro p q R h
  unfold vMul at h
  split at h
  · refine ⟨_, _, rfl, rfl, ?_, h.2⟩
    rcases h.1 with z | z
    · exact .inl ⟨by have := z.1; omega, by have := z.2; omega⟩
    · exact .inr ⟨by have := z.1; omega, by have := z.2; omega⟩
  · exact h.elim
def vDiv (p q : PV) (R : PV → Prop) : Prop := match p, q with
  | .int i, .int j => (0 < j ∧ j < 1073741824) ∧ R (.int (i / j))
  | _, _ => False
theorem se_div (ha : SO A s ea wa) (hb : SO A s eb wb) : SE A s (.BinOp ea .FloorDiv eb pos) (w2 wa wb vDiv) := by
  refine s_int (C := CDiv) (g := fun i j => i / j) (fun X => op_fdiv) ?_ ha hb
  intro p q R h
  unfold vDiv at h
  split at h
  · exact ⟨_, _, rfl, rfl, h.1, h.2⟩
  · exact h.elim
def vMod (p q : PV) (R : PV → Prop) : Prop := match p, q with
  | .int i, .int j => 0 < j ∧ R (.int (i % j))
  | _, _ => False
theorem se_mod (ha : SO A s ea wa) (hb : SO A s eb wb) : SE A s (.BinOp ea .Mod eb pos) (w2 wa wb vMod) := by
  refine s_int (C := fun _ j => 0 < j) (g := fun i j => i % j) (fun X => op_mod) ?_ ha hb
  intro p q R h
  unfold vMod at h
  split at h
  · exact ⟨_, _, rfl, rfl, h.1, h.2⟩
  · exact h.elim
def vNeg (p : PV) (R : PV → Prop) : Prop := match p with
  | .int i => R (.int (-i))
  | _ => False
theorem se_neg (ha : SO A s ea wa) : SE A s (.UnaryOp .USub ea pos) (w1 wa vNeg) := by
  refine s1_of (r := rU fun i => .int (-i)) ?_ ha fun X t pa => pe_un un_neg pa
  intro H k x p R Q m rx h hQ
  unfold vNeg at h
  split at h
  · cases rx.int
    exact ⟨_, rfl, .inl (hQ _ _ _ Up.refl m (.int _) h)⟩
  · exact h.elim

/-! ### comparisons -/
abbrev VC := PV → PV → (Bool → Prop) → Prop
def wCmp (wa wb : WE) (f : VC) : WT := fun S k R => wa S k fun p k1 => wb S k1 fun q k2 => f p q fun b => R b k2
def wBool (w : WT) : WE := fun S k R => w S k fun b k' => R (.bl b) k'
def SvC (A : CtD) (X : Cx) (r : R2) (f : VC) : Prop := ∀ H k x y p q R (Q : VK), TX A s X → Amb A.a A.b k H → RepO A.a A.b H x p → RepO A.a A.b H y q → f p q R → (∀ b, R b → Q (.bl b) H) → r x y H Q
structure SC (A : CtD) (s : CtS) (op : CmpOp) (f : VC) : Prop where
  run : ∀ X, TX A s X → ∃ r : R2, OpR X (compareOp op) r ∧ ∀ H k x y p q R (Q : VK), Amb A.a A.b k H → RepO A.a A.b H x p → RepO A.a A.b H y q → f p q R → (∀ b, R b → Q (.bl b) H) → r x y H Q
theorem st_cmp {op : CmpOp} {f : VC} (c : SC A s op f) (ha : SO A s ea wa) (hb : SO A s eb wb) (hm : behindInMarks op eb = false := by rfl) : ST A s (.Compare ea [op] [eb] pos) (wCmp wa wb f) := by
  refine ⟨fun X t => ?_⟩
  obtain ⟨r, ho, sv⟩ := c.run X t
  refine pt_imp (pt_cmpR ho (ha.run X t) (hb.run X t) hm) fun σ H Q ⟨Hb, S, k, R, W, x, q⟩ => ?_
  refine rd_step W x fun p k1 v H1 u1 m1 r1 x1 => ?_
  refine rd_step (W.expr u1 m1) x1 fun p2 k2 v2 H2 u2 m2 r2 x2 => ?_
  exact sv H2 k2 v v2 p p2 _ _ m2 (r1.up m1 u2) r2 x2 fun b hb => ⟨b, rfl, q b k2 b H2 (u1.trans u2) m2 rfl hb⟩
theorem se_cmp {op : CmpOp} {f : VC} (c : SC A s op f) (ha : SO A s ea wa) (hb : SO A s eb wb) (hm : behindInMarks op eb = false := by rfl) : SE A s (.Compare ea [op] [eb] pos) (wBool (wCmp wa wb f)) := by
  refine ⟨fun X t => ?_⟩
  obtain ⟨r, ho, sv⟩ := c.run X t
  refine pe_imp (pe_cmpR ho (ha.run X t) (hb.run X t) hm) fun σ H Q ⟨Hb, S, k, R, W, x, q⟩ => ?_
  refine rd_step W x fun p k1 v H1 u1 m1 r1 x1 => ?_
  refine rd_step (W.expr u1 m1) x1 fun p2 k2 v2 H2 u2 m2 r2 x2 => ?_
  exact sv H2 k2 v v2 p p2 _ _ m2 (r1.up m1 u2) r2 x2 fun b hb => q _ k2 _ H2 (u1.trans u2) m2 (.bl b) hb
/-- of two ints -/
def vInt (g : Int → Int → Bool) : VC := fun p q R => match p, q with
  | .int i, .int j => R (g i j)
  | _, _ => False
theorem sc_int {op : CmpOp} {g : Int → Int → Bool} (ho : ∀ X : Cx, OpR X (compareOp op) (rI0 fun i j => .bl (g i j))) : SC A s op (vInt g) := by
  refine ⟨fun X t => ⟨_, ho X, fun H k x y p q R Q m rx ry h hQ => ?_⟩⟩
  unfold vInt at h
  split at h
  · cases rx.int; cases ry.int
    exact ⟨_, _, rfl, rfl, hQ _ h⟩
  · exact h.elim
abbrev vLt : VC := vInt fun i j => decide (i < j)
abbrev vLe : VC := vInt fun i j => decide (i ≤ j)
abbrev vGt : VC := vInt fun i j => decide (j < i)
abbrev vGe : VC := vInt fun i j => decide (j ≤ i)
theorem sc_lt : SC A s .Lt vLt := sc_int fun X => op_lt
theorem sc_le : SC A s .LtE vLe := sc_int fun X => op_le
theorem sc_gt : SC A s .Gt vGt := sc_int fun X => op_gt
theorem sc_ge : SC A s .GtE vGe := sc_int fun X => op_ge
def isNon : PV → Bool
  | .non => true
  | _ => false
def vIs : VC := fun p q R => match q with
  | .non => R (isNon p)
  | _ => False
def vIsNot : VC := fun p q R => match q with
  | .non => R (!isNon p)
  | _ => False
theorem isNon_of {a : Addr} {b : Bs} {H : Hp} {x : V} {p : PV} (r : RepO a b H x p) : decide (x = V.non) = isNon p := by
  cases r with
  | r r => cases r with
    | frz h r => cases r <;> rfl
    | _ => rfl
  | o h _ _ r => cases r <;> rfl
theorem sc_is : SC A s .Is vIs := ⟨fun X t => ⟨_, op_isN, fun H k x y p q R Q m rx ry h hQ => by
  unfold vIs at h
  split at h
  · cases ry.non
    exact ⟨rfl, by rw [isNon_of rx]; exact hQ _ h⟩
  · exact h.elim⟩⟩
theorem sc_isnot : SC A s .IsNot vIsNot := ⟨fun X t => ⟨_, op_notN, fun H k x y p q R Q m rx ry h hQ => by
  unfold vIsNot at h
  split at h
  · cases ry.non
    exact ⟨rfl, by rw [isNon_of rx]; exact hQ _ h⟩
  · exact h.elim⟩⟩

/-! == and != : scalars; lists and tuples by their data -/
mutual
def data : PV → Option PyData
  | .non => some .none
  | .bl b => some (.bool b)
  | .int i => some (.int i)
  | .str x => some (.str x)
  | .lst xs => (datas xs).map .list
  | .tup xs => (datas xs).map .tuple
  | .dk _ => none
  | .dt _ => none
  | .stm => none
def datas : List PV → Option (List PyData)
  | [] => some []
  | x :: xs => match data x, datas xs with
    | some d, some ds => some (d :: ds)
    | _, _ => none
end
mutual
theorem dp_of {a : Addr} {H : Hp} (K : PySem.W.Frag) : ∀ (p : PV) (v : V) (d : PyData), Rep a H v p → data p = some d → Dp K H v d
  | .non, v, d, r, e => by
    cases r with
    | non => simp only [data] at e; cases e; exact .non
    | frz h r => cases r
  | .bl x, v, d, r, e => by
    cases r with
    | bl _ => simp only [data] at e; cases e; exact .bl _
    | frz h r => cases r
  | .int x, v, d, r, e => by
    cases r with
    | int _ => simp only [data] at e; cases e; exact .int _
    | frz h r => cases r
  | .str x, v, d, r, e => by
    cases r with
    | str _ => simp only [data] at e; cases e; exact .str _
    | frz h r => cases r
  | .lst xs, v, d, r, e => by
    cases r with
    | frz h r =>
      cases r with
      | l r =>
        simp only [data] at e
        obtain ⟨ds, e1, e2⟩ := Option.map_eq_some_iff.mp e
        subst e2
        exact .lst (.inl (.inr ⟨_, h⟩)) (dps_of K xs _ _ r e1)
  | .tup xs, v, d, r, e => by
    cases r with
    | frz h r => cases r
    | tup h r =>
      simp only [data] at e
      obtain ⟨ds, e1, e2⟩ := Option.map_eq_some_iff.mp e
      subst e2
      exact .tup (.inl (.inl h)) (dps_of K xs _ _ r e1)
  | .dk _, v, d, r, e => by simp only [data] at e; cases e
  | .dt _, v, d, r, e => by simp only [data] at e; cases e
  | .stm, v, d, r, e => by simp only [data] at e; cases e
theorem dps_of {a : Addr} {H : Hp} (K : PySem.W.Frag) : ∀ (ps : List PV) (vs : List V) (ds : List PyData), Reps a H vs ps → datas ps = some ds → DpAll K H vs ds
  | [], vs, ds, r, e => by
    cases r
    simp only [datas] at e; cases e; exact .nil
  | p :: ps, vs, ds, r, e => by
    cases r with
    | cons h r =>
      simp only [datas] at e
      split at e
      · rename_i e1 e2; cases e; exact .cons (dp_of K p _ _ h e1) (dps_of K ps _ _ r e2)
      · cases e
end
theorem RepO.dp {a : Addr} {b : Bs} {H : Hp} (K : PySem.W.Frag) {p : PV} {v : V} {d : PyData} (r : RepO a b H v p) (e : data p = some d) : Dp K H v d := by
  cases r with
  | r r => exact dp_of K _ _ _ r e
  | o h _ _ r =>
    cases r with
    | l r =>
      simp only [data] at e
      obtain ⟨ds, e1, e2⟩ := Option.map_eq_some_iff.mp e
      subst e2
      exact .lst (.inl (.inl h)) (dps_of K _ _ _ r e1)
    | k r => simp only [data] at e; cases e
    | t r => simp only [data] at e; cases e
def vEq : VC := fun p q R => match p, q with
  | .int i, .int j => R (decide (i = j))
  | .str x, .str y => R (decide (x = y))
  | .bl x, .bl y => R (decide (x = y))
  | .non, .non => R true
  | .non, .str _ => R false
  | .str _, .non => R false
  | .non, .int _ => R false
  | .int _, .non => R false
  | p, q => ∃ d e, data p = some d ∧ data q = some e ∧ SeqAt.shaped d = true ∧ SeqAt.shaped e = true ∧ R (PyData.eqv d e)
def vNe : VC := fun p q R => vEq p q fun b => R (!b)
theorem sc_eq : SC A s .Eq vEq := ⟨fun X t => ⟨_, OpR.or op_eq (op_eqD t.u64), fun H k x y p q R Q m rx ry h hQ => by
  unfold vEq at h
  split at h
  · cases rx.int; cases ry.int
    exact .inl ⟨rfl, by simpa using hQ _ h⟩
  · cases rx.str; cases ry.str
    exact .inl ⟨rfl, by simpa using hQ _ h⟩
  · cases rx.bl; cases ry.bl
    exact .inl ⟨rfl, by simpa using hQ _ h⟩
  · cases rx.non; cases ry.non
    exact .inl ⟨rfl, by simpa using hQ _ h⟩
  · cases rx.non; cases ry.str
    exact .inl ⟨rfl, by simpa using hQ _ h⟩
  · cases rx.str; cases ry.non
    exact .inl ⟨rfl, by simpa using hQ _ h⟩
  · cases rx.non; cases ry.int
    exact .inl ⟨rfl, by simpa using hQ _ h⟩
  · cases rx.int; cases ry.non
    exact .inl ⟨rfl, by simpa using hQ _ h⟩
  · obtain ⟨d, e, h1, h2, h3, h4, h5⟩ := h
    exact .inr ⟨d, e, rx.dp X.K h1, ry.dp X.K h2, h3, h4, hQ _ h5⟩⟩⟩
theorem sc_ne : SC A s .NotEq vNe := ⟨fun X t => ⟨_, OpR.or op_ne (op_neD t.u64), fun H k x y p q R Q m rx ry h hQ => by
  unfold vNe vEq at h
  split at h
  · cases rx.int; cases ry.int
    exact .inl ⟨rfl, by simpa using hQ _ h⟩
  · cases rx.str; cases ry.str
    exact .inl ⟨rfl, by simpa using hQ _ h⟩
  · cases rx.bl; cases ry.bl
    exact .inl ⟨rfl, by simpa using hQ _ h⟩
  · cases rx.non; cases ry.non
    exact .inl ⟨rfl, by simpa using hQ _ h⟩
  · cases rx.non; cases ry.str
    exact .inl ⟨rfl, by simpa using hQ _ h⟩
  · cases rx.str; cases ry.non
    exact .inl ⟨rfl, by simpa using hQ _ h⟩
  · cases rx.non; cases ry.int
    exact .inl ⟨rfl, by simpa using hQ _ h⟩
  · cases rx.int; cases ry.non
    exact .inl ⟨rfl, by simpa using hQ _ h⟩
  · obtain ⟨d, e, h1, h2, h3, h4, h5⟩ := h
    exact .inr ⟨d, e, rx.dp X.K h1, ry.dp X.K h2, h3, h4, hQ _ h5⟩⟩⟩

/-! ### a < b < c of ints -/
def wChain (wa wb wc : WE) (g g' : Int → Int → Bool) : WT := fun S k R => wa S k fun p k1 => wb S k1 fun q k2 => match p, q with
  | .int i, .int j => if g i j = true then wc S k2 fun r k3 => (match r with
      | .int m => R (g' j m) k3
      | _ => False) else R false k2
  | _, _ => False
variable {ec : Expr} {wc : WE}
theorem st_chain {op op' : CmpOp} {g g' : Int → Int → Bool} (ho : ∀ X : Cx, OpR X (compareOp op) (rI0 fun i j => .bl (g i j))) (ho' : ∀ X : Cx, OpR X (compareOp op') (rI0 fun i j => .bl (g' i j)))
    (ha : SO A s ea wa) (hb : SO A s eb wb) (hc : SO A s ec wc) (h1 : lastMarks [op, op'] [eb, ec] = false := by rfl) :
    ST A s (.Compare ea [op, op'] [eb, ec] pos) (wChain wa wb wc g g') := by
  refine ⟨fun X t => pt_imp (pt_chain (ho X) (ho' X) (ha.run X t) (hb.run X t) (hc.run X t) h1) fun σ H Q ⟨Hb, S, k, R, W, x, q⟩ => ?_⟩
  refine rd_step W x fun p k1 v H1 u1 m1 r1 x1 => ?_
  refine rd_step (W.expr u1 m1) x1 fun p2 k2 v2 H2 u2 m2 r2 x2 => ?_
  have rr := r1.up m1 u2
  split at x2
  · rename_i i j
    cases rr.int; cases r2.int
    refine ⟨_, _, rfl, rfl, _, rfl, ?_⟩
    split at x2
    · rename_i hg
      rw [if_pos hg]
      refine rd_step ((W.expr u1 m1).expr u2 m2) x2 fun p3 k3 v3 H3 u3 m3 r3 x3 => ?_
      split at x3
      · cases r3.int
        exact ⟨_, _, rfl, rfl, _, rfl, q _ k3 _ H3 ((u1.trans u2).trans u3) m3 rfl x3⟩
      · exact x3.elim
    · rename_i hg
      rw [if_neg hg]
      have e : g i j = false := by simpa using hg
      exact ⟨false, rfl, q _ k2 _ H2 (u1.trans u2) m2 rfl x2⟩
  · exact x2.elim

/-! ### tests -/
def wVal (w : WE) : WT := fun S k R => w S k fun p k' => match p with
  | .bl b => R b k'
  | _ => False
theorem st_val {e : Expr} {w : WE} (h : SO A s e w) (he : ∀ env whole, isTrue e env whole = (do let v ← whole; standAt e.pos; holding [v] (truthy v)) := by intro _ _; rfl) : ST A s e (wVal w) := by
  refine ⟨fun X t => pt_imp (pt_val (h.run X t) (he X.env)) fun σ H Q ⟨Hb, S, k, R, W, x, q⟩ => ?_⟩
  refine rd_step W x fun p k1 v H1 u1 m1 r1 x1 => ?_
  split at x1
  · cases r1.bl
    exact ⟨_, rfl, q _ k1 _ H1 u1 m1 rfl x1⟩
  · exact x1.elim
def wNot (w : WT) : WT := fun S k R => w S k fun b k' => R (!b) k'
theorem st_not {w : WT} (h : ST A s ea w) : ST A s (.UnaryOp .Not ea pos) (wNot w) := by
  refine ⟨fun X t => pt_imp (pt_not (h.run X t)) fun σ H Q ⟨Hb, S, k, R, W, x, q⟩ => ?_⟩
  refine rd_step W x fun p k1 v H1 u1 m1 r1 x1 => ?_
  subst r1
  exact q _ k1 _ H1 u1 m1 rfl x1
def wAnd (w w' : WT) : WT := fun S k R => w S k fun b k' => if b = true then w' S k' R else R false k'
def wOr (w w' : WT) : WT := fun S k R => w S k fun b k' => if b = true then R true k' else w' S k' R
variable {tA tB : WT} {rest : List Expr}
theorem sw_and1 (h : ST A s ea tA) : SW A s (.BoolOp .And [ea] pos) tA := ⟨fun X t => pw_and1 (h.run X t)⟩
theorem sw_or1 (h : ST A s ea tA) : SW A s (.BoolOp .Or [ea] pos) tA := ⟨fun X t => pw_or1 (h.run X t)⟩
theorem sw_and (h : ST A s ea tA) (h' : SW A s (.BoolOp .And (eb :: rest) pos) tB) : SW A s (.BoolOp .And (ea :: eb :: rest) pos) (wAnd tA tB) := by
  refine ⟨fun X t => pw_imp (pw_and (h.run X t) (h'.run X t)) fun σ H Q ⟨Hb, S, k, R, W, x, q⟩ => ?_⟩
  refine rd_step W x fun p k1 v H1 u1 m1 r1 x1 => ?_
  subst r1
  split at x1
  · rename_i hp
    rw [if_pos hp]
    exact rd_step (W.expr u1 m1) x1 fun p2 k2 v2 H2 u2 m2 r2 x2 => q _ _ _ H2 (u1.trans u2) m2 r2 x2
  · rename_i hp
    rw [if_neg hp]
    exact q _ k1 _ H1 u1 m1 rfl x1
theorem sw_or (h : ST A s ea tA) (h' : SW A s (.BoolOp .Or (eb :: rest) pos) tB) : SW A s (.BoolOp .Or (ea :: eb :: rest) pos) (wOr tA tB) := by
  refine ⟨fun X t => pw_imp (pw_or (h.run X t) (h'.run X t)) fun σ H Q ⟨Hb, S, k, R, W, x, q⟩ => ?_⟩
  refine rd_step W x fun p k1 v H1 u1 m1 r1 x1 => ?_
  subst r1
  split at x1
  · rename_i hp
    rw [if_pos hp]
    exact q _ k1 _ H1 u1 m1 rfl x1
  · rename_i hp
    rw [if_neg hp]
    exact rd_step (W.expr u1 m1) x1 fun p2 k2 v2 H2 u2 m2 r2 x2 => q _ _ _ H2 (u1.trans u2) m2 r2 x2
theorem sw_t {e : Expr} {w : WT} (h : SW A s e w) : ST A s e w := ⟨fun X t => (h.run X t).pt⟩
/-- as values -/
def wBl (w : WE) : WE := fun S k R => w S k fun p k' => match p with
  | .bl b => R (.bl b) k'
  | _ => False
def wAndV (wa wb : WE) : WE := fun S k R => wa S k fun p k1 => match p with
  | .bl true => wb S k1 R
  | .bl false => R (.bl false) k1
  | _ => False
def wOrV (wa wb : WE) : WE := fun S k R => wa S k fun p k1 => match p with
  | .bl true => R (.bl true) k1
  | .bl false => wb S k1 R
  | _ => False
def wNotV (wa : WE) : WE := fun S k R => wa S k fun p k1 => match p with
  | .bl b => R (.bl (!b)) k1
  | _ => False
theorem se_one {op} (h : SE A s ea wa) : SE A s (.BoolOp op [ea] pos) wa := ⟨fun X t => pe_one (h.run X t)⟩
theorem se_and (ha : SE A s ea wa) (hb : SE A s (.BoolOp .And (eb :: rest) pos) wb) : SE A s (.BoolOp .And (ea :: eb :: rest) pos) (wAndV wa wb) := by
  refine ⟨fun X t => pe_imp (pe_and (ha.run X t) (hb.run X t)) fun σ H Q ⟨Hb, S, k, R, W, x, q⟩ => ?_⟩
  refine rd_step W x fun p k1 v H1 u1 m1 r1 x1 => ?_
  split at x1
  · cases (RepO.r (b := A.b) r1).bl
    exact ⟨true, rfl, (if_pos rfl).mpr (rd_step (W.expr u1 m1) x1 fun p2 k2 v2 H2 u2 m2 r2 x2 => q _ _ _ H2 (u1.trans u2) m2 r2 x2)⟩
  · cases (RepO.r (b := A.b) r1).bl
    exact ⟨false, rfl, (if_neg Bool.false_ne_true).mpr (q _ k1 _ H1 u1 m1 (.bl _) x1)⟩
  · exact x1.elim
theorem se_or (ha : SE A s ea wa) (hb : SE A s (.BoolOp .Or (eb :: rest) pos) wb) : SE A s (.BoolOp .Or (ea :: eb :: rest) pos) (wOrV wa wb) := by
  refine ⟨fun X t => pe_imp (pe_or (ha.run X t) (hb.run X t)) fun σ H Q ⟨Hb, S, k, R, W, x, q⟩ => ?_⟩
  refine rd_step W x fun p k1 v H1 u1 m1 r1 x1 => ?_
  split at x1
  · cases (RepO.r (b := A.b) r1).bl
    exact ⟨true, rfl, (if_pos rfl).mpr (q _ k1 _ H1 u1 m1 (.bl _) x1)⟩
  · cases (RepO.r (b := A.b) r1).bl
    exact ⟨false, rfl, (if_neg Bool.false_ne_true).mpr (rd_step (W.expr u1 m1) x1 fun p2 k2 v2 H2 u2 m2 r2 x2 => q _ _ _ H2 (u1.trans u2) m2 r2 x2)⟩
  · exact x1.elim
theorem se_not (ha : SE A s ea wa) : SE A s (.UnaryOp .Not ea pos) (wNotV wa) := by
  refine ⟨fun X t => pe_imp (pe_not (ha.run X t)) fun σ H Q ⟨Hb, S, k, R, W, x, q⟩ => ?_⟩
  refine rd_step W x fun p k1 v H1 u1 m1 r1 x1 => ?_
  split at x1
  · cases (RepO.r (b := A.b) r1).bl
    exact ⟨_, rfl, q _ k1 _ H1 u1 m1 (.bl _) x1⟩
  · exact x1.elim
/-- a if c else b -/
def wIte (c : WT) (wa wb : WE) : WE := fun S k R => c S k fun b k' => if b = true then wa S k' R else wb S k' R
theorem se_ite {c : Expr} {tc : WT} (hc : ST A s c tc) (ha : SE A s ea wa) (hb : SE A s eb wb) : SE A s (.IfExp c ea eb pos) (wIte tc wa wb) := by
  refine ⟨fun X t => pe_imp (pe_ifExp (hc.run X t) (ha.run X t) (hb.run X t)) fun σ H Q ⟨Hb, S, k, R, W, x, q⟩ => ?_⟩
  refine rd_step W x fun p k1 v H1 u1 m1 r1 x1 => ?_
  subst r1
  split at x1
  · rename_i hp
    rw [if_pos hp]
    exact rd_step (W.expr u1 m1) x1 fun p2 k2 v2 H2 u2 m2 r2 x2 => q _ _ _ H2 (u1.trans u2) m2 r2 x2
  · rename_i hp
    rw [if_neg hp]
    exact rd_step (W.expr u1 m1) x1 fun p2 k2 v2 H2 u2 m2 r2 x2 => q _ _ _ H2 (u1.trans u2) m2 r2 x2
end
end TL
set_option Elab.async false
set_option linter.all false
set_option maxRecDepth 100000
set_option autoImplicit false
/-! T4: argument lists, displays, subscripts, slices, in, calls. -/
namespace TL
open PySem
open PySem.Spec
open PyProof.Rows
open L2
section
variable {A : CtD} {s : CtS} {e ea eb : Expr} {es : List Expr} {wa wb : WE} {pos p1 : Pos}

/-! ### argument lists -/
def wNil : WA := fun _ k R => R [] k
def wCons (w : WE) (ws : WA) : WA := fun S k R => w S k fun p k1 => ws S k1 fun ps k2 => R (p :: ps) k2
theorem sa_nil : SA A s [] wNil := ⟨fun X t => pa_imp pa_nil fun σ H Q ⟨Hb, S, k, R, W, x, q⟩ => q [] k [] H Up.refl W.amb .nil x⟩
theorem sa_cons {ws : WA} (h : SE A s e wa) (hr : SA A s es ws) (hs : ∀ env, starEach (e :: es) env = (false, eval e env) :: starEach es env := by intro _; rfl) : SA A s (e :: es) (wCons wa ws) := by
  refine ⟨fun X t => pa_imp (pa_cons (h.run X t) (hr.run X t) (hs X.env)) fun σ H Q ⟨Hb, S, k, R, W, x, q⟩ => ?_⟩
  refine rd_step W x fun p k1 v H1 u1 m1 r1 x1 => ?_
  refine rd_step (W.expr u1 m1) x1 fun ps k2 vs H2 u2 m2 r2 x2 => ?_
  exact q _ k2 _ H2 (u1.trans u2) m2 (.cons (r1.up (u2.ps m1)) r2) x2

/-! ### displays -/
def wTup (ws : WA) : WE := fun S k R => ws S k fun ps k' => ps.length ≤ 1000 ∧ R (.tup ps) k'
def wLst (ws : WA) : WE := fun S k R => ws S k fun ps k' => ps.length ≤ 1000 ∧ R (.lst ps) k'
theorem le1000 {n : Nat} (h : n ≤ 1000) : n ≤ sizeLine := Nat.le_of_lt (small1000 h)
theorem se_tup {j : Nat} {ws : WA} (h : SA A s es ws) : SE A s (.Tuple es j pos) (wTup ws) := by
  refine ⟨fun X t => pe_imp (pe_tup (h.run X t)) fun σ H Q ⟨Hb, S, k, R, W, x, q⟩ => ?_⟩
  refine rd_step W x fun ps k1 vs H1 u1 m1 r1 x1 => ⟨by rw [r1.length]; exact le1000 x1.1, fun p hp => ?_⟩
  exact q _ k1 _ _ (u1.trans (Up.new hp)) (m1.new hp) (.tup upd_same (r1.up ((Up.new (a := A.a) (b := A.b) hp).ps m1))) x1.2
theorem sf_lst {ws : WA} (h : SA A s es ws) : SF A s (.List es pos) (wLst ws) := by
  refine ⟨fun X t => pe_imp (pe_lst (h.run X t)) fun σ H Q ⟨Hb, S, k, R, W, x, q⟩ => ?_⟩
  refine rd_step W x fun ps k1 vs H1 u1 m1 r1 x1 => ⟨by rw [r1.length]; exact le1000 x1.1, fun p hp => ?_⟩
  have hp0 : H p = none := u1.non p hp
  exact q _ k1 _ _ (u1.trans (Up.new hp)) (m1.new hp) (.o hp0 upd_same (.l (r1.up ((Up.new (a := A.a) (b := A.b) hp).ps m1)))) x1.2
theorem sf_dk : SF A s (.Dict [] [] pos) (wC (.dk [])) := ⟨fun X t => pe_imp pe_dnewK fun σ H Q ⟨Hb, S, k, R, W, x, q⟩ p hp => q _ k _ _ (Up.new hp) (W.amb.new hp) (.o hp upd_same (.k .nil)) x⟩
theorem sf_dt : SF A s (.Dict [] [] pos) (wC (.dt [])) := ⟨fun X t => pe_imp pe_dnewT fun σ H Q ⟨Hb, S, k, R, W, x, q⟩ p hp => q _ k _ _ (Up.new hp) (W.amb.new hp) (.o hp upd_same (.t .nil)) x⟩
/-- a place that is free now was free before -/
theorem Up.was {a : Addr} {b : Bs} {H H' : Hp} {k : Nat} {p : Addr} (u : Up a b H H') (m : Amb a b k H') (hp : H' p = none) : H p = none := u.non p hp

/-! ### dicts' contents -/
section
variable {κ : Type} [DecidableEq κ]
def look (kvs : List (κ × PV)) (k : κ) : Option PV := (kvs.find? fun kv => decide (kv.1 = k)).map (·.2)
def putP (kvs : List (κ × PV)) (k : κ) (v : PV) : List (κ × PV) :=
  if (kvs.any fun kv => decide (kv.1 = k)) = true then kvs.map (fun kv => if kv.1 = k then (kv.1, v) else kv) else kvs ++ [(k, v)]
def mergeP (kvs more : List (κ × PV)) : List (κ × PV) := more.foldl (fun acc kv => putP acc kv.1 kv.2) kvs
end
section
variable {a : Addr} {H : Hp}
/-- both kinds of pairs at once -/
inductive RepX (a : Addr) (H : Hp) {κ : Type} : List (κ × V) → List (κ × PV) → Prop
  | nil : RepX a H [] []
  | cons {k : κ} {v : V} {p : PV} {vs : List (κ × V)} {ps : List (κ × PV)} : Rep a H v p → RepX a H vs ps → RepX a H ((k, v) :: vs) ((k, p) :: ps)
theorem RepK.x : ∀ {vs : List (Key × V)} {ps : List (Key × PV)}, RepK a H vs ps → RepX a H vs ps
  | _, _, .nil => .nil
  | _, _, .cons h r => .cons h r.x
theorem RepT.x : ∀ {vs : List (List Key × V)} {ps : List (List Key × PV)}, RepT a H vs ps → RepX a H vs ps
  | _, _, .nil => .nil
  | _, _, .cons h r => .cons h r.x
theorem RepX.k : ∀ {vs : List (Key × V)} {ps : List (Key × PV)}, RepX a H vs ps → RepK a H vs ps
  | _, _, .nil => .nil
  | _, _, .cons h r => .cons h r.k
theorem RepX.t : ∀ {vs : List (List Key × V)} {ps : List (List Key × PV)}, RepX a H vs ps → RepT a H vs ps
  | _, _, .nil => .nil
  | _, _, .cons h r => .cons h r.t
variable {κ : Type} {vs : List (κ × V)} {ps : List (κ × PV)}
theorem RepX.up {H' : Hp} (u : Ps H H') : ∀ {vs : List (κ × V)} {ps : List (κ × PV)}, RepX a H vs ps → RepX a H' vs ps
  | _, _, .nil => .nil
  | _, _, .cons h r => .cons (h.up u) (r.up u)
theorem RepX.length : ∀ {vs : List (κ × V)} {ps : List (κ × PV)}, RepX a H vs ps → vs.length = ps.length
  | _, _, .nil => rfl
  | _, _, .cons _ r => by simp [r.length]
theorem RepX.keys : ∀ {vs : List (κ × V)} {ps : List (κ × PV)}, RepX a H vs ps → vs.map (·.1) = ps.map (·.1)
  | _, _, .nil => rfl
  | _, _, .cons _ r => by simp [r.keys]
theorem RepX.vals : ∀ {vs : List (κ × V)} {ps : List (κ × PV)}, RepX a H vs ps → Reps a H (vs.map (·.2)) (ps.map (·.2))
  | _, _, .nil => .nil
  | _, _, .cons h r => .cons h r.vals
theorem RepX.get' : ∀ {vs : List (κ × V)} {ps : List (κ × PV)} {i : Nat} {k : κ} {v : V}, RepX a H vs ps → vs[i]? = some (k, v) → ∃ p, ps[i]? = some (k, p) ∧ Rep a H v p
  | _, _, _, _, _, .nil, e => by simp at e
  | _, _, 0, _, _, .cons r _, e => by simp at e; obtain ⟨rfl, rfl⟩ := e; exact ⟨_, rfl, r⟩
  | _, _, i + 1, k, v, .cons _ t, e => by
    obtain ⟨p, h1, h2⟩ := RepX.get' (i := i) (k := k) (v := v) t (by simpa using e)
    exact ⟨p, by simpa using h1, h2⟩
theorem RepX.append : ∀ {vs ws : List (κ × V)} {ps qs : List (κ × PV)}, RepX a H vs ps → RepX a H ws qs → RepX a H (vs ++ ws) (ps ++ qs)
  | _, _, _, _, .nil, s => s
  | _, _, _, _, .cons r t, s => .cons r (t.append s)
variable [DecidableEq κ]
theorem RepX.look (k : κ) : ∀ {vs : List (κ × V)} {ps : List (κ × PV)}, RepX a H vs ps → (valV vs k = none ∧ look ps k = none) ∨ ∃ v p, valV vs k = some v ∧ TL.look ps k = some p ∧ Rep a H v p
  | _, _, .nil => .inl ⟨rfl, rfl⟩
  | _, _, .cons (k := j) (v := v) (p := p) (vs := vs) (ps := ps) h r => by
    by_cases e : j = k
    · right
      refine ⟨v, p, ?_, ?_, h⟩
      · simp [valV, e]
      · simp [TL.look, e]
    · have := r.look k
      simpa [valV, TL.look, List.find?_cons, e] using this
theorem RepX.put (k : κ) {v : V} {p : PV} (h : Rep a H v p) (r : RepX a H vs ps) : RepX a H (putK vs k v) (putP ps k p) := by
  have any : ∀ {vs : List (κ × V)} {ps : List (κ × PV)}, RepX a H vs ps → (vs.any fun kv => decide (kv.1 = k)) = ps.any fun kv => decide (kv.1 = k) := by
    intro vs ps r
    induction r with
    | nil => rfl
    | cons h r ih => simp [ih]
  unfold putK putP
  rw [any r]
  have mp : RepX a H (vs.map fun kv => if kv.1 = k then (kv.1, v) else kv) (ps.map fun kv => if kv.1 = k then (kv.1, p) else kv) := by
    clear any
    induction r with
    | nil => exact .nil
    | @cons j v' p' vs' ps' h' r ih =>
      simp only [List.map_cons]
      by_cases e : j = k
      · rw [if_pos e, if_pos e]; exact .cons h ih
      · rw [if_neg e, if_neg e]; exact .cons h' ih
  split
  · exact mp
  · exact r.append (.cons h .nil)
theorem RepX.merge : ∀ {vs ws : List (Key × V)} {ps qs : List (Key × PV)}, RepX a H ws qs → RepX a H vs ps → RepX a H (mergeK vs ws) (mergeP ps qs) := by
  intro vs ws ps qs r
  induction r generalizing vs ps with
  | nil => intro h; exact h
  | cons h r ih => intro h'; exact ih (h'.put _ h)
end

/-! ### keys -/
theorem Rep.key {a : Addr} {H : Hp} {v : V} {k : Key} (r : Rep a H v (pk k)) : v = kV k := by
  cases k with
  | inl i => cases r with
    | int _ => rfl
    | frz h r => cases r
  | inr x => cases r with
    | str _ => rfl
    | frz h r => cases r
theorem RepO.key {a : Addr} {b : Bs} {H : Hp} {v : V} {k : Key} (r : RepO a b H v (pk k)) : v = kV k := by
  cases r with
  | r r => exact r.key
  | o h _ _ r => cases k <;> cases r
theorem rep_key {a : Addr} {H : Hp} (k : Key) : Rep a H (kV k) (pk k) := by
  cases k with
  | inl i => exact .int i
  | inr x => exact .str x
theorem Reps.keys {a : Addr} {H : Hp} : ∀ {vs : List V} {ks : List Key}, Reps a H vs (ks.map pk) → vs = ks.map kV
  | _, [], .nil => rfl
  | _, k :: ks, r => by
    cases r with
    | cons h t => rw [List.map_cons, h.key, Reps.keys t]
theorem reps_keys {a : Addr} {H : Hp} : ∀ ks : List Key, Reps a H (ks.map kV) (ks.map pk)
  | [] => .nil
  | k :: ks => .cons (rep_key k) (reps_keys ks)
def keyOf : PV → Option Key
  | .int i => some (.inl i)
  | .str x => some (.inr x)
  | _ => none
def keysOf : List PV → Option (List Key)
  | [] => some []
  | p :: ps => match keyOf p, keysOf ps with
    | some k, some ks => some (k :: ks)
    | _, _ => none
theorem keyOf_eq {p : PV} {k : Key} (h : keyOf p = some k) : p = pk k := by
  cases p <;> simp only [keyOf] at h <;> cases h <;> rfl
theorem keysOf_eq : ∀ {ps : List PV} {ks : List Key}, keysOf ps = some ks → ps = ks.map pk
  | [], ks, h => by simp only [keysOf] at h; cases h; rfl
  | p :: ps, ks, h => by
    simp only [keysOf] at h
    split at h
    · rename_i k ks' h1 h2
      cases h
      rw [List.map_cons, keyOf_eq h1, keysOf_eq h2]
    · cases h
/-- what a dict holds at a key -/
def vLook (d k : PV) (R : Option PV → Prop) : Prop := match d, k with
  | .dk kvs, p => ∃ κ, keyOf p = some κ ∧ R (look kvs κ)
  | .dt kvs, .tup ps => ∃ κ, keysOf ps = some κ ∧ R (look kvs κ)
  | _, _ => False
theorem v_look {a : Addr} {b : Bs} {H : Hp} {x y : V} {d k : PV} {R : Option PV → Prop} (rx : RepO a b H x d) (ry : RepO a b H y k) (h : vLook d k R) :
    ∃ c o q, x = .ref c ∧ DGet H c y o ∧ R q ∧ ((o = none ∧ q = none) ∨ ∃ v p, o = some v ∧ q = some p ∧ Rep a H v p) := by
  unfold vLook at h
  split at h
  · obtain ⟨κ, hk, h⟩ := h
    obtain ⟨c, kvs, rfl, hc, r⟩ := rx.dk
    rw [keyOf_eq hk] at ry
    exact ⟨c, _, _, rfl, .inl ⟨kvs, κ, hc, ry.key, rfl⟩, h, r.x.look κ⟩
  · obtain ⟨κ, hk, h⟩ := h
    obtain ⟨c, kvs, rfl, hc, r⟩ := rx.dt
    obtain ⟨d, vs, rfl, hd, _, r'⟩ := ry.tup default
    rw [keysOf_eq hk] at r'
    rw [r'.keys] at hd
    exact ⟨c, _, _, rfl, .inr ⟨kvs, κ, d, hc, rfl, hd, rfl⟩, h, r.x.look κ⟩
  · exact h.elim

/-! ### a[b] -/
def rIxD : R2 := fun x y H Q => ∃ c v, x = .ref c ∧ DGet H c y (some v) ∧ Q v H
theorem ix_dict {X : Cx} (hu : X.A.units + 1 < cLine) : IxR X rIxD := by
  intro value slice pins s σ H x y v u Q I rx ry h hs
  obtain ⟨c, z, rfl, g, q⟩ := h
  cases rx
  exact tail_any (ops := [.ref c, u]) (dict_typeIs I g) (slot_dict_getitem.lookup) (d_getItem hu I g ry fun w' s' I' r' => ⟨z, H, I', r', q⟩) hs
def vIdx (p q : PV) (R : PV → Prop) : Prop := match p, q with
  | .lst xs, .int i => ∃ v, atI xs i = some v ∧ R v
  | .tup xs, .int i => ∃ v, atI xs i = some v ∧ R v
  | .str x, .int i => ∃ c, x.length ≤ 1000 ∧ atI x.cps.toList i = some c ∧ R (.str ⟨#[c]⟩)
  | p, q => vLook p q fun o => ∃ v, o = some v ∧ R v
theorem Reps.atI {a : Addr} {H : Hp} {vs : List V} {ps : List PV} {i : Int} {p : PV} (r : Reps a H vs ps) (h : L2.atI ps i = some p) : ∃ v, L2.atI vs i = some v ∧ Rep a H v p := by
  unfold L2.atI at h ⊢
  rw [r.length]
  cases e : ixN ps.length i with
  | none => rw [e] at h; cases h
  | some j =>
    rw [e] at h
    exact r.get h
theorem se_idx (ha : SO A s ea wa) (hb : SO A s eb wb) (hs : PlainIxT eb := by intro _ _; rfl) : SE A s (.Subscript ea eb pos) (w2 wa wb vIdx) := by
  refine s2_x (r := fun X x y H Q => rIx X.K x y H Q ∨ rIxD x y H Q) (fun X t => ?_) ha hb fun X t pa pb => pe_ix (IxR.or ix_seq (ix_dict t.u1)) pa pb hs
  intro H k x y p q R Q m rx ry h hQ
  unfold vIdx at h
  split at h
  · obtain ⟨v, e, h⟩ := h
    obtain ⟨c, vs, rfl, hc, sq, r⟩ := rx.lst X.K
    cases ry.int
    obtain ⟨z, e1, r1⟩ := r.atI e
    exact .inl (.inl ⟨c, vs, _, z, rfl, rfl, sq, e1, .inl (hQ _ _ _ Up.refl m r1 h)⟩)
  · obtain ⟨v, e, h⟩ := h
    obtain ⟨c, vs, rfl, hc, sq, r⟩ := rx.tup X.K
    cases ry.int
    obtain ⟨z, e1, r1⟩ := r.atI e
    exact .inl (.inr (.inl ⟨c, vs, _, z, rfl, rfl, sq, e1, .inl (hQ _ _ _ Up.refl m r1 h)⟩))
  · obtain ⟨c, hl, e, h⟩ := h
    cases rx.str
    cases ry.int
    exact .inl (.inr (.inr ⟨_, _, c, rfl, rfl, le1000 hl, e, .inl (hQ _ _ _ Up.refl m (.str _) h)⟩))
  · obtain ⟨c, o, q', rfl, g, ⟨v, rfl, h⟩, z⟩ := v_look rx ry h
    rcases z with ⟨_, z⟩ | ⟨v', p', rfl, z, r⟩
    · cases z
    · cases z
      exact .inr ⟨c, v', rfl, g, .inl (hQ _ _ _ Up.refl m r h)⟩

/-! ### slices of lists -/
def cutP (xs : List PV) (lo hi : Option Int) : List PV := (xs.drop (HT.sIx xs.length 0 lo)).take (HT.sIx xs.length xs.length hi - HT.sIx xs.length 0 lo)
theorem Reps.cut {a : Addr} {H : Hp} {vs : List V} {ps : List PV} (r : Reps a H vs ps) (lo hi : Option Int) : Reps a H (cutV vs lo hi) (cutP ps lo hi) := by
  unfold cutV cutP
  rw [r.length]
  exact (r.drop _).take _
def vSlTo (p q : PV) (R : PV → Prop) : Prop := match p, q with
  | .lst xs, .int i => R (.lst (cutP xs none (some i)))
  | _, _ => False
def vSlFrom (p q : PV) (R : PV → Prop) : Prop := match p, q with
  | .lst xs, .int i => R (.lst (cutP xs (some i) none))
  | _, _ => False
def vSlBack (p : PV) (R : PV → Prop) : Prop := match p with
  | .lst xs => R (.lst xs.reverse)
  | _ => False
theorem Reps.reverse {a : Addr} {H : Hp} : ∀ {vs : List V} {ps : List PV}, Reps a H vs ps → Reps a H vs.reverse ps.reverse
  | _, _, .nil => .nil
  | _, _, .cons h r => by simpa using r.reverse.append (.cons h .nil)
theorem sf_slTo {p2 : Pos} (ha : SO A s ea wa) (hb : SO A s eb wb) : SF A s (.Subscript ea (.Slice none (some eb) none p2) pos) (w2 wa wb vSlTo) := by
  refine ⟨fun X t => pe_imp (pe_slice sl_list (ha.run X t) po_none (po_some (hb.run X t))) fun σ H Q ⟨Hb, S, k, R, W, x, q⟩ => ?_⟩
  refine rd_step W x fun p k1 v H1 u1 m1 r1 x1 => ?_
  refine rd_step (W.expr u1 m1) x1 fun p2 k2 v2 H2 u2 m2 r2 x2 => ?_
  unfold vSlTo at x2
  split at x2
  · obtain ⟨c, vs, rfl, hc, sq, r⟩ := (r1.up m1 u2).lst X.K
    cases r2.int
    refine ⟨_, rfl, c, vs, rfl, sq, fun p hp => ?_⟩
    exact q _ k2 _ _ ((u1.trans u2).trans (Up.new hp)) (m2.new hp) (.o ((u1.trans u2).was m2 hp) upd_same (.l ((r.cut _ _).up ((Up.new (a := A.a) (b := A.b) hp).ps m2)))) x2
  · exact x2.elim
theorem sf_slFrom {p2 : Pos} (ha : SO A s ea wa) (hb : SO A s eb wb) : SF A s (.Subscript ea (.Slice (some eb) none none p2) pos) (w2 wa wb vSlFrom) := by
  refine ⟨fun X t => pe_imp (pe_slice sl_list (ha.run X t) (po_some (hb.run X t)) po_none) fun σ H Q ⟨Hb, S, k, R, W, x, q⟩ => ?_⟩
  refine rd_step W x fun p k1 v H1 u1 m1 r1 x1 => ?_
  refine rd_step (W.expr u1 m1) x1 fun p2 k2 v2 H2 u2 m2 r2 x2 => ?_
  unfold vSlFrom at x2
  split at x2
  · obtain ⟨c, vs, rfl, hc, sq, r⟩ := (r1.up m1 u2).lst X.K
    cases r2.int
    refine ⟨_, rfl, c, vs, rfl, sq, fun p hp => ?_⟩
    exact q _ k2 _ _ ((u1.trans u2).trans (Up.new hp)) (m2.new hp) (.o ((u1.trans u2).was m2 hp) upd_same (.l ((r.cut _ _).up ((Up.new (a := A.a) (b := A.b) hp).ps m2)))) x2
  · exact x2.elim
theorem sf_slBack {j : Nat} {q1 q2 q3 : Pos} (ha : SO A s ea wa) : SF A s (.Subscript ea (.Slice none none (some (.UnaryOp .USub (.Constant (.int 1) j q1) q2)) q3) pos) (w1 wa vSlBack) := by
  refine ⟨fun X t => pe_imp (pe_revL (ha.run X t)) fun σ H Q ⟨Hb, S, k, R, W, x, q⟩ => ?_⟩
  refine rd_step W x fun p k1 v H1 u1 m1 r1 x1 => ?_
  unfold vSlBack at x1
  split at x1
  · obtain ⟨c, vs, rfl, hc, sq, r⟩ := r1.lst X.K
    refine ⟨c, vs, rfl, sq, fun p hp => ?_⟩
    exact q _ k1 _ _ (u1.trans (Up.new hp)) (m1.new hp) (.o (u1.was m1 hp) upd_same (.l (r.reverse.up ((Up.new (a := A.a) (b := A.b) hp).ps m1)))) x1
  · exact x1.elim

/-! ### in, not in -/
def vDin : VC := fun p d R => vLook d p fun o => R o.isSome
theorem op_din {X : Cx} (hu : X.A.units + 1 < cLine) : OpR X (compareOp .In) (fun y x H Q => ∃ c o, x = .ref c ∧ DGet H c y o ∧ Q (.bl o.isSome) H) := by
  intro pins s σ H y x v u Q I ry rx ⟨c, o, e, g, q⟩
  subst e
  cases rx
  exact d_in hu I g ry fun s' I' => ⟨.bl _, H, I', rfl, q⟩
theorem op_dnotin {X : Cx} (hu : X.A.units + 1 < cLine) : OpR X (compareOp .NotIn) (fun y x H Q => ∃ c o, x = .ref c ∧ DGet H c y o ∧ Q (.bl (!o.isSome)) H) := by
  intro pins s σ H y x v u Q I ry rx ⟨c, o, e, g, q⟩
  subst e
  cases rx
  exact d_notIn hu I g ry fun s' I' => ⟨.bl _, H, I', rfl, q⟩
/-- flat things that == asks item by item -/
def flatP : PV → Bool
  | .non => true
  | .bl _ => true
  | .int _ => true
  | .str _ => true
  | _ => false
def eqP : PV → PV → Bool
  | .non, .non => true
  | .bl a, .bl b => a == b
  | .bl a, .int b => (if a then 1 else 0) == b
  | .int a, .bl b => a == (if b then 1 else 0)
  | .int a, .int b => decide (a = b)
  | .str a, .str b => decide (a = b)
  | _, _ => false
def inP (x : PV) (xs : List PV) : Bool := xs.any fun y => eqP y x
theorem Rep.flat {a : Addr} {H : Hp} {v : V} {p : PV} (r : Rep a H v p) (f : flatP p = true) : flatV v = true := by
  cases r with
  | frz h r => cases r <;> cases f
  | tup _ _ => cases f
  | stm => cases f
  | _ => rfl
theorem Rep.eqf {a : Addr} {H : Hp} {v u : V} {p q : PV} (r : Rep a H v p) (r' : Rep a H u q) (f : flatP p = true) (f' : flatP q = true) : eqV v u = eqP p q := by
  cases r with
  | frz h r => cases r <;> cases f
  | tup _ _ => cases f
  | stm => cases f
  | non => cases r' with
    | frz h r => cases r <;> cases f'
    | tup _ _ => cases f'
    | stm => cases f'
    | _ => rfl
  | bl _ => cases r' with
    | frz h r => cases r <;> cases f'
    | tup _ _ => cases f'
    | stm => cases f'
    | _ => rfl
  | int _ => cases r' with
    | frz h r => cases r <;> cases f'
    | tup _ _ => cases f'
    | stm => cases f'
    | _ => rfl
  | str _ => cases r' with
    | frz h r => cases r <;> cases f'
    | tup _ _ => cases f'
    | stm => cases f'
    | str _ => simp only [eqV, eqP]; exact Bool.eq_iff_iff.mpr (by simp)
    | _ => rfl
theorem Reps.flat {a : Addr} {H : Hp} : ∀ {vs : List V} {ps : List PV}, Reps a H vs ps → ps.all flatP = true → vs.all flatV = true
  | _, _, .nil, _ => rfl
  | _, _, .cons h r, f => by
    simp only [List.all_cons, Bool.and_eq_true] at f ⊢
    exact ⟨h.flat f.1, r.flat f.2⟩
theorem Reps.inf {a : Addr} {H : Hp} {u : V} {q : PV} (r' : Rep a H u q) (f' : flatP q = true) : ∀ {vs : List V} {ps : List PV}, Reps a H vs ps → ps.all flatP = true → inV u vs = inP q ps
  | _, _, .nil, _ => rfl
  | _, _, .cons h r, f => by
    simp only [List.all_cons, Bool.and_eq_true] at f
    have := Reps.inf r' f' r f.2
    simp only [inV, inP, List.any_cons] at this ⊢
    rw [h.eqf r' f.1 f', this]
def strIn (x y : Str) : Bool := match x.cps.toList with
  | [c] => decide (c ∈ y.cps.toList)
  | _ => !(Builtin.Str.occurrences y x 0 y.length 1).isEmpty
theorem strIn_one {x : Str} {c : Nat} (h : x.cps.toList = [c]) : x = ⟨#[c]⟩ := by
  cases x with
  | mk a => congr 1; exact Array.toList_inj.mp h
def vIn : VC := fun p q R => match q with
  | .lst xs => (flatP p = true ∧ xs.all flatP = true ∧ R (inP p xs)) ∨
      ∃ d ds, data p = some d ∧ datas xs = some ds ∧ SeqAt.shaped d = true ∧ SeqAt.shaped (.list ds) = true ∧ R (ds.any fun z => PyData.eqv z d)
  | .tup xs => flatP p = true ∧ xs.all flatP = true ∧ R (inP p xs)
  | .str y => (match p with
      | .str x => R (strIn x y)
      | _ => False)
  | d => vDin p d R
theorem RepO.flat {a : Addr} {b : Bs} {H : Hp} {v : V} {p : PV} (r : RepO a b H v p) (f : flatP p = true) : Rep a H v p := by
  cases r with
  | r r => exact r
  | o h _ _ r => cases r <;> cases f
theorem in_core {X : Cx} {b : Bool} {H : Hp} {k : Nat} {x y : V} {p q : PV} {R : Bool → Prop} {Q : VK} (m : Amb A.a A.b k H) (rx : RepO A.a A.b H x p) (ry : RepO A.a A.b H y q) (h : vIn p q fun z => R (b ^^ z)) (hQ : ∀ b, R b → Q (.bl b) H) :
    (∃ c o, y = .ref c ∧ DGet H c x o ∧ Q (.bl (b ^^ o.isSome)) H) ∨ (∃ c xs, y = .ref c ∧ (SqL X.K H c xs ∨ SqT X.K H c xs) ∧ flatV x = true ∧ xs.all flatV = true ∧ Q (.bl (b ^^ inV x xs)) H) ∨
    (∃ (c : Nat) (z : Str), x = .str ⟨#[c]⟩ ∧ y = .str z ∧ Q (.bl (b ^^ decide (c ∈ z.cps.toList))) H) ∨ (∃ i j, x = .str i ∧ y = .str j ∧ Q (.bl (b ^^ !(Builtin.Str.occurrences j i 0 j.length 1).isEmpty)) H) ∨
    ∃ d ds, Dp X.K H x d ∧ Dp X.K H y (.list ds) ∧ SeqAt.shaped d = true ∧ SeqAt.shaped (.list ds) = true ∧ Q (.bl (b ^^ ds.any fun z => PyData.eqv z d)) H := by
  unfold vIn at h
  split at h
  · rcases h with ⟨f, f', h⟩ | ⟨d, ds, h1, h2, h3, h4, h5⟩
    · obtain ⟨c, vs, rfl, hc, sq, r⟩ := ry.lst X.K
      have rx' := rx.flat f
      exact .inr (.inl ⟨c, vs, rfl, .inl sq, rx'.flat f, r.flat f', by rw [Reps.inf rx' f r f']; exact hQ _ h⟩)
    · refine .inr (.inr (.inr (.inr ⟨d, ds, rx.dp X.K h1, ?_, h3, h4, hQ _ h5⟩)))
      exact ry.dp X.K (by simp only [data, h2]; rfl)
  · obtain ⟨f, f', h⟩ := h
    obtain ⟨c, vs, rfl, hc, sq, r⟩ := ry.tup X.K
    have rx' := rx.flat f
    exact .inr (.inl ⟨c, vs, rfl, .inr sq, rx'.flat f, r.flat f', by rw [Reps.inf rx' f r f']; exact hQ _ h⟩)
  · split at h
    · cases rx.str; cases ry.str
      unfold strIn at h
      split at h
      · rename_i e
        exact .inr (.inr (.inl ⟨_, _, congrArg V.str (strIn_one e), rfl, hQ _ h⟩))
      · exact .inr (.inr (.inr (.inl ⟨_, _, rfl, rfl, hQ _ h⟩)))
    · exact h.elim
  · obtain ⟨c, o, q', rfl, g, h, z⟩ := v_look ry rx h
    have e : o.isSome = q'.isSome := by
      rcases z with ⟨rfl, rfl⟩ | ⟨_, _, rfl, rfl, _⟩ <;> rfl
    exact .inl ⟨c, o, rfl, g, by rw [e]; exact hQ _ h⟩
theorem sc_in : SC A s .In vIn := ⟨fun X t => ⟨_, OpR.or (op_din t.u1) (OpR.or op_in_seq (OpR.or op_in_sign (OpR.or op_in_str (op_inD t.u65)))), fun H k x y p q R Q m rx ry h hQ => by
  have := in_core (X := X) (b := false) m rx ry (by simpa using h) hQ
  simpa [rIn, rInD] using this⟩⟩
def vNotIn : VC := fun p q R => vIn p q fun b => R (!b)
theorem sc_notin : SC A s .NotIn vNotIn := ⟨fun X t => ⟨_, OpR.or (op_dnotin t.u1) (OpR.or op_notIn_seq (OpR.or op_notIn_sign (OpR.or op_notin_str (op_notInD t.u65)))), fun H k x y p q R Q m rx ry h hQ => by
  have := in_core (X := X) (b := true) m rx ry (by simpa [vNotIn] using h) hQ
  simpa [rIn, rNotInD] using this⟩⟩
end
end TL
set_option Elab.async false
set_option linter.all false
set_option maxRecDepth 100000
set_option autoImplicit false
/-! T5: calls of defs and of built-ins. -/
namespace TL
open PySem
open PySem.Spec
open PyProof.Rows
open L2
section
variable {A : CtD} {s : CtS} {e ea eb : Expr} {es : List Expr} {wa wb : WE} {pos p1 : Pos} {x : Str}

def glB (s : CtS) (x : Str) : Bool := (match s.sc.names.lookup x with
  | some .globalImplicit => true
  | _ => false) && !(x == ("__debug__" : Str)) && !decide (x = ("__name__" : Str))
theorem glB.gl {X : Cx} (h : glB s x = true) (t : TX A s X) : Gl X x ∧ (x == ("__debug__" : Str)) = false ∧ x ≠ "__name__" := by
  unfold glB at h
  simp only [Bool.and_eq_true, Bool.not_eq_true', decide_eq_false_iff_not] at h
  refine ⟨t.gl ?_, h.1.2, h.2⟩
  have h1 := h.1.1
  split at h1
  · assumption
  · cases h1

/-! ### defs -/
def wCall (n : Nat) (τ : TSp) (ws : WA) : WE := fun S k R => ws S k fun ps k' => ps.length = n ∧ τ ps k' R
theorem call_core {n : Nat} {τ : TSp} {ws : WA} {H : Hp} {σ : L2.St} {Q : VK} {E : XK} {Hb : Hp} {S : List Slot} {k : Nat} {R : PK} (W : Wd A.a A.b Hb σ H S k) (h : wCall n τ ws S k R) (q : Post A (fun H v p => Rep A.a H v p) R H Q) :
    tCall (spT A.a A.b n τ) [] E (rdA A ws) σ H Q := by
  refine rd_step W h fun ps k1 vs H1 u1 m1 r1 x1 => ?_
  refine ⟨by rw [List.append_nil, r1.length]; exact x1.1, ps, k1, R, by rw [List.append_nil]; exact r1, m1, x1.2, fun p k' v H' u m r y => q p k' v H' (u1.trans u) m r y⟩
theorem se_call {n : Nat} {τ : TSp} {ws : WA} (i : Nat) (hf : A.fns[i]? = some (x, n, τ)) (hg : glB s x = true) (ha : SA A s (e :: es) ws) (he : ∀ env, starEach (e :: es) env = (false, eval e env) :: starEach es env := by intro _; rfl)
    (hpl : ∀ env, (backTo pos (starEach es env)).any (·.1) = false := by intro _; rfl) : SE A s (.Call (.Name x p1) (e :: es) [] pos) (wCall n τ ws) := by
  refine ⟨fun X t => ?_⟩
  obtain ⟨g1, g2, _⟩ := glB.gl hg t
  obtain ⟨f, fd, ps, j, hm, hk, hb, hl, F, hr⟩ := t.fns _ (List.mem_of_getElem? hf)
  exact pe_imp (pe_call F hr g1 hm hk hb .nil pass0 (ha.run X t) g2 (he X.env) (hpl X.env)) fun σ H Q ⟨Hb, S, k, R, W, x, q⟩ => call_core W x q
theorem se_call0 {τ : TSp} (i : Nat) (hf : A.fns[i]? = some (x, 0, τ)) (hg : glB s x = true) : SE A s (.Call (.Name x p1) [] [] pos) (wCall 0 τ wNil) := by
  refine ⟨fun X t => ?_⟩
  obtain ⟨g1, g2, _⟩ := glB.gl hg t
  obtain ⟨f, fd, ps, j, hm, hk, hb, hl, F, hr⟩ := t.fns _ (List.mem_of_getElem? hf)
  refine pe_imp (pe_call0 F hr g1 hm hk hb .nil pass0 g2) fun σ H Q ⟨Hb, S, k, R, W, x, q⟩ => ?_
  exact ⟨x.1.symm ▸ rfl, [], k, R, .nil, W.amb, x.2, fun p k' v H' u m r y => q p k' v H' u m r y⟩

/-! ### built-ins of one and two arguments -/
theorem blt {X : Cx} (t : TX A s X) (h : A.bl.contains x = true) : X.mg x = none := t.bl x (by simpa using h)
section
variable {id T : String} {f : PV → (PV → Prop) → Prop} {f2 : PV → PV → (PV → Prop) → Prop} {r : Cx → List V → Hp → VK → Prop}
theorem pe_b1 {X : Cx} (t : TX A s X) (hc : CallR X (.builtin id) (r X)) (hg : glB s x = true) (hb : A.bl.contains x = true) (hv : bootBuiltins x = some (.builtin id)) (hst : ∀ env, starEach [e] env = [(false, eval e env)]) {te : TE} (pa : PE X e te) :
    PE X (.Call (.Name x p1) [e] [] pos) (tUn (fun v H Q => r X [v] H Q) te) := by
  obtain ⟨g1, g2, g3⟩ := glB.gl hg t
  exact pe_callB hc g1 (blt t hb) hv (pa_cons pa pa_nil (hst X.env)) g3 g2 (hst X.env) rfl
theorem pe_t1 {X : Cx} (t : TX A s X) (hc : CallR X (.type T) (r X)) (hg : glB s x = true) (hb : A.bl.contains x = true) (hv : bootBuiltins x = some (.type T)) (hst : ∀ env, starEach [e] env = [(false, eval e env)]) {te : TE} (pa : PE X e te) :
    PE X (.Call (.Name x p1) [e] [] pos) (tUn (fun v H Q => r X [v] H Q) te) := by
  obtain ⟨g1, g2, g3⟩ := glB.gl hg t
  exact pe_callTy hc g1 (blt t hb) hv (pa_cons pa pa_nil (hst X.env)) g3 g2 (hst X.env) rfl
theorem se_b1 (hc : ∀ X, TX A s X → CallR X (.builtin id) (r X)) (sv : ∀ X, TX A s X → Sv1 A (fun v H Q => r X [v] H Q) f) (hv : bootBuiltins x = some (.builtin id)) (ha : SO A s e wa) (hg : glB s x = true) (hb : A.bl.contains x = true)
    (hst : ∀ env, starEach [e] env = [(false, eval e env)]) : SE A s (.Call (.Name x p1) [e] [] pos) (w1 wa f) :=
  s1_x (r := fun X v H Q => r X [v] H Q) sv ha fun X t pa => pe_b1 t (hc X t) hg hb hv hst pa
theorem se_t1 (hc : ∀ X, TX A s X → CallR X (.type T) (r X)) (sv : ∀ X, TX A s X → Sv1 A (fun v H Q => r X [v] H Q) f) (hv : bootBuiltins x = some (.type T)) (ha : SO A s e wa) (hg : glB s x = true) (hb : A.bl.contains x = true)
    (hst : ∀ env, starEach [e] env = [(false, eval e env)]) : SE A s (.Call (.Name x p1) [e] [] pos) (w1 wa f) :=
  s1_x (r := fun X v H Q => r X [v] H Q) sv ha fun X t pa => pe_t1 t (hc X t) hg hb hv hst pa
theorem sf_b1 (hc : ∀ X, TX A s X → CallR X (.builtin id) (r X)) (sv : ∀ X, TX A s X → SvF A (fun v H Q => r X [v] H Q) f) (hv : bootBuiltins x = some (.builtin id)) (ha : SO A s e wa) (hg : glB s x = true) (hb : A.bl.contains x = true)
    (hst : ∀ env, starEach [e] env = [(false, eval e env)]) : SF A s (.Call (.Name x p1) [e] [] pos) (w1 wa f) :=
  s1_f (r := fun X v H Q => r X [v] H Q) sv ha fun X t pa => pe_b1 t (hc X t) hg hb hv hst pa
theorem sf_t1 (hc : ∀ X, TX A s X → CallR X (.type T) (r X)) (sv : ∀ X, TX A s X → SvF A (fun v H Q => r X [v] H Q) f) (hv : bootBuiltins x = some (.type T)) (ha : SO A s e wa) (hg : glB s x = true) (hb : A.bl.contains x = true)
    (hst : ∀ env, starEach [e] env = [(false, eval e env)]) : SF A s (.Call (.Name x p1) [e] [] pos) (w1 wa f) :=
  s1_f (r := fun X v H Q => r X [v] H Q) sv ha fun X t pa => pe_t1 t (hc X t) hg hb hv hst pa
theorem se_b2 (hc : ∀ X, TX A s X → CallR X (.builtin id) (r X)) (sv : ∀ X, TX A s X → Sv2 A (fun v u H Q => r X [v, u] H Q) f2) (hv : bootBuiltins x = some (.builtin id)) (ha : SO A s ea wa) (hb : SO A s eb wb) (hg : glB s x = true) (hbl : A.bl.contains x = true)
    (h1 : ∀ env, starEach [ea, eb] env = (false, eval ea env) :: starEach [eb] env) (h2 : ∀ env, starEach [eb] env = [(false, eval eb env)]) : SE A s (.Call (.Name x p1) [ea, eb] [] pos) (w2 wa wb f2) := by
  refine s2_x (r := fun X v u H Q => r X [v, u] H Q) sv ha hb fun X t pa pb => ?_
  obtain ⟨g1, g2, g3⟩ := glB.gl hg t
  exact pe_callB (hc X t) g1 (blt t hbl) hv (pa_cons pa (pa_cons pb pa_nil (h2 X.env)) (h1 X.env)) g3 g2 (h1 X.env) (by rw [h2 X.env]; rfl)
end
/-- the answer keeps the heap -/
theorem sv1_pure {r : V → Hp → VK → Prop} {f : PV → (PV → Prop) → Prop} (h : ∀ H k x p R (Q : VK), Amb A.a A.b k H → RepO A.a A.b H x p → f p R → (∀ v z, Rep A.a H v z → R z → Q v H) → r x H Q) : Sv1 A r f :=
  fun H k x p R Q m rx hf hQ => h H k x p R _ m rx hf fun v z rz hz => .inl (hQ z v H Up.refl m rz hz)
theorem sv2_pure {r : R2} {f : PV → PV → (PV → Prop) → Prop} (h : ∀ H k x y p q R (Q : VK), Amb A.a A.b k H → RepO A.a A.b H x p → RepO A.a A.b H y q → f p q R → (∀ v z, Rep A.a H v z → R z → Q v H) → r x y H Q) : Sv2 A r f :=
  fun H k x y p q R Q m rx ry hf hQ => h H k x y p q R _ m rx ry hf fun v z rz hz => .inl (hQ z v H Up.refl m rz hz)
/-- the answer is laid new -/
theorem svf_new {r : V → Hp → VK → Prop} {f : PV → (PV → Prop) → Prop} (h : ∀ H k x p R (Q : VK), Amb A.a A.b k H → RepO A.a A.b H x p → f p R → (∀ c u z, H c = none → TopR A.a H u z → R z → Q (.ref c) (upd H c u)) → r x H Q) : SvF A r f :=
  fun H k x p R Q m rx hf hQ => h H k x p R Q m rx hf fun c u z hc rz hz => hQ z _ _ (Up.new hc) (m.new hc) (.o hc upd_same (rz.up ((Up.new (a := A.a) (b := A.b) hc).ps m))) hz

/-! len -/
def vLen (p : PV) (R : PV → Prop) : Prop := match p with
  | .lst xs => R (.int xs.length)
  | .tup xs => R (.int xs.length)
  | .dk xs => R (.int xs.length)
  | .dt xs => R (.int xs.length)
  | .str x => x.length ≤ 1000 ∧ R (.int x.length)
  | _ => False
def rLenX (X : Cx) : List V → Hp → VK → Prop := fun xs H Q => (∃ p ys, xs = [.ref p] ∧ (SqL X.K H p ys ∨ SqT X.K H p ys) ∧ Q (.int ys.length) H) ∨ (∃ z, xs = [.str z] ∧ z.length ≤ sizeLine ∧ Q (.int z.length) H) ∨
  (∃ p kvs, xs = [.ref p] ∧ Rd H p (.dK kvs) ∧ Q (.int kvs.length) H) ∨ ∃ p kvs, xs = [.ref p] ∧ Rd H p (.dT kvs) ∧ Q (.int kvs.length) H
theorem call_lenX {X : Cx} : CallR X (.builtin "len") (rLenX X) := by
  refine CallR.or call_len_seq (CallR.or call_len_str (CallR.or ?_ ?_))
  · intro pins s σ H xs us Q I r ⟨p, kvs, e, h, q⟩
    subst e
    obtain ⟨u, rfl, rx⟩ := vals1 r
    cases rx
    exact d_len I h fun t s' I' => ⟨.int _, H, I', ⟨_, rfl⟩, q⟩
  · intro pins s σ H xs us Q I r ⟨p, kvs, e, h, q⟩
    subst e
    obtain ⟨u, rfl, rx⟩ := vals1 r
    cases rx
    obtain ⟨z, hd, ys, rel, dd⟩ := dt_rd I.hok h
    have hl : kvs.length = ys.length := Paired.length rel
    refine call_len_dictH hd dd (by rw [← hl]; rw [sizeLine_eq] at z; omega) ?_
    rw [← hl]
    exact ⟨.int _, H, I.tok _, ⟨_, rfl⟩, q⟩
theorem se_len (ha : SO A s e wa) (hg : glB s "len" = true) (hb : A.bl.contains "len" = true) (hst : ∀ env, starEach [e] env = [(false, eval e env)] := by intro _; rfl) : SE A s (.Call (.Name "len" p1) [e] [] pos) (w1 wa vLen) := by
  refine se_b1 (r := rLenX) (fun X t => call_lenX) (fun X t => sv1_pure fun H k x p R Q m rx h hQ => ?_) boot_len ha hg hb hst
  unfold vLen at h
  split at h
  · obtain ⟨c, vs, rfl, _, sq, r⟩ := rx.lst X.K
    exact .inl ⟨c, vs, rfl, .inl sq, by rw [r.length]; exact hQ _ _ (.int _) h⟩
  · obtain ⟨c, vs, rfl, _, sq, r⟩ := rx.tup X.K
    exact .inl ⟨c, vs, rfl, .inr sq, by rw [r.length]; exact hQ _ _ (.int _) h⟩
  · obtain ⟨c, vs, rfl, sq, r⟩ := rx.dk
    exact .inr (.inr (.inl ⟨c, vs, rfl, sq, by rw [r.x.length]; exact hQ _ _ (.int _) h⟩))
  · obtain ⟨c, vs, rfl, sq, r⟩ := rx.dt
    exact .inr (.inr (.inr ⟨c, vs, rfl, sq, by rw [r.x.length]; exact hQ _ _ (.int _) h⟩))
  · cases rx.str
    exact .inr (.inl ⟨_, rfl, le1000 h.1, hQ _ _ (.int _) h.2⟩)
  · exact h.elim

/-! all, any, sum, max, min of lists -/
def vAll (p : PV) (R : PV → Prop) : Prop := match p with
  | .lst xs => ∃ bs : List Bool, xs = bs.map .bl ∧ R (.bl (bs.all id))
  | _ => False
def vAny (p : PV) (R : PV → Prop) : Prop := match p with
  | .lst xs => ∃ bs : List Bool, xs = bs.map .bl ∧ R (.bl (bs.any id))
  | _ => False
def vSum (p : PV) (R : PV → Prop) : Prop := match p with
  | .lst xs => ∃ ns : List Int, xs = ns.map .int ∧ R (.int ns.sum)
  | _ => False
def vMax (p : PV) (R : PV → Prop) : Prop := match p with
  | .lst xs => ∃ ns : List Int, xs = ns.map .int ∧ 0 < ns.length ∧ ∀ m, m ∈ ns → (∀ y, y ∈ ns → y ≤ m) → R (.int m)
  | _ => False
def vMin (p : PV) (R : PV → Prop) : Prop := match p with
  | .lst xs => ∃ ns : List Int, xs = ns.map .int ∧ 0 < ns.length ∧ ∀ m, m ∈ ns → (∀ y, y ∈ ns → m ≤ y) → R (.int m)
  | _ => False
variable (ha : SO A s e wa) (hst : ∀ env, starEach [e] env = [(false, eval e env)])
theorem se_all (ha : SO A s e wa) (hg : glB s "all" = true) (hb : A.bl.contains "all" = true) (hst : ∀ env, starEach [e] env = [(false, eval e env)] := by intro _; rfl) : SE A s (.Call (.Name "all" p1) [e] [] pos) (w1 wa vAll) := by
  refine se_b1 (r := fun X => rAll X.K) (fun X t => cr_all t.calm) (fun X t => sv1_pure fun H k x p R Q m rx h hQ => ?_) (by decide +kernel) ha hg hb hst
  unfold vAll at h
  split at h
  · obtain ⟨bs, rfl, h⟩ := h
    obtain ⟨c, vs, rfl, _, sq, r⟩ := rx.lst X.K
    exact ⟨c, bs, rfl, by rw [r.bls] at sq; exact sq, hQ _ _ (.bl _) h⟩
  · exact h.elim
theorem se_any (ha : SO A s e wa) (hg : glB s "any" = true) (hb : A.bl.contains "any" = true) (hst : ∀ env, starEach [e] env = [(false, eval e env)] := by intro _; rfl) : SE A s (.Call (.Name "any" p1) [e] [] pos) (w1 wa vAny) := by
  refine se_b1 (r := fun X => rAny X.K) (fun X t => cr_any t.calm) (fun X t => sv1_pure fun H k x p R Q m rx h hQ => ?_) (by decide +kernel) ha hg hb hst
  unfold vAny at h
  split at h
  · obtain ⟨bs, rfl, h⟩ := h
    obtain ⟨c, vs, rfl, _, sq, r⟩ := rx.lst X.K
    exact ⟨c, bs, rfl, by rw [r.bls] at sq; exact sq, hQ _ _ (.bl _) h⟩
  · exact h.elim
theorem se_sum (ha : SO A s e wa) (hg : glB s "sum" = true) (hb : A.bl.contains "sum" = true) (hst : ∀ env, starEach [e] env = [(false, eval e env)] := by intro _; rfl) : SE A s (.Call (.Name "sum" p1) [e] [] pos) (w1 wa vSum) := by
  refine se_b1 (r := fun X => rSum X.K) (fun X t => cr_sum t.calm) (fun X t => sv1_pure fun H k x p R Q m rx h hQ => ?_) (by decide +kernel) ha hg hb hst
  unfold vSum at h
  split at h
  · obtain ⟨bs, rfl, h⟩ := h
    obtain ⟨c, vs, rfl, _, sq, r⟩ := rx.lst X.K
    exact ⟨c, bs, rfl, by rw [r.ints] at sq; exact sq, hQ _ _ (.int _) h⟩
  · exact h.elim
theorem se_max (ha : SO A s e wa) (hg : glB s "max" = true) (hb : A.bl.contains "max" = true) (hst : ∀ env, starEach [e] env = [(false, eval e env)] := by intro _; rfl) : SE A s (.Call (.Name "max" p1) [e] [] pos) (w1 wa vMax) := by
  refine se_b1 (r := fun X => rMax X.K) (fun X t => cr_max t.calm) (fun X t => sv1_pure fun H k x p R Q m rx h hQ => ?_) (by decide +kernel) ha hg hb hst
  unfold vMax at h
  split at h
  · obtain ⟨bs, rfl, h0, h⟩ := h
    obtain ⟨c, vs, rfl, _, sq, r⟩ := rx.lst X.K
    exact ⟨c, bs, rfl, by rw [r.ints] at sq; exact sq, h0, fun m h1 h2 => hQ _ _ (.int _) (h m h1 h2)⟩
  · exact h.elim
theorem se_min (ha : SO A s e wa) (hg : glB s "min" = true) (hb : A.bl.contains "min" = true) (hst : ∀ env, starEach [e] env = [(false, eval e env)] := by intro _; rfl) : SE A s (.Call (.Name "min" p1) [e] [] pos) (w1 wa vMin) := by
  refine se_b1 (r := fun X => rMin X.K) (fun X t => cr_min t.calm) (fun X t => sv1_pure fun H k x p R Q m rx h hQ => ?_) (by decide +kernel) ha hg hb hst
  unfold vMin at h
  split at h
  · obtain ⟨bs, rfl, h0, h⟩ := h
    obtain ⟨c, vs, rfl, _, sq, r⟩ := rx.lst X.K
    exact ⟨c, bs, rfl, by rw [r.ints] at sq; exact sq, h0, fun m h1 h2 => hQ _ _ (.int _) (h m h1 h2)⟩
  · exact h.elim
def vMax2 (p q : PV) (R : PV → Prop) : Prop := match p, q with
  | .int i, .int j => R (.int (if j > i then j else i))
  | _, _ => False
def vMin2 (p q : PV) (R : PV → Prop) : Prop := match p, q with
  | .int i, .int j => R (.int (if j < i then j else i))
  | _, _ => False
theorem se_max2 (ha : SO A s ea wa) (hb : SO A s eb wb) (hg : glB s "max" = true) (hbl : A.bl.contains "max" = true)
    (h1 : ∀ env, starEach [ea, eb] env = (false, eval ea env) :: starEach [eb] env := by intro _; rfl) (h2 : ∀ env, starEach [eb] env = [(false, eval eb env)] := by intro _; rfl) : SE A s (.Call (.Name "max" p1) [ea, eb] [] pos) (w2 wa wb vMax2) := by
  refine se_b2 (r := fun X xs H Q => ∃ i j, xs = [.int i, .int j] ∧ Q (.int (if j > i then j else i)) H) (fun X t => call_max2 t.calm) (fun X t => sv2_pure fun H k x y p q R Q m rx ry h hQ => ?_) (by decide +kernel) ha hb hg hbl h1 h2
  unfold vMax2 at h
  split at h
  · cases rx.int; cases ry.int
    exact ⟨_, _, rfl, hQ _ _ (.int _) h⟩
  · exact h.elim
theorem se_min2 (ha : SO A s ea wa) (hb : SO A s eb wb) (hg : glB s "min" = true) (hbl : A.bl.contains "min" = true)
    (h1 : ∀ env, starEach [ea, eb] env = (false, eval ea env) :: starEach [eb] env := by intro _; rfl) (h2 : ∀ env, starEach [eb] env = [(false, eval eb env)] := by intro _; rfl) : SE A s (.Call (.Name "min" p1) [ea, eb] [] pos) (w2 wa wb vMin2) := by
  refine se_b2 (r := fun X xs H Q => ∃ i j, xs = [.int i, .int j] ∧ Q (.int (if j < i then j else i)) H) (fun X t => call_min2 t.calm) (fun X t => sv2_pure fun H k x y p q R Q m rx ry h hQ => ?_) (by decide +kernel) ha hb hg hbl h1 h2
  unfold vMin2 at h
  split at h
  · cases rx.int; cases ry.int
    exact ⟨_, _, rfl, hQ _ _ (.int _) h⟩
  · exact h.elim

/-! int, str -/
def vToInt (p : PV) (R : PV → Prop) : Prop := match p with
  | .int i => R (.int i)
  | .bl b => R (.int (if b then 1 else 0))
  | _ => False
theorem se_toInt (ha : SO A s e wa) (hg : glB s "int" = true) (hb : A.bl.contains "int" = true) (hst : ∀ env, starEach [e] env = [(false, eval e env)] := by intro _; rfl) : SE A s (.Call (.Name "int" p1) [e] [] pos) (w1 wa vToInt) := by
  refine se_t1 (r := fun X xs H Q => (∃ i, xs = [.int i] ∧ Q (.int i) H) ∨ ∃ k, xs = [.bl k] ∧ Q (.int (if k then 1 else 0)) H) (fun X t => call_int1) (fun X t => sv1_pure fun H k x p R Q m rx h hQ => ?_) (by decide +kernel) ha hg hb hst
  unfold vToInt at h
  split at h
  · cases rx.int
    exact .inl ⟨_, rfl, hQ _ _ (.int _) h⟩
  · cases rx.bl
    exact .inr ⟨_, rfl, hQ _ _ (.int _) h⟩
  · exact h.elim
def vToStr (p : PV) (R : PV → Prop) : Prop := match p with
  | .int i => small i ∧ R (.str (toString i))
  | _ => False
theorem se_toStr (ha : SO A s e wa) (hg : glB s "str" = true) (hb : A.bl.contains "str" = true) (hst : ∀ env, starEach [e] env = [(false, eval e env)] := by intro _; rfl) : SE A s (.Call (.Name "str" p1) [e] [] pos) (w1 wa vToStr) := by
  refine se_t1 (r := fun X xs H Q => ∃ i, xs = [.int i] ∧ i.natAbs.log2 < 1920 ∧ Q (.str (toString i)) H) (fun X t => call_str_int) (fun X t => sv1_pure fun H k x p R Q m rx h hQ => ?_) (by decide +kernel) ha hg hb hst
  unfold vToStr at h
  split at h
  · rename_i i
    cases rx.int
    refine ⟨_, rfl, ?_, hQ _ _ (.str _) h.2⟩
    have h1 := h.1.1
    have h2 := h.1.2
    have h3 : i.natAbs < 2 ^ 64 := by omega
    by_cases z : i.natAbs = 0
    · rw [z]; decide
    · have := (Nat.log2_lt z).mpr h3
      omega
  · exact h.elim

/-! list, tuple, dict -/
def vList (p : PV) (R : PV → Prop) : Prop := match p with
  | .lst xs => R (.lst xs)
  | .tup xs => R (.lst xs)
  | .dk xs => R (.lst (xs.map fun e => pk e.1))
  | _ => False
theorem RepK.kvs {a : Addr} {H : Hp} {vs : List (Key × V)} {ps : List (Key × PV)} (r : RepK a H vs ps) : Reps a H (vs.map fun e => kV e.1) (ps.map fun e => pk e.1) := by
  have e : vs.map (fun e => kV e.1) = (ps.map (·.1)).map kV := by rw [← r.x.keys, List.map_map]; rfl
  have e2 : ps.map (fun e => pk e.1) = (ps.map (·.1)).map pk := by rw [List.map_map]; rfl
  rw [e, e2]; exact reps_keys _
theorem sf_list (ha : SO A s e wa) (hg : glB s "list" = true) (hb : A.bl.contains "list" = true) (hst : ∀ env, starEach [e] env = [(false, eval e env)] := by intro _; rfl) : SF A s (.Call (.Name "list" p1) [e] [] pos) (w1 wa vList) := by
  refine sf_t1 (r := fun X xs H Q => (∃ p ys, xs = [.ref p] ∧ (SqL X.K H p ys ∨ SqT X.K H p ys) ∧ ∀ l, H l = none → Q (.ref l) (upd H l (.lst ys))) ∨
    ∃ (a : Addr) (kvs : List (Key × V)), xs = [.ref a] ∧ Rd H a (.dK kvs) ∧ ∀ p, H p = none → Q (.ref p) (upd H p (.lst (kvs.map fun kv => kV kv.1)))) (fun X t => CallR.or call_list_of (call_listD t.calm))
    (fun X t => svf_new fun H k x p R Q m rx h hQ => ?_) (by decide +kernel) ha hg hb hst
  unfold vList at h
  split at h
  · obtain ⟨c, vs, rfl, _, sq, r⟩ := rx.lst X.K
    exact .inl ⟨c, vs, rfl, .inl sq, fun l hl => hQ l _ _ hl (.l r) h⟩
  · obtain ⟨c, vs, rfl, _, sq, r⟩ := rx.tup X.K
    exact .inl ⟨c, vs, rfl, .inr sq, fun l hl => hQ l _ _ hl (.l r) h⟩
  · obtain ⟨c, vs, rfl, hc, r⟩ := rx.dk
    exact .inr ⟨c, vs, rfl, hc, fun l hl => hQ l _ _ hl (.l r.kvs) h⟩
  · exact h.elim
def vTuple (p : PV) (R : PV → Prop) : Prop := match p with
  | .lst xs => R (.tup xs)
  | .tup xs => R (.tup xs)
  | _ => False
theorem se_tuple (ha : SO A s e wa) (hg : glB s "tuple" = true) (hb : A.bl.contains "tuple" = true) (hst : ∀ env, starEach [e] env = [(false, eval e env)] := by intro _; rfl) : SE A s (.Call (.Name "tuple" p1) [e] [] pos) (w1 wa vTuple) := by
  refine se_t1 (r := fun X xs H Q => ∃ p ys, xs = [.ref p] ∧ ((SqL X.K H p ys ∧ ∀ l, H l = none → Q (.ref l) (upd H l (.tup ys))) ∨ (SqT X.K H p ys ∧ Q (.ref p) H))) (fun X t => call_tuple_of) (fun X t H k x p R Q m rx h hQ => ?_) (by decide +kernel) ha hg hb hst
  unfold vTuple at h
  split at h
  · obtain ⟨c, vs, rfl, _, sq, r⟩ := rx.lst X.K
    exact ⟨c, vs, rfl, .inl ⟨sq, fun l hl => .inl (hQ _ _ _ (Up.new hl) (m.new hl) (.tup upd_same (r.up ((Up.new (a := A.a) (b := A.b) hl).ps m))) h)⟩⟩
  · obtain ⟨c, vs, rfl, hc, sq, r⟩ := rx.tup X.K
    exact ⟨c, vs, rfl, .inr ⟨sq, .inl (hQ _ _ _ Up.refl m (.tup hc r) h)⟩⟩
  · exact h.elim
/-- dict(pairs), dict(d) -/
def pairsOf : List PV → Option (List (Key × PV))
  | [] => some []
  | .tup [k, v] :: r => match keyOf k, pairsOf r with
    | some κ, some l => some ((κ, v) :: l)
    | _, _ => none
  | _ :: _ => none
def vDict (p : PV) (R : PV → Prop) : Prop := match p with
  | .lst xs => ∃ l, pairsOf xs = some l ∧ R (.dk (mergeP [] l))
  | .dk kvs => R (.dk kvs)
  | _ => False
theorem Rep.tup' {a : Addr} {H : Hp} {v : V} {ps : List PV} (r : Rep a H v (.tup ps)) : ∃ c vs, v = .ref c ∧ H c = some (.tup vs) ∧ Reps a H vs ps := by
  cases r with
  | frz h r => cases r
  | tup h r => exact ⟨_, _, rfl, h, r⟩
theorem pairs_ok {a : Addr} {H : Hp} (K : PySem.W.Frag) : ∀ {vs : List V} {ps : List PV} {l : List (Key × PV)}, Reps a H vs ps → pairsOf ps = some l →
    ∃ (cs : List Addr) (kvs : List (Key × V)), vs = cs.map V.ref ∧ Paired (fun p (kv : Key × V) => SqT K H p [kV kv.1, kv.2]) cs kvs ∧ RepX a H kvs l
  | _, _, l, .nil, e => by simp only [pairsOf] at e; cases e; exact ⟨[], [], rfl, .nil, .nil⟩
  | _, _, l, .cons (p := p) h r, e => by
    unfold pairsOf at e
    split at e
    · rename_i e0; cases e0
    · rename_i k v rest e0
      cases e0
      split at e
      · rename_i κ l' h1 h2
        cases e
        obtain ⟨cs, kvs, e1, e2, e3⟩ := pairs_ok K r h2
        obtain ⟨c, ws, rfl, hc, rr⟩ := h.tup'
        rw [keyOf_eq h1] at rr
        cases rr with
        | cons r1 rr => cases rr with
          | cons r2 rr =>
            cases rr
            have := r1.key
            subst this e1
            exact ⟨c :: cs, (κ, _) :: kvs, rfl, .cons (.inl (.inl hc)) e2, .cons r2 e3⟩
      · cases e
    · cases e
theorem sf_dict (ha : SO A s e wa) (hg : glB s "dict" = true) (hb : A.bl.contains "dict" = true) (hst : ∀ env, starEach [e] env = [(false, eval e env)] := by intro _; rfl) : SF A s (.Call (.Name "dict" p1) [e] [] pos) (w1 wa vDict) := by
  refine sf_t1 (r := fun X xs H Q => (∃ (a : Addr) (ps : List Addr) (kvs : List (Key × V)), xs = [.ref a] ∧ SqL X.K H a (ps.map V.ref) ∧ Paired (fun p kv => SqT X.K H p [kV kv.1, kv.2]) ps kvs ∧ ∀ p, H p = none → Q (.ref p) (upd H p (.dK (mergeK [] kvs)))) ∨
    ∃ (a : Addr) (kvs : List (Key × V)), xs = [.ref a] ∧ Rd H a (.dK kvs) ∧ ∀ p, H p = none → Q (.ref p) (upd H p (.dK kvs))) (fun X t => CallR.or (call_dictP t.calm) call_dictD)
    (fun X t => svf_new fun H k x p R Q m rx h hQ => ?_) (by decide +kernel) ha hg hb hst
  unfold vDict at h
  split at h
  · obtain ⟨l, hl, h⟩ := h
    obtain ⟨c, vs, rfl, _, sq, r⟩ := rx.lst X.K
    obtain ⟨cs, kvs, rfl, e2, e3⟩ := pairs_ok X.K r hl
    exact .inl ⟨c, cs, kvs, rfl, sq, e2, fun p hp => hQ p _ _ hp (.k ((RepX.merge (vs := []) (ps := []) e3 .nil).k)) h⟩
  · obtain ⟨c, vs, rfl, hc, r⟩ := rx.dk
    exact .inr ⟨c, vs, rfl, hc, fun p hp => hQ p _ _ hp (.k r) h⟩
  · exact h.elim
end
end TL
set_option Elab.async false
set_option linter.all false
set_option maxRecDepth 100000
set_option autoImplicit false
/-! T6: statements and loops. -/
namespace TL
open PySem
open PySem.Spec
open PyProof.Rows
open L2

structure WD where
  nx : List Slot → Nat → Prop
  rt : PK
  bk : List Slot → Nat → Prop := fun _ _ => False
  ct : List Slot → Nat → Prop := fun _ _ => False
abbrev WS := WD → List Slot → Nat → Prop
structure EndsR (A : CtD) (Hb : Hp) (W : WD) (D : Ends) : Prop where
  nx : ∀ σ H S k, Wd A.a A.b Hb σ H S k → W.nx S k → D.nx σ H
  rt : ∀ p k v H, Up A.a A.b Hb H → Amb A.a A.b k H → Rep A.a H v p → W.rt p k → D.rt v H
  bk : ∀ σ H S k, Wd A.a A.b Hb σ H S k → W.bk S k → D.bk σ H
  ct : ∀ σ H S k, Wd A.a A.b Hb σ H S k → W.ct S k → D.ct σ H
def rdS (A : CtD) (w : WS) : TS := fun D σ H => ∃ Hb S k W, Wd A.a A.b Hb σ H S k ∧ EndsR A Hb W D ∧ w W S k
structure SS (A : CtD) (s : CtS) (st : Stmt) (w : WS) : Prop where
  run : ∀ X, TX A s X → PS X st (rdS A w)
structure SSs (A : CtD) (s : CtS) (sts : List Stmt) (w : WS) : Prop where
  run : ∀ X, TX A s X → PSs X sts (rdS A w)

section
variable {A : CtD} {s : CtS} {e ea eb : Expr} {st : Stmt} {sts : List Stmt} {wa wb w : WE} {pos p1 p2 : Pos} {x y : Str}
theorem EndsR.with {Hb : Hp} {W : WD} {D : Ends} (r : EndsR A Hb W D) {n : List Slot → Nat → Prop} {m : L2.St → Hp → Prop} (h : ∀ σ H S k, Wd A.a A.b Hb σ H S k → n S k → m σ H) :
    EndsR A Hb { W with nx := n } { D with nx := m } := ⟨h, r.rt, r.bk, r.ct⟩

/-! ### blocks -/
def wSeq (u v : WS) : WS := fun W S k => u { W with nx := v W } S k
def wSkip : WS := fun W S k => W.nx S k
theorem sss_nil : SSs A s [] wSkip := ⟨fun X t => pss_imp pss_nil fun D σ H ⟨Hb, S, k, W, d, r, x⟩ => r.nx σ H S k d x⟩
theorem sss_cons {u v : WS} (h : SS A s st u) (h' : SSs A s sts v) : SSs A s (st :: sts) (wSeq u v) :=
  ⟨fun X t => pss_imp (pss_cons (h.run X t) (h'.run X t)) fun D σ H ⟨Hb, S, k, W, d, r, x⟩ => ⟨Hb, S, k, _, d, r.with fun σ' H' S' k' d' x' => ⟨Hb, S', k', W, d', r, x'⟩, x⟩⟩
theorem sss_one {u : WS} (h : SS A s st u) : SSs A s [st] u := ⟨fun X t => pss_one (h.run X t)⟩
theorem ss_pass : SS A s (.Pass pos) wSkip := ⟨fun X t => ps_imp ps_pass fun D σ H ⟨Hb, S, k, W, d, r, x⟩ => r.nx σ H S k d x⟩
theorem ss_break : SS A s (.Break pos) (fun W S k => W.bk S k) := ⟨fun X t => ps_imp ps_break fun D σ H ⟨Hb, S, k, W, d, r, x⟩ => r.bk σ H S k d x⟩
theorem ss_continue : SS A s (.Continue pos) (fun W S k => W.ct S k) := ⟨fun X t => ps_imp ps_continue fun D σ H ⟨Hb, S, k, W, d, r, x⟩ => r.ct σ H S k d x⟩
theorem ss_never : SS A s st (fun _ _ _ => False) := ⟨fun X t => ps_imp ps_never fun D σ H ⟨Hb, S, k, W, d, r, x⟩ => x⟩
theorem ss_doc {z j q} : SS A s (.Expr (.Constant (.str z) j p1) q) wSkip := ⟨fun X t => ps_imp ps_doc fun D σ H ⟨Hb, S, k, W, d, r, x⟩ => r.nx σ H S k d x⟩
def wRet (w : WE) : WS := fun W S k => w S k W.rt
theorem ss_ret (h : SE A s e w) : SS A s (.Return (some e) pos) (wRet w) :=
  ⟨fun X t => ps_imp (ps_ret (h.run X t)) fun D σ H ⟨Hb, S, k, W, d, r, x⟩ => ⟨Hb, S, k, W.rt, d, x, fun p k' v H' u m rr y => r.rt p k' v H' (d.up.trans u) m rr y⟩⟩
theorem ss_retN : SS A s (.Return none pos) (fun W _ k => W.rt .non k) := ⟨fun X t => ps_imp ps_retN fun D σ H ⟨Hb, S, k, W, d, r, x⟩ => r.rt _ k _ H d.up d.amb .non x⟩
def wIf (c : WT) (u v : WS) : WS := fun W S k => c S k fun b k' => if b = true then u W S k' else v W S k'
theorem ss_if {c : Expr} {a b : List Stmt} {tc : WT} {u v : WS} (hc : ST A s c tc) (ha : SSs A s a u) (hb : SSs A s b v) : SS A s (.If c a b pos) (wIf tc u v) := by
  refine ⟨fun X t => ps_imp (ps_if (hc.run X t) (ha.run X t) (hb.run X t)) fun D σ H ⟨Hb, S, k, W, d, r, x⟩ => ?_⟩
  refine ⟨Hb, S, k, _, d, x, fun b k' v' H' u' m rr y => ?_⟩
  subst rr
  have d' := d.expr u' m
  split at y
  · rename_i hb; rw [if_pos hb]; exact ⟨Hb, S, k', W, d', r, y⟩
  · rename_i hb; rw [if_neg hb]; exact ⟨Hb, S, k', W, d', r, y⟩
/-- an expression whose value is dropped -/
def wDrop (w : WE) : WS := fun W S k => w S k fun _ k' => W.nx S k'
theorem ss_expr (h : SO A s e w) (hs : ∀ env, swapsWith e none pos.line env = pure false := by intro _; rfl) : SS A s (.Expr e pos) (wDrop w) :=
  ⟨fun X t => ps_imp (ps_expr (h.run X t) (hs X.env)) fun D σ H ⟨Hb, S, k, W, d, r, x⟩ => ⟨Hb, S, k, _, d, x, fun p k' v H' u m rr y => r.nx σ H' S k' (d.expr u m) y⟩⟩

/-! ### stores to names -/
def lOk (s : CtS) (i : Nat) (x : Str) : Bool := decide (s.N[i]? = some x) && (match s.sc.names.lookup x with
  | some .local => true
  | some .cell => s.fnb x
  | _ => false)
theorem lOk.loc {X : Cx} {i : Nat} (h : lOk s i x = true) (t : TX A s X) : X.N[i]? = some x ∧ Loc X.env.scope x ∧ (X.fn x = true ∨ X.env.scope.names.lookup x = some .local) ∧ i < s.N.length := by
  unfold lOk at h
  simp only [Bool.and_eq_true, decide_eq_true_eq] at h
  have h1 := h.1
  have hl := (List.getElem?_eq_some_iff.mp h1).1
  rw [t.hN, t.sc]
  have h2 := h.2
  split at h2
  · rename_i z; exact ⟨h1, .inl z, .inr z, hl⟩
  · rename_i z; exact ⟨h1, .inr z, .inl (t.fn x h2), hl⟩
  · cases h2
theorem Wd.lt {a : Addr} {b : Bs} {Hb H : Hp} {σ : L2.St} {S : List Slot} {k i : Nat} (d : Wd a b Hb σ H S k) (h : i < σ.length) : i < S.length := by rw [d.len]; exact h
def wAsg (i : Nat) (w : WE) : WS := fun W S k => w S k fun p k' => i < S.length ∧ W.nx (S.set i (.fz p)) k'
def wAsgF (i : Nat) (w : WE) : WS := fun W S k => w S k fun p k' => i < S.length ∧ W.nx (S.set i (.ow p)) k'
theorem ss_asg {i : Nat} (h : SE A s e w) (hl : lOk s i x = true) (hs : ∀ env, swapsWith e (some (.Name x p1)) pos.line env = pure false := by intro _; rfl) : SS A s (.Assign [.Name x p1] e pos) (wAsg i w) := by
  refine ⟨fun X t => ?_⟩
  obtain ⟨l1, l2, l3, l4⟩ := lOk.loc hl t
  refine ps_imp (ps_set t.nd l1 l2 (h.run X t) (hs X.env) l3) fun D σ H ⟨Hb, S, k, W, d, r, x⟩ => ⟨Hb, S, k, _, d, x, fun p k' v H' u m rr y => r.nx _ _ _ _ ((d.expr u m).set y.1 rr) y.2⟩
theorem ss_asgF {i : Nat} (h : SF A s e w) (hl : lOk s i x = true) (hs : ∀ env, swapsWith e (some (.Name x p1)) pos.line env = pure false := by intro _; rfl) : SS A s (.Assign [.Name x p1] e pos) (wAsgF i w) := by
  refine ⟨fun X t => ?_⟩
  obtain ⟨l1, l2, l3, l4⟩ := lOk.loc hl t
  refine ps_imp (ps_set t.nd l1 l2 (h.run X t) (hs X.env) l3) fun D σ H ⟨Hb, S, k, W, d, r, x⟩ => ⟨Hb, S, k, _, d, x, fun p k' v H' u m rr y => ?_⟩
  cases rr with
  | o n hc rr => exact r.nx _ _ _ _ (d.setOwn u m y.1 n hc rr) y.2

/-! ### freezing, lending -/
def frz (i : Nat) (S : List Slot) : List Slot := match S[i]? with
  | some (.ow p) => S.set i (.fz p)
  | _ => S
theorem ps_pre {X : Cx} {st : Stmt} {t : TS} (h : PS X st t) : PS X st (fun D σ H => t D σ H ∨ ∃ d u, H d = some u ∧ Mut (some u) ∧ ∀ od, t D σ (upd H d (.frz od u))) := by
  refine ⟨fun pins s σ H D I hw => ?_⟩
  rcases hw with hw | ⟨d, u, hd, mu, hw⟩
  · exact h.run pins s σ H D I hw
  · obtain ⟨od, I1⟩ := I.lock hd mu
    exact h.run pins s σ _ D I1 (hw od)
def wFrz (i : Nat) (u : WS) : WS := fun W S k => u W (frz i S) k
/-- slot i is frozen ahead of the statement -/
theorem ss_frz {u : WS} (i : Nat) (h : SS A s st u) : SS A s st (wFrz i u) := by
  refine ⟨fun X t => ps_imp (ps_pre (h.run X t)) fun D σ H ⟨Hb, S, k, W, d, r, x⟩ => ?_⟩
  unfold wFrz frz at x
  split at x
  · rename_i p hp
    obtain ⟨c, u, e1, h1, rr⟩ := d.sl i _ hp
    exact .inr ⟨c, u, h1, rr.mut, fun od => ⟨Hb, _, k, W, d.freeze ⟨e1, p, hp⟩ h1 rr, r, x⟩⟩
  · exact .inl ⟨Hb, S, k, W, d, r, x⟩
mutual
/-- no dict within -/
def noD : PV → Bool
  | .lst xs => noDs xs
  | .tup xs => noDs xs
  | .dk _ => false
  | .dt _ => false
  | _ => true
def noDs : List PV → Bool
  | [] => true
  | x :: xs => noD x && noDs xs
end
mutual
/-- no list within -/
def noL : PV → Bool
  | .lst _ => false
  | .tup xs => noLs xs
  | .dk kvs => noLk kvs
  | .dt kvs => noLt kvs
  | _ => true
def noLs : List PV → Bool
  | [] => true
  | x :: xs => noL x && noLs xs
def noLk : List (Key × PV) → Bool
  | [] => true
  | x :: xs => noL x.2 && noLk xs
def noLt : List (List Key × PV) → Bool
  | [] => true
  | x :: xs => noL x.2 && noLt xs
end
/-- trees without things of u's kind do not lean on d -/
theorem noD_keep {a : Addr} {H : Hp} {d : Addr} {od : Obj} {u u' : HO} {q : PV} (hd : H d = some (.frz od u)) (tu : TopR a H u q) (hq : ∀ xs, q ≠ .lst xs) :
    (∀ (p : PV) (v : V), Rep a H v p → noD p = true → Rep a (upd H d u') v p) ∧ ∀ (ps : List PV) (vs : List V), Reps a H vs ps → noDs ps = true → Reps a (upd H d u') vs ps := by
  have ht : ∀ c xs, H c = some (.tup xs) → upd H d u' c = some (.tup xs) := fun c xs h => by
    rw [upd_ne (fun z => by rw [z, hd] at h; cases h)]; exact h
  have key : ∀ n, (∀ (p : PV) (v : V), sizeOf p ≤ n → Rep a H v p → noD p = true → Rep a (upd H d u') v p) ∧ ∀ (ps : List PV) (vs : List V), sizeOf ps ≤ n → Reps a H vs ps → noDs ps = true → Reps a (upd H d u') vs ps := by
    intro n
    induction n with
    | zero =>
      refine ⟨fun p v hs => ?_, fun ps vs hs => ?_⟩
      · cases p <;> simp at hs
      · cases ps <;> simp at hs
    | succ n ih =>
      refine ⟨fun p v hs r f => ?_, fun ps vs hs r f => ?_⟩
      · cases r with
        | non => exact .non
        | bl b => exact .bl b
        | int b => exact .int b
        | str b => exact .str b
        | stm => exact .stm
        | tup h r =>
          rename_i c vs ps
          simp only [noD] at f
          exact .tup (ht _ _ h) (ih.2 _ _ (by simp at hs; omega) r f)
        | frz h r =>
          cases r with
          | l r =>
            rename_i c o vs ps
            simp only [noD] at f
            have hc : c ≠ d := by
              rintro rfl
              rw [hd] at h; cases h
              cases tu; exact hq _ rfl
            exact .frz (by rw [upd_ne hc]; exact h) (.l (ih.2 _ _ (by simp at hs; omega) r f))
          | k r => simp only [noD] at f; cases f
          | t r => simp only [noD] at f; cases f
      · cases r with
        | nil => exact .nil
        | cons h r =>
          rename_i v p vs ps
          simp only [noDs, Bool.and_eq_true] at f
          simp at hs
          exact .cons (ih.1 _ _ (by omega) h f.1) (ih.2 _ _ (by omega) r f.2)
  exact ⟨fun p v => (key _).1 p v (Nat.le_refl _), fun ps vs => (key _).2 ps vs (Nat.le_refl _)⟩
def isL : PV → Bool
  | .lst _ => true
  | _ => false
/-- slot i is lent to an expression whose answer has no dict within; it holds a dict -/
def wLend (i : Nat) (w : WE) : WE := fun S k R => match S[i]? with
  | some (.ow q) => isL q = false ∧ w (S.set i (.fz q)) k fun p k' => noD p = true ∧ R p k'
  | _ => w S k R
theorem pe_lend {X : Cx} {t : TE} (h : PE X e t) : PE X e (fun σ H Q => t σ H Q ∨ ∃ d u, H d = some u ∧ Mut (some u) ∧ ∀ od, t σ (upd H d (.frz od u)) fun v H' => H' d = some (.frz od u) ∧ Q v (upd H' d u)) := by
  refine ⟨fun pins s σ H Q I hw => ?_⟩
  rcases hw with hw | ⟨d, u, hd, mu, hw⟩
  · exact h.run pins s σ H Q I hw
  · exact (pe_lock h).run pins s σ H Q I ⟨d, u, hd, mu, hw⟩
theorem se_lend (i : Nat) (h : SE A s e w) : SE A s e (wLend i w) := by
  refine ⟨fun X t => pe_imp (pe_lend (h.run X t)) fun σ H Q ⟨Hb, S, k, R, W, x, q⟩ => ?_⟩
  unfold wLend at x
  split at x
  · rename_i p0 hp
    obtain ⟨c, u, e1, h1, rr⟩ := W.sl i _ hp
    obtain ⟨_, na, nb, _⟩ := W.own i c ⟨e1, p0, hp⟩
    refine .inr ⟨c, u, h1, rr.mut, fun od => ⟨Hb, _, k, _, W.freeze ⟨e1, p0, hp⟩ h1 rr, x.2, fun p k' v H' u' m r y => ?_⟩⟩
    have hd : H' c = some (.frz od u) := u'.keep c _ upd_same (fun ps z => by cases z) na nb
    have top : TopR A.a H' u p0 := (rr.up (ps_upd h1 rr.mut)).up (u'.ps (W.freeze ⟨e1, p0, hp⟩ h1 rr).amb)
    refine ⟨hd, q p k' v _ ⟨fun d o hd' t n1 n2 => ?_, fun d e => ?_⟩ (m.unlk hd na nb) ((noD_keep hd top (fun xs z => by rw [z] at x; cases x.1)).1 p v r y.1) y.2⟩
    by_cases hdc : d = c
    · subst hdc; rw [upd_same]; rw [h1] at hd'; exact hd'
    · rw [upd_ne hdc]; exact u'.keep d o (by rw [upd_ne hdc]; exact hd') t n1 n2
    · by_cases hdc : d = c
      · subst hdc; rw [upd_same] at e; cases e
      · rw [upd_ne hdc] at e
        have e2 := u'.non d e
        rw [upd_ne hdc] at e2; exact e2
  · exact .inl ⟨Hb, S, k, R, W, x, q⟩
end
end TL
set_option Elab.async false
set_option linter.all false
set_option maxRecDepth 100000
set_option autoImplicit false
/-! T7: targets, own things changed, while, for. -/
namespace TL
open PySem
open PySem.Spec
open PyProof.Rows
open L2
section
variable {A : CtD} {s : CtS} {e ea eb : Expr} {st : Stmt} {sts : List Stmt} {wa wb w : WE} {pos p1 p2 : Pos} {x y : Str}

/-! ### targets -/
abbrev GP := PV → List Slot → (List Slot → Prop) → Prop
abbrev GPs := List PV → List Slot → (List Slot → Prop) → Prop
/-- only slots of the list have changed -/
def Chg (ix : List Nat) (σ σ' : L2.St) : Prop := ∀ vs : List Nat, (∀ i ∈ ix, i ∈ vs) → wipe σ' vs = wipe σ vs
theorem Chg.refl {ix : List Nat} {σ : L2.St} : Chg ix σ σ := fun _ _ => rfl
theorem Chg.trans {i1 i2 : List Nat} {σ σ1 σ2 : L2.St} (a : Chg i1 σ σ1) (b : Chg i2 σ1 σ2) : Chg (i1 ++ i2) σ σ2 := fun vs h =>
  (b vs fun i hi => h i (List.mem_append.mpr (.inr hi))).trans (a vs fun i hi => h i (List.mem_append.mpr (.inl hi)))
theorem wipe_set {σ : L2.St} {i : Nat} {v : Option V} : ∀ {vs : List Nat}, i ∈ vs → wipe (σ.set i v) vs = wipe σ vs
  | j :: vs, h => by
    by_cases e : i ∈ vs
    · show (wipe (σ.set i v) vs).set j none = (wipe σ vs).set j none
      rw [wipe_set e]
    · obtain rfl : i = j := by
        rcases List.mem_cons.mp h with z | z
        · exact z
        · exact absurd z e
      show (wipe (σ.set i v) vs).set i none = (wipe σ vs).set i none
      clear h
      have : ∀ {us : List Nat}, i ∉ us → wipe (σ.set i v) us = (wipe σ us).set i v := by
        intro us hu
        induction us with
        | nil => rfl
        | cons u us ih =>
          have hu' : i ≠ u := fun z => hu (by simp [z])
          show (wipe (σ.set i v) us).set u none = ((wipe σ us).set u none).set i v
          rw [ih (fun z => hu (List.mem_cons_of_mem _ z)), List.set_comm _ _ hu']
      rw [this e, List.set_set]
theorem chg_set {σ : L2.St} {i : Nat} {v : Option V} : Chg [i] σ (σ.set i v) := fun vs h => wipe_set (h i (by simp))
/-- .. and nothing more is own -/
structure ChgS (ix : List Nat) (σ : L2.St) (S : List Slot) (σ' : L2.St) (S' : List Slot) : Prop where
  wp : Chg ix σ σ'
  ow : ∀ j c, Own σ' S' j c → Own σ S j c
theorem ChgS.refl {ix : List Nat} {σ : L2.St} {S : List Slot} : ChgS ix σ S σ S := ⟨Chg.refl, fun _ _ o => o⟩
theorem ChgS.trans {i1 i2 : List Nat} {σ σ1 σ2 : L2.St} {S S1 S2 : List Slot} (a : ChgS i1 σ S σ1 S1) (b : ChgS i2 σ1 S1 σ2 S2) : ChgS (i1 ++ i2) σ S σ2 S2 := ⟨a.wp.trans b.wp, fun j c o => a.ow j c (b.ow j c o)⟩
def rdGt (A : CtD) (ix : List Nat) (g : GP) : TG := fun v σ H Q => ∃ Hb S k p R, Wd A.a A.b Hb σ H S k ∧ Rep A.a H v p ∧ g p S R ∧ ∀ σ' S', Wd A.a A.b Hb σ' H S' k → ChgS ix σ S σ' S' → R S' → Q σ' H
def rdGts (A : CtD) (ix : List Nat) (g : GPs) : TGs := fun v σ H Q => ∃ Hb S k p R, Wd A.a A.b Hb σ H S k ∧ Reps A.a H v p ∧ g p S R ∧ ∀ σ' S', Wd A.a A.b Hb σ' H S' k → ChgS ix σ S σ' S' → R S' → Q σ' H
structure SG (A : CtD) (s : CtS) (tg : Expr) (ix : List Nat) (g : GP) : Prop where
  run : ∀ X, TX A s X → PG X tg (rdGt A ix g)
structure SGs (A : CtD) (s : CtS) (tgs : List Expr) (ix : List Nat) (g : GPs) : Prop where
  run : ∀ X, TX A s X → PGs X tgs (rdGts A ix g)
theorem pg_imp {X : Cx} {tg : Expr} {t t' : TG} (h : PG X tg t) (i : ∀ v σ H Q, t' v σ H Q → t v σ H Q) : PG X tg t' := ⟨fun pins s σ H v u Q I r q => h.run pins s σ H v u Q I r (i v σ H Q q)⟩
theorem pgs_imp {X : Cx} {tg : List Expr} {t t' : TGs} (h : PGs X tg t) (i : ∀ v σ H Q, t' v σ H Q → t v σ H Q) : PGs X tg t' := ⟨fun pins s σ H v u Q I r q => h.run pins s σ H v u Q I r (i v σ H Q q)⟩
def gN (i : Nat) : GP := fun p S R => i < S.length ∧ R (S.set i (.fz p))
def gsN : GPs := fun ps S R => ps = [] ∧ R S
def gsC (g : GP) (gs : GPs) : GPs := fun ps S R => match ps with
  | p :: r => g p S fun S' => gs r S' R
  | [] => False
def gT (gs : GPs) : GP := fun p S R => match p with
  | .tup ps => gs ps S R
  | _ => False
theorem sg_n {i : Nat} (hl : lOk s i x = true) : SG A s (.Name x pos) [i] (gN i) := by
  refine ⟨fun X t => ?_⟩
  obtain ⟨l1, l2, l3, l4⟩ := lOk.loc hl t
  refine pg_imp (pg_name t.nd l1 l2 l3) fun v σ H Q ⟨Hb, S, k, p, R, d, r, g, q⟩ => q _ _ (d.set g.1 r) ⟨chg_set, fun j c o => (own_old (fun _ z => by cases z) o).2⟩ g.2
theorem sgs_n : SGs A s [] [] gsN := ⟨fun X t => pgs_imp pgs_nil fun v σ H Q ⟨Hb, S, k, p, R, d, r, g, q⟩ => by
  obtain ⟨rfl, g⟩ := g
  cases r
  exact ⟨rfl, q _ _ d ChgS.refl g⟩⟩
theorem sgs_c {es : List Expr} {i1 i2 : List Nat} {g : GP} {gs : GPs} (h : SG A s e i1 g) (h' : SGs A s es i2 gs)
    (hs : ∀ env, (assignEach (e :: es) env).map (·.2) = assign e env :: (assignEach es env).map (·.2) := by intro _; rfl) : SGs A s (e :: es) (i1 ++ i2) (gsC g gs) := by
  refine ⟨fun X t => pgs_imp (pgs_cons (h.run X t) (h'.run X t) (hs X.env)) fun v σ H Q ⟨Hb, S, k, p, R, d, r, g', q⟩ => ?_⟩
  unfold gsC at g'
  split at g'
  · cases r with
    | cons r1 r2 =>
      exact ⟨_, _, rfl, Hb, S, k, _, _, d, r1, g', fun σ' S' d' c' x' => ⟨Hb, S', k, _, R, d', r2, x', fun σ2 S2 d2 c2 x2 => q σ2 S2 d2 (c'.trans c2) x2⟩⟩
  · exact g'.elim
theorem sg_t {es : List Expr} {ix : List Nat} {j n : Nat} {gs : GPs} (h : SGs A s es ix gs) (hn : ∀ env, (assignEach es env).length = n := by intro _; rfl)
    (hg : ∀ ps S R, gs ps S R → ps.length = n) (hst : ∀ env, (assignEach es env).findIdx? (·.1) = none := by intro _; rfl) : SG A s (.Tuple es j pos) ix (gT gs) := by
  refine ⟨fun X t => pg_imp (pg_tup t.calm (h.run X t) (hn X.env) (hst X.env)) fun v σ H Q ⟨Hb, S, k, p, R, d, r, g', q⟩ => ?_⟩
  unfold gT at g'
  split at g'
  · obtain ⟨c, vs, rfl, hc, r⟩ := r.tup'
    exact ⟨c, vs, rfl, .inl (.inl hc), by rw [r.length]; exact hg _ _ _ g', Hb, S, k, _, R, d, r, g', q⟩
  · exact g'.elim
theorem gsN_len : ∀ ps S R, gsN ps S R → ps.length = 0 := fun ps S R h => by rw [h.1]; rfl
theorem gsC_len {g : GP} {gs : GPs} {n : Nat} (hg : ∀ p S R, g p S R → ∃ S', R S') (h : ∀ ps S R, gs ps S R → ps.length = n) : ∀ ps S R, gsC g gs ps S R → ps.length = n + 1 := fun ps S R x => by
  unfold gsC at x
  split at x
  · obtain ⟨S', y⟩ := hg _ _ _ x
    simp [h _ _ _ y]
  · exact x.elim
theorem gN_ex {i : Nat} : ∀ p S R, gN i p S R → ∃ S', R S' := fun p S R h => ⟨_, h.2⟩
theorem gsN_ex : ∀ p S R, gsN p S R → ∃ S', R S' := fun p S R h => ⟨_, h.2⟩
theorem gsC_ex {g : GP} {gs : GPs} (hg : ∀ p S R, g p S R → ∃ S', R S') (h : ∀ p S R, gs p S R → ∃ S', R S') : ∀ p S R, gsC g gs p S R → ∃ S', R S' := fun p S R x => by
  unfold gsC at x
  split at x
  · obtain ⟨S', y⟩ := hg _ _ _ x
    exact h _ _ _ y
  · exact x.elim
theorem gT_ex {gs : GPs} (h : ∀ p S R, gs p S R → ∃ S', R S') : ∀ p S R, gT gs p S R → ∃ S', R S' := fun p S R x => by
  unfold gT at x
  split at x
  · exact h _ _ _ x
  · exact x.elim
/-- target = e -/
def wAsgT (w : WE) (g : GP) : WS := fun W S k => w S k fun p k' => g p S fun S' => W.nx S' k'
theorem ss_asgT {tg : Expr} {ix : List Nat} {g : GP} (h : SE A s e w) (hg : SG A s tg ix g) (hs : ∀ env, swapsWithSole [tg] e pos.line env = pure false := by intro _; rfl) (hw : ∀ env, swappedStores [tg] e env = pure none := by intro _; rfl)
    (h1 : ∀ env, (assignEach [tg] env).map (·.2) = [assign tg env] := by intro _; rfl) : SS A s (.Assign [tg] e pos) (wAsgT w g) := by
  refine ⟨fun X t => ps_imp (ps_asg (h.run X t) (hg.run X t) (hs X.env) (hw X.env) (h1 X.env)) fun D σ H ⟨Hb, S, k, W, d, r, x⟩ => ?_⟩
  exact ⟨Hb, S, k, _, d, x, fun p k' v H' u m rr y => ⟨Hb, S, k', p, _, d.expr u m, rr, y, fun σ' S' d' _ z => r.nx _ _ _ _ d' z⟩⟩

/-! ### a, b = x, y -/
def RepM (m : Bool) (a : Addr) (b : Bs) (H0 H : Hp) (v : V) (p : PV) : Prop := if m = true then RepF a b H0 H v p else Rep a H v p
def rdM (A : CtD) (m : Bool) (w : WE) : TE := fun σ H Q => ∃ Hb S k R, Wd A.a A.b Hb σ H S k ∧ w S k R ∧ ∀ p k v H', Up A.a A.b H H' → Amb A.a A.b k H' → RepM m A.a A.b H H' v p → R p k → Q v H'
structure SM (A : CtD) (s : CtS) (e : Expr) (m : Bool) (w : WE) : Prop where
  run : ∀ X, TX A s X → PE X e (rdM A m w)
theorem SE.m (h : SE A s e w) : SM A s e false w := ⟨fun X t => pe_imp (h.run X t) fun σ H Q ⟨Hb, S, k, R, W, x, q⟩ => ⟨Hb, S, k, R, W, x, fun p k v H' u m r y => q p k v H' u m (by unfold RepM; rw [if_neg (by decide)]; exact r) y⟩⟩
theorem SF.m (h : SF A s e w) : SM A s e true w := ⟨fun X t => pe_imp (h.run X t) fun σ H Q ⟨Hb, S, k, R, W, x, q⟩ => ⟨Hb, S, k, R, W, x, fun p k v H' u m r y => q p k v H' u m (by unfold RepM; rw [if_pos rfl]; exact r) y⟩⟩
def slM (m : Bool) (p : PV) : Slot := if m = true then .ow p else .fz p
theorem Wd.setM {a : Addr} {b : Bs} {Hb H0 H : Hp} {σ : L2.St} {S : List Slot} {k k' : Nat} {i : Nat} {m : Bool} {v : V} {p : PV} (w : Wd a b Hb σ H0 S k') (x : Up a b H0 H) (q : Amb a b k H) (hi : i < S.length) (r : RepM m a b H0 H v p) :
    Wd a b Hb (σ.set i (some v)) H (S.set i (slM m p)) k := by
  cases m with
  | false => exact (w.expr x q).set hi r
  | true =>
    have r' : RepF a b H0 H v p := r
    cases r' with
    | o n hc rr => exact w.setOwn x q hi n hc rr
def wPar (i j : Nat) (m n : Bool) (wa wb : WE) : WS := fun W S k => wa S k fun p k1 => wb S k1 fun q k2 => (i < S.length ∧ j < S.length) ∧ W.nx ((S.set i (slM m p)).set j (slM n q)) k2
def swNames (sc : Scope) (line : Nat) (ts : List Expr) : List Str := ts.filterMap fun
    | .Name id pos => if sc.names.lookup id == some .local && pos.line == line then some id else none
    | _ => none
/-- these names are stored from the right -/
def swOk (s : CtS) (ts vs : List Expr) (xs : List Str) : Bool := !(!(ts.length == 2 || ts.length == 3) || vs.length != ts.length) && !(vs.any fun | .Starred .. => true | _ => false) &&
  decide (swNames s.sc ((ts.head?.map (·.pos.line)).getD 0) ts = xs) && !(xs.length != ts.length || xs.eraseDups.length != xs.length) && !(vs.all (foldedForSure 8)) && !(vs.all (constantsAlone 8))
theorem swp_of {X : Cx} {ts vs : List Expr} {xs : List Str} {kt k2 : Nat} {pt pt2 : Pos} (t : TX A s X) (h : swOk s ts vs xs = true) : swappedStores [.Tuple ts kt pt] (.Tuple vs k2 pt2) X.env = pure (some xs) := by
  unfold swOk at h
  simp only [Bool.and_eq_true, Bool.not_eq_true', decide_eq_true_eq] at h
  obtain ⟨⟨⟨⟨⟨h1, h2⟩, h3⟩, h4⟩, hf⟩, hc⟩ := h
  have hk : (X.env.blockKind != .function) = false := by
    unfold Env.blockKind
    rw [t.sc, t.kind]; rfl
  have h5 : (!(ts.length == 2 || ts.length == 3) || vs.length != ts.length || X.env.blockKind != .function) = false := by
    rw [h1, hk]; rfl
  have h6 : swNames X.env.scope ((ts.head?.map (·.pos.line)).getD 0) ts = xs := by rw [t.sc]; exact h3
  have key : swappedStores [.Tuple ts kt pt] (.Tuple vs k2 pt2) X.env = (do
     if !(ts.length == 2 || ts.length == 3) || vs.length != ts.length || X.env.blockKind != .function then return none
     if vs.any fun | .Starred .. => true | _ => false then return none
     let names := swNames X.env.scope ((ts.head?.map (·.pos.line)).getD 0) ts
     if names.length != ts.length || names.eraseDups.length != names.length then return none
     if vs.all (foldedForSure 8) then return none
     if vs.all (constantsAlone 8) then unsupported "assign.tuple-of-constant-expressions:order-of-the-stores"
     return some names) := rfl
  rw [key]
  simp only [h5, h2, h6, h4, hf, hc]
  rfl
def nLoc (s : CtS) (i : Nat) (x : Str) : Bool := decide (s.N[i]? = some x) && (match s.sc.names.lookup x with
  | some .local => true
  | _ => false)
theorem nLoc.of {X : Cx} {i : Nat} (h : nLoc s i x = true) (t : TX A s X) : X.N[i]? = some x ∧ X.env.scope.names.lookup x = some .local := by
  unfold nLoc at h
  simp only [Bool.and_eq_true, decide_eq_true_eq] at h
  rw [t.hN, t.sc]
  refine ⟨h.1, ?_⟩
  have h2 := h.2
  split at h2
  · assumption
  · cases h2
theorem ss_par {i j : Nat} {m n : Bool} {px py pt pt2 : Pos} {kt k2 : Nat} (ha : SM A s ea m wa) (hb : SM A s eb n wb) (hi : nLoc s i x = true) (hj : nLoc s j y = true) (hij : (i == j) = false)
    (hw : swOk s [.Name x px, .Name y py] [ea, eb] [x, y] = true)
    (h1 : ∀ env, starEach [ea, eb] env = (false, eval ea env) :: starEach [eb] env := by intro _; rfl) (h2 : ∀ env, starEach [eb] env = (false, eval eb env) :: starEach [] env := by intro _; rfl)
    (hsw : ∀ env, swapsWithSole [.Tuple [.Name x px, .Name y py] kt pt] (.Tuple [ea, eb] k2 pt2) pos.line env = pure false := by intro _; rfl) :
    SS A s (.Assign [.Tuple [.Name x px, .Name y py] kt pt] (.Tuple [ea, eb] k2 pt2) pos) (wPar i j m n wa wb) := by
  refine ⟨fun X t => ?_⟩
  have e1 := nLoc.of hi t
  have e2 := nLoc.of hj t
  refine ps_imp (ps_par t.calm t.nd e1.1 e2.1 (by simpa using hij) e1.2 e2.2 (pa_cons (ha.run X t) (pa_cons (hb.run X t) pa_nil (h2 X.env)) (h1 X.env)) (swp_of t hw) (hsw X.env)) fun D σ H ⟨Hb, S, k, W, d, r, z⟩ => ?_
  refine ⟨Hb, S, k, _, d, z, fun p k1 v H1 u1 m1 r1 z1 => ⟨Hb, S, k1, _, d.expr u1 m1, z1, fun q k3 v2 H2 u2 m2 r2 z2 => ⟨v, v2, rfl, ?_⟩⟩⟩
  have d1 := d.setM u1 m1 z2.1.1 r1
  exact r.nx _ _ _ _ (d1.setM u2 m2 (by rw [List.length_set]; exact z2.1.2) r2) z2.2
def wPar3 (i j l : Nat) (m n o : Bool) (wa wb wc : WE) : WS := fun W S k => wa S k fun p k1 => wb S k1 fun q k2 => wc S k2 fun r k3 => (i < S.length ∧ j < S.length ∧ l < S.length) ∧ W.nx (((S.set i (slM m p)).set j (slM n q)).set l (slM o r)) k3
theorem ss_par3 {ec : Expr} {z : Str} {wc : WE} {i j l : Nat} {m n o : Bool} {px py pz pt pt2 : Pos} {kt k2 : Nat} (ha : SM A s ea m wa) (hb : SM A s eb n wb) (hcc : SM A s ec o wc) (hi : nLoc s i x = true) (hj : nLoc s j y = true) (hl : nLoc s l z = true)
    (hij : (i == j) = false) (hil : (i == l) = false) (hjl : (j == l) = false)
    (hw : swOk s [.Name x px, .Name y py, .Name z pz] [ea, eb, ec] [x, y, z] = true)
    (h1 : ∀ env, starEach [ea, eb, ec] env = (false, eval ea env) :: starEach [eb, ec] env := by intro _; rfl) (h2 : ∀ env, starEach [eb, ec] env = (false, eval eb env) :: starEach [ec] env := by intro _; rfl)
    (h3 : ∀ env, starEach [ec] env = (false, eval ec env) :: starEach [] env := by intro _; rfl)
    (hsw : ∀ env, swapsWithSole [.Tuple [.Name x px, .Name y py, .Name z pz] kt pt] (.Tuple [ea, eb, ec] k2 pt2) pos.line env = pure false := by intro _; rfl) :
    SS A s (.Assign [.Tuple [.Name x px, .Name y py, .Name z pz] kt pt] (.Tuple [ea, eb, ec] k2 pt2) pos) (wPar3 i j l m n o wa wb wc) := by
  refine ⟨fun X t => ?_⟩
  have e1 := nLoc.of hi t
  have e2 := nLoc.of hj t
  have e3 := nLoc.of hl t
  refine ps_imp (ps_par3 t.calm t.nd e1.1 e2.1 e3.1 (by simpa using hij) (by simpa using hil) (by simpa using hjl) e1.2 e2.2 e3.2 (pa_cons (ha.run X t) (pa_cons (hb.run X t) (pa_cons (hcc.run X t) pa_nil (h3 X.env)) (h2 X.env)) (h1 X.env)) (swp_of t hw) (hsw X.env)) fun D σ H ⟨Hb, S, k, W, d, r, z⟩ => ?_
  refine ⟨Hb, S, k, _, d, z, fun p k1 v H1 u1 m1 r1 z1 => ⟨Hb, S, k1, _, d.expr u1 m1, z1, fun q k3 v2 H2 u2 m2 r2 z2 => ⟨Hb, S, k3, _, (d.expr u1 m1).expr u2 m2, z2, fun q3 k4 v3 H3 u3 m3 r3 z3 => ⟨v, v2, v3, rfl, ?_⟩⟩⟩⟩
  have d1 := d.setM u1 m1 z3.1.1 r1
  have d2 := d1.setM u2 m2 (by rw [List.length_set]; exact z3.1.2.1) r2
  exact r.nx _ _ _ _ (d2.setM u3 m3 (by rw [List.length_set, List.length_set]; exact z3.1.2.2) r3) z3.2
end
end TL
set_option Elab.async false
set_option linter.all false
set_option maxRecDepth 100000
set_option autoImplicit false
/-! T8: while, what is walked, for. -/
namespace TL
open PySem
open PySem.Spec
open PyProof.Rows
open L2
section
variable {A : CtD} {s : CtS} {e ea eb : Expr} {st : Stmt} {sts : List Stmt} {wa wb w : WE} {pos p1 p2 : Pos} {x y : Str}

theorem TX.never {X : Cx} (t : TX A s X) : PassesOwn (model X.prog X.w) X.A X.env X.xe := by
  rw [t.xe]; exact PassesOwn.never

/-! ### while -/
/-- an invariant with its measure -/
def wWhile (tc : WT) (u : WS) : WS := fun W S k => ∃ J : Nat → List Slot → Nat → Prop, (∃ m, J m S k) ∧ ∀ m S k, J m S k →
  tc S k fun b k' => if b = true then ∃ N : List Slot → Nat → Prop, (∀ S' k', N S' k' → ∃ m', m' < m ∧ J m' S' k') ∧ u { nx := N, rt := W.rt, bk := W.nx, ct := N } S k' else W.nx S k'
theorem ss_while {c : Expr} {tc : WT} {u : WS} (hc : ST A s c tc) (hb : SSs A s sts u) : SS A s (.While c sts [] pos) (wWhile tc u) := by
  refine ⟨fun X t => ps_imp (ps_while t.never (hc.run X t) (hb.run X t)) fun D σ H ⟨Hb, S, k, W, d, r, x⟩ => ?_⟩
  obtain ⟨J, ⟨m0, h0⟩, turn⟩ := x
  refine ⟨fun m σ H => ∃ S k, Wd A.a A.b Hb σ H S k ∧ J m S k, ⟨m0, S, k, d, h0⟩, fun m σ H ⟨S, k, d, j⟩ => ?_⟩
  refine ⟨Hb, S, k, _, d, turn m S k j, fun b k' v H1 u1 m1 e1 z => ?_⟩
  subst e1
  have d' := d.expr u1 m1
  split at z
  · rename_i hb
    rw [if_pos hb]
    obtain ⟨N, hN, z⟩ := z
    refine ⟨fun σ' H' => ∃ S' k', Wd A.a A.b Hb σ' H' S' k' ∧ N S' k', fun σ' H' ⟨S', k', d2, n⟩ => ?_, Hb, S, k', { nx := N, rt := W.rt, bk := W.nx, ct := N }, d', ⟨fun σ2 H2 S2 k2 d2 n => ⟨S2, k2, d2, n⟩, r.rt, r.nx, fun σ2 H2 S2 k2 d2 n => ⟨S2, k2, d2, n⟩⟩, z⟩
    obtain ⟨m', hm, j'⟩ := hN S' k' n
    exact ⟨m', hm, S', k', d2, j'⟩
  · rename_i hb
    rw [if_neg hb]
    exact r.nx _ _ _ _ d' z

/-! ### what is walked -/
structure ItR (a : Addr) (b : Bs) (H0 : Hp) (J : It) (ps : List PV) : Prop where
  go : ∀ H i, Ps H0 H → i < ps.length → J.go i H
  yld : ∀ H k i x H' p, Ps H0 H → Amb a b k H → ps[i]? = some p → J.yld i H x H' → Up a b H H' ∧ Amb a b k H' ∧ Rep a H' x p
  stop : ∀ H i, Ps H0 H → ps.length ≤ i → J.stop i H
abbrev WI := List Slot → Nat → (List PV → Nat → Prop) → Prop
def rdI (A : CtD) (w : WI) : TI := fun σ H R => ∃ Hb S k Rp, Wd A.a A.b Hb σ H S k ∧ w S k Rp ∧ ∀ ps k' J H', Up A.a A.b H H' → Amb A.a A.b k' H' → ItR A.a A.b H' J ps → Rp ps k' → R J H'
structure SI (A : CtD) (s : CtS) (tg e : Expr) (w : WI) : Prop where
  run : ∀ X, TX A s X → PI X tg e (rdI A w)
theorem pi_imp {X : Cx} {tg : Expr} {t t' : TI} (h : PI X tg e t) (i : ∀ σ H R, t' σ H R → t σ H R) : PI X tg e t' := ⟨fun pins s σ H R I q => h.run pins s σ H R I (i σ H R q)⟩
theorem si_or {tg : Expr} {u v : WI} (h : SI A s tg e u) (h' : SI A s tg e v) : SI A s tg e (fun S k R => u S k R ∨ v S k R) := ⟨fun X t => ⟨fun pins s σ H R I q => by
  obtain ⟨Hb, S, k, Rp, d, x | x, q⟩ := q
  · exact (h.run X t).run pins s σ H R I ⟨Hb, S, k, Rp, d, x, q⟩
  · exact (h'.run X t).run pins s σ H R I ⟨Hb, S, k, Rp, d, x, q⟩⟩⟩
theorem Rep.lst' {a : Addr} {H : Hp} {v : V} {ps : List PV} (r : Rep a H v (.lst ps)) : ∃ c o vs, v = .ref c ∧ H c = some (.frz o (.lst vs)) ∧ Reps a H vs ps := by
  cases r with
  | frz h r => cases r with
    | l r => exact ⟨_, _, _, rfl, h, r⟩
theorem Rep.dk' {a : Addr} {H : Hp} {v : V} {ps : List (Key × PV)} (r : Rep a H v (.dk ps)) : ∃ c o vs, v = .ref c ∧ H c = some (.frz o (.dK vs)) ∧ RepK a H vs ps := by
  cases r with
  | frz h r => cases r with
    | k r => exact ⟨_, _, _, rfl, h, r⟩
theorem Rep.dt' {a : Addr} {H : Hp} {v : V} {ps : List (List Key × PV)} (r : Rep a H v (.dt ps)) : ∃ c o vs, v = .ref c ∧ H c = some (.frz o (.dT vs)) ∧ RepT a H vs ps := by
  cases r with
  | frz h r => cases r with
    | t r => exact ⟨_, _, _, rfl, h, r⟩
theorem RepK.length {a : Addr} {H : Hp} : ∀ {vs : List (Key × V)} {ps : List (Key × PV)}, RepK a H vs ps → vs.length = ps.length
  | _, _, .nil => rfl
  | _, _, .cons _ r => by simp [RepK.length r]
theorem RepT.length {a : Addr} {H : Hp} : ∀ {vs : List (List Key × V)} {ps : List (List Key × PV)}, RepT a H vs ps → vs.length = ps.length
  | _, _, .nil => rfl
  | _, _, .cons _ r => by simp [RepT.length r]
theorem RepK.at {a : Addr} {H : Hp} : ∀ {vs : List (Key × V)} {ps : List (Key × PV)} {i : Nat} {k : Key} {v : V} {kp : Key × PV}, RepK a H vs ps → vs[i]? = some (k, v) → ps[i]? = some kp → kp.1 = k ∧ Rep a H v kp.2
  | _, _, _, _, _, _, .nil, e, _ => by simp at e
  | _, _, 0, _, _, _, .cons r _, e, e2 => by simp at e e2; subst e2; obtain ⟨rfl, rfl⟩ := e; exact ⟨rfl, r⟩
  | _, _, i + 1, _, _, _, .cons _ t, e, e2 => RepK.at (i := i) t (by simpa using e) (by simpa using e2)
theorem RepT.at {a : Addr} {H : Hp} : ∀ {vs : List (List Key × V)} {ps : List (List Key × PV)} {i : Nat} {k : List Key} {v : V} {kp : List Key × PV}, RepT a H vs ps → vs[i]? = some (k, v) → ps[i]? = some kp → kp.1 = k ∧ Rep a H v kp.2
  | _, _, _, _, _, _, .nil, e, _ => by simp at e
  | _, _, 0, _, _, _, .cons r _, e, e2 => by simp at e e2; subst e2; obtain ⟨rfl, rfl⟩ := e; exact ⟨rfl, r⟩
  | _, _, i + 1, _, _, _, .cons _ t, e, e2 => RepT.at (i := i) t (by simpa using e) (by simpa using e2)
theorem Reps.at {a : Addr} {H : Hp} {vs : List V} {ps : List PV} {i : Nat} {v : V} {p : PV} (r : Reps a H vs ps) (e : vs[i]? = some v) (e2 : ps[i]? = some p) : Rep a H v p := by
  obtain ⟨p', h1, h2⟩ := Reps.get' r e
  rw [e2] at h1; cases h1; exact h2
theorem itr_list {a : Addr} {b : Bs} {H0 : Hp} {K : PySem.W.Frag} {c : Addr} {o : Obj} {vs : List V} {ps : List PV} (h : H0 c = some (.frz o (.lst vs))) (r : Reps a H0 vs ps) : ItR a b H0 (Itl K c) ps := by
  have q : ∀ H, Ps H0 H → SqL K H c vs := fun H u => .inl (.inr ⟨_, u.frz _ _ _ h⟩)
  refine ⟨fun H i u hi => ?_, fun H k i x H' p u m e y => ?_, fun H i u hi => ⟨vs, q H u, by rw [r.length]; exact hi⟩⟩
  · exact ⟨vs, _, q H u, List.getElem?_eq_getElem (by rw [r.length]; exact hi)⟩
  · obtain ⟨rfl, y⟩ := y
    exact ⟨Up.refl, m, (r.up u).at (y vs (q _ u)) e⟩
theorem itr_tup {a : Addr} {b : Bs} {H0 : Hp} {K : PySem.W.Frag} {c : Addr} {vs : List V} {ps : List PV} (h : H0 c = some (.tup vs)) (r : Reps a H0 vs ps) : ItR a b H0 (Itt K c) ps := by
  have q : ∀ H, Ps H0 H → SqT K H c vs := fun H u => .inl (.inl (u.tup _ _ h))
  refine ⟨fun H i u hi => ?_, fun H k i x H' p u m e y => ?_, fun H i u hi => ⟨vs, q H u, by rw [r.length]; exact hi⟩⟩
  · exact ⟨vs, _, q H u, List.getElem?_eq_getElem (by rw [r.length]; exact hi)⟩
  · obtain ⟨rfl, y⟩ := y
    exact ⟨Up.refl, m, (r.up u).at (y vs (q _ u)) e⟩
def wILst (w : WE) : WI := fun S k R => w S k fun p k' => match p with
  | .lst ps => R ps k'
  | _ => False
def wITup (w : WE) : WI := fun S k R => w S k fun p k' => match p with
  | .tup ps => R ps k'
  | _ => False
theorem si_list {tg : Expr} (h : SE A s e w) : SI A s tg e (wILst w) := by
  refine ⟨fun X t => pi_imp (pi_list (h.run X t)) fun σ H R ⟨Hb, S, k, Rp, d, x, q⟩ => ⟨Hb, S, k, _, d, x, fun p k' v H' u m r y => ?_⟩⟩
  split at y
  · obtain ⟨c, o, vs, rfl, hc, rr⟩ := r.lst'
    exact ⟨c, rfl, ⟨vs, .inl (.inr ⟨_, hc⟩)⟩, q _ k' _ H' u m (itr_list hc rr) y⟩
  · exact y.elim
theorem si_tup {tg : Expr} (h : SE A s e w) : SI A s tg e (wITup w) := by
  refine ⟨fun X t => pi_imp (pi_tup (h.run X t)) fun σ H R ⟨Hb, S, k, Rp, d, x, q⟩ => ⟨Hb, S, k, _, d, x, fun p k' v H' u m r y => ?_⟩⟩
  split at y
  · obtain ⟨c, vs, rfl, hc, rr⟩ := r.tup'
    exact ⟨c, rfl, ⟨vs, .inl (.inl hc)⟩, q _ k' _ H' u m (itr_tup hc rr) y⟩
  · exact y.elim
/-- the letters of a text, as texts of one letter -/
def chars (x : Str) : List PV := x.cps.toList.map fun c => PV.str ⟨#[c]⟩
def wIStr (w : WE) : WI := fun S k R => w S k fun p k' => match p with
  | .str x => R (chars x) k'
  | _ => False
theorem si_str {tg : Expr} (h : SE A s e w) : SI A s tg e (wIStr w) := by
  refine ⟨fun X t => pi_imp (pi_str (h.run X t)) fun σ H R ⟨Hb, S, k, Rp, d, x, q⟩ => ⟨Hb, S, k, _, d, x, fun p k' v H' u m r y => ?_⟩⟩
  split at y
  · rename_i z
    obtain rfl := (RepO.r r : RepO A.a A.b H' v (.str z)).str
    refine ⟨z, rfl, q _ k' _ H' u m ⟨fun H i _ hi => (show i < z.cps.size by simpa [chars] using hi), fun H k i x H2 p u2 m2 e2 y2 => ?_, fun H i _ hi => (show z.cps.size ≤ i by simpa [chars] using hi)⟩ y⟩
    obtain ⟨rfl, c, hc, rfl⟩ := y2
    refine ⟨Up.refl, m2, ?_⟩
    have e3 : z.cps.toList[i]? = some c := by simpa using hc
    simp only [chars, List.getElem?_map, e3, Option.map_some] at e2
    cases e2
    exact .str _
  · exact y.elim
/-- 0, 1, .. -/
def rngP (lo : Int) (n : Nat) : List PV := (List.range n).map fun i : Nat => PV.int (lo + (i : Int))
theorem itr_rng {a : Addr} {b : Bs} {H0 : Hp} {lo : Int} {n : Nat} : ItR a b H0 (Itr lo n) (rngP lo n) := by
  refine ⟨fun H i _ hi => (show i < n by simpa [rngP] using hi), fun H k i x H' p u m e y => ?_, fun H i _ hi => (show n ≤ i by simpa [rngP] using hi)⟩
  obtain ⟨rfl, rfl⟩ := y
  refine ⟨Up.refl, m, ?_⟩
  unfold rngP at e
  rw [List.getElem?_map] at e
  cases z : (List.range n)[i]? with
  | none => rw [z] at e; cases e
  | some j =>
    rw [z] at e; cases e
    obtain ⟨hj, z⟩ := List.getElem?_eq_some_iff.mp z
    rw [List.getElem_range] at z; subst z
    exact .int _
def wIRng1 (w : WE) : WI := fun S k R => w S k fun p k' => match p with
  | .int j => (-(2 ^ 62) ≤ j ∧ j < 2 ^ 62) ∧ R (rngP 0 j.toNat) k'
  | _ => False
theorem si_range1 {tg : Expr} (h : SE A s e w) (hg : glB s "range" = true) (hb : A.bl.contains "range" = true) (hs : ∀ env, starEach [e] env = (false, eval e env) :: starEach [] env := by intro _; rfl) : SI A s tg (.Call (.Name "range" p1) [e] [] pos) (wIRng1 w) := by
  refine ⟨fun X t => pi_imp (pi_range1 (glB.gl hg t).1 (blt t hb) (pa_cons (h.run X t) pa_nil (hs X.env)) (by rw [hs X.env]; rfl)) fun σ H R ⟨Hb, S, k, Rp, d, x, q⟩ => ?_⟩
  refine ⟨Hb, S, k, _, d, x, fun p k' v H' u m r y => ?_⟩
  split at y
  · rename_i j
    obtain rfl := (RepO.r r : RepO A.a A.b H' v (.int j)).int
    exact ⟨j, rfl, y.1.1, y.1.2, q _ k' _ H' u m itr_rng y.2⟩
  · exact y.elim
def wIRng2 (wa wb : WE) : WI := fun S k R => wa S k fun p k1 => wb S k1 fun q k2 => match p, q with
  | .int i, .int j => (-(2 ^ 62) ≤ i ∧ i < 2 ^ 62 ∧ -(2 ^ 62) ≤ j ∧ j < 2 ^ 62) ∧ R (rngP i (j - i).toNat) k2
  | _, _ => False
theorem si_range2 {tg : Expr} (h : SE A s ea wa) (h' : SE A s eb wb) (hg : glB s "range" = true) (hb : A.bl.contains "range" = true) (hs : ∀ env, starEach [ea, eb] env = (false, eval ea env) :: starEach [eb] env := by intro _; rfl)
    (hs2 : ∀ env, starEach [eb] env = (false, eval eb env) :: starEach [] env := by intro _; rfl) : SI A s tg (.Call (.Name "range" p1) [ea, eb] [] pos) (wIRng2 wa wb) := by
  refine ⟨fun X t => pi_imp (pi_range2 (glB.gl hg t).1 (blt t hb) (pa_cons (h.run X t) (pa_cons (h'.run X t) pa_nil (hs2 X.env)) (hs X.env)) (by rw [hs X.env, hs2 X.env]; rfl) (by rw [hs2 X.env]; rfl)) fun σ H R ⟨Hb, S, k, Rp, d, x, q⟩ => ?_⟩
  refine ⟨Hb, S, k, _, d, x, fun p k1 v H1 u m r y => ⟨Hb, S, k1, _, d.expr u m, y, fun p2 k2 v2 H2 u2 m2 r2 y2 => ?_⟩⟩
  split at y2
  · rename_i i j
    obtain rfl := (RepO.r r : RepO A.a A.b H1 v (.int i)).int
    obtain rfl := (RepO.r r2 : RepO A.a A.b H2 v2 (.int j)).int
    exact ⟨i, j, rfl, y2.1, q _ k2 _ H2 (u.trans u2) m2 itr_rng y2.2⟩
  · exact y2.elim

/-! ### dicts walked -/
theorem key_at {κ β : Type} {vs : List (κ × V)} {i : Nat} {n : Nat} (hl : vs.length = n) (hi : i < n) : ∃ k v, vs[i]? = some (k, v) := ⟨_, _, List.getElem?_eq_getElem (by omega)⟩
theorem itr_keys {a : Addr} {b : Bs} {H0 : Hp} {c : Addr} {o : Obj} {vs : List (Key × V)} {ps : List (Key × PV)} (h : H0 c = some (.frz o (.dK vs))) (r : RepK a H0 vs ps) : ItR a b H0 (Itk c o vs) (ps.map fun kp => pk kp.1) := by
  have hl := r.length
  refine ⟨fun H i u hi => ⟨u.frz _ _ _ h, by simpa [hl] using hi⟩, fun H k i x H' p u m e y => ?_, fun H i u hi => ⟨u.frz _ _ _ h, by simpa [hl] using hi⟩⟩
  obtain ⟨rfl, kk, v, e1, rfl⟩ := y
  rw [List.getElem?_map] at e
  cases z : ps[i]? with
  | none => rw [z] at e; cases e
  | some kp =>
    rw [z] at e; cases e
    obtain ⟨q1, q2⟩ := r.at e1 z
    subst q1
    exact ⟨Up.refl, m, rep_key _⟩

theorem itr_keysT {a : Addr} {b : Bs} {H0 : Hp} {c : Addr} {o : Obj} {vs : List (List Key × V)} {ps : List (List Key × PV)} (h : H0 c = some (.frz o (.dT vs))) (r : RepT a H0 vs ps) : ItR a b H0 (Itkt c o vs) (ps.map fun kp => PV.tup (kp.1.map pk)) := by
  have hl := r.length
  refine ⟨fun H i u hi => ⟨u.frz _ _ _ h, by simpa [hl] using hi⟩, fun H k i x H' p u m e y => ?_, fun H i u hi => ⟨u.frz _ _ _ h, by simpa [hl] using hi⟩⟩
  obtain ⟨rfl, kk, v, q, e1, rfl, hq⟩ := y
  rw [List.getElem?_map] at e
  cases z : ps[i]? with
  | none => rw [z] at e; cases e
  | some kp =>
    rw [z] at e; cases e
    obtain ⟨q1, q2⟩ := r.at e1 z
    subst q1
    exact ⟨Up.refl, m, .tup hq (reps_keys _)⟩
theorem itr_vals {a : Addr} {b : Bs} {H0 : Hp} {c : Addr} {o : Obj} {vs : List (Key × V)} {ps : List (Key × PV)} (h : H0 c = some (.frz o (.dK vs))) (r : RepK a H0 vs ps) : ItR a b H0 (Itd c o vs) (ps.map fun kp => kp.2) := by
  have hl := r.length
  refine ⟨fun H i u hi => ⟨u.frz _ _ _ h, by simpa [hl] using hi⟩, fun H k i x H' p u m e y => ?_, fun H i u hi => ⟨u.frz _ _ _ h, by simpa [hl] using hi⟩⟩
  obtain ⟨rfl, kk, e1⟩ := y
  rw [List.getElem?_map] at e
  cases z : ps[i]? with
  | none => rw [z] at e; cases e
  | some kp =>
    rw [z] at e; cases e
    exact ⟨Up.refl, m, ((r.up u).at e1 z).2⟩
theorem itr_items {a : Addr} {b : Bs} {H0 : Hp} {c : Addr} {o : Obj} {vs : List (Key × V)} {ps : List (Key × PV)} (h : H0 c = some (.frz o (.dK vs))) (r : RepK a H0 vs ps) : ItR a b H0 (Iti c o vs) (ps.map fun kp => PV.tup [pk kp.1, kp.2]) := by
  have hl := r.length
  refine ⟨fun H i u hi => ⟨u.frz _ _ _ h, by simpa [hl] using hi⟩, fun H k i x H' p u m e y => ?_, fun H i u hi => ⟨u.frz _ _ _ h, by simpa [hl] using hi⟩⟩
  obtain ⟨T, kk, v, e1, rfl, hT, rfl⟩ := y
  rw [List.getElem?_map] at e
  cases z : ps[i]? with
  | none => rw [z] at e; cases e
  | some kp =>
    rw [z] at e; cases e
    obtain ⟨q1, q2⟩ := (r.up u).at e1 z
    subst q1
    have up : Up a b H (upd H T (.tup [kV kp.1, v])) := Up.new hT
    exact ⟨up, m.new hT, .tup upd_same (.cons (rep_key _) (.cons (q2.up (up.ps m)) .nil))⟩
def wIKeys (w : WE) : WI := fun S k R => w S k fun p k' => match p with
  | .dk kvs => R (kvs.map fun kp => pk kp.1) k'
  | .dt kvs => R (kvs.map fun kp => PV.tup (kp.1.map pk)) k'
  | _ => False
theorem si_keys {tg : Expr} (h : SE A s e w) : SI A s tg e (wIKeys w) := by
  refine ⟨fun X t => pi_imp (pi_keys (h.run X t)) fun σ H R ⟨Hb, S, k, Rp, d, x, q⟩ => ⟨Hb, S, k, _, d, x, fun p k' v H' u m r y => ?_⟩⟩
  split at y
  · obtain ⟨c, o, vs, rfl, hc, rr⟩ := r.dk'
    exact ⟨c, o, rfl, .inl ⟨vs, hc, q _ k' _ H' u m (itr_keys hc rr) y⟩⟩
  · obtain ⟨c, o, vs, rfl, hc, rr⟩ := r.dt'
    exact ⟨c, o, rfl, .inr ⟨vs, hc, q _ k' _ H' u m (itr_keysT hc rr) y⟩⟩
  · exact y.elim
def wIVals (w : WE) : WI := fun S k R => w S k fun p k' => match p with
  | .dk kvs => R (kvs.map fun kp => kp.2) k'
  | _ => False
theorem si_values {tg : Expr} (h : SE A s e w) (hbase : ∀ env, attributeBase e "values" env (eval e env) = eval e env := by intro _; rfl) (hline : (p1.endLine == pos.line) = true := by rfl) : SI A s tg (.Call (.Attribute e "values" p1) [] [] pos) (wIVals w) := by
  refine ⟨fun X t => pi_imp (pi_values (h.run X t) (hbase X.env) hline) fun σ H R ⟨Hb, S, k, Rp, d, x, q⟩ => ⟨Hb, S, k, _, d, x, fun p k' v H' u m r y => ?_⟩⟩
  split at y
  · obtain ⟨c, o, vs, rfl, hc, rr⟩ := r.dk'
    exact ⟨c, o, vs, rfl, hc, q _ k' _ H' u m (itr_vals hc rr) y⟩
  · exact y.elim

/-! ### enumerate, zip -/
theorem itr_enum {a : Addr} {b : Bs} {H0 : Hp} {K : PySem.W.Frag} {c : Addr} {o : Obj} {vs : List V} {ps : List PV} (h : H0 c = some (.frz o (.lst vs))) (r : Reps a H0 vs ps) : ItR a b H0 (Ite K c) (ps.zipIdx.map fun pi => PV.tup [.int (pi.2 : Nat), pi.1]) := by
  have q : ∀ H, Ps H0 H → SqL K H c vs := fun H u => .inl (.inr ⟨_, u.frz _ _ _ h⟩)
  have hl := r.length
  refine ⟨fun H i u hi => ⟨vs, vs[i]'(by simpa [hl] using hi), q H u, List.getElem?_eq_getElem _⟩, fun H k i x H' p u m e y => ?_, fun H i u hi => ⟨vs, q H u, by simpa [hl] using hi⟩⟩
  obtain ⟨T, z, rfl, hT, rfl, hz⟩ := y
  have e1 := hz vs (q H u)
  rw [List.getElem?_map, List.getElem?_zipIdx] at e
  cases z2 : ps[i]? with
  | none => rw [z2] at e; cases e
  | some pp =>
    rw [z2] at e; cases e
    have up : Up a b H (upd H T (.tup [.int (i : Nat), z])) := Up.new hT
    refine ⟨up, m.new hT, .tup upd_same (.cons ?_ (.cons (((r.up u).at e1 z2).up (up.ps m)) .nil))⟩
    show Rep a _ (V.int (i : Nat)) (PV.int ((0 + i : Nat) : Int))
    rw [Nat.zero_add]; exact .int _
def wIEnum (w : WE) : WI := fun S k R => w S k fun p k' => match p with
  | .lst ps => R (ps.zipIdx.map fun pi => PV.tup [.int (pi.2 : Nat), pi.1]) k'
  | _ => False
theorem si_enum {elts : List Expr} {kk : Nat} {tp : Pos} (h : SE A s e w) (hg : glB s "enumerate" = true) (hb : A.bl.contains "enumerate" = true) (hs : ∀ env, starEach [e] env = (false, eval e env) :: starEach [] env := by intro _; rfl) :
    SI A s (.Tuple elts kk tp) (.Call (.Name "enumerate" p1) [e] [] pos) (wIEnum w) := by
  refine ⟨fun X t => pi_imp (pi_enum (glB.gl hg t).1 (blt t hb) (pa_cons (h.run X t) pa_nil (hs X.env)) (by rw [hs X.env]; rfl)) fun σ H R ⟨Hb, S, k, Rp, d, x, q⟩ => ?_⟩
  refine ⟨Hb, S, k, _, d, x, fun p k' v H' u m r y => ?_⟩
  split at y
  · obtain ⟨c, o, vs, rfl, hc, rr⟩ := r.lst'
    exact ⟨c, vs, rfl, .inl (.inr ⟨_, hc⟩), q _ k' _ H' u m (itr_enum hc rr) y⟩
  · exact y.elim
def zipP (ps qs : List PV) : List PV := (ps.zip qs).map fun pq => PV.tup [pq.1, pq.2]
theorem itr_zip {a : Addr} {b : Bs} {H0 : Hp} {K : PySem.W.Frag} {c c2 : Addr} {J : It} {vs us : List V} {ps qs : List PV} (r : Reps a H0 vs ps) (r2 : Reps a H0 us qs)
    (go : ∀ H i, Ps H0 H → i < vs.length → i < us.length → J.go i H) (stop : ∀ H i, Ps H0 H → (vs.length ≤ i ∨ us.length ≤ i) → J.stop i H)
    (yld : ∀ H i x H', Ps H0 H → J.yld i H x H' → ∃ T v u, x = .ref T ∧ H T = none ∧ H' = upd H T (.tup [v, u]) ∧ vs[i]? = some v ∧ us[i]? = some u) : ItR a b H0 J (zipP ps qs) := by
  have hl := r.length
  have hl2 := r2.length
  refine ⟨fun H i u hi => ?_, fun H k i x H' p u m e y => ?_, fun H i u hi => ?_⟩
  · have z : i < min ps.length qs.length := by simpa [zipP] using hi
    exact go H i u (by omega) (by omega)
  · obtain ⟨T, v, w, rfl, hT, rfl, e1, e2⟩ := yld H i x H' u y
    obtain ⟨p1, h1, q1⟩ := Reps.get' (r.up u) e1
    obtain ⟨p2, h2, q2⟩ := Reps.get' (r2.up u) e2
    have e3 : (ps.zip qs)[i]? = some (p1, p2) := List.getElem?_zip_eq_some.mpr ⟨h1, h2⟩
    unfold zipP at e
    rw [List.getElem?_map, e3] at e
    cases e
    have up : Up a b H (upd H T (.tup [v, w])) := Up.new hT
    exact ⟨up, m.new hT, .tup upd_same (.cons (q1.up (up.ps m)) (.cons (q2.up (up.ps m)) .nil))⟩
  · have z : min ps.length qs.length ≤ i := by simpa [zipP] using hi
    exact stop H i u (by omega)
def wIZip (wa wb : WE) : WI := fun S k R => wa S k fun p k1 => wb S k1 fun q k2 => match p, q with
  | .lst ps, .lst qs => R (zipP ps qs) k2
  | .tup ps, .tup qs => R (zipP ps qs) k2
  | _, _ => False
theorem si_zip {elts : List Expr} {kk : Nat} {tp : Pos} (h : SE A s ea wa) (h' : SE A s eb wb) (hg : glB s "zip" = true) (hb : A.bl.contains "zip" = true) (hs : ∀ env, starEach [ea, eb] env = (false, eval ea env) :: starEach [eb] env := by intro _; rfl)
    (hs2 : ∀ env, starEach [eb] env = (false, eval eb env) :: starEach [] env := by intro _; rfl) (hpl : ∀ env, (backTo pos (starEach [eb] env)).any (·.1) = false := by intro _; rfl) :
    SI A s (.Tuple elts kk tp) (.Call (.Name "zip" p1) [ea, eb] [] pos) (wIZip wa wb) := by
  refine ⟨fun X t => pi_imp (RZ.pi_zipA (glB.gl hg t).1 (blt t hb) (pa_cons (h.run X t) (pa_cons (h'.run X t) pa_nil (hs2 X.env)) (hs X.env)) (hs X.env) (hpl X.env)) fun σ H R ⟨Hb, S, k, Rp, d, x, q⟩ => ?_⟩
  refine ⟨Hb, S, k, _, d, x, fun p k1 v H1 u m r y => ⟨Hb, S, k1, _, d.expr u m, y, fun p2 k2 v2 H2 u2 m2 r2 y2 => ?_⟩⟩
  have r' := r.up (u2.ps m)
  split at y2
  · obtain ⟨c, o, vs, rfl, hc, rr⟩ := r'.lst'
    obtain ⟨c2, o2, us, rfl, hc2, rr2⟩ := r2.lst'
    have q1 : ∀ H, Ps H2 H → SqL X.K H c vs := fun H u => .inl (.inr ⟨_, u.frz _ _ _ hc⟩)
    have q2 : ∀ H, Ps H2 H → SqL X.K H c2 us := fun H u => .inl (.inr ⟨_, u.frz _ _ _ hc2⟩)
    refine ⟨c, c2, vs, us, rfl, .inl ⟨.inl (.inr ⟨_, hc⟩), .inl (.inr ⟨_, hc2⟩), q _ k2 _ H2 (u.trans u2) m2 (itr_zip (K := X.K) (c := c) (c2 := c2) rr rr2 (fun H i u h1 h2 => ?_) (fun H i u h => ?_) fun H i x H' u y => ?_) y2⟩⟩
    · exact ⟨vs, us, _, _, q1 H u, q2 H u, List.getElem?_eq_getElem h1, List.getElem?_eq_getElem h2⟩
    · exact ⟨vs, us, q1 H u, q2 H u, h⟩
    · obtain ⟨T, v, w, e1, e2, e3, e4, e5⟩ := y
      exact ⟨T, v, w, e1, e2, e3, e4 vs (q1 H u), e5 us (q2 H u)⟩
  · obtain ⟨c, vs, rfl, hc, rr⟩ := r'.tup'
    obtain ⟨c2, us, rfl, hc2, rr2⟩ := r2.tup'
    have q1 : ∀ H, Ps H2 H → SqT X.K H c vs := fun H u => .inl (.inl (u.tup _ _ hc))
    have q2 : ∀ H, Ps H2 H → SqT X.K H c2 us := fun H u => .inl (.inl (u.tup _ _ hc2))
    refine ⟨c, c2, vs, us, rfl, .inr ⟨.inl (.inl hc), .inl (.inl hc2), q _ k2 _ H2 (u.trans u2) m2 (itr_zip (K := X.K) (c := c) (c2 := c2) rr rr2 (fun H i u h1 h2 => ?_) (fun H i u h => ?_) fun H i x H' u y => ?_) y2⟩⟩
    · exact ⟨vs, us, _, _, q1 H u, q2 H u, List.getElem?_eq_getElem h1, List.getElem?_eq_getElem h2⟩
    · exact ⟨vs, us, q1 H u, q2 H u, h⟩
    · obtain ⟨T, v, w, e1, e2, e3, e4, e5⟩ := y
      exact ⟨T, v, w, e1, e2, e3, e4 vs (q1 H u), e5 us (q2 H u)⟩
  · exact y2.elim

/-! ### for -/
def wForL (g : GP) (u : WS) (W : WD) : List PV → List Slot → Nat → Prop
  | [], S, k => W.nx S k
  | p :: r, S, k => g p S fun S' => u { nx := wForL g u W r, rt := W.rt, bk := W.nx, ct := wForL g u W r } S' k
def wFor (wi : WI) (g : GP) (u : WS) : WS := fun W S k => wi S k fun ps k' => wForL g u W ps S k'
theorem Wd.psBase {a : Addr} {b : Bs} {Hb Hc H H' : Hp} {σ σ' : L2.St} {S S' : List Slot} {k k' : Nat} (d : Wd a b Hb σ H S k) (e : ∀ c o, H c = some o → (∀ i, ¬ Own σ S i c) → Hc c = some o) (d' : Wd a b Hc σ' H' S' k') : Ps H H' := by
  have nf : ∀ c o, H c = some o → ¬ Mut (some o) → ∀ i, ¬ Own σ S i c := fun c o h nm i ow => by
    obtain ⟨u, p, h1, h2, _⟩ := d.at_own ow
    rw [h] at h1; cases h1
    exact nm h2.mut
  refine ⟨fun c o u h => ?_, fun c xs h => ?_⟩
  · exact d'.up.keep c _ (e c _ h (nf c _ h fun z => z)) (fun ps z => by cases z) (fun z => d.amb.fa (z ▸ h)) (fun z => d.amb.fb (z ▸ h))
  · exact d'.up.keep c _ (e c _ h (nf c _ h fun z => z)) (fun ps z => by cases z) (fun z => d.amb.ta (z ▸ h)) (fun z => d.amb.tu (z ▸ h))
theorem ss_for {tg : Expr} {ix : List Nat} {wi : WI} {g : GP} {u : WS} (hi : SI A s tg e wi) (hg : SG A s tg ix g) (hb : SSs A s sts u) (hf : ∀ env x, foldedSetIterable e env x = pure x := by intro _ _; rfl) : SS A s (.For tg e sts [] pos) (wFor wi g u) := by
  refine ⟨fun X t => ps_imp (ps_for t.never t.calm (hi.run X t) (hg.run X t) (hb.run X t) (hf X.env)) fun D σ H ⟨Hb, S, k, W, d, r, x⟩ => ?_⟩
  refine ⟨Hb, S, k, _, d, x, fun ps k1 J H1 u1 m1 it y => ?_⟩
  have d1 := d.expr u1 m1
  obtain ⟨Hc, dc, ub, uc, old⟩ := d1.base
  refine ⟨fun i m σ' H' => m = ps.length - i ∧ i ≤ ps.length ∧ ∃ S' k', Wd A.a A.b Hc σ' H' S' k' ∧ wForL g u W (ps.drop i) S' k', ⟨_, rfl, Nat.zero_le _, S, k1, dc, y⟩, ?_⟩
  rintro i m σ' H' ⟨rfl, hle, S', k', d', y'⟩
  have ps' := d1.psBase old d'
  by_cases hlt : i < ps.length
  · refine .inr ⟨it.go H' i ps' hlt, fun σ2 H2 => ∃ S2 k2, Wd A.a A.b Hc σ2 H2 S2 k2 ∧ wForL g u W (ps.drop (i + 1)) S2 k2, fun σ2 H2 ⟨S2, k2, d2, y2⟩ => ⟨ps.length - (i + 1), by omega, rfl, hlt, S2, k2, d2, y2⟩, fun v H2 hy => ?_⟩
    obtain ⟨u2, m2, r2⟩ := it.yld H' k' i v H2 ps[i] ps' d'.amb (List.getElem?_eq_getElem hlt) hy
    rw [List.drop_eq_getElem_cons hlt] at y'
    refine ⟨Hc, S', k', ps[i], _, d'.expr u2 m2, r2, y', fun σ3 S3 d3 _ y3 => ⟨Hc, S3, k', { nx := wForL g u W (ps.drop (i + 1)), rt := W.rt, bk := W.nx, ct := wForL g u W (ps.drop (i + 1)) }, d3, ⟨fun σ4 H4 S4 k4 d4 y4 => ⟨S4, k4, d4, y4⟩, fun p k4 v H4 u4 m4 r4 y4 => r.rt p k4 v H4 (ub.trans u4) m4 r4 y4, fun σ4 H4 S4 k4 d4 y4 => r.nx σ4 H4 S4 k4 (d4.rebase ub) y4, fun σ4 H4 S4 k4 d4 y4 => ⟨S4, k4, d4, y4⟩⟩, y3⟩⟩
  · have e : i = ps.length := by omega
    subst e
    refine .inl ⟨it.stop H' _ ps' (Nat.le_refl _), ?_⟩
    rw [List.drop_length] at y'
    exact r.nx _ _ _ _ (d'.rebase ub) y'
end
end TL
set_option Elab.async false
set_option linter.all false
set_option maxRecDepth 100000
set_option autoImplicit false
/-! T9: own things changed. -/
namespace TL
open PySem
open PySem.Spec
open PyProof.Rows
open L2
def bigN : Nat := 1000000
theorem bigN.lt {n : Nat} (h : n < bigN) : n < sizeLine := Nat.lt_trans h (by decide)
theorem bigN.le {n : Nat} (h : n ≤ bigN) : n ≤ sizeLine := Nat.le_trans h (by decide)

/-! ### two rules that the hand layer has for open arguments alone -/
section
variable {X : Cx}
def rExtR : V → List V → Hp → VK → Prop := fun x vs H Q => ∃ l b xs zs o, x = .ref l ∧ vs = [.ref b] ∧ H l = some (.lst xs) ∧ H b = some (.frz o (.lst zs)) ∧ xs.length + zs.length ≤ sizeLine ∧ Q .non (upd H l (.lst (xs ++ zs)))
theorem mt_extR : MtM X "list.extend" rExtR := by
  intro pins s σ H x vs v us Q I rx rv h
  obtain ⟨l, b, xs, zs, o, rfl, rfl, hH, hB, hz, q⟩ := h
  cases rx
  obtain ⟨u, rfl, ru⟩ := rv.one
  cases ru
  obtain ⟨z, its, n, r, hl, e⟩ := I.lstM hH
  obtain ⟨_, _, its2, n2, r2, e2⟩ := I.hok b _ hB
  have hl2 := r2.length
  have hsz : its.toArray.size + its2.toArray.size ≤ sizeLine := by rw [List.size_toArray, List.size_toArray]; omega
  have hlong : ¬ (!its.toArray.isEmpty && Builtin.List.listTooLong (its.toArray.size + its2.toArray.size)) = true := by
    rw [notLongL hsz, Bool.and_false]
    exact Bool.false_ne_true
  refine call_meets F.slot_list_extend ⟨_, e, rfl⟩ F.entry_list_extend (F.args_list_extend_2 _ _)
    (AutoSeq1.list_extend_list_list_0 l its.toArray n b its2.toArray n2 hlong (by rw [List.size_toArray]; omega) (by omega)) ⟨e, e2, ?_⟩
  refine ⟨.non, _, I.lset (its' := its ++ its2) hH e (by simp) (r.append r2) ?_, rfl, q⟩
  rw [List.length_append]
  omega
def rUpd : V → List V → Hp → VK → Prop := fun x vs H Q => ∃ l b kvs more, x = .ref l ∧ vs = [.ref b] ∧ l ≠ b ∧ H l = some (.dK kvs) ∧ Rd H b (.dK more) ∧ kvs.length + more.length ≤ sizeLine ∧ Q .non (upd H l (.dK (mergeK kvs more)))
theorem mt_updK : MtM X "dict.update" rUpd := by
  intro pins s σ H x vs v us Q I rx rv h
  obtain ⟨l, b, kvs, more, rfl, rfl, hne, hH, hB, hz, q⟩ := h
  cases rx
  obtain ⟨u, rfl, ru⟩ := rv.one
  cases ru
  obtain ⟨z, hd, vs, rel, dd⟩ := dk_of I.hok hH
  obtain ⟨z2, hd2, vs2, rel2, dd2⟩ := dk_rd I.hok hB
  have l1 := Paired.length rel
  have l2 := Paired.length rel2
  refine call_meetsIn PySem.F.slot_dict_update dd.typeIs PySem.F.entry_dict_update (PySem.F.args_dict_update_2 _ _) (meets_dict_update (mixKind X.prog X.w) l b hne hd2) ⟨vs, vs2, dd, dd2, by rw [← l1, ← l2]; exact hz, fun h' dd' _ hs => ?_⟩
  have he : ∃ q, h'.get? l = some q := let ⟨q, _, _, hq, _⟩ := dd'; ⟨q, hq⟩
  have hlen : (mergeK kvs more).length ≤ sizeLine := Nat.le_trans (length_mergeK more kvs) hz
  exact ⟨.non, _, d_write (t' := s.toks) I (by rw [hH]; exact True.intro) hs he (dk_new hlen hd (KV.merge rel2 rel) dd'), rfl, q⟩
end

section
variable {A : CtD} {s : CtS} {e ea eb : Expr} {st : Stmt} {sts : List Stmt} {wa wb w : WE} {pos p1 p2 p3 : Pos} {x y : Str}
/-! ### slots that hold own things -/
def lstAt (S : List Slot) (i : Nat) (R : List PV → Prop) : Prop := match S[i]? with
  | some (.ow (.lst ps)) => R ps
  | _ => False
def dkAt (S : List Slot) (i : Nat) (R : List (Key × PV) → Prop) : Prop := match S[i]? with
  | some (.ow (.dk ps)) => R ps
  | _ => False
theorem lstAt.of {S : List Slot} {i : Nat} {R : List PV → Prop} (h : lstAt S i R) : ∃ ps, S[i]? = some (.ow (.lst ps)) ∧ R ps := by
  unfold lstAt at h
  split at h
  · exact ⟨_, by assumption, h⟩
  · exact h.elim
theorem dkAt.of {S : List Slot} {i : Nat} {R : List (Key × PV) → Prop} (h : dkAt S i R) : ∃ ps, S[i]? = some (.ow (.dk ps)) ∧ R ps := by
  unfold dkAt at h
  split at h
  · exact ⟨_, by assumption, h⟩
  · exact h.elim
/-- an own thing read -/
theorem Wd.own_at {a : Addr} {b : Bs} {Hb H : Hp} {σ : L2.St} {S : List Slot} {k i : Nat} {p : PV} (d : Wd a b Hb σ H S k) (h : S[i]? = some (.ow p)) : ∃ c u, σ[i]? = some (some (.ref c)) ∧ H c = some u ∧ TopR a H u p ∧ Own σ S i c ∧ c ≠ a ∧ c ≠ b.c := by
  obtain ⟨c, u, e1, h1, r⟩ := d.sl i _ h
  obtain ⟨_, n1, n2, _⟩ := d.own i c ⟨e1, p, h⟩
  exact ⟨c, u, e1, h1, r, ⟨e1, p, h⟩, n1, n2⟩

/-! ### append, extend, update -/
def wApp (i : Nat) (w : WE) : WS := fun W S k => lstAt S i fun ps => w S k fun p k' => ps.length < bigN ∧ W.nx (S.set i (.ow (.lst (ps ++ [p])))) k'
theorem ss_app {i : Nat} (hx : vOk s i x = true) (h : SE A s e w)
    (hbase : ∀ env, attributeBase (.Name x p1) "append" env (eval (.Name x p1) env) = eval (.Name x p1) env := by intro _; rfl)
    (hfew : ∀ env, ((backTo p3 (starEach [e] env)).all (fun x => !x.1) && (backToKw p3 (keywordEach [] env)).all (fun x => x.1.isSome)
      && decide ([e].length + ([] : List Keyword).length + (if ([] : List Keyword).isEmpty then 0 else 1) < 30)) = true := by intro _; rfl)
    (hline : (p2.endLine == p3.line) = true := by rfl) (hs : ∀ env, starEach [e] env = (false, eval e env) :: starEach [] env := by intro _; rfl) :
    SS A s (.Expr (.Call (.Attribute (.Name x p1) "append" p2) [e] [] p3) pos) (wApp i w) := by
  refine ⟨fun X t => ps_imp (ps_expr (pe_bm F.plainAttrs_list F.slot_list_append F.type_list_append mt_append (vOk.pe hx t) (pa_cons (h.run X t) pa_nil (hs X.env)) (hbase X.env) (hfew X.env) hline (hs X.env) (by rfl)) (by rfl)) fun D σ H ⟨Hb, S, k, W, d, r, z⟩ => ?_⟩
  obtain ⟨ps, hi, z⟩ := lstAt.of z
  obtain ⟨c, u, e1, h1, rt, ow, n1, n2⟩ := d.own_at hi
  cases rt with
  | @l vs _ rr =>
    refine ⟨_, e1, .inl ⟨rfl, _, .inl (.inl h1)⟩, Hb, S, k, _, d, z, fun p k' v H' u' m r' z' => ?_⟩
    have rr' := rr.up (u'.ps d.amb)
    refine ⟨c, _, v, rfl, rfl, u'.own h1 trivial n1 n2, bigN.lt (by rw [rr.length]; exact z'.1), ?_⟩
    exact r.nx _ _ _ _ ((d.expr u' m).change ow (.l (rr'.append (.cons r' .nil)))) z'.2
def wExt (i : Nat) (w : WE) : WS := fun W S k => lstAt S i fun ps => w S k fun p k' => match p with
  | .lst qs => ps.length + qs.length ≤ bigN ∧ W.nx (S.set i (.ow (.lst (ps ++ qs)))) k'
  | _ => False
theorem ss_ext {i : Nat} (hx : vOk s i x = true) (h : SE A s e w)
    (hbase : ∀ env, attributeBase (.Name x p1) "extend" env (eval (.Name x p1) env) = eval (.Name x p1) env := by intro _; rfl)
    (hfew : ∀ env, ((backTo p3 (starEach [e] env)).all (fun x => !x.1) && (backToKw p3 (keywordEach [] env)).all (fun x => x.1.isSome)
      && decide ([e].length + ([] : List Keyword).length + (if ([] : List Keyword).isEmpty then 0 else 1) < 30)) = true := by intro _; rfl)
    (hline : (p2.endLine == p3.line) = true := by rfl) (hs : ∀ env, starEach [e] env = (false, eval e env) :: starEach [] env := by intro _; rfl) :
    SS A s (.Expr (.Call (.Attribute (.Name x p1) "extend" p2) [e] [] p3) pos) (wExt i w) := by
  refine ⟨fun X t => ps_imp (ps_expr (pe_bm F.plainAttrs_list F.slot_list_extend F.type_list_extend mt_extR (vOk.pe hx t) (pa_cons (h.run X t) pa_nil (hs X.env)) (hbase X.env) (hfew X.env) hline (hs X.env) (by rfl)) (by rfl)) fun D σ H ⟨Hb, S, k, W, d, r, z⟩ => ?_⟩
  obtain ⟨ps, hi, z⟩ := lstAt.of z
  obtain ⟨c, u, e1, h1, rt, ow, n1, n2⟩ := d.own_at hi
  cases rt with
  | @l vs _ rr =>
    refine ⟨_, e1, .inl ⟨rfl, _, .inl (.inl h1)⟩, Hb, S, k, _, d, z, fun p k' v H' u' m r' z' => ?_⟩
    have rr' := rr.up (u'.ps d.amb)
    split at z'
    · obtain ⟨b, o, ws, rfl, hb, rw⟩ := r'.lst'
      refine ⟨c, b, _, _, o, rfl, rfl, u'.own h1 trivial n1 n2, hb, bigN.le (by rw [rr.length, rw.length]; exact z'.1), ?_⟩
      exact r.nx _ _ _ _ ((d.expr u' m).change ow (.l (rr'.append rw))) z'.2
    · exact z'.elim
def wUpd (i : Nat) (w : WE) : WS := fun W S k => dkAt S i fun ps => w S k fun p k' => match p with
  | .dk qs => ps.length + qs.length ≤ bigN ∧ W.nx (S.set i (.ow (.dk (mergeP ps qs)))) k'
  | _ => False
theorem ss_upd {i : Nat} (hx : vOk s i x = true) (h : SE A s e w)
    (hbase : ∀ env, attributeBase (.Name x p1) "update" env (eval (.Name x p1) env) = eval (.Name x p1) env := by intro _; rfl)
    (hfew : ∀ env, ((backTo p3 (starEach [e] env)).all (fun x => !x.1) && (backToKw p3 (keywordEach [] env)).all (fun x => x.1.isSome)
      && decide ([e].length + ([] : List Keyword).length + (if ([] : List Keyword).isEmpty then 0 else 1) < 30)) = true := by intro _; rfl)
    (hline : (p2.endLine == p3.line) = true := by rfl) (hs : ∀ env, starEach [e] env = (false, eval e env) :: starEach [] env := by intro _; rfl) :
    SS A s (.Expr (.Call (.Attribute (.Name x p1) "update" p2) [e] [] p3) pos) (wUpd i w) := by
  refine ⟨fun X t => ps_imp (ps_expr (pe_bm F.plainAttrs_dict F.slot_dict_update F.type_dict_update mt_updK (vOk.pe hx t) (pa_cons (h.run X t) pa_nil (hs X.env)) (hbase X.env) (hfew X.env) hline (hs X.env) (by rfl)) (by rfl)) fun D σ H ⟨Hb, S, k, W, d, r, z⟩ => ?_⟩
  obtain ⟨ps, hi, z⟩ := dkAt.of z
  obtain ⟨c, u, e1, h1, rt, ow, n1, n2⟩ := d.own_at hi
  cases rt with
  | @k vs _ rr =>
    refine ⟨_, e1, .inr (.inr (.inl ⟨rfl, .inl ⟨_, h1⟩⟩)), Hb, S, k, _, d, z, fun p k' v H' u' m r' z' => ?_⟩
    have rr' := rr.up (u'.ps d.amb)
    split at z'
    · obtain ⟨b, o, ws, rfl, hb, rw⟩ := r'.dk'
      have hc := u'.own h1 trivial n1 n2
      refine ⟨c, b, _, _, rfl, rfl, fun q => ?_, hc, .inr ⟨_, hb⟩, bigN.le (by rw [rr.length, rw.length]; exact z'.1), ?_⟩
      · rw [← q, hc] at hb; cases hb
      exact r.nx _ _ _ _ ((d.expr u' m).change ow (.k (RepX.merge rw.x rr'.x).k)) z'.2
    · exact z'.elim

/-! ### d[k] = v, d[k] op= v -/
/-- a dict's content with a key's value put -/
def dPut (d k v : PV) (R : PV → Prop) : Prop := match d, k with
  | .dk kvs, p => ∃ κ, keyOf p = some κ ∧ kvs.length < bigN ∧ R (.dk (putP kvs κ v))
  | .dt kvs, .tup ps => ∃ κ, keysOf ps = some κ ∧ kvs.length < bigN ∧ R (.dt (putP kvs κ v))
  | _, _ => False
theorem d_put {a : Addr} {b : Bs} {H : Hp} {c : Addr} {u : HO} {y v : V} {d k p : PV} {R : PV → Prop} (h1 : H c = some u) (rt : TopR a H u d) (ry : Rep a H y k) (rv : Rep a H v p) (h : dPut d k p R) : ∃ u' d', DPut H c y v (upd H c u') ∧ TopR a H u' d' ∧ R d' := by
  unfold dPut at h
  split at h
  · obtain ⟨κ, hk, hl, h⟩ := h
    cases rt with
    | @k vs _ rr =>
      rw [keyOf_eq hk] at ry
      exact ⟨_, _, .inl ⟨_, κ, h1, ry.key, bigN.lt (by rw [rr.length]; exact hl), rfl⟩, .k (rr.x.put κ rv).k, h⟩
  · obtain ⟨κ, hk, hl, h⟩ := h
    cases rt with
    | @t vs _ rr =>
      obtain ⟨q, ws, rfl, hq, rw⟩ := ry.tup'
      rw [keysOf_eq hk] at rw
      have := rw.keys
      subst this
      exact ⟨_, _, .inr ⟨_, κ, q, h1, rfl, hq, bigN.lt (by rw [rr.length]; exact hl), rfl⟩, .t (rr.x.put κ rv).t, h⟩
  · exact h.elim
def owAt (S : List Slot) (i : Nat) (R : PV → Prop) : Prop := match S[i]? with
  | some (.ow p) => R p
  | _ => False
theorem owAt.of {S : List Slot} {i : Nat} {R : PV → Prop} (h : owAt S i R) : ∃ ps, S[i]? = some (.ow ps) ∧ R ps := by
  unfold owAt at h
  split at h
  · exact ⟨_, by assumption, h⟩
  · exact h.elim
def wPut (i : Nat) (wk wv : WE) : WS := fun W S k => owAt S i fun d => wv S k fun v k1 => wk S k1 fun q k2 => dPut d q v fun d' => W.nx (S.set i (.ow d')) k2
theorem ss_put {i : Nat} {ek ev : Expr} {wk wv : WE} (hx : vOk s i x = true) (hk : SE A s ek wk) (hv : SE A s ev wv) (hs : ∀ env, swapsWith ev (some (.Subscript (.Name x p1) ek p2)) pos.line env = pure false := by intro _; rfl) :
    SS A s (.Assign [.Subscript (.Name x p1) ek p2] ev pos) (wPut i wk wv) := by
  refine ⟨fun X t => ps_imp (ps_dput t.u1 (vOk.pe hx t) (hk.run X t) (hv.run X t) (hs X.env)) fun D σ H ⟨Hb, S, k, W, d, r, z⟩ => ?_⟩
  obtain ⟨p, hi, z⟩ := owAt.of z
  obtain ⟨c, u, e1, h1, rt, ow, n1, n2⟩ := d.own_at hi
  refine ⟨Hb, S, k, _, d, z, fun p1 k1 v H1 u1 m1 r1 z1 => ⟨_, e1, Hb, S, k1, _, d.expr u1 m1, z1, fun p2 k2 y H2 u2 m2 r2 z2 => ?_⟩⟩
  have u12 := u1.trans u2
  obtain ⟨u', d', dp, rt', z3⟩ := d_put (b := A.b) (u12.own h1 rt.thg n1 n2) (rt.up (u12.ps d.amb)) r2 (r1.up (u2.ps m1)) z2
  exact ⟨c, _, rfl, dp, r.nx _ _ _ _ ((d.expr u12 m2).change ow rt') z3⟩
def wAugP (i : Nat) (f : Int → Int → Int) (wk wv : WE) : WS := fun W S k => owAt S i fun d => wk S k fun q k1 => vLook d q fun o => match o with
  | some (.int a) => wv S k1 fun v k2 => match v with
    | .int b => dPut d q (.int (f a b)) fun d' => W.nx (S.set i (.ow d')) k2
    | _ => False
  | _ => False
theorem ss_augP {op : Operator} {f : Int → Int → Int} {i : Nat} {ek ev : Expr} {wk wv : WE} (hop : ∀ X, TX A s X → InOp X op (fun x y H Q => ∃ i j : Int, x = .int i ∧ y = .int j ∧ Q (.int (f i j)) H)) (hx : vOk s i x = true) (hk : SE A s ek wk) (hv : SE A s ev wv)
    (ha : ∀ ov iv new, augStore ek ov iv new = (do holding [new, ov, iv] (setItem ov iv new); release [new, ov, iv] []; pure .next) := by intros; rfl) :
    SS A s (.AugAssign (.Subscript (.Name x p1) ek p2) op ev pos) (wAugP i f wk wv) := by
  refine ⟨fun X t => ps_imp (ps_daug t.u1 (vOk.pe hx t) (hk.run X t) (hv.run X t) (hop X t) ha) fun D σ H ⟨Hb, S, k, W, d, r, z⟩ => ?_⟩
  obtain ⟨p, hi, z⟩ := owAt.of z
  obtain ⟨c, u, e1, h1, rt, ow, n1, n2⟩ := d.own_at hi
  refine ⟨_, e1, Hb, S, k, _, d, z, fun q k1 y H1 u1 m1 r1 z1 => ?_⟩
  have h1' := u1.own h1 rt.thg n1 n2
  have rt1 := rt.up (u1.ps d.amb)
  obtain ⟨c', o, o', ec, dg, z2, rel⟩ := v_look (b := A.b) (.o h1' n1 n2 rt1) (.r r1) z1
  cases ec
  rcases rel with ⟨_, rfl⟩ | ⟨v, pv, rfl, rfl, rv⟩
  · exact z2.elim
  · split at z2
    · rename_i a ea
      cases ea
      obtain rfl := (RepO.r rv : RepO A.a A.b H1 v (.int a)).int
      refine ⟨c, _, rfl, dg, Hb, S, k1, _, d.expr u1 m1, z2, fun p2 k2 v2 H2 u2 m2 r2 z3 => ?_⟩
      split at z3
      · rename_i b
        obtain rfl := (RepO.r r2 : RepO A.a A.b H2 v2 (.int b)).int
        have u12 := u1.trans u2
        obtain ⟨u', d', dp, rt', z4⟩ := d_put (b := A.b) (u12.own h1 rt.thg n1 n2) (rt.up (u12.ps d.amb)) (r1.up (u2.ps m1)) (.int _) z3
        exact ⟨_, _, rfl, rfl, _, dp, r.nx _ _ _ _ ((d.expr u12 m2).change ow rt') z4⟩
      · exact z3.elim
    · exact z2.elim
theorem ss_augAdd {i : Nat} {ek ev : Expr} {wk wv : WE} (hx : vOk s i x = true) (hk : SE A s ek wk) (hv : SE A s ev wv)
    (ha : ∀ ov iv new, augStore ek ov iv new = (do holding [new, ov, iv] (setItem ov iv new); release [new, ov, iv] []; pure .next) := by intros; rfl) :
    SS A s (.AugAssign (.Subscript (.Name x p1) ek p2) .Add ev pos) (wAugP i (fun a b => a + b) wk wv) := ss_augP (fun X t => in_add) hx hk hv ha
theorem ss_augSub {i : Nat} {ek ev : Expr} {wk wv : WE} (hx : vOk s i x = true) (hk : SE A s ek wk) (hv : SE A s ev wv)
    (ha : ∀ ov iv new, augStore ek ov iv new = (do holding [new, ov, iv] (setItem ov iv new); release [new, ov, iv] []; pure .next) := by intros; rfl) :
    SS A s (.AugAssign (.Subscript (.Name x p1) ek p2) .Sub ev pos) (wAugP i (fun a b => a - b) wk wv) := ss_augP (fun X t => in_sub) hx hk hv ha

/-! ### x op= e, ints -/
def wAug (i : Nat) (f : Int → Int → Int) (w : WE) : WS := fun W S k => match S[i]? with
  | some (.fz (.int a)) => w S k fun p k' => match p with
    | .int b => W.nx (S.set i (.fz (.int (f a b)))) k'
    | _ => False
  | _ => False
theorem ss_aug {op : Operator} {f : Int → Int → Int} {i : Nat} (hop : ∀ X, TX A s X → PIp X op (ipI f)) (hl : lOk s i x = true) (h : SE A s e w) : SS A s (.AugAssign (.Name x p1) op e pos) (wAug i f w) := by
  refine ⟨fun X t => ?_⟩
  obtain ⟨l1, l2, l3, l4⟩ := lOk.loc hl t
  refine ps_imp (ps_aug t.nd l1 l2 (h.run X t) (hop X t) l3) fun D σ H ⟨Hb, S, k, W, d, r, z⟩ => ?_
  unfold wAug at z
  split at z
  · rename_i a ha
    obtain ⟨v, e1, rv⟩ := d.sl i _ ha
    obtain rfl := (RepO.r rv : RepO A.a A.b H v (.int a)).int
    refine ⟨_, e1, Hb, S, k, _, d, z, fun p k' v2 H' u m r2 z2 => ?_⟩
    split at z2
    · rename_i b
      obtain rfl := (RepO.r r2 : RepO A.a A.b H' v2 (.int b)).int
      exact ⟨_, _, rfl, rfl, r.nx _ _ _ _ ((d.expr u m).set (List.getElem?_eq_some_iff.mp ha).1 (.int _)) z2⟩
    · exact z2.elim
  · exact z.elim
theorem ss_addN {i : Nat} (hl : lOk s i x = true) (h : SE A s e w) : SS A s (.AugAssign (.Name x p1) .Add e pos) (wAug i (fun a b => a + b) w) := ss_aug (fun X t => ip_add) hl h
theorem ss_subN {i : Nat} (hl : lOk s i x = true) (h : SE A s e w) : SS A s (.AugAssign (.Name x p1) .Sub e pos) (wAug i (fun a b => a - b) w) := ss_aug (fun X t => ip_sub) hl h
end
end TL
set_option Elab.async false
set_option linter.all false
set_option maxRecDepth 100000
set_option autoImplicit false
/-! T10: comprehensions of one clause. -/
namespace TL
open PySem
open PySem.Spec
open PyProof.Rows
open L2

/-! ### slots wiped -/
def unS (S : List Slot) : List Nat → List Slot
  | [] => S
  | v :: vs => (unS S vs).set v .un
theorem Wd.wipe {a : Addr} {b : Bs} {Hb H : Hp} {σ : L2.St} {S : List Slot} {k : Nat} (d : Wd a b Hb σ H S k) : ∀ vs : List Nat, Wd a b Hb (L2.wipe σ vs) H (unS S vs) k
  | [] => d
  | _ :: vs => (d.wipe vs).drop
theorem own_wipe {σ : L2.St} {S : List Slot} {j : Nat} {c : Addr} : ∀ {vs : List Nat}, Own (L2.wipe σ vs) (unS S vs) j c → Own σ S j c
  | [], o => o
  | _ :: vs, o => own_wipe (vs := vs) (own_old (fun _ z => by cases z) o).2
theorem wipe_wipe (σ : L2.St) (vs : List Nat) : L2.wipe (L2.wipe σ vs) vs = L2.wipe σ vs := by
  have : ∀ us : List Nat, (∀ u ∈ us, u ∈ vs) → L2.wipe (L2.wipe σ vs) us = L2.wipe σ vs := by
    intro us
    induction us with
    | nil => intro _; rfl
    | cons u us ih =>
      intro h
      show (L2.wipe (L2.wipe σ vs) us).set u none = _
      rw [ih fun x hx => h x (by simp [hx])]
      have hu := h u (by simp)
      have g : ∀ ws : List Nat, u ∈ ws → (L2.wipe σ ws).set u none = L2.wipe σ ws := by
        intro ws
        induction ws with
        | nil => intro h; cases h
        | cons w ws ih =>
          intro h
          show ((L2.wipe σ ws).set w none).set u none = (L2.wipe σ ws).set w none
          by_cases e : w = u
          · subst e; rw [List.set_set]
          · rw [List.set_comm _ _ e, ih (by
              rcases List.mem_cons.mp h with z | z
              · exact absurd z.symm e
              · exact z)]
      exact g vs hu
  exact this vs fun _ h => h
/-- a thing that no slot owns is another one now -/
theorem Wd.side {a : Addr} {b : Bs} {Hb H : Hp} {σ : L2.St} {S : List Slot} {k : Nat} {D : Addr} {u u' : HO} (d : Wd a b Hb σ H S k) (hD : H D = some u) (mu : Thg u) (no : ∀ j, ¬ Own σ S j D) (nb : Hb D = none) (na : D ≠ a) (nb' : D ≠ b.c) :
    Wd a b Hb σ (upd H D u') S k := by
  have p : Ps H (upd H D u') := ps_upd hD mu.mut
  refine ⟨d.len, fun i t e => ?_, d.own, d.up.set nb, d.amb.set hD mu na nb'⟩
  · have q := d.sl i t e
    cases t with
    | un => trivial
    | fz pv => obtain ⟨v, e1, r⟩ := q; exact ⟨v, e1, r.up p⟩
    | ow l =>
      obtain ⟨c, vs, e1, h1, r⟩ := q
      have hc : c ≠ D := by
        rintro rfl
        exact no i ⟨e1, l, e⟩
      exact ⟨c, vs, e1, by rw [upd_ne hc]; exact h1, r.up p⟩

section
variable {A : CtD} {s : CtS} {e ea eb : Expr} {st : Stmt} {sts : List Stmt} {wa wb w : WE} {pos p1 p2 p3 : Pos} {x y : Str}
/-! ### a clause's tests -/
structure STs (A : CtD) (s : CtS) (ifs : List Expr) (w : WT) : Prop where
  run : ∀ X, TX A s X → PTs X ifs (rdT A w)
theorem pts_imp {X : Cx} {ifs : List Expr} {t t' : TT} (h : PTs X ifs t) (i : ∀ σ H Q, t' σ H Q → t σ H Q) : PTs X ifs t' := ⟨fun pins s σ H Q I q => h.run pins s σ H Q I (i σ H Q q)⟩
def wYes : WT := fun _ k R => R true k
theorem sts_nil : STs A s [] wYes := ⟨fun X t => pts_imp pts_nil fun σ H Q ⟨Hb, S, k, R, W, x, q⟩ => q true k true H Up.refl W.amb rfl x⟩
theorem sts_one {c : Expr} {tc : WT} (h : ST A s c tc) : STs A s [c] tc := ⟨fun X t => pts_one (h.run X t)⟩

/-! ### the block -/
def blkS (s : CtS) (scope : Scope) : CtS := ⟨s.N, relS scope s.sc, fun x => scope.names.lookup x == some .cell⟩
theorem TX.blk {X : Cx} {scope : Scope} {s0 : Shared} {H : Hp} {C : Addr} {cl : List (Str × Addr)} {fp : List Addr} (t : TX A s X) (hk : scope.kind = .function) : TX A (blkS s scope) (X.blk s0 H scope (compEnvC scope cl C X.env) fp) := by
  refine ⟨t.hN, t.nd, ?_, hk, t.calm, fun _ h => h, rfl, t.room, t.bl, fun e he => t.fns e he, t.tab⟩
  have : (compEnvC scope cl C X.env).scope = relS scope X.env.scope := rfl
  rw [show (X.blk s0 H scope (compEnvC scope cl C X.env) fp).env.scope = relS scope X.env.scope from rfl, t.sc]
  rfl
/-- the block's own names and their slots -/
def bOk (s : CtS) (scope : Scope) (own : List (Str × Nat)) (ix : List Nat) : Bool := blkC s.N s.sc scope own && ix.all fun i => (own.map (·.2)).contains i
theorem bOk.ok {X : Cx} {scope : Scope} {own : List (Str × Nat)} {ix : List Nat} (h : bOk s scope own ix = true) (t : TX A s X) : BlkOk X.N X.env.scope scope own ∧ ∀ i ∈ ix, i ∈ own.map (·.2) := by
  unfold bOk at h
  simp only [Bool.and_eq_true, List.all_eq_true] at h
  rw [t.hN, t.sc]
  exact ⟨blkOk_by h.1, fun i hi => by simpa using h.2 i hi⟩

/-! ### a comprehension's turns -/
section
variable {β : Type}
/-- add: what a turn's element does to what is gathered -/
def wCmL (g : GP) (tt : WT) (add : List Slot → Nat → β → (β → Nat → Prop) → Prop) (S0 : List Slot) (Rf : β → Nat → Prop) : List PV → β → Nat → Prop
  | [], acc, k => Rf acc k
  | p :: r, acc, k => g p S0 fun S' => tt S' k fun b k1 => if b = true then add S' k1 acc fun acc' k2 => wCmL g tt add S0 Rf r acc' k2 else wCmL g tt add S0 Rf r acc k1
def wCm (wi : WI) (vs : List Nat) (g : GP) (tt : WT) (add : List Slot → Nat → β → (β → Nat → Prop) → Prop) (acc0 : β) (out : β → PV) : WE := fun S k R => wi S k fun ps k' => ps.length ≤ bigN ∧ wCmL g tt add (unS S vs) (fun acc k => R (out acc) k) ps acc0 k'
end
def addL (we : WE) : List Slot → Nat → List PV → (List PV → Nat → Prop) → Prop := fun S k acc R => we S k fun y k2 => R (acc ++ [y]) k2
def addD (wk wv : WE) : List Slot → Nat → PV → (PV → Nat → Prop) → Prop := fun S k acc R => wk S k fun q k1 => wv S k1 fun v k2 => dPut acc q v fun d => R d k2
def wLc (wi : WI) (vs : List Nat) (g : GP) (tt : WT) (we : WE) : WE := wCm wi vs g tt (addL we) [] PV.lst
def wDc (wi : WI) (vs : List Nat) (g : GP) (tt : WT) (wk wv : WE) (d0 : PV) : WE := wCm wi vs g tt (addD wk wv) d0 fun d => d

/-- a list comprehension's reading -/
theorem lc_read {wi : WI} {vs ix : List Nat} {g : GP} {tt : WT} {we : WE} {σ : L2.St} {H : Hp} {Q : VK} (hix : ∀ i ∈ ix, i ∈ vs) (h : rdF A (wLc wi vs g tt we) σ H Q) : tLc (rdI A wi) (rdGt A ix g) (rdT A tt) (rdE A we) vs σ H Q := by
  obtain ⟨Hb, S, k, R, d, z, q⟩ := h
  refine ⟨Hb, S, k, _, d, z, fun ps k1 J H1 u1 m1 it ⟨hlen, z⟩ => ?_⟩
  intro D hD
  have d1 := d.expr u1 m1
  have na : D ≠ A.a := fun e => m1.na (e ▸ hD)
  have nb : D ≠ A.b.c := fun e => m1.nb (e ▸ hD)
  have hb : Hb D = none := Up.was d1.up m1 hD
  have dw := d1.wipe vs
  have no : ∀ j, ¬ Own (L2.wipe σ vs) (unS S vs) j D := fun j o => by
    obtain ⟨_, _, h1, _⟩ := dw.at_own o
    rw [hD] at h1; cases h1
  have d0 : Wd A.a A.b Hb (L2.wipe σ vs) (upd H1 D (.lst [])) (unS S vs) k1 := dw.expr (Up.new hD) (m1.new hD)
  refine ⟨fun i m H' => m = ps.length - i ∧ i ≤ ps.length ∧ ∃ k' av ap, Wd A.a A.b Hb (L2.wipe σ vs) H' (unS S vs) k' ∧ Up A.a A.b H1 H' ∧ H' D = some (.lst av) ∧ Reps A.a H' av ap ∧ ap.length ≤ i ∧ wCmL g tt (addL we) (unS S vs) (fun acc k => R (.lst acc) k) (ps.drop i) ap k',
    ⟨_, rfl, Nat.zero_le _, k1, [], [], d0, Up.new hD, upd_same, .nil, Nat.le_refl _, z⟩, ?_⟩
  rintro i m H' ⟨rfl, hle, k', av, ap, d', u', hD', ra, hal, z'⟩
  have ps' := u'.ps m1
  by_cases hlt : i < ps.length
  · refine .inr ⟨it.go H' i ps' hlt, fun H2 => ∃ k' av ap, Wd A.a A.b Hb (L2.wipe σ vs) H2 (unS S vs) k' ∧ Up A.a A.b H1 H2 ∧ H2 D = some (.lst av) ∧ Reps A.a H2 av ap ∧ ap.length ≤ i + 1 ∧ wCmL g tt (addL we) (unS S vs) (fun acc k => R (.lst acc) k) (ps.drop (i + 1)) ap k',
      fun H2 ⟨k2, av2, ap2, e1, e2, e3, e4, e5, e6⟩ => ⟨ps.length - (i + 1), by omega, rfl, hlt, k2, av2, ap2, e1, e2, e3, e4, e5, e6⟩, fun v H2 hy => ?_⟩
    obtain ⟨u2, m2, r2⟩ := it.yld H' k' i v H2 ps[i] ps' d'.amb (List.getElem?_eq_getElem hlt) hy
    rw [List.drop_eq_getElem_cons hlt] at z'
    have d2 := d'.expr u2 m2
    refine ⟨Hb, unS S vs, k', ps[i], _, d2, r2, z', fun σ3 S3 d3 ch z3 => ⟨by rw [ch.wp vs hix, wipe_wipe], ?_⟩⟩
    refine ⟨Hb, S3, k', _, d3, z3, fun b k3 b' H3 u3 m3 eb z4 => ?_⟩
    subst eb
    split at z4
    · rename_i hb'
      rw [if_pos hb']
      refine ⟨Hb, S3, k3, _, d3.expr u3 m3, z4, fun y k4 yv H4 u4 m4 ry z5 => ?_⟩
      have u24 := (u2.trans u3).trans u4
      have hD4 := u24.own hD' trivial na nb
      refine ⟨av, hD4, bigN.lt (by rw [ra.length]; omega), k4, av ++ [yv], ap ++ [y], ?_, (u'.trans u24).set hD, upd_same, ?_, by simp; omega, z5⟩
      · exact ((d'.expr u24 m4).side hD4 trivial no hb na nb)
      · have pu : Ps H4 (upd H4 D (.lst (av ++ [yv]))) := ps_upd hD4 trivial
        exact ((ra.up (u24.ps d'.amb)).append (.cons ry .nil)).up pu
    · rename_i hb'
      rw [if_neg hb']
      have u23 := u2.trans u3
      exact ⟨k3, av, ap, d'.expr u23 m3, u'.trans u23, u23.own hD' trivial na nb, ra.up (u23.ps d'.amb), by omega, z4⟩
  · have e : i = ps.length := by omega
    subst e
    rw [List.drop_length] at z'
    exact .inl ⟨it.stop H' _ ps' (Nat.le_refl _), q _ k' _ H' (u1.trans u') d'.amb (.o (Up.was u1 m1 hD) hD' (.l ra)) z'⟩
theorem sf_lc {elt tg iter : Expr} {ifs : List Expr} {scope : Scope} (own : List (Str × Nat)) {ix : List Nat} {wi : WI} {g : GP} {tt : WT} {we : WE} (hi : SI A s tg iter wi) (hg : SG A (blkS s scope) tg ix g) (ht : STs A (blkS s scope) ifs tt) (he : SE A (blkS s scope) elt we)
    (ok : bOk s scope own ix = true) (hf : ∀ env x, foldedSetIterable iter env x = pure x := by intro _ _; rfl) : SF A s (.ListComp elt [⟨tg, iter, ifs, 0⟩] scope pos) (wLc wi (own.map (·.2)) g tt we) := by
  refine ⟨fun X t => ?_⟩
  obtain ⟨bk, hix⟩ := bOk.ok ok t
  exact pe_imp (pe_lc t.calm t.nd (hi.run X t) bk (fun _ _ _ _ _ => hg.run _ (t.blk bk.kind)) (fun _ _ _ _ _ => ht.run _ (t.blk bk.kind)) (fun _ _ _ _ _ => he.run _ (t.blk bk.kind)) (hf X.env)) fun σ H Q h => lc_read hix h
/-- x = [..] on one line, x a local -/
theorem ss_setLc {i : Nat} {y : Str} {py spos : Pos} {elt tg iter : Expr} {ifs : List Expr} {scope : Scope} (own : List (Str × Nat)) {ix : List Nat} {wi : WI} {g : GP} {tt : WT} {we : WE} (hl : nLoc s i y = true) (hi : SI A s tg iter wi) (hg : SG A (blkS s scope) tg ix g) (ht : STs A (blkS s scope) ifs tt) (he : SE A (blkS s scope) elt we)
    (ok : bOk s scope own ix = true) (hsw : ∀ X, TX A s X → swapsWith (.ListComp elt [⟨tg, iter, ifs, 0⟩] scope pos) (some (.Name y py)) spos.line X.env = pure true) (hf : ∀ env x, foldedSetIterable iter env x = pure x := by intro _ _; rfl) :
    SS A s (.Assign [.Name y py] (.ListComp elt [⟨tg, iter, ifs, 0⟩] scope pos) spos) (wAsgF i (wLc wi (own.map (·.2)) g tt we)) := by
  refine ⟨fun X t => ?_⟩
  obtain ⟨bk, hix⟩ := bOk.ok ok t
  have e1 := nLoc.of hl t
  refine ps_imp (ps_setLc t.calm t.nd e1.1 e1.2 (hsw X t) (hi.run X t) bk (fun _ _ _ _ _ => hg.run _ (t.blk bk.kind)) (fun _ _ _ _ _ => ht.run _ (t.blk bk.kind)) (fun _ _ _ _ _ => he.run _ (t.blk bk.kind)) (hf X.env)) fun D σ H ⟨Hb, S, k, W, d, r, z⟩ => ?_
  refine lc_read hix ⟨Hb, S, k, _, d, z, fun p k' v H' u m rr z' => ?_⟩
  cases rr with
  | o n hc rr => exact r.nx _ _ _ _ (d.setOwn u m z'.1 n hc rr) z'.2
/-- the swap of such a line -/
def swB (s : CtS) (scope : Scope) (y : Str) : Bool := (match s.sc.names.lookup y with
  | some .local => true
  | _ => false) && !(scope.names.any fun (n, k) => n == y && (k == .local || k == .cell))
theorem swB.yes {X : Cx} {elt tg iter : Expr} {ifs : List Expr} {cs : List Comprehension} {scope : Scope} {py : Pos} {sp : Nat} (h : swB s scope y = true) (t : TX A s X) (hp : (py.line == pos.line) = true) : swapsWith (.ListComp elt cs scope pos) (some (.Name y py)) sp X.env = pure true := by
  unfold swB at h
  simp only [Bool.and_eq_true, Bool.not_eq_true'] at h
  have hk : (X.env.blockKind == .function) = true := by
    unfold Env.blockKind
    rw [t.sc, t.kind]; rfl
  have hl : X.env.kindOf y = some .local := by
    show X.env.scope.names.lookup y = _
    rw [t.sc]
    have h1 := h.1
    split at h1
    · assumption
    · cases h1
  have key : swapsWith (.ListComp elt cs scope pos) (some (.Name y py)) sp X.env = pure (X.env.blockKind == .function && X.env.kindOf y == some .local && py.line == pos.line && !(scope.names.any fun (n, k) => n == y && (k == .local || k == .cell))) := rfl
  rw [key, hk, hl, hp, h.2]
  rfl
theorem swB.yesD {X : Cx} {kx vx : Expr} {cs : List Comprehension} {scope : Scope} {py : Pos} {sp : Nat} (h : swB s scope y = true) (t : TX A s X) (hp : (py.line == pos.line) = true) : swapsWith (.DictComp kx vx cs scope pos) (some (.Name y py)) sp X.env = pure true := by
  unfold swB at h
  simp only [Bool.and_eq_true, Bool.not_eq_true'] at h
  have hk : (X.env.blockKind == .function) = true := by
    unfold Env.blockKind
    rw [t.sc, t.kind]; rfl
  have hl : X.env.kindOf y = some .local := by
    show X.env.scope.names.lookup y = _
    rw [t.sc]
    have h1 := h.1
    split at h1
    · assumption
    · cases h1
  have key : swapsWith (.DictComp kx vx cs scope pos) (some (.Name y py)) sp X.env = pure (X.env.blockKind == .function && X.env.kindOf y == some .local && py.line == pos.line && !(scope.names.any fun (n, k) => n == y && (k == .local || k == .cell))) := rfl
  rw [key, hk, hl, hp, h.2]
  rfl
end
end TL
set_option Elab.async false
set_option linter.all false
set_option maxRecDepth 100000
set_option maxHeartbeats 4000000
set_option autoImplicit false
/-! T11: dict comprehensions of two clauses, of any keys (after the hand layer's list comprehensions of two clauses). -/
namespace TL
open PySem
open PySem.Spec
open PyProof.Rows
open L2
theorem d_dictSetX {X : Cx} {pins : List (Addr × Obj)} {σ : L2.St} {H H' : Hp} {s : Shared} {E : Value → Shared → Prop} {D : Addr} {y v : V} {u r : Value} {Q : Unit → Shared → Prop} (hu : X.A.units + 1 < cLine) (I : Inv X pins σ H s) (g : DPut H D y v H')
    (ry : RelV y u) (rv : RelV v r) (h : ∀ s', Inv X pins σ H' s' → Q () s') : wpAny (model X.prog X.w) X.A (dictSet D u r) Q E s := by
  rcases g with ⟨kvs, k, e, rfl, l, rfl⟩ | ⟨kvs, k, b, e, rfl, eb, l, rfl⟩
  · exact d_dictSet I e l ry rv h
  · cases (show u = Value.ref b from ry)
    obtain ⟨z, hd, xs, rel, dd⟩ := dt_of I.hok e
    have hz : xs.length ≤ sizeLine := by rw [← Paired.length rel]; exact z
    have hl : (putK kvs k v).length ≤ sizeLine := Nat.le_trans (length_putK kvs k v) l
    refine wpAny_dictSet_heap (hsz := hz) (Nat.lt_of_succ_lt hu) (key_of I.hok eb) dd fun h' dd' hs => h _ ?_
    obtain ⟨q, es, ep, hq, h2, h3, h4, _, h5⟩ := dd'
    have rel2 : KT (upd H D (.dT (putK kvs k v))) (putK kvs k v) _ := (rel.put k eb rv).keeps fun c ys ec => by
      rw [upd_ne (ne_of ec e (fun z => nomatch z))]
      exact ec
    exact d_write I (by rw [e]; exact True.intro) hs ⟨q, hq⟩ ⟨hl, hd, _, rel2, q, es, ep, hq, h2, h3, h4, h5⟩
theorem turnD_out (kx vx t0 i0 t1 i1 : Expr) (ifs0 ifs1 : List Expr) (scope : Scope) (pos : Pos) (it : Value) (D : Addr) (env : Env) :
    compTurn (.DictComp kx vx [⟨t0, i0, ifs0, 0⟩, ⟨t1, i1, ifs1, 0⟩] scope pos) 0 it (.ref D) env = (do
      standAt i0.pos
      match ← pyNext it with
      | none => pure (.done .next)
      | some v =>
        letOwnedTupleGo t0 it v
        assign t0 env v
        let mut ok := true
        for c in ifs0 do
          if ok then ok ← isTrue c env (eval c env)
        if ok then
          let x ← eval i1 env
          standAt i1.pos
          let x ← foldedSetIterable i1 env x
          let _ ← runOwn (.compStart (.DictComp kx vx [⟨t0, i0, ifs0, 0⟩, ⟨t1, i1, ifs1, 0⟩] scope pos) 1 (← holding [x] (pyIter x)) (.ref D) env) env
        again (.compLoop (.DictComp kx vx [⟨t0, i0, ifs0, 0⟩, ⟨t1, i1, ifs1, 0⟩] scope pos) 0 it (.ref D) env)) := by rfl
theorem turnD_in (kx vx t0 i0 t1 i1 : Expr) (ifs0 ifs1 : List Expr) (scope : Scope) (pos : Pos) (it : Value) (D : Addr) (env : Env) :
    compTurn (.DictComp kx vx [⟨t0, i0, ifs0, 0⟩, ⟨t1, i1, ifs1, 0⟩] scope pos) 1 it (.ref D) env = (do
      standAt i1.pos
      match ← pyNext it with
      | none => pure (.done .next)
      | some v =>
        letOwnedTupleGo t1 it v
        assign t1 env v
        let mut ok := true
        for c in ifs1 do
          if ok then ok ← isTrue c env (eval c env)
        if ok then
          (do
            let kv ← eval kx env
            let vv ← holding [kv] (eval vx env)
            standAt { kx.pos with endLine := vx.pos.endLine, endCol := vx.pos.endCol }
            holding [kv, vv] (dictSet D kv vv))
        again (.compLoop (.DictComp kx vx [⟨t0, i0, ifs0, 0⟩, ⟨t1, i1, ifs1, 0⟩] scope pos) 1 it (.ref D) env)) := by rfl

section
variable {prog : Program} {w : World} {A : Around} {R : Result → Shared → Prop} {s : Shared} {kx vx t0 i0 t1 i1 : Expr} {ifs0 ifs1 : List Expr} {scope : Scope} {pos : Pos} {it : Value} {D : Addr} {env : Env}
/-- the loop of the first clause -/
theorem loopD_out (hs : ∀ x, foldedSetIterable i1 env x = pure x) (I : Nat → Shared → Prop)
    (turn : ∀ n s, I n s → wpAny (model prog w) A (pyNext it) (fun r s₁ => match r with
      | none => R (.ok .next) s₁
      | some v => wpAny (model prog w) A (letOwnedTupleGo t0 it v) (fun _ s₁' => wpAny (model prog w) A (assign t0 env v) (fun _ s₂ =>
          wpAny (model prog w) A (forIn ifs0 true fun c r => if r = true then do let ok ← isTrue c env (eval c env); pure (ForInStep.yield ok) else pure (ForInStep.yield r)) (fun ok s₃ =>
            if ok = true then wpAny (model prog w) A (eval i1 env) (fun x s₄ => wpAny (model prog w) A (pyIter x) (fun it1 s₅ =>
              codeAny (model prog w) A (.compStart (.DictComp kx vx [⟨t0, i0, ifs0, 0⟩, ⟨t1, i1, ifs1, 0⟩] scope pos) 1 it1 (.ref D) env) (fun r s' => match r with
                | .ok _ => ∃ m, m < n ∧ I m s'
                | .error _ => False) s₅) (notedBy (model prog w) A env fun e s' => R (.error e) s') s₄) (notedBy (model prog w) A env fun e s' => R (.error e) s') s₃
            else ∃ m, m < n ∧ I m s₃) (notedBy (model prog w) A env fun e s' => R (.error e) s') s₂) (notedBy (model prog w) A env fun e s' => R (.error e) s') s₁') (notedBy (model prog w) A env fun e s' => R (.error e) s') s₁) (notedBy (model prog w) A env fun e s' => R (.error e) s') s)
    (n : Nat) (h : I n s) :
    codeAny (model prog w) A (.compLoop (.DictComp kx vx [⟨t0, i0, ifs0, 0⟩, ⟨t1, i1, ifs1, 0⟩] scope pos) 0 it (.ref D) env) R s := by
  refine codeAny_loop rfl I (fun n s hI => ?_) n h
  show wpAny _ A ((compTurn (.DictComp kx vx [⟨t0, i0, ifs0, 0⟩, ⟨t1, i1, ifs1, 0⟩] scope pos) 0 it (.ref D) env).onRaise (fun x => do noteFrame x env; theTreesLotGoes x)) _ _ s
  refine wpAny_noted ?_
  rw [turnD_out]
  refine wpAny_bind (wpAny_standAt (wpAny_bind (wpAny_mono (turn n s hI) (fun r s₁ h₁ => ?_) fun _ _ h' => h')))
  cases r with
  | none => exact wpAny_pure h₁
  | some v =>
    refine wpAny_bind (wpAny_mono h₁ (fun _ s₁' h₁' => ?_) fun _ _ h' => h')
    refine wpAny_bind (wpAny_mono h₁' (fun _ s₂ h₂ => wpAny_bind (wpAny_mono h₂ (fun ok s₃ h₃ => ?_) fun _ _ h' => h')) fun _ _ h' => h')
    cases ok with
    | false => exact wpAny_pure ⟨rfl, h₃⟩
    | true =>
      refine wpAny_bind (wpAny_mono h₃ (fun x s₄ h₄ => ?_) fun _ _ h' => h')
      refine wpAny_bind (wpAny_standAt (wpAny_bind (wpAny_of_eq (hs x) (wpAny_bind (wpAny_holding (wpAny_mono h₄ (fun it1 s₅ h₅ => ?_) fun _ _ h' => h'))))))
      refine wpAny_bind (wpAny_runOwn ?_)
      rw [Around.mark_none]
      refine codeAny_mono h₅ fun r s' hr => ?_
      cases r with
      | ok f =>
        first
          | exact wpAny_pure ⟨rfl, hr⟩
          | exact wpAny_bind (wpAny_pure (wpAny_pure ⟨rfl, hr⟩))
      | error e => exact hr.elim
/-- the loop of the second -/
theorem loopD_in (I : Nat → Shared → Prop)
    (turn : ∀ n s, I n s → wpAny (model prog w) A (pyNext it) (fun r s₁ => match r with
      | none => R (.ok .next) s₁
      | some v => wpAny (model prog w) A (letOwnedTupleGo t1 it v) (fun _ s₁' => wpAny (model prog w) A (assign t1 env v) (fun _ s₂ =>
          wpAny (model prog w) A (forIn ifs1 true fun c r => if r = true then do let ok ← isTrue c env (eval c env); pure (ForInStep.yield ok) else pure (ForInStep.yield r)) (fun ok s₃ =>
            if ok = true then wpAny (model prog w) A (eval kx env) (fun kv s₄ => wpAny (model prog w) A (eval vx env) (fun vv s₅ =>
              wpAny (model prog w) A (dictSet D kv vv) (fun _ s₆ => ∃ m, m < n ∧ I m s₆) (notedBy (model prog w) A env fun e s' => R (.error e) s') s₅) (notedBy (model prog w) A env fun e s' => R (.error e) s') s₄) (notedBy (model prog w) A env fun e s' => R (.error e) s') s₃
            else ∃ m, m < n ∧ I m s₃) (notedBy (model prog w) A env fun e s' => R (.error e) s') s₂) (notedBy (model prog w) A env fun e s' => R (.error e) s') s₁') (notedBy (model prog w) A env fun e s' => R (.error e) s') s₁) (notedBy (model prog w) A env fun e s' => R (.error e) s') s)
    (n : Nat) (h : I n s) :
    codeAny (model prog w) A (.compLoop (.DictComp kx vx [⟨t0, i0, ifs0, 0⟩, ⟨t1, i1, ifs1, 0⟩] scope pos) 1 it (.ref D) env) R s := by
  refine codeAny_loop rfl I (fun n s hI => ?_) n h
  show wpAny _ A ((compTurn (.DictComp kx vx [⟨t0, i0, ifs0, 0⟩, ⟨t1, i1, ifs1, 0⟩] scope pos) 1 it (.ref D) env).onRaise (fun x => do noteFrame x env; theTreesLotGoes x)) _ _ s
  refine wpAny_noted ?_
  rw [turnD_in]
  refine wpAny_bind (wpAny_standAt (wpAny_bind (wpAny_mono (turn n s hI) (fun r s₁ h₁ => ?_) fun _ _ h' => h')))
  cases r with
  | none => exact wpAny_pure h₁
  | some v =>
    refine wpAny_bind (wpAny_mono h₁ (fun _ s₁' h₁' => ?_) fun _ _ h' => h')
    refine wpAny_bind (wpAny_mono h₁' (fun _ s₂ h₂ => wpAny_bind (wpAny_mono h₂ (fun ok s₃ h₃ => ?_) fun _ _ h' => h')) fun _ _ h' => h')
    cases ok with
    | false => exact wpAny_pure ⟨rfl, h₃⟩
    | true =>
      exact wpAny_bind (wpAny_bind (wpAny_mono h₃ (fun kv s₄ h₄ => wpAny_bind (wpAny_holding (wpAny_mono h₄ (fun vv s₅ h₅ => wpAny_bind (wpAny_standAt (wpAny_holding (wpAny_mono h₅ (fun _ s₆ h₆ => wpAny_pure ⟨rfl, h₆⟩) fun _ _ h' => h')))) fun _ _ h' => h'))) fun _ _ h' => h'))
/-- the second clause's start -/
theorem startD1 (h0 : codeAny (model prog w) A (.compLoop (.DictComp kx vx [⟨t0, i0, ifs0, 0⟩, ⟨t1, i1, ifs1, 0⟩] scope pos) 1 it (.ref D) env) R s)
    (h : wpAny (model prog w) A (pyIter it) (fun it' s' => codeAny (model prog w) A (.compLoop (.DictComp kx vx [⟨t0, i0, ifs0, 0⟩, ⟨t1, i1, ifs1, 0⟩] scope pos) 1 it' (.ref D) env) R s')
      (notedBy (model prog w) A env fun x s' => R (.error x) s') s) :
    codeAny (model prog w) A (.compStart (.DictComp kx vx [⟨t0, i0, ifs0, 0⟩, ⟨t1, i1, ifs1, 0⟩] scope pos) 1 it (.ref D) env) R s := by
  refine codeAny_of_tree ?_
  show wpAny _ _ ((compStart (.DictComp kx vx [⟨t0, i0, ifs0, 0⟩, ⟨t1, i1, ifs1, 0⟩] scope pos) 1 it (.ref D) env).onRaise (fun x => do noteFrame x env; standAt theWindowsPlace)) _ _ s
  refine wpAny_notedAt ?_
  unfold compStart
  show wpAny _ _ (ask >>= _) _ _ s
  refine wpAny_bind (wpAny_askSetting (wpAny_ite ?_))
  split
  · first
      | exact wpAny_bind (wpAny_pure (wpAny_pure (And.intro rfl h0)))
      | exact wpAny_pure (And.intro rfl h0)
  · first
      | exact wpAny_bind (wpAny_rule (wpAny_bind (wpAny_standAt (wpAny_bind (wpAny_mono h (fun it' s' h' => wpAny_pure (And.intro rfl h')) fun _ _ x => x)))))
      | (refine wpAny_bind (wpAny_rule ?_); show wpAny _ _ (standAt i1.pos >>= _) _ _ s; exact wpAny_bind (wpAny_standAt (wpAny_bind (wpAny_mono h (fun it' s' h' => wpAny_pure (And.intro rfl h')) fun _ _ x => x))))
end


section
variable {X : Cx}
/-- [elt for tg in iter if .. for tg1 in iter1 if ..]: behind the first clause's store and tests the second source's own loop, from which Nx is reached. vs: the block's names; vs1: those of the second target -/
def tDc2 (wi : TI) (g : TG) (tt : TT) (wi1 : TI) (g1 : TG) (tt1 : TT) (tk te : TE) (u0 : HO) (vs vs1 : List Nat) : TE := fun σ H Q => wi σ H fun J H1 => ∀ D, H1 D = none → ∃ W : Nat → Nat → Hp → Prop, (∃ m, W 0 m (upd H1 D u0)) ∧ ∀ i m H, W i m H →
  (J.stop i H ∧ Q (.ref D) H) ∨ (J.go i H ∧ ∃ Nx : Hp → Prop, (∀ H', Nx H' → ∃ m', m' < m ∧ W (i + 1) m' H') ∧ ∀ x H', J.yld i H x H' → g x (wipe σ vs) H' fun σ2 H2 => wipe σ2 vs = wipe σ vs ∧ tt σ2 H2 fun b H3 =>
    if b = true then wi1 σ2 H3 fun J1 H4 => ∃ W1 : Nat → Nat → Hp → Prop, (∃ m, W1 0 m H4) ∧ ∀ j k H, W1 j k H →
      (J1.stop j H ∧ Nx H) ∨ (J1.go j H ∧ ∃ Nx1 : Hp → Prop, (∀ H', Nx1 H' → ∃ k', k' < k ∧ W1 (j + 1) k' H') ∧ ∀ x H', J1.yld j H x H' → g1 x (wipe σ2 vs1) H' fun σ3 H5 => wipe σ3 vs1 = wipe σ2 vs1 ∧ tt1 σ3 H5 fun b H6 =>
        if b = true then tk σ3 H6 fun y H7 => te σ3 H7 fun z H8 => ∃ H9, DPut H8 D y z H9 ∧ Nx1 H9 else Nx1 H6)
    else Nx H3)
theorem dc2_core {pins : List (Addr × Obj)} {s : Shared} {σ : L2.St} {H : Hp} {Q : VK} {kx vx tg iter tg1 iter1 : Expr} {ifs ifs1 : List Expr} {scope : Scope} {own : List (Str × Nat)} {vs1 : List Nat} {pos pos' : Pos} {wi wi1 : TI} {g g1 : TG} {tt tt1 : TT} {tk te : TE} {u0 : HO} {use : Option (Value → Sem Unit)} {Qf : Value → Shared → Prop}
    (hc : X.calm = true) (hN : X.N.Nodup) (I : Inv X pins σ H s) (hi : PI X tg iter wi) (ok : BlkOk X.N X.env.scope scope own) (hv : ∀ i ∈ vs1, i ∈ own.map (·.2))
    (hg : ∀ (s : Shared) (H : Hp) (C : Addr) (cl : List (Str × Addr)) (fp : List Addr), PG (X.blk s H scope (compEnvC scope cl C X.env) fp) tg g) (ht : ∀ (s : Shared) (H : Hp) (C : Addr) (cl : List (Str × Addr)) (fp : List Addr), PTs (X.blk s H scope (compEnvC scope cl C X.env) fp) ifs tt)
    (hu0 : u0 = .dK [] ∨ u0 = .dT []) (hu : X.A.units + 1 < cLine) (hk : ∀ (s : Shared) (H : Hp) (C : Addr) (cl : List (Str × Addr)) (fp : List Addr), PE (X.blk s H scope (compEnvC scope cl C X.env) fp) kx tk)
    (he : ∀ (s : Shared) (H : Hp) (C : Addr) (cl : List (Str × Addr)) (fp : List Addr), PE (X.blk s H scope (compEnvC scope cl C X.env) fp) vx te) (hs : ∀ x, foldedSetIterable iter X.env x = pure x)
    (hi1 : ∀ (s : Shared) (H : Hp) (C : Addr) (cl : List (Str × Addr)) (fp : List Addr), PI (X.blk s H scope (compEnvC scope cl C X.env) fp) tg1 iter1 wi1)
    (hg1 : ∀ (s : Shared) (H : Hp) (C : Addr) (cl : List (Str × Addr)) (fp : List Addr), PG (X.blk s H scope (compEnvC scope cl C X.env) fp) tg1 g1)
    (ht1 : ∀ (s : Shared) (H : Hp) (C : Addr) (cl : List (Str × Addr)) (fp : List Addr), PTs (X.blk s H scope (compEnvC scope cl C X.env) fp) ifs1 tt1)
    (hs1 : ∀ env x, foldedSetIterable iter1 env x = pure x)
    (h : tDc2 wi g tt wi1 g1 tt1 tk te u0 (own.map (·.2)) vs1 σ H Q)
    (hRR : ∀ D C s' m H', Inv X pins σ H' s' → Q (.ref D) H' → s'.heap.Ns C m → FpOk X pins H' C → compPost (model X.prog X.w) X.A X.xe use Qf (.ref D) C (.ok .next) s') :
    wpAny (model X.prog X.w) X.A (comprehension (.DictComp kx vx [⟨tg, iter, ifs, 0⟩, ⟨tg1, iter1, ifs1, 0⟩] scope pos) scope X.env pos' newDict false (eval iter X.env) use) Qf X.xe s := by
  have hfree : ∀ y ∈ scope.names, y.2 = .free → ∃ c, X.env.cells.lookup y.1 = some c := fun y hy e => by
    rcases ok.free y hy e with k | k
    · exact I.ok.has _ (.inl k)
    · exact I.ok.has _ (.inr k)
  refine wpAny_comprehension_free (use := use) rfl hs (closure_ok hfree) ok.kind (fun y hy e => by rw [ok.uniq y hy, e])
    (thn (hi.run pins s σ H _ I h) fun xv s1 hx => thn hx fun itv s2 h2 => ?_)
  obtain ⟨it, fp, tn, J, H2, e, I2, T, st2, f2, q⟩ := h2
  subst e
  refine wpAny_newObj_type (newEnv_comp ?_)
  generalize hD : s2.heap.objs.size = D
  have hDn : H2 D = none := I2.hok.fresh (Nat.le_of_eq hD)
  obtain ⟨W, ⟨m0, w0⟩, turn⟩ := q D hDn
  -- the new list
  generalize hs3 : ({ s2 with heap := s2.heap.push { cls := .type "dict", data := .dict #[] } } : Shared) = s3
  have I3 : Inv X pins σ (upd H2 D u0) s3 := by
    rw [← hs3]
    refine I2.laid (t' := s2.toks) (fun b o e => Heap.get?_push_of_some _ e) (Nat.le_of_eq hD) ?_
    rw [← hD]
    rcases hu0 with rfl | rfl
    · exact dk_empty s2.heap I2.big
    · exact dt_empty s2.heap I2.big
  have h3 : s3.heap = s2.heap.push { cls := .type "dict", data := .dict #[] } := by rw [← hs3]
  have sz : ∀ b ∈ fp, b < s2.heap.objs.size := fun b hb => by
    obtain ⟨o, e, _⟩ := T.obj _ _ st2 b hb
    exact Heap.lt_size e
  have f3 : ∀ b ∈ fp, FpOk X pins (upd H2 D u0) b ∧ b < s3.heap.objs.size := fun b hb => by
    have hlt := sz b hb
    refine ⟨⟨?_, (f2 b hb).2⟩, by rw [h3, Heap.size_push]; exact Nat.lt_succ_of_lt hlt⟩
    rw [upd_ne (by rw [← hD]; exact Nat.ne_of_lt hlt)]
    exact (f2 b hb).1
  have st3 : tn 0 s3.heap := T.keep _ _ _ st2 fun b _ o e => by rw [h3]; exact Heap.get?_push_of_some _ e
  have I4 := block_start I3 ok hN f3
  have pg := hg s3 (upd H2 D u0) s3.heap.objs.size (cellsFrom (s3.heap.objs.size + 1) scope.names (cloFrom X.env.cells scope.names [])) fp
  have pt := ht s3 (upd H2 D u0) s3.heap.objs.size (cellsFrom (s3.heap.objs.size + 1) scope.names (cloFrom X.env.cells scope.names [])) fp
  have pk := hk s3 (upd H2 D u0) s3.heap.objs.size (cellsFrom (s3.heap.objs.size + 1) scope.names (cloFrom X.env.cells scope.names [])) fp
  have pe := he s3 (upd H2 D u0) s3.heap.objs.size (cellsFrom (s3.heap.objs.size + 1) scope.names (cloFrom X.env.cells scope.names [])) fp
  have pi1 := hi1 s3 (upd H2 D u0) s3.heap.objs.size (cellsFrom (s3.heap.objs.size + 1) scope.names (cloFrom X.env.cells scope.names [])) fp
  have pg1 := hg1 s3 (upd H2 D u0) s3.heap.objs.size (cellsFrom (s3.heap.objs.size + 1) scope.names (cloFrom X.env.cells scope.names [])) fp
  have pt1 := ht1 s3 (upd H2 D u0) s3.heap.objs.size (cellsFrom (s3.heap.objs.size + 1) scope.names (cloFrom X.env.cells scope.names [])) fp
  show codeAny _ _ (.compStart (.DictComp kx vx [⟨tg, iter, ifs, 0⟩, ⟨tg1, iter1, ifs1, 0⟩] scope pos) 0 (.ref it) (.ref D) (compEnvC scope (cellsFrom (s3.heap.objs.size + 1) scope.names (cloFrom X.env.cells scope.names [])) s3.heap.objs.size X.env)) (compPost (model X.prog X.w) X.A X.xe use Qf (.ref D) s3.heap.objs.size) { s3 with heap := pushCells (s3.heap.push { cls := .type "dict", data := .dict #[] }) scope.names }
  have nfp : ∀ b ∈ fp, (upd H2 D u0) b = none := fun b hb => (f3 b hb).1.1
  generalize hce : compEnvC scope (cellsFrom (s3.heap.objs.size + 1) scope.names (cloFrom X.env.cells scope.names [])) s3.heap.objs.size X.env = ce at I4 pg pt pk pe pi1 pg1 pt1 ⊢
  have cL : ce.locals = s3.heap.objs.size := by subst hce; rfl
  generalize hH3 : upd H2 D u0 = H3 at I3 I4 pg pt pk pe pi1 pg1 pt1 w0 nfp f3
  generalize hs4 : ({ s3 with heap := pushCells (s3.heap.push { cls := .type "dict", data := .dict #[] }) scope.names } : Shared) = s4 at I4 ⊢
  have st4 : tn 0 s4.heap := T.keep _ _ _ st3 fun b _ o e => by rw [← hs4]; exact pushCells_keeps _ _ _ _ (Heap.get?_push_of_some _ e)
  have stat : ∀ {σ' : L2.St} {H' : Hp} {s' : Shared}, Inv (X.blk s3 H3 scope ce fp) [] σ' H' s' → (∀ b ∈ fp, H' b = none) → ∀ b ∈ fp, FpOk (X.blk s3 H3 scope ce fp) [] H' b := fun {σ' H' s'} I' hn b hb =>
    ⟨hn b hb, (I'.ok.exf b hb).1, I'.ok.exfs b hb, .inl hb, fun x c e => (I'.ok.exf b hb).2 x c e, fun p hp => absurd (show p ∈ ([] : List (Addr × Obj)) ++ [] from hp) (by simp)⟩
  have loop : codeAny (model X.prog X.w) X.A (.compLoop (.DictComp kx vx [⟨tg, iter, ifs, 0⟩, ⟨tg1, iter1, ifs1, 0⟩] scope pos) 0 (.ref it) (.ref D) ce) (compPost (model X.prog X.w) X.A X.xe use Qf (.ref D) s3.heap.objs.size) s4 := by
    refine loopD_out (hs1 ce) (fun n s' => ∃ i H', Inv (X.blk s3 H3 scope ce fp) [] (wipe σ (own.map (·.2))) H' s' ∧ tn i s'.heap ∧ (∀ b ∈ fp, H' b = none) ∧ W i n H') ?_ m0 ⟨0, H3, I4, st4, nfp, w0⟩
    rintro n s5 ⟨i, H5, I5, st5, n5, w5⟩
    rcases turn i n H5 w5 with ⟨stop, qq⟩ | ⟨go, Nx, hNx, step⟩
    · have td := T.done (X.blk s3 H3 scope ce fp) rfl rfl rfl hc i [] s5 _ H5 (fun _ _ => False) I5 (stat I5 n5) st5 stop
      refine thnF td fun r s6 ⟨hr, I6⟩ => ?_
      subst hr
      -- back in the def's context
      have I7 : Inv X pins σ H5 s6 := I3.call' (ch := fp) I6.os I6.base I6.hok I6.bare fun b hb => ⟨(f3 b hb).1.2.2.2.1, (f3 b hb).1.2.1, (f3 b hb).1.2.2.2.2.1, (f3 b hb).1.2.2.2.2.2⟩
      have nC : H5 s3.heap.objs.size = none := by
        have z : H5 ce.locals = none := I6.free
        rw [cL] at z
        exact z
      obtain ⟨m, hn, _⟩ := I6.loc
      have hn : s6.heap.Ns ce.locals m := hn
      rw [cL] at hn
      exact hRR D s3.heap.objs.size s6 m H5 I7 qq hn (I3.fpOk (Nat.le_refl _) nC)
    · have ti := T.item (X.blk s3 H3 scope ce fp) rfl rfl rfl hc i [] s5 _ H5 (fun _ _ => False) I5 (stat I5 n5) st5 go
      refine thnF ti fun r s6 ⟨u, hr, h6⟩ => ?_
      subst hr
      refine thnF h6 fun _ s7 ⟨x, H7, I7, r7, y7, st7, n7⟩ => ?_
      have I7' := I7.pinned (stat I7 n7) (T.obj _ _ st7)
      refine thnF (pg.run _ s7 _ H7 x u _ I7' r7 (step x H7 y7)) fun _ s8 ⟨σ8, H8, I8, hw8, q8⟩ => ?_
      refine thnF (pt.run _ s8 σ8 H8 _ I8 q8) fun b s9 ⟨H9, I9, q9⟩ => ?_
      -- the turn's end, from any slots that know what the block knew at its start
      have fin : ∀ {σ9 : L2.St} {s' : Shared} {H' : Hp}, Inv (X.blk s3 H3 scope ce fp) ([] ++ pinsAt fp s7.heap) σ9 H' s' → (wipe σ (own.map (·.2))).length = σ9.length → (∀ (j : Nat) v, (wipe σ (own.map (·.2)))[j]? = some (some v) → σ9[j]? = some (some v)) → Nx H' →
          ∃ m, m < n ∧ ∃ i H', Inv (X.blk s3 H3 scope ce fp) [] (wipe σ (own.map (·.2))) H' s' ∧ tn i s'.heap ∧ (∀ b ∈ fp, H' b = none) ∧ W i m H' := fun {σ9 s' H'} I' hl hk nx => by
        obtain ⟨m', hm, w'⟩ := hNx H' nx
        have pin' : ∀ b ∈ fp, ∀ o, s7.heap.get? b = some o → s'.heap.get? b = some o ∧ H' b = none := fun b hb o e =>
          let z := I'.pin (b, o) (List.mem_append_right _ (List.mem_append_right _ (mem_pinsAt hb e)))
          ⟨z.1, z.2.1⟩
        refine ⟨m', hm, i + 1, H', (I'.unpinned (pins := [])).weak hl hk, T.keep _ _ _ st7 fun b hb o e => (pin' b hb o e).1, fun b hb => ?_, w'⟩
        obtain ⟨o, e, _⟩ := T.obj _ _ st7 b hb
        exact (pin' b hb o e).2
      have hl8 : (wipe σ (own.map (·.2))).length = σ8.length := by rw [← hw8, wipe_length]
      have hk8 : ∀ (j : Nat) v, (wipe σ (own.map (·.2)))[j]? = some (some v) → σ8[j]? = some (some v) := fun j v e => by
        rw [← hw8] at e
        exact (wipe_some e).1
      have hk9 : ∀ (j : Nat) v, (wipe σ (own.map (·.2)))[j]? = some (some v) → (wipe σ8 vs1)[j]? = some (some v) := fun j v e => by
        rw [← hw8] at e
        obtain ⟨e1, e2⟩ := wipe_some e
        rw [wipe_out fun z => e2 (hv j z)]
        exact e1
      cases b with
      | false =>
        simp only [Bool.false_eq_true, if_false] at q9 ⊢
        exact fin I9 hl8 hk8 q9
      | true =>
        simp only [if_true] at q9 ⊢
        refine thnF (pi1.run _ s9 σ8 H9 _ I9 q9) fun xv s10 hx => thnF hx fun itv s11 h11 => ?_
        obtain ⟨it1, fp1, tn1, J1, H11, e1, I11, T1, st11, f11, W1, ⟨m1, w1⟩, turn1⟩ := h11
        subst e1
        -- the inner loop
        have stat1 : ∀ {H' : Hp}, (∀ b ∈ fp1, H' b = none) → ∀ b ∈ fp1, FpOk (X.blk s3 H3 scope ce fp) ([] ++ pinsAt fp s7.heap) H' b := fun hn b hb => ⟨hn b hb, (f11 b hb).2⟩
        have loop1 : codeAny (model X.prog X.w) X.A (.compLoop (.DictComp kx vx [⟨tg, iter, ifs, 0⟩, ⟨tg1, iter1, ifs1, 0⟩] scope pos) 1 (.ref it1) (.ref D) ce)
            (fun r s' => match r with
              | .ok _ => ∃ m, m < n ∧ ∃ i H', Inv (X.blk s3 H3 scope ce fp) [] (wipe σ (own.map (·.2))) H' s' ∧ tn i s'.heap ∧ (∀ b ∈ fp, H' b = none) ∧ W i m H'
              | .error _ => False) s11 := by
          refine loopD_in (fun k s' => ∃ j H', Inv (X.blk s3 H3 scope ce fp) ([] ++ pinsAt fp s7.heap) (wipe σ8 vs1) H' s' ∧ tn1 j s'.heap ∧ (∀ b ∈ fp1, H' b = none) ∧ W1 j k H') ?_ m1 ⟨0, H11, I11.weak (wipe_length _ _) (fun j v e => (wipe_some e).1), st11, fun b hb => (f11 b hb).1, w1⟩
          rintro k s12 ⟨j, H12, I12, st12, n12, w12⟩
          rcases turn1 j k H12 w12 with ⟨stop1, nx1⟩ | ⟨go1, Nx1, hNx1, step1⟩
          · refine thnF (T1.done (X.blk s3 H3 scope ce fp) rfl rfl rfl hc j _ s12 (wipe σ8 vs1) H12 (fun _ _ => False) I12 (stat1 n12) st12 stop1) fun r s13 ⟨hr, I13⟩ => ?_
            subst hr
            exact fin I13 (hl8.trans (wipe_length σ8 vs1).symm) hk9 nx1
          · refine thnF (T1.item (X.blk s3 H3 scope ce fp) rfl rfl rfl hc j _ s12 (wipe σ8 vs1) H12 (fun _ _ => False) I12 (stat1 n12) st12 go1) fun r s13 ⟨u1, hr, h13⟩ => ?_
            subst hr
            refine thnF h13 fun _ s14 ⟨x1, H14, I14, r14, y14, st14, n14⟩ => ?_
            have I14' := I14.pinned (stat1 n14) (T1.obj _ _ st14)
            refine thnF (pg1.run _ s14 (wipe σ8 vs1) H14 x1 u1 _ I14' r14 (step1 x1 H14 y14)) fun _ s15 ⟨σ15, H15, I15, hw15, q15⟩ => ?_
            refine thnF (pt1.run _ s15 σ15 H15 _ I15 q15) fun b1 s16 ⟨H16, I16, q16⟩ => ?_
            have fin1 : ∀ {s' : Shared} {H' : Hp}, Inv (X.blk s3 H3 scope ce fp) (([] ++ pinsAt fp s7.heap) ++ pinsAt fp1 s14.heap) σ15 H' s' → Nx1 H' → ∃ m, m < k ∧ ∃ j H', Inv (X.blk s3 H3 scope ce fp) ([] ++ pinsAt fp s7.heap) (wipe σ8 vs1) H' s' ∧ tn1 j s'.heap ∧ (∀ b ∈ fp1, H' b = none) ∧ W1 j m H' := fun {s' H'} I' nx => by
              obtain ⟨m', hm, w'⟩ := hNx1 H' nx
              have pin' : ∀ b ∈ fp1, ∀ o, s14.heap.get? b = some o → s'.heap.get? b = some o ∧ H' b = none := fun b hb o e =>
                let z := I'.pin (b, o) (List.mem_append_right _ (List.mem_append_right _ (mem_pinsAt hb e)))
                ⟨z.1, z.2.1⟩
              refine ⟨m', hm, j + 1, H', I'.unpinned.weak (by rw [← hw15, wipe_length]) (fun j v e => by rw [← hw15] at e; exact (wipe_some e).1), T1.keep _ _ _ st14 fun b hb o e => (pin' b hb o e).1, fun b hb => ?_, w'⟩
              obtain ⟨o, e, _⟩ := T1.obj _ _ st14 b hb
              exact (pin' b hb o e).2
            cases b1 with
            | false =>
              simp only [Bool.false_eq_true, if_false] at q16 ⊢
              exact fin1 I16 q16
            | true =>
              simp only [if_true] at q16 ⊢
              refine thnF (pk.run _ s16 σ15 H16 _ I16 q16) fun z s17 ⟨yk, H17, I17, r17, q17⟩ => ?_
              refine thnF (pe.run _ s17 σ15 H17 _ I17 q17) fun z2 s18 ⟨yv, H18, I18, r18, H19, dp, nx⟩ => ?_
              exact d_dictSetX (X := X.blk s3 H3 scope ce fp) hu I18 dp r17 r18 fun s19 I19 => fin1 I19 nx
        exact startD1 loop1 (T1.self X.A 0 _ _ _ st11 loop1)
  exact codeAny_compStart_dict loop (T.self X.A 0 _ _ _ st4 loop)

end
end TL
set_option Elab.async false
set_option linter.all false
set_option maxRecDepth 100000
set_option maxHeartbeats 4000000
set_option autoImplicit false
/-! T12: dict comprehensions of one clause, of any keys, stored too; the rules over trees. -/
namespace TL
open PySem
open PySem.Spec
open PyProof.Rows
open L2
section
variable {X : Cx}
/-- {k: v for target in iter if ..}, keys ints or texts: D the new dict -/
def tDcX (wi : TI) (g : TG) (tt : TT) (tk tv : TE) (u0 : HO) (vs : List Nat) : TE := fun σ H Q => wi σ H fun J H1 => ∀ D, H1 D = none → ∃ W : Nat → Nat → Hp → Prop, (∃ m, W 0 m (upd H1 D u0)) ∧ ∀ i m H, W i m H →
  (J.stop i H ∧ Q (.ref D) H) ∨ (J.go i H ∧ ∃ Nx : Hp → Prop, (∀ H', Nx H' → ∃ m', m' < m ∧ W (i + 1) m' H') ∧ ∀ x H', J.yld i H x H' → g x (wipe σ vs) H' fun σ2 H2 => wipe σ2 vs = wipe σ vs ∧ tt σ2 H2 fun b H3 =>
    if b = true then tk σ2 H3 fun y H4 => tv σ2 H4 fun z H5 => ∃ H6, DPut H5 D y z H6 ∧ Nx H6 else Nx H3)
theorem dcX_core {pins : List (Addr × Obj)} {s : Shared} {σ : L2.St} {H : Hp} {Q : VK} {kx vx tg iter : Expr} {ifs : List Expr} {scope : Scope} {own : List (Str × Nat)} {pos pos' : Pos} {wi : TI} {g : TG} {tt : TT} {tk tv : TE} {u0 : HO} {use : Option (Value → Sem Unit)} {Qf : Value → Shared → Prop}
    (hc : X.calm = true) (hN : X.N.Nodup) (I : Inv X pins σ H s) (hi : PI X tg iter wi) (ok : BlkOk X.N X.env.scope scope own)
    (hg : ∀ (s : Shared) (H : Hp) (C : Addr) (cl : List (Str × Addr)) (fp : List Addr), PG (X.blk s H scope (compEnvC scope cl C X.env) fp) tg g) (ht : ∀ (s : Shared) (H : Hp) (C : Addr) (cl : List (Str × Addr)) (fp : List Addr), PTs (X.blk s H scope (compEnvC scope cl C X.env) fp) ifs tt)
    (hk : ∀ (s : Shared) (H : Hp) (C : Addr) (cl : List (Str × Addr)) (fp : List Addr), PE (X.blk s H scope (compEnvC scope cl C X.env) fp) kx tk)
    (he : ∀ (s : Shared) (H : Hp) (C : Addr) (cl : List (Str × Addr)) (fp : List Addr), PE (X.blk s H scope (compEnvC scope cl C X.env) fp) vx tv) (hs : ∀ x, foldedSetIterable iter X.env x = pure x) (hu0 : u0 = .dK [] ∨ u0 = .dT []) (hu : X.A.units + 1 < cLine)
    (h : tDcX wi g tt tk tv u0 (own.map (·.2)) σ H Q)
    (hRR : ∀ D C s' m H', Inv X pins σ H' s' → Q (.ref D) H' → s'.heap.Ns C m → FpOk X pins H' C → compPost (model X.prog X.w) X.A X.xe use Qf (.ref D) C (.ok .next) s') :
    wpAny (model X.prog X.w) X.A (comprehension (.DictComp kx vx [⟨tg, iter, ifs, 0⟩] scope pos) scope X.env pos' newDict false (eval iter X.env) use) Qf X.xe s := by
  have hfree : ∀ y ∈ scope.names, y.2 = .free → ∃ c, X.env.cells.lookup y.1 = some c := fun y hy e => by
    rcases ok.free y hy e with k | k
    · exact I.ok.has _ (.inl k)
    · exact I.ok.has _ (.inr k)
  refine wpAny_comprehension_free (use := use) rfl hs (closure_ok hfree) ok.kind (fun y hy e => by rw [ok.uniq y hy, e])
    (thn (hi.run pins s σ H _ I h) fun xv s1 hx => thn hx fun itv s2 h2 => ?_)
  obtain ⟨it, fp, tn, J, H2, e, I2, T, st2, f2, q⟩ := h2
  subst e
  refine wpAny_newObj_type (newEnv_comp ?_)
  generalize hD : s2.heap.objs.size = D
  have hDn : H2 D = none := I2.hok.fresh (Nat.le_of_eq hD)
  obtain ⟨W, ⟨m0, w0⟩, turn⟩ := q D hDn
  -- the new list
  generalize hs3 : ({ s2 with heap := s2.heap.push { cls := .type "dict", data := .dict #[] } } : Shared) = s3
  have I3 : Inv X pins σ (upd H2 D u0) s3 := by
    rw [← hs3]
    refine I2.laid (t' := s2.toks) (fun b o e => Heap.get?_push_of_some _ e) (Nat.le_of_eq hD) ?_
    rw [← hD]
    rcases hu0 with rfl | rfl
    · exact dk_empty s2.heap I2.big
    · exact dt_empty s2.heap I2.big
  have h3 : s3.heap = s2.heap.push { cls := .type "dict", data := .dict #[] } := by rw [← hs3]
  have sz : ∀ b ∈ fp, b < s2.heap.objs.size := fun b hb => by
    obtain ⟨o, e, _⟩ := T.obj _ _ st2 b hb
    exact Heap.lt_size e
  have f3 : ∀ b ∈ fp, FpOk X pins (upd H2 D u0) b ∧ b < s3.heap.objs.size := fun b hb => by
    have hlt := sz b hb
    refine ⟨⟨?_, (f2 b hb).2⟩, by rw [h3, Heap.size_push]; exact Nat.lt_succ_of_lt hlt⟩
    rw [upd_ne (by rw [← hD]; exact Nat.ne_of_lt hlt)]
    exact (f2 b hb).1
  have st3 : tn 0 s3.heap := T.keep _ _ _ st2 fun b _ o e => by rw [h3]; exact Heap.get?_push_of_some _ e
  have I4 := block_start I3 ok hN f3
  have pg := hg s3 (upd H2 D u0) s3.heap.objs.size (cellsFrom (s3.heap.objs.size + 1) scope.names (cloFrom X.env.cells scope.names [])) fp
  have pt := ht s3 (upd H2 D u0) s3.heap.objs.size (cellsFrom (s3.heap.objs.size + 1) scope.names (cloFrom X.env.cells scope.names [])) fp
  have pk := hk s3 (upd H2 D u0) s3.heap.objs.size (cellsFrom (s3.heap.objs.size + 1) scope.names (cloFrom X.env.cells scope.names [])) fp
  have pe := he s3 (upd H2 D u0) s3.heap.objs.size (cellsFrom (s3.heap.objs.size + 1) scope.names (cloFrom X.env.cells scope.names [])) fp
  show codeAny _ _ (.compStart (.DictComp kx vx [⟨tg, iter, ifs, 0⟩] scope pos) 0 (.ref it) (.ref D) (compEnvC scope (cellsFrom (s3.heap.objs.size + 1) scope.names (cloFrom X.env.cells scope.names [])) s3.heap.objs.size X.env)) (compPost (model X.prog X.w) X.A X.xe use Qf (.ref D) s3.heap.objs.size) { s3 with heap := pushCells (s3.heap.push { cls := .type "dict", data := .dict #[] }) scope.names }
  have nfp : ∀ b ∈ fp, (upd H2 D u0) b = none := fun b hb => (f3 b hb).1.1
  generalize hce : compEnvC scope (cellsFrom (s3.heap.objs.size + 1) scope.names (cloFrom X.env.cells scope.names [])) s3.heap.objs.size X.env = ce at I4 pg pt pk pe ⊢
  have cL : ce.locals = s3.heap.objs.size := by subst hce; rfl
  generalize hH3 : upd H2 D u0 = H3 at I3 I4 pg pt pk pe w0 nfp f3
  generalize hs4 : ({ s3 with heap := pushCells (s3.heap.push { cls := .type "dict", data := .dict #[] }) scope.names } : Shared) = s4 at I4 ⊢
  have st4 : tn 0 s4.heap := T.keep _ _ _ st3 fun b _ o e => by rw [← hs4]; exact pushCells_keeps _ _ _ _ (Heap.get?_push_of_some _ e)
  have stat : ∀ {σ' : L2.St} {H' : Hp} {s' : Shared}, Inv (X.blk s3 H3 scope ce fp) [] σ' H' s' → (∀ b ∈ fp, H' b = none) → ∀ b ∈ fp, FpOk (X.blk s3 H3 scope ce fp) [] H' b := fun {σ' H' s'} I' hn b hb =>
    ⟨hn b hb, (I'.ok.exf b hb).1, I'.ok.exfs b hb, .inl hb, fun x c e => (I'.ok.exf b hb).2 x c e, fun p hp => absurd (show p ∈ ([] : List (Addr × Obj)) ++ [] from hp) (by simp)⟩
  have loop : codeAny (model X.prog X.w) X.A (.compLoop (.DictComp kx vx [⟨tg, iter, ifs, 0⟩] scope pos) 0 (.ref it) (.ref D) ce) (compPost (model X.prog X.w) X.A X.xe use Qf (.ref D) s3.heap.objs.size) s4 := by
    refine compLoop_anyD (fun n s' => ∃ i H', Inv (X.blk s3 H3 scope ce fp) [] (wipe σ (own.map (·.2))) H' s' ∧ tn i s'.heap ∧ (∀ b ∈ fp, H' b = none) ∧ W i n H') ?_ m0 ⟨0, H3, I4, st4, nfp, w0⟩
    rintro n s5 ⟨i, H5, I5, st5, n5, w5⟩
    rcases turn i n H5 w5 with ⟨stop, qq⟩ | ⟨go, Nx, hNx, step⟩
    · have td := T.done (X.blk s3 H3 scope ce fp) rfl rfl rfl hc i [] s5 _ H5 (fun _ _ => False) I5 (stat I5 n5) st5 stop
      refine thnF td fun r s6 ⟨hr, I6⟩ => ?_
      subst hr
      -- back in the def's context
      have I7 : Inv X pins σ H5 s6 := I3.call' (ch := fp) I6.os I6.base I6.hok I6.bare fun b hb => ⟨(f3 b hb).1.2.2.2.1, (f3 b hb).1.2.1, (f3 b hb).1.2.2.2.2.1, (f3 b hb).1.2.2.2.2.2⟩
      have nC : H5 s3.heap.objs.size = none := by
        have z : H5 ce.locals = none := I6.free
        rw [cL] at z
        exact z
      obtain ⟨m, hn, _⟩ := I6.loc
      have hn : s6.heap.Ns ce.locals m := hn
      rw [cL] at hn
      exact hRR D s3.heap.objs.size s6 m H5 I7 qq hn (I3.fpOk (Nat.le_refl _) nC)
    · have ti := T.item (X.blk s3 H3 scope ce fp) rfl rfl rfl hc i [] s5 _ H5 (fun _ _ => False) I5 (stat I5 n5) st5 go
      refine thnF ti fun r s6 ⟨u, hr, h6⟩ => ?_
      subst hr
      refine thnF h6 fun _ s7 ⟨x, H7, I7, r7, y7, st7, n7⟩ => ?_
      have I7' := I7.pinned (stat I7 n7) (T.obj _ _ st7)
      refine thnF (pg.run _ s7 _ H7 x u _ I7' r7 (step x H7 y7)) fun _ s8 ⟨σ8, H8, I8, hw8, q8⟩ => ?_
      refine thnF (pt.run _ s8 σ8 H8 _ I8 q8) fun b s9 ⟨H9, I9, q9⟩ => ?_
      -- the turn's end
      have fin : ∀ {s' : Shared} {H' : Hp}, Inv (X.blk s3 H3 scope ce fp) ([] ++ pinsAt fp s7.heap) σ8 H' s' → Nx H' → ∃ m, m < n ∧ ∃ i H', Inv (X.blk s3 H3 scope ce fp) [] (wipe σ (own.map (·.2))) H' s' ∧ tn i s'.heap ∧ (∀ b ∈ fp, H' b = none) ∧ W i m H' := fun {s' H'} I' nx => by
        obtain ⟨m', hm, w'⟩ := hNx H' nx
        have pin' : ∀ b ∈ fp, ∀ o, s7.heap.get? b = some o → s'.heap.get? b = some o ∧ H' b = none := fun b hb o e =>
          let z := I'.pin (b, o) (List.mem_append_right _ (List.mem_append_right _ (mem_pinsAt hb e)))
          ⟨z.1, z.2.1⟩
        have hl : (wipe σ (own.map (·.2))).length = σ8.length := by rw [← hw8, wipe_length]
        refine ⟨m', hm, i + 1, H', (I'.unpinned (pins := [])).weak hl (fun j v e => ?_), T.keep _ _ _ st7 fun b hb o e => (pin' b hb o e).1, fun b hb => ?_, w'⟩
        · rw [← hw8] at e
          exact (wipe_some e).1
        · obtain ⟨o, e, _⟩ := T.obj _ _ st7 b hb
          exact (pin' b hb o e).2
      cases b with
      | false =>
        simp only [Bool.false_eq_true, if_false] at q9 ⊢
        exact fin I9 q9
      | true =>
        simp only [if_true] at q9 ⊢
        refine thnF (pk.run _ s9 σ8 H9 _ I9 q9) fun z s10 ⟨yk, H10, I10, r10, q10⟩ => ?_
        refine thnF (pe.run _ s10 σ8 H10 _ I10 q10) fun z2 s11 ⟨yv, H11, I11, r11, H12, dp, nx⟩ => ?_
        exact d_dictSetX (X := X.blk s3 H3 scope ce fp) hu I11 dp r10 r11 fun s12 I12 => fin I12 nx
  exact codeAny_compStart_dict loop (T.self X.A 0 _ _ _ st4 loop)

end
end TL
set_option Elab.async false
set_option linter.all false
set_option maxRecDepth 100000
set_option maxHeartbeats 4000000
set_option autoImplicit false
/-! T13: dict comprehensions, comprehensions of two clauses, over trees. -/
namespace TL
open PySem
open PySem.Spec
open PyProof.Rows
open L2

/-! ### as a value, and stored on one line -/
section
variable {X : Cx} {i : Nat} {y : Str} {py : Pos} {elt kx vx tg iter tg1 iter1 : Expr} {ifs ifs1 : List Expr} {scope : Scope} {own : List (Str × Nat)} {vs1 : List Nat} {pos spos : Pos} {wi wi1 : TI} {g g1 : TG} {tt tt1 : TT} {te tk : TE} {u0 : HO}
abbrev Blk (X : Cx) (scope : Scope) (P : Cx → Prop) : Prop := ∀ (s : Shared) (H : Hp) (C : Addr) (cl : List (Str × Addr)) (fp : List Addr), P (X.blk s H scope (compEnvC scope cl C X.env) fp)
theorem use_none {pins : List (Addr × Obj)} {σ : L2.St} {Q : VK} {C D : Addr} {s' : Shared} {m : Str → Option Value} {H' : Hp} (I' : Inv X pins σ H' s') (q : Q (.ref D) H') (hn : s'.heap.Ns C m) (f : FpOk X pins H' C) :
    compPost (model X.prog X.w) X.A X.xe none (EP X pins σ Q) (.ref D) C (.ok .next) s' := by
  obtain ⟨f0, f1, f2, f3, f4, f5⟩ := f
  exact ⟨m, hn, fun h'' sb => ⟨.ref D, H', I'.turned (t' := s'.toks) (fun b o hb e => (sb.2 b hb).trans e) f0 f1 f3 f4 f5, rfl, q⟩⟩
theorem use_set {pins : List (Addr × Obj)} {σ : L2.St} {D : Ends} {C L : Addr} {s' : Shared} {m : Str → Option Value} {H' : Hp} (hN : X.N.Nodup) (hy : X.N[i]? = some y) (hyl : X.env.scope.names.lookup y = some .local) (I' : Inv X pins σ H' s') (q : gName i (.ref L) σ H' D.nx) (hn : s'.heap.Ns C m)
    (f : FpOk X pins H' C) : compPost (model X.prog X.w) X.A X.xe (some (assign (.Name y py) X.env)) (fun _ s' => SP X pins D .next s') (.ref L) C (.ok .next) s' := by
  show wpAny _ _ (assign (.Name y py) X.env (.ref L)) _ _ _
  refine wpAny_assign_Name (store_ok2 (v := V.ref L) I' hN hy (.inl hyl) rfl (fun s2 I2 ⟨a, sb, ha⟩ => ?_) (.inr hyl))
  obtain ⟨g0, g1, g2, g3, g4, g5⟩ := f
  have ne : C ≠ a := ha.elim (fun z => z ▸ g1) fun z e => g4 y a z e.symm
  exact ⟨m, hn.sameBut sb ne, fun h3 sb3 => ⟨_, H', I2.turned (t' := s2.toks) (fun b o hb e => (sb3.2 b hb).trans e) g0 g1 g3 g4 g5, q⟩⟩
theorem pe_dcX (hc : X.calm = true) (hN : X.N.Nodup) (hi : PI X tg iter wi) (ok : BlkOk X.N X.env.scope scope own) (hg : Blk X scope fun B => PG B tg g) (ht : Blk X scope fun B => PTs B ifs tt) (hk : Blk X scope fun B => PE B kx tk) (he : Blk X scope fun B => PE B vx te)
    (hs : ∀ x, foldedSetIterable iter X.env x = pure x) (hu0 : u0 = .dK [] ∨ u0 = .dT []) (hu : X.A.units + 1 < cLine) : PE X (.DictComp kx vx [⟨tg, iter, ifs, 0⟩] scope pos) (tDcX wi g tt tk te u0 (own.map (·.2))) := by
  refine ⟨fun pins s σ H Q I h => ?_⟩
  rw [arm_eval_DictComp]
  exact dcX_core hc hN I hi ok hg ht hk he hs hu0 hu h fun D C s' m H' I' q hn f => use_none I' q hn f
theorem ps_setDcX (hc : X.calm = true) (hN : X.N.Nodup) (hy : X.N[i]? = some y) (hyl : X.env.scope.names.lookup y = some .local) (hsw : swapsWith (.DictComp kx vx [⟨tg, iter, ifs, 0⟩] scope pos) (some (.Name y py)) spos.line X.env = pure true)
    (hi : PI X tg iter wi) (ok : BlkOk X.N X.env.scope scope own) (hg : Blk X scope fun B => PG B tg g) (ht : Blk X scope fun B => PTs B ifs tt) (hk : Blk X scope fun B => PE B kx tk) (he : Blk X scope fun B => PE B vx te)
    (hs : ∀ x, foldedSetIterable iter X.env x = pure x) (hu0 : u0 = .dK [] ∨ u0 = .dT []) (hu : X.A.units + 1 < cLine) : PS X (.Assign [.Name y py] (.DictComp kx vx [⟨tg, iter, ifs, 0⟩] scope pos) spos) (tAsg (tDcX wi g tt tk te u0 (own.map (·.2))) (gName i)) := by
  refine ⟨fun pins s σ H D I h => ?_⟩
  rw [exec_Assign_Name_used _ _ _ _ hsw]
  refine wpAny_bind (wpAny_standAt (wpAny_bind ?_))
  show wpAny _ X.A (do let _ ← comprehension (.DictComp kx vx [⟨tg, iter, ifs, 0⟩] scope pos) scope X.env (firstIterPos [⟨tg, iter, ifs, 0⟩] pos) newDict false (eval iter X.env) (some (assign (.Name y py) X.env))) _ _ s
  exact wpAny_bind (thn (dcX_core (Qf := fun _ s' => SP X pins D .next s') (Q := fun x H1 => gName i x σ H1 D.nx) hc hN I hi ok hg ht hk he hs hu0 hu h fun L C s' m H' I' q hn f => use_set hN hy hyl I' q hn f) fun _ s' hq => wpAny_pure (wpAny_pure hq))
theorem pe_dc2 (hc : X.calm = true) (hN : X.N.Nodup) (hi : PI X tg iter wi) (ok : BlkOk X.N X.env.scope scope own) (hv : ∀ i ∈ vs1, i ∈ own.map (·.2)) (hg : Blk X scope fun B => PG B tg g) (ht : Blk X scope fun B => PTs B ifs tt)
    (hi1 : Blk X scope fun B => PI B tg1 iter1 wi1) (hg1 : Blk X scope fun B => PG B tg1 g1) (ht1 : Blk X scope fun B => PTs B ifs1 tt1) (hk : Blk X scope fun B => PE B kx tk) (he : Blk X scope fun B => PE B vx te)
    (hs : ∀ x, foldedSetIterable iter X.env x = pure x) (hs1 : ∀ env x, foldedSetIterable iter1 env x = pure x) (hu0 : u0 = .dK [] ∨ u0 = .dT []) (hu : X.A.units + 1 < cLine) :
    PE X (.DictComp kx vx [⟨tg, iter, ifs, 0⟩, ⟨tg1, iter1, ifs1, 0⟩] scope pos) (tDc2 wi g tt wi1 g1 tt1 tk te u0 (own.map (·.2)) vs1) := by
  refine ⟨fun pins s σ H Q I h => ?_⟩
  rw [arm_eval_DictComp]
  exact dc2_core hc hN I hi ok hv hg ht hu0 hu hk he hs hi1 hg1 ht1 hs1 h fun D C s' m H' I' q hn f => use_none I' q hn f
theorem ps_setDc2 (hc : X.calm = true) (hN : X.N.Nodup) (hy : X.N[i]? = some y) (hyl : X.env.scope.names.lookup y = some .local) (hsw : swapsWith (.DictComp kx vx [⟨tg, iter, ifs, 0⟩, ⟨tg1, iter1, ifs1, 0⟩] scope pos) (some (.Name y py)) spos.line X.env = pure true)
    (hi : PI X tg iter wi) (ok : BlkOk X.N X.env.scope scope own) (hv : ∀ i ∈ vs1, i ∈ own.map (·.2)) (hg : Blk X scope fun B => PG B tg g) (ht : Blk X scope fun B => PTs B ifs tt)
    (hi1 : Blk X scope fun B => PI B tg1 iter1 wi1) (hg1 : Blk X scope fun B => PG B tg1 g1) (ht1 : Blk X scope fun B => PTs B ifs1 tt1) (hk : Blk X scope fun B => PE B kx tk) (he : Blk X scope fun B => PE B vx te)
    (hs : ∀ x, foldedSetIterable iter X.env x = pure x) (hs1 : ∀ env x, foldedSetIterable iter1 env x = pure x) (hu0 : u0 = .dK [] ∨ u0 = .dT []) (hu : X.A.units + 1 < cLine) :
    PS X (.Assign [.Name y py] (.DictComp kx vx [⟨tg, iter, ifs, 0⟩, ⟨tg1, iter1, ifs1, 0⟩] scope pos) spos) (tAsg (tDc2 wi g tt wi1 g1 tt1 tk te u0 (own.map (·.2)) vs1) (gName i)) := by
  refine ⟨fun pins s σ H D I h => ?_⟩
  rw [exec_Assign_Name_used _ _ _ _ hsw]
  refine wpAny_bind (wpAny_standAt (wpAny_bind ?_))
  show wpAny _ X.A (do let _ ← comprehension (.DictComp kx vx [⟨tg, iter, ifs, 0⟩, ⟨tg1, iter1, ifs1, 0⟩] scope pos) scope X.env (firstIterPos [⟨tg, iter, ifs, 0⟩, ⟨tg1, iter1, ifs1, 0⟩] pos) newDict false (eval iter X.env) (some (assign (.Name y py) X.env))) _ _ s
  exact wpAny_bind (thn (dc2_core (Qf := fun _ s' => SP X pins D .next s') (Q := fun x H1 => gName i x σ H1 D.nx) hc hN I hi ok hv hg ht hu0 hu hk he hs hi1 hg1 ht1 hs1 h fun L C s' m H' I' q hn f => use_set hN hy hyl I' q hn f) fun _ s' hq => wpAny_pure (wpAny_pure hq))
end

section
variable {A : CtD} {s : CtS} {e ea eb : Expr} {st : Stmt} {sts : List Stmt} {wa wb w : WE} {pos p1 p2 p3 : Pos} {x y : Str}
/-! ### the dict's reading -/
/-- the empty dict of a kind -/
def u0P : HO → PV
  | .dT _ => .dt []
  | _ => .dk []
theorem u0_top {u0 : HO} (h : u0 = .dK [] ∨ u0 = .dT []) {a : Addr} {H : Hp} : TopR a H u0 (u0P u0) ∧ Thg u0 := by
  rcases h with rfl | rfl
  · exact ⟨.k .nil, trivial⟩
  · exact ⟨.t .nil, trivial⟩
theorem d_put' {a : Addr} {b : Bs} {H : Hp} {c : Addr} {u : HO} {y v : V} {d k p : PV} {R : PV → Prop} (h1 : H c = some u) (rt : TopR a H u d) (ry : Rep a H y k) (rv : Rep a H v p) (h : dPut d k p R) :
    ∃ u' d', DPut H c y v (upd H c u') ∧ TopR a (upd H c u') u' d' ∧ R d' := by
  obtain ⟨u', d', h2, h3, h4⟩ := d_put (b := b) h1 rt ry rv h
  exact ⟨u', d', h2, h3.up (ps_upd h1 rt.mut), h4⟩
theorem dc_read {wi : WI} {vs ix : List Nat} {g : GP} {tt : WT} {wk wv : WE} {σ : L2.St} {H : Hp} {Q : VK} {u0 : HO} (hu0 : u0 = .dK [] ∨ u0 = .dT []) (hix : ∀ i ∈ ix, i ∈ vs) (h : rdF A (wDc wi vs g tt wk wv (u0P u0)) σ H Q) :
    tDcX (rdI A wi) (rdGt A ix g) (rdT A tt) (rdE A wk) (rdE A wv) u0 vs σ H Q := by
  obtain ⟨Hb, S, k, R, d, z, q⟩ := h
  refine ⟨Hb, S, k, _, d, z, fun ps k1 J H1 u1 m1 it ⟨hlen, z⟩ => ?_⟩
  intro D hD
  have d1 := d.expr u1 m1
  have na : D ≠ A.a := fun e => m1.na (e ▸ hD)
  have nb : D ≠ A.b.c := fun e => m1.nb (e ▸ hD)
  have hb : Hb D = none := Up.was d1.up m1 hD
  have dw := d1.wipe vs
  have no : ∀ j, ¬ Own (L2.wipe σ vs) (unS S vs) j D := fun j o => by
    obtain ⟨_, _, h1, _⟩ := dw.at_own o
    rw [hD] at h1; cases h1
  have d0 : Wd A.a A.b Hb (L2.wipe σ vs) (upd H1 D u0) (unS S vs) k1 := dw.expr (Up.new hD) (m1.new hD)
  refine ⟨fun i m H' => m = ps.length - i ∧ i ≤ ps.length ∧ ∃ k' u acc, Wd A.a A.b Hb (L2.wipe σ vs) H' (unS S vs) k' ∧ Up A.a A.b H1 H' ∧ H' D = some u ∧ TopR A.a H' u acc ∧ wCmL g tt (addD wk wv) (unS S vs) (fun acc k => R acc k) (ps.drop i) acc k',
    ⟨_, rfl, Nat.zero_le _, k1, u0, u0P u0, d0, Up.new hD, upd_same, (u0_top hu0).1, z⟩, ?_⟩
  rintro i m H' ⟨rfl, hle, k', u, acc, d', u', hD', ra, z'⟩
  have ps' := u'.ps m1
  by_cases hlt : i < ps.length
  · refine .inr ⟨it.go H' i ps' hlt, fun H2 => ∃ k' u acc, Wd A.a A.b Hb (L2.wipe σ vs) H2 (unS S vs) k' ∧ Up A.a A.b H1 H2 ∧ H2 D = some u ∧ TopR A.a H2 u acc ∧ wCmL g tt (addD wk wv) (unS S vs) (fun acc k => R acc k) (ps.drop (i + 1)) acc k',
      fun H2 ⟨k2, u2, acc2, e1, e2, e3, e4, e6⟩ => ⟨ps.length - (i + 1), by omega, rfl, hlt, k2, u2, acc2, e1, e2, e3, e4, e6⟩, fun v H2 hy => ?_⟩
    obtain ⟨u2, m2, r2⟩ := it.yld H' k' i v H2 ps[i] ps' d'.amb (List.getElem?_eq_getElem hlt) hy
    rw [List.drop_eq_getElem_cons hlt] at z'
    have d2 := d'.expr u2 m2
    refine ⟨Hb, unS S vs, k', ps[i], _, d2, r2, z', fun σ3 S3 d3 ch z3 => ⟨by rw [ch.wp vs hix, wipe_wipe], ?_⟩⟩
    refine ⟨Hb, S3, k', _, d3, z3, fun b k3 b' H3 u3 m3 eb z4 => ?_⟩
    subst eb
    split at z4
    · rename_i hb'
      rw [if_pos hb']
      refine ⟨Hb, S3, k3, _, d3.expr u3 m3, z4, fun y k4 yv H4 u4 m4 ry z5 => ?_⟩
      refine ⟨Hb, S3, k4, _, (d3.expr u3 m3).expr u4 m4, z5, fun p k5 pv H5 u5 m5 rp z6 => ?_⟩
      have u25 := ((u2.trans u3).trans u4).trans u5
      have hD5 := u25.own hD' ra.thg na nb
      have ra5 := ra.up (u25.ps d'.amb)
      obtain ⟨w', dd, dp, rt', z7⟩ := d_put' (b := A.b) hD5 ra5 (ry.up (u5.ps m4)) rp z6
      refine ⟨_, dp, k5, w', dd, (d'.expr u25 m5).side hD5 ra5.thg no hb na nb, (u'.trans u25).set hD, upd_same, rt', z7⟩
    · rename_i hb'
      rw [if_neg hb']
      have u23 := u2.trans u3
      exact ⟨k3, u, acc, d'.expr u23 m3, u'.trans u23, u23.own hD' ra.thg na nb, ra.up (u23.ps d'.amb), z4⟩
  · have e : i = ps.length := by omega
    subst e
    rw [List.drop_length] at z'
    exact .inl ⟨it.stop H' _ ps' (Nat.le_refl _), q _ k' _ H' (u1.trans u') d'.amb (.o (Up.was u1 m1 hD) hD' ra) z'⟩
theorem u1_of {X : Cx} (t : TX A s X) : X.A.units + 1 < cLine := t.u1
theorem sf_dcX {kx vx tg iter : Expr} {ifs : List Expr} {scope : Scope} (u0 : HO) (own : List (Str × Nat)) {ix : List Nat} {wi : WI} {g : GP} {tt : WT} {wk wv : WE} (hu0 : u0 = .dK [] ∨ u0 = .dT []) (hi : SI A s tg iter wi) (hg : SG A (blkS s scope) tg ix g) (ht : STs A (blkS s scope) ifs tt)
    (hk : SE A (blkS s scope) kx wk) (hv : SE A (blkS s scope) vx wv) (ok : bOk s scope own ix = true) (hf : ∀ env x, foldedSetIterable iter env x = pure x := by intro _ _; rfl) : SF A s (.DictComp kx vx [⟨tg, iter, ifs, 0⟩] scope pos) (wDc wi (own.map (·.2)) g tt wk wv (u0P u0)) := by
  refine ⟨fun X t => ?_⟩
  obtain ⟨bk, hix⟩ := bOk.ok ok t
  exact pe_imp (pe_dcX t.calm t.nd (hi.run X t) bk (fun _ _ _ _ _ => hg.run _ (t.blk bk.kind)) (fun _ _ _ _ _ => ht.run _ (t.blk bk.kind)) (fun _ _ _ _ _ => hk.run _ (t.blk bk.kind)) (fun _ _ _ _ _ => hv.run _ (t.blk bk.kind)) (hf X.env) hu0 t.u1) fun σ H Q h => dc_read hu0 hix h
theorem ss_setDcX {i : Nat} {y : Str} {py spos : Pos} {kx vx tg iter : Expr} {ifs : List Expr} {scope : Scope} (u0 : HO) (own : List (Str × Nat)) {ix : List Nat} {wi : WI} {g : GP} {tt : WT} {wk wv : WE} (hu0 : u0 = .dK [] ∨ u0 = .dT []) (hl : nLoc s i y = true) (hw : swB s scope y = true) (hp : (py.line == pos.line) = true)
    (hi : SI A s tg iter wi) (hg : SG A (blkS s scope) tg ix g) (ht : STs A (blkS s scope) ifs tt) (hk : SE A (blkS s scope) kx wk) (hv : SE A (blkS s scope) vx wv) (ok : bOk s scope own ix = true) (hf : ∀ env x, foldedSetIterable iter env x = pure x := by intro _ _; rfl) :
    SS A s (.Assign [.Name y py] (.DictComp kx vx [⟨tg, iter, ifs, 0⟩] scope pos) spos) (wAsgF i (wDc wi (own.map (·.2)) g tt wk wv (u0P u0))) := by
  refine ⟨fun X t => ?_⟩
  obtain ⟨bk, hix⟩ := bOk.ok ok t
  have e1 := nLoc.of hl t
  refine ps_imp (ps_setDcX t.calm t.nd e1.1 e1.2 (swB.yesD hw t hp) (hi.run X t) bk (fun _ _ _ _ _ => hg.run _ (t.blk bk.kind)) (fun _ _ _ _ _ => ht.run _ (t.blk bk.kind)) (fun _ _ _ _ _ => hk.run _ (t.blk bk.kind)) (fun _ _ _ _ _ => hv.run _ (t.blk bk.kind)) (hf X.env) hu0 t.u1) fun D σ H ⟨Hb, S, k, W, d, r, z⟩ => ?_
  refine dc_read hu0 hix ⟨Hb, S, k, _, d, z, fun p k' v H' u m rr z' => ?_⟩
  cases rr with
  | o n hc rr => exact r.nx _ _ _ _ (d.setOwn u m z'.1 n hc rr) z'.2
/-- x = [..] on one line -/
theorem ss_setLc' {i : Nat} {y : Str} {py spos : Pos} {elt tg iter : Expr} {ifs : List Expr} {scope : Scope} (own : List (Str × Nat)) {ix : List Nat} {wi : WI} {g : GP} {tt : WT} {we : WE} (hl : nLoc s i y = true) (hw : swB s scope y = true) (hp : (py.line == pos.line) = true) (hi : SI A s tg iter wi) (hg : SG A (blkS s scope) tg ix g)
    (ht : STs A (blkS s scope) ifs tt) (he : SE A (blkS s scope) elt we) (ok : bOk s scope own ix = true) (hf : ∀ env x, foldedSetIterable iter env x = pure x := by intro _ _; rfl) :
    SS A s (.Assign [.Name y py] (.ListComp elt [⟨tg, iter, ifs, 0⟩] scope pos) spos) (wAsgF i (wLc wi (own.map (·.2)) g tt we)) :=
  ss_setLc own hl hi hg ht he ok (fun X t => swB.yes (tg := tg) (iter := iter) (ifs := ifs) hw t hp) hf

/-! ### two clauses -/
section
variable {β : Type}
def wC2L (g : GP) (tt : WT) (wi1 : WI) (vs1 : List Nat) (g1 : GP) (tt1 : WT) (add : List Slot → Nat → β → (β → Nat → Prop) → Prop) (S0 : List Slot) (Rf : β → Nat → Prop) : List PV → β → Nat → Prop
  | [], acc, k => Rf acc k
  | p :: r, acc, k => g p S0 fun S' => tt S' k fun b k1 => if b = true then wi1 S' k1 fun qs k2 => wCmL g1 tt1 add (unS S' vs1) (fun acc' k3 => wC2L g tt wi1 vs1 g1 tt1 add S0 Rf r acc' k3) qs acc k2
      else wC2L g tt wi1 vs1 g1 tt1 add S0 Rf r acc k1
def wC2 (wi : WI) (vs : List Nat) (g : GP) (tt : WT) (wi1 : WI) (vs1 : List Nat) (g1 : GP) (tt1 : WT) (add : List Slot → Nat → β → (β → Nat → Prop) → Prop) (acc0 : β) (out : β → PV) : WE := fun S k R => wi S k fun ps k' => wC2L g tt wi1 vs1 g1 tt1 add (unS S vs) (fun acc k => R (out acc) k) ps acc0 k'
end
def addB (we : WE) : List Slot → Nat → PV → (PV → Nat → Prop) → Prop := fun S k acc R => we S k fun y k2 => match acc with
  | .lst ap => ap.length < bigN ∧ R (.lst (ap ++ [y])) k2
  | _ => False
def wLc2 (wi : WI) (vs : List Nat) (g : GP) (tt : WT) (wi1 : WI) (vs1 : List Nat) (g1 : GP) (tt1 : WT) (we : WE) : WE := wC2 wi vs g tt wi1 vs1 g1 tt1 (addB we) (PV.lst []) fun d => d
def wDc2 (wi : WI) (vs : List Nat) (g : GP) (tt : WT) (wi1 : WI) (vs1 : List Nat) (g1 : GP) (tt1 : WT) (wk wv : WE) (d0 : PV) : WE := wC2 wi vs g tt wi1 vs1 g1 tt1 (addD wk wv) d0 fun d => d
/-- the turns of two clauses, whatever a turn adds to the thing at D -/
theorem c2_core {wi1 : WI} {vs vs1 ix ix1 : List Nat} {g g1 : GP} {tt tt1 : WT} {add : List Slot → Nat → PV → (PV → Nat → Prop) → Prop} {tadd : L2.St → Hp → (Hp → Prop) → Prop} {σ : L2.St} {Hb : Hp} {S : List Slot} {R : PK} {Q : VK} {u0 : HO} {p0 : PV} {D : Addr} {H1 : Hp} {k1 : Nat} {ps : List PV} {J : It}
    (hix : ∀ i ∈ ix, i ∈ vs) (hix1 : ∀ i ∈ ix1, i ∈ vs1) (d1 : Wd A.a A.b Hb σ H1 S k1) (it : ItR A.a A.b H1 J ps) (hD : H1 D = none) (mu : Thg u0) (r0 : TopR A.a (upd H1 D u0) u0 p0)
    (hadd : ∀ (σ3 : L2.St) (S3 : List Slot) (k3 : Nat) (H3 : Hp) (u : HO) (acc : PV) (R' : PV → Nat → Prop) (N : Hp → Prop), Wd A.a A.b Hb σ3 H3 S3 k3 → H3 D = some u → TopR A.a H3 u acc → add S3 k3 acc R' →
      (∀ H4 k4 u' acc', Up A.a A.b H3 H4 → Amb A.a A.b k4 H4 → H4 D = some u → Thg u → TopR A.a (upd H4 D u') u' acc' → R' acc' k4 → N (upd H4 D u')) → tadd σ3 H3 N)
    (z : wC2L g tt wi1 vs1 g1 tt1 add (unS S vs) (fun acc k => R acc k) ps p0 k1)
    (q : ∀ p k' H' u, Up A.a A.b H1 H' → Amb A.a A.b k' H' → H' D = some u → TopR A.a H' u p → R p k' → Q (.ref D) H') :
    ∃ W : Nat → Nat → Hp → Prop, (∃ m, W 0 m (upd H1 D u0)) ∧ ∀ i m H, W i m H →
      (J.stop i H ∧ Q (.ref D) H) ∨ (J.go i H ∧ ∃ Nx : Hp → Prop, (∀ H', Nx H' → ∃ m', m' < m ∧ W (i + 1) m' H') ∧ ∀ x H', J.yld i H x H' → rdGt A ix g x (L2.wipe σ vs) H' fun σ2 H2 => L2.wipe σ2 vs = L2.wipe σ vs ∧ rdT A tt σ2 H2 fun b H3 =>
        if b = true then rdI A wi1 σ2 H3 fun J1 H4 => ∃ W1 : Nat → Nat → Hp → Prop, (∃ m, W1 0 m H4) ∧ ∀ j k H, W1 j k H →
          (J1.stop j H ∧ Nx H) ∨ (J1.go j H ∧ ∃ Nx1 : Hp → Prop, (∀ H', Nx1 H' → ∃ k', k' < k ∧ W1 (j + 1) k' H') ∧ ∀ x H', J1.yld j H x H' → rdGt A ix1 g1 x (L2.wipe σ2 vs1) H' fun σ3 H5 => L2.wipe σ3 vs1 = L2.wipe σ2 vs1 ∧ rdT A tt1 σ3 H5 fun b H6 =>
            if b = true then tadd σ3 H6 Nx1 else Nx1 H6)
        else Nx H3) := by
  have na : D ≠ A.a := fun e => d1.amb.na (e ▸ hD)
  have nb : D ≠ A.b.c := fun e => d1.amb.nb (e ▸ hD)
  have hb : Hb D = none := Up.was d1.up d1.amb hD
  have dw := d1.wipe vs
  have no : ∀ j, ¬ Own (L2.wipe σ vs) (unS S vs) j D := fun j o => by
    obtain ⟨_, _, h1, _⟩ := dw.at_own o
    rw [hD] at h1; cases h1
  have d0 : Wd A.a A.b Hb (L2.wipe σ vs) (upd H1 D u0) (unS S vs) k1 := dw.expr (Up.new hD) (d1.amb.new hD)
  have upD : ∀ {H2 : Hp} {u : HO}, Up A.a A.b H1 H2 → Up A.a A.b H1 (upd H2 D u) := fun {H2 u} h => h.set hD
  refine ⟨fun i m H' => m = ps.length - i ∧ i ≤ ps.length ∧ ∃ k' u acc, Wd A.a A.b Hb (L2.wipe σ vs) H' (unS S vs) k' ∧ Up A.a A.b H1 H' ∧ H' D = some u ∧ TopR A.a H' u acc ∧ wC2L g tt wi1 vs1 g1 tt1 add (unS S vs) (fun acc k => R acc k) (ps.drop i) acc k',
    ⟨_, rfl, Nat.zero_le _, k1, u0, p0, d0, Up.new hD, upd_same, r0, z⟩, ?_⟩
  rintro i m H' ⟨rfl, hle, k', u, acc, d', u', hD', ra, z'⟩
  have ps' := u'.ps d1.amb
  by_cases hlt : i < ps.length
  · refine .inr ⟨it.go H' i ps' hlt, fun H2 => ∃ k' u acc, Wd A.a A.b Hb (L2.wipe σ vs) H2 (unS S vs) k' ∧ Up A.a A.b H1 H2 ∧ H2 D = some u ∧ TopR A.a H2 u acc ∧ wC2L g tt wi1 vs1 g1 tt1 add (unS S vs) (fun acc k => R acc k) (ps.drop (i + 1)) acc k',
      fun H2 ⟨k2, u2, acc2, e1, e2, e3, e4, e6⟩ => ⟨ps.length - (i + 1), by omega, rfl, hlt, k2, u2, acc2, e1, e2, e3, e4, e6⟩, fun v H2 hy => ?_⟩
    obtain ⟨u2, m2, r2⟩ := it.yld H' k' i v H2 ps[i] ps' d'.amb (List.getElem?_eq_getElem hlt) hy
    rw [List.drop_eq_getElem_cons hlt] at z'
    have d2 := d'.expr u2 m2
    refine ⟨Hb, unS S vs, k', ps[i], _, d2, r2, z', fun σ3 S3 d3 ch z3 => ⟨by rw [ch.wp vs hix, wipe_wipe], ?_⟩⟩
    refine ⟨Hb, S3, k', _, d3, z3, fun b k3 b' H3 u3 m3 eb z4 => ?_⟩
    subst eb
    split at z4
    · rename_i hb'
      rw [if_pos hb']
      refine ⟨Hb, S3, k3, _, d3.expr u3 m3, z4, fun qs k4 J1 H4 u4 m4 it1 z5 => ?_⟩
      have u24 := (u2.trans u3).trans u4
      have d4 := (((d3.expr u3 m3).expr u4 m4).wipe vs1)
      have no1 : ∀ j, ¬ Own (L2.wipe σ3 vs1) (unS S3 vs1) j D := fun j o => no j (ch.ow j D (own_wipe o))
      refine ⟨fun j n H5 => n = qs.length - j ∧ j ≤ qs.length ∧ ∃ k5 u5 acc5, Wd A.a A.b Hb (L2.wipe σ vs) H5 (unS S vs) k5 ∧ Wd A.a A.b Hb (L2.wipe σ3 vs1) H5 (unS S3 vs1) k5 ∧ Up A.a A.b H1 H5 ∧ Ps H4 H5 ∧ H5 D = some u5 ∧ TopR A.a H5 u5 acc5 ∧
          wCmL g1 tt1 add (unS S3 vs1) (fun acc' k3 => wC2L g tt wi1 vs1 g1 tt1 add (unS S vs) (fun acc k => R acc k) (ps.drop (i + 1)) acc' k3) (qs.drop j) acc5 k5,
        ⟨_, rfl, Nat.zero_le _, k4, u, acc, d'.expr u24 m4, d4, u'.trans u24, ⟨fun _ _ _ h => h, fun _ _ h => h⟩, u24.own hD' ra.thg na nb, ra.up (u24.ps d'.amb), z5⟩, ?_⟩
      rintro j n H5 ⟨rfl, hle5, k5, u5, acc5, da, db, up5, ps5, hD5, ra5, z6⟩
      by_cases hlt5 : j < qs.length
      · refine .inr ⟨it1.go H5 j ps5 hlt5, fun H6 => ∃ k5 u5 acc5, Wd A.a A.b Hb (L2.wipe σ vs) H6 (unS S vs) k5 ∧ Wd A.a A.b Hb (L2.wipe σ3 vs1) H6 (unS S3 vs1) k5 ∧ Up A.a A.b H1 H6 ∧ Ps H4 H6 ∧ H6 D = some u5 ∧ TopR A.a H6 u5 acc5 ∧
          wCmL g1 tt1 add (unS S3 vs1) (fun acc' k3 => wC2L g tt wi1 vs1 g1 tt1 add (unS S vs) (fun acc k => R acc k) (ps.drop (i + 1)) acc' k3) (qs.drop (j + 1)) acc5 k5,
          fun H6 ⟨k6, u6, acc6, e1, e2, e3, e4, e5, e6, e7⟩ => ⟨qs.length - (j + 1), by omega, rfl, hlt5, k6, u6, acc6, e1, e2, e3, e4, e5, e6, e7⟩, fun v H6 hy6 => ?_⟩
        obtain ⟨u6, m6, r6⟩ := it1.yld H5 k5 j v H6 qs[j] ps5 da.amb (List.getElem?_eq_getElem hlt5) hy6
        rw [List.drop_eq_getElem_cons hlt5] at z6
        have psu : ∀ {H7 H8 : Hp} {k7 : Nat}, Up A.a A.b H7 H8 → Amb A.a A.b k7 H7 → Ps H4 H7 → Ps H4 H8 := fun uu mm pp => ⟨fun c o x h => (uu.ps mm).frz c o x (pp.frz c o x h), fun c x h => (uu.ps mm).tup c x (pp.tup c x h)⟩
        refine ⟨Hb, unS S3 vs1, k5, qs[j], _, db.expr u6 m6, r6, z6, fun σ7 S7 d7 ch7 z7 => ⟨by rw [ch7.wp vs1 hix1, wipe_wipe], ?_⟩⟩
        refine ⟨Hb, S7, k5, _, d7, z7, fun b7 k7 b7' H7 u7 m7 eb7 z8 => ?_⟩
        subst eb7
        have u57 := u6.trans u7
        split at z8
        · rename_i hb7
          rw [if_pos hb7]
          refine hadd σ7 S7 k7 H7 u5 acc5 _ _ (d7.expr u7 m7) (u57.own hD5 ra5.thg na nb) (ra5.up (u57.ps da.amb)) z8 fun H8 k8 w8 acc8 u8 m8 hD8 mu8 rt8 z9 => ?_
          have u58 := u57.trans u8
          have ps8 := psu u58 da.amb ps5
          refine ⟨k8, w8, acc8, (da.expr u58 m8).side hD8 mu8 no hb na nb, (db.expr u58 m8).side hD8 mu8 no1 hb na nb, upD (up5.trans u58), ⟨fun c o x h => ?_, fun c x h => ?_⟩, upd_same, rt8, z9⟩
          · exact (ps_upd hD8 mu8.mut).frz c o x (ps8.frz c o x h)
          · exact (ps_upd hD8 mu8.mut).tup c x (ps8.tup c x h)
        · rename_i hb7
          rw [if_neg hb7]
          exact ⟨k7, u5, acc5, da.expr u57 m7, db.expr u57 m7, up5.trans u57, psu u57 da.amb ps5, u57.own hD5 ra5.thg na nb, ra5.up (u57.ps da.amb), z8⟩
      · have e : j = qs.length := by omega
        subst e
        rw [List.drop_length] at z6
        exact .inl ⟨it1.stop H5 _ ps5 (Nat.le_refl _), k5, u5, acc5, da, up5, hD5, ra5, z6⟩
    · rename_i hb'
      rw [if_neg hb']
      have u23 := u2.trans u3
      exact ⟨k3, u, acc, d'.expr u23 m3, u'.trans u23, u23.own hD' ra.thg na nb, ra.up (u23.ps d'.amb), z4⟩
  · have e : i = ps.length := by omega
    subst e
    rw [List.drop_length] at z'
    exact .inl ⟨it.stop H' _ ps' (Nat.le_refl _), q _ k' H' u u' d'.amb hD' ra z'⟩
theorem dc2_read {wi wi1 : WI} {vs vs1 ix ix1 : List Nat} {g g1 : GP} {tt tt1 : WT} {wk wv : WE} {σ : L2.St} {H : Hp} {Q : VK} {u0 : HO} (hu0 : u0 = .dK [] ∨ u0 = .dT []) (hix : ∀ i ∈ ix, i ∈ vs) (hix1 : ∀ i ∈ ix1, i ∈ vs1) (h : rdF A (wDc2 wi vs g tt wi1 vs1 g1 tt1 wk wv (u0P u0)) σ H Q) :
    tDc2 (rdI A wi) (rdGt A ix g) (rdT A tt) (rdI A wi1) (rdGt A ix1 g1) (rdT A tt1) (rdE A wk) (rdE A wv) u0 vs vs1 σ H Q := by
  obtain ⟨Hb, S, k, R, d, z, q⟩ := h
  refine ⟨Hb, S, k, _, d, z, fun ps k1 J H1 u1 m1 it z => ?_⟩
  intro D hD
  refine c2_core (tadd := fun σ3 H6 N => rdE A wk σ3 H6 fun y H7 => rdE A wv σ3 H7 fun z H8 => ∃ H9, DPut H8 D y z H9 ∧ N H9) hix hix1 (d.expr u1 m1) it hD (u0_top hu0 (a := A.a) (H := upd H1 D u0)).2 (u0_top hu0).1 (fun σ3 S3 k3 H3 u acc R' N d3 hD3 ra z4 cont => ?_) z
    fun p k' H' u up m hD' ra y => q p k' _ H' (u1.trans up) m (.o (Up.was u1 m1 hD) hD' ra) y
  have na : D ≠ A.a := fun e => m1.na (e ▸ hD)
  have nb : D ≠ A.b.c := fun e => m1.nb (e ▸ hD)
  refine ⟨Hb, S3, k3, _, d3, z4, fun y k4 yv H4 u4 m4 ry z5 => ⟨Hb, S3, k4, _, d3.expr u4 m4, z5, fun p k5 pv H5 u5 m5 rp z6 => ?_⟩⟩
  have u45 := u4.trans u5
  have hD5 := u45.own hD3 ra.thg na nb
  have ra5 := ra.up (u45.ps d3.amb)
  obtain ⟨w', dd, dp, rt', z7⟩ := d_put' (b := A.b) hD5 ra5 (ry.up (u5.ps m4)) rp z6
  exact ⟨_, dp, cont H5 k5 w' dd u45 m5 hD5 ra5.thg rt' z7⟩
theorem lc2_read {wi wi1 : WI} {vs vs1 ix ix1 : List Nat} {g g1 : GP} {tt tt1 : WT} {we : WE} {σ : L2.St} {H : Hp} {Q : VK} (hix : ∀ i ∈ ix, i ∈ vs) (hix1 : ∀ i ∈ ix1, i ∈ vs1) (h : rdF A (wLc2 wi vs g tt wi1 vs1 g1 tt1 we) σ H Q) :
    tLc2 (rdI A wi) (rdGt A ix g) (rdT A tt) (rdI A wi1) (rdGt A ix1 g1) (rdT A tt1) (rdE A we) vs vs1 σ H Q := by
  obtain ⟨Hb, S, k, R, d, z, q⟩ := h
  refine ⟨Hb, S, k, _, d, z, fun ps k1 J H1 u1 m1 it z => ?_⟩
  intro D hD
  refine c2_core (u0 := .lst []) (tadd := fun σ3 H6 N => rdE A we σ3 H6 fun y H7 => ∃ acc, H7 D = some (.lst acc) ∧ acc.length < sizeLine ∧ N (upd H7 D (.lst (acc ++ [y])))) hix hix1 (d.expr u1 m1) it hD trivial (.l .nil) (fun σ3 S3 k3 H3 u acc R' N d3 hD3 ra z4 cont => ?_) z
    fun p k' H' u up m hD' ra y => q p k' _ H' (u1.trans up) m (.o (Up.was u1 m1 hD) hD' ra) y
  have na : D ≠ A.a := fun e => m1.na (e ▸ hD)
  have nb : D ≠ A.b.c := fun e => m1.nb (e ▸ hD)
  refine ⟨Hb, S3, k3, _, d3, z4, fun y k4 yv H4 u4 m4 ry z5 => ?_⟩
  have hD4 := u4.own hD3 ra.thg na nb
  have ra4 := ra.up (u4.ps d3.amb)
  split at z5
  · cases ra4 with
    | @l av ap rr =>
      refine ⟨av, hD4, bigN.lt (by rw [rr.length]; exact z5.1), cont H4 k4 _ _ u4 m4 hD4 trivial (.l ?_) z5.2⟩
      exact (rr.append (.cons ry .nil)).up (ps_upd hD4 trivial)
  · exact z5.elim
/-- the second target's slots are among the block's -/
def b2Ok (own : List (Str × Nat)) (vs1 ix1 : List Nat) : Bool := (vs1.all fun i => (own.map (·.2)).contains i) && ix1.all fun i => vs1.contains i
theorem b2Ok.of {own : List (Str × Nat)} {vs1 ix1 : List Nat} (h : b2Ok own vs1 ix1 = true) : (∀ i ∈ vs1, i ∈ own.map (·.2)) ∧ ∀ i ∈ ix1, i ∈ vs1 := by
  unfold b2Ok at h
  simp only [Bool.and_eq_true, List.all_eq_true] at h
  exact ⟨fun i hi => by simpa using h.1 i hi, fun i hi => by simpa using h.2 i hi⟩
section
variable {i : Nat} {py spos : Pos} {elt kx vx tg iter tg1 iter1 : Expr} {ifs ifs1 : List Expr} {scope : Scope} {ix ix1 : List Nat} {wi wi1 : WI} {g g1 : GP} {tt tt1 : WT} {we wk wv : WE}
theorem sf_lc2 (own : List (Str × Nat)) (vs1 : List Nat) (hi : SI A s tg iter wi) (hg : SG A (blkS s scope) tg ix g) (ht : STs A (blkS s scope) ifs tt) (hi1 : SI A (blkS s scope) tg1 iter1 wi1) (hg1 : SG A (blkS s scope) tg1 ix1 g1) (ht1 : STs A (blkS s scope) ifs1 tt1) (he : SE A (blkS s scope) elt we)
    (ok : bOk s scope own ix = true) (ok2 : b2Ok own vs1 ix1 = true) (hf : ∀ env x, foldedSetIterable iter env x = pure x := by intro _ _; rfl) (hf1 : ∀ env x, foldedSetIterable iter1 env x = pure x := by intro _ _; rfl) :
    SF A s (.ListComp elt [⟨tg, iter, ifs, 0⟩, ⟨tg1, iter1, ifs1, 0⟩] scope pos) (wLc2 wi (own.map (·.2)) g tt wi1 vs1 g1 tt1 we) := by
  refine ⟨fun X t => ?_⟩
  obtain ⟨bk, hix⟩ := bOk.ok ok t
  obtain ⟨o1, o2⟩ := b2Ok.of ok2
  exact pe_imp (pe_lc2 t.calm t.nd (hi.run X t) bk o1 (fun _ _ _ _ _ => hg.run _ (t.blk bk.kind)) (fun _ _ _ _ _ => ht.run _ (t.blk bk.kind)) (fun _ _ _ _ _ => hi1.run _ (t.blk bk.kind)) (fun _ _ _ _ _ => hg1.run _ (t.blk bk.kind)) (fun _ _ _ _ _ => ht1.run _ (t.blk bk.kind)) (fun _ _ _ _ _ => he.run _ (t.blk bk.kind)) (hf X.env) hf1)
    fun σ H Q h => lc2_read hix o2 h
theorem ss_setLc2 (own : List (Str × Nat)) (vs1 : List Nat) (hl : nLoc s i y = true) (hw : swB s scope y = true) (hp : (py.line == pos.line) = true) (hi : SI A s tg iter wi) (hg : SG A (blkS s scope) tg ix g) (ht : STs A (blkS s scope) ifs tt) (hi1 : SI A (blkS s scope) tg1 iter1 wi1) (hg1 : SG A (blkS s scope) tg1 ix1 g1)
    (ht1 : STs A (blkS s scope) ifs1 tt1) (he : SE A (blkS s scope) elt we) (ok : bOk s scope own ix = true) (ok2 : b2Ok own vs1 ix1 = true) (hf : ∀ env x, foldedSetIterable iter env x = pure x := by intro _ _; rfl) (hf1 : ∀ env x, foldedSetIterable iter1 env x = pure x := by intro _ _; rfl) :
    SS A s (.Assign [.Name y py] (.ListComp elt [⟨tg, iter, ifs, 0⟩, ⟨tg1, iter1, ifs1, 0⟩] scope pos) spos) (wAsgF i (wLc2 wi (own.map (·.2)) g tt wi1 vs1 g1 tt1 we)) := by
  refine ⟨fun X t => ?_⟩
  obtain ⟨bk, hix⟩ := bOk.ok ok t
  obtain ⟨o1, o2⟩ := b2Ok.of ok2
  have e1 := nLoc.of hl t
  refine ps_imp (ps_setLc2 t.calm t.nd e1.1 e1.2 (swB.yes (tg := tg) (iter := iter) (ifs := ifs) hw t hp) (hi.run X t) bk o1 (fun _ _ _ _ _ => hg.run _ (t.blk bk.kind)) (fun _ _ _ _ _ => ht.run _ (t.blk bk.kind)) (fun _ _ _ _ _ => hi1.run _ (t.blk bk.kind)) (fun _ _ _ _ _ => hg1.run _ (t.blk bk.kind)) (fun _ _ _ _ _ => ht1.run _ (t.blk bk.kind))
    (fun _ _ _ _ _ => he.run _ (t.blk bk.kind)) (hf X.env) hf1) fun D σ H ⟨Hb, S, k, W, d, r, z⟩ => ?_
  refine lc2_read hix o2 ⟨Hb, S, k, _, d, z, fun p k' v H' u m rr z' => ?_⟩
  cases rr with
  | o n hc rr => exact r.nx _ _ _ _ (d.setOwn u m z'.1 n hc rr) z'.2
theorem sf_dc2 (u0 : HO) (own : List (Str × Nat)) (vs1 : List Nat) (hu0 : u0 = .dK [] ∨ u0 = .dT []) (hi : SI A s tg iter wi) (hg : SG A (blkS s scope) tg ix g) (ht : STs A (blkS s scope) ifs tt) (hi1 : SI A (blkS s scope) tg1 iter1 wi1) (hg1 : SG A (blkS s scope) tg1 ix1 g1) (ht1 : STs A (blkS s scope) ifs1 tt1)
    (hk : SE A (blkS s scope) kx wk) (hv : SE A (blkS s scope) vx wv) (ok : bOk s scope own ix = true) (ok2 : b2Ok own vs1 ix1 = true) (hf : ∀ env x, foldedSetIterable iter env x = pure x := by intro _ _; rfl) (hf1 : ∀ env x, foldedSetIterable iter1 env x = pure x := by intro _ _; rfl) :
    SF A s (.DictComp kx vx [⟨tg, iter, ifs, 0⟩, ⟨tg1, iter1, ifs1, 0⟩] scope pos) (wDc2 wi (own.map (·.2)) g tt wi1 vs1 g1 tt1 wk wv (u0P u0)) := by
  refine ⟨fun X t => ?_⟩
  obtain ⟨bk, hix⟩ := bOk.ok ok t
  obtain ⟨o1, o2⟩ := b2Ok.of ok2
  exact pe_imp (pe_dc2 t.calm t.nd (hi.run X t) bk o1 (fun _ _ _ _ _ => hg.run _ (t.blk bk.kind)) (fun _ _ _ _ _ => ht.run _ (t.blk bk.kind)) (fun _ _ _ _ _ => hi1.run _ (t.blk bk.kind)) (fun _ _ _ _ _ => hg1.run _ (t.blk bk.kind)) (fun _ _ _ _ _ => ht1.run _ (t.blk bk.kind)) (fun _ _ _ _ _ => hk.run _ (t.blk bk.kind)) (fun _ _ _ _ _ => hv.run _ (t.blk bk.kind)) (hf X.env) hf1 hu0 t.u1)
    fun σ H Q h => dc2_read hu0 hix o2 h
theorem ss_setDc2 (u0 : HO) (own : List (Str × Nat)) (vs1 : List Nat) (hu0 : u0 = .dK [] ∨ u0 = .dT []) (hl : nLoc s i y = true) (hw : swB s scope y = true) (hp : (py.line == pos.line) = true) (hi : SI A s tg iter wi) (hg : SG A (blkS s scope) tg ix g) (ht : STs A (blkS s scope) ifs tt) (hi1 : SI A (blkS s scope) tg1 iter1 wi1)
    (hg1 : SG A (blkS s scope) tg1 ix1 g1) (ht1 : STs A (blkS s scope) ifs1 tt1) (hk : SE A (blkS s scope) kx wk) (hv : SE A (blkS s scope) vx wv) (ok : bOk s scope own ix = true) (ok2 : b2Ok own vs1 ix1 = true) (hf : ∀ env x, foldedSetIterable iter env x = pure x := by intro _ _; rfl) (hf1 : ∀ env x, foldedSetIterable iter1 env x = pure x := by intro _ _; rfl) :
    SS A s (.Assign [.Name y py] (.DictComp kx vx [⟨tg, iter, ifs, 0⟩, ⟨tg1, iter1, ifs1, 0⟩] scope pos) spos) (wAsgF i (wDc2 wi (own.map (·.2)) g tt wi1 vs1 g1 tt1 wk wv (u0P u0))) := by
  refine ⟨fun X t => ?_⟩
  obtain ⟨bk, hix⟩ := bOk.ok ok t
  obtain ⟨o1, o2⟩ := b2Ok.of ok2
  have e1 := nLoc.of hl t
  refine ps_imp (ps_setDc2 t.calm t.nd e1.1 e1.2 (swB.yesD hw t hp) (hi.run X t) bk o1 (fun _ _ _ _ _ => hg.run _ (t.blk bk.kind)) (fun _ _ _ _ _ => ht.run _ (t.blk bk.kind)) (fun _ _ _ _ _ => hi1.run _ (t.blk bk.kind)) (fun _ _ _ _ _ => hg1.run _ (t.blk bk.kind)) (fun _ _ _ _ _ => ht1.run _ (t.blk bk.kind)) (fun _ _ _ _ _ => hk.run _ (t.blk bk.kind))
    (fun _ _ _ _ _ => hv.run _ (t.blk bk.kind)) (hf X.env) hf1 hu0 t.u1) fun D σ H ⟨Hb, S, k, W, d, r, z⟩ => ?_
  refine dc2_read hu0 hix o2 ⟨Hb, S, k, _, d, z, fun p k' v H' u m rr z' => ?_⟩
  cases rr with
  | o n hc rr => exact r.nx _ _ _ _ (d.setOwn u m z'.1 n hc rr) z'.2
end
end
end TL
set_option Elab.async false
set_option linter.all false
set_option maxRecDepth 100000
set_option autoImplicit false
/-! T14: a def's promise from its body's reading. -/
namespace TL
open PySem
open PySem.Spec
open PyProof.Rows
open L2
section
variable {P : Program} {w : World} {K : PySem.W.Frag} {mg : Str → Option Value} {base : Heap}
/-- a def that may be called wherever k rooms are left -/
def FCall (P : Program) (w : World) (K : PySem.W.Frag) (mg : Str → Option Value) (base : Heap) (k : Nat) (e : Str × Nat × TSp) : Prop := ∃ (f : Addr) (fd : FuncData) (ps : List Str) (j : Nat), mg e.1 = some (.ref f) ∧ PySem.W.keepIn K (.ref f) = true ∧
  Binds K fd ps [] ∧ ps.length = e.2.1 ∧ j ≤ k ∧ ∀ a b, FnOk P w K mg base CX0 j f fd ps (spT a b e.2.1 e.2.2)
theorem FCall.mono {k k' : Nat} {e : Str × Nat × TSp} (h : FCall P w K mg base k e) (hk : k ≤ k') : FCall P w K mg base k' e := by
  obtain ⟨f, fd, ps, j, h1, h2, h3, h4, h5, h6⟩ := h
  exact ⟨f, fd, ps, j, h1, h2, h3, h4, Nat.le_trans h5 hk, h6⟩
def startS (N : Nat) (ps : List PV) : List Slot := ps.map Slot.fz ++ List.replicate (N - ps.length) .un
theorem start_wd {a : Addr} {b : Bs} {H : Hp} {vs : List V} {ps : List PV} {k : Nat} {N : List Str} (r : Reps a H vs ps) (m : Amb a b k H) : Wd a b H (start N vs) H (startS N.length ps) k := by
  have hl := r.length
  have key : ∀ (i : Nat) (t : Slot), (startS N.length ps)[i]? = some t → SlotR a H (start N vs)[i]? t ∧ ∀ p, t ≠ .ow p := by
    intro i t e
    unfold startS at e
    by_cases hi : i < ps.length
    · rw [List.getElem?_append_left (by simpa using hi), List.getElem?_map] at e
      have e1 : ps[i]? = some ps[i] := List.getElem?_eq_getElem hi
      rw [e1] at e; cases e
      obtain ⟨v, e2, rv⟩ := r.get e1
      refine ⟨⟨v, ?_, rv⟩, fun p z => by cases z⟩
      unfold L2.start
      rw [List.getElem?_append_left (by simpa [hl] using hi), List.getElem?_map, e2]; rfl
    · rw [List.getElem?_append_right (by simpa using hi)] at e
      have : t = .un := by
        rw [List.getElem?_replicate] at e
        split at e
        · cases e; rfl
        · cases e
      subst this
      exact ⟨trivial, fun p z => by cases z⟩
  refine ⟨?_, fun i t e => (key i t e).1, fun i c o => ?_, Up.refl, m⟩
  · unfold startS L2.start
    simp [hl]
  · obtain ⟨_, p, e⟩ := o
    exact absurd rfl ((key i _ e).2 p)
theorem fn_t {x qual : Str} {st : Stmt} {f : Addr} {fd : FuncData} {N ps : List Str} {n k : Nat} {τ : TSp} {wf : WS} {fns : List (Str × Nat × TSp)} {bl : List Str} (F : Fun K x qual st f fd) (S : FnScope N ps (defScope st)) (hn : ps.length = n) (hk : 6 ≤ k)
    (d : ∀ a b, SSs { a := a, b := b, fns := fns, bl := bl } ⟨N, defScope st, fun _ => true⟩ (defBody st) wf) (hbl : ∀ x ∈ bl, mg x = none) (hf : ∀ e ∈ fns, FCall P w K mg base k e)
    (h : ∀ (ps : List PV) (k : Nat) (R : PK), ps.length = n → τ ps k R → wf { nx := fun _ k => R .non k, rt := R } (startS N.length ps) k) (a : Addr) (b : Bs) : FnOk P w K mg base CX0 (k + 1) f fd ps (spT a b n τ) := by
  refine F.ok S (fun vs H Q E hh => hh.1.trans hn.symm) (fun cdv A0 outer s H vs Q E hr hh => ?_)
  obtain ⟨hl, qs, k0, R, rr, m, ht, cont⟩ := hh
  refine ⟨_, (d a b).run _ ⟨rfl, S.nd, rfl, S.kind, rfl, fun _ _ => rfl, rfl, hr.mono hk, hbl, fun e he => ?_, fun P q z => by cases z⟩, ?_⟩
  · obtain ⟨f', fd', ps', j, h1, h2, h3, h4, h5, h6⟩ := hf e he
    exact ⟨f', fd', ps', j, h1, h2, h3, h4, h6 a b, hr.mono h5⟩
  · refine ⟨H, startS N.length qs, k0, { nx := fun _ k => R .non k, rt := R }, start_wd rr m, ⟨fun σ H' S' k' d' z => cont .non k' .non H' d'.up d'.amb .non z, fun p k' v H' u m' r z => cont p k' v H' u m' r z, fun _ _ _ _ _ z => z.elim, fun _ _ _ _ _ z => z.elim⟩, h qs k0 R (rr.length.symm.trans hl) ht⟩
/-- .. as one that may be called -/
theorem fcall {x : Str} {st : Stmt} {f : Addr} {fd : FuncData} {N ps : List Str} {n k : Nat} {τ : TSp} {wf : WS} {fns : List (Str × Nat × TSp)} {bl : List Str} (hm : mg x = some (.ref f)) (F : Fun K x x st f fd) (hb : Binds K fd ps []) (S : FnScope N ps (defScope st)) (hn : ps.length = n) (hk : 6 ≤ k)
    (d : ∀ a b, SSs { a := a, b := b, fns := fns, bl := bl } ⟨N, defScope st, fun _ => true⟩ (defBody st) wf) (hbl : ∀ x ∈ bl, mg x = none) (hf : ∀ e ∈ fns, FCall P w K mg base k e)
    (h : ∀ (ps : List PV) (k : Nat) (R : PK), ps.length = n → τ ps k R → wf { nx := fun _ k => R .non k, rt := R } (startS N.length ps) k) : FCall P w K mg base (k + 1) (x, n, τ) :=
  ⟨f, fd, ps, k + 1, hm, F.kp, hb, hn, Nat.le_refl _, fun a b => fn_t F S hn hk d hbl hf h a b⟩
end
end TL
set_option Elab.async false
set_option linter.all false
set_option maxRecDepth 100000
set_option autoImplicit false
/-! T15: isinstance, items, sorted. -/
namespace TL
open PySem
open PySem.Spec
open PyProof.Rows
open L2
section
variable {A : CtD} {s : CtS} {e ea eb : Expr} {es : List Expr} {wa wb w : WE} {pos p1 p2 p3 p4 : Pos} {x y : Str}
/-! ### isinstance -/
def tyN : PV → Option String
  | .non => some "NoneType"
  | .bl _ => some "bool"
  | .int _ => some "int"
  | .str _ => some "str"
  | .lst _ => some "list"
  | .tup _ => some "tuple"
  | .dk _ => some "dict"
  | .dt _ => none
  | .stm => none
def isI (a b : String) : Bool := a == b || (a == "bool" && b == "int")
theorem isI_kit : ∀ a ∈ ["NoneType", "bool", "int", "str", "list", "tuple", "dict"], ∀ b ∈ ["bool", "int", "str", "list", "tuple", "dict"], kitB a b = some (isI a b) := by decide +kernel
theorem tyN_mem {p : PV} {a : String} (h : tyN p = some a) : a ∈ ["NoneType", "bool", "int", "str", "list", "tuple", "dict"] := by
  cases p <;> simp only [tyN] at h <;> cases h <;> simp
theorem RepO.tyx {a : Addr} {b : Bs} {H : Hp} {v : V} {p : PV} {n : String} (K : PySem.W.Frag) (r : RepO a b H v p) (h : tyN p = some n) : TyX K H v (.type n) := by
  cases r with
  | r r =>
    cases r with
    | non => cases h; exact .base .non
    | bl b => cases h; exact .base (.bl b)
    | int b => cases h; exact .base (.int b)
    | str b => cases h; exact .base (.str b)
    | stm => cases h
    | tup e _ => cases h; exact .base (.tup e)
    | frz e t =>
      cases t with
      | l _ => cases h; exact .base (.frz e)
      | k _ => cases h; exact .fDict e
      | t _ => cases h
  | o e _ _ t =>
    cases t with
    | l _ => cases h; exact .base (.lst e)
    | k _ => cases h; exact .base (.dK e)
    | t _ => cases h
def vIsi (T : String) (p : PV) (R : PV → Prop) : Prop := match tyN p with
  | some a => R (.bl (isI a T))
  | none => False
theorem se_isi {T : String} {tn : Str} (ha : SO A s e wa) (hT : (["bool", "int", "str", "list", "tuple", "dict"].contains T) = true) (hv : bootBuiltins tn = some (.type T)) (hg : glB s "isinstance" = true) (hb : A.bl.contains "isinstance" = true) (hgT : glB s tn = true) (hbT : A.bl.contains tn = true)
    (h1 : ∀ env, starEach [e, .Name tn p2] env = (false, eval e env) :: starEach [.Name tn p2] env := by intro _; rfl) (h2 : ∀ env, (backTo pos (starEach [.Name tn p2] env)).any (·.1) = false := by intro _; rfl) (h3 : ∀ env, starEach [.Name tn p2] env = (false, eval (.Name tn p2) env) :: starEach [] env := by intro _; rfl) :
    SE A s (.Call (.Name "isinstance" p1) [e, .Name tn p2] [] pos) (w1 wa (vIsi T)) := by
  refine s1_x (r := fun X v H Q => rIsi X.K [v, .ty T] H Q) (fun X t H k v p R Q m rx h hQ => ?_) ha fun X t pa => ?_
  · unfold vIsi at h
    split at h
    · rename_i a hy
      refine ⟨v, .ty T, .type a, .type T, isI a T, rfl, .ty T, rx.tyx X.K hy, kit_ty (isI_kit a (tyN_mem hy) T (by simpa using hT)), .inl (hQ _ _ _ Up.refl m (.bl _) h)⟩
    · exact h.elim
  · obtain ⟨g1, g2, g3⟩ := glB.gl hg t
    obtain ⟨g4, g5, g6⟩ := glB.gl hgT t
    exact pe_callB call_isi g1 (blt t hb) PyProof.Rows.boot_isinstance (pa_cons pa (pa_cons (pe_bltn g4 (blt t hbT) hv (show RelV (.ty T) (.type T) from rfl) g6 g5) pa_nil (h3 X.env)) (h1 X.env)) g3 g2 (h1 X.env) (h2 X.env)
/-- names of types as expressions -/
structure STy (A : CtD) (s : CtS) (es : List Expr) (Ts : List String) : Prop where
  run : ∀ X, TX A s X → ∃ t, PA X es t ∧ ∀ σ H Q, Q (Ts.map V.ty) H → t σ H Q
theorem sty_nil : STy A s [] [] := ⟨fun X t => ⟨_, pa_nil, fun σ H Q q => q⟩⟩
theorem sty_cons {T : String} {Ts : List String} {tn : Str} (hr : STy A s es Ts) (hv : bootBuiltins tn = some (.type T)) (hgT : glB s tn = true) (hbT : A.bl.contains tn = true) (h1 : ∀ env, starEach (.Name tn p2 :: es) env = (false, eval (.Name tn p2) env) :: starEach es env := by intro _; rfl) :
    STy A s (.Name tn p2 :: es) (T :: Ts) := by
  refine ⟨fun X t => ?_⟩
  obtain ⟨u, h, q⟩ := hr.run X t
  obtain ⟨g4, g5, g6⟩ := glB.gl hgT t
  exact ⟨_, pa_cons (pe_bltn g4 (blt t hbT) hv (show RelV (.ty T) (.type T) from rfl) g6 g5) h (h1 X.env), fun σ H Q q' => q σ H _ q'⟩
def vIsiT (Ts : List String) (p : PV) (R : PV → Prop) : Prop := match tyN p with
  | some a => R (.bl (Ts.any (isI a)))
  | none => False
theorem kit_any {K : PySem.W.Frag} {a : String} (ha : a ∈ ["NoneType", "bool", "int", "str", "list", "tuple", "dict"]) : ∀ Ts : List String, (Ts.all fun T => ["bool", "int", "str", "list", "tuple", "dict"].contains T) = true → PySem.W.kitAny K (.type a) (Ts.map Value.type) = some (Ts.any (isI a))
  | [], _ => rfl
  | T :: r, h => by
    simp only [List.all_cons, Bool.and_eq_true] at h
    have h1 := isI_kit a ha T (by simpa using h.1)
    refine kitAny_cons (kit_ty h1) (fun z => ?_) fun z => by simp [z]
    rw [kit_any ha r h.2, List.any_cons, z, Bool.false_or]
theorem paired_ty : ∀ Ts : List String, Paired ClsV (Ts.map V.ty) (Ts.map Value.type)
  | [] => .nil
  | T :: r => .cons (.ty T) (paired_ty r)
theorem se_isiT {Ts : List String} {j : Nat} (ha : SO A s e wa) (hts : STy A s es Ts) (hT : (Ts.all fun T => ["bool", "int", "str", "list", "tuple", "dict"].contains T) = true) (hl : decide (Ts.length ≤ 1000) = true) (hg : glB s "isinstance" = true) (hb : A.bl.contains "isinstance" = true)
    (h1 : ∀ env, starEach [e, .Tuple es j p2] env = (false, eval e env) :: starEach [.Tuple es j p2] env := by intro _; rfl) (h2 : ∀ env, (backTo pos (starEach [.Tuple es j p2] env)).any (·.1) = false := by intro _; rfl) (h3 : ∀ env, starEach [.Tuple es j p2] env = (false, eval (.Tuple es j p2) env) :: starEach [] env := by intro _; rfl) :
    SE A s (.Call (.Name "isinstance" p1) [e, .Tuple es j p2] [] pos) (w1 wa (vIsiT Ts)) := by
  refine s1_x (r := fun X v H Q => ∀ T, H T = none → rIsiT X.K [v, .ref T] (upd H T (.tup (Ts.map V.ty))) Q) (fun X t H k v p R Q m rx h hQ => ?_) ha fun X t pa => ?_
  · unfold vIsiT at h
    split at h
    · rename_i a hy
      intro T hT0
      exact ⟨v, T, Ts.map V.ty, .type a, Ts.map Value.type, Ts.any (isI a), rfl, upd_same, paired_ty Ts, (rx.up m (Up.new hT0)).tyx X.K hy, kit_any (tyN_mem hy) Ts hT, .inl (hQ _ _ _ (Up.new hT0) (m.new hT0) (.bl _) h)⟩
    · exact h.elim
  · obtain ⟨g1, g2, g3⟩ := glB.gl hg t
    obtain ⟨u, hu, q⟩ := hts.run X t
    refine pe_imp (pe_callB call_isiT g1 (blt t hb) PyProof.Rows.boot_isinstance (pa_cons pa (pa_cons (pe_tup hu) pa_nil (h3 X.env)) (h1 X.env)) g3 g2 (h1 X.env) (h2 X.env)) fun σ H Q ⟨Hb, S, k, R, W, x, z⟩ => ⟨Hb, S, k, R, W, x, fun p k' v H' u' m r y => ?_⟩
    refine q σ H' _ ⟨by rw [List.length_map]; exact le1000 (by simpa using hl), fun T hT0 => ?_⟩
    exact z p k' v H' u' m r y T hT0

/-! ### items -/
def wIItems (w : WE) : WI := fun S k R => w S k fun p k' => match p with
  | .dk kvs => R (kvs.map fun kp => PV.tup [pk kp.1, kp.2]) k'
  | _ => False
theorem si_items {elts : List Expr} {kk : Nat} {tp : Pos} (h : SE A s e w) (hbase : ∀ env, attributeBase e "items" env (eval e env) = eval e env := by intro _; rfl) (hline : (p1.endLine == pos.line) = true := by rfl) :
    SI A s (.Tuple elts kk tp) (.Call (.Attribute e "items" p1) [] [] pos) (wIItems w) := by
  refine ⟨fun X t => pi_imp (pi_items (h.run X t) (hbase X.env) hline) fun σ H R ⟨Hb, S, k, Rp, d, x, q⟩ => ⟨Hb, S, k, _, d, x, fun p k' v H' u m r y => ?_⟩⟩
  split at y
  · obtain ⟨c, o, vs, rfl, hc, rr⟩ := r.dk'
    exact ⟨c, o, vs, rfl, hc, q _ k' _ H' u m (itr_items hc rr) y⟩
  · exact y.elim
end
/-- the pairs of a dict whose keys are tuples, each a new tuple -/
def ItiT (d : Addr) (o : Obj) (kvs : List (List Key × V)) : It :=
  ⟨fun i H => H d = some (.frz o (.dT kvs)) ∧ i < kvs.length, fun i H x H' => ∃ T k v q, kvs[i]? = some (k, v) ∧ x = .ref T ∧ H T = none ∧ H q = some (.tup (k.map kV)) ∧ H' = upd H T (.tup [.ref q, v]), fun i H => H d = some (.frz o (.dT kvs)) ∧ kvs.length ≤ i⟩
theorem frzT2 {X : Cx} {pins : List (Addr × Obj)} {σ : L2.St} {H : Hp} {s : Shared} {d : Addr} {o : Obj} {kvs : List (List Key × V)} (I : Inv X pins σ H s) (h : H d = some (.frz o (.dT kvs))) :
    ∃ (es : Array DictEntry) (ep : Nat), o.data = .dict es ep ∧ es.size = kvs.length ∧ s.heap.DictRaw d es ep ∧ (d == sysModules) = false ∧
      ∀ (i : Nat) (k : List Key) (v : V), kvs[i]? = some (k, v) → ∃ (en : DictEntry) (q : Addr), es[i]? = some en ∧ en.key = .ref q ∧ H q = some (.tup (k.map kV)) ∧ RelV v en.val := by
  obtain ⟨hd, z, hs, xs, pr, o', es, ep, ho, hx, hdt, he, _⟩ := I.hok d _ h
  rw [hd] at ho
  cases ho
  refine ⟨es, ep, hdt, ?_, ⟨o, hd, hx, hdt⟩, hs, fun i k v e => ?_⟩
  · have l1 : es.size = xs.length := size_of_entries he
    have l2 : kvs.length = xs.length := Paired.length pr
    omega
  · obtain ⟨b, hb, e1, e2, e3⟩ := L2.paired_get pr e
    have q := entry_at he i
    rw [hb] at q
    exact ⟨_, b.2.1, q, rfl, e2, e3⟩
theorem turn_itemsT {P : Program} {w : World} {K : PySem.W.Frag} {d : Addr} {o : Obj} {es : Array DictEntry} {ep : Nat} {kvs : List (List Key × V)} {elts : List Expr} {kk : Nat} {tpos : Pos} (it : Addr) (hod : o.data = .dict es ep) :
    Turn P w K (.Tuple elts kk tpos) (ItiT d o kvs) [it] it (fun i h => ∃ ok ov, IsItemIter h it d i es.size ep ok ov) where
  mem := by simp
  obj := fun i h st b hb => by
    obtain rfl : b = it := by simpa using hb
    obtain ⟨ok, ov, e⟩ := st
    exact ⟨_, e, fun v z => nomatch z⟩
  keep := fun i h h' st k => let ⟨ok, ov, e⟩ := st; ⟨ok, ov, k it (by simp) _ e⟩
  item := by
    intro X hP hw hK hc i pins s σ H E I hf st hg
    subst hP hw hK
    obtain ⟨hd, hi⟩ := hg
    obtain ⟨es', ep', hdt, hsz, hm, hs, ent⟩ := frzT2 I hd
    obtain ⟨rfl, rfl⟩ := dict_ep hod hdt
    obtain ⟨⟨k, v⟩, hkv⟩ : ∃ p, kvs[i]? = some p := ⟨kvs[i], List.getElem?_eq_getElem hi⟩
    obtain ⟨en, q, hen, hkey, hq, rv⟩ := ent i k v hkv
    obtain ⟨hlt0, hen⟩ := Array.getElem?_eq_some_iff.mp hen
    subst hen
    obtain ⟨ok, ov, he⟩ := st
    have hlt : it < s.heap.objs.size := Heap.lt_size he
    refine wpAny_pyNext_items_item_raw he hm hlt0 fun h' ho hT hz hk => ?_
    refine ⟨_, rfl, wpAny_letOwnedTupleGo_items (s := { s with heap := h' }) ho fun h'' he' sb => ?_⟩
    have hT2 : h''.get? s.heap.objs.size = some { cls := .type "tuple", data := .seq #[es'[i].key, es'[i].val] } := (sb.2 _ (Nat.ne_of_gt hlt)).trans hT
    have new : ObjOk X.prog X.w (upd H s.heap.objs.size (.tup [.ref q, v])) h'' s.heap.objs.size (.tup [.ref q, v]) :=
      ⟨by show 2 ≤ sizeLine; decide, [es'[i].key, es'[i].val], .cons (by rw [hkey]; rfl) (.cons rv .nil), ⟨_, hT2, rfl, _, rfl⟩⟩
    have I1 : Inv X pins σ (upd H s.heap.objs.size (.tup [.ref q, v])) { s with heap := h'' } :=
      I.turnedNew (t' := s.toks) (ch := [it]) (fun b ob hb e => (sb.2 b (by simpa using hb)).trans (hk b ob (by simpa using hb) e)) hf (Nat.le_refl _) new
    refine ⟨.ref s.heap.objs.size, _, I1, rfl, ⟨_, k, v, q, hkv, rfl, I.hok.fresh (Nat.le_refl _), hq, rfl⟩, ⟨_, _, he'⟩, fun b hb => ?_⟩
    obtain rfl : b = it := by simpa using hb
    rw [upd_ne (Nat.ne_of_lt hlt)]
    exact (hf b (by simp)).1
  done := by
    intro X hP hw hK hc i pins s σ H E I hf st hg
    subst hP hw hK
    obtain ⟨hd, hi⟩ := hg
    obtain ⟨f0, f1, f2, f3, f4, f5⟩ := hf it (by simp)
    obtain ⟨es', ep', hdt, hsz, hm, hs, ent⟩ := frzT2 I hd
    obtain ⟨rfl, rfl⟩ := dict_ep hod hdt
    obtain ⟨ok, ov, he⟩ := st
    exact wpAny_pyNext_items_end_raw (I.ok.hd hc) he hm (by omega) fun h' eb => ⟨rfl, I.turned (t' := s.toks) (fun b ob hb e => eb b ob hb e) f0 f1 f3 f4 f5⟩
  self := fun A i s Q E st h => let ⟨_, _, e⟩ := st; PySem.W.kcp_self e h
def iItemsT (td : TE) : TI := fun σ H R => td σ H fun x H1 => ∃ d o kvs, x = .ref d ∧ H1 d = some (.frz o (.dT kvs)) ∧ R (ItiT d o kvs) H1
theorem pi_itemsT {X : Cx} {e : Expr} {td : TE} {apos cpos : Pos} {elts : List Expr} {kk : Nat} {tpos : Pos} (he : PE X e td) (hbase : attributeBase e "items" X.env (eval e X.env) = eval e X.env) (hline : (apos.endLine == cpos.line) = true) :
    PI X (.Tuple elts kk tpos) (.Call (.Attribute e "items" apos) [] [] cpos) (iItemsT td) := by
  refine ⟨fun pins s σ H R I h => ?_⟩
  refine wpAny_Call_method (T := "dict") (id := "dict.items") hbase rfl hline F.plainAttrs_dict F.slot_dict_items F.type_dict_items (thn (he.run pins s σ H _ I h) fun u s1 ⟨x, H1, I1, rx, d, o, kvs, ex, hd, q⟩ => ?_)
  subst ex
  obtain rfl : u = Value.ref d := rx
  obtain ⟨es, ep, hdt, hsz, hm, hs, ent⟩ := frzT2 I1 hd
  have I2 : Inv X pins σ H1 { s1 with heap := s1.heap.push { cls := .type "dict_items", data := .fields #[.ref d] } } := I1.kept (t' := s1.toks) fun b ob q => Heap.get?_push_of_some _ q
  obtain ⟨od, hod, hxd, hdd⟩ := id hm
  refine ⟨hm.typeIs, fun b z => by cases z; exact ⟨od, hod, hxd.2.1⟩, ?_⟩
  have fin : wpAny (model X.prog X.w) X.A (pyIter (.ref s1.heap.objs.size)) (PIE X pins σ (.Tuple elts kk tpos) R) X.xe { s1 with heap := s1.heap.push { cls := .type "dict_items", data := .fields #[.ref d] } } := by
    refine wpAny_pyIter_items_raw (d := d) (es := es) (ep := ep) ⟨_, Heap.get?_push_size _ rfl, rfl, rfl⟩ (hm.at fun ob e => Heap.get?_push_of_some _ e) (pi_one (tk := s1.toks) I2 _ (turn_itemsT _ hdt) ⟨.none, .none, ?_⟩ q)
    exact Heap.get?_push_size _ rfl
  show wpAny _ _ (callWith cpos (.builtin "dict.items") [.ref d] [] []) _ X.xe s1
  exact method_meetsIn F.slot_dict_items F.entry_dict_items rfl (PySem.evalArgs_none ⟨rfl, hm.typeIs, F.args_dict_items_1 _, _, meets_dict_items_raw d hs, ⟨⟨es, ep, hm⟩, fin⟩⟩)
theorem itr_itemsT {a : Addr} {b : Bs} {H0 : Hp} {c : Addr} {o : Obj} {vs : List (List Key × V)} {ps : List (List Key × PV)} (h : H0 c = some (.frz o (.dT vs))) (r : RepT a H0 vs ps) : ItR a b H0 (ItiT c o vs) (ps.map fun kp => PV.tup [.tup (kp.1.map pk), kp.2]) := by
  have hl := r.length
  refine ⟨fun H i u hi => ⟨u.frz _ _ _ h, by simpa [hl] using hi⟩, fun H k i x H' p u m e y => ?_, fun H i u hi => ⟨u.frz _ _ _ h, by simpa [hl] using hi⟩⟩
  obtain ⟨T, kk, v, q, e1, rfl, hT, hq, rfl⟩ := y
  rw [List.getElem?_map] at e
  cases z : ps[i]? with
  | none => rw [z] at e; cases e
  | some kp =>
    rw [z] at e; cases e
    obtain ⟨q1, q2⟩ := (r.up u).at e1 z
    subst q1
    have up : Up a b H (upd H T (.tup [.ref q, v])) := Up.new hT
    exact ⟨up, m.new hT, .tup upd_same (.cons ((Rep.tup hq (reps_keys _)).up (up.ps m)) (.cons (q2.up (up.ps m)) .nil))⟩
section
variable {A : CtD} {s : CtS} {e ea eb : Expr} {es : List Expr} {wa wb w : WE} {pos p1 p2 p3 p4 : Pos} {x y : Str}
def wIItemsT (w : WE) : WI := fun S k R => w S k fun p k' => match p with
  | .dt kvs => R (kvs.map fun kp => PV.tup [.tup (kp.1.map pk), kp.2]) k'
  | _ => False
theorem si_itemsT {elts : List Expr} {kk : Nat} {tp : Pos} (h : SE A s e w) (hbase : ∀ env, attributeBase e "items" env (eval e env) = eval e env := by intro _; rfl) (hline : (p1.endLine == pos.line) = true := by rfl) :
    SI A s (.Tuple elts kk tp) (.Call (.Attribute e "items" p1) [] [] pos) (wIItemsT w) := by
  refine ⟨fun X t => pi_imp (pi_itemsT (h.run X t) (hbase X.env) hline) fun σ H R ⟨Hb, S, k, Rp, d, x, q⟩ => ⟨Hb, S, k, _, d, x, fun p k' v H' u m r y => ?_⟩⟩
  split at y
  · obtain ⟨c, o, vs, rfl, hc, rr⟩ := r.dt'
    exact ⟨c, o, vs, rfl, hc, q _ k' _ H' u m (itr_itemsT hc rr) y⟩
  · exact y.elim

/-! ### sorted -/
def vSort (p : PV) (R : PV → Prop) : Prop := match p with
  | .lst xs => (∃ ns : List Int, xs = ns.map PV.int ∧ ∀ ns' : List Int, ns'.Perm ns → ns'.Pairwise (· ≤ ·) → R (.lst (ns'.map PV.int))) ∨
      ∃ ns : List Str, xs = ns.map PV.str ∧ ns.length < 64 ∧ ∀ ns' : List Str, ns'.Perm ns → sortedS ns' = true → R (.lst (ns'.map PV.str))
  | .dk kvs => ∃ ks : List Str, kvs.map (·.1) = ks.map Sum.inr ∧ ks.length < 64 ∧ ∀ ns' : List Str, ns'.Perm ks → sortedS ns' = true → R (.lst (ns'.map PV.str))
  | _ => False
theorem sf_sorted (ha : SO A s e wa) (hg : glB s "sorted" = true) (hb : A.bl.contains "sorted" = true) (hst : ∀ env, starEach [e] env = [(false, eval e env)] := by intro _; rfl) : SF A s (.Call (.Name "sorted" p1) [e] [] pos) (w1 wa vSort) := by
  refine sf_b1 (r := fun X xs H Q => rSortedI X.K xs H Q ∨ (rSortedS X.K xs H Q ∨ ∃ (a : Addr) (kvs : List (Key × V)) (ks : List Str), xs = [.ref a] ∧ Rd H a (.dK kvs) ∧ kvs.map (·.1) = ks.map Sum.inr ∧ ks.length < 64 ∧
    ∀ ys p, ys.Perm ks → sortedS ys = true → H p = none → Q (.ref p) (upd H p (.lst (ys.map V.str))))) (fun X t => CallR.or cr_sortedI (CallR.or cr_sortedS (call_sortedD t.calm)))
    (fun X t => svf_new fun H k x p R Q m rx h hQ => ?_) (by decide +kernel) ha hg hb hst
  unfold vSort at h
  split at h
  · rcases h with ⟨ns, rfl, h⟩ | ⟨ns, rfl, hl, h⟩
    · obtain ⟨c, vs, rfl, _, sq, r⟩ := rx.lst X.K
      have := r.ints
      subst this
      exact .inl ⟨c, ns, rfl, sq, fun ns' p h1 h2 hp => hQ p _ _ hp (.l (reps_ints ns')) (h ns' h1 h2)⟩
    · obtain ⟨c, vs, rfl, _, sq, r⟩ := rx.lst X.K
      have := r.strs
      subst this
      exact .inr (.inl ⟨c, ns, rfl, sq, hl, fun ns' p h1 h2 hp => hQ p _ _ hp (.l (reps_strs ns')) (h ns' h1 h2)⟩)
  · obtain ⟨ks, h1, hl, h⟩ := h
    obtain ⟨c, vs, rfl, hc, r⟩ := rx.dk
    exact .inr (.inr ⟨c, vs, ks, rfl, hc, by rw [r.x.keys]; exact h1, hl, fun ns' p h2 h3 hp => hQ p _ _ hp (.l (reps_strs ns')) (h ns' h2 h3)⟩)
  · exact h.elim
end
end TL
set_option Elab.async false
set_option linter.all false
set_option maxRecDepth 100000
set_option autoImplicit false
/-! T16: chains, dict displays, values, items as lists. -/
namespace TL
open PySem
open PySem.Spec
open PyProof.Rows
open L2
section
variable {A : CtD} {s : CtS} {e ea eb ec : Expr} {es : List Expr} {wa wb wc w : WE} {pos p1 p2 p3 p4 : Pos} {x y : Str}
def wCh_lt_lt (wa wb wc : WE) : WT := wChain wa wb wc (fun i j => decide (i < j)) fun i j => decide (i < j)
theorem st_ch_lt_lt (ha : SO A s ea wa) (hb : SO A s eb wb) (hc : SO A s ec wc) (h1 : lastMarks [.Lt, .Lt] [eb, ec] = false := by rfl) : ST A s (.Compare ea [.Lt, .Lt] [eb, ec] pos) (wCh_lt_lt wa wb wc) := st_chain (fun X => op_lt) (fun X => op_lt) ha hb hc h1
def wCh_le_lt (wa wb wc : WE) : WT := wChain wa wb wc (fun i j => decide (i ≤ j)) fun i j => decide (i < j)
theorem st_ch_le_lt (ha : SO A s ea wa) (hb : SO A s eb wb) (hc : SO A s ec wc) (h1 : lastMarks [.LtE, .Lt] [eb, ec] = false := by rfl) : ST A s (.Compare ea [.LtE, .Lt] [eb, ec] pos) (wCh_le_lt wa wb wc) := st_chain (fun X => op_le) (fun X => op_lt) ha hb hc h1
def wCh_le_le (wa wb wc : WE) : WT := wChain wa wb wc (fun i j => decide (i ≤ j)) fun i j => decide (i ≤ j)
theorem st_ch_le_le (ha : SO A s ea wa) (hb : SO A s eb wb) (hc : SO A s ec wc) (h1 : lastMarks [.LtE, .LtE] [eb, ec] = false := by rfl) : ST A s (.Compare ea [.LtE, .LtE] [eb, ec] pos) (wCh_le_le wa wb wc) := st_chain (fun X => op_le) (fun X => op_le) ha hb hc h1

/-! ### == {} -/
def rEq0 : R2 := fun x y H Q => ∃ a b ks, x = .ref a ∧ y = .ref b ∧ Rd H a (.dK ks) ∧ Rd H b (.dK []) ∧ Q (.bl (ks.length == 0)) H
theorem op_eq0 {X : Cx} (hu : X.A.units < cLine) : OpR X (compareOp .Eq) rEq0 := by
  intro pins s σ H x y v u Q I rx ry h
  obtain ⟨a, b, ks, rfl, rfl, ea, eb, q⟩ := h
  obtain rfl : v = Value.ref a := rx
  obtain rfl : u = Value.ref b := ry
  obtain ⟨_, ya, va, ra, da⟩ := dk_rd I.hok ea
  obtain ⟨_, yb, vb, rb, db⟩ := dk_rd I.hok eb
  cases rb
  have hl : ks.length = va.length := Paired.length ra
  refine PySem.W.keq_eq (knd := mixKind X.prog X.w) (r := true) ya yb da db hu (fun z => ?_) ⟨.bl (ks.length == 0), H, I, (by rw [hl]; simp only [List.length_nil, Bool.and_true]; rfl), q⟩
  have : va = [] := List.length_eq_zero_iff.mp z
  subst this
  exact .nil
def vEq0 : VC := fun p q R => match p, q with
  | .dk kvs, .dk [] => R (kvs.length == 0)
  | _, _ => False
theorem sc_eq0 : SC A s .Eq vEq0 := ⟨fun X t => ⟨_, op_eq0 t.u0, fun H k x y p q R Q m rx ry h hQ => by
  unfold vEq0 at h
  split at h
  · obtain ⟨c, vs, rfl, hc, r⟩ := rx.dk
    obtain ⟨c2, us, rfl, hc2, r2⟩ := ry.dk
    cases r2
    refine ⟨c, c2, vs, rfl, rfl, hc, hc2, ?_⟩
    rw [r.length]
    exact hQ _ h
  · exact h.elim⟩⟩
def wNild (w : WE) : WT := wCmp w (wC (.dk [])) vEq0
theorem st_nild (h : SO A s e w) : ST A s (.Compare e [.Eq] [.Dict [] [] p1] pos) (wNild w) := st_cmp sc_eq0 h (SF.o sf_dk) rfl

/-! ### {k: v} -/
def wDone (wk wv : WE) : WE := fun S k R => wk S k fun q k1 => wv S k1 fun v k2 => ∃ κ, keyOf q = some κ ∧ R (.dk [(κ, v)]) k2
theorem sf_done (hk : SE A s ea wa) (hv : SE A s eb wb) : SF A s (.Dict [some ea] [eb] pos) (wDone wa wb) := by
  refine ⟨fun X t => pe_imp (pe_disp (pps_cons (hk.run X t) (hv.run X t) pps_nil) rfl rfl (by simp) (by show 1 ≤ 15; decide)) fun σ H Q ⟨Hb, S, k, R, W, x, q⟩ => ?_⟩
  intro p hp
  have W1 : Wd A.a A.b Hb σ (upd H p (.dK [])) S k := W.expr (Up.new hp) (W.amb.new hp)
  refine ⟨Hb, S, k, _, W1, x, fun q1 k1 y H1 u1 m1 r1 x1 => ⟨Hb, S, k1, _, W1.expr u1 m1, x1, fun v1 k2 z H2 u2 m2 r2 x2 => ?_⟩⟩
  obtain ⟨κ, hκ, x2⟩ := x2
  have na : p ≠ A.a := fun e => W.amb.na (e ▸ hp)
  have nb : p ≠ A.b.c := fun e => W.amb.nb (e ▸ hp)
  have u12 := u1.trans u2
  have hp2 : H2 p = some (.dK []) := u12.own upd_same trivial na nb
  rw [keyOf_eq hκ] at r1
  refine ⟨hp2, [(κ, z)], by rw [r1.key]; rfl, by simp, ?_⟩
  refine q (.dk [(κ, v1)]) k2 _ _ (((Up.new hp).trans u12).set hp) (m2.set hp2 trivial na nb) (.o hp upd_same ?_) x2
  refine .k (.cons (r2.up (ps_upd hp2 trivial)) .nil)
end
end TL
set_option Elab.async false
set_option linter.all false
set_option maxRecDepth 100000
set_option maxHeartbeats 2000000
set_option autoImplicit false
/-! T17: list(d.values()), list(d.items()), sorted(d.items()). -/
namespace TL
open PySem
open PySem.Spec
open PyProof.Rows
open L2
section
variable {X : Cx} {e : Expr} {te : TE} {p apos cpos pos : Pos}
/-- a view made, then handed to a call -/
theorem view_call {s : Shared} {nm : String} {P0 : List Value → Shared → Prop} (hs : starEach [.Call (.Attribute e nm apos) [] [] cpos] X.env = (false, eval (.Call (.Attribute e nm apos) [] [] cpos) X.env) :: starEach [] X.env)
    (h : wpAny (model X.prog X.w) X.A (eval (.Call (.Attribute e nm apos) [] [] cpos) X.env) (fun v s1 => P0 [v] s1) X.xe s) : wpAny (model X.prog X.w) X.A (spliced (backTo pos (starEach [.Call (.Attribute e nm apos) [] [] cpos] X.env))) P0 X.xe s := by
  rw [hs]
  show wpAny _ _ (spliced ((false, eval (.Call (.Attribute e nm apos) [] [] cpos) X.env) :: backTo pos (starEach [] X.env))) _ _ s
  exact Calls.spliced_cons (thn h fun v s1 h1 => Calls.spliced_nil h1)
def tListVals (te : TE) : TE := fun σ H Q => te σ H fun x H1 => ∃ d kvs, x = .ref d ∧ Rd H1 d (.dK kvs) ∧ ∀ p, H1 p = none → Q (.ref p) (upd H1 p (.lst (kvs.map fun kv => kv.2)))
theorem vals_at : ∀ {kvs : List (Key × V)} {vs : List (Key × Value)} {us : List Value}, KV kvs vs → us.length = vs.length → (∀ (j : Nat) (v : Value), us[j]? = some v → ∃ k, vs[j]? = some (k, v)) → Vals (kvs.map fun kv => kv.2) us
  | _, _, [], .nil, _, _ => .nil
  | _, _, _ :: _, .nil, hl, _ => by simp at hl
  | _, _, [], .cons _ _, hl, _ => by simp at hl
  | _, _, u :: us, .cons h t, hl, hv => by
    obtain ⟨k, e⟩ := hv 0 u rfl
    simp only [List.getElem?_cons_zero, Option.some.injEq] at e
    refine .cons ?_ (vals_at t (by simpa using hl) fun j v hj => by simpa using hv (j + 1) v (by simpa using hj))
    have := h.2
    rw [e] at this
    exact this
theorem pe_listVals (hc : X.calm = true) (he : PE X e te) (hg : Gl X "list") (hm : X.mg "list" = none) (hv : bootBuiltins "list" = some (.type "list")) (hbase : attributeBase e "values" X.env (eval e X.env) = eval e X.env) (hline : (apos.endLine == cpos.line) = true)
    (hs : starEach [.Call (.Attribute e "values" apos) [] [] cpos] X.env = (false, eval (.Call (.Attribute e "values" apos) [] [] cpos) X.env) :: starEach [] X.env) :
    PE X (.Call (.Name "list" p) [.Call (.Attribute e "values" apos) [] [] cpos] [] pos) (tListVals te) := by
  refine ⟨fun pins s σ H Q I hq => ?_⟩
  refine wpAny_Call_Name_kw (ld_blt I hg hm hv ?_)
  refine PyProof.Rows.callWith_type1 (view_call hs ?_) hs rfl
  refine wpAny_Call_method (T := "dict") (id := "dict.values") hbase rfl hline F.plainAttrs_dict F.slot_dict_values F.type_dict_values (thn (he.run pins s σ H _ I hq) fun u s1 ⟨x, H1, I1, rx, d, kvs, ex, hd, q⟩ => ?_)
  subst ex
  obtain rfl : u = Value.ref d := rx
  obtain ⟨hz, hs0, vs, kv, hdo⟩ := dk_rd I1.hok hd
  obtain ⟨ep, hat⟩ := hdo.dictAt
  have lk : kvs.length = vs.length := Paired.length kv
  have I2 : Inv X pins σ H1 { s1 with heap := s1.heap.push { cls := .type "dict_values", data := .fields #[.ref d] } } := I1.kept (t' := s1.toks) fun b ob q => Heap.get?_push_of_some _ q
  refine ⟨hdo.typeIs, hdo.mapOf.noDict, ?_⟩
  show wpAny _ _ (callWith cpos (.builtin "dict.values") [.ref d] [] []) _ X.xe s1
  refine method_meetsIn F.slot_dict_values F.entry_dict_values rfl (PySem.evalArgs_none ⟨rfl, hdo.typeIs, F.args_dict_values_1 _, _, meets_dict_values (mixKind X.prog X.w) d hs0, ⟨vs, hdo⟩, ?_⟩)
  refine PySem.W.kdl_call (PySem.W.kdl_values (knd := mixKind X.prog X.w) (kvs := vs) (ep := ep)) (I1.ok.hd hc) ⟨⟨_, Heap.get?_push_size _ rfl, rfl, rfl⟩, hat.push _⟩ (by omega) fun h' tk acc c hk hS hacc => ?_
  have hva : Vals (kvs.map fun kv => kv.2) acc.toList := vals_at kv (by rw [Array.length_toList]; exact hacc.1) fun j v e => hacc.2 j v (by rw [← Array.getElem?_toList]; exact e)
  refine ⟨.ref _, _, I2.laid (t' := tk) hk (Nat.le_refl _) (show ObjOk X.prog X.w _ _ _ (.lst (kvs.map fun kv => kv.2)) from ⟨by rw [List.length_map]; exact hz, acc.toList, c, hva, by rw [Array.toArray_toList]; exact hS⟩), rfl, q _ (I2.hok.fresh (Nat.le_refl _))⟩
end
section
variable {A : CtD} {s : CtS} {e ea eb ec : Expr} {es : List Expr} {wa wb wc w : WE} {pos p1 p2 p3 p4 : Pos} {x y : Str}
def vList_values (p : PV) (R : PV → Prop) : Prop := match p with
  | .dk kvs => R (.lst (kvs.map fun kv => kv.2))
  | _ => False
theorem RepK.values {a : Addr} {H : Hp} {vs : List (Key × V)} {ps : List (Key × PV)} (r : RepK a H vs ps) : Reps a H (vs.map fun kv => kv.2) (ps.map fun kv => kv.2) := r.x.vals
theorem sf_list_values (ha : SO A s e wa) (hg : glB s "list" = true) (hb : A.bl.contains "list" = true) (hbase : ∀ env, attributeBase e "values" env (eval e env) = eval e env := by intro _; rfl) (hline : (p2.endLine == p3.line) = true := by rfl)
    (hs : ∀ env, starEach [.Call (.Attribute e "values" p2) [] [] p3] env = (false, eval (.Call (.Attribute e "values" p2) [] [] p3) env) :: starEach [] env := by intro _; rfl) :
    SF A s (.Call (.Name "list" p1) [.Call (.Attribute e "values" p2) [] [] p3] [] pos) (w1 wa vList_values) := by
  refine ⟨fun X t => pe_imp (pe_listVals t.calm (ha.run X t) (glB.gl hg t).1 (blt t hb) (by decide +kernel) (hbase X.env) hline (hs X.env)) fun σ H Q ⟨Hb, S, k, R, W, x, q⟩ => ⟨Hb, S, k, _, W, x, fun p k1 v H1 u1 m1 r1 z => ?_⟩⟩
  unfold vList_values at z
  split at z
  · obtain ⟨c, vs, rfl, hc, rr⟩ := r1.dk
    refine ⟨c, vs, rfl, hc, fun l hl => q _ k1 _ _ (u1.trans (Up.new hl)) (m1.new hl) (.o (u1.non _ hl) upd_same (.l (rr.values.up ((Up.new (a := A.a) (b := A.b) hl).ps m1)))) z⟩
  · exact z.elim
end
/-! ### sorted(d.items()), texts to ints -/
abbrev encSI (e : Str × Int) : PyData := .tuple [.str e.1, .int e.2]
def leSI : Str × Int → Str × Int → Bool := PySem.W.dataLe false encSI
section
variable {X : Cx} {e : Expr} {te : TE} {p apos cpos pos : Pos}
def tSortItems (te : TE) : TE := fun σ H Q => te σ H fun x H1 => ∃ (d : Addr) (ks : List (Str × Int)), x = .ref d ∧ Rd H1 d (.dK (ks.map fun e => (.inr e.1, .int e.2))) ∧
  ∀ (H' : Hp) (l : Addr) (ts : List Addr), (∀ b o, H1 b = some o → H' b = some o) → H1 l = none → H' l = some (.lst (ts.map V.ref)) → Paired (fun (t : Addr) (e : Str × Int) => H' t = some (.tup [.str e.1, .int e.2])) ts (ks.mergeSort leSI) → Q (.ref l) H'
theorem paired_of {α β : Type} {F : α → β → Prop} : ∀ {zs : List (α × β)}, (∀ z ∈ zs, F z.1 z.2) → Paired F (zs.map (·.1)) (zs.map (·.2))
  | [], _ => .nil
  | z :: zs, h => .cons (h z (by simp)) (paired_of fun y hy => h y (by simp [hy]))
theorem sort_items {pins : List (Addr × Obj)} {σ : L2.St} {H : Hp} {s : Shared} {Q : VK} {r d : Addr} {ks : List (Str × Int)} (hc : X.calm = true) (hu : X.A.units + 64 < cLine) (I : Inv X pins σ H s) (hv : s.heap.IsItemsView r d) (hd : Rd H d (.dK (ks.map fun e => (.inr e.1, .int e.2))))
    (q : ∀ (H' : Hp) (l : Addr) (ts : List Addr), (∀ b o, H b = some o → H' b = some o) → H l = none → H' l = some (.lst (ts.map V.ref)) → Paired (fun (t : Addr) (e : Str × Int) => H' t = some (.tup [.str e.1, .int e.2])) ts (ks.mergeSort leSI) → Q (.ref l) H') :
    wpAny (model X.prog X.w) X.A (call (.builtin "sorted") [.ref r]) (EP X pins σ Q) X.xe s := by
  have hh : X.A.handled = none := I.ok.hd hc
  obtain ⟨hz, hs0, vs, kv, o, es, ep, ho, hx, hdat, hkd, hpd, hnd⟩ := dk_rd I.hok hd
  have l0 : (ks.map fun e => ((Sum.inr e.1 : Key), V.int e.2)).length = vs.length := Paired.length kv
  rw [List.length_map] at l0 hz
  have l1 := hpd.length
  rw [Array.length_toList] at l1
  refine DT.sortedI (es := es) (ep := ep) hh hv ⟨o, ho, hx, hdat⟩ (by omega) fun h' tk as hk hlt hl hG => ?_
  have lak : as.length = ks.length := by omega
  have nd : as.Nodup := List.Pairwise.imp (fun h => Nat.ne_of_lt h) hG.rise
  have pr : ∀ (j : Nat) (b : Addr), as[j]? = some b → ∃ (e : Str × Int) (t t' : Tok), ks[j]? = some e ∧ h'.get? b = some { cls := .type "tuple", data := .seq #[Value.str e.1 t, Value.int e.2 t'] } := by
    intro j b hj
    obtain ⟨en, he, hg⟩ := hG.pairs j b hj
    have hjl : j < ks.length := by
      have := (List.getElem?_eq_some_iff.mp hj).1
      omega
    have hkj : ks[j]? = some ks[j] := List.getElem?_eq_getElem hjl
    have hkm : (ks.map fun e => ((Sum.inr e.1 : Key), V.int e.2))[j]? = some (.inr ks[j].1, .int ks[j].2) := by rw [List.getElem?_map, hkj]; rfl
    obtain ⟨pv, hpv, e1, rv⟩ := L2.paired_get kv hkm
    obtain ⟨hlt2, _⟩ := Array.getElem?_eq_some_iff.mp he
    obtain ⟨hkey, hval⟩ := hpd.get? (e := en) (by rw [Array.getElem?_toList]; exact he) (k := pv.1) (v := pv.2) hpv
    obtain ⟨t', ev⟩ := (show ∃ t', pv.2 = Value.int ks[j].2 t' from rv)
    have e1' : (Sum.inr ks[j].1 : Key) = pv.1 := e1
    rw [← e1'] at hkey
    obtain ⟨t, ek⟩ := (show ∃ t, en.key = Value.str ks[j].1 t from relV_key (k := Sum.inr ks[j].1) hkey)
    exact ⟨ks[j], t, t', hkj, by rw [hg, ek, hval, ev]⟩
  have hob : (h'.push { cls := .type "list", data := .seq (as.map Value.ref).toArray }).get? h'.objs.size = some (seqObj "list" (as.map Value.ref).toArray 0) := Heap.get?_push_size _ rfl
  have kb : ∀ b o, s.heap.get? b = some o → (h'.push { cls := .type "list", data := .seq (as.map Value.ref).toArray }).get? b = some o := fun b o e => Heap.get?_push_of_some _ (hk b o e)
  have ne0 : ∀ b o, h'.get? b = some o → b ≠ h'.objs.size := fun b o e => Nat.ne_of_lt (Heap.lt_size e)
  generalize hh2 : h'.push { cls := .type "list", data := .seq (as.map Value.ref).toArray } = h2 at hob kb ⊢
  have ka : ∀ b o, h'.get? b = some o → h2.get? b = some o := fun b o e => by rw [← hh2]; exact Heap.get?_push_of_some _ e
  -- the pairs with what they tell
  have idx : ∀ z ∈ as.zip ks, ∃ j : Nat, as[j]? = some z.1 ∧ ks[j]? = some z.2 := fun z hz => by
    obtain ⟨j, hj⟩ := List.mem_iff_getElem?.mp hz
    exact ⟨j, List.getElem?_zip_eq_some.mp hj⟩
  have at_ : ∀ z ∈ as.zip ks, ∃ t t' : Tok, h'.get? z.1 = some { cls := .type "tuple", data := .seq #[Value.str z.2.1 t, Value.int z.2.2 t'] } := fun z hz => by
    obtain ⟨j, j1, j2⟩ := idx z hz
    obtain ⟨e, t, t', h1, h2⟩ := pr j _ j1
    rw [j2] at h1; cases h1
    exact ⟨t, t', h2⟩
  have ez : (as.zip ks).map (fun z => Value.ref z.1) = as.map Value.ref := by
    rw [show (fun z : Addr × Str × Int => Value.ref z.1) = Value.ref ∘ Prod.fst from rfl, ← List.map_map, List.map_fst_zip (by omega)]
  have e2 : (as.zip ks).map (·.2) = ks := List.map_snd_zip (by omega)
  have E1 : PySem.W.EachIs (fun (v : Value) (z : Addr × Str × Int) => v = .ref z.1 ∧ z ∈ as.zip ks) (as.map Value.ref) (as.zip ks) := by
    rw [← ez]
    have : ∀ (l : List (Addr × Str × Int)), (∀ z ∈ l, z ∈ as.zip ks) → PySem.W.EachIs (fun (v : Value) (z : Addr × Str × Int) => v = .ref z.1 ∧ z ∈ as.zip ks) (l.map fun z => Value.ref z.1) l := by
      intro l
      induction l with
      | nil => intro _; exact .nil
      | cons z l ih => intro h; exact .cons ⟨rfl, h z (by simp)⟩ (ih fun y hy => h y (by simp [hy]))
    exact this _ fun _ h => h
  have hal : PySem.W.AllAlike ((as.zip ks).map fun z => encSI z.2) := PySem.W.AllAlike.of fun b b' => by simp [PySem.W.alike, PySem.W.alikeAll]
  have hsk : PySem.W.Sortable ((as.zip ks).map fun z => encSI z.2) := PySem.W.Sortable.tuples fun b => ⟨_, _, rfl⟩
  have er : PySem.W.EachIs (fun (v : Value) (z : Addr × Str × Int) => ∃ as', Reads h2 v (encSI z.2) as' ∧ h'.objs.size ∉ as') (as.map Value.ref) (as.zip ks) := E1.mono fun v z hvz => by
    obtain ⟨ev, hz⟩ := hvz
    obtain ⟨t, t', hg⟩ := at_ z hz
    subst ev
    exact ⟨_, .tuple (ka _ _ hg) rfl rfl (.cons (.str _ _) (.cons (.int _ _) .nil)), by simp⟩
  have hL : (as.zip ks).length ≤ sizeLine := by rw [List.length_zip]; omega
  have hU : ∀ b, b ∈ as.zip ks → X.A.in1.units + 1 + (encSI b.2).depth < cLine := fun b _ => by
    have : (encSI b.2).depth ≤ 2 := by simp [encSI, PyData.depth, PyData.depthAll]
    show X.A.units + 1 + 1 + (encSI b.2).depth < cLine
    omega
  refine PySem.W.list_sort_data (s := { s with heap := h2, toks := tk }) (enc := fun z : Addr × Str × Int => encSI z.2) (bs := as.zip ks) (vs := as.map Value.ref) hob E1 er hal hsk hL hU fun out ol oE => ?_
  · have eo : out = ((as.zip ks).mergeSort (PySem.W.dataLe false fun z => encSI z.2)).map fun z => Value.ref z.1 := by
      have : ∀ {l : List Value} {zs : List (Addr × Str × Int)}, PySem.W.EachIs (fun (v : Value) (z : Addr × Str × Int) => v = .ref z.1 ∧ z ∈ as.zip ks) l zs → l = zs.map fun z => Value.ref z.1 := by
        intro l zs h
        induction h with
        | nil => rfl
        | cons h t ih => rw [List.map_cons, ← ih, h.1]
      exact this oE
    generalize hzs : (as.zip ks).mergeSort (PySem.W.dataLe false fun z => encSI z.2) = zs at eo
    have pz : zs.Perm (as.zip ks) := hzs ▸ List.mergeSort_perm _ _
    have em : zs.map (·.2) = ks.mergeSort leSI := by
      have m0 : ((as.zip ks).mergeSort fun a b => leSI a.2 b.2).map (·.2) = ((as.zip ks).map (·.2)).mergeSort leSI := List.map_mergeSort (fun a _ b _ => rfl)
      rw [e2] at m0
      rw [← hzs]
      exact m0
    have kF : ∀ b o, b ≠ h'.objs.size → h2.get? b = some o → (sortedHeap h2 h'.objs.size (as.map Value.ref) (List.toArray out)).get? b = some o := fun b o hb e => (PyProof.Rows.sortedHeap_old hb (Heap.lt_size e)).trans e
    have kS : ∀ b o, s.heap.get? b = some o → (sortedHeap h2 h'.objs.size (as.map Value.ref) (List.toArray out)).get? b = some o := fun b o e => kF b o (ne0 _ _ (hk b o e)) (kb b o e)
    obtain ⟨eF, heF⟩ := PyProof.Rows.sortedHeap_at (vs := as.map Value.ref) (out := List.toArray out) hob
    have I1 : Inv X pins σ H { s with heap := sortedHeap h2 h'.objs.size (as.map Value.ref) (List.toArray out), toks := tk } := I.kept (t' := tk) kS
    have hn0 : H h'.objs.size = none := I.hok.fresh (Nat.le_of_lt hlt)
    have lz : zs.length = ks.length := by rw [pz.length_eq, List.length_zip]; omega
    have hlen : (zs.map fun z => V.ref z.1).length ≤ sizeLine := by rw [List.length_map]; omega
    have rv : Vals (zs.map fun z => V.ref z.1) out := by
      rw [eo]
      have : ∀ l : List (Addr × Str × Int), Vals (l.map fun z => V.ref z.1) (l.map fun z => Value.ref z.1) := by
        intro l
        induction l with
        | nil => exact .nil
        | cons z l ih => exact .cons rfl ih
      exact this _
    have I2 : Inv X pins σ (upd H h'.objs.size (.lst (zs.map fun z => V.ref z.1))) { s with heap := sortedHeap h2 h'.objs.size (as.map Value.ref) (List.toArray out), toks := tk } :=
      I1.take (h' := sortedHeap h2 h'.objs.size (as.map Value.ref) (List.toArray out)) (t' := tk) (fun b ob _ e => e) (I.fpOk (Nat.le_of_lt hlt) hn0) ⟨hlen, out, eF, rv, by simpa using heF⟩
    obtain ⟨H2, I3, g, qt⟩ := L2.DX.takeT (P := fun b vs => ∃ (j : Nat) (e : Str × Int), as[j]? = some b ∧ ks[j]? = some e ∧ vs = [.str e.1, .int e.2]) I as _ I2 nd fun b hb => by
      obtain ⟨j, hj⟩ := List.mem_iff_getElem?.mp hb
      obtain ⟨e, t, t', he, hg⟩ := pr j b hj
      have hbl : s.heap.objs.size ≤ b := Nat.le_of_lt (hG.above b hb)
      refine ⟨hbl, ?_, [.str e.1, .int e.2], ⟨j, e, hj, he, rfl⟩, fun H3 => ⟨(by rw [sizeLine_eq]; show 2 ≤ 16777216; omega), [Value.str e.1 t, Value.int e.2 t'], .cons ⟨t, rfl⟩ (.cons ⟨t', rfl⟩ .nil), ⟨_, kF _ _ (ne0 _ _ hg) (ka _ _ hg), rfl, 0, rfl⟩⟩⟩
      rw [upd_ne (ne0 _ _ hg)]
      exact I.hok.fresh hbl
    have gr : ∀ b o, H b = some o → H2 b = some o := fun b o e => g b o (by rw [upd_ne (ne_of_none e hn0)]; exact e)
    have ets : (zs.map (·.1)).map V.ref = zs.map fun z => V.ref z.1 := by rw [List.map_map]; rfl
    refine ⟨.ref h'.objs.size, H2, I3, rfl, q H2 h'.objs.size (zs.map (·.1)) gr hn0 (by rw [ets]; exact g _ _ upd_same) ?_⟩
    rw [← em]
    refine paired_of fun z hz => ?_
    obtain ⟨i, i1, i2⟩ := idx z (pz.mem_iff.mp hz)
    obtain ⟨vs', ⟨j, e, j1, j2, ev⟩, hH⟩ := qt z.1 (List.mem_of_getElem? i1)
    have eij : i = j := (List.getElem?_inj (List.getElem?_eq_some_iff.mp i1).1 nd).mp (i1.trans j1.symm)
    subst eij
    have ee : e = z.2 := Option.some.inj (j2.symm.trans i2)
    rw [ev, ee] at hH
    exact hH
theorem pe_sortItems (hc : X.calm = true) (hu : X.A.units + 64 < cLine) (he : PE X e te) (hg : Gl X "sorted") (hm : X.mg "sorted" = none) (hbase : attributeBase e "items" X.env (eval e X.env) = eval e X.env) (hline : (apos.endLine == cpos.line) = true)
    (hs : starEach [.Call (.Attribute e "items" apos) [] [] cpos] X.env = (false, eval (.Call (.Attribute e "items" apos) [] [] cpos) X.env) :: starEach [] X.env) :
    PE X (.Call (.Name "sorted" p) [.Call (.Attribute e "items" apos) [] [] cpos] [] pos) (tSortItems te) := by
  refine ⟨fun pins s σ H Q I hq => ?_⟩
  refine wpAny_Call_Name_kw (ld_blt I hg hm (by decide +kernel : bootBuiltins "sorted" = some (.builtin "sorted")) ?_)
  refine PyProof.Rows.callWith_builtin1 (view_call hs ?_) hs rfl
  refine wpAny_Call_method (T := "dict") (id := "dict.items") hbase rfl hline F.plainAttrs_dict F.slot_dict_items F.type_dict_items (thn (he.run pins s σ H _ I hq) fun u s1 ⟨x, H1, I1, rx, d, ks, ex, hd, q⟩ => ?_)
  subst ex
  obtain rfl : u = Value.ref d := rx
  obtain ⟨hz, hs0, vs, kv, hdo⟩ := dk_rd I1.hok hd
  have I2 : Inv X pins σ H1 { s1 with heap := s1.heap.push { cls := .type "dict_items", data := .fields #[.ref d] } } := I1.kept (t' := s1.toks) fun b ob q => Heap.get?_push_of_some _ q
  refine ⟨hdo.typeIs, hdo.mapOf.noDict, ?_⟩
  show wpAny _ _ (callWith cpos (.builtin "dict.items") [.ref d] [] []) _ X.xe s1
  refine method_meetsIn F.slot_dict_items F.entry_dict_items rfl (PySem.evalArgs_none ⟨rfl, hdo.typeIs, F.args_dict_items_1 _, _, meets_dict_items (mixKind X.prog X.w) d hs0, ⟨vs, hdo⟩, ?_⟩)
  exact sort_items hc hu I2 ⟨_, Heap.get?_push_size _ rfl, rfl, rfl⟩ hd q
def tListItemsR (te : TE) : TE := fun σ H Q => te σ H fun x H1 => ∃ (d : Addr) (kvs : List (Key × V)), x = .ref d ∧ Rd H1 d (.dK kvs) ∧
  ∀ (H' : Hp) (l : Addr) (ts : List Addr), (∀ b o, H1 b = some o → H' b = some o) → H1 l = none → H' l = some (.lst (ts.map V.ref)) → Paired (fun (t : Addr) (q : Key × V) => H' t = some (.tup [kV q.1, q.2])) ts kvs → Q (.ref l) H'
theorem pe_listItemsR (hc : X.calm = true) (he : PE X e te) (hg : Gl X "list") (hm : X.mg "list" = none) (hbase : attributeBase e "items" X.env (eval e X.env) = eval e X.env) (hline : (apos.endLine == cpos.line) = true)
    (hs : starEach [.Call (.Attribute e "items" apos) [] [] cpos] X.env = (false, eval (.Call (.Attribute e "items" apos) [] [] cpos) X.env) :: starEach [] X.env) :
    PE X (.Call (.Name "list" p) [.Call (.Attribute e "items" apos) [] [] cpos] [] pos) (tListItemsR te) := by
  refine ⟨fun pins s σ H Q I hq => ?_⟩
  refine wpAny_Call_Name_kw (ld_blt I hg hm (by decide +kernel : bootBuiltins "list" = some (.type "list")) ?_)
  refine PyProof.Rows.callWith_type1 (view_call hs ?_) hs rfl
  refine wpAny_Call_method (T := "dict") (id := "dict.items") hbase rfl hline F.plainAttrs_dict F.slot_dict_items F.type_dict_items (thn (he.run pins s σ H _ I hq) fun u s1 ⟨x, H1, I1, rx, d, kvs, ex, hd, q⟩ => ?_)
  subst ex
  obtain rfl : u = Value.ref d := rx
  obtain ⟨hz, hs0, vs, kv, hdo⟩ := dk_rd I1.hok hd
  obtain ⟨ep, hat⟩ := hdo.dictAt
  have lk : kvs.length = vs.length := Paired.length kv
  have I2 : Inv X pins σ H1 { s1 with heap := s1.heap.push { cls := .type "dict_items", data := .fields #[.ref d] } } := I1.kept (t' := s1.toks) fun b ob q => Heap.get?_push_of_some _ q
  refine ⟨hdo.typeIs, hdo.mapOf.noDict, ?_⟩
  show wpAny _ _ (callWith cpos (.builtin "dict.items") [.ref d] [] []) _ X.xe s1
  refine method_meetsIn F.slot_dict_items F.entry_dict_items rfl (PySem.evalArgs_none ⟨rfl, hdo.typeIs, F.args_dict_items_1 _, _, meets_dict_items (mixKind X.prog X.w) d hs0, ⟨vs, hdo⟩, ?_⟩)
  refine PySem.W.kdx_call (knd := mixKind X.prog X.w) (kvs := vs) (ep := ep) (I1.ok.hd hc) ⟨_, Heap.get?_push_size _ rfl, rfl, rfl⟩ (hat.push _) (by omega) fun h' tk acc c as hk hS hl hG hacc => ?_
  obtain ⟨H', k1, k2, k3, k4, k5, k6, J⟩ := LiI.items_laid (tk := tk) I2 hz kv hk hS hl hG hacc
  exact ⟨.ref _, H', J, rfl, q H' _ as k1 k2 k5 k6⟩
end
section
variable {A : CtD} {s : CtS} {e ea eb ec : Expr} {es : List Expr} {wa wb wc w : WE} {pos p1 p2 p3 p4 : Pos} {x y : Str}
/-- a heap that has grown; what stood free may be taken -/
theorem up_grown {a : Addr} {b : Bs} {H H' : Hp} (g : ∀ c o, H c = some o → H' c = some o) : Up a b H H' := ⟨fun c o h _ _ _ => g c o h, fun c h => by
  cases z : H c with
  | none => rfl
  | some o => rw [g c o z] at h; cases h⟩
theorem amb_grown {a : Addr} {b : Bs} {k : Nat} {H H' : Hp} (m : Amb a b k H) (g : ∀ c o, H c = some o → H' c = some o) : Amb a b k H' := by
  obtain ⟨_, e1⟩ := m.at_a
  obtain ⟨_, e2⟩ := m.at_b
  exact m.same ((g _ _ e1).trans e1.symm) ((g _ _ e2).trans e2.symm) (m.tb.ext g)
theorem reps_pairs {a : Addr} {H H' : Hp} (g : Ps H H') : ∀ {ts : List Addr} {kvs : List (Key × V)} {ps : List (Key × PV)}, Paired (fun (t : Addr) (q : Key × V) => H' t = some (.tup [kV q.1, q.2])) ts kvs → RepK a H kvs ps → Reps a H' (ts.map V.ref) (ps.map fun kp => PV.tup [pk kp.1, kp.2])
  | _, _, _, .nil, .nil => .nil
  | _, _, _, .cons h t, .cons r rr => .cons (.tup h (.cons (rep_key _) (.cons (r.up g) .nil))) (reps_pairs g t rr)
def vList_items (p : PV) (R : PV → Prop) : Prop := match p with
  | .dk kvs => R (.lst (kvs.map fun kp => PV.tup [pk kp.1, kp.2]))
  | _ => False
theorem sf_list_items (ha : SO A s e wa) (hg : glB s "list" = true) (hb : A.bl.contains "list" = true) (hbase : ∀ env, attributeBase e "items" env (eval e env) = eval e env := by intro _; rfl) (hline : (p2.endLine == p3.line) = true := by rfl)
    (hs : ∀ env, starEach [.Call (.Attribute e "items" p2) [] [] p3] env = (false, eval (.Call (.Attribute e "items" p2) [] [] p3) env) :: starEach [] env := by intro _; rfl) :
    SF A s (.Call (.Name "list" p1) [.Call (.Attribute e "items" p2) [] [] p3] [] pos) (w1 wa vList_items) := by
  refine ⟨fun X t => pe_imp (pe_listItemsR t.calm (ha.run X t) (glB.gl hg t).1 (blt t hb) (hbase X.env) hline (hs X.env)) fun σ H Q ⟨Hb, S, k, R, W, x, q⟩ => ⟨Hb, S, k, _, W, x, fun p k1 v H1 u1 m1 r1 z => ?_⟩⟩
  unfold vList_items at z
  split at z
  · obtain ⟨c, vs, rfl, hc, rr⟩ := r1.dk
    refine ⟨c, vs, rfl, hc, fun H' l ts g hl e1 pr => ?_⟩
    have u2 : Up A.a A.b H1 H' := up_grown g
    exact q _ k1 _ _ (u1.trans u2) (amb_grown m1 g) (.o (u1.non _ hl) e1 (.l (reps_pairs (u2.ps m1) pr rr))) z
  · exact z.elim
def prSI (e : Str × Int) : PV := .tup [.str e.1, .int e.2]
def vSort_items (p : PV) (R : PV → Prop) : Prop := match p with
  | .dk kvs => ∃ ks : List (Str × Int), kvs = ks.map (fun e => (.inr e.1, .int e.2)) ∧ R (.lst ((ks.mergeSort leSI).map prSI))
  | _ => False
theorem reps_si {a : Addr} {H' : Hp} : ∀ {ts : List Addr} {ks : List (Str × Int)}, Paired (fun (t : Addr) (e : Str × Int) => H' t = some (.tup [.str e.1, .int e.2])) ts ks → Reps a H' (ts.map V.ref) (ks.map prSI)
  | _, _, .nil => .nil
  | _, _, .cons h t => .cons (.tup h (.cons (.str _) (.cons (.int _) .nil))) (reps_si t)
theorem repK_si {a : Addr} {H : Hp} : ∀ {vs : List (Key × V)} {ks : List (Str × Int)}, RepK a H vs (ks.map fun e => (.inr e.1, .int e.2)) → vs = ks.map fun e => (.inr e.1, .int e.2)
  | _, [], .nil => rfl
  | _, e :: ks, r => by
    cases r with
    | cons h t =>
      have h' := (RepO.r h : RepO a ⟨0, []⟩ H _ (.int e.2)).int
      rw [List.map_cons, ← repK_si t, h']
theorem sf_sorted_items (ha : SO A s e wa) (hg : glB s "sorted" = true) (hb : A.bl.contains "sorted" = true) (hbase : ∀ env, attributeBase e "items" env (eval e env) = eval e env := by intro _; rfl) (hline : (p2.endLine == p3.line) = true := by rfl)
    (hs : ∀ env, starEach [.Call (.Attribute e "items" p2) [] [] p3] env = (false, eval (.Call (.Attribute e "items" p2) [] [] p3) env) :: starEach [] env := by intro _; rfl) :
    SF A s (.Call (.Name "sorted" p1) [.Call (.Attribute e "items" p2) [] [] p3] [] pos) (w1 wa vSort_items) := by
  refine ⟨fun X t => pe_imp (pe_sortItems t.calm t.u64 (ha.run X t) (glB.gl hg t).1 (blt t hb) (hbase X.env) hline (hs X.env)) fun σ H Q ⟨Hb, S, k, R, W, x, q⟩ => ⟨Hb, S, k, _, W, x, fun p k1 v H1 u1 m1 r1 z => ?_⟩⟩
  unfold vSort_items at z
  split at z
  · obtain ⟨ks, rfl, z⟩ := z
    obtain ⟨c, vs, rfl, hc, rr⟩ := r1.dk
    rw [repK_si rr] at hc
    refine ⟨c, ks, rfl, hc, fun H' l ts g hl e1 pr => ?_⟩
    have u2 : Up A.a A.b H1 H' := up_grown g
    exact q _ k1 _ _ (u1.trans u2) (amb_grown m1 g) (.o (u1.non _ hl) e1 (.l (reps_si pr))) z
  · exact z.elim
end
end TL
set_option Elab.async false
set_option linter.all false
set_option maxRecDepth 100000
set_option maxHeartbeats 2000000
set_option autoImplicit false
/-! T18: {**d, k: v}. -/
namespace TL
open PySem
open PySem.Spec
open PyProof.Rows
open L2
section
variable {prog : Program} {w : World} {K : Type} [DecidableEq K] {knd : KeyKind prog w K} {A : Around} {E : Value → Shared → Prop} {s : Shared}
theorem dictPut_pairs {d : Addr} {kvs : List (K × Value)} {k : K} {key v : Value} {Q : Unit → Shared → Prop} (hkey : knd.is k key = true) (hm : s.heap.DictOf knd d kvs) (hQ : ∀ h', h'.DictOf knd d (stored kvs k v) → Heap.SameBut d s.heap h' → Q () { s with heap := h' })
    (hsz : kvs.length ≤ sizeLine) : wpAny (model prog w) A (dictPut d (knd.hash k) key v) Q E s := by
  obtain ⟨o, es, ep, ho, hc, hd, hk, hp, hn⟩ := hm
  have e1 := hp.length
  rw [Array.length_toList] at e1
  have hes : es.size ≤ sizeLine := by omega
  unfold dictPut
  refine wpAny_bind (wpAny_dictFind_of hkey ho hd hk ?_)
  have hidx : (es.findIdx? fun e => knd.is k e.key) = kvs.findIdx? fun kv => decide (kv.1 = k) := (by obtain ⟨l⟩ := es; simp : (es.findIdx? fun e => knd.is k e.key) = es.toList.findIdx? fun e => knd.is k e.key).trans (hp.findIdx k)
  cases hi : es.findIdx? fun e => knd.is k e.key with
  | some i =>
    have hl : (es.toList.findIdx? fun e => knd.is k e.key) = some i := (by obtain ⟨l⟩ := es; simp : (es.toList.findIdx? fun e => knd.is k e.key) = es.findIdx? fun e => knd.is k e.key).trans hi
    refine wpAny_updateDict ho hd (hQ _ ⟨_, _, ep, Heap.get?_update_self _ ho (Obj.isFreed_of_dict (Obj.data_mapDict hd _)), hc.mapDict _, Obj.data_mapDict hd _, hk.modify _ _, ?_, ?_⟩ (Heap.SameBut.update ..))
    · rw [stored, if_pos (any_of_findIdx_some (hidx ▸ hi))]
      have q := hp.modify hn hl v
      obtain ⟨l⟩ := es
      simpa using q
    · rw [stored, if_pos (any_of_findIdx_some (hidx ▸ hi)), keys_map_store]; exact hn
  | none =>
    have hnot : k ∉ kvs.map (·.1) := not_mem_of_findIdx_none (hidx ▸ hi)
    have hany : ¬ (kvs.any fun kv => decide (kv.1 = k)) = true := fun z => by
      obtain ⟨kv, hkv, he⟩ := List.any_eq_true.mp z
      exact hnot (List.mem_map.mpr ⟨kv, hkv, of_decide_eq_true he⟩)
    refine wpAny_updateDictKeys (hz := hes) ho hd (hQ _ ⟨_, _, ep + 1, Heap.get?_update_self _ ho (Obj.isFreed_of_dict (Obj.data_mapDictKeys hd _)), hc.mapDictKeys _, Obj.data_mapDictKeys hd _, hk.push hkey _, ?_, ?_⟩ (Heap.SameBut.update ..))
    · rw [stored, if_neg hany]
      have q := hp.append hkey (knd.hash k) v
      obtain ⟨l⟩ := es
      simpa using q
    · rw [stored, if_neg hany, List.map_append, List.nodup_append]
      exact ⟨hn, by simp, fun a ha b hb e => hnot (by simp at hb; rw [← hb, ← e]; exact ha)⟩
/-- keys that are no objects -/
def NoRef (knd : KeyKind prog w K) : Prop := ∀ k a, knd.is k (.ref a) = false
theorem mergeMapping_pairs {d o : Addr} {kvs more : List (K × Value)} {Q : Unit → Shared → Prop} (nr : NoRef knd) (hdo : d ≠ o) (hoS : (o == sysModules) = false) (hd : s.heap.DictOf knd d kvs) (ho : s.heap.DictOf knd o more) (hsz : kvs.length + more.length ≤ sizeLine)
    (hQ : ∀ h', h'.DictOf knd d (merged kvs more) → Heap.SameBut d s.heap h' → Q () { s with heap := h' }) : wpAny (model prog w) A (mergeMapping d (.ref o) false) Q E s := by
  obtain ⟨od, esd, epd, hod, hcd, hdd, hkd, hpd, hnd⟩ := id hd
  obtain ⟨oo, eso, epo, hoo, hco, hdo', hko, hpo, hno⟩ := id ho
  have hlen := hpo.length
  rw [Array.length_toList] at hlen
  unfold mergeMapping
  refine wpAny_bind (wpAny_isInstance ho.typeIs isSubtype_dict_dict ?_)
  rw [if_pos rfl]
  refine wpAny_bind (wpAny_specialOf ho.typeIs F.slot_dict_iter.lookup ?_)
  refine wpAny_bind (wpAny_pure ?_)
  simp only [beq_self_eq_true]
  rw [if_neg (by rw [hoS]; exact Bool.false_ne_true)]
  refine wpAny_bind (wpAny_dictEntries hod hdd ?_)
  have loop : ∀ Q : Unit → Shared → Prop, (∀ h', h'.DictOf knd d (merged kvs more) → Heap.SameBut d s.heap h' → Q () { s with heap := h' }) → wpAny (model prog w) A (do
      let l ← dictEntries o
      let epoch ← dictEpoch o
      forIn (List.range l.size) PUnit.unit fun i (_ : PUnit) => (do
          let l' ← dictEntries o
          match l'[i]? with
            | some e => do
              holding [e.key, e.val] (dictPut d e.hash e.key e.val)
              let ep' ← dictEpoch o
              if (ep' != epoch) = true then do
                  (unsupported "dict.changed-during-merge" : Sem PUnit)
                  pure (ForInStep.yield PUnit.unit)
                else pure (ForInStep.yield PUnit.unit)
            | _ => do
              (unsupported "dict.changed-during-merge" : Sem PUnit)
              pure (ForInStep.yield PUnit.unit) : Sem (ForInStep PUnit))
      pure ()) Q E s := by
    intro Q hQ
    refine wpAny_bind (wpAny_dictEntries hoo hdo' ?_)
    refine wpAny_bind (wpAny_dictEpoch hoo hdo' ?_)
    refine wpAny_bind ?_
    rw [List.range_eq_range']
    refine wpAny_forIn_list _ (fun rest _ s' => ∃ h' i, s' = { s with heap := h' } ∧ rest = List.range' i (eso.size - i) ∧ i ≤ eso.size ∧ h'.DictOf knd d (merged kvs (more.take i)) ∧ h'.get? o = some oo ∧ Heap.SameBut d s.heap h') _ ?_ ?_ _ _
      ⟨s.heap, 0, rfl, by simp, Nat.zero_le _, by simpa [merged] using hd, hoo, Heap.SameBut.refl _ _⟩
    · rintro x rest b s' ⟨h', i, rfl, hr, hi, hd', hoo', hs'⟩
      have hlt : i < eso.size := Nat.lt_of_not_le fun z => by
        rw [Nat.sub_eq_zero_of_le z] at hr; simp at hr
      obtain ⟨rfl, hrest⟩ : x = i ∧ rest = List.range' (i + 1) (eso.size - (i + 1)) := by
        rw [show eso.size - i = (eso.size - (i + 1)) + 1 by omega, List.range'_succ] at hr
        exact ⟨(List.cons.inj hr).1, (List.cons.inj hr).2⟩
      refine wpAny_bind (wpAny_dictEntries hoo' hdo' ?_)
      rw [Array.getElem?_eq_getElem hlt]
      have hxl : x < more.length := by omega
      have hkv : more[x]? = some more[x] := List.getElem?_eq_getElem hxl
      obtain ⟨hkey, hval⟩ := hpo.get? (e := eso[x]) (by simp [hlt]) (k := more[x].1) (v := more[x].2) hkv
      obtain ⟨k', hkey', hhash⟩ := hko eso[x] (Array.getElem_mem hlt)
      obtain rfl : k' = more[x].1 := knd.inj _ _ _ hkey' hkey
      show wpAny _ _ (holding [eso[x].key, eso[x].val] (dictPut d eso[x].hash eso[x].key eso[x].val) >>= _) _ _ _
      rw [hhash, hval]
      have hmx : (merged kvs (more.take x)).length ≤ sizeLine := Nat.le_trans (merged_length_le kvs (more.take x)) (by rw [List.length_take]; omega)
      refine wpAny_bind (wpAny_holding (dictPut_pairs hkey hd' (fun h'' hd'' hs'' => ?_) hmx))
      have hoo'' : h''.get? o = some oo := (hs''.2 o (Ne.symm hdo)).trans hoo'
      refine wpAny_bind (wpAny_dictEpoch hoo'' hdo' ?_)
      rw [if_neg (by simp)]
      exact wpAny_pure ⟨h'', x + 1, rfl, hrest, hlt, by rw [merged_take_succ kvs more x _ hkv]; exact hd'', hoo'', hs'.trans hs''⟩
    · rintro b s' ⟨h', i, rfl, hr, hi, hd', hoo', hs'⟩
      have hin : i = eso.size := Nat.le_antisymm hi (Nat.le_of_not_lt fun z => by
        rw [show eso.size - i = (eso.size - (i + 1)) + 1 by omega, List.range'_succ] at hr; cases hr)
      refine wpAny_pure (hQ h' ?_ hs')
      rw [hin, hlen, List.take_length] at hd'; exact hd'
  have fin := loop Q hQ
  split
  · refine wpAny_bind (wpAny_dictEntries hoo hdo' ?_)
    refine wpAny_bind (m := forIn eso PUnit.unit _) ?_
    rw [← Array.forIn_toList]
    refine wpAny_forIn_list _ (fun rest _ s' => s' = s ∧ ∀ e ∈ rest, e ∈ eso.toList) _ ?_ ?_ _ _ ⟨rfl, fun _ h => h⟩
    · rintro e rest b s' ⟨rfl, he⟩
      obtain ⟨k', hk', _⟩ := hko e (by simpa using he e (by simp))
      cases hek : e.key with
      | ref a =>
        rw [hek, nr k' a] at hk'
        cases hk'
      | _ => exact wpAny_pure ⟨rfl, fun e' h' => he e' (by simp [h'])⟩
    · rintro b s' ⟨rfl, _⟩
      exact fin
  · exact fin
end
theorem mix_noref (P : Program) (w : World) : NoRef (mixKind P w) := fun k a => by
  cases h : (mixKind P w).is k (.ref a) with
  | false => rfl
  | true =>
    rcases keyIs_shape (k := k) (v := .ref a) h with ⟨i, t, _, z⟩ | ⟨x, t, _, z⟩
    · cases z
    · cases z
section
variable {X : Cx} {ek er ev : Expr} {tk tr tv : TE} {pos : Pos}
/-- {**r, k: v}: p the new dict, q the one that holds k alone -/
def tDstar (tr tk tv : TE) : TE := fun σ H Q => ∀ p, H p = none → tr σ (upd H p (.dK [])) fun x H1 => ∃ a kvs, x = .ref a ∧ Rd H1 a (.dK kvs) ∧ H1 p = some (.dK []) ∧ a ≠ p ∧ kvs.length < sizeLine ∧
  ∀ q, (upd H1 p (.dK kvs)) q = none → tk σ (upd (upd H1 p (.dK kvs)) q (.dK [])) fun y H2 => tv σ H2 fun z H3 => ∃ κ, y = kV κ ∧ H3 p = some (.dK kvs) ∧ H3 q = some (.dK []) ∧ Q (.ref p) (upd (upd H3 q (.dK [(κ, z)])) p (.dK (putK kvs κ z)))
theorem pe_dstar (hr : PE X er tr) (hk : PE X ek tk) (hv : PE X ev tv) : PE X (.Dict [none, some ek] [er, ev] pos) (tDstar tr tk tv) := by
  refine ⟨fun pins s σ H Q I hq => ?_⟩
  rw [arm_eval_Dict]
  refine wpAny_bind (wpAny_standAt ?_)
  show wpAny _ _ (dictDisplay [(none, do let x ← eval er X.env; standAt pos; pure x), (some (eval ek X.env), do let x ← eval ev X.env; standAt pos; pure x)]) _ _ s
  unfold dictDisplay
  simp only [List.forIn_cons, List.forIn_nil]
  have hn := I.hok.fresh (Nat.le_refl s.heap.objs.size)
  have I1 := I.laid (a := s.heap.objs.size) (o := .dK []) (h' := s.heap.push { cls := .type "dict", data := .dict #[] }) (t' := s.toks) (fun _ _ q => Heap.get?_push_of_some _ q) (Nat.le_refl _) (dk_empty s.heap I.big)
  generalize hp : s.heap.objs.size = p at hn I1
  have q0 := hq p hn
  refine wpAny_bind (wpAny_bind (wpAny_bind ?_))
  rw [if_pos (by rfl)]
  refine wpAny_pure ?_
  dsimp only
  refine wpAny_bind (wpAny_alloc ?_)
  rw [hp]
  refine wpAny_bind (wpAny_holding (wpAny_bind (thn (hr.run pins _ σ _ _ I1 q0) fun u s1 ⟨x, H1, J1, rx, a, kvs, ex, ha, hp1, hne, hl, q1⟩ => wpAny_bind (wpAny_standAt (wpAny_pure ?_)))))
  subst ex
  obtain rfl : u = Value.ref a := rx
  obtain ⟨hz, hs0, vs, kv, hdo⟩ := dk_rd J1.hok ha
  obtain ⟨_, hsp, vs0, kv0, hdp⟩ := dk_of J1.hok hp1
  cases kv0
  have lk : kvs.length = vs.length := Paired.length kv
  obtain ⟨_, _, _, _, _, _, _, hnd⟩ := id hdo
  refine wpAny_bind (wpAny_onRaise (wpAny_tryCatch (wpAny_onRaise (wpAny_holding (mergeMapping_pairs (mix_noref _ _) (Ne.symm hne) hs0 hdp hdo (by rw [List.length_nil]; omega) fun h' hd' hs' => ?_)))))
  rw [merged_nil_of_nodup vs hnd.2] at hd'
  have he : ∃ q, h'.get? p = some q := let ⟨q, _, _, hq, _⟩ := hd'; ⟨q, hq⟩
  have J2 : Inv X pins σ (upd H1 p (.dK kvs)) { s1 with heap := h' } := d_write (t' := s1.toks) J1 (by rw [hp1]; exact True.intro) hs' he (dk_new (Nat.le_of_lt hl) hsp kv hd')
  refine wpAny_pure ?_
  dsimp only
  refine wpAny_bind ?_
  rw [if_neg (by simp)]
  refine wpAny_pure (wpAny_pure ?_)
  dsimp only
  refine wpAny_bind ?_
  rw [if_neg (by simp)]
  refine wpAny_bind (wpAny_holding (wpAny_subDict (knd := mixKind X.prog X.w) (by simp) ?_))
  have hq0 := J2.hok.fresh (Nat.le_refl h'.objs.size)
  have J3 := J2.laid (a := h'.objs.size) (o := .dK []) (h' := h'.push { cls := .type "dict", data := .dict #[] }) (t' := s1.toks) (fun _ _ q => Heap.get?_push_of_some _ q) (Nat.le_refl _) (dk_empty h' J2.big)
  have q2 := q1 _ hq0
  refine evalPairs_cons (thn (hk.run pins _ σ _ _ J3 q2) fun yv s3 ⟨y, H2, J4, ry, q3⟩ => ?_)
  refine wpAny_bind (thn (hv.run pins s3 σ H2 _ J4 q3) fun zv s4 ⟨z, H3, J5, rz, κ, ey, hp3, hq3, q4⟩ => wpAny_bind (wpAny_standAt (wpAny_pure ?_)))
  refine evalPairs_nil ?_
  subst ey
  obtain ⟨_, hsq, vsq, kvq, hdq⟩ := dk_of J5.hok hq3
  cases kvq
  refine ⟨[(κ, zv)], ⟨kV_is ry, rfl, True.intro⟩, hdq, fun h5 hd5 hs5 => ?_⟩
  have e5 : merged ([] : List (Key × Value)) [(κ, zv)] = [(κ, zv)] := rfl
  rw [e5] at hd5
  have he5 : ∃ q, h5.get? h'.objs.size = some q := let ⟨q, _, _, hq, _⟩ := hd5; ⟨q, hq⟩
  have J6 : Inv X pins σ (upd H3 h'.objs.size (.dK [(κ, z)])) { s4 with heap := h5, toks := s4.toks + 1 } := d_write J5 (by rw [hq3]; exact True.intro) hs5 he5 (dk_new (by show 1 ≤ sizeLine; decide) hsq (.cons ⟨rfl, rz⟩ .nil) hd5)
  have npq : p ≠ h'.objs.size := fun e => by
    rw [← e, upd_same] at hq0; cases hq0
  have hp6 : upd H3 h'.objs.size (.dK [(κ, z)]) p = some (.dK kvs) := by rw [upd_ne npq]; exact hp3
  obtain ⟨_, hsp6, vs6, kv6, hd6⟩ := dk_of J6.hok hp6
  have l6 : kvs.length = vs6.length := Paired.length kv6
  refine wpAny_bind (wpAny_onRaise (wpAny_holding (mergeMapping_pairs (mix_noref _ _) npq hsq hd6 hd5 (by simp; omega) fun h7 hd7 hs7 => ?_)))
  have he7 : ∃ q, h7.get? p = some q := let ⟨q, _, _, hq, _⟩ := hd7; ⟨q, hq⟩
  have hl7 : (putK kvs κ z).length ≤ sizeLine := Nat.le_trans (length_putK kvs κ z) hl
  have kv7 : KV (putK kvs κ z) (merged vs6 [(κ, zv)]) := kv6.put κ rz
  exact wpAny_pure (wpAny_pure ⟨.ref p, _, d_write (t' := s4.toks + 1) J6 (by rw [hp6]; exact True.intro) hs7 he7 (dk_new hl7 hsp6 kv7 hd7), rfl, q4⟩)
end
section
variable {A : CtD} {s : CtS} {e ea eb ec : Expr} {wa wb wc w : WE} {pos : Pos}
def wDstar (wr wk wv : WE) : WE := fun S k R => wr S k fun d k1 => match d with
  | .dk kvs => kvs.length < bigN ∧ wk S k1 fun q k2 => wv S k2 fun v k3 => ∃ κ, keyOf q = some κ ∧ R (.dk (putP kvs κ v)) k3
  | _ => False
theorem sf_dstar (hr : SE A s ea wa) (hk : SE A s eb wb) (hv : SE A s ec wc) : SF A s (.Dict [none, some eb] [ea, ec] pos) (wDstar wa wb wc) := by
  refine ⟨fun X t => pe_imp (pe_dstar (hr.run X t) (hk.run X t) (hv.run X t)) fun σ H Q ⟨Hb, S, k, R, W, x, q⟩ => ?_⟩
  intro p hp
  have na : p ≠ A.a := fun e => W.amb.na (e ▸ hp)
  have nb : p ≠ A.b.c := fun e => W.amb.nb (e ▸ hp)
  have W1 : Wd A.a A.b Hb σ (upd H p (.dK [])) S k := W.expr (Up.new hp) (W.amb.new hp)
  refine ⟨Hb, S, k, _, W1, x, fun d k1 v H1 u1 m1 r1 x1 => ?_⟩
  have W2 := W1.expr u1 m1
  have hp1 : H1 p = some (.dK []) := u1.own upd_same trivial na nb
  split at x1
  · obtain ⟨c, o, vs, rfl, hc, rr⟩ := r1.dk'
    refine ⟨c, vs, rfl, .inr ⟨o, hc⟩, hp1, (fun z => by rw [z, hp1] at hc; cases hc), bigN.lt (by rw [rr.length]; exact x1.1), fun p2 hp2 => ?_⟩
    have m2 : Amb A.a A.b k1 (upd H1 p (.dK vs)) := m1.set hp1 trivial na nb
    have u2 : Up A.a A.b H (upd H1 p (.dK vs)) := ((Up.new hp).trans u1).set hp
    have nb0 : Hb p = none := W.up.non p hp
    have no : ∀ j, ¬ Own σ S j p := fun j ow => by
      obtain ⟨_, _, h1, _⟩ := W.at_own ow
      rw [hp] at h1; cases h1
    have W3 : Wd A.a A.b Hb σ (upd H1 p (.dK vs)) S k1 := W2.side hp1 trivial no nb0 na nb
    have W4 : Wd A.a A.b Hb σ (upd (upd H1 p (.dK vs)) p2 (.dK [])) S k1 := W3.expr (Up.new hp2) (m2.new hp2)
    have n2a : p2 ≠ A.a := fun e => m2.na (e ▸ hp2)
    have n2b : p2 ≠ A.b.c := fun e => m2.nb (e ▸ hp2)
    have npp : p ≠ p2 := fun e => by rw [← e, upd_same] at hp2; cases hp2
    refine ⟨Hb, S, k1, _, W4, x1.2, fun q1 k2 y H2 u3 m3 r3 x3 => ⟨Hb, S, k2, _, W4.expr u3 m3, x3, fun v1 k3 z H3 u4 m4 r4 x4 => ?_⟩⟩
    obtain ⟨κ, hκ, x4⟩ := x4
    have u34 := u3.trans u4
    have hp3 : H3 p = some (.dK vs) := u34.own (by rw [upd_ne npp]; exact upd_same) trivial na nb
    have hq3 : H3 p2 = some (.dK []) := u34.own upd_same trivial n2a n2b
    rw [keyOf_eq hκ] at r3
    refine ⟨κ, r3.key, hp3, hq3, ?_⟩
    have uH3 : Up A.a A.b H H3 := (u2.trans (Up.new hp2)).trans u34
    have hp20 : H p2 = none := u2.non p2 hp2
    have m5 : Amb A.a A.b k3 (upd H3 p2 (.dK [(κ, z)])) := m4.set hq3 trivial n2a n2b
    have hp5 : upd H3 p2 (.dK [(κ, z)]) p = some (.dK vs) := by rw [upd_ne npp]; exact hp3
    refine q _ k3 _ _ ((uH3.set hp20).set hp) (m5.set hp5 trivial na nb) (.o hp upd_same (.k ?_)) x4
    have ps1 : Ps H1 (upd H1 p (.dK vs)) := ps_upd hp1 trivial
    have psA : Ps (upd H1 p (.dK vs)) H3 := (((Up.new (a := A.a) (b := A.b) hp2).trans u34).ps m2)
    have ps3 : Ps H3 (upd H3 p2 (.dK [(κ, z)])) := ps_upd hq3 trivial
    have ps4 : Ps (upd H3 p2 (.dK [(κ, z)])) (upd (upd H3 p2 (.dK [(κ, z)])) p (.dK (putK vs κ z))) := ps_upd hp5 trivial
    exact (((((rr.x.up ps1).up psA).put κ r4).up ps3).up ps4).k
  · exact x1.elim
end
end TL
set_option Elab.async false
set_option linter.all false
set_option maxRecDepth 100000
set_option maxHeartbeats 2000000
set_option autoImplicit false
/-! T19: x in d.values(). -/
namespace TL
open PySem
open PySem.Spec
open PyProof.Rows
open L2
theorem ci_entry : entryFor table "proto.contains_iter" = some Builtin.«proto.contains_iter» := entryFor_of_tree (by kernel_rfl)
theorem ci_plain : plainId "proto.contains_iter" = true := by decide +kernel
theorem ci_none : typeLookup (.type "dict_values") "__contains__" = pure none := am_miss_of_fast (by first | decide +kernel | rfl)
section
variable {prog : Program} {w : World} {K : Type} [DecidableEq K] {knd : KeyKind prog w K} {A : Around} {E : Value → Shared → Prop} {s : Shared}
theorem ci_loop {R : Result → Shared → Prop} {it d : Addr} {kvs : List (K × Value)} {ep : Nat} {x : Value} {ans : List Bool} (hh : A.handled = none) (hne : it ≠ d) (hl : ans.length = kvs.length)
    (he : ∀ (j : Nat) (p : K × Value) (b : Bool), kvs[j]? = some p → ans[j]? = some b → ∀ s, SeqAt.EqAt A.in1 s p.2 x b) :
    ∀ (n i : Nat) (s : Shared), i + n = kvs.length → s.heap.IsValIter it d i kvs.length ep → s.heap.DictAt knd d kvs ep →
      (∀ h' tk, (∀ b o, b ≠ it → s.heap.get? b = some o → h'.get? b = some o) → R (.ok (.ret (.bool ((ans.drop i).any fun b => b)))) { s with heap := h', toks := tk }) →
      codeAny (model prog w) A (.builtin "proto.contains_iter" ⟨[.ref it, x], []⟩) R s
  | 0, i, s, hi, hit, hm, hR => by
    refine codeAny_builtin ci_entry ?_
    rw [Around.under_plainId ci_plain _]
    show wpAny _ A.in1 (pyNext (.ref it) >>= _) _ _ s
    refine wpAny_bind (wpAny_pyNext_values_end (A := A.in1) hh hit hm (List.getElem?_eq_none (by omega)) fun h' hx => ?_)
    refine wpAny_bind (wpAny_rule (wpAny_pure ?_))
    have := hR h' s.toks fun b o hb e => hx b o hb e
    rw [List.drop_eq_nil_of_le (by omega)] at this
    exact this
  | n + 1, i, s, hi, hit, hm, hR => by
    have hlt : i < kvs.length := by omega
    have hlt2 : i < ans.length := by omega
    refine codeAny_builtin ci_entry ?_
    rw [Around.under_plainId ci_plain _]
    show wpAny _ A.in1 (pyNext (.ref it) >>= _) _ _ s
    refine wpAny_bind (wpAny_pyNext_values_item (k := kvs[i].1) (v := kvs[i].2) hit hm (List.getElem?_eq_getElem hlt) fun h' hit' sb => ?_)
    have hm' : h'.DictAt knd d kvs ep := hm.at' fun o e => (sb.2 d (Ne.symm hne)).trans e
    refine wpAny_bind ((he i kvs[i] ans[i] (List.getElem?_eq_getElem hlt) (List.getElem?_eq_getElem hlt2) _) prog w _ _ ?_)
    rw [List.drop_eq_getElem_cons hlt2] at hR
    cases hb : ans[i] with
    | true =>
      rw [if_pos rfl]
      refine wpAny_bind (wpAny_rule (wpAny_pure ?_))
      have := hR h' s.toks fun b o hb e => (sb.2 b hb).trans e
      rw [List.any_cons, hb, Bool.true_or] at this
      exact this
    | false =>
      rw [if_neg Bool.false_ne_true]
      refine wpAny_pure ⟨plainId_quiet ci_plain _, ci_loop hh hne hl he n (i + 1) _ (by omega) hit' hm' fun h2 tk hk => ?_⟩
      have := hR h2 tk fun b o hb e => hk b o hb ((sb.2 b hb).trans e)
      rw [List.any_cons, hb, Bool.false_or] at this
      exact this
end
section
variable {X : Cx} {e ex : Expr} {te tx : TE} {p apos cpos pos : Pos}
/-- what the values of a dict are, None or texts -/
def okVal : V → Bool
  | .non => true
  | .str _ => true
  | _ => false
def eqVal (x : Str) : V → Bool
  | .str y => decide (y = x)
  | _ => false
theorem eqVal_at {A : Around} {v : V} {u : Value} {x : Str} {t : Tok} (r : RelV v u) (h : okVal v = true) (s : Shared) : SeqAt.EqAt A s u (.str x t) (eqVal x v) := by
  cases v with
  | non => cases (show u = Value.none from r); exact SeqAt.EqAt.none_str x t
  | str y =>
    obtain ⟨t', rfl⟩ := r
    have := SeqAt.EqAt.str_str (A := A) (s := s) y t' x t
    rw [show (y == x) = decide (y = x) from by rw [Bool.eq_iff_iff]; simp] at this
    exact this
  | _ => cases h
theorem in_vals {neg : Bool} {pins : List (Addr × Obj)} {σ : L2.St} {H : Hp} {s : Shared} {Q : VK} {v d : Addr} {x : Str} {t : Tok} {kvs : List (Key × V)} (hc : X.calm = true) (I : Inv X pins σ H s) (hv : s.heap.IsValuesView v d) (hd : Rd H d (.dK kvs))
    (hk : ∀ kv ∈ kvs, okVal kv.2 = true) (q : Q (.bl (neg ^^ kvs.any fun kv => eqVal x kv.2)) H) : wpAny (model X.prog X.w) X.A (compareOp (if neg = true then .NotIn else .In) (.str x t) (.ref v)) (EP X pins σ Q) X.xe s := by
  have hh : X.A.handled = none := I.ok.hd hc
  obtain ⟨hz, hs0, vs, kv, hdo⟩ := dk_rd I.hok hd
  obtain ⟨ep, hat⟩ := hdo.dictAt
  have lk : kvs.length = vs.length := Paired.length kv
  have hT : s.TypeIs (.ref v) "dict_values" := let ⟨o, ho, hc, _⟩ := hv; ⟨o, ho, hc⟩
  have core : ∀ Q' : Bool → Shared → Prop, (∀ h' tk, (∀ b o, s.heap.get? b = some o → h'.get? b = some o) → Q' (kvs.any fun kv => eqVal x kv.2) { s with heap := h', toks := tk }) → wpAny (model X.prog X.w) X.A (contains (.ref v) (.str x t)) Q' X.xe s := by
    intro Q' hQ
    unfold contains
    refine wpAny_holding ?_
    show wpAny _ _ (specialOf (.ref v) "__contains__" >>= _) _ _ _
    refine wpAny_bind (wpAny_specialOf hT ci_none ?_)
    rw [if_neg (by decide)]
    refine wpAny_bind ?_
    unfold callSpecialUnlessNone?
    refine wpAny_bind (wpAny_specialOf hT ci_none (wpAny_pure ?_))
    refine wpAny_bind (wpAny_rule ?_)
    refine wpAny_bind (wpAny_tryCatch (wpAny_pyIter_values hv hat ?_))
    refine wpAny_bind (wpAny_runValue ?_)
    have hne : s.heap.objs.size ≠ d := Nat.ne_of_gt hat.lt_size
    have lens : (kvs.map fun kv => eqVal x kv.2).length = vs.length := by rw [List.length_map]; exact lk
    refine ci_loop (ans := kvs.map fun kv => eqVal x kv.2) hh hne lens (fun j pv b e1 e2 s' => ?_) vs.length 0 _ (by omega) ⟨_, Heap.get?_push_size _ rfl, rfl, rfl⟩ (hat.push _) fun h' tk hk' => ?_
    · rw [List.getElem?_map] at e2
      cases z : kvs[j]? with
      | none => rw [z] at e2; cases e2
      | some kk =>
        rw [z] at e2; cases e2
        obtain ⟨pv', h1, _, h2⟩ := L2.paired_get kv z
        rw [e1] at h1; cases h1
        exact eqVal_at h2 (hk kk (List.mem_of_getElem? z)) s'
    · rw [List.drop_zero, List.any_map]
      exact wpAny_pure (hQ h' tk fun b o e => hk' b o (Nat.ne_of_lt (Heap.lt_size e)) (Heap.get?_push_of_some _ e))
  unfold compareOp
  cases neg with
  | true =>
    refine wpAny_bind (core _ fun h' tk hk' => wpAny_pure ⟨.bl _, H, I.kept hk', rfl, ?_⟩)
    simpa using q
  | false =>
    refine wpAny_bind (core _ fun h' tk hk' => wpAny_pure ⟨.bl _, H, I.kept hk', rfl, ?_⟩)
    simpa using q
def tVin (neg : Bool) (tx te : TE) : TE := fun σ H Q => tx σ H fun x H1 => te σ H1 fun v H2 => ∃ y d kvs, x = .str y ∧ v = .ref d ∧ Rd H2 d (.dK kvs) ∧ (∀ kv ∈ kvs, okVal kv.2 = true) ∧ Q (.bl (neg ^^ kvs.any fun kv => eqVal y kv.2)) H2
theorem pc_vin {neg : Bool} (hc : X.calm = true) (hx : PE X ex tx) (he : PE X e te) (hbase : attributeBase e "values" X.env (eval e X.env) = eval e X.env) (hline : (apos.endLine == cpos.line) = true) :
    PC X (if neg = true then .NotIn else .In) ex (.Call (.Attribute e "values" apos) [] [] cpos) (tVin neg tx te) := by
  refine ⟨fun pins s σ H Q I hq => ?_⟩
  refine thn (hx.run pins s σ H _ I hq) fun xv s1 ⟨x, H1, I1, rx, q1⟩ => ?_
  refine wpAny_Call_method (T := "dict") (id := "dict.values") hbase rfl hline F.plainAttrs_dict F.slot_dict_values F.type_dict_values (thn (he.run pins s1 σ H1 _ I1 q1) fun u s2 ⟨v, H2, I2, rv, y, d, kvs, ex, ed, hd, hk, q⟩ => ?_)
  subst ex ed
  obtain rfl : u = Value.ref d := rv
  obtain ⟨t, rfl⟩ := (show ∃ t, xv = Value.str y t from rx)
  obtain ⟨hz, hs0, vs, kv, hdo⟩ := dk_rd I2.hok hd
  have I3 : Inv X pins σ H2 { s2 with heap := s2.heap.push { cls := .type "dict_values", data := .fields #[.ref d] } } := I2.kept (t' := s2.toks) fun b ob q => Heap.get?_push_of_some _ q
  refine ⟨hdo.typeIs, hdo.mapOf.noDict, ?_⟩
  show wpAny _ _ (callWith cpos (.builtin "dict.values") [.ref d] [] []) _ X.xe s2
  refine method_meetsIn F.slot_dict_values F.entry_dict_values rfl (PySem.evalArgs_none ⟨rfl, hdo.typeIs, F.args_dict_values_1 _, _, meets_dict_values (mixKind X.prog X.w) d hs0, ⟨vs, hdo⟩, ?_⟩)
  exact in_vals hc I3 ⟨_, Heap.get?_push_size _ rfl, rfl, rfl⟩ hd hk q
end
section
variable {A : CtD} {s : CtS} {e ea eb ec : Expr} {wa wb wc w : WE} {pos p1 p2 p3 : Pos}
def okP : PV → Bool
  | .non => true
  | .str _ => true
  | _ => false
def eqS (x : Str) : PV → Bool
  | .str y => decide (y = x)
  | _ => false
def vIn_values : VC := fun p q R => match p, q with
  | .str x, .dk kvs => (∀ kv ∈ kvs, okP kv.2 = true) ∧ R (kvs.any fun kv => eqS x kv.2)
  | _, _ => False
def vNotIn_values : VC := fun p q R => vIn_values p q fun b => R (!b)
theorem vals_ok {a : Addr} {H : Hp} : ∀ {vs : List (Key × V)} {ps : List (Key × PV)}, RepK a H vs ps → (∀ kv ∈ ps, okP kv.2 = true) → (∀ kv ∈ vs, okVal kv.2 = true) ∧ ∀ x, (vs.any fun kv => eqVal x kv.2) = ps.any fun kv => eqS x kv.2
  | _, _, .nil, _ => ⟨fun _ h => (by cases h), fun _ => rfl⟩
  | _, _, .cons (p := p) r t, h => by
    obtain ⟨h1, h2⟩ := vals_ok t fun kv hkv => h kv (by simp [hkv])
    have h0 := h _ (List.mem_cons_self ..)
    cases r with
    | non => exact ⟨fun kv hkv => (List.mem_cons.mp hkv).elim (fun z => by rw [z]; rfl) (h1 kv), fun x => by rw [List.any_cons, List.any_cons, h2 x]; rfl⟩
    | str y => exact ⟨fun kv hkv => (List.mem_cons.mp hkv).elim (fun z => by rw [z]; rfl) (h1 kv), fun x => by rw [List.any_cons, List.any_cons, h2 x]; rfl⟩
    | frz h r => cases r <;> cases h0
    | _ => cases h0
theorem vin_core {neg : Bool} (h : SE A s ea wa) (h' : SO A s eb wb) (hbase : ∀ env, attributeBase eb "values" env (eval eb env) = eval eb env) (hline : (p1.endLine == p2.line) = true) (X : Cx) (t : TX A s X) :
    PC X (if neg = true then .NotIn else .In) ea (.Call (.Attribute eb "values" p1) [] [] p2) (fun σ H Q => ∃ Hb S k R, Wd A.a A.b Hb σ H S k ∧ wCmp wa wb (fun p q R => vIn_values p q fun b => R (neg ^^ b)) S k R ∧ ∀ b k' H', Up A.a A.b H H' → Amb A.a A.b k' H' → R b k' → Q (.bl b) H') := by
  refine ⟨fun pins s' σ H Q I ⟨Hb, S, k, R, W, x, q⟩ => (pc_vin t.calm (h.run X t) (h'.run X t) (hbase X.env) hline).run pins s' σ H Q I ?_⟩
  refine ⟨Hb, S, k, _, W, x, fun p k1 v H1 u1 m1 r1 x1 => ⟨Hb, S, k1, _, W.expr u1 m1, x1, fun p2 k2 v2 H2 u2 m2 r2 x2 => ?_⟩⟩
  unfold vIn_values at x2
  dsimp only at x2
  split at x2
  · rename_i y kvs
    obtain rfl := (RepO.r r1 : RepO A.a A.b H1 v (.str y)).str
    obtain ⟨c, vs, rfl, hc, rr⟩ := r2.dk
    obtain ⟨o1, o2⟩ := vals_ok rr x2.1
    refine ⟨y, c, vs, rfl, rfl, hc, o1, ?_⟩
    rw [o2]
    exact q _ k2 H2 (u1.trans u2) m2 x2.2
  · exact x2.elim
theorem st_in_values (h : SE A s ea wa) (h' : SO A s eb wb) (hbase : ∀ env, attributeBase eb "values" env (eval eb env) = eval eb env := by intro _; rfl) (hline : (p1.endLine == p2.line) = true := by rfl) (hm : behindInMarks .In (.Call (.Attribute eb "values" p1) [] [] p2) = false := by rfl) :
    ST A s (.Compare ea [.In] [.Call (.Attribute eb "values" p1) [] [] p2] pos) (wCmp wa wb vIn_values) := by
  refine ⟨fun X t => pt_imp (pt_cmp (vin_core (neg := false) h h' hbase hline X t) hm) fun σ H Q ⟨Hb, S, k, R, W, x, q⟩ => ?_⟩
  refine ⟨Hb, S, k, R, W, ?_, fun b k' H' u m r => ⟨b, rfl, q b k' b H' u m rfl r⟩⟩
  simpa using x
theorem st_notin_values (h : SE A s ea wa) (h' : SO A s eb wb) (hbase : ∀ env, attributeBase eb "values" env (eval eb env) = eval eb env := by intro _; rfl) (hline : (p1.endLine == p2.line) = true := by rfl) (hm : behindInMarks .NotIn (.Call (.Attribute eb "values" p1) [] [] p2) = false := by rfl) :
    ST A s (.Compare ea [.NotIn] [.Call (.Attribute eb "values" p1) [] [] p2] pos) (wCmp wa wb vNotIn_values) := by
  refine ⟨fun X t => pt_imp (pt_cmp (vin_core (neg := true) h h' hbase hline X t) hm) fun σ H Q ⟨Hb, S, k, R, W, x, q⟩ => ?_⟩
  refine ⟨Hb, S, k, R, W, ?_, fun b k' H' u m r => ⟨b, rfl, q b k' b H' u m rfl r⟩⟩
  have x' : wCmp wa wb (fun p q R => vIn_values p q fun b => R (!b)) S k R := x
  simpa using x'
end
end TL
set_option Elab.async false
set_option linter.all false
set_option maxRecDepth 100000
set_option maxHeartbeats 4000000
set_option autoImplicit false
/-! T20: max(xs, key=lambda x: ..). -/
namespace TL
open PySem
open PySem.Spec
open PyProof.Rows
open L2
/-! ### the built-in: whatever stays true while the key is asked -/
section
variable {prog : Program} {w : World} {A : Around} {E : Value → Shared → Prop} {l q I S : Addr} {vs : List Value} {R : Result → Shared → Prop} {Q : Value → Shared → Prop}
structure MaxOk (prog : Program) (w : World) (A : Around) (l q I S : Addr) (vs : List Value) (kf : Nat → Int) (Z : Shared → Prop) : Prop where
  lst : ∀ s, Z s → s.heap.IsList l vs.toArray
  stay : ∀ s h' tk, Z s → (∀ b o, b ≠ S → b ≠ I → s.heap.get? b = some o → h'.get? b = some o) → Z { s with heap := h', toks := tk }
  turn : ∀ i v s, vs[i]? = some v → Z s → (∃ o, s.heap.get? S = some o) → (∃ o, s.heap.get? I = some o) → wpAny (model prog w) A.in1 (call (.ref q) [v]) (fun r s' => (∃ t, r = .int (kf i) t) ∧ Z s' ∧ ∀ b o, b = S ∨ b = I → s.heap.get? b = some o → s'.heap.get? b = some o) (fun _ _ => False) s
def BestAt (vs : List Value) (kf : Nat → Int) (i : Nat) : Prop := ∀ j, j < vs.length → kf i ≥ kf j ∧ (j < i → kf i > kf j)
theorem mk_loop {kf : Nat → Int} {Z : Shared → Prop} (M : MaxOk prog w A l q I S vs kf Z) (hh : A.handled = none) (hlI : l ≠ I) (hSI : S ≠ I) (hR : ∀ i v s', vs[i]? = some v → BestAt vs kf i → Z s' → R (.ok (.ret v)) s') :
    ∀ (r j i : Nat) (s : Shared) (vb : Value) (tb : Tok) (c : Nat), vs.length - (j + 1) = r → j + 1 ≤ vs.length → Z s → s.heap.get? S = some (seqObj "list" #[vb, .int (kf i) tb] c) → s.heap.IsListIter I l (j + 1) →
      vs[i]? = some vb → i ≤ j → (∀ j', j' ≤ j → kf i ≥ kf j' ∧ (j' < i → kf i > kf j')) → codeAny (model prog w) A (.builtin "max.loop" ⟨[.ref I, .ref q, .ref S], []⟩) R s := by
  have hname : (toString "max" ++ toString ".loop" : String) = "max.loop" := by decide
  have W := Walks.list (prog := prog) (w := w) (A := A.in1) hh I l hlI vs.toArray
  have hsz : vs.toArray.size = vs.length := List.size_toArray ..
  intro r
  induction r with
  | zero =>
    intro j i s vb tb c hr hj z hS hit hvb hij hbest
    have hin : j + 1 = vs.length := by omega
    refine codeAny_builtin PySem.F.entry_max_loop ?_
    rw [Around.under_plainId PySem.F.plain_max_loop _]
    show wpAny _ A.in1 (seqItems? (.ref S) >>= _) _ _ _
    refine wpAny_bind (wpAny_seqItems hS rfl ?_)
    show wpAny _ A.in1 (tryCatch (pyNext (.ref I)) _ >>= _) _ _ _
    refine wpAny_bind (wpAny_tryCatch (W.done _ _ _ ⟨by rw [hsz, ← hin]; exact hit, M.lst s z⟩ fun h' tk' hk' => ?_))
    have hS' := hk' S _ (by simpa using hSI) hS
    show wpAny _ A.in1 (updateSeq S (fun _ => #[]) >>= _) _ _ _
    refine wpAny_bind ?_
    refine wpAny_updateSeq hS' rfl (wpAny_bind (wpAny_letGo (wpAny_pure ?_)))
    refine hR i vb _ hvb (fun j' hj' => hbest j' (by omega)) (M.stay s _ _ z fun b o h1 h2 e => ?_)
    exact ((Heap.SameBut.update h' S (Obj.mapSeq fun _ => (#[] : Array Value))).2 b h1).trans (hk' b o (by simpa using h2) e)
  | succ r ih =>
    intro j i s vb tb c hr hj z hS hit hvb hij hbest
    have hlt : j + 1 < vs.length := by omega
    refine codeAny_builtin PySem.F.entry_max_loop ?_
    rw [Around.under_plainId PySem.F.plain_max_loop _]
    show wpAny _ A.in1 (seqItems? (.ref S) >>= _) _ _ _
    refine wpAny_bind (wpAny_seqItems hS rfl ?_)
    show wpAny _ A.in1 (tryCatch (pyNext (.ref I)) _ >>= _) _ _ _
    refine wpAny_bind (wpAny_tryCatch (W.item (j + 1) _ _ _ (by rw [hsz]; exact hlt) ⟨hit, M.lst s z⟩ fun v h' tk' hP hst' hk' => ?_))
    have hv : vs[j + 1]? = some v := by simpa using hP
    obtain ⟨oI, hoI, hoc, hod⟩ := id hst'.1
    have z1 : Z { s with heap := h', toks := tk' } := M.stay s h' tk' z fun b o _ h2 e => hk' b o (by simpa using h2) e
    show wpAny _ A.in1 (tryCatch (holding [v] (call (.ref q) [v])) _ >>= _) _ _ _
    refine wpAny_bind (wpAny_tryCatch (wpAny_holding (wpAny_mono (M.turn (j + 1) v _ hv z1 ⟨_, hk' S _ (by simpa using hSI) hS⟩ ⟨_, hoI⟩) (fun x s2 he => ?_) fun _ _ hF => hF.elim)))
    obtain ⟨⟨t2, rfl⟩, z2, k2⟩ := he
    have hS2 := k2 S _ (.inl rfl) (hk' S _ (by simpa using hSI) hS)
    have hI2 := k2 I _ (.inr rfl) hoI
    have hit2 : s2.heap.IsListIter I l (j + 1 + 1) := ⟨oI, hI2, hoc, hod⟩
    show wpAny _ A.in1 (tryCatch (holding [v, .int (kf (j + 1)) t2] (richCompare .Gt (.int (kf (j + 1)) t2) (.int (kf i) tb) >>= _)) _ >>= _) _ _ _
    refine wpAny_bind (wpAny_tryCatch (wpAny_holding (wpAny_bind (CmpOf.ints_gt (prog := prog) (w := w) (A := A.in1) (P := fun i v => ∃ t, v = .int (kf i) t) kf (fun i v h => h) (j + 1) i _ _ _ _ _ ⟨t2, rfl⟩ ⟨tb, rfl⟩ ?_))))
    refine wpAny_bind (wpAny_holding (wpAny_truthy_bool ?_))
    refine wpAny_bind (wpAny_letGo (wpAny_pure ?_))
    by_cases hb' : kf (j + 1) > kf i
    · have s1 := Heap.SameBut.update s2.heap S (Obj.mapSeq fun _ => #[v, .int (kf (j + 1)) t2])
      obtain ⟨c2, hc2⟩ : ∃ c2, (s2.heap.update S (Obj.mapSeq fun _ => #[v, .int (kf (j + 1)) t2])).get? S = some (seqObj "list" #[v, .int (kf (j + 1)) t2] c2) := ⟨_, get?_update_seq hS2 fun _ => #[v, .int (kf (j + 1)) t2]⟩
      simp only [hb', decide_true, if_true]
      refine wpAny_bind ?_
      refine wpAny_updateSeq hS2 rfl (wpAny_bind (wpAny_letGo ?_))
      rw [hname]
      refine wpAny_pure ⟨plainId_quiet PySem.F.plain_max_loop _, ih (j + 1) (j + 1) _ v t2 c2 (by omega) hlt (M.stay s2 _ _ z2 fun b o h1 _ e => (s1.2 b h1).trans e) hc2 ⟨oI, (s1.2 I hSI.symm).trans hI2, hoc, hod⟩ hv (Nat.le_refl _) fun j' hj' => ?_⟩
      by_cases e : j' = j + 1
      · subst e
        exact ⟨by omega, fun _ => by omega⟩
      · have hb1 := (hbest j' (by omega)).1
        exact ⟨by omega, fun _ => by omega⟩
    · simp only [hb', decide_false, Bool.false_eq_true, if_false]
      refine wpAny_bind (wpAny_letGo ?_)
      rw [hname]
      refine wpAny_pure ⟨plainId_quiet PySem.F.plain_max_loop _, ih (j + 1) i _ vb tb c (by omega) hlt z2 hS2 hit2 hvb (by omega) fun j' hj' => ?_⟩
      by_cases e : j' = j + 1
      · subst e
        exact ⟨by omega, fun _ => by omega⟩
      · exact hbest j' (by omega)
theorem mk_max {kf : Nat → Int} {Z : Shared → Prop} {s : Shared} (M : MaxOk prog w A l q s.heap.objs.size (s.heap.objs.size + 1) vs kf Z) (hh : A.handled = none) (hl : s.heap.IsList l vs.toArray) (hne : 0 < vs.length)
    (h0 : ∀ h', (∀ b o, s.heap.get? b = some o → h'.get? b = some o) → Z { s with heap := h' }) (hQ : ∀ i v s', vs[i]? = some v → BestAt vs kf i → Z s' → Q v s') :
    wpAny (model prog w) A (call (.builtin "max") [.ref l] [(Str.ofString "key", .ref q)]) Q E s := by
  have hname : (toString "max" ++ toString ".loop" : String) = "max.loop" := by decide
  obtain ⟨ol, hol, _⟩ := id hl
  have hlI : l ≠ s.heap.objs.size := Nat.ne_of_lt (Heap.lt_size hol)
  refine kmk_tree PySem.F.kind_max PySem.F.plain_max PySem.F.entry_max (kmk_max_key _ _) ?_
  show wpAny _ A.in1 (Builtin.Builtins.bindParams "max" ["key", "default"] 0 ⟨[], [(Str.ofString "key", .ref q)]⟩ >>= _) _ _ s
  refine wpAny_bind (wpAny_of_eq (show Builtin.Builtins.bindParams "max" ["key", "default"] 0 ⟨[], [(Str.ofString "key", .ref q)]⟩ = pure [some (.ref q), none] from rfl) ?_)
  refine wpAny_bind (wpAny_pure ?_)
  refine wpAny_bind (wpAny_pyIter_list hl ?_)
  refine wpAny_bind (wpAny_newList ?_ (Nat.zero_le _))
  rw [hname]
  generalize hoi : ({ cls := .type "list_iterator", data := .fields #[.ref l, .int 0 0] } : Obj) = oi
  have hS : (s.heap.push oi).objs.size = s.heap.objs.size + 1 := size_push' ..
  have hSI : s.heap.objs.size + 1 ≠ s.heap.objs.size := Nat.succ_ne_self _
  refine wpAny_pure ⟨plainId_quiet PySem.F.plain_max_loop _, ?_⟩
  have gI : ((s.heap.push oi).push (seqObj "list" #[] 0)).get? s.heap.objs.size = some oi := Heap.get?_push_of_some _ (Heap.get?_push_size _ (by rw [← hoi]; rfl))
  have gS : ((s.heap.push oi).push (seqObj "list" #[] 0)).get? (s.heap.objs.size + 1) = some (seqObj "list" #[] 0) := by rw [← hS]; exact Heap.get?_push_size _ rfl
  have z0 : Z { s with heap := (s.heap.push oi).push (seqObj "list" #[] 0) } := h0 _ fun b o e => Heap.get?_push_of_some _ (Heap.get?_push_of_some _ e)
  have W := Walks.list (prog := prog) (w := w) (A := A.in1) hh s.heap.objs.size l hlI vs.toArray
  have hsz : vs.toArray.size = vs.length := List.size_toArray ..
  show codeAny _ _ (.builtin "max.loop" ⟨[.ref s.heap.objs.size, .ref q, .ref (s.heap.push oi).objs.size], []⟩) _ { s with heap := (s.heap.push oi).push (seqObj "list" #[] 0) }
  rw [hS]
  refine codeAny_builtin PySem.F.entry_max_loop ?_
  rw [Around.under_plainId PySem.F.plain_max_loop _]
  show wpAny _ A.in1 (seqItems? (.ref _) >>= _) _ _ _
  refine wpAny_bind (wpAny_seqItems gS rfl ?_)
  show wpAny _ A.in1 (tryCatch (pyNext (.ref s.heap.objs.size)) _ >>= _) _ _ _
  refine wpAny_bind (wpAny_tryCatch (W.item 0 _ _ _ (by rw [hsz]; exact hne) ⟨⟨_, gI, by rw [← hoi], by rw [← hoi]; rfl⟩, M.lst _ z0⟩ fun v h' tk' hP hst' hk' => ?_))
  have hv : vs[0]? = some v := by simpa using hP
  obtain ⟨oI, hoI, hoc, hod⟩ := id hst'.1
  have z1 : Z { s with heap := h', toks := tk' } := M.stay { s with heap := (s.heap.push oi).push (seqObj "list" #[] 0) } h' tk' z0 fun b o _ h2 e => hk' b o (by simpa using h2) e
  show wpAny _ A.in1 (tryCatch (holding [v] (call (.ref q) [v])) _ >>= _) _ _ _
  refine wpAny_bind (wpAny_tryCatch (wpAny_holding (wpAny_mono (M.turn 0 v _ hv z1 ⟨_, hk' (s.heap.objs.size + 1) _ (by simp) gS⟩ ⟨_, hoI⟩) (fun x s2 he => ?_) fun _ _ hF => hF.elim)))
  obtain ⟨⟨t2, rfl⟩, z2, k2⟩ := he
  have hS2 := k2 _ _ (.inl rfl) (hk' (s.heap.objs.size + 1) _ (by simp) gS)
  have hI2 := k2 _ _ (.inr rfl) hoI
  have s1 := Heap.SameBut.update s2.heap (s.heap.objs.size + 1) (Obj.mapSeq fun _ => #[v, .int (kf 0) t2])
  obtain ⟨c2, hc2⟩ : ∃ c2, (s2.heap.update (s.heap.objs.size + 1) (Obj.mapSeq fun _ => #[v, .int (kf 0) t2])).get? (s.heap.objs.size + 1) = some (seqObj "list" #[v, .int (kf 0) t2] c2) := ⟨_, get?_update_seq hS2 fun _ => #[v, .int (kf 0) t2]⟩
  show wpAny _ A.in1 (updateSeq (s.heap.objs.size + 1) (fun _ => #[v, .int (kf 0) t2]) >>= _) _ _ _
  refine wpAny_bind ?_
  refine wpAny_updateSeq hS2 rfl ?_
  rw [hname]
  refine wpAny_pure ⟨plainId_quiet PySem.F.plain_max_loop _, mk_loop M hh hlI hSI (fun i v s' h1 h2 h3 => hQ i v s' h1 h2 h3) _ 0 0 _ v t2 c2 rfl hne (M.stay s2 _ _ z2 fun b o h1 _ e => (s1.2 b h1).trans e) hc2 ⟨oI, (s1.2 _ hSI.symm).trans hI2, hoc, hod⟩ hv (Nat.le_refl _) fun j' hj' => ?_⟩
  have e : j' = 0 := by omega
  subst e
  exact ⟨by omega, fun h => absurd h (Nat.lt_irrefl _)⟩
end
end TL
set_option Elab.async false
set_option linter.all false
set_option maxRecDepth 100000
set_option maxHeartbeats 4000000
set_option autoImplicit false
/-! T21: max(xs, key=lambda x: ..), one captured name. -/
namespace TL
open PySem
open PySem.Spec
open PyProof.Rows
open L2
open LamX NdefX
section
variable {X : Cx} {pins : List (Addr × Obj)} {σ : L2.St} {H : Hp} {s : Shared}
theorem upd_gone {H : Hp} {a b : Addr} {o : HO} (h : upd H a o b = Option.none) : H b = Option.none := by
  unfold upd at h
  split at h
  · exact nomatch h
  · exact h
/-- a lambda is made; nothing that was tracked is gone -/
theorem lam_new {Ts : List (Addr × Str)} {c P : Addr} {params : Arguments} {body : Expr} {scope : Scope} {pos : Pos} {E Q : Value → Shared → Prop} (I : Inv X pins σ H s) (B : TabB X.base X.mg c P)
    (hc0 : X.env.code = .ref c) (hm : (P, X.env.qual ++ "<lambda>") ∈ Ts) (hu : ∀ p ∈ Ts, p.1 = P → p.2 = X.env.qual ++ "<lambda>") (hT : Tabs Ts H) (hdef : defaultsOf params X.env = ([], []))
    (hfree : ∀ y ∈ scope.names, y.2 = .free → ∃ c, X.env.cells.lookup y.1 = some c)
    (h : ∀ (f c' : Addr) (pm ctv : Value) (H1 : Hp) (s' : Shared), Inv X pins σ H1 s' → ExtN H H1 → (∀ b, H1 b = Option.none → H b = Option.none) → Tabs Ts H1 →
      s'.heap.get? f = some (PySem.W.kla_obj "<lambda>" (X.env.qual ++ "<lambda>") params body scope (cloFrom X.env.cells scope.names []) pm c' ctv) → H1 f = none → H1 c' = some (CodeO c' (X.env.qual ++ "<lambda>")) → f ∉ frs X.stack → Q (.ref f) s') :
    wpAny (model X.prog X.w) X.A (eval (.Lambda params body scope pos) X.env) Q E s := by
  obtain ⟨tri, atP, okT, cod⟩ := hT _ hm
  refine PySem.W.kla_eval hdef ?_
  have bP := B.bm.keeps (h := X.base) (h' := s.heap) I.bk
  have rawP : s.heap.get? P = some { cls := .none, data := .fields tri } := I.hok P _ atP
  have young : ∀ f, s.heap.objs.size ≤ f → f ∉ frs X.stack := fun f hf z => by
    rcases List.mem_cons.mp (I.stkSub _ z) with e | e
    · have h1 := I.lt
      rw [← e] at h1
      exact absurd h1 (Nat.not_lt.mpr hf)
    · exact I.nofs hf e
  rcases hf : codeAmong pos tri.toList with _ | cv
  · refine PySem.W.kla_makeFunction (mg := X.mg) (c := c) (P := P) (ps := tri) (closure_ok hfree) I.ok.glob (I.mod.glob.keeps I.bk) hc0 (B.code.keeps I.bk) rawP okT hf B.gP bP fun c' ctv h' tk grown low lt' rec' tabN => ?_
    obtain ⟨c2, oc, vs, t, e2, hoc, hd, hv⟩ := rec'
    obtain rfl : c' = c2 := Value.ref.inj e2
    have big : s.heap.objs.size ≤ h'.objs.size := Nat.le_of_lt (Nat.lt_of_le_of_lt low lt')
    have nC : H c' = none := I.hok.fresh low
    have I1 := inv_table (t' := tk) (more := #[rawInt pos.line, rawInt pos.col, .ref c']) (h' := h'.push (PySem.W.kla_obj "<lambda>" (X.env.qual ++ "<lambda>") params body scope (cloFrom X.env.cells scope.names []) ((X.mg "__name__").getD .none) c' ctv))
      I atP (fun b o hb e => Heap.get?_push_of_some _ (grown b o hb e)) (Heap.get?_push_of_some _ tabN) low ⟨oc, vs, t, Heap.get?_push_of_some _ hoc, hd, hv⟩
    have ext : ExtN H (upd (upd H P (.tbl (tri ++ #[rawInt pos.line, rawInt pos.col, .ref c']))) c' (CodeO c' (X.env.qual ++ "<lambda>"))) := by
      intro b o e n
      have n1 : b ≠ c' := ne_of_none e nC
      have n2 : b ≠ P := fun z => n tri (Option.some.inj (e.symm.trans (by rw [z]; exact atP)))
      rw [upd_ne n1, upd_ne n2]
      exact e
    have asL : (tri ++ #[rawInt pos.line, rawInt pos.col, .ref c']).toList = tri.toList ++ [rawInt pos.line, rawInt pos.col, .ref c'] := by simp
    refine h h'.objs.size c' ((X.mg "__name__").getD .none) ctv _ _ I1 ext (fun b z => upd_gone (upd_gone z)) (fun p hp => ?_) (Heap.get?_push_size _ rfl) ?_ upd_same (young _ big)
    · by_cases hb : p.1 = P
      · rw [hu p hp hb, hb]
        refine ⟨_, by rw [upd_ne (ne_of_none atP nC), upd_same], by rw [asL]; exact PySem.TriplesOk_snoc _ _ _ _ okT, fun p' cv hcv => ?_⟩
        rw [asL] at hcv
        rcases among_app _ okT hcv with z | z
        · obtain ⟨c0, e1, e2⟩ := cod p' cv z
          exact ⟨c0, e1, ext _ _ e2 codeO_ne⟩
        · exact ⟨c', z, upd_same⟩
      · obtain ⟨tri', a1, a2, a3⟩ := hT p hp
        refine ⟨tri', by rw [upd_ne (ne_of_none a1 nC), upd_ne hb]; exact a1, a2, fun p' cv hcv => ?_⟩
        obtain ⟨c0, e1, e2⟩ := a3 p' cv hcv
        exact ⟨c0, e1, ext _ _ e2 codeO_ne⟩
    · have n1 : h'.objs.size ≠ c' := Nat.ne_of_gt lt'
      have n2 : h'.objs.size ≠ P := Nat.ne_of_gt (Nat.lt_of_lt_of_le (Heap.lt_size rawP) big)
      rw [upd_ne n1, upd_ne n2]
      exact I.hok.fresh big
  · obtain ⟨c', e, hco⟩ := cod pos cv hf
    subst e
    refine PySem.W.kla_makeFunctionHit (mg := X.mg) (c := c) (P := P) (ps := tri) (closure_ok hfree) I.ok.glob (I.mod.glob.keeps I.bk) hc0 (B.code.keeps I.bk) rawP okT hf bP fun ctv h' tk grown big => ?_
    have I1 : Inv X pins σ H { s with heap := h'.push (PySem.W.kla_obj "<lambda>" (X.env.qual ++ "<lambda>") params body scope (cloFrom X.env.cells scope.names []) ((X.mg "__name__").getD .none) c' ctv), toks := tk } :=
      I.kept fun b o z => Heap.get?_push_of_some _ (grown b o z)
    exact h h'.objs.size c' ((X.mg "__name__").getD .none) ctv H _ I1 (ExtN.refl H) (fun _ z => z) hT (Heap.get?_push_size _ rfl) (I.hok.fresh big) hco (young _ big)
/-- the lambda's call, one argument -/
theorem lam_call1 {cl : List (Str × Addr)} {ws : List (Option V)} {fr N : List Str} {x : Str} {f c' : Addr} {qual : Str} {params : Arguments} {body : Expr} {scope : Scope} {pm ctv : Value} {te : TE} {v : V} {u : Value} {Q : VK}
    (I : Inv X pins σ H s) (S : NScope N [x] fr scope) (hfo : s.heap.get? f = some (PySem.W.kla_obj "<lambda>" qual params body scope cl pm c' ctv)) (hc : H c' = some (CodeO c' qual)) (C : CellsAt cl fr ws s.heap H)
    (hb : bindArgs (PySem.W.kla_fn "<lambda>" qual params body scope cl pm (.ref c') ctv) ⟨[u], []⟩ = pure [(x, u)]) (r : L2.RelV v u) (hr : Room 8 X.A)
    (hbody : Room 6 (ncx CX0 X.prog X.w X.K X.mg X.base N ⟨"<lambda>", qual, params, [], scope, cl, c'⟩ f X.A.in1 X.stack s H (fun _ _ _ => False)).A → PE (ncx CX0 X.prog X.w X.K X.mg X.base N ⟨"<lambda>", qual, params, [], scope, cl, c'⟩ f X.A.in1 X.stack s H (fun _ _ _ => False)).nox body te)
    (hq : te (startF N [v] ws) H Q) : wpAny (model X.prog X.w) X.A.in1 (call (.ref f) [u]) (fun u s' => CE X.stack X.prog X.w H s Q u s') (fun _ _ => False) s := by
  have e0 := I.env0.in1
  have lim : s.heap.NoLimit := e0.mod.nolimit.keeps fun b o e => (e0.bs b o e).1
  have rc : codeAny (model X.prog X.w) X.A.in1 (.call (.ref f) ⟨[u], []⟩) (CR CX0 X.stack X.prog X.w H s Q (fun _ _ _ => False)) s := by
    refine PySem.W.kla_callFunE hr.in1.depth hfo rfl S.co S.gen rfl (codeO_at e0.hok hc) ?_
    rw [hb]
    refine wpAny_pure (wpAny_newFunctionEnv S.nocell (fun y hy => by
      obtain rfl := List.mem_singleton.mp hy
      exact S.par _ (List.mem_singleton.mpr rfl)) (fun h₁ hns hsb => ⟨lim.fresh _ hsb, ?_⟩) S.kind)
    show codeAny _ _ (.expr body (envF ⟨"<lambda>", qual, params, [], scope, cl, c'⟩ f s.heap.objs.size)) _ _
    have kp : ∀ b o, s.heap.get? b = some o → h₁.get? b = some o := fun b o e => hsb.extBut b o (Nat.ne_of_lt (Heap.lt_size e)) (Heap.get?_push_of_some _ e)
    have J : Inv (ncx CX0 X.prog X.w X.K X.mg X.base N ⟨"<lambda>", qual, params, [], scope, cl, c'⟩ f X.A.in1 X.stack s H (fun _ _ _ => False)) [] (startF N [v] ws) H { s with heap := h₁, toks := s.toks + ([(x, u)] : List (Str × Value)).length } :=
      inv_startN (F := ⟨"<lambda>", qual, params, [], scope, cl, c'⟩) S hr.in1.hd e0 (ps := [x]) (us := [u]) rfl (.cons r .nil) C hns kp
    refine PySem.W.kla_codeExpr (wpAny_mono ((hbody (hr.in1.deeper _)).nox.run [] _ _ H Q J hq) (fun v' s' hq' => ?_) fun e s' hq' => hq')
    obtain ⟨w', H', J', rv, q⟩ := hq'
    exact ⟨w', H', J'.os, J'.bare, J'.base, J'.hok, rv, q⟩
  refine wpAny_call (codeAny_mono rc fun r s' hq' => ?_)
  cases r with
  | error e => exact hq'.elim
  | ok fl =>
    cases fl with
    | ret u => exact hq'
    | next => exact hq'.elim
    | brk => exact hq'.elim
    | cont => exact hq'.elim
end
end TL
namespace TL
open PySem
open PySem.Spec
open PyProof.Rows
open L2
open LamX NdefX
/-- the greatest by a key: the first of the greatest ones -/
def BestOf (n : Nat) (kf : Nat → Int) (i : Nat) : Prop := ∀ j, j < n → kf i ≥ kf j ∧ (j < i → kf i > kf j)
def wMaxKey (j : Nat) (wl wb : WE) : WE := fun S k R => wl S k fun p k1 => ∃ xs t, p = .lst xs ∧ 0 < xs.length ∧ S[j]? = some t ∧ ∃ kf : Nat → Int, (∀ i x, xs[i]? = some x → wb [.fz x, t] k1 fun q k2 => q = .int (kf i) ∧ k2 = k1) ∧
  ∀ i x, xs[i]? = some x → BestOf xs.length kf i → R x k1
section
variable {A : CtD} {s : CtS} {el body : Expr} {x y P0 : Str} {wl wb : WE} {params : Arguments} {scope : Scope} {pos p1 p2 p3 : Pos} {P : Addr} {q : Str}
theorem slot_ow {a : Addr} {H : Hp} {σ : L2.St} {j : Nat} {t : Slot} (h : SlotR a H σ[j]? t) : SlotR a H (some (slotAt σ j)) t := by
  cases t with
  | un => trivial
  | fz p =>
    obtain ⟨v, e, r⟩ := h
    exact ⟨v, congrArg some (slotAt_of e), r⟩
  | ow p =>
    obtain ⟨c, u, e, r⟩ := h
    exact ⟨c, u, congrArg some (slotAt_of e), r⟩
theorem isList_at {h : Heap} {l : Addr} {vs : Array Value} {o : Obj} {h' : Heap} (z : h.IsList l vs) (e : h.get? l = some o) (e' : h'.get? l = some o) : h'.IsList l vs := by
  obtain ⟨o2, e2, r⟩ := z
  rw [e] at e2
  cases e2
  exact ⟨o, e', r⟩
theorem se_maxKey (j : Nat) (htb : A.tb = some (P, q)) (hl : SE A s el wl) (hb : SE { a := A.a, b := A.b, fns := [], bl := [] } ⟨[x, y], scope, fun _ => false⟩ body wb) (hg : glB s "max" = true) (hbl : A.bl.contains "max" = true) (hj : s.N[j]? = some y)
    (hS : nscB [x, y] [x] [y] scope = true) (hF : ndefB s.sc scope [y] = true) (hbind : ∀ qual cl pm c' ctv u, bindArgs (PySem.W.kla_fn "<lambda>" qual params body scope cl pm (.ref c') ctv) ⟨[u], []⟩ = pure [(x, u)] := by intro _ _ _ _ _ _; rfl)
    (hdef : ∀ env, defaultsOf params env = ([], []) := by intro _; rfl) (hst : ∀ env, starEach [el] env = [(false, eval el env)] := by intro _; rfl) :
    SE A s (.Call (.Name "max" p1) [el] [⟨some "key", .Lambda params body scope p2, p3⟩] pos) (wMaxKey j wl wb) := by
  refine ⟨fun X t => ⟨fun pins s1 σ H Q I hq => ?_⟩⟩
  obtain ⟨Hb, S, k, R, W, hw, post⟩ := hq
  obtain ⟨hm, hu, hqual, hr8, c, hcode, TB⟩ := t.tab P q htb
  obtain ⟨g1, g2, g3⟩ := glB.gl hg t
  have NS := nscope_by hS
  have hfree : ∀ z ∈ scope.names, z.2 = .free → X.env.scope.names.lookup z.1 = some .cell ∨ X.env.scope.names.lookup z.1 = some .free := by
    rw [t.sc]; exact ndef_free hF
  have hfr : ∀ z ∈ [y], (z, NameKind.free) ∈ scope.names := ndef_fr hF
  have hfree2 : ∀ z ∈ scope.names, z.2 = .free → ∃ c, X.env.cells.lookup z.1 = some c := fun z hz e => (hfree z hz e).elim (fun w => I.ok.has _ (.inl w)) fun w => I.ok.has _ (.inr w)
  refine wpAny_Call_Name_kw (ld_blt I g1 (blt t hbl) (by decide +kernel : bootBuiltins "max" = some (.builtin "max")) ?_)
  refine PyProof.Rows.callWith_kw (thn ((pa_cons (hl.run X t) pa_nil (hst X.env)).run pos pins s1 σ H (fun vs H1 => ∃ v p k1, vs = [v] ∧ Up A.a A.b H H1 ∧ Amb A.a A.b k1 H1 ∧ Rep A.a H1 v p ∧ (∃ xs t, p = .lst xs ∧ 0 < xs.length ∧ S[j]? = some t ∧ ∃ kf : Nat → Int,
    (∀ i x, xs[i]? = some x → wb [.fz x, t] k1 fun q k2 => q = .int (kf i) ∧ k2 = k1) ∧ ∀ i x, xs[i]? = some x → BestOf xs.length kf i → R x k1)) I
    ⟨Hb, S, k, _, W, hw, fun p k1 v H1 u1 m1 r1 z => ⟨v, p, k1, rfl, u1, m1, r1, z⟩⟩) fun us s2 ⟨vs, H1, I1, r1, v, p, k1, hv, u1, m1, rp, xs, tj, hp, hne, hSj, kf, hkey, hfin⟩ => ?_) (by rw [hst X.env] <;> rfl) (by rw [hst X.env] <;> rfl) rfl rfl
  subst hv
  subst hp
  obtain ⟨v1, rfl, rv1⟩ := vals1 r1
  obtain ⟨l, o, ys, rfl, hl1, rys⟩ := rp.lst'
  obtain rfl : v1 = Value.ref l := rv1
  refine PyProof.Rows.kws_cons (lam_new I1 TB hcode (by rw [hqual]; exact hm) (by rw [hqual]; exact hu) m1.tb (hdef X.env) hfree2 fun f c' pm ctv H2 s3 I2 ext non tb2 hfo hfn hco hfr2 => PyProof.Rows.kws_nil ?_)
  show wpAny _ _ (call (.builtin "max") [.ref l] [(Str.ofString "key", .ref f)]) _ _ s3
  have u2 : Up A.a A.b H1 H2 := ⟨fun b o e n _ _ => ext b o e n, non⟩
  have m2 : Amb A.a A.b k1 H2 := by
    obtain ⟨za, ea⟩ := m1.at_a
    obtain ⟨zb, eb⟩ := m1.at_b
    exact m1.same ((ext _ _ ea fun _ z => nomatch z).trans ea.symm) ((ext _ _ eb fun _ z => nomatch z).trans eb.symm) tb2
  have hl2 : H2 l = some (.frz o (.lst ys)) := ext _ _ hl1 fun _ z => nomatch z
  obtain ⟨its, rits, plain, hsz⟩ := I2.list (xs := ys) (.inl (.inr ⟨_, hl2⟩))
  have hol : s3.heap.get? l = some o := (I2.hok l _ hl2).1
  have len1 : ys.length = xs.length := rys.length
  have len2 : ys.length = its.length := rits.length
  have hfs : f < s3.heap.objs.size := Heap.lt_size hfo
  have hfI : f ≠ s3.heap.objs.size := Nat.ne_of_lt hfs
  have hfS : f ≠ s3.heap.objs.size + 1 := Nat.ne_of_lt (Nat.lt_succ_of_lt hfs)
  let Z : Shared → Prop := fun z => ∃ H3, Inv X pins σ H3 z ∧ Up A.a A.b H2 H3 ∧ Amb A.a A.b k1 H3 ∧ H3 f = none ∧ z.heap.get? f = s3.heap.get? f ∧ FpOk X pins H3 (s3.heap.objs.size + 1) ∧ FpOk X pins H3 s3.heap.objs.size ∧ H3 c' = some (CodeO c' (X.env.qual ++ "<lambda>")) ∧ H3 l = some (.frz o (.lst ys))
  refine mk_max (Z := Z) (vs := its) (kf := kf) ⟨fun z hz => ?_, fun z h' tk hz kp => ?_, fun i v z hv hz hS hI => ?_⟩ (I.ok.hd t.calm) plain.isList (by omega) (fun h' kp => ?_) fun i v z hv hbest hz => ?_
  · obtain ⟨H3, I3, u3, m3, e1, e2, e3, e4, e5, e6⟩ := hz
    exact isList_at plain.isList hol (I3.hok l _ e6).1
  · obtain ⟨H3, I3, u3, m3, e1, e2, e3, e4, e5, e6⟩ := hz
    refine ⟨H3, I3.turnedL (ch := [s3.heap.objs.size + 1, s3.heap.objs.size]) (fun b o hb e => kp b o (fun w => hb (by simp [w])) (fun w => hb (by simp [w])) e) (fun b hb => ?_), u3, m3, e1, ?_, e3, e4, e5, e6⟩
    · rcases List.mem_cons.mp hb with w | w
      · rw [w]; exact e3
      · rw [List.mem_singleton.mp w]; exact e4
    · show h'.get? f = _
      rw [hfo] at e2 ⊢
      exact kp f _ hfS hfI e2
  · obtain ⟨H3, I3, u3, m3, e1, e2, e3, e4, e5, e6⟩ := hz
    obtain ⟨xi, hxi⟩ : ∃ xi, xs[i]? = some xi := by
      have : i < its.length := (List.getElem?_eq_some_iff.mp hv).1
      exact ⟨_, List.getElem?_eq_getElem (by omega)⟩
    obtain ⟨vi, hvi, rvi⟩ := rys.get hxi
    have rel : L2.RelV vi v := by
      obtain ⟨u', hu', r'⟩ := Vals.get rits hvi
      rw [hv] at hu'
      cases hu'
      exact r'
    have W3 : Wd A.a A.b Hb σ H3 S k1 := ((W.expr u1 m1).expr u2 m2).expr u3 m3
    have W4 : Wd A.a A.b Hb (startF [x, y] [vi] ([j].map (slotAt σ))) H3 [.fz xi, tj] k1 := by
      refine ⟨rfl, fun n tt e => ?_, fun n d ow => ?_, W3.up, m3⟩
      · match n with
        | 0 =>
          cases e
          exact ⟨vi, rfl, rvi.up ((u2.trans u3).ps m1)⟩
        | 1 =>
          cases e
          exact slot_ow (W3.sl j tj hSj)
        | n + 2 => cases e
      · match n with
        | 0 =>
          obtain ⟨_, p, e⟩ := ow
          cases e
        | 1 =>
          obtain ⟨e0, p, e⟩ := ow
          cases e
          have e0 : some (slotAt σ j) = some (some (.ref d)) := e0
          obtain ⟨w1, w2, w3, _⟩ := W3.own j d ⟨slotAt_some (Option.some.inj e0), p, hSj⟩
          refine ⟨w1, w2, w3, fun n' ow' => ?_⟩
          match n' with
          | 0 =>
            obtain ⟨_, p', e'⟩ := ow'
            cases e'
          | 1 => rfl
          | n' + 2 =>
            obtain ⟨_, p', e'⟩ := ow'
            cases e'
        | n + 2 =>
          obtain ⟨_, p, e⟩ := ow
          cases e
    rw [hfo] at e2
    refine wpAny_mono (lam_call1 (Q := fun v H' => v = .int (kf i) ∧ Up A.a A.b H3 H' ∧ Amb A.a A.b k1 H') I3 NS e2 e5 (cells_of I3 (Caps.made (js := [j]) (fr := [y]) I3.ok hfree hfr (by rw [t.hN]; simp [hj]))) (hbind _ _ _ _ _ _) rel hr8
      (fun hr6 => hb.run _ ⟨rfl, NS.nd, rfl, NS.kind, rfl, fun _ z => (nomatch z), rfl, hr6, fun _ z => (List.not_mem_nil z).elim, fun _ z => (List.not_mem_nil z).elim, fun _ _ z => nomatch z⟩)
      ⟨Hb, _, k1, _, W4, hkey i xi hxi, fun p k2 w H4 u4 m4 r4 zz => ?_⟩) (fun u z' he => ?_) fun _ _ w => w
    · obtain ⟨rfl, rfl⟩ := zz
      exact ⟨(RepO.r r4 : RepO A.a A.b _ _ (.int (kf i))).int, u4, m4⟩
    · obtain ⟨w, H4, os, bare, un, hok, rw', rfl, u4, m4⟩ := he
      have notfr : ∀ b, FpOk X pins H3 b → b ∉ frs X.stack := fun b fb w => (List.mem_cons.mp (I3.stkSub b w)).elim fb.2.1 fb.2.2.1
      have fp4 : ∀ b, (∃ o, z.heap.get? b = some o) → FpOk X pins H3 b → FpOk X pins H4 b := fun b ⟨ob, eb⟩ fb => ⟨un.free b ob eb fb.1 (by simp), fb.2⟩
      refine ⟨?_, ⟨H4, I3.call' os un hok bare (fun b w => nomatch w), u3.trans u4, m4, un.free f _ e2 e1 (by simp), ?_, fp4 _ hS e3, fp4 _ hI e4, u4.keep _ _ e5 codeO_ne ?_ ?_, (u4.ps m3).frz _ _ _ e6⟩, fun b ob hb eb => ?_⟩
      · exact rw'
      · rw [hfo]
        exact un.keep f _ e2 e1 hfr2 (by simp)
      · rintro rfl
        obtain ⟨_, ea⟩ := m3.at_a
        rw [ea] at e5
        unfold CodeO at e5
        cases e5
      · rintro rfl
        obtain ⟨_, ea⟩ := m3.at_b
        rw [ea] at e5
        unfold CodeO at e5
        cases e5
      · rcases hb with rfl | rfl
        · exact un.keep _ _ eb e3.1 (notfr _ e3) (by simp)
        · exact un.keep _ _ eb e4.1 (notfr _ e4) (by simp)
  · have kp' : ∀ b o, s3.heap.get? b = some o → h'.get? b = some o := kp
    refine ⟨H2, I2.kept kp', Up.refl, m2, hfn, ?_, I2.fpOk (Nat.le_succ _) (I2.hok.fresh (Nat.le_succ _)), I2.fpOk (Nat.le_refl _) (I2.hok.fresh (Nat.le_refl _)), hco, hl2⟩
    show h'.get? f = _
    rw [hfo]
    exact kp' _ _ hfo
  · obtain ⟨H3, I3, u3, m3, _⟩ := hz
    have hi : i < its.length := (List.getElem?_eq_some_iff.mp hv).1
    have hxi : xs[i]? = some xs[i] := List.getElem?_eq_getElem (by omega)
    obtain ⟨vi, hvi, rvi⟩ := rys.get hxi
    refine ⟨vi, H3, I3, ?_, ?_⟩
    · obtain ⟨u', hu', r'⟩ := Vals.get rits hvi
      rw [hv] at hu'
      cases hu'
      exact r'
    · have ub : Up A.a A.b H H3 := u1.trans (u2.trans u3)
      exact post _ k1 vi H3 ub m3 (rvi.up ((u2.trans u3).ps m1)) (hfin i _ hxi fun n hn => hbest n (by omega))
end
end TL
set_option Elab.async false
set_option linter.all false
set_option maxRecDepth 100000
set_option maxHeartbeats 4000000
set_option autoImplicit false
/-! T22: defs that may be called, with tables. -/
namespace TL
open PySem
open PySem.Spec
open PyProof.Rows
open L2
section
variable {P : Program} {w : World} {K : PySem.W.Frag} {mg : Str → Option Value} {base : Heap} {T : List (Addr × Str)}
def FC (P : Program) (w : World) (K : PySem.W.Frag) (mg : Str → Option Value) (base : Heap) (T : List (Addr × Str)) (k : Nat) (e : Str × Nat × TSp) : Prop := ∃ (f : Addr) (fd : FuncData) (ps : List Str) (j : Nat), mg e.1 = some (.ref f) ∧
  PySem.W.keepIn K (.ref f) = true ∧ Binds K fd ps [] ∧ ps.length = e.2.1 ∧ j ≤ k ∧ ∀ a b, b.T = T → FnOk P w K mg base CX0 j f fd ps (spT a b e.2.1 e.2.2)
theorem FC.mono {k k' : Nat} {e : Str × Nat × TSp} (h : FC P w K mg base T k e) (hk : k ≤ k') : FC P w K mg base T k' e := by
  obtain ⟨f, fd, ps, j, h1, h2, h3, h4, h5, h6⟩ := h
  exact ⟨f, fd, ps, j, h1, h2, h3, h4, Nat.le_trans h5 hk, h6⟩
/-- a weaker promise -/
theorem FC.imp {k n : Nat} {x : Str} {τ τ' : TSp} (h : FC P w K mg base T k (x, n, τ)) (i : ∀ ps k R, ps.length = n → τ' ps k R → τ ps k R) : FC P w K mg base T k (x, n, τ') := by
  obtain ⟨f, fd, ps, j, h1, h2, h3, h4, h5, h6⟩ := h
  refine ⟨f, fd, ps, j, h1, h2, h3, h4, h5, fun a b hb => ?_⟩
  have F := h6 a b hb
  have st : ∀ vs H Q E, spT a b n τ' vs H Q E → spT a b n τ vs H Q E := fun vs H Q E ⟨e1, qs, k0, R, rr, m, z, c⟩ => ⟨e1, qs, k0, R, rr, m, i _ _ _ (rr.length.symm.trans e1) z, c⟩
  exact ⟨fun vs H Q E z => F.len vs H Q E (st _ _ _ _ z), fun A outer s H args us vs Q E h1 h2 h3 h4 h5 => F.run A outer s H args us vs Q E h1 h2 h3 h4 (st _ _ _ _ h5)⟩
/-- what the table of a def's lambda asks -/
structure TbAt (mg : Str → Option Value) (base : Heap) (T : List (Addr × Str)) (cdv : Value) (x : Str) (Pt : Addr) (q : Str) : Prop where
  mem : (Pt, q) ∈ T
  one : ∀ p ∈ T, p.1 = Pt → p.2 = q
  nm : x ++ ".<locals>." ++ "<lambda>" = q
  code : ∃ c, cdv = .ref c ∧ LamX.TabB base mg c Pt
theorem fc {x : Str} {st : Stmt} {f : Addr} {N ps : List Str} {n k : Nat} {τ : TSp} {wf : WS} {fns : List (Str × Nat × TSp)} {bl : List Str} {oc : Value} {od an : Option Addr} {osl : Array (Option Value)} {kV doc pm cdv ct : Value} {tb : Option (Addr × Str)} (hm : mg x = some (.ref f))
    (lk : K.lookup f = some ⟨oc, od, .func (PySem.W.fnOf x x (defArgs st) (defBody st) (defScope st) .none kV doc pm an cdv ct), osl⟩) (hcd : PySem.W.codeIn K cdv x = true) (kp : PySem.W.keepIn K (.ref f) = true)
    (hb : Binds K (PySem.W.fnOf x x (defArgs st) (defBody st) (defScope st) .none kV doc pm an cdv ct) ps []) (S : FnScope N ps (defScope st)) (hn : ps.length = n) (hk : 8 ≤ k)
    (ht : ∀ Pt q, tb = some (Pt, q) → TbAt mg base T cdv x Pt q)
    (d : ∀ a b, SSs { a := a, b := b, fns := fns, bl := bl, tb := tb } ⟨N, defScope st, fun _ => true⟩ (defBody st) wf) (hbl : ∀ x ∈ bl, mg x = none) (hf : ∀ e ∈ fns, FC P w K mg base T k e)
    (h : ∀ (ps : List PV) (k : Nat) (R : PK), ps.length = n → τ ps k R → wf { nx := fun _ k => R .non k, rt := R } (startS N.length ps) k) : FC P w K mg base T (k + 1) (x, n, τ) := by
  refine ⟨f, _, ps, k + 1, hm, kp, hb, hn, Nat.le_refl _, fun a b hT => ?_⟩
  subst hT
  refine fn_of lk hcd S (fun vs H Q E hh => hh.1.trans hn.symm) fun A0 outer s H vs Q E hr hh => ?_
  obtain ⟨hl, qs, k0, R, rr, m, ht', cont⟩ := hh
  refine ⟨_, PSs.nox ((d a b).run _ ⟨rfl, S.nd, rfl, S.kind, rfl, fun _ _ => rfl, rfl, hr.mono (by omega), hbl, fun e he => ?_, fun Pt q z => ?_⟩), ?_⟩
  · obtain ⟨f', fd', ps', j, h1, h2, h3, h4, h5, h6⟩ := hf e he
    exact ⟨f', fd', ps', j, h1, h2, h3, h4, h6 a b rfl, hr.mono h5⟩
  · obtain ⟨t1, t2, t3, t4⟩ := ht Pt q z
    exact ⟨t1, t2, t3, hr.mono hk, t4⟩
  · refine ⟨H, startS N.length qs, k0, { nx := fun _ k => R .non k, rt := R }, start_wd rr m, ⟨fun σ H' S' k' d' z => cont .non k' .non H' d'.up d'.amb .non z, fun p k' v H' u m' r z => cont p k' v H' u m' r z, fun _ _ _ _ _ z => z.elim, fun _ _ _ _ _ z => z.elim⟩, h qs k0 R (rr.length.symm.trans hl) ht'⟩
end
end TL
set_option Elab.async false
set_option linter.all false
set_option maxRecDepth 100000
set_option autoImplicit false
/-! T23: a comprehension stored in a captured name. -/
namespace TL
open PySem
open PySem.Spec
open PyProof.Rows
open L2
theorem swaps_cell {e : Expr} {x : Str} {p : Pos} {l : Nat} {env : Env} (h : env.kindOf x = some .cell) : swapsWith e (some (.Name x p)) l env = pure false := by
  unfold swapsWith
  have z : (env.kindOf x == some NameKind.local) = false := by rw [h]; decide
  split
  · simp only [z, Bool.and_false, Bool.false_and]
  · rfl
section
variable {A : CtD} {s : CtS} {e : Expr} {w : WE} {pos p1 : Pos} {x : Str}
def cellB (s : CtS) (x : Str) : Bool := decide (s.sc.names.lookup x = some .cell)
theorem cellB_env {X : Cx} (h : cellB s x = true) (t : TX A s X) : X.env.kindOf x = some .cell := by
  show X.env.scope.names.lookup x = _
  rw [t.sc]
  exact of_decide_eq_true h
theorem ss_asgC {i : Nat} (h : SE A s e w) (hl : lOk s i x = true) (hc : cellB s x = true) : SS A s (.Assign [.Name x p1] e pos) (wAsg i w) := by
  refine ⟨fun X t => ?_⟩
  obtain ⟨l1, l2, l3, l4⟩ := lOk.loc hl t
  refine ps_imp (ps_set t.nd l1 l2 (h.run X t) (swaps_cell (cellB_env hc t)) l3) fun D σ H ⟨Hb, S, k, W, d, r, x⟩ => ⟨Hb, S, k, _, d, x, fun p k' v H' u m rr y => r.nx _ _ _ _ ((d.expr u m).set y.1 rr) y.2⟩
theorem ss_asgFC {i : Nat} (h : SF A s e w) (hl : lOk s i x = true) (hc : cellB s x = true) : SS A s (.Assign [.Name x p1] e pos) (wAsgF i w) := by
  refine ⟨fun X t => ?_⟩
  obtain ⟨l1, l2, l3, l4⟩ := lOk.loc hl t
  refine ps_imp (ps_set t.nd l1 l2 (h.run X t) (swaps_cell (cellB_env hc t)) l3) fun D σ H ⟨Hb, S, k, W, d, r, x⟩ => ⟨Hb, S, k, _, d, x, fun p k' v H' u m rr y => ?_⟩
  cases rr with
  | o n hc rr => exact r.nx _ _ _ _ (d.setOwn u m y.1 n hc rr) y.2
end
end TL
set_option Elab.async false
set_option linter.all false
set_option maxRecDepth 100000
set_option autoImplicit false
/-! T24: x, y = .., .. with a captured name. -/
namespace TL
open PySem
open PySem.Spec
open PyProof.Rows
open L2
theorem sws_cell {x y : Str} {px py pt pt2 : Pos} {kt k2 : Nat} {ea eb : Expr} {env : Env} (h : (env.kindOf x == some NameKind.local) = false ∨ (env.kindOf y == some NameKind.local) = false) :
    swappedStores [.Tuple [.Name x px, .Name y py] kt pt] (.Tuple [ea, eb] k2 pt2) env = pure none := by
  have key : ∀ l : Nat, (([Expr.Name x px, Expr.Name y py].filterMap fun
    | .Name id pos => if env.kindOf id == some .local && pos.line == l then some id else none
    | _ => none).length != [Expr.Name x px, Expr.Name y py].length) = true := by
    intro l
    rcases h with h | h
    · simp only [List.filterMap_cons, h, Bool.false_and, Bool.false_eq_true, if_false, List.filterMap_nil]
      split <;> simp
    · simp only [List.filterMap_cons, h, Bool.false_and, Bool.false_eq_true, if_false, List.filterMap_nil]
      split <;> simp
  unfold swappedStores
  dsimp only
  split
  · rfl
  · split
    · rfl
    · split
      · rfl
      · rename_i q
        refine absurd ?_ q
        rw [Bool.or_eq_true]
        exact .inl (key _)
section
variable {A : CtD} {s : CtS} {e ea eb : Expr} {w : WE} {pos px py pt pt2 : Pos} {x y : Str} {kt k2 : Nat}
def notLocB (s : CtS) (x : Str) : Bool := !(s.sc.names.lookup x == some .local)
theorem ss_asgTc {ix : List Nat} {g : GP} (h : SE A s (.Tuple [ea, eb] k2 pt2) w) (hg : SG A s (.Tuple [.Name x px, .Name y py] kt pt) ix g) (hn : (notLocB s x || notLocB s y) = true)
    (hs : ∀ env, swapsWithSole [.Tuple [.Name x px, .Name y py] kt pt] (.Tuple [ea, eb] k2 pt2) pos.line env = pure false := by intro _; rfl)
    (h1 : ∀ env, (assignEach [.Tuple [.Name x px, .Name y py] kt pt] env).map (·.2) = [assign (.Tuple [.Name x px, .Name y py] kt pt) env] := by intro _; rfl) : SS A s (.Assign [.Tuple [.Name x px, .Name y py] kt pt] (.Tuple [ea, eb] k2 pt2) pos) (wAsgT w g) := by
  refine ⟨fun X t => ps_imp (ps_asg (h.run X t) (hg.run X t) (hs X.env) (sws_cell ?_) (h1 X.env)) fun D σ H ⟨Hb, S, k, W, d, r, x⟩ => ?_⟩
  · have e : ∀ z, X.env.kindOf z = s.sc.names.lookup z := fun z => by
      show X.env.scope.names.lookup z = _
      rw [t.sc]
    rw [e, e]
    unfold notLocB at hn
    simp only [Bool.or_eq_true, Bool.not_eq_true'] at hn
    exact hn
  · exact ⟨Hb, S, k, _, d, x, fun p k' v H' u m rr y => ⟨Hb, S, k', p, _, d.expr u m, rr, y, fun σ' S' d' _ z => r.nx _ _ _ _ d' z⟩⟩
end
end TL
set_option Elab.async false
set_option linter.all false
set_option maxRecDepth 100000
set_option maxHeartbeats 1000000
set_option autoImplicit false
/-! T25: the stream, for the walk of the draw. -/
namespace TL
open PySem
open PySem.Spec
open PyProof.Rows
open L2
theorem tIte {b : Bool} {P Q : Prop} (h1 : b = true → P) (h2 : b = false → Q) : if b = true then P else Q := by
  cases b with
  | true => exact h1 rfl
  | false => exact h2 rfl
theorem shaped_ints : ∀ xs : List Int, SeqAt.shaped (.list (xs.map PyData.int)) = true := by
  intro xs
  have h1 : ∀ xs : List Int, PyData.canLayAll0 (xs.map PyData.int) = true := fun xs => by
    induction xs with
    | nil => rfl
    | cons x xs ih => simp only [List.map_cons, PyData.canLayAll0, PyData.canLay0, ih, Bool.and_self]
  have h2 : ∀ xs : List Int, PyData.depthAll (xs.map PyData.int) = 0 := fun xs => by
    induction xs with
    | nil => rfl
    | cons x xs ih => simp only [List.map_cons, PyData.depthAll, PyData.depth, ih, Nat.max_self]
  show (PyData.canLay0 _ && decide (PyData.depth _ ≤ 64)) = true
  simp only [PyData.canLay0, PyData.depth, h1, h2, Bool.true_and]
  decide
theorem dpAll_ints {K : PySem.W.Frag} {H : Hp} : ∀ xs : List Int, DpAll K H (xs.map V.int) (xs.map PyData.int)
  | [] => .nil
  | x :: xs => .cons (.int x) (dpAll_ints xs)
theorem eqv_nil : ∀ xs : List Int, PyData.eqv (.list (xs.map PyData.int)) (.list []) = xs.isEmpty
  | [] => by simp [PyData.eqv, PyData.eqvAll]
  | x :: xs => by simp [PyData.eqv, PyData.eqvAll]
theorem tabs_keep {a : Addr} {b : Bs} {k : Nat} {H H' : Hp} (m : Amb a b k H) (keep : ∀ q o, q ≠ a → q ≠ b.c → H q = some o → H' q = some o) : LamX.Tabs b.T H' := by
  intro p hp
  obtain ⟨ps, e1, e2, e3⟩ := m.tb p hp
  obtain ⟨_, ea⟩ := m.at_a
  obtain ⟨_, eb⟩ := m.at_b
  refine ⟨ps, keep _ _ ?_ ?_ e1, e2, fun pos cv hc => ?_⟩
  · intro z; rw [← z, e1] at ea; cases ea
  · intro z; rw [← z, e1] at eb; cases eb
  · obtain ⟨c, h1, h2⟩ := e3 pos cv hc
    refine ⟨c, h1, keep _ _ ?_ ?_ h2⟩
    · intro z; rw [← z, h2] at ea; unfold LamX.CodeO at ea; cases ea
    · intro z; rw [← z, h2] at eb; unfold LamX.CodeO at eb; cases eb
/-- the draw's names and the stream, in the walk -/
structure Sd (A : CtD) (H0 : Hp) (n : Int) (σ : L2.St) (H : Hp) (xs : List Int) (c t m : Int) : Prop where
  s0 : σ[0]? = some (some (.ref A.a))
  s1 : σ[1]? = some (some (.int n))
  len : σ.length = 5
  hc : H A.a = some (.lst [.ref A.b.c, .int c, .int t, .int m])
  hx : H A.b.c = some (.lst (xs.map V.int))
  keep : ∀ q o, q ≠ A.a → q ≠ A.b.c → H0 q = some o → H q = some o
  non : ∀ q, H q = none → H0 q = none
section
variable {A : CtD} {K : PySem.W.Frag} {H0 H : Hp} {σ : L2.St} {xs : List Int} {n c t m : Int}
theorem Sd.rd {Q : VK} {i : Int} {v : V} (z : Sd A H0 n σ H xs c t m) (h : atI [V.ref A.b.c, .int c, .int t, .int m] i = some v) (q : Q v H) : tOp (rIxL K) (tVar 0) (tC (.int i)) σ H Q :=
  ⟨_, z.s0, A.a, _, i, v, rfl, rfl, .inl (.inl z.hc), h, q⟩
theorem Sd.wr (z : Sd A H0 n σ H xs c t m) {i : Int} {v : V} {j : Nat} {Q : L2.St → Hp → Prop} {c' t' m' : Int} (h : ixN 4 i = some j) (hs : [V.ref A.b.c, .int c, .int t, .int m].set j v = [V.ref A.b.c, .int c', .int t', .int m']) (ne : A.a ≠ A.b.c)
    (q : ∀ H', Sd A H0 n σ H' xs c' t' m' → Q σ H') : gSub (tVar 0) (tC (.int i)) rSetL v σ H Q := by
  refine ⟨_, z.s0, A.a, _, i, j, rfl, rfl, z.hc, h, q _ ⟨z.s0, z.s1, z.len, by rw [hs]; exact upd_same, by rw [upd_ne ne.symm]; exact z.hx, fun q o h1 h2 e => by rw [upd_ne h1]; exact z.keep q o h1 h2 e, fun q e => ?_⟩⟩
  exact z.non q (upd_gone e)
theorem Sd.set (z : Sd A H0 n σ H xs c t m) {i : Nat} (h : 2 ≤ i) (v : V) : Sd A H0 n (σ.set i (some v)) H xs c t m :=
  ⟨by rw [List.getElem?_set_ne (by omega)]; exact z.s0, by rw [List.getElem?_set_ne (by omega)]; exact z.s1, by rw [List.length_set]; exact z.len, z.hc, z.hx, z.keep, z.non⟩
theorem Sd.pop (z : Sd A H0 n σ H xs c t m) {x : Int} {ys : List Int} (h : xs = x :: ys) (ne : A.a ≠ A.b.c) : Sd A H0 n σ (upd H A.b.c (.lst ((xs.map V.int).eraseIdx 0))) ys c t m := by
  subst h
  refine ⟨z.s0, z.s1, z.len, by rw [upd_ne ne]; exact z.hc, by rw [upd_same]; simp, fun q o h1 h2 e => by rw [upd_ne h2]; exact z.keep q o h1 h2 e, fun q e => z.non q (upd_gone e)⟩
theorem Sd.new (z : Sd A H0 n σ H xs c t m) {p : Addr} {u : HO} (hp : H p = none) : Sd A H0 n σ (upd H p u) xs c t m := by
  have k : ∀ q o, H q = some o → upd H p u q = some o := fun q o e => by
    rw [upd_ne]; exact e
    rintro rfl; rw [hp] at e; cases e
  exact ⟨z.s0, z.s1, z.len, k _ _ z.hc, k _ _ z.hx, fun q o h1 h2 e => k _ _ (z.keep q o h1 h2 e), fun q e => z.non q (upd_gone e)⟩
theorem Sd.rdO {Q : VK} {i : Int} {v : V} {r : R2} {tb : TE} (z : Sd A H0 n σ H xs c t m) (h : atI [V.ref A.b.c, .int c, .int t, .int m] i = some v) (q : tb σ H fun y H2 => r v y H2 Q) : tOp r (tOp (rIxL K) (tVar 0) (tC (.int i))) tb σ H Q :=
  z.rd h q
structure Bd (xs : List Int) (c m : Int) : Prop where
  xb : ∀ x ∈ xs, x.natAbs < 2 ^ bigB
  c0 : 0 ≤ c
  cb : c.natAbs < 2 ^ bigB
  m0 : 0 ≤ m
  mb : m < 2147483647
  xl : xs.length ≤ 63
theorem Sd.amb (z : Sd A H0 n σ H xs c t m) {k k0 : Nat} (m0 : Amb A.a A.b k0 H0) (b : Bd xs c m) (h0 : 0 ≤ t) (hk : t ≤ (k : Int)) : Amb A.a A.b k H := by
  refine ⟨m0.ne, ⟨xs, c, t, m, z.hc, z.hx, b.xb, b.c0, b.cb, h0, hk, b.m0, b.mb, b.xl⟩, tabs_keep m0 z.keep⟩
theorem Sd.up (z : Sd A H0 n σ H xs c t m) : Up A.a A.b H0 H := ⟨fun q o e _ h1 h2 => z.keep q o h1 h2 e, z.non⟩
/-- the draw's body, by rules; then this reading -/
theorem draw_while {D : Ends} (ne : A.a ≠ A.b.c) (z : Sd A H0 n σ H xs c t m) (b : Bd xs c m)
    (hend : ∀ σ' H' xs' c' m', Sd A H0 n σ' H' xs' c' t m' → Bd xs' c' m' → D.nx σ' H') :
    tWhile (tAnd (tTest (tOp rEq (tOp (rIxL K) (tVar 0) (tC (.int 1))) (tC (.int 0)))) (tTest (tOp (rNeD K) (tOp (rIxL K) (tVar 0) (tC (.int 0))) (tLst tNil))))
      (tSeq (tAsg (tBM K "list" rPopAt (tOp (rIxL K) (tVar 0) (tC (.int 0))) (tCons (tC (.int 0)) tNil)) (gName 2))
      (tSeq (tAsg (tOp (rI (fun _ j => 0 < j) fun i j => .int (i % j)) (tCB (fun xs H Q => (∃ i, xs = [.int i] ∧ Q (.int i) H) ∨ ∃ k, xs = [.bl k] ∧ Q (.int (if k then 1 else 0)) H) (tCons (tOp (rI0 fun i j => .int (i + j)) (tOp (rI0 fun i j => .int (i + j)) (tOp (rI CMul fun i j => .int (i * j)) (tOp (rIxL K) (tVar 0) (tC (.int 3))) (tC (.int 72103))) (tVar 2)) (tC (.int 43))) tNil)) (tC (.int 2147483647))) (gSub (tVar 0) (tC (.int 3)) rSetL))
      (tAsg (tIf (tTest (tOp (rI0 fun i j => .bl (decide (j ≤ i))) (tVar 2) (tOp (rI CPow fun i j => .int (i ^ j.toNat)) (tC (.int 10)) (tC (.int 18))))) (tVar 2) (tC (.int 0))) (gSub (tVar 0) (tC (.int 1)) rSetL)))) D σ H := by
  refine ⟨fun l σ H => ∃ xs c m, Sd A H0 n σ H xs c t m ∧ Bd xs c m ∧ xs.length = l, ⟨_, xs, c, m, z, b, rfl⟩, ?_⟩
  rintro l σ H ⟨xs, c, m, z, b, hl⟩
  have sq : SqL K H A.b.c (xs.map V.int) := .inl (.inl z.hx)
  unfold tAnd tTest
  refine z.rdO rfl ⟨rfl, decide (V.int c = V.int 0), rfl, ?_⟩
  by_cases c0 : c = 0
  · subst c0
    rw [if_pos (by simp)]
    refine z.rdO rfl ⟨Nat.zero_le _, fun p hp => ?_⟩
    have z1 := z.new (u := .lst []) hp
    refine ⟨_, _, .lst (.inl (.inl z1.hx)) (dpAll_ints xs), .lst (.inl (.inl upd_same)) .nil, shaped_ints xs, shaped_ints [], _, rfl, ?_⟩
    rw [eqv_nil]
    cases xs with
    | nil => exact hend _ _ _ _ _ z1 b
    | cons x ys =>
      refine ⟨fun σ' H' => ∃ xs c m, Sd A H0 n σ' H' xs c t m ∧ Bd xs c m ∧ xs.length = ys.length, fun σ' H' w => ⟨ys.length, by rw [← hl]; exact Nat.lt_succ_self _, w⟩, ?_⟩
      have z2 := z1.pop rfl ne
      have hx : x.natAbs < 2 ^ bigB := b.xb x (List.mem_cons_self ..)
      have b2 : Bd ys 0 m := ⟨fun y hy => b.xb y (List.mem_cons_of_mem _ hy), b.c0, b.cb, b.m0, b.mb, Nat.le_trans (Nat.le_succ _) b.xl⟩
      refine z1.rd rfl ⟨.inl ⟨rfl, _, .inl (.inl z1.hx)⟩, ?_⟩
      refine ⟨_, _, 0, 0, _, rfl, rfl, z1.hx, by decide, by decide, by unfold seqIndex?; simp, rfl, ?_⟩
      have z3 := z2.set (i := 2) (Nat.le_refl _) (.int x)
      have g2 : (σ.set 2 (some (V.int x)))[2]? = some (some (V.int x)) := by rw [List.getElem?_set_self (by rw [z.len]; omega)]
      refine z3.rdO rfl ⟨_, _, rfl, rfl, .inr ⟨by decide, by decide⟩, ?_⟩
      refine ⟨_, g2, _, _, rfl, rfl, ?_⟩
      refine ⟨_, _, rfl, rfl, ?_⟩
      refine .inl ⟨_, rfl, ?_⟩
      refine ⟨_, _, rfl, rfl, show (0 : Int) < 2147483647 by decide, ?_⟩
      refine z3.wr (i := 3) (j := 3) rfl rfl ne fun H4 z4 => ?_
      refine ⟨_, g2, _, _, rfl, rfl, ⟨by decide, by decide, by decide⟩, _, _, rfl, rfl, _, rfl, ?_⟩
      have hm : 0 ≤ (m * 72103 + x + 43) % 2147483647 ∧ (m * 72103 + x + 43) % 2147483647 < 2147483647 := ⟨Int.emod_nonneg _ (by decide), Int.emod_lt_of_pos _ (by decide)⟩
      refine tIte (fun h => ?_) (fun h => ?_)
      · have h18 : (10 : Int) ^ (18 : Int).toNat ≤ x := of_decide_eq_true h
        have x0 : 0 ≤ x := Int.le_trans (by decide) h18
        exact ⟨_, g2, z4.wr (i := 1) (j := 1) rfl rfl ne fun H5 z5 => ⟨ys, x, _, z5, ⟨b2.xb, x0, hx, hm.1, hm.2, b2.xl⟩, rfl⟩⟩
      · exact z4.wr (i := 1) (j := 1) rfl rfl ne fun H5 z5 => ⟨ys, 0, _, z5, ⟨b2.xb, Int.le_refl _, b2.cb, hm.1, hm.2, b2.xl⟩, rfl⟩
  · have e0 : decide (V.int c = V.int 0) = false := by simpa using c0
    rw [e0]
    dsimp only
    rw [if_neg (by decide)]
    exact hend _ _ _ _ _ z b
theorem draw_rest {R : V → Hp → Prop} (ne : A.a ≠ A.b.c) (z : Sd A H0 n σ H xs c t m) (b : Bd xs c m) (n0 : 0 < n) (nb : n < 1073741824) (t0 : 0 ≤ t) (tb : t ≤ 1000000)
    (hr : ∀ σ' H' xs' c' m' d, Sd A H0 n σ' H' xs' c' t m' → Bd xs' c' m' → 0 ≤ d → d < n → R (.int d) H') :
    tSeq (tIfS (tTest (tOp (rI0 fun i j => .bl (decide (j < i))) (tOp (rIxL K) (tVar 0) (tC (.int 1))) (tC (.int 0))))
      (tSeq (tAsg (tOp (rI (fun _ j => 0 < j) fun i j => .int (i % j)) (tCB (fun xs H Q => (∃ i, xs = [.int i] ∧ Q (.int i) H) ∨ ∃ k, xs = [.bl k] ∧ Q (.int (if k then 1 else 0)) H) (tCons (tOp (rIxL K) (tVar 0) (tC (.int 1))) tNil)) (tVar 1)) (gName 3))
      (tSeq (tAsg (tOp (rI CDiv fun i j => .int (i / j)) (tOp (rIxL K) (tVar 0) (tC (.int 1))) (tVar 1)) (gSub (tVar 0) (tC (.int 1)) rSetL))
      (tRet (tVar 3)))) tNext)
    (tSeq (tAsg (tOp (rI (fun _ j => 0 < j) fun i j => .int (i % j)) (tCB (fun xs H Q => (∃ i, xs = [.int i] ∧ Q (.int i) H) ∨ ∃ k, xs = [.bl k] ∧ Q (.int (if k then 1 else 0)) H) (tCons (tOp (rI CPow fun i j => .int (i ^ j.toNat)) (tOp (rI0 fun i j => .int (i + j)) (tOp (rI0 fun i j => .int (i + j)) (tOp (rIxL K) (tVar 0) (tC (.int 3))) (tOp (rI CMul fun i j => .int (i * j)) (tC (.int 9161)) (tOp (rIxL K) (tVar 0) (tC (.int 2))))) (tC (.int 190027))) (tC (.int 5))) tNil)) (tC (.int 2147483629))) (gName 4))
    (tRet (tOp (rI (fun _ j => 0 < j) fun i j => .int (i % j)) (tOp (rI (fun _ j => 0 < j) fun i j => .int (i % j)) (tCB (fun xs H Q => (∃ i, xs = [.int i] ∧ Q (.int i) H) ∨ ∃ k, xs = [.bl k] ∧ Q (.int (if k then 1 else 0)) H) (tCons (tOp (rI CPow fun i j => .int (i ^ j.toNat)) (tOp (rI0 fun i j => .int (i + j)) (tOp (rI0 fun i j => .int (i + j)) (tOp (rI CMul fun i j => .int (i * j)) (tVar 4) (tC (.int 63029))) (tOp (rI CMul fun i j => .int (i * j)) (tC (.int 74017)) (tOp (rIxL K) (tVar 0) (tC (.int 2))))) (tC (.int 61))) (tC (.int 3))) tNil)) (tC (.int 1000000007))) (tVar 1)))) { nx := fun _ H' => R .non H', rt := R } σ H := by
  have m0 := b.m0
  have mb := b.mb
  unfold tSeq tIfS tTest
  refine z.rdO rfl ⟨_, _, rfl, rfl, decide (0 < c), rfl, ?_⟩
  refine tIte (fun c0 => ?_) (fun c0 => ?_)
  · refine z.rd rfl (.inl ⟨_, rfl, ?_⟩)
    refine ⟨_, z.s1, _, _, rfl, rfl, n0, ?_⟩
    have z1 := z.set (i := 3) (by omega) (.int (c % n))
    have g3 : (σ.set 3 (some (V.int (c % n))))[3]? = some (some (V.int (c % n))) := by rw [List.getElem?_set_self (by rw [z.len]; omega)]
    refine z1.rdO rfl ⟨_, z1.s1, _, _, rfl, rfl, ⟨n0, nb⟩, ?_⟩
    refine z1.wr (i := 1) (j := 1) rfl rfl ne fun H2 z2 => ?_
    have cd : 0 ≤ c / n := Int.ediv_nonneg b.c0 (by omega)
    have cl : c / n ≤ c := Int.ediv_le_self _ b.c0
    exact ⟨_, g3, hr _ _ _ _ _ _ z2 ⟨b.xb, cd, Nat.lt_of_le_of_lt (by omega) b.cb, b.m0, b.mb, b.xl⟩ (Int.emod_nonneg _ (by omega)) (Int.emod_lt_of_pos _ n0)⟩
  · refine z.rdO rfl ?_
    refine z.rd (i := 2) rfl ⟨_, _, rfl, rfl, .inl ⟨by decide, by decide⟩, ?_⟩
    refine ⟨_, _, rfl, rfl, ?_⟩
    refine ⟨_, _, rfl, rfl, ?_⟩
    refine ⟨_, _, rfl, rfl, ⟨by decide, by decide, ?_⟩, ?_⟩
    · show (m + 9161 * t + 190027).natAbs < 18446744073709551616
      omega
    refine .inl ⟨_, rfl, ?_⟩
    refine ⟨_, _, rfl, rfl, show (0 : Int) < 2147483629 by decide, ?_⟩
    obtain ⟨M, hM⟩ : ∃ M, M = (m + 9161 * t + 190027) ^ (5 : Int).toNat % 2147483629 := ⟨_, rfl⟩
    have hM0 : 0 ≤ M ∧ M < 2147483629 := by rw [hM]; exact ⟨Int.emod_nonneg _ (by decide), Int.emod_lt_of_pos _ (by decide)⟩
    have z1 := z.set (i := 4) (by omega) (.int ((m + 9161 * t + 190027) ^ (5 : Int).toNat % 2147483629))
    have g4 : (σ.set 4 (some (V.int ((m + 9161 * t + 190027) ^ (5 : Int).toNat % 2147483629))))[4]? = some (some (V.int ((m + 9161 * t + 190027) ^ (5 : Int).toNat % 2147483629))) := by rw [List.getElem?_set_self (by rw [z.len]; omega)]
    refine ⟨_, g4, _, _, rfl, rfl, .inr ⟨by decide, by decide⟩, ?_⟩
    refine z1.rd (i := 2) rfl ⟨_, _, rfl, rfl, .inl ⟨by decide, by decide⟩, ?_⟩
    refine ⟨_, _, rfl, rfl, ?_⟩
    refine ⟨_, _, rfl, rfl, ?_⟩
    refine ⟨_, _, rfl, rfl, ⟨by decide, by decide, ?_⟩, ?_⟩
    · show (((m + 9161 * t + 190027) ^ (5 : Int).toNat % 2147483629) * 63029 + 74017 * t + 61).natAbs < 18446744073709551616
      rw [← hM]
      omega
    refine .inl ⟨_, rfl, ?_⟩
    refine ⟨_, _, rfl, rfl, show (0 : Int) < 1000000007 by decide, ?_⟩
    refine ⟨_, z1.s1, _, _, rfl, rfl, n0, ?_⟩
    exact hr _ _ _ _ _ _ z1 b (Int.emod_nonneg _ (by omega)) (Int.emod_lt_of_pos _ n0)
end
end TL
set_option linter.all false
set_option autoImplicit false
/-! P1: pairings of the greatest gain: certificates, the search, the change along a way (plain Lean). -/
namespace Asg
variable {B H : Type} [DecidableEq B] [DecidableEq H]
/-- what shows that no pairing has more: duals u of buyers, p of houses, at the height t -/
structure Cert (g : B → H → Option Int) (bs : List B) (hd : B → Option H) (t : Int) (u : B → Int) (p : H → Int) : Prop where
  fe : ∀ b ∈ bs, ∀ h x, g b h = some x → x ≤ u b + p h
  eq : ∀ b ∈ bs, ∀ h, hd b = some h → g b h = some (u b + p h)
  p0 : ∀ h, 0 ≤ p h
  pz : ∀ h, (∀ b ∈ bs, hd b ≠ some h) → p h = 0
  ut : ∀ b ∈ bs, t ≤ u b
  uz : ∀ b ∈ bs, hd b = none → u b = t
  inj : ∀ b ∈ bs, ∀ c ∈ bs, ∀ h, hd b = some h → hd c = some h → b = c

/-- walks from a buyer without a house, with what they lack -/
inductive Walk (g : B → H → Option Int) (bs : List B) (hd : B → Option H) (u : B → Int) (p : H → Int) : List B → H → Int → Prop
  | base {b : B} {h : H} {x : Int} : b ∈ bs → hd b = none → g b h = some x → Walk g bs hd u p [b] h (u b + p h - x)
  | step {l : List B} {h h' : H} {s x : Int} {b : B} : Walk g bs hd u p l h s → b ∈ bs → hd b = some h → h' ≠ h → g b h' = some x → Walk g bs hd u p (b :: l) h' (s + (u b + p h' - x))
section
variable {g : B → H → Option Int} {bs : List B} {hd : B → Option H} {t : Int} {u : B → Int} {p : H → Int}
theorem Walk.nn (c : Cert g bs hd t u p) {l : List B} {h : H} {s : Int} (w : Walk g bs hd u p l h s) : 0 ≤ s := by
  induction w with
  | base hb _ hx => have := c.fe _ hb _ _ hx; omega
  | step _ hb _ _ hx ih => have := c.fe _ hb _ _ hx; omega
theorem Walk.mem {l : List B} {h : H} {s : Int} (w : Walk g bs hd u p l h s) : ∀ b ∈ l, b ∈ bs := by
  induction w with
  | base hb _ _ => intro b h; rw [List.mem_singleton.mp h]; exact hb
  | step _ hb _ _ _ ih => intro b h; rcases List.mem_cons.mp h with e | e; rw [e]; exact hb; exact ih b e
theorem Walk.sub (c : Cert g bs hd t u p) {l : List B} {h0 : H} {s : Int} (w : Walk g bs hd u p l h0 s) {b : B} {h : H} (hb : b ∈ l) (hh : hd b = some h) : ∃ l2 s2, Walk g bs hd u p l2 h s2 ∧ s2 ≤ s ∧ (b :: l2) <:+ l := by
  induction w with
  | base hb' hn _ =>
    rw [List.mem_singleton.mp hb] at hh
    rw [hn] at hh; cases hh
  | @step l h1 h' s x b' w hb' hh' hne hx ih =>
    by_cases e : b = b'
    · subst e
      rw [hh'] at hh
      cases hh
      have := c.fe _ hb' _ _ hx
      exact ⟨l, s, w, by omega, List.suffix_refl _⟩
    · rcases List.mem_cons.mp hb with e' | e'
      · exact absurd e' e
      · obtain ⟨l2, s2, w2, h2, sf⟩ := ih e'
        have := c.fe _ hb' _ _ hx
        exact ⟨l2, s2, w2, by omega, sf.trans (List.suffix_cons _ _)⟩
theorem Walk.short (c : Cert g bs hd t u p) {l : List B} {h : H} {s : Int} (w : Walk g bs hd u p l h s) : ∃ l' s', Walk g bs hd u p l' h s' ∧ s' ≤ s ∧ l'.Nodup := by
  induction w with
  | @base b h x hb hn hx => exact ⟨[b], _, .base hb hn hx, Int.le_refl _, by simp⟩
  | @step l h1 h' s x b w hb hh hne hx ih =>
    obtain ⟨l', s', w', hs, nd⟩ := ih
    by_cases e : b ∈ l'
    · obtain ⟨l2, s2, w2, h2, sf⟩ := w'.sub c e hh
      exact ⟨b :: l2, _, .step w2 hb hh hne hx, by omega, List.Nodup.sublist sf.sublist nd⟩
    · exact ⟨b :: l', _, .step w' hb hh hne hx, by omega, List.nodup_cons.mpr ⟨e, nd⟩⟩
theorem nodup_len : ∀ {l m : List B}, l.Nodup → (∀ b ∈ l, b ∈ m) → l.length ≤ m.length
  | [], m, _, _ => Nat.zero_le _
  | b :: l, m, nd, hm => by
    have hb := hm b (List.mem_cons_self ..)
    have nd' := List.nodup_cons.mp nd
    have := nodup_len (m := m.erase b) nd'.2 fun c hc => by
      have hne : c ≠ b := fun e => nd'.1 (e ▸ hc)
      exact (List.mem_erase_of_ne hne).mpr (hm c (List.mem_cons_of_mem _ hc))
    rw [List.length_erase_of_mem hb] at this
    have : 0 < m.length := List.length_pos_of_mem hb
    simp only [List.length_cons]
    omega
end

/-! ### the search -/
/-- a state: what way ends at each house, what a buyer reached has gained -/
structure St (g : B → H → Option Int) (bs : List B) (hd : B → Option H) (t : Int) (u : B → Int) (p : H → Int) (L : H → Option (Int × B)) (W : B → Option Int) : Prop where
  up : ∀ h v b, L h = some (v, b) → v ≤ t + p h ∧ b ∈ bs ∧ hd b ≠ some h ∧ ∃ x w, g b h = some x ∧ W b = some w ∧ v ≤ w + x
  free : ∀ b ∈ bs, hd b = none → W b = some 0
  had : ∀ b ∈ bs, ∀ h, hd b = some h → W b = (L h).map fun e => e.1 - (u b + p h)
  at_ : ∀ h v b, L h = some (v, b) → ∃ l s, Walk g bs hd u p l h s ∧ s = t + p h - v
/-- the way that the marks tell -/
inductive Tr (hd : B → Option H) (L : H → Option (Int × B)) : H → List (B × H) → Prop
  | base {h : H} {v : Int} {b : B} : L h = some (v, b) → hd b = none → Tr hd L h [(b, h)]
  | step {h h' : H} {v : Int} {b : B} {l : List (B × H)} : L h = some (v, b) → hd b = some h' → Tr hd L h' l → Tr hd L h ((b, h) :: l)
/-- one mark set -/
def putL (L : H → Option (Int × B)) (h : H) (e : Int × B) : H → Option (Int × B) := fun k => if k = h then some e else L k
def putW (W : B → Option Int) (b : B) (w : Int) : B → Option Int := fun k => if k = b then some w else W k
section
variable {g : B → H → Option Int} {bs : List B} {hd : B → Option H} {t : Int} {u : B → Int} {p : H → Int} {L : H → Option (Int × B)} {W : B → Option Int}
theorem St.w_up (c : Cert g bs hd t u p) (s : St g bs hd t u p L W) {b : B} {w : Int} (hb : b ∈ bs) (h : W b = some w) : w ≤ t - u b := by
  cases e : hd b with
  | none =>
    rw [s.free b hb e] at h; cases h
    have := c.uz b hb e; omega
  | some k =>
    rw [s.had b hb k e] at h
    cases e2 : L k with
    | none => rw [e2] at h; cases h
    | some q =>
      rw [e2] at h; cases h
      have := (s.up k q.1 q.2 e2).1
      show q.1 - (u b + p k) ≤ _
      omega
/-- a buyer reached is reached by a walk -/
theorem St.w_at (c : Cert g bs hd t u p) (s : St g bs hd t u p L W) {b : B} {w x : Int} {h : H} (hb : b ∈ bs) (hw : W b = some w) (hn : hd b ≠ some h) (hx : g b h = some x) : ∃ l, Walk g bs hd u p l h (t + p h - (w + x)) := by
  cases e : hd b with
  | none =>
    rw [s.free b hb e] at hw; cases hw
    have h1 := c.uz b hb e
    refine ⟨[b], ?_⟩
    have := Walk.base (u := u) (p := p) hb e hx
    rw [h1] at this
    have e2 : t + p h - x = t + p h - (0 + x) := by omega
    rw [e2] at this; exact this
  | some k =>
    rw [s.had b hb k e] at hw
    cases e2 : L k with
    | none => rw [e2] at hw; cases hw
    | some q =>
      rw [e2] at hw; cases hw
      obtain ⟨l, s', wk, hs⟩ := s.at_ k q.1 q.2 e2
      refine ⟨b :: l, ?_⟩
      have hne : h ≠ k := fun z => hn (by rw [z]; exact e)
      have := Walk.step wk hb e hne hx
      have e3 : s' + (u b + p h - x) = t + p h - (q.1 - (u b + p k) + x) := by omega
      rw [e3] at this; exact this
/-- the step of the search: a mark is bettered -/
theorem St.step (c : Cert g bs hd t u p) (s : St g bs hd t u p L W) {b : B} {h : H} {w x : Int} (hb : b ∈ bs) (hw : W b = some w) (hn : hd b ≠ some h) (hx : g b h = some x) (bt : ∀ q, L h = some q → q.1 < w + x) :
    (∀ a ∈ bs, hd a = some h → St g bs hd t u p (putL L h (w + x, b)) (putW W a (w + x - (u a + p h)))) ∧ ((∀ a ∈ bs, hd a ≠ some h) → St g bs hd t u p (putL L h (w + x, b)) W) := by
  have hup := s.w_up c hb hw
  have hfe := c.fe b hb h x hx
  have wmono : ∀ a ∈ bs, ∀ (_ : hd a = some h), ∀ w0, W a = some w0 → w0 ≤ w + x - (u a + p h) := by
    intro a ha e w0 e0
    rw [s.had a ha h e] at e0
    cases e2 : L h with
    | none => rw [e2] at e0; cases e0
    | some q =>
      rw [e2] at e0; cases e0
      have := bt q e2
      show q.1 - _ ≤ _
      omega
  have nb : ∀ a, hd a = some h → a ≠ b := fun a e z => hn (z ▸ e)
  constructor
  · intro a ha e
    have Wa : ∀ k w0, W k = some w0 → ∃ w1, putW W a (w + x - (u a + p h)) k = some w1 ∧ w0 ≤ w1 := by
      intro k w0 e0
      unfold putW
      by_cases z : k = a
      · rw [if_pos z]; subst z; exact ⟨_, rfl, wmono k ha e w0 e0⟩
      · rw [if_neg z]; exact ⟨_, e0, Int.le_refl _⟩
    refine ⟨fun k v b' hk => ?_, fun k hk e0 => ?_, fun k hk h' e0 => ?_, fun k v b' hk => ?_⟩
    · unfold putL at hk
      by_cases z : k = h
      · rw [if_pos z] at hk; cases hk; subst z
        obtain ⟨w1, e1, h1⟩ := Wa b w hw
        exact ⟨by omega, hb, hn, x, w1, hx, e1, by omega⟩
      · rw [if_neg z] at hk
        obtain ⟨h1, h2, h3, x', w', h4, h5, h6⟩ := s.up k v b' hk
        obtain ⟨w1, e1, h7⟩ := Wa b' w' h5
        exact ⟨h1, h2, h3, x', w1, h4, e1, by omega⟩
    · unfold putW
      rw [if_neg (fun z => by rw [z, e] at e0; cases e0)]
      exact s.free k hk e0
    · unfold putW putL
      by_cases z : k = a
      · subst z
        rw [e] at e0; cases e0
        rw [if_pos rfl, if_pos rfl]; rfl
      · rw [if_neg z]
        have z2 : h' ≠ h := fun q => z (c.inj k hk a ha h (q ▸ e0) e)
        rw [if_neg z2]
        exact s.had k hk h' e0
    · unfold putL at hk
      by_cases z : k = h
      · rw [if_pos z] at hk; cases hk; subst z
        obtain ⟨l, wk⟩ := s.w_at c hb hw hn hx
        exact ⟨l, _, wk, rfl⟩
      · rw [if_neg z] at hk
        exact s.at_ k v b' hk
  · intro no
    refine ⟨fun k v b' hk => ?_, s.free, fun k hk h' e0 => ?_, fun k v b' hk => ?_⟩
    · unfold putL at hk
      by_cases z : k = h
      · rw [if_pos z] at hk; cases hk; subst z
        exact ⟨by omega, hb, hn, x, w, hx, hw, Int.le_refl _⟩
      · rw [if_neg z] at hk
        exact s.up k v b' hk
    · unfold putL
      rw [if_neg (fun z : h' = h => no k hk (by rw [← z]; exact e0))]
      exact s.had k hk h' e0
    · unfold putL at hk
      by_cases z : k = h
      · rw [if_pos z] at hk; cases hk; subst z
        obtain ⟨l, wk⟩ := s.w_at c hb hw hn hx
        exact ⟨l, _, wk, rfl⟩
      · rw [if_neg z] at hk
        exact s.at_ k v b' hk
/-- what a house's mark lacks never grows along the way back -/
theorem St.back (c : Cert g bs hd t u p) (s : St g bs hd t u p L W) {h h' : H} {v : Int} {b : B} (h1 : L h = some (v, b)) (h2 : hd b = some h') : ∃ v' b', L h' = some (v', b') ∧ t + p h' - v' ≤ t + p h - v := by
  obtain ⟨a1, a2, a3, x, w, a4, a5, a6⟩ := s.up h v b h1
  rw [s.had b a2 h' h2] at a5
  cases e : L h' with
  | none => rw [e] at a5; cases a5
  | some q =>
    rw [e] at a5; cases a5
    refine ⟨q.1, q.2, rfl, ?_⟩
    have := c.fe b a2 h x a4
    simp only at a6
    omega
theorem Tr.keep (c : Cert g bs hd t u p) (s : St g bs hd t u p L W) {h0 : H} {e : Int × B} {k : H} {l : List (B × H)} (T : Tr hd L k l) : (∀ v b, L k = some (v, b) → ∀ q, L h0 = some q → t + p k - v < t + p h0 - q.1) → (L h0 = none → k ≠ h0) → Tr hd (putL L h0 e) k l := by
  induction T with
  | @base h v b h1 h2 =>
    intro hlt hne
    have z : h ≠ h0 := fun z => by
      subst z
      have := hlt v b h1 _ h1
      omega
    exact .base (by unfold putL; rw [if_neg z]; exact h1) h2
  | @step h h' v b l h1 h2 T ih =>
    intro hlt hne
    have z : h ≠ h0 := fun z => by
      subst z
      have := hlt v b h1 _ h1
      omega
    refine .step (by unfold putL; rw [if_neg z]; exact h1) h2 (ih (fun v' b' e' q hq => ?_) fun hn z' => ?_)
    · obtain ⟨v2, b2, e2, h3⟩ := s.back c h1 h2
      rw [e2] at e'; cases e'
      have := hlt v b h1 q hq
      omega
    · obtain ⟨v2, b2, e2, h3⟩ := s.back c h1 h2
      rw [z', hn] at e2; cases e2
/-- each mark tells a way -/
theorem Tr.put (c : Cert g bs hd t u p) (s : St g bs hd t u p L W) (T : ∀ k q, L k = some q → ∃ l, Tr hd L k l) {b : B} {h : H} {w x : Int} (hb : b ∈ bs) (hw : W b = some w) (hn : hd b ≠ some h) (hx : g b h = some x) (bt : ∀ q, L h = some q → q.1 < w + x) :
    ∀ k q, putL L h (w + x, b) k = some q → ∃ l, Tr hd (putL L h (w + x, b)) k l := by
  have at0 : putL L h (w + x, b) h = some (w + x, b) := by unfold putL; rw [if_pos rfl]
  have T0 : ∃ l, Tr hd (putL L h (w + x, b)) h l := by
    cases e : hd b with
    | none => exact ⟨_, .base at0 e⟩
    | some h' =>
      have hw' := hw
      rw [s.had b hb h' e] at hw'
      cases e2 : L h' with
      | none => rw [e2] at hw'; cases hw'
      | some q =>
        rw [e2] at hw'; cases hw'
        obtain ⟨l, Tl⟩ := T h' q e2
        refine ⟨_, .step at0 e (Tl.keep c s (fun v b' e3 q' hq' => ?_) fun _ z => hn (by rw [← z]; exact e))⟩
        rw [e2] at e3; cases e3
        have := bt q' hq'
        have := c.fe b hb h x hx
        simp only at *
        omega
  obtain ⟨l0, T0⟩ := T0
  have all : ∀ {k : H} {l : List (B × H)}, Tr hd L k l → ∃ l', Tr hd (putL L h (w + x, b)) k l' := by
    intro k l Tk
    induction Tk with
    | @base k v b' h1 h2 =>
      by_cases z : k = h
      · rw [z]; exact ⟨l0, T0⟩
      · exact ⟨_, .base (by unfold putL; rw [if_neg z]; exact h1) h2⟩
    | @step k k' v b' l h1 h2 T ih =>
      by_cases z : k = h
      · rw [z]; exact ⟨l0, T0⟩
      · obtain ⟨l', T'⟩ := ih
        exact ⟨_, .step (by unfold putL; rw [if_neg z]; exact h1) h2 T'⟩
  intro k q hk
  by_cases z : k = h
  · rw [z]; exact ⟨l0, T0⟩
  · have hk' := hk
    unfold putL at hk'
    rw [if_neg z] at hk'
    obtain ⟨l, Tl⟩ := T k q hk'
    exact all Tl
end
/-! ### the rounds -/
/-- the house's mark lacks at most s -/
def Cv (t : Int) (p : H → Int) (L : H → Option (Int × B)) (h : H) (s : Int) : Prop := ∃ v b, L h = some (v, b) ∧ t + p h - v ≤ s
def Le (L L' : H → Option (Int × B)) : Prop := ∀ h v b, L h = some (v, b) → ∃ v' b', L' h = some (v', b') ∧ v ≤ v'
section
variable {g : B → H → Option Int} {bs : List B} {hd : B → Option H} {t t' : Int} {u : B → Int} {p : H → Int} {L L' : H → Option (Int × B)} {W : B → Option Int}
theorem Le.refl : Le L L := fun h v b e => ⟨v, b, e, Int.le_refl _⟩
theorem Le.trans {L2 : H → Option (Int × B)} (x : Le L L') (y : Le L' L2) : Le L L2 := fun h v b e => by
  obtain ⟨v', b', e', h1⟩ := x h v b e
  obtain ⟨v2, b2, e2, h2⟩ := y h v' b' e'
  exact ⟨v2, b2, e2, by omega⟩
theorem Le.put {h : H} {v : Int} {b : B} (bt : ∀ q, L h = some q → q.1 < v) : Le L (putL L h (v, b)) := fun k v' b' e => by
  unfold putL
  by_cases z : k = h
  · rw [if_pos z]; subst z; exact ⟨v, b, rfl, Int.le_of_lt (bt _ e)⟩
  · rw [if_neg z]; exact ⟨v', b', e, Int.le_refl _⟩
theorem Cv.mono {h : H} {s : Int} (x : Le L L') (c : Cv t p L h s) : Cv t p L' h s := by
  obtain ⟨v, b, e, h1⟩ := c
  obtain ⟨v', b', e', h2⟩ := x h v b e
  exact ⟨v', b', e', by omega⟩
def Sk (g : B → H → Option Int) (bs : List B) (hd : B → Option H) (t : Int) (u : B → Int) (p : H → Int) (k : Nat) (L : H → Option (Int × B)) : Prop := ∀ l h s, Walk g bs hd u p l h s → l.length ≤ k → Cv t p L h s
def Se (g : B → H → Option Int) (bs : List B) (hd : B → Option H) (t : Int) (u : B → Int) (p : H → Int) (k : Nat) (L : H → Option (Int × B)) (b : B) (h : H) : Prop := ∀ l s, Walk g bs hd u p (b :: l) h s → l.length ≤ k → Cv t p L h s
theorem Sk.mono {k : Nat} (x : Le L L') (s : Sk g bs hd t u p k L) : Sk g bs hd t u p k L' := fun l h q w hl => (s l h q w hl).mono x
theorem Se.mono {k : Nat} {b : B} {h : H} (x : Le L L') (s : Se g bs hd t u p k L b h) : Se g bs hd t u p k L' b h := fun l q w hl => (s l q w hl).mono x
theorem Sk.zero : Sk g bs hd t u p 0 L := fun l h s w hl => by
  cases w with
  | base => simp at hl
  | step => simp at hl
/-- an edge, once looked at, is covered -/
theorem Se.of (c : Cert g bs hd t u p) (st : St g bs hd t u p L W) {k : Nat} {b : B} {h : H} (s : Sk g bs hd t u p k L) (e : ∀ w x, W b = some w → g b h = some x → hd b ≠ some h → ∃ v b', L' h = some (v, b') ∧ w + x ≤ v) : Se g bs hd t u p k L' b h := by
  intro l q w hl
  cases w with
  | base hb hn hx =>
    rename_i x
    obtain ⟨v, b', e1, h1⟩ := e 0 x (st.free b hb hn) hx (by rw [hn]; intro z; cases z)
    have := c.uz b hb hn
    exact ⟨v, b', e1, by omega⟩
  | step w1 hb hh hne hx =>
    rename_i h1 s1 x
    obtain ⟨v1, b1, e1, k1⟩ := s l h1 s1 w1 hl
    have hw := st.had b hb h1 hh
    rw [e1] at hw
    obtain ⟨v, b', e2, k2⟩ := e _ x hw hx (by rw [hh]; intro z; cases z; exact hne rfl)
    simp only at k2
    exact ⟨v, b', e2, by omega⟩
theorem Sk.succ {k : Nat} (e : ∀ b h x, b ∈ bs → g b h = some x → Se g bs hd t u p k L b h) : Sk g bs hd t u p (k + 1) L := fun l h s w hl => by
  cases l with
  | nil => cases w
  | cons b l =>
    have hl' : l.length ≤ k := by simpa using hl
    have w' := w
    cases w with
    | base hb hn hx => exact e b h _ hb hx [] _ w' hl'
    | step w1 hb hh hne hx => exact e b h _ hb hx l _ w' hl'
/-- nothing is bettered any more -/
def Fix (g : B → H → Option Int) (bs : List B) (hd : B → Option H) (L : H → Option (Int × B)) (W : B → Option Int) : Prop := ∀ b ∈ bs, ∀ h x w, W b = some w → hd b ≠ some h → g b h = some x → ∃ v b', L h = some (v, b') ∧ w + x ≤ v
theorem fix_of (c : Cert g bs hd t u p) (st : St g bs hd t u p L W) (s : Sk g bs hd t u p bs.length L) : Fix g bs hd L W := by
  intro b hb h x w hw hn hx
  obtain ⟨l, wk⟩ := st.w_at c hb hw hn hx
  obtain ⟨l', s', wk', hs, nd⟩ := wk.short c
  obtain ⟨v, b', e, h1⟩ := s l' h s' wk' (nodup_len nd wk'.mem)
  exact ⟨v, b', e, by omega⟩

/-! ### new duals -/
def du (u : B → Int) (W : B → Option Int) (t' : Int) (b : B) : Int := match W b with
  | some w => min (u b) (t' - w)
  | none => u b
def dp (p : H → Int) (L : H → Option (Int × B)) (t' : Int) (h : H) : Int := match L h with
  | some q => max (p h) (q.1 - t')
  | none => p h
theorem du_some {b : B} {w : Int} (h : W b = some w) : du u W t' b = min (u b) (t' - w) := by unfold du; rw [h]
theorem du_none {b : B} (h : W b = none) : du u W t' b = u b := by unfold du; rw [h]
theorem dp_some {h : H} {q : Int × B} (e : L h = some q) : dp p L t' h = max (p h) (q.1 - t') := by unfold dp; rw [e]
theorem dp_none {h : H} (e : L h = none) : dp p L t' h = p h := by unfold dp; rw [e]
theorem dp_ge (h : H) : p h ≤ dp p L t' h := by
  unfold dp
  split
  · omega
  · exact Int.le_refl _
theorem Cert.next (c : Cert g bs hd t u p) (st : St g bs hd t u p L W) (fx : Fix g bs hd L W) (ht : t' ≤ t) (hf : ∀ h v b, L h = some (v, b) → (∀ a ∈ bs, hd a ≠ some h) → v ≤ t') : Cert g bs hd t' (du u W t') (dp p L t') := by
  have eq : ∀ b ∈ bs, ∀ h, hd b = some h → du u W t' b + dp p L t' h = u b + p h := by
    intro b hb h e
    have hw := st.had b hb h e
    cases e2 : L h with
    | none => rw [e2] at hw; rw [du_none hw, dp_none e2]
    | some q => rw [e2] at hw; rw [du_some hw, dp_some e2]; simp only; omega
  refine ⟨fun b hb h x hx => ?_, fun b hb h e => ?_, fun h => ?_, fun h hh => ?_, fun b hb => ?_, fun b hb e => ?_, c.inj⟩
  · have h1 := c.fe b hb h x hx
    have h2 := dp_ge (p := p) (L := L) (t' := t') h
    cases e : W b with
    | none => rw [du_none e]; omega
    | some w =>
      by_cases z : hd b = some h
      · have := eq b hb h z
        omega
      · obtain ⟨v, b', e2, h3⟩ := fx b hb h x w e z hx
        rw [du_some e, dp_some e2]
        simp only
        omega
  · rw [eq b hb h e]; exact c.eq b hb h e
  · have := c.p0 h
    have := dp_ge (p := p) (L := L) (t' := t') h
    omega
  · have h0 := c.pz h hh
    cases e : L h with
    | none => rw [dp_none e]; exact h0
    | some q =>
      have := hf h q.1 q.2 e hh
      rw [dp_some e]; omega
  · have h1 := c.ut b hb
    cases e : W b with
    | none => rw [du_none e]; omega
    | some w =>
      have := st.w_up c hb e
      rw [du_some e]; omega
  · rw [du_some (st.free b hb e), c.uz b hb e]
    omega

/-! ### the change along the way -/
theorem Tr.uniq {e : H} {l l' : List (B × H)} (T : Tr hd L e l) : Tr hd L e l' → l = l' := by
  induction T generalizing l' with
  | base h1 h2 =>
    intro T'
    cases T' with
    | base h3 h4 => rw [h1] at h3; cases h3; rfl
    | step h3 h4 _ => rw [h1] at h3; cases h3; rw [h2] at h4; cases h4
  | step h1 h2 T ih =>
    intro T'
    cases T' with
    | base h3 h4 => rw [h1] at h3; cases h3; rw [h2] at h4; cases h4
    | step h3 h4 T2 => rw [h1] at h3; cases h3; rw [h2] at h4; cases h4; rw [ih T2]
/-- each pair of the way: its rest is a way, too -/
theorem Tr.at_ {e : H} {l : List (B × H)} (T : Tr hd L e l) : ∀ b h, (b, h) ∈ l → ∃ v, L h = some (v, b) ∧ ∃ l2, (b, h) :: l2 <:+ l ∧ ((hd b = none ∧ l2 = []) ∨ ∃ h', hd b = some h' ∧ Tr hd L h' l2) := by
  induction T with
  | @base h v b h1 h2 =>
    intro b' h' hm
    cases List.mem_singleton.mp hm
    exact ⟨v, h1, [], List.suffix_refl _, .inl ⟨h2, rfl⟩⟩
  | @step h h' v b l h1 h2 T ih =>
    intro b' k hm
    rcases List.mem_cons.mp hm with z | z
    · cases z
      exact ⟨v, h1, l, List.suffix_refl _, .inr ⟨h', h2, T⟩⟩
    · obtain ⟨v2, e2, l2, sf, h3⟩ := ih b' k z
      exact ⟨v2, e2, l2, sf.trans (List.suffix_cons _ _), h3⟩
theorem Tr.head {e : H} {l : List (B × H)} (T : Tr hd L e l) : ∃ v b l2, L e = some (v, b) ∧ l = (b, e) :: l2 := by
  cases T with
  | base h1 h2 => exact ⟨_, _, _, h1, rfl⟩
  | step h1 h2 T => exact ⟨_, _, _, h1, rfl⟩
theorem Tr.from {e : H} {l : List (B × H)} (T : Tr hd L e l) : ∀ b h, (b, h) ∈ l → h = e ∨ ∃ c k, (c, k) ∈ l ∧ hd c = some h := by
  induction T with
  | @base h v b h1 h2 =>
    intro b' h' hm
    cases List.mem_singleton.mp hm
    exact .inl rfl
  | @step h h' v b l h1 h2 T ih =>
    intro b' k hm
    rcases List.mem_cons.mp hm with z | z
    · cases z; exact .inl rfl
    · rcases ih b' k z with e | ⟨c, k2, hc, hk⟩
      · subst e
        exact .inr ⟨b, h, List.mem_cons_self .., h2⟩
      · exact .inr ⟨c, k2, List.mem_cons_of_mem _ hc, hk⟩
theorem Tr.last {e : H} {l : List (B × H)} (T : Tr hd L e l) : ∃ b h, (b, h) ∈ l ∧ hd b = none := by
  induction T with
  | @base h v b h1 h2 => exact ⟨b, h, List.mem_cons_self .., h2⟩
  | step h1 h2 T ih =>
    obtain ⟨b, h, hm, hn⟩ := ih
    exact ⟨b, h, List.mem_cons_of_mem _ hm, hn⟩
theorem Tr.nodup {e : H} {l : List (B × H)} (T : Tr hd L e l) : (l.map (·.1)).Nodup := by
  induction T with
  | base => simp
  | @step h h' v b l h1 h2 T ih =>
    rw [List.map_cons, List.nodup_cons]
    refine ⟨fun hm => ?_, ih⟩
    obtain ⟨⟨b', k⟩, hm2, hb⟩ := List.mem_map.mp hm
    simp only at hb
    subst hb
    obtain ⟨v2, e2, l2, sf, h3⟩ := T.at_ b' k hm2
    rcases h3 with ⟨hn, _⟩ | ⟨h'', hh, T2⟩
    · rw [h2] at hn; cases hn
    · rw [h2] at hh; cases hh
      have := T.uniq T2
      subst this
      have := sf.length_le
      simp at this
      omega
/-- what all have behind a way -/
def after (hd : B → Option H) (l : List (B × H)) (b : B) : Option H := match l.lookup b with
  | some h => some h
  | none => hd b
theorem look_of : ∀ {l : List (B × H)}, (l.map (·.1)).Nodup → ∀ {b : B} {h : H}, (b, h) ∈ l → l.lookup b = some h
  | [], _, _, _, hm => by cases hm
  | (c, k) :: l, nd, b, h, hm => by
    rw [List.map_cons, List.nodup_cons] at nd
    rw [List.lookup_cons]
    rcases List.mem_cons.mp hm with z | z
    · cases z; simp
    · have hne : b ≠ c := fun e => nd.1 (e ▸ List.mem_map.mpr ⟨(b, h), z, rfl⟩)
      have : (b == c) = false := by simpa using hne
      rw [this]
      exact look_of nd.2 z
theorem mem_of {l : List (B × H)} {b : B} {h : H} (e : l.lookup b = some h) : (b, h) ∈ l := by
  induction l with
  | nil => cases e
  | cons q l ih =>
    obtain ⟨c, k⟩ := q
    rw [List.lookup_cons] at e
    by_cases z : b = c
    · subst z; simp at e; subst e; exact List.mem_cons_self ..
    · have : (b == c) = false := by simpa using z
      rw [this] at e
      exact List.mem_cons_of_mem _ (ih e)
/-- what a house lacks, along the way -/
theorem Tr.lack (c : Cert g bs hd t u p) (st : St g bs hd t u p L W) {e : H} {l : List (B × H)} (T : Tr hd L e l) : ∀ b h, (b, h) ∈ l → ∃ v ve be, L h = some (v, b) ∧ L e = some (ve, be) ∧ t + p h - v ≤ t + p e - ve := by
  induction T with
  | @base h v b h1 h2 =>
    intro b' h' hm
    cases List.mem_singleton.mp hm
    exact ⟨v, v, b, h1, h1, Int.le_refl _⟩
  | @step h h' v b l h1 h2 T ih =>
    intro b' k hm
    rcases List.mem_cons.mp hm with z | z
    · cases z; exact ⟨v, v, b, h1, h1, Int.le_refl _⟩
    · obtain ⟨v2, ve, be, e1, e2, h3⟩ := ih b' k z
      obtain ⟨v3, b3, e3, h4⟩ := st.back c h1 h2
      rw [e3] at e2; cases e2
      exact ⟨v2, v, b, e1, h1, by omega⟩
theorem Cert.change (c : Cert g bs hd t u p) (st : St g bs hd t u p L W) (fx : Fix g bs hd L W) (ht : t' ≤ t) (hf : ∀ h v b, L h = some (v, b) → (∀ a ∈ bs, hd a ≠ some h) → v ≤ t') {e : H} {l : List (B × H)} (T : Tr hd L e l) {be : B} (he : L e = some (t', be)) (fe : ∀ a ∈ bs, hd a ≠ some e) :
    Cert g bs (after hd l) t' (du u W t') (dp p L t') := by
  have n := c.next st fx ht hf
  have nd := T.nodup
  have lk : ∀ b h, after hd l b = some h → (b, h) ∈ l ∨ (hd b = some h ∧ l.lookup b = none) := by
    intro b h z
    unfold after at z
    split at z
    · rename_i k e2; cases z; exact .inl (mem_of e2)
    · rename_i e2; exact .inr ⟨z, e2⟩
  have inl : ∀ b h, (b, h) ∈ l → after hd l b = some h := by
    intro b h hm
    unfold after
    rw [look_of nd hm]
  have tight : ∀ b h, (b, h) ∈ l → g b h = some (du u W t' b + dp p L t' h) := by
    intro b h hm
    obtain ⟨v, ve, be', e1, e2, h3⟩ := T.lack c st b h hm
    rw [he] at e2; cases e2
    have pe := c.pz e fe
    obtain ⟨k1, k2, k3, x, w, k4, k5, k6⟩ := st.up h v b e1
    obtain ⟨v', b', k7, k8⟩ := fx b k2 h x w k5 k3 k4
    rw [e1] at k7; cases k7
    have := c.fe b k2 h x k4
    rw [k4, du_some k5, dp_some e1]
    simp only
    congr 1
    omega
  have memb : ∀ b h, (b, h) ∈ l → b ∈ bs := fun b h hm => by
    obtain ⟨v, e1, _⟩ := T.at_ b h hm
    exact (st.up h v b e1).2.1
  have samee : ∀ b b' h, (b, h) ∈ l → (b', h) ∈ l → b = b' := fun b b' h h1 h2 => by
    obtain ⟨v, e1, _⟩ := T.at_ b h h1
    obtain ⟨v', e2, _⟩ := T.at_ b' h h2
    rw [e1] at e2; cases e2; rfl
  -- a house of the way is nobody's else
  have cross : ∀ b b' h, (b, h) ∈ l → b' ∈ bs → hd b' = some h → l.lookup b' ≠ none := by
    intro b b' h h1 hb' e2 hn
    rcases T.from b h h1 with z | ⟨a, k, ha, hk⟩
    · exact fe b' hb' (z ▸ e2)
    · have : a = b' := c.inj a (memb a k ha) b' hb' h hk e2
      subst this
      rw [look_of nd ha] at hn; cases hn
  refine ⟨n.fe, fun b hb h z => ?_, n.p0, fun h hh => ?_, n.ut, fun b hb z => ?_, fun b hb b' hb' h z z' => ?_⟩
  · rcases lk b h z with hm | ⟨e2, _⟩
    · exact tight b h hm
    · exact n.eq b hb h e2
  · refine n.pz h fun a ha e2 => ?_
    -- a had h ahead of the change: somebody has it behind
    cases e3 : l.lookup a with
    | none => exact hh a ha (by unfold after; rw [e3]; exact e2)
    | some k =>
      obtain ⟨v, e4, l2, sf, h3⟩ := T.at_ a k (mem_of e3)
      rcases h3 with ⟨hn, _⟩ | ⟨h', hk, T2⟩
      · rw [e2] at hn; cases hn
      · rw [e2] at hk; cases hk
        obtain ⟨v2, b2, l3, e5, e6⟩ := T2.head
        have : (b2, h) ∈ l := by
          apply sf.mem
          rw [e6]
          exact List.mem_cons_of_mem _ (List.mem_cons_self ..)
        exact hh b2 (memb _ _ this) (inl _ _ this)
  · refine n.uz b hb ?_
    unfold after at z
    split at z
    · cases z
    · exact z
  · rcases lk b h z with h1 | ⟨h1, n1⟩ <;> rcases lk b' h z' with h2 | ⟨h2, n2⟩
    · exact samee b b' h h1 h2
    · exact absurd n2 (cross b b' h h1 hb' h2)
    · exact absurd n1 (cross b' b h h2 hb h1)
    · exact c.inj b hb b' hb' h h1 h2
/-- who has a house has one behind; one more has -/
theorem after_some {l : List (B × H)} {b : B} (h : hd b ≠ none) : after hd l b ≠ none := by
  unfold after
  split
  · intro z; cases z
  · exact h
theorem Tr.more {e : H} {l : List (B × H)} (T : Tr hd L e l) : ∃ b, hd b = none ∧ after hd l b ≠ none ∧ ∃ h, (b, h) ∈ l := by
  obtain ⟨b, h, hm, hn⟩ := T.last
  refine ⟨b, hn, ?_, h, hm⟩
  unfold after
  rw [look_of T.nodup hm]
  intro z; cases z
end
end Asg
set_option linter.all false
set_option autoImplicit false
/-! P2: the greatest sum is one. -/
namespace Asg
variable {B H : Type} [DecidableEq B] [DecidableEq H]
theorem sum_erase {p : H → Int} : ∀ {m : List H} {h : H}, h ∈ m → ((m.erase h).map p).sum + p h = (m.map p).sum
  | [], _, hm => by cases hm
  | a :: m, h, hm => by
    by_cases z : a = h
    · subst z; rw [List.erase_cons_head, List.map_cons, List.sum_cons]; omega
    · have hm' : h ∈ m := by
        rcases List.mem_cons.mp hm with q | q
        · exact absurd q.symm z
        · exact q
      rw [List.erase_cons_tail (by simpa using z), List.map_cons, List.map_cons, List.sum_cons, List.sum_cons]
      have := sum_erase (p := p) hm'
      omega
theorem sum_nn {p : H → Int} (h0 : ∀ h, 0 ≤ p h) : ∀ m : List H, 0 ≤ (m.map p).sum
  | [] => Int.le_refl _
  | a :: m => by
    rw [List.map_cons, List.sum_cons]
    have := sum_nn h0 m
    have := h0 a
    omega
theorem sum_z {p : H → Int} : ∀ {m : List H}, (∀ h ∈ m, p h = 0) → (m.map p).sum = 0
  | [], _ => rfl
  | a :: m, hz => by
    rw [List.map_cons, List.sum_cons, hz a (List.mem_cons_self ..), sum_z fun h hm => hz h (List.mem_cons_of_mem _ hm)]
    rfl
theorem sum_sub {p : H → Int} (h0 : ∀ h, 0 ≤ p h) : ∀ {l m : List H}, l.Nodup → (∀ h ∈ l, h ∈ m) → (l.map p).sum ≤ (m.map p).sum
  | [], m, _, _ => sum_nn h0 m
  | a :: l, m, nd, hm => by
    have nd' := List.nodup_cons.mp nd
    have ha := hm a (List.mem_cons_self ..)
    have := sum_sub h0 (l := l) (m := m.erase a) nd'.2 fun h hh => (List.mem_erase_of_ne (fun e : h = a => nd'.1 (by rw [← e]; exact hh))).mpr (hm h (List.mem_cons_of_mem _ hh))
    have := sum_erase (p := p) ha
    rw [List.map_cons, List.sum_cons]
    omega
theorem sum_eq {p : H → Int} : ∀ {l m : List H}, l.Nodup → m.Nodup → (∀ h ∈ l, h ∈ m) → (∀ h ∈ m, h ∉ l → p h = 0) → (l.map p).sum = (m.map p).sum
  | [], m, _, _, _, hz => (sum_z fun h hm => hz h hm (by simp)).symm
  | a :: l, m, nd, nm, hm, hz => by
    have nd' := List.nodup_cons.mp nd
    have ha := hm a (List.mem_cons_self ..)
    have := sum_eq (p := p) (l := l) (m := m.erase a) nd'.2 (nm.erase a) (fun h hh => (List.mem_erase_of_ne (fun e : h = a => nd'.1 (by rw [← e]; exact hh))).mpr (hm h (List.mem_cons_of_mem _ hh))) fun h hh hn => by
      have hne : h ≠ a := fun e => by
        subst e
        exact (List.Nodup.not_mem_erase nm) hh
      exact hz h (List.mem_of_mem_erase hh) fun z => (List.mem_cons.mp z).elim hne hn
    have := sum_erase (p := p) ha
    rw [List.map_cons, List.sum_cons]
    omega
/-- what a pairing gains -/
def gains (g : B → H → Option Int) (bs : List B) (hd : B → Option H) : Int := (bs.map fun b => match hd b with
  | some h => (g b h).getD 0
  | none => 0).sum
def pO (p : H → Int) : Option H → Int
  | some h => p h
  | none => 0
theorem sum_pO {p : H → Int} (hd : B → Option H) : ∀ bs : List B, (bs.map fun b => pO p (hd b)).sum = ((bs.filterMap hd).map p).sum
  | [] => rfl
  | b :: bs => by
    rw [List.map_cons, List.sum_cons, sum_pO hd bs]
    cases e : hd b with
    | none => rw [List.filterMap_cons_none e]; show 0 + _ = _; omega
    | some h => rw [List.filterMap_cons_some e, List.map_cons, List.sum_cons]; rfl
theorem sum_le {f k : B → Int} : ∀ {bs : List B}, (∀ b ∈ bs, f b ≤ k b) → (bs.map f).sum ≤ (bs.map k).sum
  | [], _ => Int.le_refl _
  | b :: bs, h => by
    rw [List.map_cons, List.map_cons, List.sum_cons, List.sum_cons]
    have := h b (List.mem_cons_self ..)
    have := sum_le (f := f) (k := k) (bs := bs) fun c hc => h c (List.mem_cons_of_mem _ hc)
    omega
theorem sum_add (f k : B → Int) : ∀ bs : List B, (bs.map fun b => f b + k b).sum = (bs.map f).sum + (bs.map k).sum
  | [] => rfl
  | b :: bs => by
    rw [List.map_cons, List.map_cons, List.map_cons, List.sum_cons, List.sum_cons, List.sum_cons, sum_add f k bs]
    omega
theorem sum_cong {f k : B → Int} {bs : List B} (h : ∀ b ∈ bs, f b = k b) : (bs.map f).sum = (bs.map k).sum := by
  rw [List.map_congr_left h]
/-- a pairing: wanted pairs, a house to one buyer -/
structure Pairing (g : B → H → Option Int) (bs : List B) (hd : B → Option H) : Prop where
  w : ∀ b ∈ bs, ∀ h, hd b = some h → ∃ x, g b h = some x
  inj : ∀ b ∈ bs, ∀ c ∈ bs, ∀ h, hd b = some h → hd c = some h → b = c
theorem Pairing.nodup {g : B → H → Option Int} {hd : B → Option H} : ∀ {bs : List B}, bs.Nodup → Pairing g bs hd → (bs.filterMap hd).Nodup
  | [], _, _ => by simp
  | b :: bs, nd, P => by
    have nd' := List.nodup_cons.mp nd
    have ih := Pairing.nodup (g := g) (hd := hd) nd'.2 ⟨fun c hc => P.w c (List.mem_cons_of_mem _ hc), fun c hc d hd' => P.inj c (List.mem_cons_of_mem _ hc) d (List.mem_cons_of_mem _ hd')⟩
    cases e : hd b with
    | none => rw [List.filterMap_cons_none e]; exact ih
    | some h =>
      rw [List.filterMap_cons_some e, List.nodup_cons]
      refine ⟨fun hm => ?_, ih⟩
      obtain ⟨c, hc, hc2⟩ := List.mem_filterMap.mp hm
      have := P.inj b (List.mem_cons_self ..) c (List.mem_cons_of_mem _ hc) h e hc2
      subst this
      exact nd'.1 hc
section
variable {g : B → H → Option Int} {bs : List B} {hs : List H} {hd hd' : B → Option H} {u : B → Int} {p : H → Int}
/-- no pairing has more -/
theorem gains_le (c : Cert g bs hd 0 u p) (nb : bs.Nodup) (P : Pairing g bs hd') (hh : ∀ b ∈ bs, ∀ h, hd' b = some h → h ∈ hs) : gains g bs hd' ≤ (bs.map u).sum + (hs.map p).sum := by
  have h1 : gains g bs hd' ≤ (bs.map fun b => u b + pO p (hd' b)).sum := by
    refine sum_le fun b hb => ?_
    have hu := c.ut b hb
    cases e : hd' b with
    | none => simp only [pO]; omega
    | some h =>
      obtain ⟨x, hx⟩ := P.w b hb h e
      have := c.fe b hb h x hx
      simp only [pO, hx, Option.getD_some]; omega
  rw [sum_add, sum_pO] at h1
  have := sum_sub c.p0 (P.nodup nb) (m := hs) fun h hm => by
    obtain ⟨b, hb, e⟩ := List.mem_filterMap.mp hm
    exact hh b hb h e
  omega
/-- a certified pairing has it -/
theorem gains_eq (c : Cert g bs hd 0 u p) (nb : bs.Nodup) (nh : hs.Nodup) (hh : ∀ b ∈ bs, ∀ h, hd b = some h → h ∈ hs) : gains g bs hd = (bs.map u).sum + (hs.map p).sum := by
  have P : Pairing g bs hd := ⟨fun b hb h e => ⟨_, c.eq b hb h e⟩, c.inj⟩
  have h1 : gains g bs hd = (bs.map fun b => u b + pO p (hd b)).sum := by
    refine sum_cong fun b hb => ?_
    cases e : hd b with
    | none => have := c.uz b hb e; simp only [pO]; omega
    | some h => simp only [pO, c.eq b hb h e, Option.getD_some]
  rw [h1, sum_add, sum_pO]
  have := sum_eq (p := p) (P.nodup nb) nh (fun h hm => by
    obtain ⟨b, hb, e⟩ := List.mem_filterMap.mp hm
    exact hh b hb h e) fun h _ hn => c.pz h fun b hb e => hn (List.mem_filterMap.mpr ⟨b, hb, e⟩)
  omega
end
end Asg
set_option linter.all false
set_option autoImplicit false
/-! P3: all best pairings have the same duals; least and greatest prices, by raising and lowering. -/
namespace Asg
variable {B H : Type} [DecidableEq B] [DecidableEq H]
theorem sum_le_eq {f k : B → Int} : ∀ {bs : List B}, (∀ b ∈ bs, f b ≤ k b) → (bs.map k).sum ≤ (bs.map f).sum → ∀ b ∈ bs, f b = k b
  | [], _, _ => fun b hb => by cases hb
  | a :: bs, h, hs => by
    rw [List.map_cons, List.map_cons, List.sum_cons, List.sum_cons] at hs
    have h1 := h a (List.mem_cons_self ..)
    have h2 := sum_le (f := f) (k := k) (bs := bs) fun c hc => h c (List.mem_cons_of_mem _ hc)
    have ih := sum_le_eq (f := f) (k := k) (bs := bs) (fun c hc => h c (List.mem_cons_of_mem _ hc)) (by omega)
    intro b hb
    rcases List.mem_cons.mp hb with e | e
    · subst e; omega
    · exact ih b e
theorem sum_sub_eq {p : H → Int} (h0 : ∀ h, 0 ≤ p h) : ∀ {l m : List H}, l.Nodup → (∀ h ∈ l, h ∈ m) → (m.map p).sum ≤ (l.map p).sum → ∀ h ∈ m, h ∉ l → p h = 0
  | [], [], _, _, _ => fun h hm => by cases hm
  | [], a :: m, nd, hm, hs => by
    rw [List.map_cons, List.sum_cons] at hs
    have h1 := h0 a
    have h2 := sum_nn h0 m
    have hs' : a = a := rfl
    have e0 : (([] : List H).map p).sum = 0 := rfl
    rw [e0] at hs
    have ih := sum_sub_eq h0 (l := []) (m := m) (by simp) (fun h hh => by cases hh) (by rw [e0]; omega)
    intro h hh hn
    rcases List.mem_cons.mp hh with e | e
    · subst e; omega
    · exact ih h e (by simp)
  | a :: l, m, nd, hm, hs => by
    have nd' := List.nodup_cons.mp nd
    have ha := hm a (List.mem_cons_self ..)
    have e1 := sum_erase (p := p) ha
    rw [List.map_cons, List.sum_cons] at hs
    have ih := sum_sub_eq h0 (l := l) (m := m.erase a) nd'.2 (fun h hh => (List.mem_erase_of_ne (fun e : h = a => nd'.1 (by rw [← e]; exact hh))).mpr (hm h (List.mem_cons_of_mem _ hh))) (by omega)
    intro h hh hn
    have hne : h ≠ a := fun e => hn (by rw [e]; exact List.mem_cons_self ..)
    exact ih h ((List.mem_erase_of_ne hne).mpr hh) fun z => hn (List.mem_cons_of_mem _ z)
section
variable {g : B → H → Option Int} {bs : List B} {hs : List H} {hd hd' : B → Option H} {u u' : B → Int} {p p' q : H → Int}
theorem Cert.pairing (c : Cert g bs hd 0 u p) : Pairing g bs hd := ⟨fun b hb h e => ⟨_, c.eq b hb h e⟩, c.inj⟩
/-- a pairing of as much has the same duals -/
theorem Cert.other (c : Cert g bs hd 0 u p) (nb : bs.Nodup) (nh : hs.Nodup) (hh : ∀ b ∈ bs, ∀ h, hd b = some h → h ∈ hs) (P : Pairing g bs hd') (hh' : ∀ b ∈ bs, ∀ h, hd' b = some h → h ∈ hs) (e : gains g bs hd ≤ gains g bs hd') : Cert g bs hd' 0 u p := by
  have h1 : ∀ b ∈ bs, (match hd' b with
    | some h => (g b h).getD 0
    | none => 0) ≤ u b + pO p (hd' b) := fun b hb => by
    have hu := c.ut b hb
    cases e : hd' b with
    | none => simp only [pO]; omega
    | some h =>
      obtain ⟨x, hx⟩ := P.w b hb h e
      have := c.fe b hb h x hx
      simp only [pO, hx, Option.getD_some]; omega
  have h2 := sum_le h1
  have e1 := gains_eq c nb nh hh
  have h3 := sum_sub c.p0 (P.nodup nb) (m := hs) fun h hm => by
    obtain ⟨b, hb, e⟩ := List.mem_filterMap.mp hm
    exact hh' b hb h e
  have e2 : (bs.map fun b => u b + pO p (hd' b)).sum = (bs.map u).sum + ((bs.filterMap hd').map p).sum := by rw [sum_add, sum_pO]
  have e3 : gains g bs hd' = (bs.map fun b => match hd' b with
    | some h => (g b h).getD 0
    | none => 0).sum := rfl
  have t1 := sum_le_eq h1 (by omega)
  have t2 := sum_sub_eq c.p0 (P.nodup nb) (m := hs) (fun h hm => by
    obtain ⟨b, hb, e⟩ := List.mem_filterMap.mp hm
    exact hh' b hb h e) (by omega)
  refine ⟨c.fe, fun b hb h eh => ?_, c.p0, fun h hn => ?_, c.ut, fun b hb eh => ?_, P.inj⟩
  · obtain ⟨x, hx⟩ := P.w b hb h eh
    have := t1 b hb
    rw [eh] at this
    simp only [hx, Option.getD_some, pO] at this
    rw [hx, this]
  · by_cases hm : h ∈ hs
    · exact t2 h hm fun z => by
        obtain ⟨b, hb, e⟩ := List.mem_filterMap.mp z
        exact hn b hb e
    · exact c.pz h fun b hb e => hm (hh b hb h e)
  · have := t1 b hb
    rw [eh] at this
    simp only [pO] at this
    omega
/-- any two certified pairings exchange their duals -/
theorem Cert.swap (c : Cert g bs hd 0 u p) (c' : Cert g bs hd' 0 u' p') (nb : bs.Nodup) (nh : hs.Nodup) (hh : ∀ b ∈ bs, ∀ h, hd b = some h → h ∈ hs) (hh' : ∀ b ∈ bs, ∀ h, hd' b = some h → h ∈ hs) : Cert g bs hd' 0 u p := by
  refine c.other nb nh hh c'.pairing hh' ?_
  have h1 := gains_le c' nb c.pairing hh
  have h2 := gains_eq c' nb nh hh'
  omega
/-- what b keeps at q -/
def keeps (g : B → H → Option Int) (hd : B → Option H) (q : H → Int) (b : B) : Int := match hd b with
  | some h => (g b h).getD 0 - q h
  | none => 0
structure Stab (g : B → H → Option Int) (bs : List B) (hd : B → Option H) (q : H → Int) : Prop where
  q0 : ∀ h, 0 ≤ q h
  st : ∀ b ∈ bs, ∀ h x, g b h = some x → hd b ≠ some h → x - keeps g hd q b ≤ q h
theorem Cert.keeps (c : Cert g bs hd 0 u p) {b : B} (hb : b ∈ bs) : keeps g hd p b = u b := by
  unfold Asg.keeps
  cases e : hd b with
  | none => have := c.uz b hb e; dsimp only; omega
  | some h => simp only [c.eq b hb h e, Option.getD_some]; omega
theorem Cert.stab (c : Cert g bs hd 0 u p) : Stab g bs hd p := ⟨c.p0, fun b hb h x hx _ => by
  rw [c.keeps hb]
  have := c.fe b hb h x hx
  omega⟩
/-- q lies below all that are stable -/
structure Low (g : B → H → Option Int) (bs : List B) (hd : B → Option H) (q : H → Int) : Prop where
  q0 : ∀ h, 0 ≤ q h
  le : ∀ q', Stab g bs hd q' → ∀ h, q h ≤ q' h
def putF (q : H → Int) (h : H) (x : Int) : H → Int := fun k => if k = h then x else q k
theorem keeps_mono {b : B} (h : ∀ k, p k ≤ q k) : Asg.keeps g hd q b ≤ Asg.keeps g hd p b := by
  unfold Asg.keeps
  cases e : hd b with
  | none => exact Int.le_refl _
  | some k => have := h k; dsimp only; omega
theorem Low.zero : Low g bs hd fun _ => 0 := ⟨fun _ => Int.le_refl _, fun q' s h => s.q0 h⟩
theorem Low.raise (l : Low g bs hd q) {b : B} {h : H} {x : Int} (hb : b ∈ bs) (hx : g b h = some x) (hn : hd b ≠ some h) (lt : q h < x - Asg.keeps g hd q b) : Low g bs hd (putF q h (x - Asg.keeps g hd q b)) := by
  refine ⟨fun k => ?_, fun q' s k => ?_⟩
  · unfold putF
    have := l.q0 h
    split
    · omega
    · exact l.q0 k
  · unfold putF
    split
    · rename_i e
      subst e
      have h1 := s.st b hb k x hx hn
      have h2 := keeps_mono (g := g) (hd := hd) (b := b) (l.le q' s)
      omega
    · exact l.le q' s k
/-- the least duals -/
structure Least (g : B → H → Option Int) (bs : List B) (q : H → Int) : Prop where
  ex : ∃ hf u, Cert g bs hf 0 u q
  le : ∀ hf u q', Cert g bs hf 0 u q' → ∀ h, q h ≤ q' h
theorem Low.cert (l : Low g bs hd q) (s : Stab g bs hd q) (c : Cert g bs hd 0 u p) : Cert g bs hd 0 (Asg.keeps g hd q) q := by
  have lp := l.le p c.stab
  refine ⟨fun b hb h x hx => ?_, fun b hb h e => ?_, s.q0, fun h hn => ?_, fun b hb => ?_, fun b hb e => ?_, c.inj⟩
  · by_cases e : hd b = some h
    · unfold Asg.keeps
      rw [e]
      simp only [hx, Option.getD_some]
      omega
    · have := s.st b hb h x hx e
      omega
  · have h1 := c.eq b hb h e
    unfold Asg.keeps
    rw [e]
    simp only [h1, Option.getD_some]
    congr 1; omega
  · have := c.pz h hn
    have := lp h
    have := s.q0 h
    omega
  · have h1 := keeps_mono (g := g) (hd := hd) (b := b) lp
    rw [c.keeps hb] at h1
    have := c.ut b hb
    omega
  · unfold Asg.keeps; rw [e]
theorem Low.least (l : Low g bs hd q) (s : Stab g bs hd q) (c : Cert g bs hd 0 u p) (nb : bs.Nodup) (nh : hs.Nodup) (hh : ∀ b h x, g b h = some x → h ∈ hs) : Least g bs q := by
  have hc : ∀ {hf : B → Option H} {u : B → Int} {p : H → Int}, Cert g bs hf 0 u p → ∀ b ∈ bs, ∀ h, hf b = some h → h ∈ hs := fun c b hb h e => hh b h _ (c.eq b hb h e)
  refine ⟨⟨hd, _, l.cert s c⟩, fun hf u' q' c' h => ?_⟩
  exact l.le q' (c'.swap c nb nh (hc c') (hc c)).stab h
theorem Least.one (a : Least g bs p) (b : Least g bs q) : p = q := by
  funext h
  obtain ⟨hf, u, c⟩ := a.ex
  obtain ⟨hf', u', c'⟩ := b.ex
  have := a.le _ _ _ c' h
  have := b.le _ _ _ c h
  omega
/-! the greatest ones -/
structure Gst (g : B → H → Option Int) (bs : List B) (hd : B → Option H) (q : H → Int) : Prop where
  up : ∀ b ∈ bs, ∀ h, hd b = some h → q h ≤ (g b h).getD 0
  uz : ∀ h, (∀ b ∈ bs, hd b ≠ some h) → q h ≤ 0
  st : ∀ b ∈ bs, ∀ h, hd b = some h → ∀ k x, g b k = some x → q h ≤ q k + (g b h).getD 0 - x
theorem Cert.gst (c : Cert g bs hd 0 u p) : Gst g bs hd p := by
  refine ⟨fun b hb h e => ?_, fun h hn => by rw [c.pz h hn]; exact Int.le_refl _, fun b hb h e k x hx => ?_⟩
  · rw [c.eq b hb h e, Option.getD_some]
    have := c.ut b hb
    omega
  · rw [c.eq b hb h e, Option.getD_some]
    have := c.fe b hb k x hx
    omega
/-- q lies above all of these -/
def High (g : B → H → Option Int) (bs : List B) (hd : B → Option H) (q : H → Int) : Prop := ∀ q', Gst g bs hd q' → ∀ h, q' h ≤ q h
theorem High.lower (l : High g bs hd q) {b : B} {h k : H} {x : Int} (hb : b ∈ bs) (e : hd b = some h) (hx : g b k = some x) : High g bs hd (putF q h (q k + (g b h).getD 0 - x)) := by
  intro q' s j
  unfold putF
  split
  · rename_i z
    subst z
    have h1 := s.st b hb j e k x hx
    have h2 := l q' s k
    omega
  · exact l q' s j
/-- the greatest duals -/
structure Most (g : B → H → Option Int) (bs : List B) (q : H → Int) : Prop where
  ex : ∃ hf u, Cert g bs hf 0 u q
  le : ∀ hf u q', Cert g bs hf 0 u q' → ∀ h, q' h ≤ q h
theorem High.cert (l : High g bs hd q) (s : Gst g bs hd q) (c : Cert g bs hd 0 u p) : Cert g bs hd 0 (Asg.keeps g hd q) q := by
  have lp := l p c.gst
  refine ⟨fun b hb h x hx => ?_, fun b hb h e => ?_, fun h => ?_, fun h hn => ?_, fun b hb => ?_, fun b hb e => ?_, c.inj⟩
  · cases e : hd b with
    | none =>
      have h1 := c.fe b hb h x hx
      have h2 := c.uz b hb e
      have h3 := lp h
      unfold Asg.keeps; rw [e]
      dsimp only
      omega
    | some k =>
      have h1 := s.st b hb k e h x hx
      unfold Asg.keeps; rw [e]
      dsimp only
      omega
  · have h1 := c.eq b hb h e
    unfold Asg.keeps
    rw [e]
    simp only [h1, Option.getD_some]
    congr 1; omega
  · have := lp h
    have := c.p0 h
    omega
  · have h1 := s.uz h hn
    have h2 := lp h
    have h3 := c.p0 h
    omega
  · unfold Asg.keeps
    cases e : hd b with
    | none => exact Int.le_refl _
    | some k =>
      have h1 := s.up b hb k e
      dsimp only
      omega
  · unfold Asg.keeps; rw [e]
theorem High.most (l : High g bs hd q) (s : Gst g bs hd q) (c : Cert g bs hd 0 u p) (nb : bs.Nodup) (nh : hs.Nodup) (hh : ∀ b h x, g b h = some x → h ∈ hs) : Most g bs q := by
  have hc : ∀ {hf : B → Option H} {u : B → Int} {p : H → Int}, Cert g bs hf 0 u p → ∀ b ∈ bs, ∀ h, hf b = some h → h ∈ hs := fun c b hb h e => hh b h _ (c.eq b hb h e)
  refine ⟨⟨hd, _, l.cert s c⟩, fun hf u' q' c' h => ?_⟩
  exact l q' (c'.swap c nb nh (hc c') (hc c)).gst h
theorem Most.one (a : Most g bs p) (b : Most g bs q) : p = q := by
  funext h
  obtain ⟨hf, u, c⟩ := a.ex
  obtain ⟨hf', u', c'⟩ := b.ex
  have := a.le _ _ _ c' h
  have := b.le _ _ _ c h
  omega
/-- sums that fall and rise -/
theorem sum_putF {q : H → Int} {h : H} {x : Int} : ∀ {m : List H}, m.Nodup → h ∈ m → (m.map (putF q h x)).sum = (m.map q).sum + (x - q h)
  | [], _, hm => by cases hm
  | a :: m, nd, hm => by
    have nd' := List.nodup_cons.mp nd
    rw [List.map_cons, List.map_cons, List.sum_cons, List.sum_cons]
    by_cases z : a = h
    · subst z
      have : (m.map (putF q a x)).sum = (m.map q).sum := by
        refine congrArg List.sum (List.map_congr_left fun k hk => ?_)
        unfold putF
        rw [if_neg fun e : k = a => nd'.1 (e ▸ hk)]
      rw [this]
      unfold putF
      rw [if_pos rfl]; omega
    · have hm' : h ∈ m := by
        rcases List.mem_cons.mp hm with e | e
        · exact absurd e.symm z
        · exact e
      rw [sum_putF nd'.2 hm']
      unfold putF
      rw [if_neg z]; omega
end
end Asg
set_option linter.all false
set_option autoImplicit false
set_option maxRecDepth 100000
/-! Q1: dicts of trees, by plain lists. -/
namespace TL
open PySem
open PySem.Spec
open L2
section
variable {κ κ' α β : Type} [DecidableEq κ] [DecidableEq κ']
def lk (l : List (κ × α)) (k : κ) : Option α := (l.find? fun e => decide (e.1 = k)).map (·.2)
def put (l : List (κ × α)) (k : κ) (v : α) : List (κ × α) := if (l.any fun e => decide (e.1 = k)) = true then l.map (fun e => if e.1 = k then (e.1, v) else e) else l ++ [(k, v)]
def pvM (φ : κ → κ') (f : α → β) (l : List (κ × α)) : List (κ' × β) := l.map fun e => (φ e.1, f e.2)
theorem look_lk (l : List (κ × PV)) (k : κ) : look l k = lk l k := rfl
theorem putP_put (l : List (κ × PV)) (k : κ) (v : PV) : putP l k v = put l k v := rfl
theorem lk_nil (k : κ) : lk ([] : List (κ × α)) k = none := rfl
theorem lk_cons (e : κ × α) (l : List (κ × α)) (k : κ) : lk (e :: l) k = if e.1 = k then some e.2 else lk l k := by
  unfold lk
  by_cases h : e.1 = k
  · rw [List.find?_cons_of_pos (by simpa using h), if_pos h]; rfl
  · rw [List.find?_cons_of_neg (by simpa using h), if_neg h]
theorem lk_append (l m : List (κ × α)) (k : κ) : lk (l ++ m) k = (lk l k).or (lk m k) := by
  induction l with
  | nil => simp [lk_nil]
  | cons e l ih =>
    rw [List.cons_append, lk_cons, lk_cons, ih]
    split <;> simp
theorem lk_pvM {φ : κ → κ'} (hφ : ∀ a b, φ a = φ b → a = b) (f : α → β) (l : List (κ × α)) (k : κ) : lk (pvM φ f l) (φ k) = (lk l k).map f := by
  induction l with
  | nil => rfl
  | cons e l ih =>
    show lk ((φ e.1, f e.2) :: pvM φ f l) (φ k) = _
    rw [lk_cons, lk_cons, ih]
    by_cases h : e.1 = k
    · rw [if_pos (by rw [h]), if_pos h]; rfl
    · rw [if_neg (fun z => h (hφ _ _ z)), if_neg h]
theorem put_pvM {φ : κ → κ'} (hφ : ∀ a b, φ a = φ b → a = b) (f : α → β) (l : List (κ × α)) (k : κ) (v : α) : put (pvM φ f l) (φ k) (f v) = pvM φ f (put l k v) := by
  have h1 : ((pvM φ f l).any fun e => decide (e.1 = φ k)) = (l.any fun e => decide (e.1 = k)) := by
    unfold pvM
    rw [List.any_map]
    congr 1
    funext e
    have : (φ e.1 = φ k) ↔ (e.1 = k) := ⟨hφ _ _, fun z => by rw [z]⟩
    simp [this]
  unfold put
  rw [h1]
  split
  · unfold pvM
    rw [List.map_map, List.map_map]
    congr 1
    funext e
    simp only [Function.comp]
    by_cases h : e.1 = k
    · rw [if_pos (by rw [h]), if_pos h]
    · rw [if_neg (fun z => h (hφ _ _ z)), if_neg h]
  · unfold pvM; rw [List.map_append]; rfl
theorem lk_none_iff (l : List (κ × α)) (k : κ) : lk l k = none ↔ k ∉ l.map (·.1) := by
  induction l with
  | nil => simp [lk_nil]
  | cons e l ih =>
    rw [lk_cons, List.map_cons, List.mem_cons]
    by_cases h : e.1 = k
    · rw [if_pos h]; simp [h]
    · rw [if_neg h, ih]
      constructor
      · rintro h1 (h2 | h2)
        · exact h h2.symm
        · exact h1 h2
      · intro h1 h2; exact h1 (.inr h2)
theorem any_iff (l : List (κ × α)) (k : κ) : (l.any fun e => decide (e.1 = k)) = true ↔ k ∈ l.map (·.1) := by
  simp only [List.any_eq_true, decide_eq_true_eq, List.mem_map]
theorem lk_put (l : List (κ × α)) (k : κ) (v : α) (j : κ) : lk (put l k v) j = if j = k then some v else lk l j := by
  unfold put
  split
  · rename_i h
    rw [any_iff] at h
    induction l with
    | nil => cases h
    | cons e l ih =>
      rw [List.map_cons, lk_cons, lk_cons]
      by_cases he : e.1 = k
      · simp only [he, if_true]
        by_cases hj : j = k
        · rw [if_pos hj.symm, if_pos hj]
        · rw [if_neg (Ne.symm hj), if_neg hj, if_neg (Ne.symm hj)]
          -- later ones of the key k do not matter
          have : ∀ m : List (κ × α), lk (m.map fun e => if e.1 = k then (e.1, v) else e) j = lk m j := by
            intro m
            induction m with
            | nil => rfl
            | cons e' m ih' =>
              rw [List.map_cons, lk_cons, lk_cons, ih']
              by_cases h' : e'.1 = k
              · rw [if_pos h']
                have : e'.1 ≠ j := fun z => hj (by rw [← z, h'])
                rw [if_neg this, if_neg this]
              · rw [if_neg h']
          exact this l
      · simp only [he, if_false]
        have h' : k ∈ l.map (·.1) := by
          rcases List.mem_cons.mp h with z | z
          · exact absurd z.symm he
          · exact z
        rw [ih h']
        by_cases hj : j = k
        · rw [if_pos hj, if_neg (fun z => he (z.trans hj))]
          rw [if_pos hj]
        · simp only [hj, if_false]
  · rename_i h
    rw [any_iff] at h
    rw [lk_append, lk_cons, lk_nil]
    by_cases hj : j = k
    · subst hj
      rw [(lk_none_iff l j).mpr h, if_pos rfl]
      simp
    · rw [if_neg (Ne.symm hj), if_neg hj]
      simp
theorem keys_put (l : List (κ × α)) (k : κ) (v : α) : (put l k v).map (·.1) = if k ∈ l.map (·.1) then l.map (·.1) else l.map (·.1) ++ [k] := by
  unfold put
  by_cases h : k ∈ l.map (·.1)
  · rw [if_pos ((any_iff l k).mpr h), if_pos h, List.map_map]
    congr 1
    funext e
    simp only [Function.comp]
    split <;> rfl
  · rw [if_neg (fun z => h ((any_iff l k).mp z)), if_neg h, List.map_append]
    rfl
theorem put_len (l : List (κ × α)) (k : κ) (v : α) : (put l k v).length ≤ l.length + 1 := by
  have := congrArg List.length (keys_put l k v)
  rw [List.length_map] at this
  rw [this]
  split <;> simp
theorem put_nodup {l : List (κ × α)} {k : κ} {v : α} (h : (l.map (·.1)).Nodup) : ((put l k v).map (·.1)).Nodup := by
  rw [keys_put]
  split
  · exact h
  · rename_i hk
    rw [List.nodup_append]
    exact ⟨h, by simp, fun a ha b hb => by rw [List.mem_singleton.mp hb]; exact fun z => hk (z ▸ ha)⟩
theorem lk_mem {l : List (κ × α)} {k : κ} {v : α} (h : lk l k = some v) : (k, v) ∈ l := by
  induction l with
  | nil => cases h
  | cons e l ih =>
    rw [lk_cons] at h
    by_cases z : e.1 = k
    · rw [if_pos z] at h; cases h; rw [← z]; exact List.mem_cons_self ..
    · rw [if_neg z] at h; exact List.mem_cons_of_mem _ (ih h)
theorem lk_of {l : List (κ × α)} {k : κ} {v : α} (nd : (l.map (·.1)).Nodup) (h : (k, v) ∈ l) : lk l k = some v := by
  induction l with
  | nil => cases h
  | cons e l ih =>
    rw [List.map_cons, List.nodup_cons] at nd
    rw [lk_cons]
    rcases List.mem_cons.mp h with z | z
    · rw [← z, if_pos rfl]
    · rw [if_neg (fun q : e.1 = k => nd.1 (by rw [q]; exact List.mem_map.mpr ⟨_, z, rfl⟩))]
      exact ih nd.2 z
end
/-! ### trees of plain things -/
def kS (x : Str) : Key := .inr x
def kSS (x : Str × Str) : List Key := [.inr x.1, .inr x.2]
theorem kS_inj : ∀ a b : Str, kS a = kS b → a = b := fun a b h => by cases h; rfl
theorem kSS_inj : ∀ a b : Str × Str, kSS a = kSS b → a = b := fun a b h => by
  obtain ⟨a1, a2⟩ := a
  obtain ⟨b1, b2⟩ := b
  cases h; rfl
def pvO : Option Str → PV
  | some x => .str x
  | none => .non
end TL
set_option linter.all false
set_option autoImplicit false
set_option maxRecDepth 100000
/-! Q2: best_way. -/
namespace PH
open PySem
open PySem.Spec
open L2
open TL
def w_best_way : WS :=
  (wSeq (wAsg 4 (wDc (wIItems (wVar 3)) [12, 10] (gT (gsC (gN 12) (gsC (gN 10) gsN))) (wCmp (wRd 10) (wC .non) vIsNot) (wVar 10) (wVar 12) (u0P (.dK []))))
  (wSeq (wAsgF 5 (wDc (wILst (wVar 0)) [12] (gN 12) (wCmp (w2 (wRd 3) (wRd 12) vIdx) (wC .non) vIs) (wVar 12) (wTup (wCons (wC (.int 0)) (wCons (wC .non) wNil))) (u0P (.dK []))))
  (wSeq (wAsgF 6 (wC (.dk [])))
  (wSeq (wFor (wIRng1 (w2 (w1 (wRd 0) vLen) (wC (.int 1)) vAdd)) (gN 7) (wFor (wIItemsT (wVar 2)) (gT (gsC (gT (gsC (gN 12) (gsC (gN 10) gsN))) (gsC (gN 13) gsN))) (wIf (wAnd (wCmp (wRd 12) (wRd 5) vIn) (wCmp (w2 (wRd 3) (wRd 12) vIdx) (wRd 10) vNe)) (wSeq (wAsg 14 (w2 (w2 (w2 (wRd 5) (wRd 12) vIdx) (wC (.int 0)) vIdx) (wRd 13) vAdd))
  (wIf (wOr (wCmp (wRd 10) (wRd 6) vNotIn) (wCmp (wRd 14) (w2 (w2 (wRd 6) (wRd 10) vIdx) (wC (.int 0)) vIdx) vGt)) (wSeq (wPut 6 (wVar 10) (wTup (wCons (wVar 14) (wCons (wVar 12) wNil))))
  (wIf (wCmp (wRd 10) (wRd 4) vIn) (wPut 5 (w2 (wRd 4) (wRd 10) vIdx) (wTup (wCons (w2 (wRd 14) (w2 (wRd 2) (wTup (wCons (w2 (wRd 4) (wRd 10) vIdx) (wCons (wVar 10) wNil))) vIdx) vSub) (wCons (wVar 10) wNil)))) wSkip)) wSkip)) wSkip)))
  (wSeq (wAsgF 8 (wLc (wILst (wVar 1)) [10] (gN 10) (wAnd (wCmp (wRd 10) (wRd 6) vIn) (wCmp (wRd 10) (wRd 4) vNotIn)) (wVar 10)))
  (wSeq (wIf (wCmp (wRd 8) (wLst wNil) vEq) (wRet (wC .non)) wSkip)
  (wSeq (wFrz 8 (wAsg 9 (wMaxKey 6 (wVar 8) (w2 (w2 (wRd 1) (wRd 0) vIdx) (wC (.int 0)) vIdx))))
  (wSeq (wPar 10 11 false true (wVar 9) (wLst wNil))
  (wSeq (wWhile (wCmp (wRd 10) (wC .non) vIsNot) (wSeq (wAsg 12 (w2 (w2 (wRd 6) (wRd 10) vIdx) (wC (.int 1)) vIdx))
  (wSeq (wApp 11 (wTup (wCons (wVar 12) (wCons (wVar 10) wNil))))
  (wAsg 10 (w2 (wRd 3) (wRd 12) vIdx)))))
  (wFrz 11 (wRet (wTup (wCons (wVar 11) (wCons (w2 (w2 (wRd 6) (wRd 9) vIdx) (wC (.int 0)) vIdx) wNil))))))))))))))

def bwS (bs hs gn hd ho be en : PV) (x7 x8 x9 h x11 b g here : Slot) : List Slot := [.fz bs, .fz hs, .fz gn, .fz hd, .fz ho, .ow be, .ow en, x7, x8, x9, h, x11, b, g, here]
def w_bw_body : WS := (wIf (wAnd (wCmp (wRd 12) (wRd 5) vIn) (wCmp (w2 (wRd 3) (wRd 12) vIdx) (wRd 10) vNe)) (wSeq (wAsg 14 (w2 (w2 (w2 (wRd 5) (wRd 12) vIdx) (wC (.int 0)) vIdx) (wRd 13) vAdd))
  (wIf (wOr (wCmp (wRd 10) (wRd 6) vNotIn) (wCmp (wRd 14) (w2 (w2 (wRd 6) (wRd 10) vIdx) (wC (.int 0)) vIdx) vGt)) (wSeq (wPut 6 (wVar 10) (wTup (wCons (wVar 14) (wCons (wVar 12) wNil))))
  (wIf (wCmp (wRd 10) (wRd 4) vIn) (wPut 5 (w2 (wRd 4) (wRd 10) vIdx) (wTup (wCons (w2 (wRd 14) (w2 (wRd 2) (wTup (wCons (w2 (wRd 4) (wRd 10) vIdx) (wCons (wVar 10) wNil))) vIdx) vSub) (wCons (wVar 10) wNil)))) wSkip)) wSkip)) wSkip)
/-! heads, one by one -/
section
variable {u v : WS} {c w' : WT} {wa wb : WE} {ws : WA} {W : WD} {S : List Slot} {k i : Nat} {R : PK} {Rt : Bool → Nat → Prop} {f : VC} {ff : PV → PV → (PV → Prop) → Prop} {p : PV} {Ra : List PV → Nat → Prop}
theorem iIf (h : c S k fun b k' => if b = true then u W S k' else v W S k') : wIf c u v W S k := h
theorem iSeq (h : u { W with nx := v W } S k) : wSeq u v W S k := h
theorem iSkip (h : W.nx S k) : wSkip W S k := h
theorem iAnd (h : c S k fun b k' => if b = true then w' S k' Rt else Rt false k') : wAnd c w' S k Rt := h
theorem iOr (h : c S k fun b k' => if b = true then Rt true k' else w' S k' Rt) : wOr c w' S k Rt := h
theorem iNot (h : c S k fun b k' => Rt (!b) k') : wNot c S k Rt := h
theorem iCmp (h : wa S k fun p k1 => wb S k1 fun q k2 => f p q fun b => Rt b k2) : wCmp wa wb f S k Rt := h
theorem i2 (h : wa S k fun p k1 => wb S k1 fun q k2 => ff p q fun r => R r k2) : w2 wa wb ff S k R := h
theorem i1 {f1 : PV → (PV → Prop) → Prop} (h : wa S k fun p k1 => f1 p fun r => R r k1) : w1 wa f1 S k R := h
theorem iRd (e : S[i]? = some (.fz p)) (h : R p k) : wRd i S k R := by unfold wRd; rw [e]; exact h
theorem iRo (e : S[i]? = some (.ow p)) (h : R p k) : wRd i S k R := by unfold wRd; rw [e]; exact h
theorem iVar (e : S[i]? = some (.fz p)) (h : R p k) : wVar i S k R := by unfold wVar; rw [e]; exact h
theorem iC (h : R p k) : wC p S k R := h
theorem iTup (h : ws S k fun ps k' => ps.length ≤ 1000 ∧ R (.tup ps) k') : wTup ws S k R := h
theorem iLst (h : ws S k fun ps k' => ps.length ≤ 1000 ∧ R (.lst ps) k') : wLst ws S k R := h
theorem iNil (h : Ra [] k) : wNil S k Ra := h
theorem iCons (h : wa S k fun p k1 => ws S k1 fun ps k2 => Ra (p :: ps) k2) : wCons wa ws S k Ra := h
theorem iAsg (h : wa S k fun p k' => i < S.length ∧ W.nx (S.set i (.fz p)) k') : wAsg i wa W S k := h
theorem iAsgF (h : wa S k fun p k' => i < S.length ∧ W.nx (S.set i (.ow p)) k') : wAsgF i wa W S k := h
theorem iRet (h : wa S k W.rt) : wRet wa W S k := h
theorem iPut (e : S[i]? = some (.ow p)) (h : wb S k fun v k1 => wa S k1 fun q k2 => dPut p q v fun d' => W.nx (S.set i (.ow d')) k2) : wPut i wa wb W S k := by
  unfold wPut owAt; rw [e]; exact h
theorem iFrz (h : u W (frz i S) k) : wFrz i u W S k := h
theorem iVal {b : Bool} (h : wa S k fun p k' => match p with
  | .bl b => Rt b k'
  | _ => False) : wVal wa S k Rt := h
theorem iBool (h : c S k fun b k' => R (.bl b) k') : wBool c S k R := h
theorem iFor {wi : WI} {g : GP} (h : wi S k fun ps k' => wForL g u W ps S k') : wFor wi g u W S k := h
theorem iItems {R : List PV → Nat → Prop} (h : wa S k fun p k' => match p with
  | .dk kvs => R (kvs.map fun kp => PV.tup [pk kp.1, kp.2]) k'
  | _ => False) : wIItems wa S k R := h
end
def pvB (e : Int × Option Str) : PV := .tup [.int e.1, pvO e.2]
def pvE (e : Int × Str) : PV := .tup [.int e.1, .str e.2]
theorem look_kS {α : Type} (f : α → PV) (l : List (Str × α)) (x : Str) : look (pvM kS f l) (Sum.inr x : Key) = (lk l x).map f := lk_pvM kS_inj f l x
theorem look_kSS {α : Type} (f : α → PV) (l : List ((Str × Str) × α)) (x y : Str) : look (pvM kSS f l) ([Sum.inr x, Sum.inr y] : List Key) = (lk l (x, y)).map f := lk_pvM kSS_inj f l (x, y)
theorem iteF {P Q : Prop} (h : Q) : if false = true then P else Q := by rw [if_neg (by decide)]; exact h
theorem iteT {P Q : Prop} (h : P) : if true = true then P else Q := by rw [if_pos rfl]; exact h
def gF (gn : List ((Str × Str) × Int)) (b h : Str) : Option Int := lk gn (b, h)
def hF (hd : List (Str × Option Str)) (b : Str) : Option Str := (lk hd b).join
def bF (be : List (Str × (Int × Option Str))) (b : Str) : Option Int := (lk be b).map (·.1)
/-- the state of the search, in lists -/
structure BI (gn : List ((Str × Str) × Int)) (hd : List (Str × Option Str)) (bs hs : List Str) (t : Int) (u p : Str → Int) (be : List (Str × (Int × Option Str))) (en : List (Str × (Int × Str))) : Prop where
  st : Asg.St (gF gn) bs (hF hd) t u p (lk en) (bF be)
  tr : ∀ k q, lk en k = some q → ∃ l, Asg.Tr (hF hd) (lk en) k l
  bk : (be.map (·.1)).Nodup ∧ ∀ b ∈ be.map (·.1), b ∈ bs
  ek : (en.map (·.1)).Nodup ∧ ∀ h ∈ en.map (·.1), h ∈ hs
/-- what the search is given -/
structure BG (gn : List ((Str × Str) × Int)) (hd : List (Str × Option Str)) (bs hs : List Str) (ho : List (Str × Str)) (t : Int) (u p : Str → Int) : Prop where
  c : Asg.Cert (gF gn) bs (hF hd) t u p
  hk : hd.map (·.1) = bs
  hoK : ∀ h b, lk ho h = some b ↔ (b ∈ bs ∧ hF hd b = some h)
  gk : ∀ b h x, lk gn (b, h) = some x → b ∈ bs ∧ h ∈ hs
  gnd : (gn.map (·.1)).Nodup
  lb : bs.length ≤ 1000
  lh : hs.length ≤ 1000
section
variable {gn : List ((Str × Str) × Int)} {hd : List (Str × Option Str)} {bs hs : List Str} {ho : List (Str × Str)} {t : Int} {u p : Str → Int} {be : List (Str × (Int × Option Str))} {en : List (Str × (Int × Str))}
theorem BG.has (G : BG gn hd bs hs ho t u p) {b : Str} (hb : b ∈ bs) : lk hd b = some (hF hd b) := by
  cases e : lk hd b with
  | none => exact absurd (G.hk ▸ hb) ((lk_none_iff hd b).mp e)
  | some o => unfold hF; rw [e]; rfl
theorem isSome_map {α β : Type} {f : α → β} (o : Option α) : (o.map f).isSome = o.isSome := by cases o <;> rfl
theorem BI.lenE (I : BI gn hd bs hs t u p be en) : en.length ≤ hs.length := by
  have := Asg.nodup_len I.ek.1 I.ek.2
  rw [List.length_map] at this; exact this
theorem BI.lenB (I : BI gn hd bs hs t u p be en) : be.length ≤ bs.length := by
  have := Asg.nodup_len I.bk.1 I.bk.2
  rw [List.length_map] at this; exact this
theorem lk_put_fun (en : List (Str × (Int × Str))) (h : Str) (e : Int × Str) : lk (put en h e) = Asg.putL (lk en) h e := by
  funext k; rw [lk_put]; rfl
theorem bF_put (be : List (Str × (Int × Option Str))) (b : Str) (e : Int × Option Str) : bF (put be b e) = Asg.putW (bF be) b e.1 := by
  funext k
  unfold bF Asg.putW
  rw [lk_put]
  split <;> rfl
theorem keys_put_mem {α : Type} {l : List (Str × α)} {k : Str} {v : α} {m : List Str} (h : ∀ b ∈ l.map (·.1), b ∈ m) (hk : k ∈ m) : ∀ b ∈ (put l k v).map (·.1), b ∈ m := by
  intro b hb
  rw [keys_put] at hb
  split at hb
  · exact h b hb
  · rcases List.mem_append.mp hb with z | z
    · exact h b z
    · rw [List.mem_singleton.mp z]; exact hk
theorem vSub_i {i j : Int} {R : PV → Prop} (h : R (.int (i - j))) : vSub (.int i) (.int j) R := h
theorem vAdd_i {i j : Int} {R : PV → Prop} (h : R (.int (i + j))) : vAdd (.int i) (.int j) R := h
theorem vIn_dk {α : Type} {f : α → PV} {l : List (Str × α)} {b : Str} {R : Bool → Prop} (h : R (lk l b).isSome) : vIn (.str b) (.dk (pvM kS f l)) R := ⟨_, rfl, by show R _; rw [look_kS, isSome_map]; exact h⟩
theorem vNotIn_dk {α : Type} {f : α → PV} {l : List (Str × α)} {b : Str} {R : Bool → Prop} (h : R (!(lk l b).isSome)) : vNotIn (.str b) (.dk (pvM kS f l)) R := ⟨_, rfl, by show R _; rw [look_kS, isSome_map]; exact h⟩
theorem vIdx_dk {α : Type} {f : α → PV} {l : List (Str × α)} {b : Str} {v : α} {R : PV → Prop} (e : lk l b = some v) (h : R (f v)) : vIdx (.dk (pvM kS f l)) (.str b) R := ⟨_, rfl, _, by rw [look_kS, e]; rfl, h⟩
theorem vIdx_dt {α : Type} {f : α → PV} {l : List ((Str × Str) × α)} {b c : Str} {v : α} {R : PV → Prop} (e : lk l (b, c) = some v) (h : R (f v)) : vIdx (.dt (pvM kSS f l)) (.tup [.str b, .str c]) R := ⟨_, rfl, _, by rw [look_kSS, e]; rfl, h⟩
theorem dPut_dk {α : Type} {f : α → PV} {l : List (Str × α)} {b : Str} {v : α} {q : PV} {R : PV → Prop} (e : q = f v) (hl : l.length < bigN) (h : R (.dk (pvM kS f (put l b v)))) : dPut (.dk (pvM kS f l)) (.str b) q R := by
  subst e
  refine ⟨_, rfl, by simpa [pvM] using hl, ?_⟩
  have e1 : putP (pvM kS f l) (Sum.inr b : Key) (f v) = pvM kS f (put l b v) := put_pvM kS_inj f l b v
  rw [e1]; exact h
theorem bw_body {bsP hsP : PV} {x7 x8 x9 x11 x14 : Slot} {h b : Str} {x : Int} {W : WD} {k : Nat} (G : BG gn hd bs hs ho t u p) (I : BI gn hd bs hs t u p be en) (hx : lk gn (b, h) = some x)
    (fin : ∀ be' en' x14', BI gn hd bs hs t u p be' en' → Asg.Le (lk en) (lk en') → (∀ w, bF be b = some w → hF hd b ≠ some h → ∃ v b', lk en' h = some (v, b') ∧ w + x ≤ v) →
      W.nx (bwS bsP hsP (.dt (pvM kSS .int gn)) (.dk (pvM kS pvO hd)) (.dk (pvM kS .str ho)) (.dk (pvM kS pvB be')) (.dk (pvM kS pvE en')) x7 x8 x9 (.fz (.str h)) x11 (.fz (.str b)) (.fz (.int x)) x14') k) :
    w_bw_body W (bwS bsP hsP (.dt (pvM kSS .int gn)) (.dk (pvM kS pvO hd)) (.dk (pvM kS .str ho)) (.dk (pvM kS pvB be)) (.dk (pvM kS pvE en)) x7 x8 x9 (.fz (.str h)) x11 (.fz (.str b)) (.fz (.int x)) x14) k := by
  obtain ⟨hb, hh⟩ := G.gk b h x hx
  have hhd := G.has hb
  unfold w_bw_body
  refine iIf (iAnd (iCmp (iRd rfl (iRo rfl (vIn_dk ?_)))))
  cases eb : lk be b with
  | none =>
    refine iteF (iteF (iSkip ?_))
    refine fin be en x14 I Asg.Le.refl fun w hw => ?_
    unfold bF at hw; rw [eb] at hw; cases hw
  | some wb =>
    obtain ⟨w, ow⟩ := wb
    have hW : bF be b = some w := by unfold bF; rw [eb]; rfl
    refine iteT (iCmp (i2 (iRd rfl (iRd rfl (vIdx_dk hhd (iRd rfl ?_))))))
    have dec : ∀ {R : Bool → Prop}, (hF hd b = some h → R false) → (hF hd b ≠ some h → R true) → vNe (pvO (hF hd b)) (.str h) R := by
      intro R h1 h2
      cases e : hF hd b with
      | none => exact h2 (by rw [e]; intro z; cases z)
      | some y =>
        show R (!(decide (y = h)))
        by_cases z : y = h
        · subst z; simp only [decide_true, Bool.not_true]; exact h1 e
        · simp only [z, decide_false, Bool.not_false]; exact h2 (by rw [e]; intro q; cases q; exact z rfl)
    refine dec (fun e => iteF (iSkip ?_)) fun hne => iteT ?_
    · exact fin be en x14 I Asg.Le.refl fun w _ hn => absurd e hn
    refine iSeq (iAsg (i2 (i2 (i2 (iRo rfl (iRd rfl (vIdx_dk eb (iC ⟨.int w, rfl, iRd rfl ⟨by simp [bwS], ?_⟩⟩))))))))
    -- here = w + x
    have put1 : ∀ {k' : Nat}, (∀ q, lk en h = some q → q.1 < w + x) → (wSeq (wPut 6 (wVar 10) (wTup (wCons (wVar 14) (wCons (wVar 12) wNil))))
        (wIf (wCmp (wRd 10) (wRd 4) vIn) (wPut 5 (w2 (wRd 4) (wRd 10) vIdx) (wTup (wCons (w2 (wRd 14) (w2 (wRd 2) (wTup (wCons (w2 (wRd 4) (wRd 10) vIdx) (wCons (wVar 10) wNil))) vIdx) vSub) (wCons (wVar 10) wNil)))) wSkip)) W
        (bwS bsP hsP (.dt (pvM kSS .int gn)) (.dk (pvM kS pvO hd)) (.dk (pvM kS .str ho)) (.dk (pvM kS pvB be)) (.dk (pvM kS pvE en)) x7 x8 x9 (.fz (.str h)) x11 (.fz (.str b)) (.fz (.int x)) (.fz (.int (w + x)))) k := by
      intro k' bt
      have stp := I.st.step G.c hb hW hne hx bt
      have trp := Asg.Tr.put G.c I.st I.tr hb hW hne hx bt
      have le : Asg.Le (lk en) (lk (put en h (w + x, b))) := by rw [lk_put_fun]; exact Asg.Le.put bt
      have cov : ∀ w', bF be b = some w' → hF hd b ≠ some h → ∃ v b', lk (put en h (w + x, b)) h = some (v, b') ∧ w' + x ≤ v := by
        intro w' hw' _
        rw [hW] at hw'; cases hw'
        exact ⟨w + x, b, by rw [lk_put, if_pos rfl], Int.le_refl _⟩
      refine iSeq (iPut rfl (iTup (iCons (iVar rfl (iCons (iVar rfl (iNil ⟨by simp, iVar rfl ?_⟩)))))))
      refine dPut_dk (f := pvE) (v := (w + x, b)) rfl (by have := I.lenE; have := G.lh; unfold bigN; omega) ?_
      dsimp only
      refine iIf (iCmp (iRd rfl (iRd rfl (vIn_dk ?_))))
      cases eh : lk ho h with
      | none =>
        refine iteF (iSkip ?_)
        have no : ∀ a ∈ bs, hF hd a ≠ some h := fun a ha e => by
          have := (G.hoK h a).mpr ⟨ha, e⟩
          rw [eh] at this; cases this
        exact fin be (put en h (w + x, b)) _ ⟨by rw [lk_put_fun]; exact stp.2 no, by rw [lk_put_fun]; exact trp, I.bk, put_nodup I.ek.1, keys_put_mem I.ek.2 hh⟩ le cov
      | some a =>
        obtain ⟨ha, hah⟩ := (G.hoK h a).mp eh
        have hg := G.c.eq a ha h hah
        refine iteT (iPut rfl (iTup (iCons (i2 (iRd rfl (i2 (iRd rfl (iTup (iCons (i2 (iRd rfl (iRd rfl (vIdx_dk eh (iCons (iVar rfl (iNil ⟨by simp, ?_⟩))))))))))))))))
        refine vIdx_dt hg (vSub_i (iCons (iVar rfl (iNil ⟨by simp, i2 (iRd rfl (iRd rfl (vIdx_dk eh ?_)))⟩))))
        refine dPut_dk (f := pvB) (v := (w + x - (u a + p h), some h)) rfl (by have := I.lenB; have := G.lb; unfold bigN; omega) ?_
        exact fin (put be a (w + x - (u a + p h), some h)) (put en h (w + x, b)) _ ⟨by rw [lk_put_fun, bF_put]; exact stp.1 a ha hah, by rw [lk_put_fun]; exact trp, ⟨put_nodup I.bk.1, keys_put_mem I.bk.2 ha⟩, put_nodup I.ek.1, keys_put_mem I.ek.2 hh⟩ le cov
    dsimp only
    refine iIf (iOr (iCmp (iRd rfl (iRo rfl (vNotIn_dk ?_)))))
    cases ee : lk en h with
    | none =>
      refine iteT (iteT (put1 (k' := 0) fun q hq => ?_))
      rw [ee] at hq; cases hq
    | some q =>
      obtain ⟨v, b'⟩ := q
      refine iteF (iCmp (iRd rfl (i2 (i2 (iRo rfl (iRd rfl (vIdx_dk ee (iC ⟨.int v, rfl, ?_⟩))))))))
      show if decide (v < w + x) = true then _ else _
      by_cases z : v < w + x
      · rw [decide_eq_true z]
        refine iteT (put1 (k' := 0) fun q hq => ?_)
        rw [ee] at hq; cases hq; exact z
      · rw [decide_eq_false z]
        refine iteF (iSkip ?_)
        refine fin be en _ I Asg.Le.refl fun w' hw' _ => ?_
        rw [hW] at hw'; cases hw'
        exact ⟨v, b', ee, by omega⟩
end
end PH
set_option linter.all false
set_option autoImplicit false
set_option maxRecDepth 100000
/-! Q3: best_way, the loops. -/
namespace PH
open PySem
open PySem.Spec
open L2
open TL
def g_bw : GP := gT (gsC (gT (gsC (gN 12) (gsC (gN 10) gsN))) (gsC (gN 13) gsN))
def tri (e : (Str × Str) × Int) : PV := .tup [.tup [.str e.1.1, .str e.1.2], .int e.2]
section
variable {gn : List ((Str × Str) × Int)} {hd : List (Str × Option Str)} {bs hs : List Str} {ho : List (Str × Str)} {t : Int} {u p : Str → Int}
abbrev SkL (gn : List ((Str × Str) × Int)) (hd : List (Str × Option Str)) (bs : List Str) (t : Int) (u p : Str → Int) (i : Nat) (en : List (Str × (Int × Str))) : Prop := Asg.Sk (gF gn) bs (hF hd) t u p i (lk en)
abbrev SeL (gn : List ((Str × Str) × Int)) (hd : List (Str × Option Str)) (bs : List Str) (t : Int) (u p : Str → Int) (i : Nat) (en : List (Str × (Int × Str))) (b h : Str) : Prop := Asg.Se (gF gn) bs (hF hd) t u p i (lk en) b h
theorem bw_inner {bsP hsP : PV} {x7 x8 x9 x11 : Slot} {W : WD} {k i : Nat} (G : BG gn hd bs hs ho t u p) : ∀ (r pre : List ((Str × Str) × Int)) (be : List (Str × (Int × Option Str))) (en : List (Str × (Int × Str))) (x10 x12 x13 x14 : Slot), gn = pre ++ r → BI gn hd bs hs t u p be en → SkL gn hd bs t u p i en → (∀ e ∈ pre, SeL gn hd bs t u p i en e.1.1 e.1.2) →
    (∀ be' en' x10' x12' x13' x14', BI gn hd bs hs t u p be' en' → SkL gn hd bs t u p i en' → (∀ e ∈ gn, SeL gn hd bs t u p i en' e.1.1 e.1.2) →
      W.nx (bwS bsP hsP (.dt (pvM kSS .int gn)) (.dk (pvM kS pvO hd)) (.dk (pvM kS .str ho)) (.dk (pvM kS pvB be')) (.dk (pvM kS pvE en')) x7 x8 x9 x10' x11 x12' x13' x14') k) →
    wForL g_bw w_bw_body W (r.map tri) (bwS bsP hsP (.dt (pvM kSS .int gn)) (.dk (pvM kS pvO hd)) (.dk (pvM kS .str ho)) (.dk (pvM kS pvB be)) (.dk (pvM kS pvE en)) x7 x8 x9 x10 x11 x12 x13 x14) k
  | [], pre, be, en, x10, x12, x13, x14, hg, I, sk, se, fin => by
    rw [List.append_nil] at hg
    subst hg
    exact fin be en x10 x12 x13 x14 I sk se
  | ((b, h), x) :: r, pre, be, en, x10, x12, x13, x14, hg, I, sk, se, fin => by
    have hx : lk gn (b, h) = some x := lk_of G.gnd (by rw [hg]; exact List.mem_append_right _ (List.mem_cons_self ..))
    refine ⟨by simp [bwS], ⟨by simp [bwS], rfl, ⟨by simp [bwS], rfl, ?_⟩⟩⟩
    refine bw_body G I hx fun be' en' x14' I' le cov => ?_
    have hse : SeL gn hd bs t u p i en' b h := Asg.Se.of G.c I.st sk fun w x' hw hx' hn => by
      have : x' = x := by
        have e : lk gn (b, h) = some x' := hx'
        rw [hx] at e; cases e; rfl
      subst this
      exact cov w hw hn
    refine bw_inner G r (pre ++ [((b, h), x)]) be' en' _ _ _ _ (by rw [hg]; simp) I' (sk.mono le) (fun e he => ?_) fin
    rcases List.mem_append.mp he with z | z
    · exact (se e z).mono le
    · rw [List.mem_singleton.mp z]; exact hse
theorem bw_outer {bsP hsP : PV} {x8 x9 x11 : Slot} {W : WD} {k : Nat} (G : BG gn hd bs hs ho t u p) : ∀ (ps : List PV) (i : Nat) (be : List (Str × (Int × Option Str))) (en : List (Str × (Int × Str))) (x7 x10 x12 x13 x14 : Slot), BI gn hd bs hs t u p be en → SkL gn hd bs t u p i en →
    (∀ be' en' x7' x10' x12' x13' x14', BI gn hd bs hs t u p be' en' → SkL gn hd bs t u p (i + ps.length) en' →
      W.nx (bwS bsP hsP (.dt (pvM kSS .int gn)) (.dk (pvM kS pvO hd)) (.dk (pvM kS .str ho)) (.dk (pvM kS pvB be')) (.dk (pvM kS pvE en')) x7' x8 x9 x10' x11 x12' x13' x14') k) →
    wForL (gN 7) (wFor (wIItemsT (wVar 2)) g_bw w_bw_body) W ps (bwS bsP hsP (.dt (pvM kSS .int gn)) (.dk (pvM kS pvO hd)) (.dk (pvM kS .str ho)) (.dk (pvM kS pvB be)) (.dk (pvM kS pvE en)) x7 x8 x9 x10 x11 x12 x13 x14) k
  | [], i, be, en, x7, x10, x12, x13, x14, I, sk, fin => fin be en x7 x10 x12 x13 x14 I sk
  | q :: ps, i, be, en, x7, x10, x12, x13, x14, I, sk, fin => by
    refine ⟨by simp [bwS], ?_⟩
    have e1 : (pvM kSS PV.int gn).map (fun kp => PV.tup [.tup (kp.1.map pk), kp.2]) = gn.map tri := by
      unfold pvM; rw [List.map_map]; rfl
    show wForL g_bw w_bw_body _ ((pvM kSS PV.int gn).map (fun kp => PV.tup [.tup (kp.1.map pk), kp.2])) _ k
    rw [e1]
    refine bw_inner (x7 := .fz q) (i := i) G gn [] be en x10 x12 x13 x14 rfl I sk (fun e he => by cases he) fun be' en' x10' x12' x13' x14' I' sk' se' => ?_
    have sk2 : SkL gn hd bs t u p (i + 1) en' := Asg.Sk.succ fun b h x hb hx => se' ((b, h), x) (lk_mem hx)
    refine bw_outer G ps (i + 1) be' en' _ _ _ _ _ I' sk2 fun be2 en2 y7 y10 y12 y13 y14 I2 s2 => ?_
    refine fin be2 en2 y7 y10 y12 y13 y14 I2 ?_
    have : i + (q :: ps).length = i + 1 + ps.length := by simp only [List.length_cons]; omega
    rw [this]; exact s2
end
end PH
set_option linter.all false
set_option autoImplicit false
set_option maxRecDepth 100000
/-! Q4: best_way, ahead of the search and behind it. -/
namespace PH
open PySem
open PySem.Spec
open L2
open TL
theorem datas_strs : ∀ l : List Str, datas (l.map PV.str) = some (l.map PyData.str)
  | [] => rfl
  | x :: l => by
    show (match data (.str x), datas (l.map PV.str) with
      | some d, some ds => some (d :: ds)
      | _, _ => none) = _
    rw [datas_strs l]; rfl
theorem shaped_strs (l : List Str) (ok : ∀ x ∈ l, PyData.strOk x = true) : SeqAt.shaped (.list (l.map PyData.str)) = true := by
  have h1 : ∀ l : List Str, (∀ x ∈ l, PyData.strOk x = true) → PyData.canLayAll0 (l.map PyData.str) = true := fun l => by
    induction l with
    | nil => intro _; rfl
    | cons x l ih => intro h; simp only [List.map_cons, PyData.canLayAll0, PyData.canLay0, ih fun y hy => h y (List.mem_cons_of_mem _ hy), h x (List.mem_cons_self ..), Bool.and_self]
  have h2 : ∀ l : List Str, PyData.depthAll (l.map PyData.str) = 0 := fun l => by
    induction l with
    | nil => rfl
    | cons x l ih => simp only [List.map_cons, PyData.depthAll, PyData.depth, ih, Nat.max_self]
  show (PyData.canLay0 _ && decide (PyData.depth _ ≤ 64)) = true
  simp only [PyData.canLay0, PyData.depth, h1 l ok, h2, Bool.true_and]
  decide
theorem vEq_nil (l : List Str) (ok : ∀ x ∈ l, PyData.strOk x = true) {R : Bool → Prop} (h : R l.isEmpty) : vEq (.lst (l.map .str)) (.lst []) R := by
  refine ⟨.list (l.map PyData.str), .list [], ?_, rfl, shaped_strs l ok, by decide, ?_⟩
  · show (datas (l.map PV.str)).map PyData.list = _
    rw [datas_strs]; rfl
  · cases l with
    | nil => exact h
    | cons x l => exact h
/-- a comprehension's turns, each of which adds a thing or none -/
theorem cmL_step {β : Type} {g : GP} {tt : WT} {add : List Slot → Nat → β → (β → Nat → Prop) → Prop} {S0 : List Slot} {Rf : β → Nat → Prop} {k : Nat} (f : β → PV → β) : ∀ (ps : List PV) (acc : β),
    (∀ p ∈ ps, ∀ (acc : β) (R : β → Nat → Prop), R (f acc p) k → g p S0 fun S' => tt S' k fun b k1 => if b = true then add S' k1 acc R else R acc k1) →
    Rf (ps.foldl f acc) k → wCmL g tt add S0 Rf ps acc k
  | [], acc, _, h => h
  | p :: ps, acc, hs, h => hs p (List.mem_cons_self ..) acc _ (cmL_step f ps (f acc p) (fun q hq => hs q (List.mem_cons_of_mem _ hq)) h)
/-- .. as far as a word about what was added holds -/
theorem cmL_inv {β : Type} {g : GP} {tt : WT} {add : List Slot → Nat → β → (β → Nat → Prop) → Prop} {S0 : List Slot} {Rf : β → Nat → Prop} {k : Nat} (J : List PV → β → Prop) : ∀ (r pre : List PV) (acc : β), J pre acc →
    (∀ pre p acc (R : β → Nat → Prop), p ∈ r → J pre acc → (∀ acc', J (pre ++ [p]) acc' → R acc' k) → g p S0 fun S' => tt S' k fun b k1 => if b = true then add S' k1 acc R else R acc k1) →
    (∀ acc, J (pre ++ r) acc → Rf acc k) → wCmL g tt add S0 Rf r acc k
  | [], pre, acc, j, _, h => h acc (by rw [List.append_nil]; exact j)
  | p :: r, pre, acc, j, hs, h => hs pre p acc _ (List.mem_cons_self ..) j fun acc' j' => cmL_inv J r (pre ++ [p]) acc' j' (fun pre q acc R hq => hs pre q acc R (List.mem_cons_of_mem _ hq)) fun acc2 j2 => h acc2 (by rw [List.append_assoc] at j2; exact j2)
theorem foldl_filter {α : Type} (t : Str → Bool) (l : List Str) (acc : List PV) (f : Str → PV) : l.foldl (fun acc x => if t x = true then acc ++ [f x] else acc) acc = acc ++ (l.filter t).map f := by
  induction l generalizing acc with
  | nil => simp
  | cons x l ih =>
    rw [List.foldl_cons, ih]
    by_cases h : t x = true
    · rw [if_pos h, List.filter_cons_of_pos h]; simp
    · rw [if_neg h, List.filter_cons_of_neg h]
section
variable {gn : List ((Str × Str) × Int)} {hd : List (Str × Option Str)} {bs hs : List Str} {ho : List (Str × Str)} {t : Int} {u p : Str → Int} {be : List (Str × (Int × Option Str))} {en : List (Str × (Int × Str))}
def freeT (ho : List (Str × Str)) (en : List (Str × (Int × Str))) (h : Str) : Bool := (lk en h).isSome && !(lk ho h).isSome
def ix (p : PV) : Str := match p with
  | .str x => x
  | _ => ⟨#[]⟩
theorem bw_free {bsP gP hP : PV} {x7 x8 x9 x10 x11 x12 x13 x14 : Slot} {beP : PV} {W : WD} {k : Nat} (hl : hs.length ≤ 1000)
    (fin : W.nx (bwS bsP (.lst (hs.map .str)) gP hP (.dk (pvM kS .str ho)) beP (.dk (pvM kS pvE en)) x7 (.ow (.lst ((hs.filter (freeT ho en)).map .str))) x9 x10 x11 x12 x13 x14) k) :
    wAsgF 8 (wLc (wILst (wVar 1)) [10] (gN 10) (wAnd (wCmp (wRd 10) (wRd 6) vIn) (wCmp (wRd 10) (wRd 4) vNotIn)) (wVar 10)) W (bwS bsP (.lst (hs.map .str)) gP hP (.dk (pvM kS .str ho)) beP (.dk (pvM kS pvE en)) x7 x8 x9 x10 x11 x12 x13 x14) k := by
  refine iAsgF ?_
  show _ ∧ wCmL (gN 10) _ (addL (wVar 10)) _ _ (hs.map PV.str) [] k
  refine ⟨by rw [List.length_map]; unfold bigN; omega, ?_⟩
  refine cmL_step (fun acc p => if freeT ho en (ix p) = true then acc ++ [p] else acc) _ _ (fun q hq acc R hR => ?_) ?_
  · obtain ⟨h, hh, rfl⟩ := List.mem_map.mp hq
    refine ⟨by simp [bwS, unS], ?_⟩
    refine iAnd (iCmp (iRd rfl (iRo rfl (vIn_dk ?_))))
    change R (if freeT ho en h = true then acc ++ [.str h] else acc) k at hR
    unfold freeT at hR
    cases e1 : lk en h with
    | none =>
      rw [e1] at hR
      exact iteF (iteF hR)
    | some q1 =>
      rw [e1] at hR
      refine iteT (iCmp (iRd rfl (iRd rfl (vNotIn_dk ?_))))
      cases e2 : lk ho h with
      | none =>
        rw [e2] at hR
        exact iteT (iVar rfl hR)
      | some q2 =>
        rw [e2] at hR
        exact iteF hR
  · have e : (hs.map PV.str).foldl (fun acc p => if freeT ho en (ix p) = true then acc ++ [p] else acc) [] = (hs.filter (freeT ho en)).map PV.str := by
      rw [List.foldl_map]
      exact (foldl_filter (α := Str) (freeT ho en) hs [] PV.str).trans (by simp)
    rw [e]
    exact ⟨by simp [bwS], fin⟩
end
end PH
set_option linter.all false
set_option autoImplicit false
set_option maxRecDepth 100000
/-! Q5: best_way, its end. -/
namespace PH
open PySem
open PySem.Spec
open L2
open TL
section
variable {u v : WS} {c w' : WT} {wa wb : WE} {ws : WA} {W : WD} {S : List Slot} {k i : Nat} {R : PK}
theorem iApp {ps : List PV} (e : S[i]? = some (.ow (.lst ps))) (h : wa S k fun p k' => ps.length < bigN ∧ W.nx (S.set i (.ow (.lst (ps ++ [p])))) k') : wApp i wa W S k := by
  unfold wApp lstAt; rw [e]; exact h
end
theorem vIsNot_str {x : Str} {R : Bool → Prop} (h : R true) : vIsNot (.str x) .non R := h
theorem vIsNot_non {R : Bool → Prop} (h : R false) : vIsNot .non .non R := h
theorem vEq_nil2 (l : List Str) (ok : ∀ x ∈ l, PyData.strOk x = true) {R : Bool → Prop} (h : l = [] → R true) (h' : l ≠ [] → R false) : vEq (.lst (l.map .str)) (.lst []) R := vEq_nil l ok (by
  cases l with
  | nil => exact h rfl
  | cons x l => exact h' (by simp))
def pv2 (e : Str × Str) : PV := .tup [.str e.1, .str e.2]
/-- a way told: what it is good for -/
structure WayOk (gn : List ((Str × Str) × Int)) (hd : List (Str × Option Str)) (bs hs : List Str) (l : List (Str × Str)) (gain : Int) : Prop where
  no : gain ≤ 0 → ∃ u p, Asg.Cert (gF gn) bs (hF hd) 0 u p
  yes : 0 < gain → ∃ u p, Asg.Cert (gF gn) bs (Asg.after (hF hd) l) gain u p
  nd : (l.map (·.1)).Nodup
  mem : ∀ b h, (b, h) ∈ l → b ∈ bs ∧ h ∈ hs
  more : ∃ b h, (b, h) ∈ l ∧ hF hd b = none
def w_bw_tail : WS := (wSeq (wIf (wCmp (wRd 8) (wLst wNil) vEq) (wRet (wC .non)) wSkip)
  (wSeq (wFrz 8 (wAsg 9 (wMaxKey 6 (wVar 8) (w2 (w2 (wRd 1) (wRd 0) vIdx) (wC (.int 0)) vIdx))))
  (wSeq (wPar 10 11 false true (wVar 9) (wLst wNil))
  (wSeq (wWhile (wCmp (wRd 10) (wC .non) vIsNot) (wSeq (wAsg 12 (w2 (w2 (wRd 6) (wRd 10) vIdx) (wC (.int 1)) vIdx))
  (wSeq (wApp 11 (wTup (wCons (wVar 12) (wCons (wVar 10) wNil))))
  (wAsg 10 (w2 (wRd 3) (wRd 12) vIdx)))))
  (wFrz 11 (wRet (wTup (wCons (wVar 11) (wCons (w2 (w2 (wRd 6) (wRd 9) vIdx) (wC (.int 0)) vIdx) wNil)))))))))
section
variable {gn : List ((Str × Str) × Int)} {hd : List (Str × Option Str)} {bs hs : List Str} {ho : List (Str × Str)} {t : Int} {u p : Str → Int} {be : List (Str × (Int × Option Str))} {en : List (Str × (Int × Str))}
theorem bw_trace {bsP hsP gP hoP beP : PV} {x7 x8 x9 : Slot} {x12 x13 x14 : Slot} {W : WD} {k : Nat} (hhk : hd.map (·.1) = bs) (lb : bs.length ≤ 1000) {e : Str} {l : List (Str × Str)} (T : Asg.Tr (hF hd) (lk en) e l) (mem : ∀ b h, (b, h) ∈ l → b ∈ bs)
    (fin : ∀ x10' x12', W.nx (bwS bsP hsP gP (.dk (pvM kS pvO hd)) hoP beP (.dk (pvM kS pvE en)) x7 x8 x9 x10' (.ow (.lst (l.map pv2))) x12' x13 x14) k) :
    wWhile (wCmp (wRd 10) (wC .non) vIsNot) (wSeq (wAsg 12 (w2 (w2 (wRd 6) (wRd 10) vIdx) (wC (.int 1)) vIdx)) (wSeq (wApp 11 (wTup (wCons (wVar 12) (wCons (wVar 10) wNil)))) (wAsg 10 (w2 (wRd 3) (wRd 12) vIdx)))) W
      (bwS bsP hsP gP (.dk (pvM kS pvO hd)) hoP beP (.dk (pvM kS pvE en)) x7 x8 x9 (.fz (.str e)) (.ow (.lst [])) x12 x13 x14) k := by
  have hlen : l.length ≤ bs.length := by
    have := Asg.nodup_len T.nodup (m := bs) fun b hb => by
      obtain ⟨⟨b', h⟩, hm, rfl⟩ := List.mem_map.mp hb
      exact mem b' h hm
    rw [List.length_map] at this; exact this
  refine ⟨fun m S k' => k' = k ∧ ∃ done r cur x12, l = done ++ r ∧ m = r.length ∧ ((∃ h, cur = .str h ∧ Asg.Tr (hF hd) (lk en) h r) ∨ (cur = .non ∧ r = [])) ∧ S = bwS bsP hsP gP (.dk (pvM kS pvO hd)) hoP beP (.dk (pvM kS pvE en)) x7 x8 x9 (.fz cur) (.ow (.lst (done.map pv2))) x12 x13 x14,
    ⟨_, rfl, [], l, _, x12, rfl, rfl, .inl ⟨e, rfl, T⟩, rfl⟩, ?_⟩
  rintro m S k' ⟨rfl, done, r, cur, y12, hl, rfl, hc, rfl⟩
  rcases hc with ⟨h, rfl, Th⟩ | ⟨rfl, rfl⟩
  · refine iCmp (iRd rfl (iC (vIsNot_str ?_)))
    refine iteT ?_
    obtain ⟨v, b, r', e1, rfl⟩ := Th.head
    have hb : b ∈ bs := mem b h (by rw [hl]; exact List.mem_append_right _ (List.mem_cons_self ..))
    have hhd : lk hd b = some (hF hd b) := by
      cases e : lk hd b with
      | none => exact absurd (hhk ▸ hb) ((lk_none_iff hd b).mp e)
      | some o => unfold hF; rw [e]; rfl
    have nxt : (∃ h', pvO (hF hd b) = .str h' ∧ Asg.Tr (hF hd) (lk en) h' r') ∨ (pvO (hF hd b) = .non ∧ r' = []) := by
      cases Th with
      | base h1 h2 => exact .inr ⟨by rw [h2]; rfl, rfl⟩
      | step h1 h2 T2 => exact .inl ⟨_, by rw [h2]; rfl, T2⟩
    have hd2 : done.length < l.length := by rw [hl]; simp
    refine ⟨fun S k2 => k2 = k' ∧ ∃ cur x12, ((∃ h, cur = .str h ∧ Asg.Tr (hF hd) (lk en) h r') ∨ (cur = .non ∧ r' = [])) ∧ S = bwS bsP hsP gP (.dk (pvM kS pvO hd)) hoP beP (.dk (pvM kS pvE en)) x7 x8 x9 (.fz cur) (.ow (.lst ((done ++ [(b, h)]).map pv2))) x12 x13 x14, ?_, ?_⟩
    · rintro S k2 ⟨rfl, cur, x12, hcur, rfl⟩
      exact ⟨r'.length, by simp, rfl, done ++ [(b, h)], r', cur, x12, by rw [hl]; simp, rfl, hcur, rfl⟩
    · refine iSeq (iAsg (i2 (i2 (iRo rfl (iRd rfl (vIdx_dk e1 (iC ⟨.str b, rfl, by simp [bwS], ?_⟩)))))))
      dsimp only
      refine iSeq (iApp rfl (iTup (iCons (iVar rfl (iCons (iVar rfl (iNil ⟨by simp, ?_⟩)))))))
      refine ⟨by rw [List.length_map]; unfold bigN; omega, ?_⟩
      dsimp only
      refine iAsg (i2 (iRd rfl (iRd rfl (vIdx_dk hhd ⟨by simp [bwS], rfl, _, .fz (.str b), nxt, ?_⟩))))
      rw [List.map_append]
      rfl
  · refine iCmp (iRd rfl (iC (vIsNot_non ?_)))
    refine iteF ?_
    rw [List.append_nil] at hl
    subst hl
    exact fin _ _
def vE (en : List (Str × (Int × Str))) (h : Str) : Int := ((lk en h).map (·.1)).getD 0
theorem bw_tail {bsP hsP gP hoP beP : PV} {x7 x9 x10 x11 x12 x13 x14 : Slot} {W : WD} {k : Nat} (G : BG gn hd bs hs ho t u p) (I : BI gn hd bs hs t u p be en) (sk : SkL gn hd bs t u p bs.length en) (t0 : 0 ≤ t) (ok : ∀ h ∈ hs, PyData.strOk h = true)
    (hN : (∃ u p, Asg.Cert (gF gn) bs (hF hd) 0 u p) → W.rt .non k) (hW : ∀ l gain, WayOk gn hd bs hs l gain → W.rt (.tup [.lst (l.map pv2), .int gain]) k) :
    w_bw_tail W (bwS bsP hsP gP (.dk (pvM kS pvO hd)) hoP beP (.dk (pvM kS pvE en)) x7 (.ow (.lst ((hs.filter (freeT ho en)).map .str))) x9 x10 x11 x12 x13 x14) k := by
  have fx := Asg.fix_of G.c I.st sk
  have fr : ∀ h v b, lk en h = some (v, b) → (∀ a ∈ bs, hF hd a ≠ some h) → h ∈ hs.filter (freeT ho en) := by
    intro h v b e no
    have hh : h ∈ hs := I.ek.2 h (List.mem_map.mpr ⟨_, lk_mem e, rfl⟩)
    refine List.mem_filter.mpr ⟨hh, ?_⟩
    unfold freeT
    rw [e]
    cases e2 : lk ho h with
    | none => rfl
    | some a => exact absurd ((G.hoK h a).mp e2).2 (no a ((G.hoK h a).mp e2).1)
  generalize hfr : hs.filter (freeT ho en) = free at fr
  have sub : ∀ h ∈ free, h ∈ hs ∧ freeT ho en h = true := fun h hm => by rw [← hfr] at hm; exact List.mem_filter.mp hm
  unfold w_bw_tail
  refine iSeq (iIf (iCmp (iRo rfl (iLst (iNil ⟨Nat.zero_le _, vEq_nil2 free (fun x hx => ok x (sub x hx).1) (fun hfree => ?_) (fun hfree => ?_)⟩)))))
  · refine iteT (iRet (iC (hN ?_)))
    refine ⟨_, _, G.c.next I.st fx t0 fun h v b e no => ?_⟩
    have := fr h v b e no
    rw [hfree] at this; cases this
  · refine iteF (iSkip ?_)
    dsimp only
    refine iSeq (iFrz (iAsg ?_))
    show wMaxKey 6 (wVar 8) _ (bwS bsP hsP gP (.dk (pvM kS pvO hd)) hoP beP (.dk (pvM kS pvE en)) x7 (.fz (.lst (free.map .str))) x9 x10 x11 x12 x13 x14) k _
    refine iVar rfl ⟨free.map .str, .ow (.dk (pvM kS pvE en)), rfl, by rw [List.length_map]; exact List.length_pos_iff.mpr hfree, rfl, fun i => vE en ((free[i]?).getD ⟨#[]⟩), fun i x hx => ?_, fun i x hx hbest => ?_⟩
    · rw [List.getElem?_map] at hx
      cases e1 : free[i]? with
      | none => rw [e1] at hx; cases hx
      | some h =>
        rw [e1] at hx; cases hx
        have hf := (sub h (List.mem_of_getElem? e1)).2
        unfold freeT at hf
        cases e2 : lk en h with
        | none => rw [e2] at hf; cases hf
        | some q =>
          refine i2 (i2 (iRo rfl (iRd rfl (vIdx_dk e2 (iC ⟨.int q.1, rfl, ?_, rfl⟩)))))
          show PV.int q.1 = .int (vE en ((free[i]?).getD ⟨#[]⟩))
          rw [e1, Option.getD_some]; unfold vE; rw [e2]; rfl
    · rw [List.getElem?_map] at hx
      cases e1 : free[i]? with
      | none => rw [e1] at hx; cases hx
      | some e =>
        rw [e1] at hx; cases hx
        have hem := List.mem_of_getElem? e1
        have hf := (sub e hem).2
        unfold freeT at hf
        cases e2 : lk en e with
        | none => rw [e2] at hf; cases hf
        | some q =>
          obtain ⟨te, bE⟩ := q
          have no : ∀ a ∈ bs, hF hd a ≠ some e := fun a ha ea => by
            have := (G.hoK e a).mpr ⟨ha, ea⟩
            rw [e2, this] at hf; cases hf
          have hve : vE en e = te := by unfold vE; rw [e2]; rfl
          have top : ∀ h v b, lk en h = some (v, b) → (∀ a ∈ bs, hF hd a ≠ some h) → v ≤ te := by
            intro h v b eh nh
            obtain ⟨j, hj⟩ := List.mem_iff_getElem?.mp (fr h v b eh nh)
            have := (hbest j (by rw [List.length_map]; exact (List.getElem?_eq_some_iff.mp hj).1)).1
            simp only [e1, hj, Option.getD_some] at this
            rw [hve] at this
            have e3 : vE en h = v := by unfold vE; rw [eh]; rfl
            omega
          have tet : te ≤ t := by
            have := (I.st.up e te bE e2).1
            have := G.c.pz e no
            omega
          obtain ⟨l, T⟩ := I.tr e _ e2
          have memb : ∀ b h, (b, h) ∈ l → b ∈ bs ∧ h ∈ hs := fun b h hm => by
            obtain ⟨v, ev, _⟩ := T.at_ b h hm
            exact ⟨(I.st.up h v b ev).2.1, I.ek.2 h (List.mem_map.mpr ⟨_, lk_mem ev, rfl⟩)⟩
          have way : WayOk gn hd bs hs l te := by
            refine ⟨fun h0 => ⟨_, _, G.c.next I.st fx t0 fun h v b eh nh => Int.le_trans (top h v b eh nh) h0⟩, fun _ => ⟨_, _, G.c.change I.st fx tet top T e2 no⟩, T.nodup, memb, ?_⟩
            obtain ⟨b, h, hm, hn⟩ := T.last
            exact ⟨b, h, hm, hn⟩
          refine ⟨(show (9 : Nat) < 15 by decide), ?_⟩
          dsimp only
          refine iSeq ?_
          refine iVar rfl (iLst (iNil ⟨Nat.zero_le _, ⟨(show (10 : Nat) < 15 by decide), (show (11 : Nat) < 15 by decide)⟩, ?_⟩))
          refine iSeq ?_
          refine bw_trace (x9 := .fz (.str e)) G.hk G.lb T (fun b h hm => (memb b h hm).1) fun x10' x12' => ?_
          dsimp only
          refine iFrz (iRet (iTup (iCons (iVar rfl (iCons (i2 (i2 (iRo rfl (iRd rfl (vIdx_dk e2 (iC ⟨.int te, rfl, iNil ⟨by simp, ?_⟩⟩)))))))))))
          exact hW l te way
end
end PH
set_option linter.all false
set_option autoImplicit false
set_option maxRecDepth 100000
/-! Q6: best_way, whole. -/
namespace PH
open PySem
open PySem.Spec
open L2
open TL
theorem vIs_str {x : Str} {R : Bool → Prop} (h : R false) : vIs (.str x) .non R := h
theorem vIs_non {R : Bool → Prop} (h : R true) : vIs .non .non R := h
theorem cmL_map {α β : Type} {g : GP} {tt : WT} {add : List Slot → Nat → β → (β → Nat → Prop) → Prop} {S0 : List Slot} {Rf : β → Nat → Prop} {k : Nat} (all : List α) (φ : α → PV) (J : List α → β → Prop)
    (hs : ∀ pre a r' acc (R : β → Nat → Prop), all = pre ++ a :: r' → J pre acc → (∀ acc', J (pre ++ [a]) acc' → R acc' k) → g (φ a) S0 fun S' => tt S' k fun b k1 => if b = true then add S' k1 acc R else R acc k1) (h : ∀ acc, J all acc → Rf acc k) :
    ∀ (r pre : List α) (acc : β), all = pre ++ r → J pre acc → wCmL g tt add S0 Rf (r.map φ) acc k
  | [], pre, acc, e, j => h acc (by rw [e, List.append_nil]; exact j)
  | a :: r, pre, acc, e, j => hs pre a r acc _ e j fun acc' j' => cmL_map all φ J hs h r (pre ++ [a]) acc' (by rw [e]; simp) j'
section
variable {gn : List ((Str × Str) × Int)} {hd : List (Str × Option Str)} {bs hs : List Str} {t : Int} {u p : Str → Int}
/-- what best_way is given -/
structure BW (gn : List ((Str × Str) × Int)) (hd : List (Str × Option Str)) (bs hs : List Str) (t : Int) (u p : Str → Int) : Prop where
  c : Asg.Cert (gF gn) bs (hF hd) t u p
  hk : hd.map (·.1) = bs
  bn : bs.Nodup
  gk : ∀ b h x, lk gn (b, h) = some x → b ∈ bs ∧ h ∈ hs
  gnd : (gn.map (·.1)).Nodup
  lb : bs.length ≤ 1000
  lh : hs.length ≤ 1000
theorem BW.has (G : BW gn hd bs hs t u p) {b : Str} (hb : b ∈ bs) : lk hd b = some (hF hd b) := by
  cases e : lk hd b with
  | none => exact absurd (G.hk ▸ hb) ((lk_none_iff hd b).mp e)
  | some o => unfold hF; rw [e]; rfl
theorem BW.of (G : BW gn hd bs hs t u p) {b : Str} {o : Option Str} (h : (b, o) ∈ hd) : b ∈ bs ∧ hF hd b = o := by
  have e := lk_of (l := hd) (by rw [G.hk]; exact G.bn) h
  refine ⟨by rw [← G.hk]; exact List.mem_map.mpr ⟨_, h, rfl⟩, ?_⟩
  unfold hF; rw [e]; rfl
theorem BW.to (G : BW gn hd bs hs t u p) {b : Str} (hb : b ∈ bs) : (b, hF hd b) ∈ hd := lk_mem (G.has hb)
def HoK (hd : List (Str × Option Str)) (bs : List Str) (ho : List (Str × Str)) : Prop := ∀ h b, lk ho h = some b ↔ (b ∈ bs ∧ hF hd b = some h)
theorem bw_holder {W : WD} {k : Nat} {x0 x1 x2 x4 x5 x6 x7 x8 x9 x10 x11 x12 x13 x14 : Slot} (G : BW gn hd bs hs t u p)
    (fin : ∀ ho, HoK hd bs ho → W.nx [x0, x1, x2, .fz (.dk (pvM kS pvO hd)), .fz (.dk (pvM kS .str ho)), x5, x6, x7, x8, x9, x10, x11, x12, x13, x14] k) :
    wAsg 4 (wDc (wIItems (wVar 3)) [12, 10] (gT (gsC (gN 12) (gsC (gN 10) gsN))) (wCmp (wRd 10) (wC .non) vIsNot) (wVar 10) (wVar 12) (u0P (.dK []))) W [x0, x1, x2, .fz (.dk (pvM kS pvO hd)), x4, x5, x6, x7, x8, x9, x10, x11, x12, x13, x14] k := by
  refine iAsg ?_
  have e1 : (pvM kS pvO hd).map (fun kp => PV.tup [pk kp.1, kp.2]) = hd.map fun e => PV.tup [.str e.1, pvO e.2] := by
    unfold pvM; rw [List.map_map]; rfl
  show (_ ∧ wCmL _ _ _ _ _ ((pvM kS pvO hd).map (fun kp => PV.tup [pk kp.1, kp.2])) (PV.dk (pvM kS PV.str [])) k : Prop)
  rw [e1]
  have lh : hd.length ≤ 1000 := by have := congrArg List.length G.hk; rw [List.length_map] at this; rw [this]; exact G.lb
  refine ⟨by rw [List.length_map]; unfold bigN; omega, ?_⟩
  refine cmL_map hd (fun e => PV.tup [.str e.1, pvO e.2]) (fun pre acc => ∃ ho, acc = .dk (pvM kS .str ho) ∧ ho.length ≤ pre.length ∧ ∀ h b, lk ho h = some b ↔ (b, some h) ∈ pre) ?_ ?_ hd [] _ rfl ⟨[], rfl, Nat.le_refl _, fun h b => by simp [lk_nil]⟩
  · rintro pre ⟨b, o⟩ r' acc R hall ⟨ho, rfl, hl, hj⟩ hR
    have hmem : ∀ e ∈ pre, e ∈ hd := fun e he => by rw [hall]; exact List.mem_append_left _ he
    have hme : (b, o) ∈ hd := by rw [hall]; exact List.mem_append_right _ (List.mem_cons_self ..)
    have hpl : pre.length < hd.length := by rw [hall]; simp
    refine ⟨(show (12 : Nat) < 15 by decide), (show (10 : Nat) < 15 by decide), rfl, ?_⟩
    cases o with
    | none =>
      refine iCmp (iRd (p := .non) rfl (iC (vIsNot_non (iteF (hR _ ⟨ho, rfl, by rw [List.length_append]; exact Nat.le_trans hl (Nat.le_add_right _ _), fun h b' => ?_⟩)))))
      rw [hj, List.mem_append, List.mem_singleton]
      constructor
      · exact .inl
      · rintro (z | z)
        · exact z
        · cases z
    | some y =>
      refine iCmp (iRd (p := .str y) rfl (iC (vIsNot_str (iteT ?_))))
      refine iVar (p := .str y) rfl (iVar (p := .str b) rfl (dPut_dk (f := PV.str) (v := b) rfl (by unfold bigN; omega) (hR _ ⟨put ho y b, rfl, ?_, fun h b' => ?_⟩)))
      · have := put_len ho y b
        rw [List.length_append]; simp only [List.length_singleton]; omega
      · rw [lk_put, List.mem_append, List.mem_singleton]
        by_cases z : h = y
        · subst z
          rw [if_pos rfl]
          constructor
          · intro e; cases e; exact .inr rfl
          · rintro (e | e)
            · have h1 := G.of (hmem _ e)
              have h2 := G.of hme
              rw [G.c.inj b' h1.1 b h2.1 h h1.2 h2.2]
            · cases e; rfl
        · rw [if_neg z, hj]
          constructor
          · exact .inl
          · rintro (e | e)
            · exact e
            · cases e; exact absurd rfl z
  · rintro acc ⟨ho, rfl, hl, hj⟩
    refine ⟨(show (4 : Nat) < 15 by decide), fin ho fun h b => ?_⟩
    rw [hj]
    constructor
    · intro e; exact G.of e
    · rintro ⟨h1, h2⟩; rw [← h2]; exact G.to h1
/-- the marks ahead of the search -/
theorem bi_start (G : BW gn hd bs hs t u p) {be : List (Str × (Int × Option Str))} (bk : (be.map (·.1)).Nodup ∧ ∀ b ∈ be.map (·.1), b ∈ bs) (hb : ∀ b, bF be b = if b ∈ bs ∧ hF hd b = none then some 0 else none) : BI gn hd bs hs t u p be [] := by
  refine ⟨⟨fun h v b e => (by cases e), fun b hm hn => (by rw [hb, if_pos ⟨hm, hn⟩]), fun b hm h e => ?_, fun h v b e => (by cases e)⟩, fun k q e => (by cases e), bk, (by simp), fun h hh => (by cases hh)⟩
  rw [hb, if_neg (fun z => by rw [z.2] at e; cases e)]
  rfl
theorem bw_best {W : WD} {k : Nat} {x1 x2 x4 x5 x6 x7 x8 x9 x10 x11 x12 x13 x14 : Slot} (G : BW gn hd bs hs t u p)
    (fin : ∀ be, ((be.map (·.1)).Nodup ∧ ∀ b ∈ be.map (·.1), b ∈ bs) → (∀ b, bF be b = if b ∈ bs ∧ hF hd b = none then some 0 else none) → W.nx [.fz (.lst (bs.map .str)), x1, x2, .fz (.dk (pvM kS pvO hd)), x4, .ow (.dk (pvM kS pvB be)), x6, x7, x8, x9, x10, x11, x12, x13, x14] k) :
    wAsgF 5 (wDc (wILst (wVar 0)) [12] (gN 12) (wCmp (w2 (wRd 3) (wRd 12) vIdx) (wC .non) vIs) (wVar 12) (wTup (wCons (wC (.int 0)) (wCons (wC .non) wNil))) (u0P (.dK []))) W [.fz (.lst (bs.map .str)), x1, x2, .fz (.dk (pvM kS pvO hd)), x4, x5, x6, x7, x8, x9, x10, x11, x12, x13, x14] k := by
  refine iAsgF ?_
  show (_ ∧ wCmL _ _ _ _ _ (bs.map PV.str) (PV.dk (pvM kS pvB [])) k : Prop)
  refine ⟨by rw [List.length_map]; have := G.lb; unfold bigN; omega, ?_⟩
  refine cmL_map bs PV.str (fun pre acc => ∃ be : List (Str × (Int × Option Str)), acc = .dk (pvM kS pvB be) ∧ be.length ≤ pre.length ∧ ((be.map (·.1)).Nodup ∧ ∀ b ∈ be.map (·.1), b ∈ pre) ∧ ∀ b, bF be b = if b ∈ pre ∧ hF hd b = none then some 0 else none) ?_ ?_ bs [] _ rfl
    ⟨[], rfl, Nat.le_refl _, ⟨by simp, fun b hb => by cases hb⟩, fun b => by simp [bF, lk_nil]⟩
  · rintro pre b r' acc R hall ⟨be, rfl, hl, hk, hj⟩ hR
    have hb : b ∈ bs := by rw [hall]; exact List.mem_append_right _ (List.mem_cons_self ..)
    have hpl : pre.length < bs.length := by rw [hall]; simp
    refine ⟨(show (12 : Nat) < 15 by decide), ?_⟩
    refine iCmp (i2 (iRd (p := .dk (pvM kS pvO hd)) rfl (iRd (p := .str b) rfl (vIdx_dk (G.has hb) (iC ?_)))))
    cases e : hF hd b with
    | some y =>
      refine vIs_str (x := y) (iteF (hR _ ⟨be, rfl, by rw [List.length_append]; omega, ⟨hk.1, fun c hc => List.mem_append_left _ (hk.2 c hc)⟩, fun c => ?_⟩))
      rw [hj]
      by_cases z : c = b
      · subst z
        rw [if_neg (fun q => by rw [e] at q; cases q.2), if_neg (fun q => by rw [e] at q; cases q.2)]
      · simp [z]
    | none =>
      refine vIs_non (iteT (iVar (p := .str b) rfl (iTup (iCons (iC (iCons (iC (iNil ⟨by simp, ?_⟩))))))))
      refine dPut_dk (f := pvB) (v := (0, none)) rfl (by have := G.lb; unfold bigN; omega) (hR _ ⟨put be b (0, none), rfl, ?_, ⟨put_nodup hk.1, ?_⟩, fun c => ?_⟩)
      · have := put_len be b (0, none)
        rw [List.length_append]; simp only [List.length_singleton]; omega
      · exact keys_put_mem (fun c hc => List.mem_append_left _ (hk.2 c hc)) (List.mem_append_right _ (List.mem_singleton.mpr rfl))
      · rw [bF_put]
        unfold Asg.putW
        by_cases z : c = b
        · subst z
          rw [if_pos rfl, if_pos ⟨List.mem_append_right _ (List.mem_singleton.mpr rfl), e⟩]
        · rw [if_neg z, hj]
          simp [z]
  · rintro acc ⟨be, rfl, hl, hk, hj⟩
    exact ⟨(show (5 : Nat) < 15 by decide), fin be hk hj⟩
end
end PH
set_option linter.all false
set_option autoImplicit false
set_option maxRecDepth 100000
/-! Q7: best_way's promise. -/
namespace PH
open PySem
open PySem.Spec
open L2
open TL
/-- best_way's promise -/
def t_best_way : TSp := fun ps k R => ∃ gn hd bs hs t u p, ps = [.lst (bs.map .str), .lst (hs.map .str), .dt (pvM kSS .int gn), .dk (pvM kS pvO hd)] ∧ BW gn hd bs hs t u p ∧ 0 ≤ t ∧ (∀ h ∈ hs, PyData.strOk h = true) ∧
  ((∃ u p, Asg.Cert (gF gn) bs (hF hd) 0 u p) → R .non k) ∧ ∀ l gain, WayOk gn hd bs hs l gain → R (.tup [.lst (l.map pv2), .int gain]) k
theorem l_best_way (ps : List PV) (k : Nat) (R : PK) (hl : ps.length = 4) (h : t_best_way ps k R) : w_best_way { nx := fun _ k => R .non k, rt := R } (startS 15 ps) k := by
  obtain ⟨gn, hd, bs, hs, t, u, p, rfl, G, t0, ok, hN, hW⟩ := h
  show w_best_way _ [.fz (.lst (bs.map .str)), .fz (.lst (hs.map .str)), .fz (.dt (pvM kSS .int gn)), .fz (.dk (pvM kS pvO hd)), .un, .un, .un, .un, .un, .un, .un, .un, .un, .un, .un] k
  unfold w_best_way
  refine iSeq (bw_holder G fun ho hho => ?_)
  dsimp only
  refine iSeq (bw_best G fun be hbk hbe => ?_)
  dsimp only
  have G2 : BG gn hd bs hs ho t u p := ⟨G.c, G.hk, hho, G.gk, G.gnd, G.lb, G.lh⟩
  have I := bi_start G hbk hbe
  refine iSeq (iAsgF (iC ⟨(show (6 : Nat) < 15 by decide), ?_⟩))
  dsimp only
  refine iSeq ?_
  show wFor _ (gN 7) (wFor (wIItemsT (wVar 2)) g_bw w_bw_body) _ (bwS (.lst (bs.map .str)) (.lst (hs.map .str)) (.dt (pvM kSS .int gn)) (.dk (pvM kS pvO hd)) (.dk (pvM kS .str ho)) (.dk (pvM kS pvB be)) (.dk (pvM kS pvE [])) .un .un .un .un .un .un .un .un) k
  refine iFor ?_
  have hlen : ((bs.map PV.str).length : Int) + 1 = ((bs.length + 1 : Nat) : Int) := by simp
  show (_ ∧ wForL _ _ _ (rngP 0 (((bs.map PV.str).length : Int) + 1).toNat) _ k : Prop)
  refine ⟨?_, ?_⟩
  · have := G.lb
    show -(2 ^ 62) ≤ ((bs.map PV.str).length : Int) + 1 ∧ ((bs.map PV.str).length : Int) + 1 < 2 ^ 62
    rw [List.length_map]
    omega
  · refine bw_outer G2 _ 0 be [] _ _ _ _ _ I Asg.Sk.zero fun be' en' y7 y10 y12 y13 y14 I' sk' => ?_
    have sk2 : SkL gn hd bs t u p bs.length en' := fun l h s w hl => sk' l h s w (by
      have : (rngP 0 (((bs.map PV.str).length : Int) + 1).toNat).length = bs.length + 1 := by
        unfold rngP
        rw [List.length_map, List.length_range, List.length_map]
        omega
      omega)
    dsimp only
    refine iSeq (bw_free G.lh ?_)
    dsimp only
    exact bw_tail G2 I' sk2 t0 ok hN hW
end PH
set_option linter.all false
set_option autoImplicit false
set_option maxRecDepth 100000
/-! Q8: best_by. -/
namespace PH
open PySem
open PySem.Spec
open L2
open TL
def w_best_by (t_best_way : TSp) : WS :=
  (wSeq (wPar 3 4 true false (wDc (wILst (wVar 0)) [5] (gN 5) wYes (wVar 5) (wC .non) (u0P (.dK []))) (wTup (wCons (wLst wNil) (wCons (wC (.int 1)) wNil))))
  (wSeq (wWhile (wAnd (wCmp (wRd 4) (wC .non) vIsNot) (wCmp (w2 (wRd 4) (wC (.int 1)) vIdx) (wC (.int 0)) vGt)) (wSeq (wUpd 3 (w1 (w2 (wRd 4) (wC (.int 0)) vIdx) vDict))
  (wAsg 4 (wLend 3 (wCall 4 t_best_way (wCons (wVar 0) (wCons (wVar 1) (wCons (wVar 2) (wCons (wVar 3) wNil)))))))))
  (wFrz 3 (wRet (wVar 3)))))

theorem filter_le {α : Type} {q r : α → Bool} : ∀ {l : List α}, (∀ x ∈ l, q x = true → r x = true) → (l.filter q).length ≤ (l.filter r).length
  | [], _ => Nat.le_refl _
  | x :: l, h => by
    have ih := filter_le (l := l) fun y hy => h y (List.mem_cons_of_mem _ hy)
    by_cases hq : q x = true
    · rw [List.filter_cons_of_pos hq, List.filter_cons_of_pos (h x (List.mem_cons_self ..) hq)]
      simp only [List.length_cons]; omega
    · rw [List.filter_cons_of_neg hq]
      by_cases hr : r x = true
      · rw [List.filter_cons_of_pos hr]; simp only [List.length_cons]; omega
      · rw [List.filter_cons_of_neg hr]; exact ih
theorem filter_lt {α : Type} {q r : α → Bool} : ∀ {l : List α}, (∀ x ∈ l, q x = true → r x = true) → (∃ x ∈ l, r x = true ∧ q x = false) → (l.filter q).length < (l.filter r).length
  | [], _, h => by obtain ⟨x, hx, _⟩ := h; cases hx
  | x :: l, h, he => by
    obtain ⟨y, hy, h1, h2⟩ := he
    rcases List.mem_cons.mp hy with rfl | hy
    · rw [List.filter_cons_of_neg (by rw [h2]; decide), List.filter_cons_of_pos h1]
      have := filter_le (l := l) fun z hz => h z (List.mem_cons_of_mem _ hz)
      simp only [List.length_cons]; omega
    · have ih := filter_lt (l := l) (fun z hz => h z (List.mem_cons_of_mem _ hz)) ⟨y, hy, h1, h2⟩
      by_cases hq : q x = true
      · rw [List.filter_cons_of_pos hq, List.filter_cons_of_pos (h x (List.mem_cons_self ..) hq)]
        simp only [List.length_cons]; omega
      · rw [List.filter_cons_of_neg hq]
        by_cases hr : r x = true
        · rw [List.filter_cons_of_pos hr]; simp only [List.length_cons]; omega
        · rw [List.filter_cons_of_neg hr]; exact ih
/-! what all have behind a way, in lists -/
def updW (hd : List (Str × Option Str)) (l : List (Str × Str)) : List (Str × Option Str) := l.foldl (fun acc e => put acc e.1 (some e.2)) hd
theorem updW_keys : ∀ (l : List (Str × Str)) (hd : List (Str × Option Str)), (∀ b h, (b, h) ∈ l → b ∈ hd.map (·.1)) → (updW hd l).map (·.1) = hd.map (·.1)
  | [], _, _ => rfl
  | (b, h) :: l, hd, hm => by
    have e : (put hd b (some h)).map (·.1) = hd.map (·.1) := by
      rw [keys_put, if_pos (hm b h (List.mem_cons_self ..))]
    show (updW (put hd b (some h)) l).map (·.1) = _
    rw [updW_keys l _ fun c k hc => by rw [e]; exact hm c k (List.mem_cons_of_mem _ hc), e]
theorem updW_lk : ∀ (l : List (Str × Str)) (hd : List (Str × Option Str)) (b : Str), (l.map (·.1)).Nodup → lk (updW hd l) b = match l.lookup b with
    | some h => some (some h)
    | none => lk hd b
  | [], _, _, _ => rfl
  | (c, h) :: l, hd, b, nd => by
    rw [List.map_cons, List.nodup_cons] at nd
    show lk (updW (put hd c (some h)) l) b = _
    rw [updW_lk l _ b nd.2, List.lookup_cons]
    by_cases z : b = c
    · subst z
      have : l.lookup b = none := by
        cases e : l.lookup b with
        | none => rfl
        | some k => exact absurd (List.mem_map.mpr ⟨_, Asg.mem_of e, rfl⟩) nd.1
      simp only [this, beq_self_eq_true]
      rw [lk_put, if_pos rfl]
    · have hne : (b == c) = false := by simpa using z
      simp only [hne]
      cases e : l.lookup b with
      | none => simp only; rw [lk_put, if_neg z]
      | some k => rfl
theorem updW_hF (l : List (Str × Str)) (hd : List (Str × Option Str)) (nd : (l.map (·.1)).Nodup) : hF (updW hd l) = Asg.after (hF hd) l := by
  funext b
  unfold hF Asg.after
  rw [updW_lk l hd b nd]
  cases l.lookup b <;> rfl
theorem pairs_of : ∀ l : List (Str × Str), pairsOf (l.map pv2) = some (pvM kS PV.str l)
  | [] => rfl
  | e :: l => by
    show (match keyOf (.str e.1), pairsOf (l.map pv2) with
      | some κ, some l => some ((κ, PV.str e.2) :: l)
      | _, _ => none) = _
    rw [pairs_of l]; rfl
theorem putP_new {κ : Type} [DecidableEq κ] {l : List (κ × PV)} {k : κ} {v : PV} (h : k ∉ l.map (·.1)) : putP l k v = l ++ [(k, v)] := by
  unfold putP
  rw [if_neg (fun z => h ((any_iff l k).mp z))]
theorem merge_nil : ∀ (l acc : List (Key × PV)), ((acc ++ l).map (·.1)).Nodup → mergeP acc l = acc ++ l
  | [], acc, _ => by rw [List.append_nil]; rfl
  | (k, v) :: l, acc, nd => by
    show mergeP (putP acc k v) l = _
    have hk : k ∉ acc.map (·.1) := by
      rw [List.map_append, List.nodup_append] at nd
      intro z
      exact nd.2.2 k z k (by simp) rfl
    rw [putP_new hk, merge_nil l (acc ++ [(k, v)]) (by rw [List.append_assoc]; exact nd), List.append_assoc]
    rfl
theorem pvM_nodup {α β : Type} {f : α → β} {l : List (Str × α)} (h : (l.map (·.1)).Nodup) : ((pvM kS f l).map (·.1)).Nodup := by
  have : (pvM kS f l).map (·.1) = (l.map (·.1)).map kS := by
    unfold pvM; rw [List.map_map, List.map_map]; rfl
  rw [this]
  rw [List.nodup_iff_pairwise_ne] at *
  exact List.Pairwise.map kS (fun a b hab z => hab (kS_inj a b z)) h
theorem merge_upd : ∀ (l : List (Str × Str)) (hd : List (Str × Option Str)), mergeP (pvM kS pvO hd) (pvM kS PV.str l) = pvM kS pvO (updW hd l)
  | [], _ => rfl
  | (b, h) :: l, hd => by
    show mergeP (putP (pvM kS pvO hd) (kS b) (pvO (some h))) (pvM kS PV.str l) = _
    rw [putP_put, put_pvM kS_inj pvO hd b (some h), merge_upd l]
    rfl
theorem noD_way (l : List (Str × Str)) (g : Int) : noD (.tup [.lst (l.map pv2), .int g]) = true := by
  have : noDs (l.map pv2) = true := by
    induction l with
    | nil => rfl
    | cons e l ih => show (noD (pv2 e) && noDs (l.map pv2)) = true; rw [ih]; rfl
  show ((noD (.lst (l.map pv2))) && true) = true
  show (noDs (l.map pv2) && true) = true
  rw [this]; rfl
/-- what best_by is given -/
structure BY (gn : List ((Str × Str) × Int)) (bs hs : List Str) : Prop where
  bn : bs.Nodup
  gk : ∀ b h x, lk gn (b, h) = some x → b ∈ bs ∧ h ∈ hs
  gnd : (gn.map (·.1)).Nodup
  lb : bs.length ≤ 1000
  lh : hs.length ≤ 1000
  ok : ∀ h ∈ hs, PyData.strOk h = true
/-- best_by's promise -/
def t_best_by : TSp := fun ps k R => ∃ gn bs hs, ps = [.lst (bs.map .str), .lst (hs.map .str), .dt (pvM kSS .int gn)] ∧ BY gn bs hs ∧ ∀ hd, hd.map (·.1) = bs → (∃ u p, Asg.Cert (gF gn) bs (hF hd) 0 u p) → R (.dk (pvM kS pvO hd)) k
def cnt (bs : List Str) (hf : Str → Option Str) : Nat := (bs.filter fun b => (hf b).isNone).length
theorem cnt_lt {bs : List Str} {hf : Str → Option Str} {l : List (Str × Str)} (nd : (l.map (·.1)).Nodup) (mem : ∀ b h, (b, h) ∈ l → b ∈ bs) (more : ∃ b h, (b, h) ∈ l ∧ hf b = none) : cnt bs (Asg.after hf l) < cnt bs hf := by
  obtain ⟨b, h, hm, hn⟩ := more
  refine filter_lt (fun x hx hq => ?_) ⟨b, mem b h hm, by rw [hn]; rfl, ?_⟩
  · cases e : hf x with
    | none => rfl
    | some y =>
      have := Asg.after_some (l := l) (hd := hf) (b := x) (by rw [e]; intro z; cases z)
      cases e2 : Asg.after hf l x with
      | none => exact absurd e2 this
      | some y => rw [e2] at hq; cases hq
  · unfold Asg.after
    rw [Asg.look_of nd hm]
    rfl
end PH
set_option linter.all false
set_option autoImplicit false
set_option maxRecDepth 100000
/-! Q9: best_by's promise. -/
namespace PH
open PySem
open PySem.Spec
open L2
open TL
theorem vIsNot_tup {ps : List PV} {R : Bool → Prop} (h : R true) : vIsNot (.tup ps) .non R := h
theorem vGt_i {i j : Int} {R : Bool → Prop} (h : R (decide (j < i))) : vGt (.int i) (.int j) R := h
theorem iAddD {wk wv : WE} {S : List Slot} {k : Nat} {acc : PV} {R : PV → Nat → Prop} (h : wk S k fun q k1 => wv S k1 fun v k2 => dPut acc q v fun d => R d k2) : addD wk wv S k acc R := h
theorem iYes {S : List Slot} {k : Nat} {R : Bool → Nat → Prop} (h : R true k) : wYes S k R := h
theorem iUpd {wa : WE} {W : WD} {S : List Slot} {k i : Nat} {ps : List (Key × PV)} (e : S[i]? = some (.ow (.dk ps))) (h : wa S k fun p k' => match p with
  | .dk qs => ps.length + qs.length ≤ bigN ∧ W.nx (S.set i (.ow (.dk (mergeP ps qs)))) k'
  | _ => False) : wUpd i wa W S k := by
  unfold wUpd dkAt; rw [e]; exact h
def bigG : List ((Str × Str) × Int) → Int
  | [] => 0
  | e :: l => max e.2 (bigG l)
theorem bigG_ge : ∀ {l : List ((Str × Str) × Int)} {e : (Str × Str) × Int}, e ∈ l → e.2 ≤ bigG l
  | [], _, h => by cases h
  | a :: l, e, h => by
    rcases List.mem_cons.mp h with rfl | h
    · exact Int.le_max_left ..
    · exact Int.le_trans (bigG_ge h) (Int.le_max_right ..)
theorem bigG_0 : ∀ l : List ((Str × Str) × Int), 0 ≤ bigG l
  | [] => Int.le_refl _
  | a :: l => Int.le_trans (bigG_0 l) (Int.le_max_right ..)
section
variable {gn : List ((Str × Str) × Int)} {bs hs : List Str}
theorem hF_none (bs : List Str) (b : Str) : hF (bs.map fun b => (b, none)) b = none := by
  unfold hF
  cases e : lk (bs.map fun b => (b, (none : Option Str))) b with
  | none => rfl
  | some o =>
    obtain ⟨x, _, hx⟩ := List.mem_map.mp (lk_mem e)
    cases hx; rfl
theorem cert_start (gn : List ((Str × Str) × Int)) (bs : List Str) {hf : Str → Option Str} (h : ∀ b, hf b = none) : Asg.Cert (gF gn) bs hf (bigG gn) (fun _ => bigG gn) (fun _ => 0) := by
  refine ⟨fun b hb h' x hx => ?_, fun b hb h' e => ?_, fun _ => Int.le_refl _, fun _ _ => rfl, fun _ _ => Int.le_refl _, fun _ _ _ => rfl, fun b hb c hc h' e => ?_⟩
  · have := bigG_ge (lk_mem hx)
    simpa using this
  · rw [h] at e; cases e
  · rw [h] at e; cases e
def Wy (gn : List ((Str × Str) × Int)) (bs hs : List Str) (hd : List (Str × Option Str)) (m : Nat) (wp : PV) : Prop := (wp = .non ∧ (∃ u p, Asg.Cert (gF gn) bs (hF hd) 0 u p) ∧ m = 0) ∨ ∃ l gain, wp = .tup [.lst (l.map pv2), .int gain] ∧
  ((gain ≤ 0 ∧ (∃ u p, Asg.Cert (gF gn) bs (hF hd) 0 u p) ∧ m = 0) ∨ (0 < gain ∧ (∃ t u p, 0 ≤ t ∧ Asg.Cert (gF gn) bs (Asg.after (hF hd) l) t u p) ∧ (l.map (·.1)).Nodup ∧ (∀ b h, (b, h) ∈ l → b ∈ bs) ∧ m = cnt bs (Asg.after (hF hd) l) + 1))
def byS (gn : List ((Str × Str) × Int)) (bs hs : List Str) (hd : List (Str × Option Str)) (wp : PV) (x5 : Slot) : List Slot := [.fz (.lst (bs.map .str)), .fz (.lst (hs.map .str)), .fz (.dt (pvM kSS .int gn)), .ow (.dk (pvM kS pvO hd)), .fz wp, x5]
theorem by_loop {W : WD} {k : Nat} {x5 : Slot} (G : BY gn bs hs) {m : Nat} {hd : List (Str × Option Str)} {wp : PV} (hk : hd.map (·.1) = bs) (hw : Wy gn bs hs hd m wp)
    (fin : ∀ hd wp, hd.map (·.1) = bs → (∃ u p, Asg.Cert (gF gn) bs (hF hd) 0 u p) → W.nx (byS gn bs hs hd wp x5) k) :
    wWhile (wAnd (wCmp (wRd 4) (wC .non) vIsNot) (wCmp (w2 (wRd 4) (wC (.int 1)) vIdx) (wC (.int 0)) vGt)) (wSeq (wUpd 3 (w1 (w2 (wRd 4) (wC (.int 0)) vIdx) vDict))
      (wAsg 4 (wLend 3 (wCall 4 t_best_way (wCons (wVar 0) (wCons (wVar 1) (wCons (wVar 2) (wCons (wVar 3) wNil)))))))) W (byS gn bs hs hd wp x5) k := by
  refine ⟨fun m S k' => k' = k ∧ ∃ hd wp, hd.map (·.1) = bs ∧ Wy gn bs hs hd m wp ∧ S = byS gn bs hs hd wp x5, ⟨m, rfl, hd, wp, hk, hw, rfl⟩, ?_⟩
  rintro m S k' ⟨rfl, hd, wp, hk, hw, rfl⟩
  rcases hw with ⟨rfl, hc, rfl⟩ | ⟨l, gain, rfl, hw⟩
  · exact iAnd (iCmp (iRd (p := .non) rfl (iC (vIsNot_non (iteF (iteF (fin hd _ hk hc)))))))
  · refine iAnd (iCmp (iRd (p := .tup [.lst (l.map pv2), .int gain]) rfl (iC (vIsNot_tup (iteT (iCmp (i2 (iRd (p := .tup [.lst (l.map pv2), .int gain]) rfl (iC ⟨.int gain, rfl, iC (vGt_i ?_)⟩)))))))))
    rcases hw with ⟨h0, hc, rfl⟩ | ⟨h0, ⟨t, u, p, t0, c⟩, nd, mem, rfl⟩
    · rw [decide_eq_false (by omega)]
      exact iteF (fin hd _ hk hc)
    · rw [decide_eq_true h0]
      refine iteT ⟨fun S k2 => k2 = k' ∧ ∃ m' hd' wp', m' < cnt bs (Asg.after (hF hd) l) + 1 ∧ hd'.map (·.1) = bs ∧ Wy gn bs hs hd' m' wp' ∧ S = byS gn bs hs hd' wp' x5, ?_, ?_⟩
      · rintro S k2 ⟨rfl, m', hd', wp', h1, h2, h3, rfl⟩
        exact ⟨m', h1, rfl, hd', wp', h2, h3, rfl⟩
      · have hlen : l.length ≤ bs.length := by
          have := Asg.nodup_len nd (m := bs) fun b hb => by
            obtain ⟨⟨b', h⟩, hm, rfl⟩ := List.mem_map.mp hb
            exact mem b' h hm
          rw [List.length_map] at this; exact this
        have hlb := G.lb
        have hhd : hd.length = bs.length := by rw [← hk, List.length_map]
        have uk : (updW hd l).map (·.1) = bs := by
          rw [updW_keys l hd fun b h hm => by rw [hk]; exact mem b h hm]; exact hk
        have uF := updW_hF l hd nd
        have mg : mergeP [] (pvM kS PV.str l) = pvM kS PV.str l := by
          have := merge_nil (pvM kS PV.str l) [] (by simpa using pvM_nodup (f := PV.str) nd)
          simpa using this
        refine iSeq (iUpd (ps := pvM kS pvO hd) rfl (i1 (i2 (iRd (p := .tup [.lst (l.map pv2), .int gain]) rfl (iC ⟨.lst (l.map pv2), rfl, pvM kS PV.str l, pairs_of l, ?_⟩)))))
        rw [mg]
        refine ⟨by simp only [pvM, List.length_map]; unfold bigN; omega, ?_⟩
        rw [merge_upd]
        dsimp only
        refine iAsg ?_
        refine ⟨rfl, ?_⟩
        refine iCons (iVar (p := .lst (bs.map .str)) rfl (iCons (iVar (p := .lst (hs.map .str)) rfl (iCons (iVar (p := .dt (pvM kSS .int gn)) rfl (iCons (iVar (p := .dk (pvM kS pvO (updW hd l))) rfl (iNil ⟨rfl, ?_⟩))))))))
        refine ⟨gn, updW hd l, bs, hs, t, u, p, rfl, ⟨by rw [uF]; exact c, uk, G.bn, G.gk, G.gnd, G.lb, G.lh⟩, t0, G.ok, fun hc => ?_, fun l' gain' hw' => ?_⟩
        · exact ⟨rfl, (show (4 : Nat) < 6 by decide), rfl, 0, updW hd l, .non, by omega, uk, .inl ⟨rfl, hc, rfl⟩, rfl⟩
        · refine ⟨noD_way l' gain', (show (4 : Nat) < 6 by decide), rfl, ?_⟩
          by_cases hg : gain' ≤ 0
          · exact ⟨0, updW hd l, _, by omega, uk, .inr ⟨l', gain', rfl, .inl ⟨hg, hw'.no hg, rfl⟩⟩, rfl⟩
          · have hg' : 0 < gain' := by omega
            obtain ⟨u', p', c'⟩ := hw'.yes hg'
            refine ⟨cnt bs (Asg.after (hF (updW hd l)) l') + 1, updW hd l, _, ?_, uk, .inr ⟨l', gain', rfl, .inr ⟨hg', ⟨gain', u', p', by omega, c'⟩, hw'.nd, fun b h hm => (hw'.mem b h hm).1, rfl⟩⟩, rfl⟩
            have := cnt_lt (bs := bs) (hf := hF (updW hd l)) hw'.nd (fun b h hm => (hw'.mem b h hm).1) hw'.more
            rw [uF] at this ⊢
            omega
end
theorem l_best_by (ps : List PV) (k : Nat) (R : PK) (hl : ps.length = 3) (h : t_best_by ps k R) : w_best_by t_best_way { nx := fun _ k => R .non k, rt := R } (startS 6 ps) k := by
  obtain ⟨gn, bs, hs, rfl, G, hR⟩ := h
  show w_best_by _ _ [.fz (.lst (bs.map .str)), .fz (.lst (hs.map .str)), .fz (.dt (pvM kSS .int gn)), .un, .un, .un] k
  unfold w_best_by
  refine iSeq ?_
  show (_ ∧ wCmL _ _ _ _ _ (bs.map PV.str) (PV.dk (pvM kS pvO [])) k : Prop)
  refine ⟨by rw [List.length_map]; have := G.lb; unfold bigN; omega, ?_⟩
  refine cmL_map bs PV.str (fun pre acc => acc = .dk (pvM kS pvO (pre.map fun b => (b, none)))) ?_ ?_ bs [] _ rfl rfl
  · rintro pre b r' acc R' hall rfl hR'
    have hpl : pre.length < bs.length := by rw [hall]; simp
    have hlb := G.lb
    refine ⟨(show (5 : Nat) < 6 by decide), ?_⟩
    refine iYes (iteT (iAddD (iVar (p := .str b) rfl (iC ?_))))
    refine dPut_dk (f := pvO) (v := none) rfl (by rw [List.length_map]; unfold bigN; omega) (hR' _ ?_)
    have hn : b ∉ (pre.map fun b => (b, (none : Option Str))).map (·.1) := by
      rw [List.map_map]
      have : (pre.map ((·.1) ∘ fun b => (b, (none : Option Str)))) = pre := by
        conv => rhs; rw [← List.map_id pre]
        rfl
      rw [this]
      have nd := G.bn
      rw [hall, List.nodup_append] at nd
      intro z
      exact nd.2.2 b z b (List.mem_cons_self ..) rfl
    have e : put (pre.map fun b => (b, (none : Option Str))) b none = (pre ++ [b]).map fun b => (b, none) := by
      unfold put
      rw [if_neg (fun z => hn ((any_iff _ b).mp z)), List.map_append]
      rfl
    rw [e]
  · rintro acc rfl
    refine iTup (iCons (iLst (iNil ⟨Nat.zero_le _, iCons (iC (iNil ⟨by simp, ⟨(show (3 : Nat) < 6 by decide), (show (4 : Nat) < 6 by decide)⟩, ?_⟩))⟩)))
    dsimp only
    refine iSeq ?_
    have c0 := cert_start gn bs (hf := hF (bs.map fun b => (b, none))) (hF_none bs)
    have aft : Asg.after (hF (bs.map fun b => (b, none))) [] = hF (bs.map fun b => (b, none)) := rfl
    refine by_loop (hd := bs.map fun b => (b, none)) (wp := .tup [.lst ([].map pv2), .int 1]) (x5 := .un) (m := cnt bs (Asg.after (hF (bs.map fun b => (b, none))) []) + 1) G ?_ ?_ fun hd wp hk hc => ?_
    · rw [List.map_map]
      conv => rhs; rw [← List.map_id bs]
      rfl
    · exact .inr ⟨[], 1, rfl, .inr ⟨by decide, ⟨_, _, _, bigG_0 gn, by rw [aft]; exact c0⟩, (by simp), fun b h hm => (by cases hm), rfl⟩⟩
    · dsimp only
      exact iFrz (iRet (iVar (p := .dk (pvM kS pvO hd)) rfl (hR hd hk hc)))
end PH
set_option linter.all false
set_option autoImplicit false
set_option maxRecDepth 100000
/-! Q10: small defs. -/
namespace PH
open PySem
open PySem.Spec
open L2
open TL
def w_is_list : WS :=
  (wRet (w1 (wRd 0) (vIsiT ["list", "tuple"])))

def w_is_integer : WS :=
  (wRet (wAndV (w1 (wRd 0) (vIsi "int")) (wNotV (w1 (wRd 0) (vIsi "bool")))))

def w_is_number (t_is_integer : TSp) : WS :=
  (wRet (wAndV (wCall 1 t_is_integer (wCons (wVar 0) wNil)) (wBool (wCmp (wRd 0) (wC (.int 0)) vGe))))

def w_is_name : WS :=
  (wSeq (wIf (wOr (wNot (wVal (w1 (wRd 0) (vIsi "str")))) (wNot (wCh_lt_lt (wC (.int 0)) (w1 (wRd 0) vLen) (wC (.int 13))))) (wRet (wC (.bl false))) wSkip)
  (wSeq (wAsg 1 (wC (.str "abcdefghijklmnopqrstuvwxyz")))
  (wRet (wAndV (wBool (wCmp (w2 (wRd 0) (wC (.int 0)) vIdx) (wRd 1) vIn)) (w1 (wLc (wIStr (wVar 0)) [2] (gN 2) wYes (wBool (wCmp (wRd 2) (w2 (wRd 1) (wC (.str "0123456789")) vAdd) vIn))) vAll)))))

def w_is_one_of : WS :=
  (wRet (wAndV (w1 (wRd 1) (vIsi "str")) (wBool (wCmp (wRd 1) (wRd 0) vIn))))

def t_is_list : TSp := fun ps k R => ∃ xs, (ps = [.tup xs] ∨ ps = [.lst xs]) ∧ R (.bl true) k
theorem l_is_list (ps : List PV) (k : Nat) (R : PK) (hl : ps.length = 1) (h : t_is_list ps k R) : w_is_list { nx := fun _ k => R .non k, rt := R } (startS 1 ps) k := by
  obtain ⟨xs, rfl | rfl, hR⟩ := h
  · exact hR
  · exact hR
def t_is_integer : TSp := fun ps k R => ∃ i, ps = [.int i] ∧ R (.bl true) k
theorem l_is_integer (ps : List PV) (k : Nat) (R : PK) (hl : ps.length = 1) (h : t_is_integer ps k R) : w_is_integer { nx := fun _ k => R .non k, rt := R } (startS 1 ps) k := by
  obtain ⟨i, rfl, hR⟩ := h
  exact hR
def t_is_number : TSp := fun ps k R => ∃ i, ps = [.int i] ∧ R (.bl (decide (0 ≤ i))) k
theorem l_is_number (ps : List PV) (k : Nat) (R : PK) (hl : ps.length = 1) (h : t_is_number ps k R) : w_is_number t_is_integer { nx := fun _ k => R .non k, rt := R } (startS 1 ps) k := by
  obtain ⟨i, rfl, hR⟩ := h
  exact ⟨rfl, i, rfl, hR⟩
def nameOk (x : Str) : Bool := decide (0 < x.length) && decide (x.length < 13) && (match x.cps.toList with
  | c :: _ => strIn ⟨#[c]⟩ "abcdefghijklmnopqrstuvwxyz"
  | [] => false) && (chars x).all fun p => match p with
    | .str c => strIn c ("abcdefghijklmnopqrstuvwxyz" ++ "0123456789")
    | _ => false
def t_is_name : TSp := fun ps k R => ∃ x, ps = [.str x] ∧ nameOk x = true ∧ R (.bl true) k
theorem cm_true {α : Type} {g : GP} {we : WE} {S0 : List Slot} {k : Nat} {Rf : List PV → Nat → Prop} (all : List α) (φ : α → PV) (hs : ∀ a ∈ all, ∀ R : PK, R (.bl true) k → g (φ a) S0 fun S' => we S' k R) (h : Rf (all.map fun _ => .bl true) k) :
    wCmL g wYes (addL we) S0 Rf (all.map φ) [] k := by
  refine cmL_map all φ (fun pre acc => acc = pre.map fun _ => .bl true) ?_ (fun acc e => by rw [e]; exact h) all [] _ rfl rfl
  rintro pre a r' acc R hall rfl hR
  have e : (fun S' => wYes S' k fun b k1 => if b = true then addL we S' k1 (pre.map fun _ => .bl true) R else R (pre.map fun _ => .bl true) k1) = fun S' => we S' k fun y k2 => R ((pre.map fun _ => .bl true) ++ [y]) k2 := by
    funext S'
    simp [wYes, addL]
  rw [e]
  refine hs a (by rw [hall]; exact List.mem_append_right _ (List.mem_cons_self ..)) _ (hR _ ?_)
  rw [List.map_append]; rfl
theorem vAll_true {α : Type} {l : List α} {R : PV → Prop} (h : R (.bl true)) : vAll (.lst (l.map fun _ => .bl true)) R := by
  refine ⟨l.map fun _ => true, by rw [List.map_map]; rfl, ?_⟩
  have : (l.map fun _ => true).all id = true := by simp
  rw [this]; exact h
theorem iVl {wa : WE} {S : List Slot} {k : Nat} {Rt : Bool → Nat → Prop} (h : wa S k fun p k' => match p with
  | .bl b => Rt b k'
  | _ => False) : wVal wa S k Rt := h
theorem vIsi_str {x : Str} {R : PV → Prop} (h : R (.bl true)) : vIsi "str" (.str x) R := h
theorem vIsi_dk {l : List (Key × PV)} {R : PV → Prop} (h : R (.bl true)) : vIsi "dict" (.dk l) R := h
theorem iAndV {wa wb : WE} {S : List Slot} {k : Nat} {R : PK} (h : wa S k fun p k1 => match p with
  | .bl true => wb S k1 R
  | .bl false => R (.bl false) k1
  | _ => False) : wAndV wa wb S k R := h
theorem iChL {S : List Slot} {k : Nat} {Rt : Bool → Nat → Prop} {x : Str} (e : S[0]? = some (.fz (.str x))) (h0 : 0 < x.length) (h1 : x.length < 13) (h : Rt true k) : wCh_lt_lt (wC (.int 0)) (w1 (wRd 0) vLen) (wC (.int 13)) S k Rt := by
  unfold wCh_lt_lt wChain
  refine iC (i1 (iRd e ?_))
  refine ⟨by omega, ?_⟩
  show if decide ((0 : Int) < (x.length : Int)) = true then Rt (decide ((x.length : Int) < 13)) k else Rt false k
  rw [decide_eq_true (by omega), decide_eq_true (by omega)]
  exact iteT h
theorem l_is_name (ps : List PV) (k : Nat) (R : PK) (hl : ps.length = 1) (h : t_is_name ps k R) : w_is_name { nx := fun _ k => R .non k, rt := R } (startS 3 ps) k := by
  obtain ⟨x, rfl, hx, hR⟩ := h
  unfold nameOk at hx
  simp only [Bool.and_eq_true, decide_eq_true_eq] at hx
  obtain ⟨⟨⟨h0, h13⟩, hc⟩, hall⟩ := hx
  show w_is_name _ [.fz (.str x), .un, .un] k
  unfold w_is_name
  refine iSeq (iIf (iOr (iNot (iVl (i1 (iRd rfl (vIsi_str (iteF (iNot (iChL rfl h0 h13 (iteF (iSkip ?_))))))))))))
  dsimp only
  refine iSeq (iAsg (iC ⟨(show (1 : Nat) < 3 by decide), ?_⟩))
  dsimp only
  refine iRet (iAndV (iBool (iCmp (i2 (iRd (p := .str x) rfl (iC ?_))))))
  cases ex : x.cps.toList with
  | nil => rw [ex] at hc; cases hc
  | cons c r =>
    rw [ex] at hc
    refine ⟨c, by omega, by rw [ex]; simp [atI, ixN], iRd (p := .str "abcdefghijklmnopqrstuvwxyz") rfl ?_⟩
    show (match (PV.bl (strIn ⟨#[c]⟩ "abcdefghijklmnopqrstuvwxyz")) with
      | .bl true => _
      | .bl false => _
      | _ => False : Prop)
    rw [show strIn ⟨#[c]⟩ "abcdefghijklmnopqrstuvwxyz" = true from hc]
    show (_ ∧ wCmL _ _ _ _ _ (chars x) [] k : Prop)
    refine ⟨by unfold chars; rw [List.length_map]; have : x.cps.toList.length = x.length := by simp [Str.length]
               rw [this]; unfold bigN; omega, ?_⟩
    unfold chars
    refine cm_true x.cps.toList (fun c => PV.str ⟨#[c]⟩) (fun a ha R hR' => ⟨(show (2 : Nat) < 3 by decide), ?_⟩) (vAll_true hR)
    refine iBool (iCmp (iRd (p := .str ⟨#[a]⟩) rfl (i2 (iRd (p := .str "abcdefghijklmnopqrstuvwxyz") rfl (iC ?_)))))
    refine ⟨by decide, ?_⟩
    have := List.all_eq_true.mp hall (.str ⟨#[a]⟩) (List.mem_map.mpr ⟨a, ha, rfl⟩)
    show R (.bl (strIn ⟨#[a]⟩ ("abcdefghijklmnopqrstuvwxyz" ++ "0123456789"))) k
    rw [show strIn ⟨#[a]⟩ ("abcdefghijklmnopqrstuvwxyz" ++ "0123456789") = true from this]
    exact hR'
end PH
set_option linter.all false
set_option autoImplicit false
set_option maxRecDepth 100000
/-! Q11: markets, looked at. -/
namespace PH
open PySem
open PySem.Spec
open L2
open TL
def w_are_floors (t_is_name t_is_number : TSp) : WS :=
  (wSeq (wIf (wOr (wNot (wVal (w1 (wRd 0) (vIsi "dict")))) (wNot (wVal (w1 (wLc (wIKeys (wVar 0)) [2] (gN 2) wYes (wCall 1 t_is_name (wCons (wVar 2) wNil))) vAll)))) (wRet (wC (.bl false))) wSkip)
  (wRet (w1 (wLc (wIVals (wVar 0)) [1] (gN 1) wYes (wCall 1 t_is_number (wCons (wVar 1) wNil))) vAll)))

def w_is_market (t_is_list t_are_floors t_is_name t_is_number : TSp) : WS :=
  (wSeq (wIf (wOr (wNot (wVal (wCall 1 t_is_list (wCons (wVar 0) wNil)))) (wOr (wCmp (w1 (wRd 0) vLen) (wC (.int 2)) vNe) (wOr (wNot (wVal (w1 (w2 (wRd 0) (wC (.int 0)) vIdx) (vIsi "dict")))) (wNot (wVal (wCall 1 t_are_floors (wCons (w2 (wRd 0) (wC (.int 1)) vIdx) wNil))))))) (wRet (wC (.bl false))) wSkip)
  (wSeq (wAsgT (wVar 0) (gT (gsC (gN 2) (gsC (gN 3) gsN))))
  (wSeq (wIf (wOr (wNild (wRd 2)) (wNot (wVal (w1 (wLc (wIItems (wVar 2)) [4, 1] (gT (gsC (gN 4) (gsC (gN 1) gsN))) wYes (wAndV (wCall 1 t_is_name (wCons (wVar 4) wNil)) (w1 (wRd 1) (vIsi "dict")))) vAll)))) (wRet (wC (.bl false))) wSkip)
  (wSeq (wFor (wIVals (wVar 2)) (gN 1) (wIf (wNot (wVal (w1 (wLc (wIItems (wVar 1)) [5, 6] (gT (gsC (gN 5) (gsC (gN 6) gsN))) wYes (wAndV (wCall 1 t_is_name (wCons (wVar 5) wNil)) (wAndV (wBool (wCmp (wRd 5) (wRd 3) vIn)) (wCall 1 t_is_number (wCons (wVar 6) wNil))))) vAll))) (wRet (wC (.bl false))) wSkip))
  (wRet (wC (.bl true)))))))

def pvRow (r : List (Str × Int)) : PV := .dk (pvM kS PV.int r)
def pvMk (ws : List (Str × List (Str × Int))) (fl : List (Str × Int)) : PV := .tup [.dk (pvM kS pvRow ws), pvRow fl]
theorem vLen_2 {a b : PV} {R : PV → Prop} (h : R (.int 2)) : vLen (.tup [a, b]) R := h
theorem vNe_ii {i : Int} {R : Bool → Prop} (h : R false) : vNe (.int i) (.int i) R := by
  show R (!decide (i = i))
  rw [decide_eq_true rfl]; exact h
structure OkM (ws : List (Str × List (Str × Int))) (fl : List (Str × Int)) : Prop where
  bk : (ws.map (·.1)).Nodup
  fk : (fl.map (·.1)).Nodup
  wk : ∀ e ∈ ws, (e.2.map (·.1)).Nodup
  bn : ∀ e ∈ ws, nameOk e.1 = true
  fn : ∀ e ∈ fl, nameOk e.1 = true
  wf : ∀ e ∈ ws, ∀ w ∈ e.2, w.1 ∈ fl.map (·.1)
  w0 : ∀ e ∈ ws, ∀ w ∈ e.2, 0 ≤ w.2
  f0 : ∀ e ∈ fl, 0 ≤ e.2
  lw : ws.length ≤ 30
  lf : fl.length ≤ 30
def t_are_floors : TSp := fun ps k R => ∃ r, ps = [pvRow r] ∧ (∀ e ∈ r, nameOk e.1 = true) ∧ (∀ e ∈ r, 0 ≤ e.2) ∧ r.length ≤ 1000 ∧ R (.bl true) k
theorem l_are_floors (ps : List PV) (k : Nat) (R : PK) (hl : ps.length = 1) (h : t_are_floors ps k R) : w_are_floors t_is_name t_is_number { nx := fun _ k => R .non k, rt := R } (startS 3 ps) k := by
  obtain ⟨r, rfl, hn, h0, hlen, hR⟩ := h
  show w_are_floors _ _ _ [.fz (pvRow r), .un, .un] k
  unfold w_are_floors
  have e1 : (pvM kS PV.int r).map (fun kp => pk kp.1) = r.map fun e => PV.str e.1 := by unfold pvM; rw [List.map_map]; rfl
  have e2 : (pvM kS PV.int r).map (fun kp => kp.2) = r.map fun e => PV.int e.2 := by unfold pvM; rw [List.map_map]; rfl
  refine iSeq (iIf (iOr (iNot (iVl (i1 (iRd rfl (vIsi_dk (iteF (iNot (iVl (i1 ?_)))))))))))
  show (_ ∧ wCmL _ _ _ _ _ ((pvM kS PV.int r).map (fun kp => pk kp.1)) [] k : Prop)
  rw [e1]
  refine ⟨by rw [List.length_map]; unfold bigN; omega, ?_⟩
  refine cm_true r (fun e => PV.str e.1) (fun e he R' hR' => ⟨(show (2 : Nat) < 3 by decide), ?_⟩) (vAll_true (iteF (iSkip ?_)))
  · exact ⟨rfl, e.1, rfl, hn e he, hR'⟩
  · dsimp only
    refine iRet (i1 ?_)
    show (_ ∧ wCmL _ _ _ _ _ ((pvM kS PV.int r).map (fun kp => kp.2)) [] k : Prop)
    rw [e2]
    refine ⟨by rw [List.length_map]; unfold bigN; omega, ?_⟩
    refine cm_true r (fun e => PV.int e.2) (fun e he R' hR' => ⟨(show (1 : Nat) < 3 by decide), ?_⟩) (vAll_true hR)
    exact ⟨rfl, e.2, rfl, by rw [decide_eq_true (h0 e he)]; exact hR'⟩
def t_is_market : TSp := fun ps k R => ∃ ws fl, ps = [pvMk ws fl] ∧ OkM ws fl ∧ ws ≠ [] ∧ R (.bl true) k
theorem len_sub {l : List (Str × Int)} {m : List (Str × Int)} (nd : (l.map (·.1)).Nodup) (h : ∀ w ∈ l, w.1 ∈ m.map (·.1)) : l.length ≤ m.length := by
  have := Asg.nodup_len nd (m := m.map (·.1)) fun b hb => by
    obtain ⟨e, he, rfl⟩ := List.mem_map.mp hb
    exact h e he
  rw [List.length_map, List.length_map] at this; exact this
theorem nameF {ws : List (Str × List (Str × Int))} {fl : List (Str × Int)} (M : OkM ws fl) {x : Str} (h : x ∈ fl.map (·.1)) : nameOk x = true := by
  obtain ⟨e, he, rfl⟩ := List.mem_map.mp h
  exact M.fn e he
theorem vIsi_dk' {l : List (Key × PV)} {R : PV → Prop} (h : R (.bl true)) : vIsi "dict" (.dk l) R := h
theorem l_is_market (ps : List PV) (k : Nat) (R : PK) (hl : ps.length = 1) (h : t_is_market ps k R) : w_is_market t_is_list t_are_floors t_is_name t_is_number { nx := fun _ k => R .non k, rt := R } (startS 7 ps) k := by
  obtain ⟨ws, fl, rfl, M, hne, hR⟩ := h
  show w_is_market _ _ _ _ _ [.fz (pvMk ws fl), .un, .un, .un, .un, .un, .un] k
  unfold w_is_market
  have lw := M.lw
  have lf := M.lf
  refine iSeq (iIf (iOr (iNot (iVl ?_))))
  refine ⟨rfl, [.dk (pvM kS pvRow ws), pvRow fl], .inl rfl, ?_⟩
  refine iteF (iOr (iCmp (i1 (iRd (p := pvMk ws fl) rfl (vLen_2 (iC (vNe_ii ?_)))))))
  refine iteF (iOr (iNot (iVl (i1 (i2 (iRd (p := pvMk ws fl) rfl (iC ?_)))))))
  refine ⟨_, rfl, ?_⟩
  refine vIsi_dk ?_
  refine iteF (iNot (iVl ?_))
  refine i2 (iRd (p := pvMk ws fl) rfl (iC ⟨pvRow fl, rfl, ?_⟩))
  refine ⟨rfl, fl, rfl, M.fn, M.f0, by omega, iteF (iSkip ?_)⟩
  dsimp only
  refine iSeq (iVar (p := pvMk ws fl) rfl ⟨(show (2 : Nat) < 7 by decide), (show (3 : Nat) < 7 by decide), rfl, ?_⟩)
  dsimp only
  refine iSeq (iIf (iOr (iCmp (iRd (p := .dk (pvM kS pvRow ws)) rfl (iC ?_)))))
  have hz : ((pvM kS pvRow ws).length == 0) = false := by
    cases ws with
    | nil => exact absurd rfl hne
    | cons a l => rfl
  show if ((pvM kS pvRow ws).length == 0) = true then _ else _
  rw [hz]
  have e1 : (pvM kS pvRow ws).map (fun kp => PV.tup [pk kp.1, kp.2]) = ws.map fun e => PV.tup [.str e.1, pvRow e.2] := by unfold pvM; rw [List.map_map]; rfl
  refine iteF (iNot (iVl (i1 ?_)))
  show (_ ∧ wCmL _ _ _ _ _ ((pvM kS pvRow ws).map (fun kp => PV.tup [pk kp.1, kp.2])) [] k : Prop)
  rw [e1]
  refine ⟨by rw [List.length_map]; unfold bigN; omega, ?_⟩
  refine cm_true ws (fun e => PV.tup [.str e.1, pvRow e.2]) (fun e he R' hR' => ⟨(show (4 : Nat) < 7 by decide), (show (1 : Nat) < 7 by decide), rfl, ?_⟩) (vAll_true (iteF (iSkip ?_)))
  · refine iAndV ?_
    exact ⟨rfl, e.1, rfl, M.bn e he, hR'⟩
  dsimp only
  refine iSeq ?_
  have e2 : (pvM kS pvRow ws).map (fun kp => kp.2) = ws.map fun e => pvRow e.2 := by unfold pvM; rw [List.map_map]; rfl
  show wForL _ _ _ ((pvM kS pvRow ws).map (fun kp => kp.2)) _ k
  rw [e2]
  have loop : ∀ (r : List (Str × List (Str × Int))) (x1 : Slot), (∀ e ∈ r, e ∈ ws) → wForL (gN 1) (wIf (wNot (wVal (w1 (wLc (wIItems (wVar 1)) [5, 6] (gT (gsC (gN 5) (gsC (gN 6) gsN))) wYes (wAndV (wCall 1 t_is_name (wCons (wVar 5) wNil)) (wAndV (wBool (wCmp (wRd 5) (wRd 3) vIn)) (wCall 1 t_is_number (wCons (wVar 6) wNil))))) vAll))) (wRet (wC (.bl false))) wSkip)
      { nx := wRet (wC (.bl true)) { nx := fun _ k => R .non k, rt := R }, rt := R } (r.map fun e => pvRow e.2) [.fz (pvMk ws fl), x1, .fz (.dk (pvM kS pvRow ws)), .fz (pvRow fl), .un, .un, .un] k := by
    intro r
    induction r with
    | nil => intro x1 _; exact hR
    | cons e r ih =>
      intro x1 hm
      have he := hm e (List.mem_cons_self ..)
      have e3 : (pvM kS PV.int e.2).map (fun kp => PV.tup [pk kp.1, kp.2]) = e.2.map fun w => PV.tup [.str w.1, .int w.2] := by unfold pvM; rw [List.map_map]; rfl
      refine ⟨(show (1 : Nat) < 7 by decide), ?_⟩
      refine iIf (iNot (iVl (i1 ?_)))
      show (_ ∧ wCmL _ _ _ _ _ ((pvM kS PV.int e.2).map (fun kp => PV.tup [pk kp.1, kp.2])) [] k : Prop)
      rw [e3]
      refine ⟨by rw [List.length_map]; have := len_sub (M.wk e he) (M.wf e he); unfold bigN; omega, ?_⟩
      refine cm_true e.2 (fun w => PV.tup [.str w.1, .int w.2]) (fun w hw R' hR' => ⟨(show (5 : Nat) < 7 by decide), (show (6 : Nat) < 7 by decide), rfl, ?_⟩) (vAll_true (iteF (iSkip ?_)))
      · refine iAndV ⟨rfl, w.1, rfl, nameF M (M.wf e he w hw), ?_⟩
        refine iAndV (iBool (iCmp (iRd (p := .str w.1) rfl (iRd (p := pvRow fl) rfl (vIn_dk ?_)))))
        have : (lk fl w.1).isSome = true := by
          cases q : lk fl w.1 with
          | none => exact absurd (M.wf e he w hw) ((lk_none_iff fl w.1).mp q)
          | some _ => rfl
        rw [this]
        exact ⟨rfl, w.2, rfl, by rw [decide_eq_true (M.w0 e he w hw)]; exact hR'⟩
      · exact ih _ fun e' h' => hm e' (List.mem_cons_of_mem _ h')
  exact loop ws _ fun e he => he
end PH
set_option linter.all false
set_option autoImplicit false
set_option maxRecDepth 100000
/-! Q12: checked_market. -/
namespace PH
open PySem
open PySem.Spec
open L2
open TL
open PyProof.Rows (sortedS)
def w_checked_market (t_is_market : TSp) : WS :=
  (wSeq (wIf (wNot (wVal (wCall 1 t_is_market (wCons (wVar 0) wNil)))) (fun _ _ _ => False) wSkip)
  (wSeq (wAsgF 1 (wC (.dk [])))
  (wSeq (wFor (wILst (w1 (w2 (wRd 0) (wC (.int 0)) vIdx) vSort)) (gN 2) (wSeq (wAsg 3 (w2 (w2 (wRd 0) (wC (.int 0)) vIdx) (wRd 2) vIdx))
  (wPut 1 (wVar 2) (wDc (wILst (w1 (wRd 3) vSort)) [4] (gN 4) wYes (wVar 4) (w2 (wRd 3) (wRd 4) vIdx) (u0P (.dK []))))))
  (wFrz 1 (wRet (wTup (wCons (wVar 1) (wCons (wDc (wILst (w1 (w2 (wRd 0) (wC (.int 1)) vIdx) vSort)) [4] (gN 4) wYes (wVar 4) (w2 (w2 (wRd 0) (wC (.int 1)) vIdx) (wRd 4) vIdx) (u0P (.dK []))) wNil))))))))

def val (r : List (Str × Int)) (x : Str) : Int := (lk r x).getD 0
def rowOf (r : List (Str × Int)) (ns : List Str) : List (Str × Int) := ns.map fun x => (x, val r x)
theorem put_new {α : Type} {l : List (Str × α)} {b : Str} {v : α} (h : b ∉ l.map (·.1)) : put l b v = l ++ [(b, v)] := by
  unfold put
  rw [if_neg (fun z => h ((any_iff l b).mp z))]
theorem map_fst {α β : Type} (l : List α) (f : α → β) : (l.map fun x => (x, f x)).map (·.1) = l := by
  rw [List.map_map]
  conv => rhs; rw [← List.map_id l]
  rfl
theorem lk_row {l : List Str} {f : Str → Int} (x : Str) (h : x ∈ l) : lk (l.map fun x => (x, f x)) x = some (f x) := by
  induction l with
  | nil => cases h
  | cons y l ih =>
    rw [List.map_cons, lk_cons]
    by_cases z : y = x
    · rw [if_pos z, z]
    · rw [if_neg z]
      rcases List.mem_cons.mp h with q | q
      · exact absurd q.symm z
      · exact ih q
theorem lk_mapF {α : Type} {l : List Str} {f : Str → α} (x : Str) (h : x ∈ l) : lk (l.map fun x => (x, f x)) x = some (f x) := by
  induction l with
  | nil => cases h
  | cons y l ih =>
    rw [List.map_cons, lk_cons]
    by_cases z : y = x
    · rw [if_pos z, z]
    · rw [if_neg z]
      rcases List.mem_cons.mp h with q | q
      · exact absurd q.symm z
      · exact ih q
theorem nd_snoc {pre r' : List Str} {x : Str} {all : List Str} (nd : all.Nodup) (h : all = pre ++ x :: r') : x ∉ pre := by
  rw [h, List.nodup_append] at nd
  intro z
  exact nd.2.2 x z x (List.mem_cons_self ..) rfl
/-- {x: row[x] for x in ns} -/
theorem cm_row {wr : WE} {S0 : List Slot} {k i : Nat} {Rf : PV → Nat → Prop} {r : List (Str × Int)} (ns : List Str) (nd : ns.Nodup) (hm : ∀ x ∈ ns, x ∈ r.map (·.1)) (hl : ns.length ≤ 1000) (hi : i < S0.length) (hr : ∀ (x : Str) (R : PK), R (pvRow r) k → wr (S0.set i (.fz (.str x))) k R)
    (h : Rf (pvRow (rowOf r ns)) k) : wCmL (gN i) wYes (addD (wVar i) (w2 wr (wRd i) vIdx)) S0 Rf (ns.map .str) (.dk (pvM kS PV.int [])) k := by
  refine cmL_map ns PV.str (fun pre acc => acc = pvRow (rowOf r pre)) ?_ (fun acc e => by rw [e]; exact h) ns [] _ rfl rfl
  rintro pre x r' acc R hall rfl hR
  have hx : x ∈ ns := by rw [hall]; exact List.mem_append_right _ (List.mem_cons_self ..)
  have hpl : pre.length < ns.length := by rw [hall]; simp
  have g : (S0.set i (.fz (.str x)))[i]? = some (.fz (.str x)) := List.getElem?_set_self hi
  have lkx : lk r x = some (val r x) := by
    unfold val
    cases q : lk r x with
    | none => exact absurd (hm x hx) ((lk_none_iff r x).mp q)
    | some v => rfl
  refine ⟨hi, iYes (iteT (iAddD (iVar g (i2 (hr x _ (iRd g (vIdx_dk lkx ?_)))))))⟩
  refine dPut_dk (f := PV.int) (v := val r x) rfl (by unfold rowOf; rw [List.length_map]; unfold bigN; omega) (hR _ ?_)
  rw [put_new (by unfold rowOf; rw [map_fst]; exact nd_snoc nd hall)]
  unfold rowOf
  rw [List.map_append]; rfl
theorem pvM_keys {α : Type} (f : α → PV) (l : List (Str × α)) : (pvM kS f l).map (·.1) = (l.map (·.1)).map Sum.inr := by
  unfold pvM; rw [List.map_map, List.map_map]; rfl
theorem vSort_dk {α : Type} {f : α → PV} {l : List (Str × α)} {R : PV → Prop} (hl : l.length < 64) (h : ∀ ns : List Str, ns.Perm (l.map (·.1)) → sortedS ns = true → R (.lst (ns.map .str))) : vSort (.dk (pvM kS f l)) R :=
  ⟨l.map (·.1), pvM_keys f l, by rw [List.length_map]; exact hl, h⟩
/-- a market in the order of names -/
structure Srt (ws : List (Str × List (Str × Int))) (fl : List (Str × Int)) (ws' : List (Str × List (Str × Int))) (fl' : List (Str × Int)) : Prop where
  pb : (ws'.map (·.1)).Perm (ws.map (·.1))
  sb : sortedS (ws'.map (·.1)) = true
  row : ∀ b r', (b, r') ∈ ws' → ∃ r ns, (b, r) ∈ ws ∧ ns.Perm (r.map (·.1)) ∧ sortedS ns = true ∧ r' = rowOf r ns
  fl : ∃ ns, ns.Perm (fl.map (·.1)) ∧ sortedS ns = true ∧ fl' = rowOf fl ns
def t_checked_market : TSp := fun ps k R => ∃ ws fl, ps = [pvMk ws fl] ∧ OkM ws fl ∧ ws ≠ [] ∧ ∀ ws' fl', Srt ws fl ws' fl' → R (pvMk ws' fl') k
theorem l_checked_market (ps : List PV) (k : Nat) (R : PK) (hl : ps.length = 1) (h : t_checked_market ps k R) : w_checked_market t_is_market { nx := fun _ k => R .non k, rt := R } (startS 5 ps) k := by
  obtain ⟨ws, fl, rfl, M, hne, hR⟩ := h
  show w_checked_market _ _ [.fz (pvMk ws fl), .un, .un, .un, .un] k
  unfold w_checked_market
  have lw := M.lw
  have lf := M.lf
  refine iSeq (iIf (iNot (iVl ⟨rfl, ws, fl, rfl, M, hne, iteF (iSkip ?_)⟩)))
  dsimp only
  refine iSeq (iAsgF (iC ⟨(show (1 : Nat) < 5 by decide), ?_⟩))
  dsimp only
  refine iSeq ?_
  refine i1 (i2 (iRd (p := pvMk ws fl) rfl (iC ⟨.dk (pvM kS pvRow ws), rfl, vSort_dk (by omega) fun ns hp hs => ?_⟩)))
  have nnd : ns.Nodup := hp.nodup_iff.mpr M.bk
  have nmem : ∀ b ∈ ns, b ∈ ws.map (·.1) := fun b hb => hp.mem_iff.mp hb
  have nlen : ns.length ≤ 30 := by rw [hp.length_eq, List.length_map]; exact lw
  show wForL _ _ _ (ns.map .str) _ k
  have loop : ∀ (r pre : List Str) (ws' : List (Str × List (Str × Int))) (x2 x3 x4 : Slot), ns = pre ++ r → ws'.map (·.1) = pre → (∀ b r', (b, r') ∈ ws' → ∃ r ns, (b, r) ∈ ws ∧ ns.Perm (r.map (·.1)) ∧ sortedS ns = true ∧ r' = rowOf r ns) →
      wForL (gN 2) (wSeq (wAsg 3 (w2 (w2 (wRd 0) (wC (.int 0)) vIdx) (wRd 2) vIdx)) (wPut 1 (wVar 2) (wDc (wILst (w1 (wRd 3) vSort)) [4] (gN 4) wYes (wVar 4) (w2 (wRd 3) (wRd 4) vIdx) (u0P (.dK [])))))
        { nx := wFrz 1 (wRet (wTup (wCons (wVar 1) (wCons (wDc (wILst (w1 (w2 (wRd 0) (wC (.int 1)) vIdx) vSort)) [4] (gN 4) wYes (wVar 4) (w2 (w2 (wRd 0) (wC (.int 1)) vIdx) (wRd 4) vIdx) (u0P (.dK []))) wNil)))) { nx := fun _ k => R .non k, rt := R }, rt := R }
        (r.map .str) [.fz (pvMk ws fl), .ow (.dk (pvM kS pvRow ws')), x2, x3, x4] k := by
    intro r
    induction r with
    | nil =>
      intro pre ws' x2 x3 x4 e1 e2 e3
      rw [List.append_nil] at e1
      subst e1
      rw [List.map_nil, wForL]
      dsimp only
      refine iFrz (iRet (iTup (iCons (iVar (p := .dk (pvM kS pvRow ws')) rfl (iCons ?_)))))
      refine i1 (i2 (iRd (p := pvMk ws fl) rfl (iC ⟨pvRow fl, rfl, vSort_dk (by omega) fun fs fp fsS => ?_⟩)))
      have flen : fs.length ≤ 30 := by rw [fp.length_eq, List.length_map]; exact lf
      show (_ ∧ wCmL _ _ _ _ _ (fs.map PV.str) (PV.dk (pvM kS PV.int [])) k : Prop)
      refine ⟨by rw [List.length_map]; unfold bigN; omega, ?_⟩
      refine cm_row (r := fl) fs (fp.nodup_iff.mpr M.fk) (fun x hx => fp.mem_iff.mp hx) (by omega) (show (4 : Nat) < 5 by decide) (fun x R' hR' => i2 (iRd (p := pvMk ws fl) rfl (iC ⟨pvRow fl, rfl, hR'⟩))) ?_
      exact iNil ⟨(show (2 : Nat) ≤ 1000 by decide), hR ws' (rowOf fl fs) ⟨by rw [e2]; exact hp, by rw [e2]; exact hs, e3, fs, fp, fsS, rfl⟩⟩
    | cons b r ih =>
      intro pre ws' x2 x3 x4 e1 e2 e3
      have hb : b ∈ ns := by rw [e1]; exact List.mem_append_right _ (List.mem_cons_self ..)
      have hpl : pre.length < ns.length := by rw [e1]; simp
      have hwl : ws'.length < ns.length := by
        have := congrArg List.length e2
        rw [List.length_map] at this; omega
      obtain ⟨row, hrow⟩ : ∃ row, lk ws b = some row := by
        cases q : lk ws b with
        | none => exact absurd (nmem b hb) ((lk_none_iff ws b).mp q)
        | some row => exact ⟨row, rfl⟩
      have hmem := lk_mem hrow
      refine ⟨(show (2 : Nat) < 5 by decide), ?_⟩
      refine iSeq (iAsg (i2 (i2 (iRd (p := pvMk ws fl) rfl (iC ⟨.dk (pvM kS pvRow ws), rfl, iRd (p := .str b) rfl (vIdx_dk hrow ⟨(show (3 : Nat) < 5 by decide), ?_⟩)⟩)))))
      dsimp only
      refine iPut (p := .dk (pvM kS pvRow ws')) rfl ?_
      have rl : row.length ≤ fl.length := len_sub (M.wk _ hmem) (M.wf _ hmem)
      refine i1 (iRd (p := pvRow row) rfl (vSort_dk (by omega) fun rs rp rsS => ?_))
      have rlen : rs.length ≤ 30 := by rw [rp.length_eq, List.length_map]; omega
      show (_ ∧ wCmL _ _ _ _ _ (rs.map PV.str) (PV.dk (pvM kS PV.int [])) k : Prop)
      refine ⟨by rw [List.length_map]; unfold bigN; omega, ?_⟩
      refine cm_row (r := row) rs (rp.nodup_iff.mpr (M.wk _ hmem)) (fun x hx => rp.mem_iff.mp hx) (by omega) (show (4 : Nat) < 5 by decide) (fun x R' hR' => iRd (p := pvRow row) rfl hR') ?_
      refine iVar (p := .str b) rfl (dPut_dk (f := pvRow) (v := rowOf row rs) rfl (by unfold bigN; omega) ?_)
      have nb : b ∉ ws'.map (·.1) := by rw [e2]; exact nd_snoc nnd e1
      rw [put_new nb]
      refine ih (pre ++ [b]) (ws' ++ [(b, rowOf row rs)]) _ _ _ (by rw [e1]; simp) (by rw [List.map_append, e2]; rfl) fun c r' hc => ?_
      rcases List.mem_append.mp hc with z | z
      · exact e3 c r' z
      · cases List.mem_singleton.mp z
        exact ⟨row, rs, hmem, rp, rsS, rfl⟩
  exact loop ns [] [] _ _ _ rfl rfl fun b r' h => by cases h
end PH
set_option linter.all false
set_option autoImplicit false
set_option maxRecDepth 100000
/-! Q13: gains. -/
namespace PH
open PySem
open PySem.Spec
open L2
open TL
def w_surplus_of : WS :=
  (wSeq (wAsgT (wVar 0) (gT (gsC (gN 1) (gsC (gN 2) gsN))))
  (wRet (wDc2 (wIItems (wVar 1)) [3, 4, 5, 6] (gT (gsC (gN 3) (gsC (gN 4) gsN))) wYes (wIItems (wVar 4)) [5, 6] (gT (gsC (gN 5) (gsC (gN 6) gsN))) wYes (wTup (wCons (wVar 3) (wCons (wVar 5) wNil))) (w2 (wRd 6) (w2 (wRd 2) (wRd 5) vIdx) vSub) (u0P (.dT [])))))

def gRow (fl : List (Str × Int)) (b : Str) (r : List (Str × Int)) : List ((Str × Str) × Int) := r.map fun w => ((b, w.1), w.2 - val fl w.1)
def gnOf (ws : List (Str × List (Str × Int))) (fl : List (Str × Int)) : List ((Str × Str) × Int) := ws.flatMap fun e => gRow fl e.1 e.2
def t_surplus_of : TSp := fun ps k R => ∃ ws fl, ps = [pvMk ws fl] ∧ OkM ws fl ∧ R (.dt (pvM kSS PV.int (gnOf ws fl))) k
theorem put_newT {l : List ((Str × Str) × Int)} {b : Str × Str} {v : Int} (h : b ∉ l.map (·.1)) : put l b v = l ++ [(b, v)] := by
  unfold put
  rw [if_neg (fun z => h ((any_iff l b).mp z))]
theorem dPut_dt {l : List ((Str × Str) × Int)} {b c : Str} {v : Int} {q : PV} {R : PV → Prop} (e : q = .int v) (hl : l.length < bigN) (h : R (.dt (pvM kSS PV.int (put l (b, c) v)))) : dPut (.dt (pvM kSS PV.int l)) (.tup [.str b, .str c]) q R := by
  subst e
  refine ⟨kSS (b, c), rfl, by simpa [pvM] using hl, ?_⟩
  have e1 : putP (pvM kSS PV.int l) (kSS (b, c)) (.int v) = pvM kSS PV.int (put l (b, c) v) := put_pvM kSS_inj PV.int l (b, c) v
  rw [e1]; exact h
theorem gRow_len (fl : List (Str × Int)) (b : Str) (r : List (Str × Int)) : (gRow fl b r).length = r.length := by unfold gRow; rw [List.length_map]
theorem gn_keys {ws : List (Str × List (Str × Int))} {fl : List (Str × Int)} {b h : Str} (z : (b, h) ∈ (gnOf ws fl).map (·.1)) : ∃ e ∈ ws, e.1 = b ∧ h ∈ e.2.map (·.1) := by
  obtain ⟨q, hq, e⟩ := List.mem_map.mp z
  obtain ⟨a, ha, h1⟩ := List.mem_flatMap.mp hq
  obtain ⟨w, hw, rfl⟩ := List.mem_map.mp h1
  cases e
  exact ⟨a, ha, rfl, List.mem_map.mpr ⟨w, hw, rfl⟩⟩
theorem gn_len {fl : List (Str × Int)} : ∀ {ws : List (Str × List (Str × Int))}, (∀ e ∈ ws, e.2.length ≤ 30) → (gnOf ws fl).length ≤ 30 * ws.length
  | [], _ => Nat.le_refl _
  | e :: ws, h => by
    have ih := gn_len (fl := fl) (ws := ws) fun a ha => h a (List.mem_cons_of_mem _ ha)
    have h1 := h e (List.mem_cons_self ..)
    show (gRow fl e.1 e.2 ++ gnOf ws fl).length ≤ _
    rw [List.length_append, gRow_len, List.length_cons]
    omega
theorem gn_snoc (pre : List (Str × List (Str × Int))) (e : Str × List (Str × Int)) (fl : List (Str × Int)) : gnOf (pre ++ [e]) fl = gnOf pre fl ++ gRow fl e.1 e.2 := by
  unfold gnOf
  rw [List.flatMap_append]
  simp
theorem l_surplus_of (ps : List PV) (k : Nat) (R : PK) (hl : ps.length = 1) (h : t_surplus_of ps k R) : w_surplus_of { nx := fun _ k => R .non k, rt := R } (startS 7 ps) k := by
  obtain ⟨ws, fl, rfl, M, hR⟩ := h
  show w_surplus_of _ [.fz (pvMk ws fl), .un, .un, .un, .un, .un, .un] k
  unfold w_surplus_of
  have lw := M.lw
  have lf := M.lf
  have rl : ∀ e ∈ ws, e.2.length ≤ 30 := fun e he => by
    have := len_sub (M.wk e he) (M.wf e he); omega
  refine iSeq (iVar (p := pvMk ws fl) rfl ⟨(show (1 : Nat) < 7 by decide), (show (2 : Nat) < 7 by decide), rfl, ?_⟩)
  dsimp only
  refine iRet ?_
  have e1 : (pvM kS pvRow ws).map (fun kp => PV.tup [pk kp.1, kp.2]) = ws.map fun e => PV.tup [.str e.1, pvRow e.2] := by unfold pvM; rw [List.map_map]; rfl
  show wC2L _ _ _ _ _ _ _ _ _ ((pvM kS pvRow ws).map (fun kp => PV.tup [pk kp.1, kp.2])) (PV.dt (pvM kSS PV.int (gnOf [] fl))) k
  rw [e1]
  have loop : ∀ (r pre : List (Str × List (Str × Int))), ws = pre ++ r → wC2L (gT (gsC (gN 3) (gsC (gN 4) gsN))) wYes (wIItems (wVar 4)) [5, 6] (gT (gsC (gN 5) (gsC (gN 6) gsN))) wYes (addD (wTup (wCons (wVar 3) (wCons (wVar 5) wNil))) (w2 (wRd 6) (w2 (wRd 2) (wRd 5) vIdx) vSub))
      (unS [.fz (pvMk ws fl), .fz (.dk (pvM kS pvRow ws)), .fz (pvRow fl), .un, .un, .un, .un] [3, 4, 5, 6]) (fun acc k => R acc k) (r.map fun e => PV.tup [.str e.1, pvRow e.2]) (PV.dt (pvM kSS PV.int (gnOf pre fl))) k := by
    intro r
    induction r with
    | nil =>
      intro pre e2
      rw [List.append_nil] at e2
      subst e2
      exact hR
    | cons e r ih =>
      intro pre e2
      have he : e ∈ ws := by rw [e2]; exact List.mem_append_right _ (List.mem_cons_self ..)
      have hpre : ∀ a ∈ pre, a ∈ ws := fun a ha => by rw [e2]; exact List.mem_append_left _ ha
      have hpl : pre.length < ws.length := by rw [e2]; simp
      have nb : e.1 ∉ pre.map (·.1) := by
        have nd := M.bk
        rw [e2, List.map_append, List.nodup_append] at nd
        intro z
        exact nd.2.2 e.1 z e.1 (by simp) rfl
      have gl := gn_len (fl := fl) fun a ha => rl a (hpre a ha)
      have re := rl e he
      refine ⟨(show (3 : Nat) < 7 by decide), (show (4 : Nat) < 7 by decide), rfl, iYes (iteT ?_)⟩
      have e3 : (pvM kS PV.int e.2).map (fun kp => PV.tup [pk kp.1, kp.2]) = e.2.map fun w => PV.tup [.str w.1, .int w.2] := by unfold pvM; rw [List.map_map]; rfl
      show wCmL _ _ _ [.fz (pvMk ws fl), .fz (.dk (pvM kS pvRow ws)), .fz (pvRow fl), .fz (.str e.1), .fz (pvRow e.2), .un, .un] _ ((pvM kS PV.int e.2).map (fun kp => PV.tup [pk kp.1, kp.2])) _ k
      rw [e3]
      refine cmL_map e.2 (fun w => PV.tup [.str w.1, .int w.2]) (fun p2 acc => acc = .dt (pvM kSS PV.int (gnOf pre fl ++ gRow fl e.1 p2))) ?_ ?_ e.2 [] _ rfl (by unfold gRow; rw [List.map_nil, List.append_nil])
      · rintro p2 w r2 acc R' h2 rfl hR'
        have hw : w ∈ e.2 := by rw [h2]; exact List.mem_append_right _ (List.mem_cons_self ..)
        have p2l : p2.length < e.2.length := by rw [h2]; simp
        have lkx : lk fl w.1 = some (val fl w.1) := by
          unfold val
          cases q : lk fl w.1 with
          | none => exact absurd (M.wf e he w hw) ((lk_none_iff fl w.1).mp q)
          | some v => rfl
        refine ⟨(show (5 : Nat) < 7 by decide), (show (6 : Nat) < 7 by decide), rfl, iYes (iteT (iAddD ?_))⟩
        show wTup _ [.fz (pvMk ws fl), .fz (.dk (pvM kS pvRow ws)), .fz (pvRow fl), .fz (.str e.1), .fz (pvRow e.2), .fz (.str w.1), .fz (.int w.2)] k _
        refine iTup (iCons (iVar (p := .str e.1) rfl (iCons (iVar (p := .str w.1) rfl (iNil ⟨(show (2 : Nat) ≤ 1000 by decide), ?_⟩)))))
        refine i2 (iRd (p := .int w.2) rfl (i2 (iRd (p := pvRow fl) rfl (iRd (p := .str w.1) rfl (vIdx_dk lkx (vSub_i ?_))))))
        have hbig : (gnOf pre fl ++ gRow fl e.1 p2).length < bigN := by
          rw [List.length_append, gRow_len]
          have : (1000000 : Nat) = bigN := rfl
          omega
        refine dPut_dt (v := w.2 - val fl w.1) rfl hbig (hR' _ ?_)
        rw [put_newT]
        · rw [List.append_assoc]
          unfold gRow
          rw [List.map_append]; rfl
        · rw [List.map_append, List.mem_append]
          rintro (z | z)
          · obtain ⟨a, ha, ha1, _⟩ := gn_keys z
            exact nb (List.mem_map.mpr ⟨a, ha, ha1⟩)
          · obtain ⟨q, hq, hq1⟩ := List.mem_map.mp z
            obtain ⟨w2, hw2, rfl⟩ := List.mem_map.mp hq
            have h3 : w2.1 = w.1 := congrArg Prod.snd hq1
            have nd := M.wk e he
            rw [h2, List.map_append, List.nodup_append] at nd
            exact nd.2.2 w2.1 (List.mem_map.mpr ⟨w2, hw2, rfl⟩) w.1 (by simp) h3
      · rintro acc rfl
        have := ih (pre ++ [e]) (by rw [e2]; simp)
        rw [gn_snoc] at this
        exact this
  exact loop ws [] rfl
end PH
set_option linter.all false
set_option autoImplicit false
set_option maxRecDepth 100000
/-! Q14: best_of. -/
namespace PH
open PySem
open PySem.Spec
open L2
open TL
def w_best_of (t_surplus_of t_best_by : TSp) : WS :=
  (wRet (wCall 3 t_best_by (wCons (w1 (w2 (wRd 0) (wC (.int 0)) vIdx) vList) (wCons (w1 (w2 (wRd 0) (wC (.int 1)) vIdx) vList) (wCons (wCall 1 t_surplus_of (wCons (wVar 0) wNil)) wNil)))))

theorem gn_nodup {fl : List (Str × Int)} : ∀ {ws : List (Str × List (Str × Int))}, (ws.map (·.1)).Nodup → (∀ e ∈ ws, (e.2.map (·.1)).Nodup) → ((gnOf ws fl).map (·.1)).Nodup
  | [], _, _ => by simp [gnOf]
  | e :: ws, nd, hr => by
    rw [List.map_cons, List.nodup_cons] at nd
    have ih := gn_nodup (fl := fl) nd.2 fun a ha => hr a (List.mem_cons_of_mem _ ha)
    show ((gRow fl e.1 e.2 ++ gnOf ws fl).map (·.1)).Nodup
    rw [List.map_append, List.nodup_append]
    refine ⟨?_, ih, fun a ha b hb z => ?_⟩
    · have h1 : (gRow fl e.1 e.2).map (·.1) = (e.2.map (·.1)).map fun h => (e.1, h) := by
        unfold gRow; rw [List.map_map, List.map_map]; rfl
      rw [h1]
      have := hr e (List.mem_cons_self ..)
      rw [List.nodup_iff_pairwise_ne] at *
      exact List.Pairwise.map (fun h => (e.1, h)) (fun a b hab z => hab (congrArg Prod.snd z)) this
    · subst z
      obtain ⟨q, hq, rfl⟩ := List.mem_map.mp ha
      obtain ⟨w, hw, rfl⟩ := List.mem_map.mp hq
      obtain ⟨c, hc, h1, _⟩ := gn_keys hb
      exact nd.1 (List.mem_map.mpr ⟨c, hc, h1⟩)
theorem name_strOk {x : Str} (h : nameOk x = true) : PyData.strOk x = true := by
  unfold nameOk at h
  simp only [Bool.and_eq_true] at h
  have hall := h.2
  unfold PyData.strOk
  rw [Array.all_eq_true_iff_forall_mem]
  intro c hc
  have hc' : c ∈ x.cps.toList := by simpa using hc
  have := List.all_eq_true.mp hall (.str ⟨#[c]⟩) (List.mem_map.mpr ⟨c, hc', rfl⟩)
  have h1 : strIn ⟨#[c]⟩ ("abcdefghijklmnopqrstuvwxyz" ++ "0123456789") = true := this
  have h2 : decide (c ∈ (("abcdefghijklmnopqrstuvwxyz" : Str) ++ ("0123456789" : Str)).cps.toList) = true := h1
  have h3 := of_decide_eq_true h2
  have h4 : ∀ c ∈ (("abcdefghijklmnopqrstuvwxyz" : Str) ++ ("0123456789" : Str)).cps.toList, decide (c < 0x110000) = true := by decide +kernel
  exact h4 c h3
theorem by_of {ws : List (Str × List (Str × Int))} {fl : List (Str × Int)} (M : OkM ws fl) : BY (gnOf ws fl) (ws.map (·.1)) (fl.map (·.1)) := by
  refine ⟨M.bk, fun b h x e => ?_, gn_nodup M.bk M.wk, by rw [List.length_map]; have := M.lw; omega, by rw [List.length_map]; have := M.lf; omega, fun h hh => name_strOk (nameF M hh)⟩
  obtain ⟨a, ha, h1, h2⟩ := gn_keys (List.mem_map.mpr ⟨_, lk_mem e, rfl⟩)
  refine ⟨List.mem_map.mpr ⟨a, ha, h1⟩, ?_⟩
  obtain ⟨w, hw, rfl⟩ := List.mem_map.mp h2
  exact M.wf a ha w hw
/-- best_of's promise -/
def t_best_of : TSp := fun ps k R => ∃ ws fl, ps = [pvMk ws fl] ∧ OkM ws fl ∧ ∀ hd, hd.map (·.1) = ws.map (·.1) → (∃ u p, Asg.Cert (gF (gnOf ws fl)) (ws.map (·.1)) (hF hd) 0 u p) → R (.dk (pvM kS pvO hd)) k
theorem pk_keys {α : Type} (f : α → PV) (l : List (Str × α)) : (pvM kS f l).map (fun e => pk e.1) = (l.map (·.1)).map PV.str := by
  unfold pvM; rw [List.map_map, List.map_map]; rfl
theorem vList_dk {α : Type} {f : α → PV} {l : List (Str × α)} {R : PV → Prop} (h : R (.lst ((l.map (·.1)).map .str))) : vList (.dk (pvM kS f l)) R := by
  show R (.lst ((pvM kS f l).map fun e => pk e.1))
  rw [pk_keys]; exact h
theorem l_best_of (ps : List PV) (k : Nat) (R : PK) (hl : ps.length = 1) (h : t_best_of ps k R) : w_best_of t_surplus_of t_best_by { nx := fun _ k => R .non k, rt := R } (startS 1 ps) k := by
  obtain ⟨ws, fl, rfl, M, hR⟩ := h
  show w_best_of _ _ _ [.fz (pvMk ws fl)] k
  unfold w_best_of
  refine iRet ?_
  refine iCons (i1 (i2 (iRd (p := pvMk ws fl) rfl (iC ⟨.dk (pvM kS pvRow ws), rfl, vList_dk ?_⟩))))
  refine iCons (i1 (i2 (iRd (p := pvMk ws fl) rfl (iC ⟨pvRow fl, rfl, vList_dk ?_⟩))))
  refine iCons ⟨rfl, ws, fl, rfl, M, ?_⟩
  exact iNil ⟨rfl, gnOf ws fl, ws.map (·.1), fl.map (·.1), rfl, by_of M, hR⟩
end PH
set_option linter.all false
set_option autoImplicit false
set_option maxRecDepth 100000
/-! Q15: sum_of, greatest_of, greatest_sum. -/
namespace PH
open PySem
open PySem.Spec
open L2
open TL
def w_sum_of : WS :=
  (wRet (w1 (wLc (wIItems (wVar 1)) [2, 3] (gT (gsC (gN 2) (gsC (gN 3) gsN))) (wCmp (wRd 3) (wC .non) vIsNot) (w2 (w2 (w2 (w2 (wRd 0) (wC (.int 0)) vIdx) (wRd 2) vIdx) (wRd 3) vIdx) (w2 (w2 (wRd 0) (wC (.int 1)) vIdx) (wRd 3) vIdx) vSub)) vSum))

def w_greatest_of (t_best_of t_sum_of : TSp) : WS :=
  (wRet (wCall 2 t_sum_of (wCons (wVar 0) (wCons (wCall 1 t_best_of (wCons (wVar 0) wNil)) wNil))))

def w_greatest_sum (t_checked_market t_greatest_of : TSp) : WS :=
  (wRet (wCall 1 t_greatest_of (wCons (wCall 1 t_checked_market (wCons (wVar 0) wNil)) wNil)))

def wv (ws : List (Str × List (Str × Int))) (fl : List (Str × Int)) (b h : Str) : Int := val ((lk ws b).getD []) h - val fl h
def sumL (ws : List (Str × List (Str × Int))) (fl : List (Str × Int)) (hd : List (Str × Option Str)) : List Int := hd.filterMap fun e => e.2.map fun h => wv ws fl e.1 h
def Wanted (ws : List (Str × List (Str × Int))) (fl : List (Str × Int)) (hd : List (Str × Option Str)) : Prop := ∀ b h, (b, some h) ∈ hd → ∃ r w f, lk ws b = some r ∧ lk r h = some w ∧ lk fl h = some f
def t_sum_of : TSp := fun ps k R => ∃ ws fl hd, ps = [pvMk ws fl, .dk (pvM kS pvO hd)] ∧ hd.length ≤ 1000 ∧ Wanted ws fl hd ∧ R (.int (sumL ws fl hd).sum) k
theorem l_sum_of (ps : List PV) (k : Nat) (R : PK) (hl : ps.length = 2) (h : t_sum_of ps k R) : w_sum_of { nx := fun _ k => R .non k, rt := R } (startS 4 ps) k := by
  obtain ⟨ws, fl, hd, rfl, hlen, hw, hR⟩ := h
  show w_sum_of _ [.fz (pvMk ws fl), .fz (.dk (pvM kS pvO hd)), .un, .un] k
  unfold w_sum_of
  refine iRet (i1 ?_)
  have e1 : (pvM kS pvO hd).map (fun kp => PV.tup [pk kp.1, kp.2]) = hd.map fun e => PV.tup [.str e.1, pvO e.2] := by unfold pvM; rw [List.map_map]; rfl
  show (_ ∧ wCmL _ _ _ _ _ ((pvM kS pvO hd).map (fun kp => PV.tup [pk kp.1, kp.2])) [] k : Prop)
  rw [e1]
  refine ⟨by rw [List.length_map]; unfold bigN; omega, ?_⟩
  refine cmL_map hd (fun e => PV.tup [.str e.1, pvO e.2]) (fun pre acc => acc = (sumL ws fl pre).map PV.int) ?_ (fun acc e => by rw [e]; exact ⟨_, rfl, hR⟩) hd [] _ rfl rfl
  rintro pre ⟨b, o⟩ r' acc R' hall rfl hR'
  refine ⟨(show (2 : Nat) < 4 by decide), (show (3 : Nat) < 4 by decide), rfl, ?_⟩
  cases o with
  | none =>
    refine iCmp (iRd (p := .non) rfl (iC (vIsNot_non (iteF (hR' _ ?_)))))
    unfold sumL; rw [List.filterMap_append]; simp
  | some h =>
    obtain ⟨r, w, f, h1, h2, h3⟩ := hw b h (by rw [hall]; exact List.mem_append_right _ (List.mem_cons_self ..))
    refine iCmp (iRd (p := .str h) rfl (iC (vIsNot_str (iteT ?_))))
    show w2 _ _ _ [.fz (pvMk ws fl), .fz (.dk (pvM kS pvO hd)), .fz (.str b), .fz (.str h)] k _
    refine i2 (i2 (i2 (i2 (iRd (p := pvMk ws fl) rfl (iC ⟨.dk (pvM kS pvRow ws), rfl, iRd (p := .str b) rfl (vIdx_dk h1 (iRd (p := .str h) rfl (vIdx_dk (f := PV.int) h2 ?_)))⟩)))))
    refine i2 (i2 (iRd (p := pvMk ws fl) rfl (iC ⟨pvRow fl, rfl, iRd (p := .str h) rfl (vIdx_dk (f := PV.int) h3 (vSub_i (hR' _ ?_)))⟩)))
    have e : wv ws fl b h = w - f := by unfold wv val; rw [h1, Option.getD_some, h2, h3]; rfl
    unfold sumL
    rw [List.filterMap_append, List.map_append]
    simp [e]
/-- greatest_of's promise -/
def t_greatest_of : TSp := fun ps k R => ∃ ws fl, ps = [pvMk ws fl] ∧ OkM ws fl ∧ ∀ hd, hd.map (·.1) = ws.map (·.1) → (∃ u p, Asg.Cert (gF (gnOf ws fl)) (ws.map (·.1)) (hF hd) 0 u p) → R (.int (sumL ws fl hd).sum) k
theorem isSome_lk {α : Type} {l : List (Str × α)} {x : Str} (h : x ∈ l.map (·.1)) : ∃ v, lk l x = some v := by
  cases q : lk l x with
  | none => exact absurd h ((lk_none_iff l x).mp q)
  | some v => exact ⟨v, rfl⟩
theorem wanted_of {ws : List (Str × List (Str × Int))} {fl : List (Str × Int)} (M : OkM ws fl) {hd : List (Str × Option Str)} (hk : hd.map (·.1) = ws.map (·.1)) {u p : Str → Int} {t : Int} (c : Asg.Cert (gF (gnOf ws fl)) (ws.map (·.1)) (hF hd) t u p) : Wanted ws fl hd := by
  intro b h hm
  have e := lk_of (l := hd) (by rw [hk]; exact M.bk) hm
  have hb : b ∈ ws.map (·.1) := by rw [← hk]; exact List.mem_map.mpr ⟨_, hm, rfl⟩
  have hh : hF hd b = some h := by unfold hF; rw [e]; rfl
  have g := c.eq b hb h hh
  obtain ⟨a, ha, h1, h2⟩ := gn_keys (List.mem_map.mpr ⟨_, lk_mem g, rfl⟩)
  obtain ⟨w, hw⟩ := isSome_lk h2
  obtain ⟨q, hq, hq1⟩ := List.mem_map.mp h2
  obtain ⟨f, hf⟩ := isSome_lk (M.wf a ha q hq)
  rw [hq1] at hf
  refine ⟨a.2, w, f, ?_, hw, hf⟩
  rw [← h1]
  exact lk_of M.bk ha
theorem l_greatest_of (ps : List PV) (k : Nat) (R : PK) (hl : ps.length = 1) (h : t_greatest_of ps k R) : w_greatest_of t_best_of t_sum_of { nx := fun _ k => R .non k, rt := R } (startS 1 ps) k := by
  obtain ⟨ws, fl, rfl, M, hR⟩ := h
  show w_greatest_of _ _ _ [.fz (pvMk ws fl)] k
  unfold w_greatest_of
  refine iRet (iCons (iVar (p := pvMk ws fl) rfl (iCons ⟨rfl, ws, fl, rfl, M, fun hd hk hc => ?_⟩)))
  obtain ⟨u, p, c⟩ := hc
  refine iNil ⟨rfl, ws, fl, hd, rfl, ?_, wanted_of M hk c, hR hd hk ⟨u, p, c⟩⟩
  have := congrArg List.length hk
  rw [List.length_map, List.length_map] at this
  have := M.lw
  omega
end PH
set_option linter.all false
set_option autoImplicit false
set_option maxRecDepth 100000
/-! Q16: a market in the order of names. -/
namespace PH
open PySem
open PySem.Spec
open L2
open TL
open PyProof.Rows (sortedS)
theorem row_keys (r : List (Str × Int)) (ns : List Str) : (rowOf r ns).map (·.1) = ns := map_fst ns _
theorem row_mem {r : List (Str × Int)} {ns : List Str} (p : ns.Perm (r.map (·.1))) {e : Str × Int} (h : e ∈ rowOf r ns) : e ∈ r := by
  obtain ⟨x, hx, rfl⟩ := List.mem_map.mp h
  obtain ⟨v, hv⟩ := isSome_lk (p.mem_iff.mp hx)
  have := lk_mem hv
  have e : val r x = v := by unfold val; rw [hv]; rfl
  rw [e]; exact this
theorem row_lk {r : List (Str × Int)} {ns : List Str} (p : ns.Perm (r.map (·.1))) (x : Str) : lk (rowOf r ns) x = lk r x := by
  by_cases h : x ∈ ns
  · unfold rowOf
    rw [lk_mapF x h]
    obtain ⟨v, hv⟩ := isSome_lk (p.mem_iff.mp h)
    unfold val; rw [hv]; rfl
  · rw [(lk_none_iff _ x).mpr (by rw [row_keys]; exact h), (lk_none_iff _ x).mpr (fun z => h (p.mem_iff.mpr z))]
section
variable {ws ws' : List (Str × List (Str × Int))} {fl fl' : List (Str × Int)}
theorem Srt.ok (S : Srt ws fl ws' fl') (M : OkM ws fl) : OkM ws' fl' := by
  obtain ⟨fs, fp, fS, rfl⟩ := S.fl
  have fmem : ∀ e ∈ rowOf fl fs, e ∈ fl := fun e he => row_mem fp he
  refine ⟨S.pb.nodup_iff.mpr M.bk, by rw [row_keys]; exact fp.nodup_iff.mpr M.fk, ?_, ?_, fun e he => M.fn e (fmem e he), ?_, ?_, fun e he => M.f0 e (fmem e he), ?_, ?_⟩
  · rintro ⟨b, r'⟩ he
    obtain ⟨r, ns, h1, h2, h3, rfl⟩ := S.row b r' he
    show ((rowOf r ns).map (·.1)).Nodup
    rw [row_keys]; exact h2.nodup_iff.mpr (M.wk _ h1)
  · rintro ⟨b, r'⟩ he
    obtain ⟨r, ns, h1, h2, h3, rfl⟩ := S.row b r' he
    exact M.bn (b, r) h1
  · rintro ⟨b, r'⟩ he w hw
    obtain ⟨r, ns, h1, h2, h3, rfl⟩ := S.row b r' he
    rw [row_keys]
    exact fp.mem_iff.mpr (M.wf _ h1 w (row_mem h2 hw))
  · rintro ⟨b, r'⟩ he w hw
    obtain ⟨r, ns, h1, h2, h3, rfl⟩ := S.row b r' he
    exact M.w0 _ h1 w (row_mem h2 hw)
  · have := S.pb.length_eq
    rw [List.length_map, List.length_map] at this
    have := M.lw
    omega
  · unfold rowOf
    rw [List.length_map, fp.length_eq, List.length_map]; exact M.lf
theorem Srt.lkf (S : Srt ws fl ws' fl') (x : Str) : lk fl' x = lk fl x := by
  obtain ⟨fs, fp, fS, rfl⟩ := S.fl
  exact row_lk fp x
/-- each buyer's row, looked up -/
theorem Srt.lkr (S : Srt ws fl ws' fl') (M : OkM ws fl) (b h : Str) : (lk ws' b).bind (fun r => lk r h) = (lk ws b).bind (fun r => lk r h) := by
  have M' := S.ok M
  cases e : lk ws' b with
  | none =>
    have : b ∉ ws.map (·.1) := fun z => (lk_none_iff ws' b).mp e (S.pb.mem_iff.mpr z)
    rw [(lk_none_iff ws b).mpr this]
  | some r' =>
    obtain ⟨r, ns, h1, h2, h3, rfl⟩ := S.row b r' (lk_mem e)
    rw [lk_of M.bk h1]
    exact row_lk h2 h
end
/-- greatest_sum's promise -/
def t_greatest_sum : TSp := fun ps k R => ∃ ws fl, ps = [pvMk ws fl] ∧ OkM ws fl ∧ ws ≠ [] ∧ ∀ ws' fl' hd, Srt ws fl ws' fl' → hd.map (·.1) = ws'.map (·.1) → (∃ u p, Asg.Cert (gF (gnOf ws' fl')) (ws'.map (·.1)) (hF hd) 0 u p) → R (.int (sumL ws' fl' hd).sum) k
theorem l_greatest_sum (ps : List PV) (k : Nat) (R : PK) (hl : ps.length = 1) (h : t_greatest_sum ps k R) : w_greatest_sum t_checked_market t_greatest_of { nx := fun _ k => R .non k, rt := R } (startS 1 ps) k := by
  obtain ⟨ws, fl, rfl, M, hne, hR⟩ := h
  show w_greatest_sum _ _ _ [.fz (pvMk ws fl)] k
  unfold w_greatest_sum
  refine iRet (iCons ⟨rfl, ws, fl, rfl, M, hne, fun ws' fl' hS => ?_⟩)
  exact iNil ⟨rfl, ws', fl', rfl, hS.ok M, fun hd hk hc => hR ws' fl' hd hS hk hc⟩
end PH
set_option linter.all false
set_option autoImplicit false
set_option maxRecDepth 100000
/-! Q17: markets without a buyer, without a house. -/
namespace PH
open PySem
open PySem.Spec
open L2
open TL
def w_without_buyer : WS :=
  (wRet (wTup (wCons (wDc (wIItems (w2 (wRd 0) (wC (.int 0)) vIdx)) [2, 3] (gT (gsC (gN 2) (gsC (gN 3) gsN))) (wCmp (wRd 2) (wRd 1) vNe) (wVar 2) (wVar 3) (u0P (.dK []))) (wCons (w2 (wRd 0) (wC (.int 1)) vIdx) wNil))))

def w_without_house : WS :=
  (wSeq (wAsgF 2 (wDc (wIItems (w2 (wRd 0) (wC (.int 0)) vIdx)) [3, 4] (gT (gsC (gN 3) (gsC (gN 4) gsN))) wYes (wVar 3) (wDc (wIItems (wVar 4)) [5, 6] (gT (gsC (gN 5) (gsC (gN 6) gsN))) (wCmp (wRd 5) (wRd 1) vNe) (wVar 5) (wVar 6) (u0P (.dK []))) (u0P (.dK []))))
  (wFrz 2 (wRet (wTup (wCons (wVar 2) (wCons (wDc (wIItems (w2 (wRd 0) (wC (.int 1)) vIdx)) [5, 7] (gT (gsC (gN 5) (gsC (gN 7) gsN))) (wCmp (wRd 5) (wRd 1) vNe) (wVar 5) (wVar 7) (u0P (.dK []))) wNil))))))

theorem filter_nodup {α : Type} {l : List (Str × α)} {p : Str × α → Bool} (h : (l.map (·.1)).Nodup) : ((l.filter p).map (·.1)).Nodup := List.Nodup.sublist (List.Sublist.map _ List.filter_sublist) h
theorem vNe_s {x y : Str} {R : Bool → Prop} (h : R (!decide (x = y))) : vNe (.str x) (.str y) R := h
def notKey {α : Type} (x : Str) (e : Str × α) : Bool := !decide (e.1 = x)
/-- {k: v for k, v in l.items() if k != x} -/
theorem cm_drop {α : Type} {S0 : List Slot} {k i j : Nat} {Rf : PV → Nat → Prop} {x : Str} (f : α → PV) (l : List (Str × α)) (nd : (l.map (·.1)).Nodup) (hl : l.length ≤ 1000) (hi : i < S0.length) (hj : j < S0.length) (h1 : i ≠ 1) (h2 : j ≠ 1) (hij : i ≠ j) (hx : S0[1]? = some (.fz (.str x)))
    (h : Rf (.dk (pvM kS f (l.filter (notKey x)))) k) : wCmL (gT (gsC (gN i) (gsC (gN j) gsN))) (wCmp (wRd i) (wRd 1) vNe) (addD (wVar i) (wVar j)) S0 Rf (l.map fun e => PV.tup [.str e.1, f e.2]) (.dk (pvM kS f [])) k := by
  refine cmL_map l (fun e => PV.tup [.str e.1, f e.2]) (fun pre acc => acc = .dk (pvM kS f (pre.filter (notKey x)))) ?_ (fun acc e => by rw [e]; exact h) l [] _ rfl rfl
  rintro pre ⟨b, v⟩ r' acc R hall rfl hR
  have hpl : pre.length < l.length := by rw [hall]; simp
  have gi : ((S0.set i (.fz (.str b))).set j (.fz (f v)))[i]? = some (.fz (.str b)) := by
    rw [List.getElem?_set_ne (Ne.symm hij), List.getElem?_set_self hi]
  have gj : ((S0.set i (.fz (.str b))).set j (.fz (f v)))[j]? = some (.fz (f v)) := List.getElem?_set_self (by rw [List.length_set]; exact hj)
  have g1 : ((S0.set i (.fz (.str b))).set j (.fz (f v)))[1]? = some (.fz (.str x)) := by
    rw [List.getElem?_set_ne h2, List.getElem?_set_ne h1]; exact hx
  refine ⟨hi, by rw [List.length_set]; exact hj, rfl, iCmp (iRd gi (iRd g1 (vNe_s ?_)))⟩
  have hr := hR (.dk (pvM kS f ((pre ++ [(b, v)]).filter (notKey x)))) rfl
  rw [List.filter_append] at hr
  by_cases z : b = x
  · rw [decide_eq_true z]
    refine iteF ?_
    have e : [(b, v)].filter (notKey x) = [] := by rw [List.filter_cons_of_neg (by unfold notKey; rw [decide_eq_true z]; decide)]; rfl
    rw [e, List.append_nil] at hr
    exact hr
  · rw [decide_eq_false z]
    refine iteT (iAddD (iVar gi (iVar gj ?_)))
    have e : [(b, v)].filter (notKey x) = [(b, v)] := by rw [List.filter_cons_of_pos (by unfold notKey; rw [decide_eq_false z]; decide)]; rfl
    rw [e] at hr
    have lf : (pre.filter (notKey x)).length ≤ pre.length := List.length_filter_le ..
    refine dPut_dk (f := f) (v := v) rfl (by unfold bigN; omega) ?_
    rw [put_new]
    · exact hr
    · intro hm
      have nd' := nd
      rw [hall, List.map_append, List.nodup_append] at nd'
      obtain ⟨e, he, he1⟩ := List.mem_map.mp hm
      exact nd'.2.2 e.1 (List.mem_map.mpr ⟨e, (List.mem_filter.mp he).1, rfl⟩) b (by simp) he1
def noB (ws : List (Str × List (Str × Int))) (b : Str) : List (Str × List (Str × Int)) := ws.filter (notKey b)
def t_without_buyer : TSp := fun ps k R => ∃ ws fl b, ps = [pvMk ws fl, .str b] ∧ OkM ws fl ∧ R (pvMk (noB ws b) fl) k
theorem l_without_buyer (ps : List PV) (k : Nat) (R : PK) (hl : ps.length = 2) (h : t_without_buyer ps k R) : w_without_buyer { nx := fun _ k => R .non k, rt := R } (startS 4 ps) k := by
  obtain ⟨ws, fl, b, rfl, M, hR⟩ := h
  show w_without_buyer _ [.fz (pvMk ws fl), .fz (.str b), .un, .un] k
  unfold w_without_buyer
  have lw := M.lw
  refine iRet (iTup (iCons ?_))
  have e1 : (pvM kS pvRow ws).map (fun kp => PV.tup [pk kp.1, kp.2]) = ws.map fun e => PV.tup [.str e.1, pvRow e.2] := by unfold pvM; rw [List.map_map]; rfl
  refine i2 (iRd (p := pvMk ws fl) rfl (iC ⟨.dk (pvM kS pvRow ws), rfl, ?_⟩))
  show (_ ∧ wCmL _ _ _ _ _ ((pvM kS pvRow ws).map (fun kp => PV.tup [pk kp.1, kp.2])) (PV.dk (pvM kS pvRow [])) k : Prop)
  rw [e1]
  refine ⟨by rw [List.length_map]; unfold bigN; omega, ?_⟩
  refine cm_drop pvRow ws M.bk (by omega) (show (2 : Nat) < 4 by decide) (show (3 : Nat) < 4 by decide) (by decide) (by decide) (by decide) rfl ?_
  exact iCons (i2 (iRd (p := pvMk ws fl) rfl (iC ⟨pvRow fl, rfl, iNil ⟨(show (2 : Nat) ≤ 1000 by decide), hR⟩⟩)))
def noH (ws : List (Str × List (Str × Int))) (h : Str) : List (Str × List (Str × Int)) := ws.map fun e => (e.1, e.2.filter (notKey h))
def t_without_house : TSp := fun ps k R => ∃ ws fl h, ps = [pvMk ws fl, .str h] ∧ OkM ws fl ∧ R (pvMk (noH ws h) (fl.filter (notKey h))) k
theorem noH_keys (ws : List (Str × List (Str × Int))) (h : Str) : (noH ws h).map (·.1) = ws.map (·.1) := by
  unfold noH; rw [List.map_map]; rfl
theorem l_without_house (ps : List PV) (k : Nat) (R : PK) (hl : ps.length = 2) (h : t_without_house ps k R) : w_without_house { nx := fun _ k => R .non k, rt := R } (startS 8 ps) k := by
  obtain ⟨ws, fl, h, rfl, M, hR⟩ := h
  show w_without_house _ [.fz (pvMk ws fl), .fz (.str h), .un, .un, .un, .un, .un, .un] k
  unfold w_without_house
  have lw := M.lw
  have lf := M.lf
  refine iSeq (iAsgF ?_)
  have e1 : (pvM kS pvRow ws).map (fun kp => PV.tup [pk kp.1, kp.2]) = ws.map fun e => PV.tup [.str e.1, pvRow e.2] := by unfold pvM; rw [List.map_map]; rfl
  refine i2 (iRd (p := pvMk ws fl) rfl (iC ⟨.dk (pvM kS pvRow ws), rfl, ?_⟩))
  show (_ ∧ wCmL _ _ _ _ _ ((pvM kS pvRow ws).map (fun kp => PV.tup [pk kp.1, kp.2])) (PV.dk (pvM kS pvRow [])) k : Prop)
  rw [e1]
  refine ⟨by rw [List.length_map]; unfold bigN; omega, ?_⟩
  refine cmL_map ws (fun e => PV.tup [.str e.1, pvRow e.2]) (fun pre acc => acc = .dk (pvM kS pvRow (noH pre h))) ?_ ?_ ws [] _ rfl rfl
  · rintro pre ⟨b, r⟩ r' acc R' hall rfl hR'
    have hm : (b, r) ∈ ws := by rw [hall]; exact List.mem_append_right _ (List.mem_cons_self ..)
    have hpl : pre.length < ws.length := by rw [hall]; simp
    have rl : r.length ≤ fl.length := len_sub (M.wk _ hm) (M.wf _ hm)
    refine ⟨(show (3 : Nat) < 8 by decide), (show (4 : Nat) < 8 by decide), rfl, iYes (iteT (iAddD ?_))⟩
    show wVar 3 [.fz (pvMk ws fl), .fz (.str h), .un, .fz (.str b), .fz (pvRow r), .un, .un, .un] k _
    refine iVar (p := .str b) rfl ?_
    have e3 : (pvM kS PV.int r).map (fun kp => PV.tup [pk kp.1, kp.2]) = r.map fun w => PV.tup [.str w.1, .int w.2] := by unfold pvM; rw [List.map_map]; rfl
    show (_ ∧ wCmL _ _ _ [.fz (pvMk ws fl), .fz (.str h), .un, .fz (.str b), .fz (pvRow r), .un, .un, .un] _ ((pvM kS PV.int r).map (fun kp => PV.tup [pk kp.1, kp.2])) (PV.dk (pvM kS PV.int [])) k : Prop)
    rw [e3]
    refine ⟨by rw [List.length_map]; unfold bigN; omega, ?_⟩
    refine cm_drop PV.int r (M.wk _ hm) (by omega) (show (5 : Nat) < 8 by decide) (show (6 : Nat) < 8 by decide) (by decide) (by decide) (by decide) rfl ?_
    refine dPut_dk (f := pvRow) (v := r.filter (notKey h)) rfl (by unfold noH; rw [List.length_map]; unfold bigN; omega) ?_
    rw [put_new (by rw [noH_keys]; have nd := M.bk; rw [hall, List.map_append, List.nodup_append] at nd; intro z; exact nd.2.2 b z b (by simp) rfl)]
    refine hR' _ ?_
    unfold noH
    rw [List.map_append]; rfl
  · rintro acc rfl
    refine ⟨(show (2 : Nat) < 8 by decide), ?_⟩
    dsimp only
    refine iFrz (iRet ?_)
    show wTup _ [.fz (pvMk ws fl), .fz (.str h), .fz (.dk (pvM kS pvRow (noH ws h))), .un, .un, .un, .un, .un] k _
    refine iTup (iCons (iVar (p := .dk (pvM kS pvRow (noH ws h))) rfl (iCons ?_)))
    refine i2 (iRd (p := pvMk ws fl) rfl (iC ⟨pvRow fl, rfl, ?_⟩))
    have e4 : (pvM kS PV.int fl).map (fun kp => PV.tup [pk kp.1, kp.2]) = fl.map fun w => PV.tup [.str w.1, .int w.2] := by unfold pvM; rw [List.map_map]; rfl
    show (_ ∧ wCmL _ _ _ _ _ ((pvM kS PV.int fl).map (fun kp => PV.tup [pk kp.1, kp.2])) (PV.dk (pvM kS PV.int [])) k : Prop)
    rw [e4]
    refine ⟨by rw [List.length_map]; unfold bigN; omega, ?_⟩
    refine cm_drop PV.int fl M.fk (by omega) (show (5 : Nat) < 8 by decide) (show (7 : Nat) < 8 by decide) (by decide) (by decide) (by decide) rfl ?_
    exact iNil ⟨(show (2 : Nat) ≤ 1000 by decide), hR⟩
end PH
set_option linter.all false
set_option autoImplicit false
set_option maxRecDepth 100000
/-! Q18: markets without one are markets; margins. -/
namespace PH
open PySem
open PySem.Spec
open L2
open TL
def w_buyer_margin (t_checked_market t_is_one_of t_greatest_of t_without_buyer : TSp) : WS :=
  (wSeq (wAsg 2 (wCall 1 t_checked_market (wCons (wVar 0) wNil)))
  (wSeq (wIf (wNot (wVal (wCall 2 t_is_one_of (wCons (w2 (wRd 2) (wC (.int 0)) vIdx) (wCons (wVar 1) wNil))))) (fun _ _ _ => False) wSkip)
  (wRet (w2 (wCall 1 t_greatest_of (wCons (wVar 2) wNil)) (wCall 1 t_greatest_of (wCons (wCall 2 t_without_buyer (wCons (wVar 2) (wCons (wVar 1) wNil))) wNil)) vSub))))

section
variable {ws : List (Str × List (Str × Int))} {fl : List (Str × Int)}
theorem OkM.noB (M : OkM ws fl) (b : Str) : OkM (noB ws b) fl := by
  have sub : ∀ e ∈ PH.noB ws b, e ∈ ws := fun e he => (List.mem_filter.mp he).1
  refine ⟨filter_nodup M.bk, M.fk, fun e he => M.wk e (sub e he), fun e he => M.bn e (sub e he), M.fn, fun e he => M.wf e (sub e he), fun e he => M.w0 e (sub e he), M.f0, ?_, M.lf⟩
  have : (PH.noB ws b).length ≤ ws.length := List.length_filter_le ..
  have := M.lw
  omega
theorem OkM.noH (M : OkM ws fl) (h : Str) : OkM (noH ws h) (fl.filter (notKey h)) := by
  have ex : ∀ e ∈ PH.noH ws h, ∃ a ∈ ws, e = (a.1, a.2.filter (notKey h)) := fun e he => by
    obtain ⟨a, ha, rfl⟩ := List.mem_map.mp he
    exact ⟨a, ha, rfl⟩
  refine ⟨by rw [noH_keys]; exact M.bk, filter_nodup M.fk, ?_, ?_, fun e he => M.fn e (List.mem_filter.mp he).1, ?_, ?_, fun e he => M.f0 e (List.mem_filter.mp he).1, ?_, ?_⟩
  · intro e he
    obtain ⟨a, ha, rfl⟩ := ex e he
    exact filter_nodup (M.wk a ha)
  · intro e he
    obtain ⟨a, ha, rfl⟩ := ex e he
    exact M.bn a ha
  · intro e he w hw
    obtain ⟨a, ha, rfl⟩ := ex e he
    obtain ⟨h1, h2⟩ := List.mem_filter.mp hw
    obtain ⟨q, hq, hq1⟩ := List.mem_map.mp (M.wf a ha w h1)
    refine List.mem_map.mpr ⟨q, List.mem_filter.mpr ⟨hq, ?_⟩, hq1⟩
    unfold notKey at h2 ⊢
    rw [hq1]; exact h2
  · intro e he w hw
    obtain ⟨a, ha, rfl⟩ := ex e he
    exact M.w0 a ha w (List.mem_filter.mp hw).1
  · unfold PH.noH; rw [List.length_map]; exact M.lw
  · have : (fl.filter (notKey h)).length ≤ fl.length := List.length_filter_le ..
    have := M.lf
    omega
end
def t_is_one_of : TSp := fun ps k R => ∃ (ws : List (Str × List (Str × Int))) (x : Str), ps = [.dk (pvM kS pvRow ws), .str x] ∧ x ∈ ws.map (·.1) ∧ R (.bl true) k
theorem l_is_one_of (ps : List PV) (k : Nat) (R : PK) (hl : ps.length = 2) (h : t_is_one_of ps k R) : w_is_one_of { nx := fun _ k => R .non k, rt := R } (startS 2 ps) k := by
  obtain ⟨ws, x, rfl, hx, hR⟩ := h
  show w_is_one_of _ [.fz (.dk (pvM kS pvRow ws)), .fz (.str x)] k
  unfold w_is_one_of
  refine iRet (iAndV (i1 (iRd (p := .str x) rfl (vIsi_str (iBool (iCmp (iRd (p := .str x) rfl (iRd (p := .dk (pvM kS pvRow ws)) rfl (vIn_dk ?_)))))))))
  obtain ⟨v, hv⟩ := isSome_lk hx
  rw [hv]
  exact hR
def t_buyer_margin : TSp := fun ps k R => ∃ ws fl b, ps = [pvMk ws fl, .str b] ∧ OkM ws fl ∧ b ∈ ws.map (·.1) ∧ ∀ ws' fl' hd hd2, Srt ws fl ws' fl' → hd.map (·.1) = ws'.map (·.1) → (∃ u p, Asg.Cert (gF (gnOf ws' fl')) (ws'.map (·.1)) (hF hd) 0 u p) →
  hd2.map (·.1) = (noB ws' b).map (·.1) → (∃ u p, Asg.Cert (gF (gnOf (noB ws' b) fl')) ((noB ws' b).map (·.1)) (hF hd2) 0 u p) → R (.int ((sumL ws' fl' hd).sum - (sumL (noB ws' b) fl' hd2).sum)) k
theorem l_buyer_margin (ps : List PV) (k : Nat) (R : PK) (hl : ps.length = 2) (h : t_buyer_margin ps k R) : w_buyer_margin t_checked_market t_is_one_of t_greatest_of t_without_buyer { nx := fun _ k => R .non k, rt := R } (startS 3 ps) k := by
  obtain ⟨ws, fl, b, rfl, M, hb, hR⟩ := h
  have hne : ws ≠ [] := by rintro rfl; cases hb
  show w_buyer_margin _ _ _ _ _ [.fz (pvMk ws fl), .fz (.str b), .un] k
  unfold w_buyer_margin
  refine iSeq (iAsg (iCons (iVar (p := pvMk ws fl) rfl (iNil ⟨rfl, ws, fl, rfl, M, hne, fun ws' fl' hS => ⟨(show (2 : Nat) < 3 by decide), ?_⟩⟩))))
  have M' := hS.ok M
  have hb' : b ∈ ws'.map (·.1) := hS.pb.mem_iff.mpr hb
  dsimp only
  refine iSeq (iIf (iNot (iVl ?_)))
  refine iCons (i2 (iRd (p := pvMk ws' fl') rfl (iC ⟨.dk (pvM kS pvRow ws'), rfl, iCons (iVar (p := .str b) rfl (iNil ⟨rfl, ws', b, rfl, hb', iteF (iSkip ?_)⟩))⟩)))
  dsimp only
  refine iRet (i2 ?_)
  refine iCons (iVar (p := pvMk ws' fl') rfl (iNil ⟨rfl, ws', fl', rfl, M', fun hd hk hc => ?_⟩))
  refine iCons (iCons (iVar (p := pvMk ws' fl') rfl (iCons (iVar (p := .str b) rfl (iNil ⟨rfl, ws', fl', b, rfl, M', ?_⟩)))))
  exact iNil ⟨rfl, noB ws' b, fl', rfl, M'.noB b, fun hd2 hk2 hc2 => hR ws' fl' hd hd2 hS hk hc hk2 hc2⟩
end PH
set_option linter.all false
set_option autoImplicit false
set_option maxRecDepth 100000
/-! Q19: sums told by the program are gains. -/
namespace PH
open PySem
open PySem.Spec
open L2
open TL
theorem gn_lk {fl : List (Str × Int)} {ws : List (Str × List (Str × Int))} (M : OkM ws fl) {b h : Str} {r : List (Str × Int)} {w : Int} (h1 : lk ws b = some r) (h2 : lk r h = some w) : lk (gnOf ws fl) (b, h) = some (w - val fl h) := by
  refine lk_of (gn_nodup M.bk M.wk) ?_
  exact List.mem_flatMap.mpr ⟨(b, r), lk_mem h1, List.mem_map.mpr ⟨(h, w), lk_mem h2, rfl⟩⟩
theorem sum_gains {ws : List (Str × List (Str × Int))} {fl : List (Str × Int)} (M : OkM ws fl) : ∀ (l hd : List (Str × Option Str)), (∀ e ∈ l, lk hd e.1 = some e.2) → Wanted ws fl l → (sumL ws fl l).sum = Asg.gains (gF (gnOf ws fl)) (l.map (·.1)) (hF hd)
  | [], _, _, _ => rfl
  | (b, o) :: l, hd, hl, hw => by
    have ih := sum_gains M l hd (fun e he => hl e (List.mem_cons_of_mem _ he)) fun b h hm => hw b h (List.mem_cons_of_mem _ hm)
    have hb : hF hd b = o := by unfold hF; rw [hl (b, o) (List.mem_cons_self ..)]; rfl
    unfold Asg.gains at ih ⊢
    rw [List.map_cons, List.map_cons, List.sum_cons, ← ih]
    cases o with
    | none =>
      rw [hb]
      unfold sumL
      rw [List.filterMap_cons_none rfl]
      simp
    | some h =>
      obtain ⟨r, w, f, h1, h2, h3⟩ := hw b h (List.mem_cons_self ..)
      rw [hb]
      unfold sumL
      rw [show (List.filterMap (fun e : Str × Option Str => e.2.map fun h => wv ws fl e.1 h) ((b, some h) :: l)) = wv ws fl b h :: List.filterMap (fun e : Str × Option Str => e.2.map fun h => wv ws fl e.1 h) l from List.filterMap_cons_some rfl, List.sum_cons]
      have e1 : gF (gnOf ws fl) b h = some (w - val fl h) := gn_lk M h1 h2
      have e2 : wv ws fl b h = w - val fl h := by unfold wv val; rw [h1, Option.getD_some, h2]; rfl
      simp only [e1, Option.getD_some, e2]
end PH
set_option linter.all false
set_option autoImplicit false
set_option maxRecDepth 100000
/-! Q20: the greatest sum as a number. -/
namespace PH
open PySem
open PySem.Spec
open L2
open TL
/-- n is the greatest sum -/
def Gs (ws : List (Str × List (Str × Int))) (fl : List (Str × Int)) (n : Int) : Prop := ∃ hf u p, Asg.Cert (gF (gnOf ws fl)) (ws.map (·.1)) hf 0 u p ∧ Asg.gains (gF (gnOf ws fl)) (ws.map (·.1)) hf = n
section
variable {ws : List (Str × List (Str × Int))} {fl : List (Str × Int)} {n m : Int}
theorem cert_hs (M : OkM ws fl) {hf : Str → Option Str} {u p : Str → Int} {t : Int} (c : Asg.Cert (gF (gnOf ws fl)) (ws.map (·.1)) hf t u p) : ∀ b ∈ ws.map (·.1), ∀ h, hf b = some h → h ∈ fl.map (·.1) := fun b hb h e =>
  ((by_of M).gk b h _ (c.eq b hb h e)).2
theorem Gs.one (M : OkM ws fl) (a : Gs ws fl n) (b : Gs ws fl m) : n = m := by
  obtain ⟨h1, u1, p1, c1, rfl⟩ := a
  obtain ⟨h2, u2, p2, c2, rfl⟩ := b
  have e1 := Asg.gains_eq c1 M.bk M.fk (cert_hs M c1)
  have e2 := Asg.gains_eq c2 M.bk M.fk (cert_hs M c2)
  have l1 := Asg.gains_le c1 M.bk (hd' := h2) ⟨fun b hb h e => ⟨_, c2.eq b hb h e⟩, c2.inj⟩ (cert_hs M c2)
  have l2 := Asg.gains_le c2 M.bk (hd' := h1) ⟨fun b hb h e => ⟨_, c1.eq b hb h e⟩, c1.inj⟩ (cert_hs M c1)
  omega
theorem Gs.of (M : OkM ws fl) {hd : List (Str × Option Str)} (hk : hd.map (·.1) = ws.map (·.1)) (hc : ∃ u p, Asg.Cert (gF (gnOf ws fl)) (ws.map (·.1)) (hF hd) 0 u p) : Gs ws fl (sumL ws fl hd).sum := by
  obtain ⟨u, p, c⟩ := hc
  refine ⟨hF hd, u, p, c, ?_⟩
  have := sum_gains M hd hd (fun e he => lk_of (by rw [hk]; exact M.bk) he) (wanted_of M hk c)
  rw [this, hk]
end
end PH
set_option linter.all false
set_option autoImplicit false
set_option maxRecDepth 100000
/-! Q21: heads, loops; pairs_in_some, in_some. -/
namespace PH
open PySem
open PySem.Spec
open L2
open TL
theorem iPar {wa wb : WE} {W : WD} {S : List Slot} {k i j : Nat} {m n : Bool} (h : wa S k fun p k1 => wb S k1 fun q k2 => (i < S.length ∧ j < S.length) ∧ W.nx ((S.set i (slM m p)).set j (slM n q)) k2) : wPar i j m n wa wb W S k := h
theorem iCall {ws : WA} {S : List Slot} {k n : Nat} {τ : TSp} {R : PK} (h : ws S k fun ps k' => ps.length = n ∧ τ ps k' R) : wCall n τ ws S k R := h
theorem vEq_i {i j : Int} {R : Bool → Prop} (h : R (decide (i = j))) : vEq (.int i) (.int j) R := h
theorem vLt_i {i j : Int} {R : Bool → Prop} (h : R (decide (i < j))) : vLt (.int i) (.int j) R := h
theorem vGe_i {i j : Int} {R : Bool → Prop} (h : R (decide (j ≤ i))) : vGe (.int i) (.int j) R := h
theorem vLe_i {i j : Int} {R : Bool → Prop} (h : R (decide (i ≤ j))) : vLe (.int i) (.int j) R := h
theorem vIsNot_s {x : Str} {R : Bool → Prop} (h : R true) : vIsNot (.str x) .non R := h
theorem iteD {b : Bool} {P Q : Prop} (h1 : b = true → P) (h2 : b = false → Q) : if b = true then P else Q := by
  cases b with
  | true => exact h1 rfl
  | false => exact h2 rfl
theorem ite01 {P Q : Prop} {p : Prop} [Decidable p] (h1 : p → P) (h2 : ¬ p → Q) : if decide p = true then P else Q := by
  by_cases h : p
  · rw [if_pos (decide_eq_true h)]; exact h1 h
  · rw [if_neg (by simpa using h)]; exact h2 h
theorem iIte {c : WT} {wa wb : WE} {S : List Slot} {k : Nat} {R : PK} (h : c S k fun b k1 => if b = true then wa S k1 R else wb S k1 R) : wIte c wa wb S k R := h
theorem iAddL {we : WE} {S : List Slot} {k : Nat} {acc : List PV} {R : List PV → Nat → Prop} (h : we S k fun y k2 => R (acc ++ [y]) k2) : addL we S k acc R := h
theorem iAsgT {wa : WE} {g : GP} {W : WD} {S : List Slot} {k : Nat} (h : wa S k fun p k' => g p S fun S' => W.nx S' k') : wAsgT wa g W S k := h
theorem gTi {gs : GPs} {ps : List PV} {S : List Slot} {R : List Slot → Prop} (h : gs ps S R) : gT gs (.tup ps) S R := h
theorem gsCi {g : GP} {gs : GPs} {p : PV} {r : List PV} {S : List Slot} {R : List Slot → Prop} (h : g p S fun S' => gs r S' R) : gsC g gs (p :: r) S R := h
theorem gsNi {S : List Slot} {R : List Slot → Prop} (h : R S) : gsN [] S R := ⟨rfl, h⟩
theorem gNi {i : Nat} {p : PV} {S : List Slot} {R : List Slot → Prop} (e : i < S.length) (h : R (S.set i (.fz p))) : gN i p S R := ⟨e, h⟩
theorem idx_t0 {p : PV} {l : List PV} {R : PV → Prop} (h : R p) : vIdx (.tup (p :: l)) (.int 0) R := ⟨p, by simp [atI, ixN], h⟩
theorem idx_t1 {p q : PV} {l : List PV} {R : PV → Prop} (h : R q) : vIdx (.tup (p :: q :: l)) (.int 1) R := ⟨q, by unfold atI ixN; rw [if_pos (by decide), if_pos (by simp only [List.length_cons]; omega)]; rfl, h⟩
theorem idx_mk0 {ws : List (Str × List (Str × Int))} {fl : List (Str × Int)} {R : PV → Prop} (h : R (.dk (pvM kS pvRow ws))) : vIdx (pvMk ws fl) (.int 0) R := ⟨_, rfl, h⟩
theorem idx_mk1 {ws : List (Str × List (Str × Int))} {fl : List (Str × Int)} {R : PV → Prop} (h : R (.dk (pvM kS PV.int fl))) : vIdx (pvMk ws fl) (.int 1) R := ⟨_, rfl, h⟩
theorem iRdRow {i : Nat} {S : List Slot} {k : Nat} {R : PK} {p : PV} {r : List (Str × Int)} (e : S[i]? = some (.fz p)) (e2 : p = pvRow r) (h : R (.dk (pvM kS PV.int r)) k) : wRd i S k R := iRd e (e2 ▸ h)
theorem iVarRow {i : Nat} {S : List Slot} {k : Nat} {R : PK} {p : PV} {r : List (Str × Int)} (e : S[i]? = some (.fz p)) (e2 : p = pvRow r) (h : R (.dk (pvM kS PV.int r)) k) : wVar i S k R := iVar e (e2 ▸ h)
theorem items_pv {α : Type} (f : α → PV) (l : List (Str × α)) : (pvM kS f l).map (fun kp => PV.tup [pk kp.1, kp.2]) = l.map fun e => PV.tup [.str e.1, f e.2] := by unfold pvM; rw [List.map_map]; rfl
theorem itemsT_pv (l : List ((Str × Str) × Int)) : (pvM kSS PV.int l).map (fun kp => PV.tup [.tup (kp.1.map pk), kp.2]) = l.map tri := by unfold pvM; rw [List.map_map]; rfl
theorem keys_pv {α : Type} (f : α → PV) (l : List (Str × α)) : (pvM kS f l).map (fun kp => pk kp.1) = l.map fun e => PV.str e.1 := by unfold pvM; rw [List.map_map]; rfl
theorem vals_pv {α : Type} (f : α → PV) (l : List (Str × α)) : (pvM kS f l).map (fun kp => kp.2) = l.map fun e => f e.2 := by unfold pvM; rw [List.map_map]; rfl
theorem iDc {wi : WI} {vs : List Nat} {g : GP} {tt : WT} {wk wv : WE} {d0 : PV} {S : List Slot} {k : Nat} {R : PK} (h : wi S k fun ps k' => ps.length ≤ bigN ∧ wCmL g tt (addD wk wv) (unS S vs) (fun acc k => R acc k) ps d0 k') : wDc wi vs g tt wk wv d0 S k R := h
theorem iLc {wi : WI} {vs : List Nat} {g : GP} {tt : WT} {we : WE} {S : List Slot} {k : Nat} {R : PK} (h : wi S k fun ps k' => ps.length ≤ bigN ∧ wCmL g tt (addL we) (unS S vs) (fun acc k => R (.lst acc) k) ps [] k') : wLc wi vs g tt we S k R := h
theorem iIts {wa : WE} {S : List Slot} {k : Nat} {R : List PV → Nat → Prop} (h : wa S k fun p k' => match p with
  | .dk kvs => R (kvs.map fun kp => PV.tup [pk kp.1, kp.2]) k'
  | _ => False) : wIItems wa S k R := h
theorem iItsT {wa : WE} {S : List Slot} {k : Nat} {R : List PV → Nat → Prop} (h : wa S k fun p k' => match p with
  | .dt kvs => R (kvs.map fun kp => PV.tup [.tup (kp.1.map pk), kp.2]) k'
  | _ => False) : wIItemsT wa S k R := h
theorem iILst {wa : WE} {S : List Slot} {k : Nat} {R : List PV → Nat → Prop} (h : wa S k fun p k' => match p with
  | .lst ps => R ps k'
  | _ => False) : wILst wa S k R := h
theorem iIKeys {wa : WE} {S : List Slot} {k : Nat} {R : List PV → Nat → Prop} (h : wa S k fun p k' => match p with
  | .dk kvs => R (kvs.map fun kp => pk kp.1) k'
  | .dt kvs => R (kvs.map fun kp => PV.tup (kp.1.map pk)) k'
  | _ => False) : wIKeys wa S k R := h
theorem iIVals {wa : WE} {S : List Slot} {k : Nat} {R : List PV → Nat → Prop} (h : wa S k fun p k' => match p with
  | .dk kvs => R (kvs.map fun kp => kp.2) k'
  | _ => False) : wIVals wa S k R := h
theorem m_row {r : List (Str × Int)} {k : Nat} {R : List PV → Nat → Prop} (h : R (r.map fun e => PV.tup [.str e.1, .int e.2]) k) : (match pvRow r with
  | .dk kvs => R (kvs.map fun kp => PV.tup [pk kp.1, kp.2]) k
  | _ => False) := by
  show R ((pvM kS PV.int r).map fun kp => PV.tup [pk kp.1, kp.2]) k
  have e : (pvM kS PV.int r).map (fun kp => PV.tup [pk kp.1, kp.2]) = r.map fun e => PV.tup [.str e.1, .int e.2] := by unfold pvM; rw [List.map_map]; rfl
  rw [e]; exact h
theorem unS_len {S : List Slot} : ∀ vs : List Nat, (unS S vs).length = S.length
  | [] => rfl
  | v :: vs => by
    show ((unS S vs).set v .un).length = _
    rw [List.length_set]; exact unS_len vs
theorem frz_len {i : Nat} {S : List Slot} : (frz i S).length = S.length := by
  unfold frz
  split <;> simp
theorem le_big {n : Nat} (h : n ≤ 1000000) : n ≤ bigN := h
theorem le_ps {l : List PV} (h : l.length ≤ 1000) : l.length ≤ 1000 := h
theorem lt_slots {i : Nat} {S : List Slot} (h : i < S.length) : i < S.length := h
/-- a loop over the images of plain things -/
theorem forL_map {α : Type} {g : GP} {u : WS} {W : WD} (all : List α) (φ : α → PV) (J : List α → List Slot → Nat → Prop)
    (step : ∀ pre a r S k, all = pre ++ a :: r → J pre S k → ∀ N : List Slot → Nat → Prop, (∀ S' k', J (pre ++ [a]) S' k' → N S' k') → g (φ a) S fun S' => u { nx := N, rt := W.rt, bk := W.nx, ct := N } S' k)
    (fin : ∀ S k, J all S k → W.nx S k) : ∀ (r pre : List α) (S : List Slot) (k : Nat), all = pre ++ r → J pre S k → wForL g u W (r.map φ) S k
  | [], pre, S, k, e, j => by
    rw [List.append_nil] at e
    subst e
    exact fin S k j
  | a :: r, pre, S, k, e, j => step pre a r S k e j _ fun S' k' j' => forL_map all φ J step fin r (pre ++ [a]) S' k' (by rw [e]; simp) j'
local macro_rules | `(tactic| walk_at "w1") => `(tactic| first
  | (with_reducible refine iSeq ?_)
  | (with_reducible refine iIf ?_)
  | (with_reducible refine iSkip ?_)
  | (with_reducible refine iAnd ?_)
  | (with_reducible refine iOr ?_)
  | (with_reducible refine iNot ?_)
  | (with_reducible refine iCmp ?_)
  | (with_reducible refine i2 ?_)
  | (with_reducible refine i1 ?_)
  | (with_reducible refine iC ?_)
  | (with_reducible refine iNil ?_)
  | (with_reducible refine iCons ?_)
  | (with_reducible refine iRet ?_)
  | (with_reducible refine iFrz ?_)
  | (with_reducible refine iBool ?_)
  | (with_reducible refine iVl ?_)
  | (with_reducible refine iAndV ?_)
  | (with_reducible refine iPar ?_)
  | (with_reducible refine iAsg ?_)
  | (with_reducible refine iAsgF ?_)
  | (with_reducible refine iYes ?_)
  | (with_reducible refine iteT ?_)
  | (with_reducible refine iteF ?_)
  | (with_reducible refine iIte ?_)
  | (with_reducible refine iAddD ?_)
  | (with_reducible refine iAddL ?_)
  | (with_reducible refine iCall ?_)
  | (with_reducible refine iFor ?_)
  | (with_reducible refine iAsgT ?_)
  | (with_reducible refine iTup ?_)
  | (with_reducible refine iLst ?_)
  | (with_reducible refine gTi ?_)
  | (with_reducible refine gsCi ?_)
  | (with_reducible refine gsNi ?_)
  | (with_reducible refine vSub_i ?_)
  | (with_reducible refine vAdd_i ?_)
  | (with_reducible refine vEq_i ?_)
  | (with_reducible refine vLt_i ?_)
  | (with_reducible refine vGt_i ?_)
  | (with_reducible refine vIsNot_s ?_)
  | (with_reducible refine vIsNot_non ?_)
  | (with_reducible refine vIs_str ?_)
  | (with_reducible refine vIs_non ?_)
  | (with_reducible refine vNe_s ?_)
  | ((with_reducible refine idx_t0 ?_))
  | ((with_reducible refine idx_mk0 ?_))
  | ((with_reducible refine idx_mk1 ?_))
  | (with_reducible refine iDc ?_)
  | (with_reducible refine iLc ?_)
  | (with_reducible refine iIts ?_)
  | (with_reducible refine iItsT ?_)
  | (with_reducible refine iILst ?_)
  | (with_reducible refine iIKeys ?_)
  | (with_reducible refine iIVals ?_)
  | ((with_reducible refine idx_t1 ?_))
  | ((with_reducible refine' gNi ?e1 ?_); (case e1 => simp [frz_len, unS_len]))
  | ((with_reducible refine' iVarRow ?e1 ?e2 ?_); (case e1 => exact rfl); (case e2 => with_reducible exact rfl))
  | ((with_reducible refine' iRdRow ?e1 ?e2 ?_); (case e1 => exact rfl); (case e2 => with_reducible exact rfl))
  | ((with_reducible refine' iVar ?e1 ?_); (case e1 => exact rfl))
  | ((with_reducible refine' iRd ?e1 ?_); (case e1 => exact rfl))
  | ((with_reducible refine' iRo ?e1 ?_); (case e1 => exact rfl))
  | ((with_reducible refine' iApp ?e1 ?_); (case e1 => exact rfl))
  | ((with_reducible refine' iPut ?e1 ?_); (case e1 => exact rfl))
  | ((with_reducible refine And.intro (le_ps ?e1) ?_); (case e1 => first | (simp only [List.length_cons, List.length_nil]; decide) | simp))
  | ((with_reducible refine And.intro (And.intro (lt_slots ?e1) (lt_slots ?e2)) ?_); (case e1 => simp); (case e2 => simp))
  | ((with_reducible refine And.intro (lt_slots ?e1) ?_); (case e1 => simp [frz_len, unS_len])))
local macro_rules | `(tactic| walk_at "w") => `(tactic| repeat (first | walk_at "w1" | (dsimp only) | (simp only [items_pv, itemsT_pv, keys_pv, vals_pv])))
def w_pairs_in_some (t_greatest_of t_surplus_of t_without_buyer t_without_house : TSp) : WS :=
  (wSeq (wPar 1 2 false true (wCall 1 t_greatest_of (wCons (wVar 0) wNil)) (wLst wNil))
  (wSeq (wFor (wIItemsT (wCall 1 t_surplus_of (wCons (wVar 0) wNil))) (gT (gsC (gT (gsC (gN 4) (gsC (gN 5) gsN))) (gsC (gN 3) gsN))) (wIf (wCmp (w2 (wCall 1 t_greatest_of (wCons (wCall 2 t_without_house (wCons (wCall 2 t_without_buyer (wCons (wVar 0) (wCons (wVar 4) wNil))) (wCons (wVar 5) wNil))) wNil)) (wRd 3) vAdd) (wRd 1) vEq) (wApp 2 (wTup (wCons (wVar 4) (wCons (wVar 5) wNil)))) wSkip))
  (wFrz 2 (wRet (wVar 2)))))

def w_in_some (t_checked_market t_pairs_in_some : TSp) : WS :=
  (wRet (wCall 1 t_pairs_in_some (wCons (wCall 1 t_checked_market (wCons (wVar 0) wNil)) wNil)))

/-- greatest_of tells the number -/
theorem greatest_n {ws : List (Str × List (Str × Int))} {fl : List (Str × Int)} {n : Int} {k : Nat} {R : PK} (M : OkM ws fl) (g : Gs ws fl n) (h : R (.int n) k) : t_greatest_of [pvMk ws fl] k R :=
  ⟨ws, fl, rfl, M, fun hd hk hc => by rw [(Gs.of M hk hc).one M g]; exact h⟩
def t_pairs_in_some : TSp := fun ps k R => ∃ ws fl n, ∃ f : Str × Str → Int, ps = [pvMk ws fl] ∧ OkM ws fl ∧ Gs ws fl n ∧ (∀ e ∈ gnOf ws fl, Gs (noH (noB ws e.1.1) e.1.2) (fl.filter (notKey e.1.2)) (f e.1)) ∧
  R (.lst (((gnOf ws fl).filter fun e => decide (f e.1 + e.2 = n)).map fun e => pv2 e.1)) k
theorem gn_len' {ws : List (Str × List (Str × Int))} {fl : List (Str × Int)} (M : OkM ws fl) : (gnOf ws fl).length ≤ 900 := by
  have h := gn_len (fl := fl) (ws := ws) fun e he => by
    have := len_sub (M.wk e he) (M.wf e he)
    have := M.lf
    omega
  have := M.lw
  omega
theorem l_pairs_in_some (ps : List PV) (k : Nat) (R : PK) (hl : ps.length = 1) (h : t_pairs_in_some ps k R) : w_pairs_in_some t_greatest_of t_surplus_of t_without_buyer t_without_house { nx := fun _ k => R .non k, rt := R } (startS 6 ps) k := by
  obtain ⟨ws, fl, n, f, rfl, M, g, gf, hR⟩ := h
  show w_pairs_in_some _ _ _ _ _ [.fz (pvMk ws fl), .un, .un, .un, .un, .un] k
  unfold w_pairs_in_some
  walk_at "w"
  refine ⟨rfl, greatest_n M g ?_⟩
  walk_at "w"
  refine ⟨rfl, ws, fl, rfl, M, ?_⟩
  dsimp only
  rw [itemsT_pv]
  refine forL_map (gnOf ws fl) tri (fun pre S k' => k' = k ∧ ∃ x3 x4 x5, S = [.fz (pvMk ws fl), .fz (.int n), .ow (.lst ((pre.filter fun e => decide (f e.1 + e.2 = n)).map fun e => pv2 e.1)), x3, x4, x5]) ?_ ?_ _ [] _ _ rfl ⟨rfl, _, _, _, rfl⟩
  · rintro pre ⟨⟨b, h⟩, x⟩ r S k' hall ⟨rfl, x3, x4, x5, rfl⟩ N hN
    have hm : ((b, h), x) ∈ gnOf ws fl := by rw [hall]; exact List.mem_append_right _ (List.mem_cons_self ..)
    have hlen : pre.length ≤ 900 := by
      have := gn_len' M
      have := congrArg List.length hall
      rw [List.length_append] at this
      omega
    have g2 : Gs (noH (noB ws b) h) (fl.filter (notKey h)) (f (b, h)) := gf ((b, h), x) hm
    have M2 : OkM (noH (noB ws b) h) (fl.filter (notKey h)) := (M.noB b).noH h
    unfold tri
    walk_at "w"
    refine ⟨rfl, ws, fl, b, rfl, M, ?_⟩
    walk_at "w"
    refine ⟨rfl, noB ws b, fl, h, rfl, M.noB b, ?_⟩
    walk_at "w"
    refine ⟨rfl, greatest_n M2 g2 ?_⟩
    walk_at "w"
    refine ite01 (fun e => ?_) fun e => ?_
    · walk_at "w"
      refine ⟨by rw [List.length_map]; have := List.length_filter_le (fun e => decide (f e.1 + e.2 = n)) pre; unfold bigN; omega, hN _ _ ⟨rfl, .fz (.int x), .fz (.str b), .fz (.str h), ?_⟩⟩
      rw [List.filter_append, List.map_append, List.filter_cons_of_pos (by simpa using e)]
      rfl
    · walk_at "w"
      refine hN _ _ ⟨rfl, .fz (.int x), .fz (.str b), .fz (.str h), ?_⟩
      rw [List.filter_append, List.map_append, List.filter_cons_of_neg (by simpa using e)]
      rw [List.filter_nil, List.map_nil, List.append_nil]
      rfl
  · rintro S k' ⟨rfl, x3, x4, x5, rfl⟩
    walk_at "w"
    exact hR
end PH
set_option linter.all false
set_option autoImplicit false
set_option maxRecDepth 100000
/-! Q22: least prices. -/
namespace PH
open PySem
open PySem.Spec
open L2
open TL
local macro_rules | `(tactic| walk_at "w1") => `(tactic| first
  | (with_reducible refine iSeq ?_)
  | (with_reducible refine iIf ?_)
  | (with_reducible refine iSkip ?_)
  | (with_reducible refine iAnd ?_)
  | (with_reducible refine iOr ?_)
  | (with_reducible refine iNot ?_)
  | (with_reducible refine iCmp ?_)
  | (with_reducible refine i2 ?_)
  | (with_reducible refine i1 ?_)
  | (with_reducible refine iC ?_)
  | (with_reducible refine iNil ?_)
  | (with_reducible refine iCons ?_)
  | (with_reducible refine iRet ?_)
  | (with_reducible refine iFrz ?_)
  | (with_reducible refine iBool ?_)
  | (with_reducible refine iVl ?_)
  | (with_reducible refine iAndV ?_)
  | (with_reducible refine iPar ?_)
  | (with_reducible refine iAsg ?_)
  | (with_reducible refine iAsgF ?_)
  | (with_reducible refine iYes ?_)
  | (with_reducible refine iteT ?_)
  | (with_reducible refine iteF ?_)
  | (with_reducible refine iIte ?_)
  | (with_reducible refine iAddD ?_)
  | (with_reducible refine iAddL ?_)
  | (with_reducible refine iCall ?_)
  | (with_reducible refine iFor ?_)
  | (with_reducible refine iAsgT ?_)
  | (with_reducible refine iTup ?_)
  | (with_reducible refine iLst ?_)
  | (with_reducible refine gTi ?_)
  | (with_reducible refine gsCi ?_)
  | (with_reducible refine gsNi ?_)
  | (with_reducible refine vSub_i ?_)
  | (with_reducible refine vAdd_i ?_)
  | (with_reducible refine vEq_i ?_)
  | (with_reducible refine vLt_i ?_)
  | (with_reducible refine vGt_i ?_)
  | (with_reducible refine vIsNot_s ?_)
  | (with_reducible refine vIsNot_non ?_)
  | (with_reducible refine vIs_str ?_)
  | (with_reducible refine vIs_non ?_)
  | (with_reducible refine vNe_s ?_)
  | ((with_reducible refine idx_t0 ?_))
  | ((with_reducible refine idx_mk0 ?_))
  | ((with_reducible refine idx_mk1 ?_))
  | (with_reducible refine iDc ?_)
  | (with_reducible refine iLc ?_)
  | (with_reducible refine iIts ?_)
  | (with_reducible refine iItsT ?_)
  | (with_reducible refine iILst ?_)
  | (with_reducible refine iIKeys ?_)
  | (with_reducible refine iIVals ?_)
  | ((with_reducible refine idx_t1 ?_))
  | ((with_reducible refine' gNi ?e1 ?_); (case e1 => simp [frz_len, unS_len]))
  | ((with_reducible refine' iVarRow ?e1 ?e2 ?_); (case e1 => exact rfl); (case e2 => with_reducible exact rfl))
  | ((with_reducible refine' iRdRow ?e1 ?e2 ?_); (case e1 => exact rfl); (case e2 => with_reducible exact rfl))
  | ((with_reducible refine' iVar ?e1 ?_); (case e1 => exact rfl))
  | ((with_reducible refine' iRd ?e1 ?_); (case e1 => exact rfl))
  | ((with_reducible refine' iRo ?e1 ?_); (case e1 => exact rfl))
  | ((with_reducible refine' iApp ?e1 ?_); (case e1 => exact rfl))
  | ((with_reducible refine' iPut ?e1 ?_); (case e1 => exact rfl))
  | ((with_reducible refine And.intro (le_ps ?e1) ?_); (case e1 => first | (simp only [List.length_cons, List.length_nil]; decide) | simp))
  | ((with_reducible refine And.intro (And.intro (lt_slots ?e1) (lt_slots ?e2)) ?_); (case e1 => simp); (case e2 => simp))
  | ((with_reducible refine And.intro (lt_slots ?e1) ?_); (case e1 => simp [frz_len, unS_len])))
local macro_rules | `(tactic| walk_at "w") => `(tactic| repeat (first | walk_at "w1" | (dsimp only) | (simp only [items_pv, itemsT_pv, keys_pv, vals_pv])))
theorem l_in_some_k : True := trivial
def priceRow (fl : List (Str × Int)) (q : Str → Int) : List (Str × Int) := fl.map fun e => (e.1, e.2 + q e.1)
theorem price_keys (fl : List (Str × Int)) (q : Str → Int) : (priceRow fl q).map (·.1) = fl.map (·.1) := by unfold priceRow; rw [List.map_map]; rfl
theorem lk_map2 {α β : Type} (f : Str → α → β) (l : List (Str × α)) (x : Str) : lk (l.map fun e => (e.1, f e.1 e.2)) x = (lk l x).map (f x) := by
  induction l with
  | nil => rfl
  | cons e l ih =>
    rw [List.map_cons, lk_cons, lk_cons, ih]
    by_cases h : e.1 = x
    · rw [if_pos h, if_pos h, h]; rfl
    · rw [if_neg h, if_neg h]
theorem price_lk {fl : List (Str × Int)} {q : Str → Int} {h : Str} (hm : h ∈ fl.map (·.1)) : lk (priceRow fl q) h = some (val fl h + q h) := by
  unfold priceRow
  rw [lk_map2 (fun x v => v + q x)]
  obtain ⟨v, hv⟩ := isSome_lk hm
  unfold val
  rw [hv]; rfl
theorem price_put {fl : List (Str × Int)} {q : Str → Int} {h : Str} {v : Int} (nd : (fl.map (·.1)).Nodup) (hm : h ∈ fl.map (·.1)) : put (priceRow fl q) h v = priceRow fl (Asg.putF q h (v - val fl h)) := by
  unfold put
  rw [if_pos ((any_iff _ h).mpr (by rw [price_keys]; exact hm))]
  unfold priceRow
  rw [List.map_map]
  refine List.map_congr_left fun e he => ?_
  simp only [Function.comp, Asg.putF]
  by_cases z : e.1 = h
  · have : val fl h = e.2 := by
      unfold val
      rw [lk_of (l := fl) nd (k := h) (v := e.2) (by rw [← z]; exact he)]; rfl
    rw [if_pos z, if_pos z, this]
    congr 1; omega
  · rw [if_neg z, if_neg z]
theorem price_zero (fl : List (Str × Int)) : priceRow fl (fun _ => 0) = fl := by
  unfold priceRow
  conv => rhs; rw [← List.map_id fl]
  refine List.map_congr_left fun e _ => ?_
  simp
theorem price_len (fl : List (Str × Int)) (q : Str → Int) : (priceRow fl q).length = fl.length := by unfold priceRow; rw [List.length_map]
/-- the copy of a row: {k: v for k, v in r.items()} -/
theorem cm_copy {S0 : List Slot} {k i j : Nat} {Rf : PV → Nat → Prop} (r : List (Str × Int)) (nd : (r.map (·.1)).Nodup) (hl : r.length ≤ 1000) (hi : i < S0.length) (hj : j < S0.length) (hij : i ≠ j)
    (h : Rf (pvRow r) k) : wCmL (gT (gsC (gN i) (gsC (gN j) gsN))) wYes (addD (wVar i) (wVar j)) S0 Rf (r.map fun e => PV.tup [.str e.1, .int e.2]) (.dk (pvM kS PV.int [])) k := by
  refine cmL_map r (fun e => PV.tup [.str e.1, .int e.2]) (fun pre acc => acc = pvRow pre) ?_ (fun acc e => by rw [e]; exact h) r [] _ rfl rfl
  rintro pre ⟨b, v⟩ r' acc R hall rfl hR
  have hpl : pre.length < r.length := by rw [hall]; simp
  have gi : ((S0.set i (.fz (.str b))).set j (.fz (.int v)))[i]? = some (.fz (.str b)) := by
    rw [List.getElem?_set_ne (Ne.symm hij), List.getElem?_set_self hi]
  have gj : ((S0.set i (.fz (.str b))).set j (.fz (.int v)))[j]? = some (.fz (.int v)) := List.getElem?_set_self (by rw [List.length_set]; exact hj)
  refine ⟨hi, by rw [List.length_set]; exact hj, rfl, iYes (iteT (iAddD (iVar gi (iVar gj ?_))))⟩
  refine dPut_dk (f := PV.int) (v := v) rfl (by unfold bigN; omega) (hR _ ?_)
  rw [put_new]
  · rfl
  · rw [hall, List.map_append, List.nodup_append] at nd
    intro z
    exact nd.2.2 b z b (by simp) rfl
def w_least_of (t_best_of : TSp) : WS :=
  (wSeq (wPar 1 2 false true (w2 (wRd 0) (wC (.int 0)) vIdx) (wDc (wIItems (w2 (wRd 0) (wC (.int 1)) vIdx)) [9, 11] (gT (gsC (gN 9) (gsC (gN 11) gsN))) wYes (wVar 9) (wVar 11) (u0P (.dK []))))
  (wSeq (wPar 3 4 false false (wCall 1 t_best_of (wCons (wVar 0) wNil)) (wC (.bl true)))
  (wSeq (wWhile (wVal (wRd 4)) (wSeq (wAsg 4 (wC (.bl false)))
  (wFor (wIItems (wVar 1)) (gT (gsC (gN 5) (gsC (gN 6) gsN))) (wSeq (wAsg 7 (w2 (wRd 3) (wRd 5) vIdx))
  (wSeq (wAsg 8 (wIte (wCmp (wRd 7) (wC .non) vIs) (wC (.int 0)) (w2 (w2 (wRd 6) (wRd 7) vIdx) (w2 (wRd 2) (wRd 7) vIdx) vSub)))
  (wFor (wIItems (wVar 6)) (gT (gsC (gN 9) (gsC (gN 10) gsN))) (wIf (wAnd (wCmp (wRd 9) (wRd 7) vNe) (wCmp (w2 (wRd 2) (wRd 9) vIdx) (w2 (wRd 10) (wRd 8) vSub) vLt)) (wSeq (wPut 2 (wVar 9) (w2 (wRd 10) (wRd 8) vSub))
  (wAsg 4 (wC (.bl true)))) wSkip)))))))
  (wFrz 2 (wRet (wVar 2))))))

def t_least_of : TSp := fun ps k R => ∃ ws fl, ps = [pvMk ws fl] ∧ OkM ws fl ∧ ∀ q, Asg.Least (gF (gnOf ws fl)) (ws.map (·.1)) q → R (pvRow (priceRow fl q)) k
section
variable {ws : List (Str × List (Str × Int))} {fl : List (Str × Int)}
theorem gF_row (M : OkM ws fl) {e : Str × List (Str × Int)} {w : Str × Int} (he : e ∈ ws) (hw : w ∈ e.2) : gF (gnOf ws fl) e.1 w.1 = some (w.2 - val fl w.1) :=
  gn_lk M (lk_of M.bk (v := e.2) (by exact he)) (lk_of (M.wk e he) (by exact hw))
theorem gF_of (M : OkM ws fl) {b h : Str} {x : Int} (hx : gF (gnOf ws fl) b h = some x) : ∃ r w, (b, r) ∈ ws ∧ (h, w) ∈ r ∧ x = w - val fl h := by
  obtain ⟨a, ha, h1⟩ := List.mem_flatMap.mp (lk_mem hx)
  obtain ⟨w, hw, h2⟩ := List.mem_map.mp h1
  cases h2
  exact ⟨a.2, w.2, ha, hw, rfl⟩
def Sm (fl : List (Str × Int)) (q : Str → Int) : Int := ((fl.map (·.1)).map q).sum
/-- row e has been looked at, up to the part pre -/
def Chk (ws : List (Str × List (Str × Int))) (fl : List (Str × Int)) (hf : Str → Option Str) (q : Str → Int) (b : Str) (pre : List (Str × Int)) : Prop := ∀ w ∈ pre, hf b ≠ some w.1 → w.2 - val fl w.1 - Asg.keeps (gF (gnOf ws fl)) hf q b ≤ q w.1
theorem stab_of (M : OkM ws fl) {hf : Str → Option Str} {q : Str → Int} (l : Asg.Low (gF (gnOf ws fl)) (ws.map (·.1)) hf q) (h : ∀ e ∈ ws, Chk ws fl hf q e.1 e.2) : Asg.Stab (gF (gnOf ws fl)) (ws.map (·.1)) hf q := by
  refine ⟨l.q0, fun b hb h' x hx hn => ?_⟩
  obtain ⟨r, w, h1, h2, rfl⟩ := gF_of M hx
  exact h (b, r) h1 (h', w) h2 hn
/-- what a pass knows -/
structure Ps1 (ws : List (Str × List (Str × Int))) (fl : List (Str × Int)) (hf : Str → Option Str) (q0 q : Str → Int) (nb : Bool) (P : Prop) : Prop where
  low : Asg.Low (gF (gnOf ws fl)) (ws.map (·.1)) hf q
  no : nb = false → q = q0 ∧ P
  yes : nb = true → Sm fl q0 < Sm fl q
def lsS (ws : List (Str × List (Str × Int))) (fl : List (Str × Int)) (hd : List (Str × Option Str)) (q : Str → Int) (nb : Bool) (x5 x6 x7 x8 x9 x10 x11 : Slot) : List Slot :=
  [.fz (pvMk ws fl), .fz (.dk (pvM kS pvRow ws)), .ow (.dk (pvM kS PV.int (priceRow fl q))), .fz (.dk (pvM kS pvO hd)), .fz (.bl nb), x5, x6, x7, x8, x9, x10, x11]
def w_ls_in : WS := (wIf (wAnd (wCmp (wRd 9) (wRd 7) vNe) (wCmp (w2 (wRd 2) (wRd 9) vIdx) (w2 (wRd 10) (wRd 8) vSub) vLt)) (wSeq (wPut 2 (wVar 9) (w2 (wRd 10) (wRd 8) vSub))
  (wAsg 4 (wC (.bl true)))) wSkip)
theorem vNe_o {x : Str} {o : Option Str} {R : Bool → Prop} (h : R (!decide (o = some x))) : vNe (.str x) (pvO o) R := by
  cases o with
  | none => exact h
  | some y =>
    show R (!decide (x = y))
    have : decide (some y = some x) = decide (x = y) := by
      by_cases z : x = y
      · subst z; simp
      · rw [decide_eq_false z, decide_eq_false (fun e => z (by cases e; rfl))]
    rw [this] at h; exact h
theorem ls_in {W : WD} {k : Nat} {hd : List (Str × Option Str)} {q0 q : Str → Int} {nb : Bool} {P : Prop} {b : Str} {r pre r' : List (Str × Int)} {w : Str × Int} {x5 x6 x11 : Slot} (M : OkM ws fl) (he : (b, r) ∈ ws) (hall : r = pre ++ w :: r')
    (p : Ps1 ws fl (hF hd) q0 q nb (P ∧ Chk ws fl (hF hd) q b pre))
    (fin : ∀ q' nb', Ps1 ws fl (hF hd) q0 q' nb' (P ∧ Chk ws fl (hF hd) q' b (pre ++ [w])) → Asg.keeps (gF (gnOf ws fl)) (hF hd) q' b = Asg.keeps (gF (gnOf ws fl)) (hF hd) q b →
      W.nx (lsS ws fl hd q' nb' x5 x6 (.fz (pvO (hF hd b))) (.fz (.int (Asg.keeps (gF (gnOf ws fl)) (hF hd) q b))) (.fz (.str w.1)) (.fz (.int w.2)) x11) k) :
    w_ls_in W (lsS ws fl hd q nb x5 x6 (.fz (pvO (hF hd b))) (.fz (.int (Asg.keeps (gF (gnOf ws fl)) (hF hd) q b))) (.fz (.str w.1)) (.fz (.int w.2)) x11) k := by
  have hw : w ∈ r := by rw [hall]; exact List.mem_append_right _ (List.mem_cons_self ..)
  have hm := M.wf _ he w hw
  have hg := gF_row M he hw
  have hb : b ∈ ws.map (·.1) := List.mem_map.mpr ⟨_, he, rfl⟩
  dsimp only at hg
  unfold w_ls_in lsS
  walk_at "w"
  refine vNe_o ?_
  by_cases z : hF hd b = some w.1
  · rw [decide_eq_true z]
    walk_at "w"
    refine fin q nb ⟨p.low, fun e => ⟨(p.no e).1, (p.no e).2.1, fun w' hw' hn => ?_⟩, p.yes⟩ rfl
    rcases List.mem_append.mp hw' with h1 | h1
    · exact (p.no e).2.2 w' h1 hn
    · rw [List.mem_singleton.mp h1] at hn
      exact absurd z hn
  · rw [decide_eq_false z]
    walk_at "w"
    refine vIdx_dk (f := PV.int) (price_lk hm) ?_
    walk_at "w"
    refine ite01 (fun lt => ?_) fun lt => ?_
    · walk_at "w"
      refine dPut_dk (f := PV.int) (v := w.2 - Asg.keeps (gF (gnOf ws fl)) (hF hd) q b) rfl (by rw [price_len]; have := M.lf; unfold bigN; omega) ?_
      rw [price_put M.fk hm]
      walk_at "w"
      have lt' : q w.1 < w.2 - val fl w.1 - Asg.keeps (gF (gnOf ws fl)) (hF hd) q b := by omega
      have e1 : w.2 - Asg.keeps (gF (gnOf ws fl)) (hF hd) q b - val fl w.1 = w.2 - val fl w.1 - Asg.keeps (gF (gnOf ws fl)) (hF hd) q b := by omega
      rw [e1]
      have up := p.low.raise hb hg z lt'
      have ek : Asg.keeps (gF (gnOf ws fl)) (hF hd) (Asg.putF q w.1 (w.2 - val fl w.1 - Asg.keeps (gF (gnOf ws fl)) (hF hd) q b)) b = Asg.keeps (gF (gnOf ws fl)) (hF hd) q b := by
        unfold Asg.keeps
        cases e : hF hd b with
        | none => rfl
        | some y =>
          dsimp only
          unfold Asg.putF
          rw [if_neg]
          intro e2; exact z (by rw [e, e2])
      refine fin _ true ⟨up, fun e => (by cases e), fun _ => ?_⟩ ek
      unfold Sm
      rw [Asg.sum_putF M.fk hm]
      have : Sm fl q0 ≤ Sm fl q := by
        cases nb with
        | true => have := p.yes rfl; omega
        | false => rw [(p.no rfl).1]; exact Int.le_refl _
      unfold Sm at this
      omega
    · walk_at "w"
      refine fin q nb ⟨p.low, fun e => ⟨(p.no e).1, (p.no e).2.1, fun w' hw' hn => ?_⟩, p.yes⟩ rfl
      rcases List.mem_append.mp hw' with h1 | h1
      · exact (p.no e).2.2 w' h1 hn
      · rw [List.mem_singleton.mp h1]; omega
end
end PH
set_option linter.all false
set_option autoImplicit false
set_option maxRecDepth 100000
/-! Q23: least prices, the whole. -/
namespace PH
open PySem
open PySem.Spec
open L2
open TL
local macro_rules | `(tactic| walk_at "w1") => `(tactic| first
  | (with_reducible refine iSeq ?_)
  | (with_reducible refine iIf ?_)
  | (with_reducible refine iSkip ?_)
  | (with_reducible refine iAnd ?_)
  | (with_reducible refine iOr ?_)
  | (with_reducible refine iNot ?_)
  | (with_reducible refine iCmp ?_)
  | (with_reducible refine i2 ?_)
  | (with_reducible refine i1 ?_)
  | (with_reducible refine iC ?_)
  | (with_reducible refine iNil ?_)
  | (with_reducible refine iCons ?_)
  | (with_reducible refine iRet ?_)
  | (with_reducible refine iFrz ?_)
  | (with_reducible refine iBool ?_)
  | (with_reducible refine iVl ?_)
  | (with_reducible refine iAndV ?_)
  | (with_reducible refine iPar ?_)
  | (with_reducible refine iAsg ?_)
  | (with_reducible refine iAsgF ?_)
  | (with_reducible refine iYes ?_)
  | (with_reducible refine iteT ?_)
  | (with_reducible refine iteF ?_)
  | (with_reducible refine iIte ?_)
  | (with_reducible refine iAddD ?_)
  | (with_reducible refine iAddL ?_)
  | (with_reducible refine iCall ?_)
  | (with_reducible refine iFor ?_)
  | (with_reducible refine iAsgT ?_)
  | (with_reducible refine iTup ?_)
  | (with_reducible refine iLst ?_)
  | (with_reducible refine gTi ?_)
  | (with_reducible refine gsCi ?_)
  | (with_reducible refine gsNi ?_)
  | (with_reducible refine vSub_i ?_)
  | (with_reducible refine vAdd_i ?_)
  | (with_reducible refine vEq_i ?_)
  | (with_reducible refine vLt_i ?_)
  | (with_reducible refine vGt_i ?_)
  | (with_reducible refine vIsNot_s ?_)
  | (with_reducible refine vIsNot_non ?_)
  | (with_reducible refine vIs_str ?_)
  | (with_reducible refine vIs_non ?_)
  | (with_reducible refine vNe_s ?_)
  | ((with_reducible refine idx_t0 ?_))
  | ((with_reducible refine idx_mk0 ?_))
  | ((with_reducible refine idx_mk1 ?_))
  | (with_reducible refine iDc ?_)
  | (with_reducible refine iLc ?_)
  | (with_reducible refine iIts ?_)
  | (with_reducible refine iItsT ?_)
  | (with_reducible refine iILst ?_)
  | (with_reducible refine iIKeys ?_)
  | (with_reducible refine iIVals ?_)
  | ((with_reducible refine idx_t1 ?_))
  | ((with_reducible refine' gNi ?e1 ?_); (case e1 => simp [frz_len, unS_len]))
  | ((with_reducible refine' iVarRow ?e1 ?e2 ?_); (case e1 => exact rfl); (case e2 => with_reducible exact rfl))
  | ((with_reducible refine' iRdRow ?e1 ?e2 ?_); (case e1 => exact rfl); (case e2 => with_reducible exact rfl))
  | ((with_reducible refine' iVar ?e1 ?_); (case e1 => exact rfl))
  | ((with_reducible refine' iRd ?e1 ?_); (case e1 => exact rfl))
  | ((with_reducible refine' iRo ?e1 ?_); (case e1 => exact rfl))
  | ((with_reducible refine' iApp ?e1 ?_); (case e1 => exact rfl))
  | ((with_reducible refine' iPut ?e1 ?_); (case e1 => exact rfl))
  | ((with_reducible refine And.intro (le_ps ?e1) ?_); (case e1 => first | (simp only [List.length_cons, List.length_nil]; decide) | simp))
  | ((with_reducible refine And.intro (And.intro (lt_slots ?e1) (lt_slots ?e2)) ?_); (case e1 => simp); (case e2 => simp))
  | ((with_reducible refine And.intro (lt_slots ?e1) ?_); (case e1 => simp [frz_len, unS_len])))
local macro_rules | `(tactic| walk_at "w") => `(tactic| repeat (first | walk_at "w1" | (dsimp only) | (simp only [items_pv, itemsT_pv, keys_pv, vals_pv])))
section
variable {ws : List (Str × List (Str × Int))} {fl : List (Str × Int)}
def w_ls_row : WS := (wSeq (wAsg 7 (w2 (wRd 3) (wRd 5) vIdx))
  (wSeq (wAsg 8 (wIte (wCmp (wRd 7) (wC .non) vIs) (wC (.int 0)) (w2 (w2 (wRd 6) (wRd 7) vIdx) (w2 (wRd 2) (wRd 7) vIdx) vSub)))
  (wFor (wIItems (wVar 6)) (gT (gsC (gN 9) (gsC (gN 10) gsN))) w_ls_in)))
theorem ls_row {W : WD} {k : Nat} {hd : List (Str × Option Str)} {q0 q : Str → Int} {nb : Bool} {P : Prop} {b : Str} {r : List (Str × Int)} {x7 x8 x9 x10 x11 : Slot} {u p : Str → Int} (M : OkM ws fl) (he : (b, r) ∈ ws)
    (hk : hd.map (·.1) = ws.map (·.1)) (c : Asg.Cert (gF (gnOf ws fl)) (ws.map (·.1)) (hF hd) 0 u p) (p1 : Ps1 ws fl (hF hd) q0 q nb P)
    (fin : ∀ q' nb' x7 x8 x9 x10, Ps1 ws fl (hF hd) q0 q' nb' (P ∧ Chk ws fl (hF hd) q' b r) → W.nx (lsS ws fl hd q' nb' (.fz (.str b)) (.fz (pvRow r)) x7 x8 x9 x10 x11) k) :
    w_ls_row W (lsS ws fl hd q nb (.fz (.str b)) (.fz (pvRow r)) x7 x8 x9 x10 x11) k := by
  have hb : b ∈ ws.map (·.1) := List.mem_map.mpr ⟨_, he, rfl⟩
  have hhd : lk hd b = some (hF hd b) := by
    obtain ⟨o, ho⟩ := isSome_lk (hk ▸ hb : b ∈ hd.map (·.1))
    unfold hF; rw [ho]; rfl
  have goal2 : ∀ x9 x10, wForL (gT (gsC (gN 9) (gsC (gN 10) gsN))) w_ls_in W (r.map fun e => PV.tup [.str e.1, .int e.2])
      (lsS ws fl hd q nb (.fz (.str b)) (.fz (pvRow r)) (.fz (pvO (hF hd b))) (.fz (.int (Asg.keeps (gF (gnOf ws fl)) (hF hd) q b))) x9 x10 x11) k := by
    intro x9 x10
    refine forL_map r (fun e => PV.tup [.str e.1, .int e.2]) (fun pre S k' => k' = k ∧ ∃ q' nb' x9 x10, Ps1 ws fl (hF hd) q0 q' nb' (P ∧ Chk ws fl (hF hd) q' b pre) ∧ Asg.keeps (gF (gnOf ws fl)) (hF hd) q' b = Asg.keeps (gF (gnOf ws fl)) (hF hd) q b ∧
      S = lsS ws fl hd q' nb' (.fz (.str b)) (.fz (pvRow r)) (.fz (pvO (hF hd b))) (.fz (.int (Asg.keeps (gF (gnOf ws fl)) (hF hd) q b))) x9 x10 x11) ?_ ?_ r [] _ _ rfl ⟨rfl, q, nb, x9, x10, ⟨p1.low, fun e => ⟨(p1.no e).1, (p1.no e).2, fun w hw => (by cases hw)⟩, p1.yes⟩, rfl, rfl⟩
    · rintro pre w r' S k' hall ⟨rfl, q', nb', x9, x10, p', ek, rfl⟩ N hN
      unfold lsS
      walk_at "w"
      have := ls_in (W := { nx := N, rt := W.rt, bk := W.nx, ct := N }) (k := k') (x5 := .fz (.str b)) (x6 := .fz (pvRow r)) (x11 := x11) M he hall p' fun q'' nb'' p'' ek'' => by
        rw [ek] at ek'' ⊢
        exact hN _ _ ⟨rfl, q'', nb'', _, _, p'', ek'', rfl⟩
      rw [ek] at this
      exact this
    · rintro S k' ⟨rfl, q', nb', x9, x10, p', ek, rfl⟩
      exact fin q' nb' _ _ x9 x10 p'
  unfold w_ls_row
  unfold lsS at goal2 ⊢
  walk_at "w"
  refine vIdx_dk (f := pvO) hhd ?_
  walk_at "w"
  cases e : hF hd b with
  | none =>
    show vIs .non .non _
    walk_at "w"
    have := goal2 x9 x10
    unfold Asg.keeps at this
    rw [e] at this
    exact this
  | some y =>
    have g := c.eq b hb y e
    obtain ⟨r2, w, h1, h2, h3⟩ := gF_of M g
    have er : r2 = r := by
      have a1 := lk_of M.bk h1
      have a2 := lk_of M.bk he
      rw [a1] at a2; cases a2; rfl
    subst er
    have lw := lk_of (M.wk _ he) h2
    have lf := price_lk (q := q) (M.wf _ he (y, w) h2)
    show vIs (.str y) .non _
    walk_at "w"
    refine vIdx_dk (f := PV.int) lw ?_
    walk_at "w"
    refine vIdx_dk (f := PV.int) lf ?_
    walk_at "w"
    have := goal2 x9 x10
    unfold Asg.keeps at this
    rw [e] at this
    dsimp only at this
    rw [g, Option.getD_some] at this
    have ee : w - (val fl y + q y) = u b + p y - q y := by rw [h3]; omega
    rw [ee]
    exact this
theorem l_least_of (ps : List PV) (k : Nat) (R : PK) (hl : ps.length = 1) (h : t_least_of ps k R) : w_least_of t_best_of { nx := fun _ k => R .non k, rt := R } (startS 12 ps) k := by
  obtain ⟨ws, fl, rfl, M, hR⟩ := h
  show w_least_of _ _ [.fz (pvMk ws fl), .un, .un, .un, .un, .un, .un, .un, .un, .un, .un, .un] k
  have lw := M.lw
  have lf := M.lf
  unfold w_least_of
  walk_at "w"
  refine ⟨by rw [List.length_map]; unfold bigN; omega, ?_⟩
  refine cm_copy fl M.fk (by omega) (by simp [unS]) (by simp [unS]) (by decide) ?_
  walk_at "w"
  refine ⟨rfl, ws, fl, rfl, M, fun hd hk hc => ?_⟩
  obtain ⟨u, p, c⟩ := hc
  walk_at "w"
  have hh : ∀ b h x, gF (gnOf ws fl) b h = some x → h ∈ fl.map (·.1) := fun b h x hx => ((by_of M).gk b h x hx).2
  refine ⟨fun m S k' => k' = k ∧ ∃ q nb x5 x6 x7 x8 x9 x10 x11, Asg.Low (gF (gnOf ws fl)) (ws.map (·.1)) (hF hd) q ∧ S = lsS ws fl hd q nb x5 x6 x7 x8 x9 x10 x11 ∧
    (nb = false → Asg.Stab (gF (gnOf ws fl)) (ws.map (·.1)) (hF hd) q) ∧ m = if nb = true then (Sm fl p - Sm fl q).toNat + 1 else 0, ⟨_, rfl, _, true, .un, .un, .un, .un, .un, .un, .un, .zero, ?e1, fun e => (by cases e), rfl⟩, ?_⟩
  case e1 =>
    unfold lsS
    rw [price_zero]
    rfl
  rintro m S k' ⟨rfl, q, nb, x5, x6, x7, x8, x9, x10, x11, low, rfl, st, rfl⟩
  cases nb with
  | false =>
    refine iVl (iRd (p := .bl false) rfl (iteF ?_))
    unfold lsS
    walk_at "w"
    exact hR q (low.least (st rfl) c M.bk M.fk hh)
  | true =>
    have sm : ∀ q', Asg.Low (gF (gnOf ws fl)) (ws.map (·.1)) (hF hd) q' → Sm fl q' ≤ Sm fl p := fun q' l => Asg.sum_le fun h _ => l.le p c.stab h
    refine iVl (iRd (p := .bl true) rfl (iteT ⟨fun S k2 => k2 = k' ∧ ∃ q' nb' x5 x6 x7 x8 x9 x10 x11, Asg.Low (gF (gnOf ws fl)) (ws.map (·.1)) (hF hd) q' ∧ S = lsS ws fl hd q' nb' x5 x6 x7 x8 x9 x10 x11 ∧
      (nb' = false → Asg.Stab (gF (gnOf ws fl)) (ws.map (·.1)) (hF hd) q') ∧ (nb' = true → Sm fl q < Sm fl q'), ?_, ?_⟩))
    · rintro S k2 ⟨rfl, q', nb', x5, x6, x7, x8, x9, x10, x11, low', rfl, st', up⟩
      refine ⟨_, ?_, rfl, q', nb', x5, x6, x7, x8, x9, x10, x11, low', rfl, st', rfl⟩
      cases nb' with
      | false => simp
      | true =>
        have := sm q' low'
        have := up rfl
        simp only [if_true]
        omega
    · unfold lsS
      walk_at "w"
      refine forL_map ws (fun e => PV.tup [.str e.1, pvRow e.2]) (fun pre S k2 => k2 = k' ∧ ∃ q' nb' x5 x6 x7 x8 x9 x10, Ps1 ws fl (hF hd) q q' nb' (∀ e ∈ pre, Chk ws fl (hF hd) q e.1 e.2) ∧
        S = lsS ws fl hd q' nb' x5 x6 x7 x8 x9 x10 x11) ?_ ?_ ws [] _ _ rfl ⟨rfl, q, false, x5, x6, x7, x8, x9, x10, ⟨low, fun _ => ⟨rfl, fun e he => (by cases he)⟩, fun e => (by cases e)⟩, rfl⟩
      · rintro pre ⟨b, r⟩ r' S k2 hall ⟨rfl, q', nb', x5, x6, x7, x8, x9, x10, p1, rfl⟩ N hN
        have he : (b, r) ∈ ws := by rw [hall]; exact List.mem_append_right _ (List.mem_cons_self ..)
        have := ls_row (W := { nx := N, rt := R, bk := fun S k' => k' = k2 ∧ ∃ q' nb' x5 x6 x7 x8 x9 x10 x11, Asg.Low (gF (gnOf ws fl)) (ws.map (·.1)) (hF hd) q' ∧ S = lsS ws fl hd q' nb' x5 x6 x7 x8 x9 x10 x11 ∧
          (nb' = false → Asg.Stab (gF (gnOf ws fl)) (ws.map (·.1)) (hF hd) q') ∧ (nb' = true → Sm fl q < Sm fl q'), ct := N }) (k := k2) (x7 := x7) (x8 := x8) (x9 := x9) (x10 := x10) (x11 := x11) M he hk c p1 fun q'' nb'' x7 x8 x9 x10 p2 => hN _ _ ⟨rfl, q'', nb'', _, _, x7, x8, x9, x10, ⟨p2.low, fun e => ⟨(p2.no e).1, fun e' he' => ?_⟩, p2.yes⟩, rfl⟩
        · unfold lsS at this ⊢
          walk_at "w"
          exact this
        · have z := p2.no e
          rcases List.mem_append.mp he' with h1 | h1
          · exact z.2.1 e' h1
          · rw [List.mem_singleton.mp h1, ← z.1]
            exact z.2.2
      · rintro S k2 ⟨rfl, q', nb', x5, x6, x7, x8, x9, x10, p1, rfl⟩
        refine ⟨rfl, q', nb', x5, x6, x7, x8, x9, x10, x11, p1.low, rfl, fun e => ?_, p1.yes⟩
        have z := p1.no e
        rw [z.1]
        exact stab_of M low z.2
end
end PH
set_option linter.all false
set_option autoImplicit false
set_option maxRecDepth 100000
/-! Q24: greatest prices. -/
namespace PH
open PySem
open PySem.Spec
open L2
open TL
local macro_rules | `(tactic| walk_at "w1") => `(tactic| first
  | (with_reducible refine iSeq ?_)
  | (with_reducible refine iIf ?_)
  | (with_reducible refine iSkip ?_)
  | (with_reducible refine iAnd ?_)
  | (with_reducible refine iOr ?_)
  | (with_reducible refine iNot ?_)
  | (with_reducible refine iCmp ?_)
  | (with_reducible refine i2 ?_)
  | (with_reducible refine i1 ?_)
  | (with_reducible refine iC ?_)
  | (with_reducible refine iNil ?_)
  | (with_reducible refine iCons ?_)
  | (with_reducible refine iRet ?_)
  | (with_reducible refine iFrz ?_)
  | (with_reducible refine iBool ?_)
  | (with_reducible refine iVl ?_)
  | (with_reducible refine iAndV ?_)
  | (with_reducible refine iPar ?_)
  | (with_reducible refine iAsg ?_)
  | (with_reducible refine iAsgF ?_)
  | (with_reducible refine iYes ?_)
  | (with_reducible refine iteT ?_)
  | (with_reducible refine iteF ?_)
  | (with_reducible refine iIte ?_)
  | (with_reducible refine iAddD ?_)
  | (with_reducible refine iAddL ?_)
  | (with_reducible refine iCall ?_)
  | (with_reducible refine iFor ?_)
  | (with_reducible refine iAsgT ?_)
  | (with_reducible refine iTup ?_)
  | (with_reducible refine iLst ?_)
  | (with_reducible refine gTi ?_)
  | (with_reducible refine gsCi ?_)
  | (with_reducible refine gsNi ?_)
  | (with_reducible refine vSub_i ?_)
  | (with_reducible refine vAdd_i ?_)
  | (with_reducible refine vEq_i ?_)
  | (with_reducible refine vLt_i ?_)
  | (with_reducible refine vGt_i ?_)
  | (with_reducible refine vIsNot_s ?_)
  | (with_reducible refine vIsNot_non ?_)
  | (with_reducible refine vIs_str ?_)
  | (with_reducible refine vIs_non ?_)
  | (with_reducible refine vNe_s ?_)
  | ((with_reducible refine idx_t0 ?_))
  | ((with_reducible refine idx_mk0 ?_))
  | ((with_reducible refine idx_mk1 ?_))
  | (with_reducible refine iDc ?_)
  | (with_reducible refine iLc ?_)
  | (with_reducible refine iIts ?_)
  | (with_reducible refine iItsT ?_)
  | (with_reducible refine iILst ?_)
  | (with_reducible refine iIKeys ?_)
  | (with_reducible refine iIVals ?_)
  | ((with_reducible refine idx_t1 ?_))
  | ((with_reducible refine' gNi ?e1 ?_); (case e1 => simp [frz_len, unS_len]))
  | ((with_reducible refine' iVarRow ?e1 ?e2 ?_); (case e1 => exact rfl); (case e2 => with_reducible exact rfl))
  | ((with_reducible refine' iRdRow ?e1 ?e2 ?_); (case e1 => exact rfl); (case e2 => with_reducible exact rfl))
  | ((with_reducible refine' iVar ?e1 ?_); (case e1 => exact rfl))
  | ((with_reducible refine' iRd ?e1 ?_); (case e1 => exact rfl))
  | ((with_reducible refine' iRo ?e1 ?_); (case e1 => exact rfl))
  | ((with_reducible refine' iApp ?e1 ?_); (case e1 => exact rfl))
  | ((with_reducible refine' iPut ?e1 ?_); (case e1 => exact rfl))
  | ((with_reducible refine And.intro (le_ps ?e1) ?_); (case e1 => first | (simp only [List.length_cons, List.length_nil]; decide) | simp))
  | ((with_reducible refine And.intro (And.intro (lt_slots ?e1) (lt_slots ?e2)) ?_); (case e1 => simp); (case e2 => simp))
  | ((with_reducible refine And.intro (lt_slots ?e1) ?_); (case e1 => simp [frz_len, unS_len])))
local macro_rules | `(tactic| walk_at "w") => `(tactic| repeat (first | walk_at "w1" | (dsimp only) | (simp only [items_pv, itemsT_pv, keys_pv, vals_pv])))
def w_greatest_by (t_best_of : TSp) : WS :=
  (wSeq (wAsg 1 (wCall 1 t_best_of (wCons (wVar 0) wNil)))
  (wSeq (wAsgF 2 (wDc (wIItems (w2 (wRd 0) (wC (.int 1)) vIdx)) [5, 7] (gT (gsC (gN 5) (gsC (gN 7) gsN))) wYes (wVar 5) (wVar 7) (u0P (.dK []))))
  (wSeq (wFor (wIItems (wVar 1)) (gT (gsC (gN 4) (gsC (gN 5) gsN))) (wIf (wCmp (wRd 5) (wC .non) vIsNot) (wPut 2 (wVar 5) (w2 (w2 (w2 (wRd 0) (wC (.int 0)) vIdx) (wRd 4) vIdx) (wRd 5) vIdx)) wSkip))
  (wSeq (wAsg 3 (wC (.bl true)))
  (wSeq (wWhile (wVal (wRd 3)) (wSeq (wAsg 3 (wC (.bl false)))
  (wFor (wIItems (wVar 1)) (gT (gsC (gN 4) (gsC (gN 6) gsN))) (wFor (wIItems (w2 (w2 (wRd 0) (wC (.int 0)) vIdx) (wRd 4) vIdx)) (gT (gsC (gN 5) (gsC (gN 8) gsN))) (wIf (wAnd (wCmp (wRd 6) (wC .non) vIsNot) (wCmp (w2 (wRd 2) (wRd 6) vIdx) (w2 (w2 (w2 (wRd 2) (wRd 5) vIdx) (w2 (w2 (w2 (wRd 0) (wC (.int 0)) vIdx) (wRd 4) vIdx) (wRd 6) vIdx) vAdd) (wRd 8) vSub) vGt)) (wSeq (wPut 2 (wVar 6) (w2 (w2 (w2 (wRd 2) (wRd 5) vIdx) (w2 (w2 (w2 (wRd 0) (wC (.int 0)) vIdx) (wRd 4) vIdx) (wRd 6) vIdx) vAdd) (wRd 8) vSub))
  (wAsg 3 (wC (.bl true)))) wSkip)))))
  (wFrz 2 (wRet (wVar 2))))))))

def t_greatest_by : TSp := fun ps k R => ∃ ws fl, ps = [pvMk ws fl] ∧ OkM ws fl ∧ ∀ q, Asg.Most (gF (gnOf ws fl)) (ws.map (·.1)) q → R (pvRow (priceRow fl q)) k
section
variable {ws : List (Str × List (Str × Int))} {fl : List (Str × Int)}
structure Hi (ws : List (Str × List (Str × Int))) (fl : List (Str × Int)) (hf : Str → Option Str) (q : Str → Int) : Prop where
  high : Asg.High (gF (gnOf ws fl)) (ws.map (·.1)) hf q
  up : ∀ b ∈ ws.map (·.1), ∀ h, hf b = some h → q h ≤ (gF (gnOf ws fl) b h).getD 0
  uz : ∀ h, (∀ b ∈ ws.map (·.1), hf b ≠ some h) → q h ≤ 0
def Ck2 (ws : List (Str × List (Str × Int))) (fl : List (Str × Int)) (q : Str → Int) (b : Str) (o : Option Str) (pre : List (Str × Int)) : Prop := ∀ w ∈ pre, ∀ h, o = some h → q h ≤ q w.1 + (gF (gnOf ws fl) b h).getD 0 - (w.2 - val fl w.1)
structure Pg (ws : List (Str × List (Str × Int))) (fl : List (Str × Int)) (hf : Str → Option Str) (q0 q : Str → Int) (nb : Bool) (P : Prop) : Prop where
  hi : Hi ws fl hf q
  no : nb = false → q = q0 ∧ P
  yes : nb = true → Sm fl q < Sm fl q0
def gbS (ws : List (Str × List (Str × Int))) (fl : List (Str × Int)) (hd : List (Str × Option Str)) (q : Str → Int) (x3 x4 x5 x6 x7 x8 : Slot) : List Slot :=
  [.fz (pvMk ws fl), .fz (.dk (pvM kS pvO hd)), .ow (.dk (pvM kS PV.int (priceRow fl q))), x3, x4, x5, x6, x7, x8]
def w_gb_in : WS := (wIf (wAnd (wCmp (wRd 6) (wC .non) vIsNot) (wCmp (w2 (wRd 2) (wRd 6) vIdx) (w2 (w2 (w2 (wRd 2) (wRd 5) vIdx) (w2 (w2 (w2 (wRd 0) (wC (.int 0)) vIdx) (wRd 4) vIdx) (wRd 6) vIdx) vAdd) (wRd 8) vSub) vGt)) (wSeq (wPut 2 (wVar 6) (w2 (w2 (w2 (wRd 2) (wRd 5) vIdx) (w2 (w2 (w2 (wRd 0) (wC (.int 0)) vIdx) (wRd 4) vIdx) (wRd 6) vIdx) vAdd) (wRd 8) vSub))
  (wAsg 3 (wC (.bl true)))) wSkip)
theorem gb_in {W : WD} {k : Nat} {hd : List (Str × Option Str)} {q0 q : Str → Int} {nb : Bool} {P : Prop} {b : Str} {r pre r' : List (Str × Int)} {w : Str × Int} {x7 : Slot} {u p : Str → Int} (M : OkM ws fl) (he : (b, r) ∈ ws) (hall : r = pre ++ w :: r')
    (c : Asg.Cert (gF (gnOf ws fl)) (ws.map (·.1)) (hF hd) 0 u p) (pg : Pg ws fl (hF hd) q0 q nb (P ∧ Ck2 ws fl q b (hF hd b) pre))
    (fin : ∀ q' nb', Pg ws fl (hF hd) q0 q' nb' (P ∧ Ck2 ws fl q' b (hF hd b) (pre ++ [w])) → W.nx (gbS ws fl hd q' (.fz (.bl nb')) (.fz (.str b)) (.fz (.str w.1)) (.fz (pvO (hF hd b))) x7 (.fz (.int w.2))) k) :
    w_gb_in W (gbS ws fl hd q (.fz (.bl nb)) (.fz (.str b)) (.fz (.str w.1)) (.fz (pvO (hF hd b))) x7 (.fz (.int w.2))) k := by
  have hw : w ∈ r := by rw [hall]; exact List.mem_append_right _ (List.mem_cons_self ..)
  have hm := M.wf _ he w hw
  have hg := gF_row M he hw
  have hb : b ∈ ws.map (·.1) := List.mem_map.mpr ⟨_, he, rfl⟩
  dsimp only at hg
  unfold w_gb_in gbS
  walk_at "w"
  cases e : hF hd b with
  | none =>
    show vIsNot .non .non _
    walk_at "w"
    rw [e] at fin pg
    refine fin q nb ⟨pg.hi, fun e' => ⟨(pg.no e').1, (pg.no e').2.1, fun w' hw' h z => (by cases z)⟩, pg.yes⟩
  | some m =>
    have g := c.eq b hb m e
    obtain ⟨r2, wm, h1, h2, h3⟩ := gF_of M g
    have er : r2 = r := by
      have a1 := lk_of M.bk h1
      have a2 := lk_of M.bk he
      rw [a1] at a2; cases a2; rfl
    subst er
    have lw := lk_of (M.wk _ he) h2
    have hmm : m ∈ fl.map (·.1) := M.wf _ he (m, wm) h2
    have lb := lk_of M.bk he
    rw [e] at fin pg
    show vIsNot (.str m) .non _
    walk_at "w"
    refine vIdx_dk (f := PV.int) (price_lk hmm) ?_
    walk_at "w"
    refine vIdx_dk (f := PV.int) (price_lk hm) ?_
    walk_at "w"
    refine vIdx_dk lb ?_
    walk_at "w"
    refine vIdx_dk (f := PV.int) lw ?_
    walk_at "w"
    refine ite01 (fun lt => ?_) fun lt => ?_
    · walk_at "w"
      refine vIdx_dk (f := PV.int) (price_lk hm) ?_
      walk_at "w"
      refine vIdx_dk lb ?_
      walk_at "w"
      refine vIdx_dk (f := PV.int) lw ?_
      walk_at "w"
      refine dPut_dk (f := PV.int) (b := m) (v := val fl w.1 + q w.1 + wm - w.2) rfl (by rw [price_len]; have := M.lf; unfold bigN; omega) ?_
      rw [price_put M.fk hmm]
      walk_at "w"
      have gm : (gF (gnOf ws fl) b m).getD 0 = wm - val fl m := by rw [g, Option.getD_some]; exact h3
      have e1 : val fl w.1 + q w.1 + wm - w.2 - val fl m = q w.1 + (gF (gnOf ws fl) b m).getD 0 - (w.2 - val fl w.1) := by rw [gm]; omega
      rw [e1]
      have lt' : q w.1 + (gF (gnOf ws fl) b m).getD 0 - (w.2 - val fl w.1) < q m := by rw [gm]; omega
      refine fin _ true ⟨⟨pg.hi.high.lower hb e hg, fun b' hb' h' e' => ?_, fun h' hn => ?_⟩, fun e' => (by cases e'), fun _ => ?_⟩
      · have := pg.hi.up b' hb' h' e'
        unfold Asg.putF
        split
        · rename_i z; subst z; omega
        · exact this
      · have := pg.hi.uz h' hn
        unfold Asg.putF
        rw [if_neg fun z : h' = m => hn b hb (by rw [z]; exact e)]
        exact this
      · unfold Sm
        rw [Asg.sum_putF M.fk hmm]
        have : Sm fl q ≤ Sm fl q0 := by
          cases nb with
          | true => have := pg.yes rfl; omega
          | false => rw [(pg.no rfl).1]; exact Int.le_refl _
        unfold Sm at this
        omega
    · walk_at "w"
      refine fin q nb ⟨pg.hi, fun e' => ⟨(pg.no e').1, (pg.no e').2.1, fun w' hw' h z => ?_⟩, pg.yes⟩
      rcases List.mem_append.mp hw' with h1' | h1'
      · exact (pg.no e').2.2 w' h1' h z
      · rw [List.mem_singleton.mp h1']
        cases z
        rw [g, Option.getD_some]
        omega
end
end PH
set_option linter.all false
set_option autoImplicit false
set_option maxRecDepth 100000
/-! Q25: greatest prices, the whole; the prices told by least_prices, greatest_prices. -/
namespace PH
open PySem
open PySem.Spec
open L2
open TL
local macro_rules | `(tactic| walk_at "w1") => `(tactic| first
  | (with_reducible refine iSeq ?_)
  | (with_reducible refine iIf ?_)
  | (with_reducible refine iSkip ?_)
  | (with_reducible refine iAnd ?_)
  | (with_reducible refine iOr ?_)
  | (with_reducible refine iNot ?_)
  | (with_reducible refine iCmp ?_)
  | (with_reducible refine i2 ?_)
  | (with_reducible refine i1 ?_)
  | (with_reducible refine iC ?_)
  | (with_reducible refine iNil ?_)
  | (with_reducible refine iCons ?_)
  | (with_reducible refine iRet ?_)
  | (with_reducible refine iFrz ?_)
  | (with_reducible refine iBool ?_)
  | (with_reducible refine iVl ?_)
  | (with_reducible refine iAndV ?_)
  | (with_reducible refine iPar ?_)
  | (with_reducible refine iAsg ?_)
  | (with_reducible refine iAsgF ?_)
  | (with_reducible refine iYes ?_)
  | (with_reducible refine iteT ?_)
  | (with_reducible refine iteF ?_)
  | (with_reducible refine iIte ?_)
  | (with_reducible refine iAddD ?_)
  | (with_reducible refine iAddL ?_)
  | (with_reducible refine iCall ?_)
  | (with_reducible refine iFor ?_)
  | (with_reducible refine iAsgT ?_)
  | (with_reducible refine iTup ?_)
  | (with_reducible refine iLst ?_)
  | (with_reducible refine gTi ?_)
  | (with_reducible refine gsCi ?_)
  | (with_reducible refine gsNi ?_)
  | (with_reducible refine vSub_i ?_)
  | (with_reducible refine vAdd_i ?_)
  | (with_reducible refine vEq_i ?_)
  | (with_reducible refine vLt_i ?_)
  | (with_reducible refine vGt_i ?_)
  | (with_reducible refine vIsNot_s ?_)
  | (with_reducible refine vIsNot_non ?_)
  | (with_reducible refine vIs_str ?_)
  | (with_reducible refine vIs_non ?_)
  | (with_reducible refine vNe_s ?_)
  | ((with_reducible refine idx_t0 ?_))
  | ((with_reducible refine idx_mk0 ?_))
  | ((with_reducible refine idx_mk1 ?_))
  | (with_reducible refine iDc ?_)
  | (with_reducible refine iLc ?_)
  | (with_reducible refine iIts ?_)
  | (with_reducible refine iItsT ?_)
  | (with_reducible refine iILst ?_)
  | (with_reducible refine iIKeys ?_)
  | (with_reducible refine iIVals ?_)
  | ((with_reducible refine idx_t1 ?_))
  | ((with_reducible refine' gNi ?e1 ?_); (case e1 => simp [frz_len, unS_len]))
  | ((with_reducible refine' iVarRow ?e1 ?e2 ?_); (case e1 => exact rfl); (case e2 => with_reducible exact rfl))
  | ((with_reducible refine' iRdRow ?e1 ?e2 ?_); (case e1 => exact rfl); (case e2 => with_reducible exact rfl))
  | ((with_reducible refine' iVar ?e1 ?_); (case e1 => exact rfl))
  | ((with_reducible refine' iRd ?e1 ?_); (case e1 => exact rfl))
  | ((with_reducible refine' iRo ?e1 ?_); (case e1 => exact rfl))
  | ((with_reducible refine' iApp ?e1 ?_); (case e1 => exact rfl))
  | ((with_reducible refine' iPut ?e1 ?_); (case e1 => exact rfl))
  | ((with_reducible refine And.intro (le_ps ?e1) ?_); (case e1 => first | (simp only [List.length_cons, List.length_nil]; decide) | simp))
  | ((with_reducible refine And.intro (And.intro (lt_slots ?e1) (lt_slots ?e2)) ?_); (case e1 => simp); (case e2 => simp))
  | ((with_reducible refine And.intro (lt_slots ?e1) ?_); (case e1 => simp [frz_len, unS_len])))
local macro_rules | `(tactic| walk_at "w") => `(tactic| repeat (first | walk_at "w1" | (dsimp only) | (simp only [items_pv, itemsT_pv, keys_pv, vals_pv])))
section
variable {ws : List (Str × List (Str × Int))} {fl : List (Str × Int)}
/-- the first prices: what is had is priced as it is worth -/
structure Fst1 (ws : List (Str × List (Str × Int))) (fl : List (Str × Int)) (pre : List (Str × Option Str)) (q : Str → Int) : Prop where
  yes : ∀ b h, (b, some h) ∈ pre → q h = (gF (gnOf ws fl) b h).getD 0
  no : ∀ h, (∀ b, (b, some h) ∉ pre) → q h = 0
theorem hF_mem {hd : List (Str × Option Str)} (nd : (hd.map (·.1)).Nodup) {b : Str} {o : Option Str} (h : (b, o) ∈ hd) : hF hd b = o := by
  unfold hF; rw [lk_of nd h]; rfl
theorem hF_to {hd : List (Str × Option Str)} {b h : Str} (e : hF hd b = some h) : (b, some h) ∈ hd := by
  unfold hF at e
  cases q : lk hd b with
  | none => rw [q] at e; cases e
  | some o =>
    rw [q] at e
    have : o = some h := e
    subst this
    exact lk_mem q
theorem Fst1.hi (M : OkM ws fl) {hd : List (Str × Option Str)} {q : Str → Int} (hk : hd.map (·.1) = ws.map (·.1)) (f : Fst1 ws fl hd q) : Hi ws fl (hF hd) q := by
  have nd : (hd.map (·.1)).Nodup := by rw [hk]; exact M.bk
  have mem : ∀ b h, (b, some h) ∈ hd → b ∈ ws.map (·.1) := fun b h m => by rw [← hk]; exact List.mem_map.mpr ⟨_, m, rfl⟩
  refine ⟨fun q' s h => ?_, fun b hb h e => ?_, fun h hn => ?_⟩
  · by_cases z : ∃ b, (b, some h) ∈ hd
    · obtain ⟨b, m⟩ := z
      rw [f.yes b h m]
      exact s.up b (mem b h m) h (hF_mem nd m)
    · rw [f.no h fun b m => z ⟨b, m⟩]
      exact s.uz h fun b hb e => z ⟨b, hF_to e⟩
  · rw [f.yes b h (hF_to e)]; exact Int.le_refl _
  · rw [f.no h fun b m => hn b (mem b h m) (hF_mem nd m)]; exact Int.le_refl _
theorem pvO_row (hd : List (Str × Option Str)) : (pvM kS pvO hd).map (fun kp => PV.tup [pk kp.1, kp.2]) = hd.map fun e => PV.tup [.str e.1, pvO e.2] := items_pv pvO hd
theorem l_greatest_by (ps : List PV) (k : Nat) (R : PK) (hl : ps.length = 1) (h : t_greatest_by ps k R) : w_greatest_by t_best_of { nx := fun _ k => R .non k, rt := R } (startS 9 ps) k := by
  obtain ⟨ws, fl, rfl, M, hR⟩ := h
  show w_greatest_by _ _ [.fz (pvMk ws fl), .un, .un, .un, .un, .un, .un, .un, .un] k
  have lw := M.lw
  have lf := M.lf
  unfold w_greatest_by
  walk_at "w"
  refine ⟨rfl, ws, fl, rfl, M, fun hd hk hc => ?_⟩
  obtain ⟨u, p, c⟩ := hc
  have nd : (hd.map (·.1)).Nodup := by rw [hk]; exact M.bk
  have mem : ∀ b o, (b, o) ∈ hd → b ∈ ws.map (·.1) := fun b h m => by rw [← hk]; exact List.mem_map.mpr ⟨_, m, rfl⟩
  have hh : ∀ b h x, gF (gnOf ws fl) b h = some x → h ∈ fl.map (·.1) := fun b h x hx => ((by_of M).gk b h x hx).2
  walk_at "w"
  refine ⟨by rw [List.length_map]; unfold bigN; omega, ?_⟩
  refine cm_copy fl M.fk (by omega) (by simp [unS]) (by simp [unS]) (by decide) ?_
  walk_at "w"
  refine forL_map hd (fun e => PV.tup [.str e.1, pvO e.2]) (fun pre S k2 => k2 = k ∧ ∃ q x4 x5, Fst1 ws fl pre q ∧ S = gbS ws fl hd q .un x4 x5 .un .un .un) ?_ ?_ hd [] _ _ rfl ⟨rfl, fun _ => 0, .un, .un, ⟨fun b h z => (by cases z), fun _ _ => rfl⟩, ?_⟩
  · rintro pre ⟨b, o⟩ r' S k2 hall ⟨rfl, q, x4, x5, f, rfl⟩ N hN
    have hm : (b, o) ∈ hd := by rw [hall]; exact List.mem_append_right _ (List.mem_cons_self ..)
    unfold gbS
    walk_at "w"
    cases o with
    | none =>
      show vIsNot .non .non _
      walk_at "w"
      refine hN _ _ ⟨rfl, q, .fz (.str b), .fz .non, ⟨fun b' h' z => ?_, fun h' z => f.no h' fun b' m => z b' (List.mem_append_left _ m)⟩, rfl⟩
      rcases List.mem_append.mp z with z | z
      · exact f.yes b' h' z
      · cases List.mem_singleton.mp z
    | some h =>
      have e := hF_mem nd hm
      have hb := mem b _ hm
      have g := c.eq b hb h e
      obtain ⟨r2, wm, h1, h2, h3⟩ := gF_of M g
      have lb := lk_of M.bk h1
      have lw := lk_of (M.wk _ h1) h2
      have hmm : h ∈ fl.map (·.1) := M.wf _ h1 (h, wm) h2
      show vIsNot (.str h) .non _
      walk_at "w"
      refine vIdx_dk lb ?_
      walk_at "w"
      refine vIdx_dk (f := PV.int) lw ?_
      walk_at "w"
      refine dPut_dk (f := PV.int) (b := h) (v := wm) rfl (by rw [price_len]; unfold bigN; omega) ?_
      rw [price_put M.fk hmm]
      walk_at "w"
      have gm : (gF (gnOf ws fl) b h).getD 0 = wm - val fl h := by rw [g, Option.getD_some]; exact h3
      refine hN _ _ ⟨rfl, _, .fz (.str b), .fz (.str h), ⟨fun b' h' z => ?_, fun h' z => ?_⟩, rfl⟩
      · unfold Asg.putF
        rcases List.mem_append.mp z with z1 | z2
        · have hne : h' ≠ h := by
            rintro rfl
            have m' : (b', some h') ∈ hd := by rw [hall]; exact List.mem_append_left _ z1
            have := c.inj b' (mem _ _ m') b hb h' (hF_mem nd m') e
            subst this
            rw [hall, List.map_append, List.nodup_append] at nd
            exact nd.2.2 b' (List.mem_map.mpr ⟨_, z1, rfl⟩) b' (by simp) rfl
          rw [if_neg hne]
          exact f.yes b' h' z1
        · cases List.mem_singleton.mp z2
          rw [if_pos rfl, gm]
      · unfold Asg.putF
        rw [if_neg fun y : h' = h => z b (by rw [y]; exact List.mem_append_right _ (List.mem_cons_self ..))]
        exact f.no h' fun b' m => z b' (List.mem_append_left _ m)
  · rintro S k2 ⟨rfl, q, x4, x5, f, rfl⟩
    have hi := f.hi M hk
    unfold gbS
    walk_at "w"
    refine ⟨fun m S k' => k' = k2 ∧ ∃ q nb x4 x5 x6 x7 x8, Hi ws fl (hF hd) q ∧ S = gbS ws fl hd q (.fz (.bl nb)) x4 x5 x6 x7 x8 ∧
      (nb = false → Asg.Gst (gF (gnOf ws fl)) (ws.map (·.1)) (hF hd) q) ∧ m = if nb = true then (Sm fl q - Sm fl p).toNat + 1 else 0, ⟨_, rfl, q, true, x4, x5, .un, .un, .un, hi, rfl, fun e => (by cases e), rfl⟩, ?_⟩
    rintro m S k' ⟨rfl, q, nb, x4, x5, x6, x7, x8, hi, rfl, st, rfl⟩
    cases nb with
    | false =>
      refine iVl (iRd (p := .bl false) rfl (iteF ?_))
      unfold gbS
      walk_at "w"
      exact hR q (hi.high.most (st rfl) c M.bk M.fk hh)
    | true =>
      have sm : ∀ q', Hi ws fl (hF hd) q' → Sm fl p ≤ Sm fl q' := fun q' l => Asg.sum_le fun h _ => l.high p c.gst h
      refine iVl (iRd (p := .bl true) rfl (iteT ⟨fun S k2 => k2 = k' ∧ ∃ q' nb' x4 x5 x6 x7 x8, Hi ws fl (hF hd) q' ∧ S = gbS ws fl hd q' (.fz (.bl nb')) x4 x5 x6 x7 x8 ∧
        (nb' = false → Asg.Gst (gF (gnOf ws fl)) (ws.map (·.1)) (hF hd) q') ∧ (nb' = true → Sm fl q' < Sm fl q), ?_, ?_⟩))
      · rintro S k2 ⟨rfl, q', nb', x4, x5, x6, x7, x8, hi', rfl, st', up⟩
        refine ⟨_, ?_, rfl, q', nb', x4, x5, x6, x7, x8, hi', rfl, st', rfl⟩
        cases nb' with
        | false => simp
        | true =>
          have := sm q' hi'
          have := up rfl
          simp only [if_true]
          omega
      · unfold gbS
        walk_at "w"
        refine forL_map hd (fun e => PV.tup [.str e.1, pvO e.2]) (fun pre S k2 => k2 = k' ∧ ∃ q' nb' x4 x5 x6 x7 x8, Pg ws fl (hF hd) q q' nb' (∀ e ∈ pre, ∀ r, (e.1, r) ∈ ws → Ck2 ws fl q e.1 e.2 r) ∧
          S = gbS ws fl hd q' (.fz (.bl nb')) x4 x5 x6 x7 x8) ?_ ?_ hd [] _ _ rfl ⟨rfl, q, false, x4, x5, x6, x7, x8, ⟨hi, fun _ => ⟨rfl, fun e he => (by cases he)⟩, fun e => (by cases e)⟩, rfl⟩
        · rintro pre ⟨b, o⟩ r' S k2 hall ⟨rfl, q', nb', x4, x5, x6, x7, x8, p1, rfl⟩ N hN
          have hm : (b, o) ∈ hd := by rw [hall]; exact List.mem_append_right _ (List.mem_cons_self ..)
          have hb := mem b _ hm
          have eo := hF_mem nd hm
          obtain ⟨r, hr⟩ := isSome_lk hb
          have he := lk_mem hr
          unfold gbS
          walk_at "w"
          refine vIdx_dk hr ?_
          show wForL _ _ _ ((pvM kS PV.int r).map (fun kp => PV.tup [pk kp.1, kp.2])) _ k2
          rw [items_pv]
          refine forL_map r (fun e => PV.tup [.str e.1, .int e.2]) (fun pre2 S k3 => k3 = k2 ∧ ∃ q2 nb2 x5 x8, Pg ws fl (hF hd) q q2 nb2 ((∀ e ∈ pre, ∀ r, (e.1, r) ∈ ws → Ck2 ws fl q e.1 e.2 r) ∧ Ck2 ws fl q2 b (hF hd b) pre2) ∧
            S = gbS ws fl hd q2 (.fz (.bl nb2)) (.fz (.str b)) x5 (.fz (pvO (hF hd b))) x7 x8) ?_ ?_ r [] _ _ rfl ⟨rfl, q', nb', x5, x8, ⟨p1.hi, fun e => ⟨(p1.no e).1, (p1.no e).2, fun w hw => (by cases hw)⟩, p1.yes⟩, by rw [eo]; rfl⟩
          · rintro pre2 w r2 S k3 hall2 ⟨rfl, q2, nb2, x5, x8, p2, rfl⟩ N2 hN2
            have := gb_in (W := { nx := N2, rt := R, bk := N, ct := N2 }) (k := k3) (x7 := x7) M he hall2 c p2 fun q3 nb3 p3 => hN2 _ _ ⟨rfl, q3, nb3, _, _, p3, rfl⟩
            unfold gbS at this ⊢
            walk_at "w"
            exact this
          · rintro S k3 ⟨rfl, q2, nb2, x5, x8, p2, rfl⟩
            refine hN _ _ ⟨rfl, q2, nb2, _, x5, _, x7, x8, ⟨p2.hi, fun e => ⟨(p2.no e).1, fun e' he' r3 hr3 => ?_⟩, p2.yes⟩, rfl⟩
            have z := p2.no e
            rcases List.mem_append.mp he' with h1 | h1
            · exact z.2.1 e' h1 r3 hr3
            · have h1' := List.mem_singleton.mp h1
              subst h1'
              have : r3 = r := by
                have a1 := lk_of M.bk hr3
                have a2 := lk_of M.bk he
                rw [a1] at a2; cases a2; rfl
              rw [this, ← z.1]
              rw [eo] at z
              exact z.2.2
        · rintro S k2 ⟨rfl, q', nb', x4, x5, x6, x7, x8, p1, rfl⟩
          refine ⟨rfl, q', nb', x4, x5, x6, x7, x8, p1.hi, rfl, fun e => ?_, p1.yes⟩
          have z := p1.no e
          rw [z.1]
          refine ⟨hi.up, hi.uz, fun b hb h e' k x hx => ?_⟩
          obtain ⟨r, w, h1, h2, h3⟩ := gF_of M hx
          have := z.2 (b, some h) (hF_to e') r h1 (k, w) h2 h rfl
          rw [h3]
          exact this
  · unfold gbS
    rw [price_zero]
    rfl
end
end PH
set_option linter.all false
set_option autoImplicit false
set_option maxRecDepth 100000
/-! Q26: defs over checked markets; all best pairings. -/
namespace PH
open PySem
open PySem.Spec
open L2
open TL
local macro_rules | `(tactic| walk_at "w1") => `(tactic| first
  | (with_reducible refine iSeq ?_)
  | (with_reducible refine iIf ?_)
  | (with_reducible refine iSkip ?_)
  | (with_reducible refine iAnd ?_)
  | (with_reducible refine iOr ?_)
  | (with_reducible refine iNot ?_)
  | (with_reducible refine iCmp ?_)
  | (with_reducible refine i2 ?_)
  | (with_reducible refine i1 ?_)
  | (with_reducible refine iC ?_)
  | (with_reducible refine iNil ?_)
  | (with_reducible refine iCons ?_)
  | (with_reducible refine iRet ?_)
  | (with_reducible refine iFrz ?_)
  | (with_reducible refine iBool ?_)
  | (with_reducible refine iVl ?_)
  | (with_reducible refine iAndV ?_)
  | (with_reducible refine iPar ?_)
  | (with_reducible refine iAsg ?_)
  | (with_reducible refine iAsgF ?_)
  | (with_reducible refine iYes ?_)
  | (with_reducible refine iteT ?_)
  | (with_reducible refine iteF ?_)
  | (with_reducible refine iIte ?_)
  | (with_reducible refine iAddD ?_)
  | (with_reducible refine iAddL ?_)
  | (with_reducible refine iCall ?_)
  | (with_reducible refine iFor ?_)
  | (with_reducible refine iAsgT ?_)
  | (with_reducible refine iTup ?_)
  | (with_reducible refine iLst ?_)
  | (with_reducible refine gTi ?_)
  | (with_reducible refine gsCi ?_)
  | (with_reducible refine gsNi ?_)
  | (with_reducible refine vSub_i ?_)
  | (with_reducible refine vAdd_i ?_)
  | (with_reducible refine vEq_i ?_)
  | (with_reducible refine vLt_i ?_)
  | (with_reducible refine vGt_i ?_)
  | (with_reducible refine vIsNot_s ?_)
  | (with_reducible refine vIsNot_non ?_)
  | (with_reducible refine vIs_str ?_)
  | (with_reducible refine vIs_non ?_)
  | (with_reducible refine vNe_s ?_)
  | ((with_reducible refine idx_t0 ?_))
  | ((with_reducible refine idx_mk0 ?_))
  | ((with_reducible refine idx_mk1 ?_))
  | (with_reducible refine iDc ?_)
  | (with_reducible refine iLc ?_)
  | (with_reducible refine iIts ?_)
  | (with_reducible refine iItsT ?_)
  | (with_reducible refine iILst ?_)
  | (with_reducible refine iIKeys ?_)
  | (with_reducible refine iIVals ?_)
  | ((with_reducible refine idx_t1 ?_))
  | ((with_reducible refine' gNi ?e1 ?_); (case e1 => simp [frz_len, unS_len]))
  | ((with_reducible refine' iVarRow ?e1 ?e2 ?_); (case e1 => exact rfl); (case e2 => with_reducible exact rfl))
  | ((with_reducible refine' iRdRow ?e1 ?e2 ?_); (case e1 => exact rfl); (case e2 => with_reducible exact rfl))
  | ((with_reducible refine' iVar ?e1 ?_); (case e1 => exact rfl))
  | ((with_reducible refine' iRd ?e1 ?_); (case e1 => exact rfl))
  | ((with_reducible refine' iRo ?e1 ?_); (case e1 => exact rfl))
  | ((with_reducible refine' iApp ?e1 ?_); (case e1 => exact rfl))
  | ((with_reducible refine' iPut ?e1 ?_); (case e1 => exact rfl))
  | ((with_reducible refine And.intro (le_ps ?e1) ?_); (case e1 => first | (simp only [List.length_cons, List.length_nil]; decide) | simp))
  | ((with_reducible refine And.intro (And.intro (lt_slots ?e1) (lt_slots ?e2)) ?_); (case e1 => simp); (case e2 => simp))
  | ((with_reducible refine And.intro (lt_slots ?e1) ?_); (case e1 => simp [frz_len, unS_len])))
local macro_rules | `(tactic| walk_at "w") => `(tactic| repeat (first | walk_at "w1" | (dsimp only) | (simp only [items_pv, itemsT_pv, keys_pv, vals_pv])))
def w_least_prices (t_checked_market t_least_of : TSp) : WS :=
  (wRet (wCall 1 t_least_of (wCons (wCall 1 t_checked_market (wCons (wVar 0) wNil)) wNil)))
def w_greatest_prices (t_checked_market t_greatest_by : TSp) : WS :=
  (wRet (wCall 1 t_greatest_by (wCons (wCall 1 t_checked_market (wCons (wVar 0) wNil)) wNil)))
/-- a promise over the market in the order of names -/
def chk1 (τ : TSp) : TSp := fun ps k R => ∃ ws fl, ps = [pvMk ws fl] ∧ OkM ws fl ∧ ws ≠ [] ∧ ∀ ws' fl', Srt ws fl ws' fl' → τ [pvMk ws' fl'] k R
theorem l_chk1 {τ : TSp} (ps : List PV) (k : Nat) (R : PK) (hl : ps.length = 1) (h : chk1 τ ps k R) : (wRet (wCall 1 τ (wCons (wCall 1 t_checked_market (wCons (wVar 0) wNil)) wNil))) { nx := fun _ k => R .non k, rt := R } (startS 1 ps) k := by
  obtain ⟨ws, fl, rfl, M, hne, hR⟩ := h
  show wRet _ _ [.fz (pvMk ws fl)] k
  walk_at "w"
  refine ⟨rfl, ws, fl, rfl, M, hne, fun ws' fl' hS => ?_⟩
  walk_at "w"
  exact ⟨rfl, hR ws' fl' hS⟩
def t_least_prices : TSp := chk1 t_least_of
def t_greatest_prices : TSp := chk1 t_greatest_by
def t_in_some : TSp := chk1 t_pairs_in_some
def t_greatest_sum' : TSp := chk1 t_greatest_of
theorem l_least_prices (ps : List PV) (k : Nat) (R : PK) (hl : ps.length = 1) (h : t_least_prices ps k R) : w_least_prices t_checked_market t_least_of { nx := fun _ k => R .non k, rt := R } (startS 1 ps) k := l_chk1 ps k R hl h
theorem l_greatest_prices (ps : List PV) (k : Nat) (R : PK) (hl : ps.length = 1) (h : t_greatest_prices ps k R) : w_greatest_prices t_checked_market t_greatest_by { nx := fun _ k => R .non k, rt := R } (startS 1 ps) k := l_chk1 ps k R hl h
theorem l_in_some (ps : List PV) (k : Nat) (R : PK) (hl : ps.length = 1) (h : t_in_some ps k R) : w_in_some t_checked_market t_pairs_in_some { nx := fun _ k => R .non k, rt := R } (startS 1 ps) k := l_chk1 ps k R hl h
theorem l_greatest_sum' (ps : List PV) (k : Nat) (R : PK) (hl : ps.length = 1) (h : t_greatest_sum' ps k R) : w_greatest_sum t_checked_market t_greatest_of { nx := fun _ k => R .non k, rt := R } (startS 1 ps) k := l_chk1 ps k R hl h

def w_all_best (t_greatest_of t_sum_of : TSp) : WS :=
  (wSeq (wAsg 1 (wLst (wCons (wC (.dk [])) wNil)))
  (wSeq (wFor (wIItems (w2 (wRd 0) (wC (.int 0)) vIdx)) (gT (gsC (gN 3) (gsC (gN 4) gsN))) (wSeq (wAsgF 5 (wLst wNil))
  (wSeq (wFor (wILst (wVar 1)) (gN 6) (wSeq (wApp 5 (wDstar (wVar 6) (wVar 3) (wC .non)))
  (wExt 5 (wLc (wIKeys (wVar 4)) [7] (gN 7) (wCmp (wVar 7) (wRd 6) vNotIn_values) (wDstar (wVar 6) (wVar 3) (wVar 7))))))
  (wFrz 5 (wAsg 1 (wVar 5))))))
  (wSeq (wAsg 2 (wCall 1 t_greatest_of (wCons (wVar 0) wNil)))
  (wRet (wLc (wILst (wVar 1)) [6] (gN 6) (wCmp (wCall 2 t_sum_of (wCons (wVar 0) (wCons (wVar 6) wNil))) (wRd 2) vEq) (wVar 6))))))
def w_best_count (t_checked_market t_all_best : TSp) : WS :=
  (wRet (w1 (wCall 1 t_all_best (wCons (wCall 1 t_checked_market (wCons (wVar 0) wNil)) wNil)) vLen))

abbrev Row := List (Str × Option Str)
def hasH (row : Row) (h : Str) : Bool := row.any fun e => decide (e.2 = some h)
/-- the rows that go on from one, of buyer b -/
def extR (b : Str) (wants : List (Str × Int)) (row : Row) : List Row := (row ++ [(b, none)]) :: (wants.filter fun w => !hasH row w.1).map fun w => row ++ [(b, some w.1)]
def rowsFrom (rows : List Row) : List (Str × List (Str × Int)) → List Row
  | [] => rows
  | e :: ws => rowsFrom (rows.flatMap (extR e.1 e.2)) ws
def rowsOf (ws : List (Str × List (Str × Int))) : List Row := rowsFrom [[]] ws
theorem rowsFrom_append (rows : List Row) : ∀ (p q : List (Str × List (Str × Int))), rowsFrom rows (p ++ q) = rowsFrom (rowsFrom rows p) q
  | [], _ => rfl
  | e :: p, q => rowsFrom_append (rows.flatMap (extR e.1 e.2)) p q
theorem ext_len (b : Str) (wants : List (Str × Int)) : ∀ rows : List Row, rows.length ≤ (rows.flatMap (extR b wants)).length
  | [] => Nat.le_refl _
  | r :: rows => by
    rw [List.flatMap_cons, List.length_append, List.length_cons]
    have := ext_len b wants rows
    unfold extR at this ⊢
    rw [List.length_cons]
    omega
theorem rowsFrom_len : ∀ (ws : List (Str × List (Str × Int))) (rows : List Row), rows.length ≤ (rowsFrom rows ws).length
  | [], rows => Nat.le_refl _
  | e :: ws, rows => Nat.le_trans (ext_len e.1 e.2 rows) (rowsFrom_len ws _)
theorem ext_mem {b : Str} {wants : List (Str × Int)} {row r : Row} (h : r ∈ extR b wants row) : ∃ o : Option Str, r = row ++ [(b, o)] ∧ ∀ x, o = some x → x ∈ wants.map (·.1) ∧ hasH row x = false := by
  unfold extR at h
  rcases List.mem_cons.mp h with z | z
  · exact ⟨none, z, fun x e => by cases e⟩
  · obtain ⟨w, hw, rfl⟩ := List.mem_map.mp z
    obtain ⟨h1, h2⟩ := List.mem_filter.mp hw
    refine ⟨some w.1, rfl, fun x e => ?_⟩
    cases e
    exact ⟨List.mem_map.mpr ⟨w, h1, rfl⟩, by simpa using h2⟩
theorem ext_iff {b : Str} {wants : List (Str × Int)} {row r : Row} : r ∈ extR b wants row ↔ ∃ o : Option Str, r = row ++ [(b, o)] ∧ ∀ x, o = some x → x ∈ wants.map (·.1) ∧ hasH row x = false := by
  refine ⟨ext_mem, fun ⟨o, e, h⟩ => ?_⟩
  subst e
  unfold extR
  cases o with
  | none => exact List.mem_cons_self ..
  | some x =>
    obtain ⟨h1, h2⟩ := h x rfl
    obtain ⟨w, hw, rfl⟩ := List.mem_map.mp h1
    exact List.mem_cons_of_mem _ (List.mem_map.mpr ⟨w, List.mem_filter.mpr ⟨hw, by simp [h2]⟩, rfl⟩)
/-- what all rows are -/
theorem rows_keys : ∀ {pre : List (Str × List (Str × Int))} {rows : List Row} {ks : List Str}, (∀ r ∈ rows, r.map (·.1) = ks) → ∀ r ∈ rowsFrom rows pre, r.map (·.1) = ks ++ pre.map (·.1)
  | [], rows, ks, h => fun r hr => by rw [List.map_nil, List.append_nil]; exact h r hr
  | e :: pre, rows, ks, h => fun r hr => by
    have := rows_keys (pre := pre) (rows := rows.flatMap (extR e.1 e.2)) (ks := ks ++ [e.1]) (fun r hr => by
      obtain ⟨row, h1, h2⟩ := List.mem_flatMap.mp hr
      obtain ⟨o, rfl, _⟩ := ext_mem h2
      rw [List.map_append, h row h1]; rfl) r hr
    rw [this, List.map_cons, List.append_assoc]; rfl
theorem rows_want {ws : List (Str × List (Str × Int))} : ∀ {pre : List (Str × List (Str × Int))} {rows : List Row}, (∀ e ∈ pre, e ∈ ws) → (∀ r ∈ rows, ∀ b h, (b, some h) ∈ r → ∃ wants, (b, wants) ∈ ws ∧ h ∈ wants.map (·.1)) → ∀ r ∈ rowsFrom rows pre, ∀ b h, (b, some h) ∈ r → ∃ wants, (b, wants) ∈ ws ∧ h ∈ wants.map (·.1)
  | [], rows, _, h => h
  | e :: pre, rows, hp, h => rows_want (pre := pre) (fun e' he' => hp e' (List.mem_cons_of_mem _ he')) fun r hr b x hm => by
    obtain ⟨row, h1, h2⟩ := List.mem_flatMap.mp hr
    obtain ⟨o, rfl, ho⟩ := ext_mem h2
    rcases List.mem_append.mp hm with z | z
    · exact h row h1 b x z
    · cases List.mem_singleton.mp z
      exact ⟨e.2, hp e (List.mem_cons_self ..), (ho x rfl).1⟩
def t_all_best : TSp := fun ps k R => ∃ ws fl n, ps = [pvMk ws fl] ∧ OkM ws fl ∧ Gs ws fl n ∧ (rowsOf ws).length ≤ 1000000 ∧ R (.lst (((rowsOf ws).filter fun r => decide ((sumL ws fl r).sum = n)).map fun r => .dk (pvM kS pvO r))) k
theorem ins_vals {row : Row} {x : Str} {R : Bool → Prop} (h : R (!hasH row x)) : vNotIn_values (.str x) (.dk (pvM kS pvO row)) R := by
  refine ⟨fun kv hkv => ?_, ?_⟩
  · obtain ⟨e, he, rfl⟩ := List.mem_map.mp hkv
    cases e.2 <;> rfl
  · have e : ((pvM kS pvO row).any fun kv => eqS x kv.2) = hasH row x := by
      unfold pvM hasH
      rw [List.any_map]
      congr 1
      funext e
      show eqS x (pvO e.2) = decide (e.2 = some x)
      cases e.2 with
      | none => rfl
      | some y =>
        show decide (y = x) = decide (some y = some x)
        by_cases z : y = x
        · subst z; simp
        · rw [decide_eq_false z, decide_eq_false (fun e => z (by cases e; rfl))]
    rw [e]; exact h
theorem iDstar {wr wk wv : WE} {S : List Slot} {k : Nat} {R : PK} (h : wr S k fun d k1 => match d with
  | .dk kvs => kvs.length < bigN ∧ wk S k1 fun q k2 => wv S k2 fun v k3 => ∃ κ, keyOf q = some κ ∧ R (.dk (putP kvs κ v)) k3
  | _ => False) : wDstar wr wk wv S k R := h
theorem put_row {row : Row} {b : Str} {o : Option Str} {v : PV} (e : v = pvO o) (h : b ∉ row.map (·.1)) : putP (pvM kS pvO row) (Sum.inr b : Key) v = pvM kS pvO (row ++ [(b, o)]) := by
  subst e
  have := put_pvM kS_inj pvO row b o
  rw [put_new h] at this
  exact this
theorem iExt {wa : WE} {W : WD} {S : List Slot} {k i : Nat} {ps : List PV} (e : S[i]? = some (.ow (.lst ps))) (h : wa S k fun p k' => match p with
  | .lst qs => ps.length + qs.length ≤ bigN ∧ W.nx (S.set i (.ow (.lst (ps ++ qs)))) k'
  | _ => False) : wExt i wa W S k := by
  unfold wExt lstAt; rw [e]; exact h
theorem l_all_best (ps : List PV) (k : Nat) (R : PK) (hl : ps.length = 1) (h : t_all_best ps k R) : w_all_best t_greatest_of t_sum_of { nx := fun _ k => R .non k, rt := R } (startS 8 ps) k := by
  obtain ⟨ws, fl, n, rfl, M, g, hlen, hR⟩ := h
  show w_all_best _ _ _ [.fz (pvMk ws fl), .un, .un, .un, .un, .un, .un, .un] k
  have lw := M.lw
  have lf := M.lf
  unfold w_all_best
  walk_at "w"
  have rl : ∀ pre r, ws = pre ++ r → (rowsFrom [[]] pre).length ≤ 1000000 := fun pre r e => by
    have h1 := rowsFrom_len r (rowsFrom [[]] pre)
    rw [← rowsFrom_append, ← e] at h1
    exact Nat.le_trans h1 hlen
  have rk : ∀ pre, ∀ row ∈ rowsFrom [[]] pre, row.map (·.1) = pre.map (·.1) := fun pre row hr => by
    have := rows_keys (pre := pre) (rows := [[]]) (ks := []) (fun r hr => by rw [List.mem_singleton.mp hr]; rfl) row hr
    simpa using this
  refine forL_map ws (fun e => PV.tup [.str e.1, pvRow e.2]) (fun pre S k2 => k2 = k ∧ ∃ x2 x3 x4 x5 x6 x7, S = [.fz (pvMk ws fl), .fz (.lst ((rowsFrom [[]] pre).map fun r => .dk (pvM kS pvO r))), x2, x3, x4, x5, x6, x7]) ?_ ?_ ws [] _ _ rfl ⟨rfl, .un, .un, .un, .un, .un, .un, rfl⟩
  · rintro pre ⟨b, wants⟩ r' S k2 hall ⟨rfl, x2, x3, x4, x5, x6, x7, rfl⟩ N hN
    have he : (b, wants) ∈ ws := by rw [hall]; exact List.mem_append_right _ (List.mem_cons_self ..)
    have hl2 := rl (pre ++ [(b, wants)]) r' (by rw [hall]; simp)
    have wl : wants.length ≤ 30 := by have := len_sub (M.wk _ he) (M.wf _ he); dsimp only at this; omega
    have nb : b ∉ pre.map (·.1) := by
      have nd := M.bk
      rw [hall, List.map_append, List.nodup_append] at nd
      intro z
      exact nd.2.2 b z b (by simp) rfl
    have pl : pre.length ≤ 30 := by have := congrArg List.length hall; rw [List.length_append] at this; omega
    have e1 : rowsFrom [[]] (pre ++ [(b, wants)]) = (rowsFrom [[]] pre).flatMap (extR b wants) := by rw [rowsFrom_append]; rfl
    rw [e1] at hl2
    walk_at "w"
    refine forL_map (rowsFrom [[]] pre) (fun r => PV.dk (pvM kS pvO r)) (fun pr S k3 => k3 = k2 ∧ ∃ x6 x7, S = [.fz (pvMk ws fl), .fz (.lst ((rowsFrom [[]] pre).map fun r => .dk (pvM kS pvO r))), x2, .fz (.str b), .fz (pvRow wants), .ow (.lst ((pr.flatMap (extR b wants)).map fun r => .dk (pvM kS pvO r))), x6, x7]) ?_ ?_ _ [] _ _ rfl ⟨rfl, x6, x7, rfl⟩
    · rintro pr row rr S k3 hall2 ⟨rfl, x6, x7, rfl⟩ N2 hN2
      have hrow := rk pre row (by rw [hall2]; exact List.mem_append_right _ (List.mem_cons_self ..))
      have nbr : b ∉ row.map (·.1) := by rw [hrow]; exact nb
      have rlen : row.length ≤ 30 := by
        have := congrArg List.length hrow
        rw [List.length_map, List.length_map] at this; omega
      have e2 : (pr ++ [row]).flatMap (extR b wants) = pr.flatMap (extR b wants) ++ extR b wants row := by simp
      have hl3 : ((pr ++ [row]).flatMap (extR b wants)).length ≤ 1000000 := by
        refine Nat.le_trans ?_ hl2
        rw [hall2, show pr ++ row :: rr = (pr ++ [row]) ++ rr by simp, List.flatMap_append (xs := pr ++ [row]), List.length_append]
        omega
      rw [e2, List.length_append] at hl3
      have hl4 : (pr.flatMap (extR b wants)).length + 1 + ((wants.filter fun w => !hasH row w.1).map fun w => row ++ [(b, some w.1)]).length ≤ 1000000 := by
        unfold extR at hl3 ⊢
        rw [List.length_cons] at hl3
        omega
      walk_at "w"
      refine iDstar ?_
      walk_at "w"
      refine ⟨by unfold pvM; rw [List.length_map]; unfold bigN; omega, ?_⟩
      walk_at "w"
      refine ⟨Sum.inr b, rfl, ?_⟩
      rw [put_row (v := .non) (o := none) rfl nbr]
      refine ⟨by rw [List.length_map]; unfold bigN; omega, ?_⟩
      refine iExt rfl ?_
      walk_at "w"
      refine ⟨by rw [List.length_map]; unfold bigN; omega, ?_⟩
      refine cmL_map wants (fun w => PV.str w.1) (fun pr2 acc => acc = ((pr2.filter fun w => !hasH row w.1).map fun w => row ++ [(b, some w.1)]).map fun r => PV.dk (pvM kS pvO r)) ?_ ?_ wants [] _ rfl rfl
      · rintro pr2 w rr2 acc R' hall3 rfl hR'
        walk_at "w"
        refine ins_vals ?_
        rw [List.filter_append, List.map_append, List.map_append] at hR'
        refine iteD (fun e => ?_) fun e => ?_
        · rw [List.filter_cons_of_pos (by simpa using e)] at hR'
          walk_at "w"
          refine iDstar ?_
          walk_at "w"
          refine ⟨by unfold pvM; rw [List.length_map]; unfold bigN; omega, ?_⟩
          walk_at "w"
          refine ⟨Sum.inr b, rfl, ?_⟩
          rw [put_row (v := .str w.1) (o := some w.1) rfl nbr]
          exact hR' _ rfl
        · rw [List.filter_cons_of_neg (by simpa using e), List.filter_nil, List.map_nil, List.map_nil, List.append_nil] at hR'
          exact hR' _ rfl
      · rintro acc rfl
        refine ⟨by rw [List.length_append, List.length_map, List.length_map]; unfold bigN; simp only [List.length_cons, List.length_nil]; omega, ?_⟩
        refine hN2 _ _ ⟨rfl, .fz (.dk (pvM kS pvO row)), x7, ?_⟩
        rw [e2]
        unfold extR
        simp only [List.map_append, List.map_cons, List.append_assoc, List.singleton_append]
        rfl
    · rintro S k3 ⟨rfl, x6, x7, rfl⟩
      walk_at "w"
      refine hN _ _ ⟨rfl, x2, .fz (.str b), .fz (pvRow wants), .fz (.lst (((rowsFrom [[]] pre).flatMap (extR b wants)).map fun r => .dk (pvM kS pvO r))), x6, x7, ?_⟩
      rw [e1]
      rfl
  · rintro S k2 ⟨rfl, x2, x3, x4, x5, x6, x7, rfl⟩
    walk_at "w"
    refine ⟨rfl, greatest_n M g ?_⟩
    walk_at "w"
    refine ⟨by rw [List.length_map]; exact hlen, ?_⟩
    refine cmL_map (rowsFrom [[]] ws) (fun r => PV.dk (pvM kS pvO r)) (fun pr acc => acc = (pr.filter fun r => decide ((sumL ws fl r).sum = n)).map fun r => PV.dk (pvM kS pvO r)) ?_ ?_ _ [] _ rfl rfl
    · rintro pr row rr acc R' hall2 rfl hR'
      have hm : row ∈ rowsFrom [[]] ws := by rw [hall2]; exact List.mem_append_right _ (List.mem_cons_self ..)
      have hrow := rk ws row hm
      have rlen : row.length ≤ 30 := by
        have := congrArg List.length hrow
        rw [List.length_map, List.length_map] at this; omega
      have hwant : Wanted ws fl row := fun b h m => by
        obtain ⟨wants, h1, h2⟩ := rows_want (ws := ws) (pre := ws) (rows := [[]]) (fun _ e => e) (fun r hr b h m => by rw [List.mem_singleton.mp hr] at m; cases m) row hm b h m
        obtain ⟨w, hw⟩ := isSome_lk h2
        obtain ⟨q, hq, hq1⟩ := List.mem_map.mp h2
        obtain ⟨f, hf⟩ := isSome_lk (M.wf _ h1 q hq)
        rw [hq1] at hf
        exact ⟨wants, w, f, lk_of M.bk h1, hw, hf⟩
      walk_at "w"
      refine ⟨rfl, ws, fl, row, rfl, by omega, hwant, ?_⟩
      walk_at "w"
      rw [List.filter_append, List.map_append] at hR'
      refine ite01 (fun e => ?_) fun e => ?_
      · rw [List.filter_cons_of_pos (by simpa using e)] at hR'
        walk_at "w"
        exact hR' _ rfl
      · rw [List.filter_cons_of_neg (by simpa using e), List.filter_nil, List.map_nil, List.append_nil] at hR'
        exact hR' _ rfl
    · rintro acc rfl
      exact hR
def t_best_count : TSp := fun ps k R => ∃ ws fl, ps = [pvMk ws fl] ∧ OkM ws fl ∧ ws ≠ [] ∧ ∀ ws' fl', Srt ws fl ws' fl' → ∃ n, Gs ws' fl' n ∧ (rowsOf ws').length ≤ 1000000 ∧ R (.int (((rowsOf ws').filter fun r => decide ((sumL ws' fl' r).sum = n)).length : Nat)) k
theorem l_best_count (ps : List PV) (k : Nat) (R : PK) (hl : ps.length = 1) (h : t_best_count ps k R) : w_best_count t_checked_market t_all_best { nx := fun _ k => R .non k, rt := R } (startS 1 ps) k := by
  obtain ⟨ws, fl, rfl, M, hne, hR⟩ := h
  show w_best_count _ _ _ [.fz (pvMk ws fl)] k
  unfold w_best_count
  walk_at "w"
  refine ⟨rfl, ws, fl, rfl, M, hne, fun ws' fl' hS => ?_⟩
  obtain ⟨n, g, hlen, hR⟩ := hR ws' fl' hS
  walk_at "w"
  refine ⟨rfl, ws', fl', n, rfl, hS.ok M, g, hlen, ?_⟩
  show R (.int ((((rowsOf ws').filter fun r => decide ((sumL ws' fl' r).sum = n)).map fun r => PV.dk (pvM kS pvO r)).length : Nat)) k
  rw [List.length_map]
  exact hR
end PH
set_option linter.all false
set_option autoImplicit false
set_option maxRecDepth 100000
/-! Q27: what the laws share: picks, copies, likeness. -/
namespace PH
open PySem
open PySem.Spec
open L2
open TL
local macro_rules | `(tactic| walk_at "w1") => `(tactic| first
  | (with_reducible refine iSeq ?_)
  | (with_reducible refine iIf ?_)
  | (with_reducible refine iSkip ?_)
  | (with_reducible refine iAnd ?_)
  | (with_reducible refine iOr ?_)
  | (with_reducible refine iNot ?_)
  | (with_reducible refine iCmp ?_)
  | (with_reducible refine i2 ?_)
  | (with_reducible refine i1 ?_)
  | (with_reducible refine iC ?_)
  | (with_reducible refine iNil ?_)
  | (with_reducible refine iCons ?_)
  | (with_reducible refine iRet ?_)
  | (with_reducible refine iFrz ?_)
  | (with_reducible refine iBool ?_)
  | (with_reducible refine iVl ?_)
  | (with_reducible refine iAndV ?_)
  | (with_reducible refine iPar ?_)
  | (with_reducible refine iAsg ?_)
  | (with_reducible refine iAsgF ?_)
  | (with_reducible refine iYes ?_)
  | (with_reducible refine iteT ?_)
  | (with_reducible refine iteF ?_)
  | (with_reducible refine iIte ?_)
  | (with_reducible refine iAddD ?_)
  | (with_reducible refine iAddL ?_)
  | (with_reducible refine iCall ?_)
  | (with_reducible refine iFor ?_)
  | (with_reducible refine iAsgT ?_)
  | (with_reducible refine iTup ?_)
  | (with_reducible refine iLst ?_)
  | (with_reducible refine gTi ?_)
  | (with_reducible refine gsCi ?_)
  | (with_reducible refine gsNi ?_)
  | (with_reducible refine vSub_i ?_)
  | (with_reducible refine vAdd_i ?_)
  | (with_reducible refine vEq_i ?_)
  | (with_reducible refine vLt_i ?_)
  | (with_reducible refine vGt_i ?_)
  | (with_reducible refine vIsNot_s ?_)
  | (with_reducible refine vIsNot_non ?_)
  | (with_reducible refine vIs_str ?_)
  | (with_reducible refine vIs_non ?_)
  | (with_reducible refine vNe_s ?_)
  | ((with_reducible refine idx_t0 ?_))
  | ((with_reducible refine idx_mk0 ?_))
  | ((with_reducible refine idx_mk1 ?_))
  | (with_reducible refine iDc ?_)
  | (with_reducible refine iLc ?_)
  | (with_reducible refine iIts ?_)
  | (with_reducible refine iItsT ?_)
  | (with_reducible refine iILst ?_)
  | (with_reducible refine iIKeys ?_)
  | (with_reducible refine iIVals ?_)
  | ((with_reducible refine idx_t1 ?_))
  | ((with_reducible refine' gNi ?e1 ?_); (case e1 => simp [frz_len, unS_len]))
  | ((with_reducible refine' iVarRow ?e1 ?e2 ?_); (case e1 => exact rfl); (case e2 => with_reducible exact rfl))
  | ((with_reducible refine' iRdRow ?e1 ?e2 ?_); (case e1 => exact rfl); (case e2 => with_reducible exact rfl))
  | ((with_reducible refine' iVar ?e1 ?_); (case e1 => exact rfl))
  | ((with_reducible refine' iRd ?e1 ?_); (case e1 => exact rfl))
  | ((with_reducible refine' iRo ?e1 ?_); (case e1 => exact rfl))
  | ((with_reducible refine' iApp ?e1 ?_); (case e1 => exact rfl))
  | ((with_reducible refine' iPut ?e1 ?_); (case e1 => exact rfl))
  | ((with_reducible refine And.intro (le_ps ?e1) ?_); (case e1 => first | (simp only [List.length_cons, List.length_nil]; decide) | simp))
  | ((with_reducible refine And.intro (And.intro (lt_slots ?e1) (lt_slots ?e2)) ?_); (case e1 => simp); (case e2 => simp))
  | ((with_reducible refine And.intro (lt_slots ?e1) ?_); (case e1 => simp [frz_len, unS_len])))
local macro_rules | `(tactic| walk_at "w") => `(tactic| repeat (first | walk_at "w1" | (dsimp only) | (simp only [items_pv, itemsT_pv, keys_pv, vals_pv])))
def w__law_pick (t__law_draw : TSp) : WS :=
  (wRet (w2 (wRd 1) (wCall 2 t__law_draw (wCons (wVar 0) (wCons (w1 (wRd 1) vLen) wNil))) vIdx))

def w__law_copied (t__law_copied : TSp) : WS :=
  (wSeq (wIf (wVal (w1 (wRd 0) (vIsi "dict"))) (wRet (w1 (wLc (fun S k R => wIKeys (wVar 0) S k R ∨ wILst (wVar 0) S k R ∨ wITup (wVar 0) S k R) [3] (gN 3) wYes (wTup (wCons (wVar 3) (wCons (wCall 1 t__law_copied (wCons (w2 (wRd 0) (wRd 3) vIdx) wNil)) wNil)))) vDict)) wSkip)
  (wSeq (wIf (wNot (wVal (w1 (wRd 0) (vIsiT ["list", "tuple"])))) (wRet (wVar 0)) wSkip)
  (wSeq (wAsgF 1 (wLc (fun S k R => wIKeys (wVar 0) S k R ∨ wILst (wVar 0) S k R ∨ wITup (wVar 0) S k R) [2] (gN 2) wYes (wCall 1 t__law_copied (wCons (wVar 2) wNil))))
  (wFrz 1 (wRet (wIte (wVal (w1 (wRd 0) (vIsi "list"))) (wVar 1) (w1 (wRd 1) vTuple)))))))

def w__law_same (t__law_same : TSp) : WS :=
  (wSeq (wIf (wVal (w1 (wRd 1) (vIsiT ["list", "tuple"]))) (wSeq (wIf (wOr (wCmp (w1 (wRd 0) (vIsi "list")) (w1 (wRd 1) (vIsi "list")) vNe) (wCmp (w1 (wRd 0) (vIsi "tuple")) (w1 (wRd 1) (vIsi "tuple")) vNe)) (wRet (wC (.bl false))) wSkip)
  (wRet (wAndV (wBool (wCmp (w1 (wRd 0) vLen) (w1 (wRd 1) vLen) vEq)) (w1 (wLc (wIZip (wVar 0) (wVar 1)) [2, 3] (gT (gsC (gN 2) (gsC (gN 3) gsN))) wYes (wCall 2 t__law_same (wCons (wVar 2) (wCons (wVar 3) wNil)))) vAll)))) wSkip)
  (wSeq (wIf (wVal (w1 (wRd 1) (vIsi "dict"))) (wRet (wAndV (w1 (wRd 0) (vIsi "dict")) (wCall 2 t__law_same (wCons (w1 (wRd 0) vList_items) (wCons (w1 (wRd 1) vList_items) wNil))))) wSkip)
  (wSeq (wIf (wVal (w1 (wRd 1) (vIsi "int"))) (wRet (wAndV (w1 (wRd 0) (vIsi "int")) (wAndV (wBool (wCmp (w1 (wRd 0) (vIsi "bool")) (w1 (wRd 1) (vIsi "bool")) vEq)) (wBool (wCmp (wRd 0) (wRd 1) vEq))))) wSkip)
  (wSeq (wIf (wCmp (wRd 1) (wC .non) vIs) (wRet (wBool (wCmp (wRd 0) (wC .non) vIs))) wSkip)
  (wSeq (wIf (wVal (w1 (wRd 1) (vIsi "str"))) (wRet (wAndV (w1 (wRd 0) (vIsi "str")) (wBool (wCmp (wRd 0) (wRd 1) vEq)))) wSkip)
  (wRet (wAndV (wNotV (w1 (wRd 0) (vIsiT ["int", "str", "list", "tuple", "dict"]))) (wBool (wCmp (wRd 0) (wRd 1) vEq)))))))))

/-- the draw's promise -/
def t__law_draw : TSp := fun ps k R => ∃ n : Int, ps = [.stm, .int n] ∧ 0 < n ∧ n < 1073741824 ∧ k < 1000000 ∧ ∀ d : Int, 0 ≤ d → d < n → R (.int d) (k + 1)
def t__law_pick : TSp := fun ps k R => ∃ xs, ps = [.stm, .lst xs] ∧ 0 < xs.length ∧ xs.length ≤ 1000000 ∧ k < 1000000 ∧ ∀ x ∈ xs, R x (k + 1)
theorem idx_l {xs : List PV} {i : Int} {R : PV → Prop} {p : PV} (h0 : 0 ≤ i) (e : xs[i.toNat]? = some p) (h : R p) : vIdx (.lst xs) (.int i) R := by
  refine ⟨p, ?_, h⟩
  unfold atI ixN
  have hl : i.toNat < xs.length := (List.getElem?_eq_some_iff.mp e).1
  rw [if_pos h0, if_pos (by omega)]
  exact e
theorem l__law_pick (ps : List PV) (k : Nat) (R : PK) (hl : ps.length = 2) (h : t__law_pick ps k R) : w__law_pick t__law_draw { nx := fun _ k => R .non k, rt := R } (startS 2 ps) k := by
  obtain ⟨xs, rfl, h0, hb, hk, hR⟩ := h
  show w__law_pick _ _ [.fz .stm, .fz (.lst xs)] k
  unfold w__law_pick
  walk_at "w"
  show vLen (.lst xs) _
  refine ⟨rfl, xs.length, rfl, by omega, by omega, hk, fun d d0 d1 => ?_⟩
  have hd : d.toNat < xs.length := by omega
  refine idx_l (p := xs[d.toNat]) d0 (by rw [List.getElem?_eq_getElem hd]) (hR _ (List.getElem_mem hd))
/-! copies -/
def Cd : Nat → PV → Prop
  | _, .non => True
  | _, .bl _ => True
  | _, .int _ => True
  | _, .str _ => True
  | n + 1, .lst xs => xs.length ≤ 1000000 ∧ ∀ x ∈ xs, Cd n x
  | n + 1, .tup xs => xs.length ≤ 1000000 ∧ ∀ x ∈ xs, Cd n x
  | n + 1, .dk kvs => kvs.length ≤ 1000000 ∧ (kvs.map (·.1)).Nodup ∧ ∀ e ∈ kvs, Cd n e.2
  | _, _ => False
def t_copy (n : Nat) : TSp := fun ps k R => ∃ p, ps = [p] ∧ Cd n p ∧ R p k
def t_no : TSp := fun _ _ _ => False
theorem vIsi_no {T : String} {p : PV} {a : String} {R : PV → Prop} (e : tyN p = some a) (h : R (.bl (isI a T))) : vIsi T p R := by
  unfold vIsi; rw [e]; exact h
theorem vIsiT_no {Ts : List String} {p : PV} {a : String} {R : PV → Prop} (e : tyN p = some a) (h : R (.bl (Ts.any (isI a)))) : vIsiT Ts p R := by
  unfold vIsiT; rw [e]; exact h
theorem pairs_pk : ∀ l : List (Key × PV), pairsOf (l.map fun e => PV.tup [pk e.1, e.2]) = some l
  | [] => rfl
  | e :: l => by
    have hk : keyOf (pk e.1) = some e.1 := by
      cases e.1 <;> rfl
    show (match keyOf (pk e.1), pairsOf (l.map fun e => PV.tup [pk e.1, e.2]) with
      | some κ, some l => some ((κ, e.2) :: l)
      | _, _ => none) = _
    rw [pairs_pk l, hk]
theorem look_of' {κ : Type} [DecidableEq κ] {l : List (κ × PV)} {e : κ × PV} (nd : (l.map (·.1)).Nodup) (h : e ∈ l) : look l e.1 = some e.2 := lk_of nd h
theorem l_copy (n : Nat) (ps : List PV) (k : Nat) (R : PK) (hl : ps.length = 1) (h : t_copy (n + 1) ps k R) : w__law_copied (t_copy n) { nx := fun _ k => R .non k, rt := R } (startS 4 ps) k := by
  obtain ⟨p, rfl, hp, hR⟩ := h
  show w__law_copied _ _ [.fz p, .un, .un, .un] k
  unfold w__law_copied
  have flat : ∀ a, tyN p = some a → isI a "dict" = false → (["list", "tuple"].any (isI a)) = false → (wSeq (wIf (wVal (w1 (wRd 0) (vIsi "dict"))) (wRet (w1 (wLc (fun S k R => wIKeys (wVar 0) S k R ∨ wILst (wVar 0) S k R ∨ wITup (wVar 0) S k R) [3] (gN 3) wYes (wTup (wCons (wVar 3) (wCons (wCall 1 (t_copy n) (wCons (w2 (wRd 0) (wRd 3) vIdx) wNil)) wNil)))) vDict)) wSkip)
  (wSeq (wIf (wNot (wVal (w1 (wRd 0) (vIsiT ["list", "tuple"])))) (wRet (wVar 0)) wSkip)
  (wSeq (wAsgF 1 (wLc (fun S k R => wIKeys (wVar 0) S k R ∨ wILst (wVar 0) S k R ∨ wITup (wVar 0) S k R) [2] (gN 2) wYes (wCall 1 (t_copy n) (wCons (wVar 2) wNil))))
  (wFrz 1 (wRet (wIte (wVal (w1 (wRd 0) (vIsi "list"))) (wVar 1) (w1 (wRd 1) vTuple))))))) { nx := fun _ k => R .non k, rt := R } [.fz p, .un, .un, .un] k := by
    intro a e h1 h2
    refine iSeq (iIf (iVl (i1 (iRd (p := p) rfl (vIsi_no e ?_)))))
    rw [h1]
    walk_at "w"
    refine vIsiT_no e ?_
    rw [h2]
    walk_at "w"
    exact hR
  have fin : ∀ xs : List PV, xs.length ≤ 1000000 → (∀ x ∈ xs, Cd n x) → ∀ (S : List Slot) (k : Nat) (R' : List PV → Nat → Prop), R' xs k → 2 < S.length → wCmL (gN 2) wYes (addL (wCall 1 (t_copy n) (wCons (wVar 2) wNil))) S R' xs [] k := by
    intro xs h1 h2 S k R' hR' hS
    have := cmL_map (g := gN 2) (tt := wYes) (add := addL (wCall 1 (t_copy n) (wCons (wVar 2) wNil))) (S0 := S) (Rf := R') (k := k) xs (fun x => x) (fun pre acc => acc = pre) ?_ (fun acc e => by rw [e]; exact hR') xs [] [] rfl rfl
    · rw [List.map_id'] at this; exact this
    · rintro pre a r' acc R2 hall rfl hR2
      have ha : a ∈ xs := by rw [hall]; exact List.mem_append_right _ (List.mem_cons_self ..)
      refine ⟨hS, iYes (iteT (iAddL (iCall (iCons (iVar (p := a) (List.getElem?_set_self hS) ?_)))))⟩
      exact iNil ⟨rfl, a, rfl, h2 a ha, hR2 _ rfl⟩
  cases p with
  | non => exact flat _ rfl (by decide) (by decide)
  | bl b => exact flat _ rfl (by decide) (by decide)
  | int i => exact flat _ rfl (by decide) (by decide)
  | str x => exact flat _ rfl (by decide) (by decide)
  | lst xs =>
    obtain ⟨h1, h2⟩ := hp
    walk_at "w"
    refine vIsi_no rfl ?_
    rw [show isI "list" "dict" = false by decide]
    walk_at "w"
    refine vIsiT_no rfl ?_
    rw [show (["list", "tuple"].any (isI "list")) = true by decide]
    walk_at "w"
    refine .inr (.inl (iILst (iVar (p := .lst xs) rfl ⟨h1, fin xs h1 h2 _ _ _ ?_ (by simp [unS_len])⟩)))
    walk_at "w"
    refine vIsi_no rfl ?_
    rw [show isI "list" "list" = true by decide]
    walk_at "w"
    exact hR
  | tup xs =>
    obtain ⟨h1, h2⟩ := hp
    walk_at "w"
    refine vIsi_no rfl ?_
    rw [show isI "tuple" "dict" = false by decide]
    walk_at "w"
    refine vIsiT_no rfl ?_
    rw [show (["list", "tuple"].any (isI "tuple")) = true by decide]
    walk_at "w"
    refine .inr (.inr ?_)
    show wVar 0 _ _ _
    refine iVar (p := .tup xs) rfl ?_
    refine ⟨h1, fin xs h1 h2 _ _ _ ?_ (by simp [unS_len])⟩
    walk_at "w"
    refine vIsi_no rfl ?_
    rw [show isI "tuple" "list" = false by decide]
    walk_at "w"
    exact hR
  | dk kvs =>
    obtain ⟨h1, h2, h3⟩ := hp
    walk_at "w"
    refine vIsi_no rfl ?_
    rw [show isI "dict" "dict" = true by decide]
    walk_at "w"
    refine .inl (iIKeys (iVar (p := .dk kvs) rfl ⟨by rw [List.length_map]; exact h1, ?_⟩))
    refine cmL_map kvs (fun e => pk e.1) (fun pre acc => acc = pre.map fun e => PV.tup [pk e.1, e.2]) ?_ ?_ kvs [] _ rfl rfl
    · rintro pre e r' acc R2 hall rfl hR2
      have hm : e ∈ kvs := by rw [hall]; exact List.mem_append_right _ (List.mem_cons_self ..)
      have hke : keyOf (pk e.1) = some e.1 := by cases e.1 <;> rfl
      walk_at "w"
      have goal : ∀ κ v, (κ, v) ∈ kvs → ∀ R : PV → Prop, R v → vIdx (.dk kvs) (pk κ) R := fun κ v hm R hR => by
        cases κ with
        | inl i => exact ⟨.inl i, rfl, v, look_of' h2 hm, hR⟩
        | inr x => exact ⟨.inr x, rfl, v, look_of' h2 hm, hR⟩
      refine goal e.1 e.2 hm _ ?_
      walk_at "w"
      refine ⟨rfl, e.2, rfl, h3 e hm, ?_⟩
      walk_at "w"
      refine hR2 _ ?_
      rw [List.map_append]; rfl
    · rintro acc rfl
      refine ⟨kvs, pairs_pk kvs, ?_⟩
      rw [merge_nil kvs [] (by simpa using h2)]
      exact hR
  | dt kvs => exact hp.elim
  | stm => exact hp.elim
/-! likeness -/
def Sd : Nat → PV → Prop
  | _, .non => True
  | _, .bl _ => True
  | _, .int _ => True
  | _, .str _ => True
  | n + 1, .lst xs => xs.length ≤ 1000000 ∧ ∀ x ∈ xs, Sd n x
  | n + 1, .tup xs => xs.length ≤ 1000000 ∧ ∀ x ∈ xs, Sd n x
  | n + 3, .dk kvs => kvs.length ≤ 1000000 ∧ ∀ e ∈ kvs, Sd n e.2
  | _, _ => False
def t_same (n : Nat) : TSp := fun ps k R => ∃ p, ps = [p, p] ∧ Sd n p ∧ R (.bl true) k
theorem vLen_l {xs : List PV} {R : PV → Prop} (h : R (.int xs.length)) : vLen (.lst xs) R := h
theorem vLen_p {xs : List PV} {R : PV → Prop} (h : R (.int xs.length)) : vLen (.tup xs) R := h
theorem vNe_b {x : Bool} {R : Bool → Prop} (h : R false) : vNe (.bl x) (.bl x) R := by
  show R (!decide (x = x))
  rw [decide_eq_true rfl]; exact h
theorem vEq_b {x : Bool} {R : Bool → Prop} (h : R true) : vEq (.bl x) (.bl x) R := by
  show R (decide (x = x))
  rw [decide_eq_true rfl]; exact h
theorem vEq_ii {x : Int} {R : Bool → Prop} (h : R true) : vEq (.int x) (.int x) R := by
  show R (decide (x = x))
  rw [decide_eq_true rfl]; exact h
theorem Sd.pk (n : Nat) (κ : Key) : Sd n (pk κ) := by
  cases n <;> cases κ <;> trivial
theorem l_same (n : Nat) (ps : List PV) (k : Nat) (R : PK) (hl : ps.length = 2) (h : t_same (n + 1) ps k R) : w__law_same (t_same n) { nx := fun _ k => R .non k, rt := R } (startS 4 ps) k := by
  obtain ⟨p, rfl, hp, hR⟩ := h
  show w__law_same _ _ [.fz p, .fz p, .un, .un] k
  unfold w__law_same
  have fin : ∀ xs : List PV, xs.length ≤ 1000000 → (∀ x ∈ xs, Sd n x) → ∀ (S : List Slot) (k : Nat) (R' : List PV → Nat → Prop), R' (xs.map fun _ => .bl true) k → 3 < S.length → wCmL (gT (gsC (gN 2) (gsC (gN 3) gsN))) wYes (addL (wCall 2 (t_same n) (wCons (wVar 2) (wCons (wVar 3) wNil)))) S R' (zipP xs xs) [] k := by
    intro xs h1 h2 S k R' hR' hS
    have ez : zipP xs xs = xs.map fun x => PV.tup [x, x] := by
      unfold zipP
      clear h1 h2 hR'
      induction xs with
      | nil => rfl
      | cons x xs ih => simp only [List.zip_cons_cons, List.map_cons, ih]
    rw [ez]
    refine cm_true xs (fun x => PV.tup [x, x]) (fun a ha R2 hR2 => ?_) hR'
    refine ⟨by omega, by rw [List.length_set]; exact hS, rfl, ?_⟩
    refine iCall (iCons (iVar (p := a) ?_ (iCons (iVar (p := a) ?_ ?_))))
    · rw [List.getElem?_set_ne (by decide), List.getElem?_set_self (by omega)]
    · rw [List.getElem?_set_self (by rw [List.length_set]; exact hS)]
    · exact iNil ⟨rfl, a, rfl, h2 a ha, hR2⟩
  cases p with
  | non =>
    walk_at "w"
    refine vIsiT_no rfl ?_
    rw [show (["list", "tuple"].any (isI "NoneType")) = false by decide]
    walk_at "w"
    refine vIsi_no rfl ?_
    rw [show isI "NoneType" "dict" = false by decide]
    walk_at "w"
    refine vIsi_no rfl ?_
    rw [show isI "NoneType" "int" = false by decide]
    walk_at "w"
    exact hR
  | bl b =>
    walk_at "w"
    refine vIsiT_no rfl ?_
    rw [show (["list", "tuple"].any (isI "bool")) = false by decide]
    walk_at "w"
    refine vIsi_no rfl ?_
    rw [show isI "bool" "dict" = false by decide]
    walk_at "w"
    refine vIsi_no rfl ?_
    rw [show isI "bool" "int" = true by decide]
    walk_at "w"
    refine vIsi_no rfl ?_
    rw [show isI "bool" "int" = true by decide]
    walk_at "w"
    refine vIsi_no rfl ?_
    refine iRd (p := .bl b) rfl (vIsi_no rfl ?_)
    rw [show isI "bool" "bool" = true by decide]
    show R (.bl (decide (b = b))) k
    simpa using hR
  | int i =>
    walk_at "w"
    refine vIsiT_no rfl ?_
    rw [show (["list", "tuple"].any (isI "int")) = false by decide]
    walk_at "w"
    refine vIsi_no rfl ?_
    rw [show isI "int" "dict" = false by decide]
    walk_at "w"
    refine vIsi_no rfl ?_
    rw [show isI "int" "int" = true by decide]
    walk_at "w"
    refine vIsi_no rfl ?_
    rw [show isI "int" "int" = true by decide]
    walk_at "w"
    refine vIsi_no rfl ?_
    refine iRd (p := .int i) rfl (vIsi_no rfl ?_)
    rw [show isI "int" "bool" = false by decide]
    show R (.bl (decide (i = i))) k
    simpa using hR
  | str x =>
    walk_at "w"
    refine vIsiT_no rfl ?_
    rw [show (["list", "tuple"].any (isI "str")) = false by decide]
    walk_at "w"
    refine vIsi_no rfl ?_
    rw [show isI "str" "dict" = false by decide]
    walk_at "w"
    refine vIsi_no rfl ?_
    rw [show isI "str" "int" = false by decide]
    walk_at "w"
    refine vIsi_no rfl ?_
    rw [show isI "str" "str" = true by decide]
    walk_at "w"
    refine vIsi_no rfl ?_
    rw [show isI "str" "str" = true by decide]
    show R (.bl (decide (x = x))) k
    simpa using hR
  | lst xs =>
    obtain ⟨h1, h2⟩ : xs.length ≤ 1000000 ∧ ∀ x ∈ xs, Sd n x := by cases n with
      | zero => exact hp
      | succ n => exact hp
    walk_at "w"
    refine vIsiT_no rfl ?_
    rw [show (["list", "tuple"].any (isI "list")) = true by decide]
    walk_at "w"
    refine vIsi_no rfl (iRd (p := .lst xs) rfl (vIsi_no rfl (vNe_b (iteF ?_))))
    walk_at "w"
    refine vIsi_no rfl (iRd (p := .lst xs) rfl (vIsi_no rfl (vNe_b (iteF ?_))))
    walk_at "w"
    refine vLen_l (i1 (iRd (p := .lst xs) rfl (vLen_l (vEq_ii (i1 ?_)))))
    refine iLc (iVar (p := .lst xs) rfl ?_)
    refine iVar (p := .lst xs) rfl ?_
    refine ⟨by unfold zipP; rw [List.length_map, List.length_zip]; unfold bigN; omega, ?_⟩
    exact fin xs h1 h2 _ _ _ (vAll_true hR) (by simp [unS_len])
  | tup xs =>
    obtain ⟨h1, h2⟩ : xs.length ≤ 1000000 ∧ ∀ x ∈ xs, Sd n x := by cases n with
      | zero => exact hp
      | succ n => exact hp
    walk_at "w"
    refine vIsiT_no rfl ?_
    rw [show (["list", "tuple"].any (isI "tuple")) = true by decide]
    walk_at "w"
    refine vIsi_no rfl (iRd (p := .tup xs) rfl (vIsi_no rfl (vNe_b (iteF ?_))))
    walk_at "w"
    refine vIsi_no rfl (iRd (p := .tup xs) rfl (vIsi_no rfl (vNe_b (iteF ?_))))
    walk_at "w"
    refine vLen_p (i1 (iRd (p := .tup xs) rfl (vLen_p (vEq_ii (i1 ?_)))))
    refine iLc (iVar (p := .tup xs) rfl ?_)
    refine iVar (p := .tup xs) rfl ?_
    refine ⟨by unfold zipP; rw [List.length_map, List.length_zip]; unfold bigN; omega, ?_⟩
    exact fin xs h1 h2 _ _ _ (vAll_true hR) (by simp [unS_len])
  | dk kvs =>
    obtain ⟨m, rfl, h1, h2⟩ : ∃ m, n = m + 2 ∧ kvs.length ≤ 1000000 ∧ ∀ e ∈ kvs, Sd m e.2 := by cases n with
      | zero => exact hp.elim
      | succ n => cases n with
        | zero => exact hp.elim
        | succ n => exact ⟨n, rfl, hp⟩
    walk_at "w"
    refine vIsiT_no rfl ?_
    rw [show (["list", "tuple"].any (isI "dict")) = false by decide]
    walk_at "w"
    refine vIsi_no rfl ?_
    rw [show isI "dict" "dict" = true by decide]
    walk_at "w"
    refine vIsi_no rfl ?_
    rw [show isI "dict" "dict" = true by decide]
    walk_at "w"
    refine ⟨rfl, .lst (kvs.map fun kp => PV.tup [pk kp.1, kp.2]), rfl, ⟨by rw [List.length_map]; exact h1, fun x hx => ?_⟩, hR⟩
    obtain ⟨e, he, rfl⟩ := List.mem_map.mp hx
    refine ⟨by simp, fun y hy => ?_⟩
    rcases List.mem_cons.mp hy with rfl | hy
    · exact Sd.pk m e.1
    · rw [List.mem_singleton.mp hy]; exact h2 e he
  | dt kvs => cases n with
    | zero => exact hp.elim
    | succ n => cases n with
      | zero => exact hp.elim
      | succ n => exact hp.elim
  | stm => cases n with
    | zero => exact hp.elim
    | succ n => cases n with
      | zero => exact hp.elim
      | succ n => exact hp.elim
end PH
set_option linter.all false
set_option autoImplicit false
set_option maxRecDepth 100000
/-! Q28: the order of names; numbers told of markets whatever their order. -/
namespace PH
open PySem
open PySem.Spec
open L2
open TL
open PyProof.Rows (sortedS risingS ltCps_eq)
def leS (a b : Str) : Prop := a.cps.toList ≤ b.cps.toList
theorem leS_of {a b : Str} (h : ltCps b.cps.toList a.cps.toList = false) : leS a b := by
  rw [ltCps_eq] at h
  exact List.not_lt.mp (by simpa using h)
theorem rising_pw : ∀ (l : List Str) (p : Str), risingS p l = true → (p :: l).Pairwise leS
  | [], p, _ => by simp
  | x :: r, p, h => by
    have h' : (!ltCps x.cps.toList p.cps.toList && risingS x r) = true := h
    rw [Bool.and_eq_true, Bool.not_eq_true'] at h'
    have ih := rising_pw r x h'.2
    have h1 := leS_of h'.1
    rw [List.pairwise_cons]
    refine ⟨fun y hy => ?_, ih⟩
    rcases List.mem_cons.mp hy with rfl | hy
    · exact h1
    · exact List.le_trans h1 ((List.pairwise_cons.mp ih).1 y hy)
theorem sorted_pw {l : List Str} (h : sortedS l = true) : l.Pairwise leS := by
  cases l with
  | nil => simp
  | cons p l => exact rising_pw l p h
theorem str_ext {a b : Str} (h : a.cps.toList = b.cps.toList) : a = b := by
  cases a; cases b
  simp only at h
  congr 1
  exact Array.toList_inj.mp h
theorem leS_anti {a b : Str} (h : leS a b) (h' : leS b a) : a = b := str_ext (List.le_antisymm h h')
/-- two sorted lists of the same names are one -/
theorem sorted_one {l m : List Str} (hl : sortedS l = true) (hm : sortedS m = true) (p : l.Perm m) : l = m :=
  List.Perm.eq_of_pairwise (fun a b _ _ => leS_anti) (sorted_pw hl) (sorted_pw hm) p
theorem perm_sum {l m : List Int} (p : l.Perm m) : l.sum = m.sum := by
  induction p with
  | nil => rfl
  | cons x _ ih => rw [List.sum_cons, List.sum_cons, ih]
  | swap x y l => simp only [List.sum_cons]; omega
  | trans _ _ h1 h2 => exact h1.trans h2
section
variable {ws ws' : List (Str × List (Str × Int))} {fl fl' : List (Str × Int)}
theorem gF_eq (M : OkM ws fl) (b h : Str) : gF (gnOf ws fl) b h = ((lk ws b).bind fun r => lk r h).map fun w => w - val fl h := by
  cases e : (lk ws b).bind fun r => lk r h with
  | some w =>
    obtain ⟨r, h1, h2⟩ := Option.bind_eq_some_iff.mp e
    exact gn_lk M h1 h2
  | none =>
    cases q : gF (gnOf ws fl) b h with
    | none => rfl
    | some x =>
      obtain ⟨r, w, h1, h2, h3⟩ := gF_of M q
      rw [lk_of M.bk h1] at e
      have e' : lk r h = none := e
      rw [lk_of (M.wk _ h1) h2] at e'
      cases e'
theorem Srt.gF (S : Srt ws fl ws' fl') (M : OkM ws fl) : PH.gF (gnOf ws' fl') = PH.gF (gnOf ws fl) := by
  funext b h
  rw [gF_eq M, gF_eq (S.ok M), S.lkr M b h]
  unfold val
  rw [S.lkf h]
end
section
variable {g : Str → Str → Option Int} {bs bs' : List Str} {hd : Str → Option Str} {u p : Str → Int} {t : Int}
theorem cert_bs (c : Asg.Cert g bs hd t u p) (h : ∀ b, b ∈ bs ↔ b ∈ bs') : Asg.Cert g bs' hd t u p :=
  ⟨fun b hb => c.fe b ((h b).mpr hb), fun b hb => c.eq b ((h b).mpr hb), c.p0, fun k hk => c.pz k fun b hb => hk b ((h b).mp hb), fun b hb => c.ut b ((h b).mpr hb), fun b hb => c.uz b ((h b).mpr hb), fun b hb d hd' => c.inj b ((h b).mpr hb) d ((h d).mpr hd')⟩
theorem least_bs {q : Str → Int} (c : Asg.Least g bs q) (h : ∀ b, b ∈ bs ↔ b ∈ bs') : Asg.Least g bs' q := by
  obtain ⟨⟨hf, u, c1⟩, c2⟩ := c
  exact ⟨⟨hf, u, cert_bs c1 h⟩, fun hf u q' c => c2 hf u q' (cert_bs c fun b => (h b).symm)⟩
theorem most_bs {q : Str → Int} (c : Asg.Most g bs q) (h : ∀ b, b ∈ bs ↔ b ∈ bs') : Asg.Most g bs' q := by
  obtain ⟨⟨hf, u, c1⟩, c2⟩ := c
  exact ⟨⟨hf, u, cert_bs c1 h⟩, fun hf u q' c => c2 hf u q' (cert_bs c fun b => (h b).symm)⟩
end
section
variable {ws ws' : List (Str × List (Str × Int))} {fl fl' : List (Str × Int)} {n : Int} {q : Str → Int} {k : Nat} {R : PK}
theorem Gs.srt (g : Gs ws fl n) (S : Srt ws fl ws' fl') (M : OkM ws fl) : Gs ws' fl' n := by
  obtain ⟨hf, u, p, c, e⟩ := g
  refine ⟨hf, u, p, ?_, ?_⟩
  · rw [S.gF M]
    exact cert_bs c fun b => S.pb.mem_iff.symm
  · rw [S.gF M, ← e]
    unfold Asg.gains
    exact perm_sum (S.pb.map _)
theorem greatest_sum_n (M : OkM ws fl) (hne : ws ≠ []) (g : Gs ws fl n) (h : R (.int n) k) : t_greatest_sum' [pvMk ws fl] k R :=
  ⟨ws, fl, rfl, M, hne, fun ws' fl' S => greatest_n (S.ok M) (g.srt S M) h⟩
theorem price_row (ns : List Str) (q : Str → Int) : priceRow (rowOf fl ns) q = ns.map fun x => (x, val fl x + q x) := by
  unfold priceRow rowOf
  rw [List.map_map]; rfl
theorem least_prices_n (M : OkM ws fl) (hne : ws ≠ []) (l : Asg.Least (gF (gnOf ws fl)) (ws.map (·.1)) q) (h : ∀ ns, ns.Perm (fl.map (·.1)) → sortedS ns = true → R (pvRow (ns.map fun x => (x, val fl x + q x))) k) : t_least_prices [pvMk ws fl] k R := by
  refine ⟨ws, fl, rfl, M, hne, fun ws' fl' S => ⟨ws', fl', rfl, S.ok M, fun q' l' => ?_⟩⟩
  rw [S.gF M] at l'
  rw [(least_bs l' fun b => S.pb.mem_iff).one l]
  obtain ⟨ns, h1, h2, rfl⟩ := S.fl
  rw [price_row]
  exact h ns h1 h2
theorem greatest_prices_n (M : OkM ws fl) (hne : ws ≠ []) (l : Asg.Most (gF (gnOf ws fl)) (ws.map (·.1)) q) (h : ∀ ns, ns.Perm (fl.map (·.1)) → sortedS ns = true → R (pvRow (ns.map fun x => (x, val fl x + q x))) k) : t_greatest_prices [pvMk ws fl] k R := by
  refine ⟨ws, fl, rfl, M, hne, fun ws' fl' S => ⟨ws', fl', rfl, S.ok M, fun q' l' => ?_⟩⟩
  rw [S.gF M] at l'
  rw [(most_bs l' fun b => S.pb.mem_iff).one l]
  obtain ⟨ns, h1, h2, rfl⟩ := S.fl
  rw [price_row]
  exact h ns h1 h2
/-- a certificate gives the greatest sum -/
theorem Gs.of_cert (M : OkM ws fl) {hf : Str → Option Str} {u p : Str → Int} (c : Asg.Cert (gF (gnOf ws fl)) (ws.map (·.1)) hf 0 u p) : Gs ws fl (((ws.map (·.1)).map u).sum + ((fl.map (·.1)).map p).sum) :=
  ⟨hf, u, p, c, Asg.gains_eq c M.bk M.fk (cert_hs M c)⟩
end
end PH
set_option linter.all false
set_option autoImplicit false
set_option maxRecDepth 100000
/-! Q29: markets in which every buyer wants every house; markets of like buyers and houses. -/
namespace PH
open PySem
open PySem.Spec
open L2
open TL
open PyProof.Rows (sortedS)
def mkW (bs hs : List Str) (w : Str → Str → Int) : List (Str × List (Str × Int)) := bs.map fun b => (b, hs.map fun h => (h, w b h))
def mkF (hs : List Str) (f : Str → Int) : List (Str × Int) := hs.map fun h => (h, f h)
section
variable {bs hs : List Str} {w : Str → Str → Int} {f : Str → Int}
theorem mkW_keys : (mkW bs hs w).map (·.1) = bs := map_fst bs _
theorem mkF_keys : (mkF hs f).map (·.1) = hs := map_fst hs _
structure FullOk (bs hs : List Str) (w : Str → Str → Int) (f : Str → Int) : Prop where
  bn : bs.Nodup
  hn : hs.Nodup
  bo : ∀ b ∈ bs, nameOk b = true
  ho : ∀ h ∈ hs, nameOk h = true
  w0 : ∀ b ∈ bs, ∀ h ∈ hs, 0 ≤ w b h
  f0 : ∀ h ∈ hs, 0 ≤ f h
  lb : bs.length ≤ 30
  lh : hs.length ≤ 30
theorem FullOk.ok (F : FullOk bs hs w f) : OkM (mkW bs hs w) (mkF hs f) := by
  refine ⟨by rw [mkW_keys]; exact F.bn, by rw [mkF_keys]; exact F.hn, fun e he => ?_, fun e he => ?_, fun e he => ?_, fun e he q hq => ?_, fun e he q hq => ?_, fun e he => ?_, by unfold mkW; rw [List.length_map]; exact F.lb, by unfold mkF; rw [List.length_map]; exact F.lh⟩
  · obtain ⟨b, hb, rfl⟩ := List.mem_map.mp he
    show ((hs.map fun h => (h, w b h)).map (·.1)).Nodup
    rw [map_fst]; exact F.hn
  · obtain ⟨b, hb, rfl⟩ := List.mem_map.mp he
    exact F.bo b hb
  · obtain ⟨b, hb, rfl⟩ := List.mem_map.mp he
    exact F.ho b hb
  · obtain ⟨b, hb, rfl⟩ := List.mem_map.mp he
    obtain ⟨h, hh, rfl⟩ := List.mem_map.mp hq
    rw [mkF_keys]; exact hh
  · obtain ⟨b, hb, rfl⟩ := List.mem_map.mp he
    obtain ⟨h, hh, rfl⟩ := List.mem_map.mp hq
    exact F.w0 b hb h hh
  · obtain ⟨b, hb, rfl⟩ := List.mem_map.mp he
    exact F.f0 b hb
theorem val_mkF {x : Str} (hx : x ∈ hs) : val (mkF hs f) x = f x := by
  unfold val mkF
  rw [lk_mapF x hx]; rfl
theorem gF_mk (F : FullOk bs hs w f) {b h : Str} (hb : b ∈ bs) (hh : h ∈ hs) : gF (gnOf (mkW bs hs w) (mkF hs f)) b h = some (w b h - f h) := by
  rw [gF_eq F.ok]
  unfold mkW
  rw [lk_mapF b hb, Option.bind_some, lk_mapF h hh, Option.map_some, val_mkF hh]
theorem gF_mk' (F : FullOk bs hs w f) {b h : Str} {x : Int} (e : gF (gnOf (mkW bs hs w) (mkF hs f)) b h = some x) : b ∈ bs ∧ h ∈ hs ∧ x = w b h - f h := by
  obtain ⟨r, v, h1, h2, h3⟩ := gF_of F.ok e
  obtain ⟨b', hb, e1⟩ := List.mem_map.mp h1
  cases e1
  obtain ⟨h', hh, e2⟩ := List.mem_map.mp h2
  cases e2
  exact ⟨hb, hh, by rw [h3, val_mkF hh]⟩
/-- buyers and houses in their order -/
def ord (bs hs : List Str) (b : Str) : Option Str := if b ∈ bs then hs[bs.idxOf b]? else none
theorem ord_inj {b c h : Str} (hn : hs.Nodup) (e1 : ord bs hs b = some h) (e2 : ord bs hs c = some h) : b = c := by
  unfold ord at e1 e2
  split at e1
  · rename_i hb
    split at e2
    · rename_i hc
      obtain ⟨l1, g1⟩ := List.getElem?_eq_some_iff.mp e1
      obtain ⟨l2, g2⟩ := List.getElem?_eq_some_iff.mp e2
      have hi : bs.idxOf b = bs.idxOf c := (List.getElem_inj hn).mp (g1.trans g2.symm)
      have lb := List.idxOf_lt_length_of_mem hb
      have lc := List.idxOf_lt_length_of_mem hc
      have g3 : bs[bs.idxOf b] = b := List.getElem_idxOf lb
      have g4 : bs[bs.idxOf c] = c := List.getElem_idxOf lc
      rw [← g3, ← g4]
      congr 1
    · cases e2
  · cases e1
theorem ord_mem {b h : Str} (e : ord bs hs b = some h) : h ∈ hs := by
  unfold ord at e
  split at e
  · obtain ⟨l1, g1⟩ := List.getElem?_eq_some_iff.mp e
    rw [← g1]; exact List.getElem_mem l1
  · cases e
theorem ord_none {b : Str} (hb : b ∈ bs) (e : ord bs hs b = none) : hs.length < bs.length := by
  unfold ord at e
  rw [if_pos hb, List.getElem?_eq_none_iff] at e
  exact Nat.lt_of_le_of_lt e (List.idxOf_lt_length_of_mem hb)
theorem ord_un {h : Str} (bn : bs.Nodup) (hh : h ∈ hs) (e : ∀ b ∈ bs, ord bs hs b ≠ some h) : bs.length < hs.length := by
  refine Classical.byContradiction fun z => ?_
  have li := List.idxOf_lt_length_of_mem hh
  have lb : hs.idxOf h < bs.length := by omega
  refine e bs[hs.idxOf h] (List.getElem_mem lb) ?_
  unfold ord
  rw [if_pos (List.getElem_mem lb), bn.idxOf_getElem, List.getElem?_eq_getElem li, List.getElem_idxOf li]
/-- a pairing that leaves no buyer out -/
theorem all_have {hf : Str → Option Str} (nb : bs.Nodup) (inj : ∀ b ∈ bs, ∀ c ∈ bs, ∀ h, hf b = some h → hf c = some h → b = c) (mem : ∀ b ∈ bs, ∀ h, hf b = some h → h ∈ hs) (h : ∀ b ∈ bs, hf b ≠ none) : bs.length ≤ hs.length := by
  have nd : (bs.filterMap hf).Nodup := by
    clear mem h
    induction bs with
    | nil => simp
    | cons b bs ih =>
      have nb' := List.nodup_cons.mp nb
      have ih := ih nb'.2 fun b hb c hc => inj b (List.mem_cons_of_mem _ hb) c (List.mem_cons_of_mem _ hc)
      cases e : hf b with
      | none => rw [List.filterMap_cons_none e]; exact ih
      | some k =>
        rw [List.filterMap_cons_some e, List.nodup_cons]
        refine ⟨fun hm => ?_, ih⟩
        obtain ⟨c, hc, hc2⟩ := List.mem_filterMap.mp hm
        have := inj b (List.mem_cons_self ..) c (List.mem_cons_of_mem _ hc) k e hc2
        exact nb'.1 (this ▸ hc)
  have e1 : (bs.filterMap hf).length = bs.length := by
    clear nd inj mem nb
    induction bs with
    | nil => rfl
    | cons b bs ih =>
      have hb := h b (List.mem_cons_self ..)
      cases e : hf b with
      | none => exact absurd e hb
      | some k => rw [List.filterMap_cons_some e, List.length_cons, List.length_cons, ih fun b hb => h b (List.mem_cons_of_mem _ hb)]
  rw [← e1]
  exact Asg.nodup_len nd fun k hk => by
    obtain ⟨b, hb, e⟩ := List.mem_filterMap.mp hk
    exact mem b hb k e
/-- a pairing that leaves no house -/
theorem all_had {hf : Str → Option Str} (nh : hs.Nodup) (h : ∀ k ∈ hs, ∃ b ∈ bs, hf b = some k) : hs.length ≤ bs.length := by
  have : ∃ F : Str → Str, ∀ k ∈ hs, F k ∈ bs ∧ hf (F k) = some k := by
    classical
    refine ⟨fun k => if z : k ∈ hs then (h k z).choose else k, fun k hk => ?_⟩
    simp only [dif_pos hk]
    exact (h k hk).choose_spec
  obtain ⟨F, hF⟩ := this
  have nd : (hs.map F).Nodup := by
    rw [List.nodup_iff_pairwise_ne, List.pairwise_map]
    refine List.Pairwise.imp_of_mem ?_ (List.nodup_iff_pairwise_ne.mp nh)
    intro a b ha hb hab e
    have e1 := (hF a ha).2
    rw [e, (hF b hb).2] at e1
    cases e1
    exact hab rfl
  have := Asg.nodup_len nd (m := bs) fun b hb => by
    obtain ⟨k, hk, rfl⟩ := List.mem_map.mp hb
    exact (hF k hk).1
  rwa [List.length_map] at this
theorem sum_const {α : Type} (c : Int) : ∀ l : List α, (l.map fun _ => c).sum = (l.length : Int) * c
  | [] => by simp
  | a :: l => by
    rw [List.map_cons, List.sum_cons, sum_const c l, List.length_cons]
    have : ((l.length + 1 : Nat) : Int) * c = (l.length : Int) * c + c := by
      rw [Int.natCast_add, Int.add_mul]; simp
    rw [this]; omega
section
variable {d : Int}
/-- all pairs gain d -/
structure Like (bs hs : List Str) (w : Str → Str → Int) (f : Str → Int) (d : Int) : Prop where
  F : FullOk bs hs w f
  e : ∀ b ∈ bs, ∀ h ∈ hs, w b h - f h = d
def inD (hs : List Str) (d : Int) (h : Str) : Int := if h ∈ hs then d else 0
theorem Like.g (L : Like bs hs w f d) {b h : Str} (hb : b ∈ bs) (hh : h ∈ hs) : gF (gnOf (mkW bs hs w) (mkF hs f)) b h = some d := by
  rw [gF_mk L.F hb hh, L.e b hb h hh]
theorem Like.g' (L : Like bs hs w f d) {b h : Str} {x : Int} (e : gF (gnOf (mkW bs hs w) (mkF hs f)) b h = some x) : b ∈ bs ∧ h ∈ hs ∧ x = d := by
  obtain ⟨h1, h2, h3⟩ := gF_mk' L.F e
  exact ⟨h1, h2, by rw [h3, L.e b h1 h h2]⟩
theorem Like.c0 (L : Like bs hs w f d) (h : d ≤ 0) : Asg.Cert (gF (gnOf (mkW bs hs w) (mkF hs f))) bs (fun _ => none) 0 (fun _ => 0) (fun _ => 0) := by
  refine ⟨fun b hb k x hx => ?_, fun b hb k e => (by cases e), fun _ => Int.le_refl _, fun _ _ => rfl, fun _ _ => Int.le_refl _, fun _ _ _ => rfl, fun b hb c hc k e => (by cases e)⟩
  have := (L.g' hx).2.2
  omega
theorem Like.few (L : Like bs hs w f d) (h : 0 < d) (hl : bs.length ≤ hs.length) : Asg.Cert (gF (gnOf (mkW bs hs w) (mkF hs f))) bs (ord bs hs) 0 (fun _ => d) (fun _ => 0) := by
  refine ⟨fun b hb k x hx => ?_, fun b hb k e => ?_, fun _ => Int.le_refl _, fun _ _ => rfl, fun _ _ => by omega, fun b hb e => ?_, fun b hb c hc k e e' => ord_inj L.F.hn e e'⟩
  · have := (L.g' hx).2.2
    omega
  · rw [L.g hb (ord_mem e)]; congr 1; omega
  · have := ord_none hb e
    omega
theorem Like.many (L : Like bs hs w f d) (h : 0 < d) (hl : hs.length ≤ bs.length) : Asg.Cert (gF (gnOf (mkW bs hs w) (mkF hs f))) bs (ord bs hs) 0 (fun _ => 0) (inD hs d) := by
  refine ⟨fun b hb k x hx => ?_, fun b hb k e => ?_, fun k => ?_, fun k hk => ?_, fun _ _ => Int.le_refl _, fun _ _ _ => rfl, fun b hb c hc k e e' => ord_inj L.F.hn e e'⟩
  · obtain ⟨_, h2, h3⟩ := L.g' hx
    unfold inD; rw [if_pos h2]; omega
  · rw [L.g hb (ord_mem e)]
    unfold inD; rw [if_pos (ord_mem e)]; congr 1; omega
  · unfold inD; split <;> omega
  · unfold inD
    split
    · rename_i hm
      have := ord_un L.F.bn hm hk
      omega
    · rfl
theorem Like.gs (L : Like bs hs w f d) : Gs (mkW bs hs w) (mkF hs f) (max 0 d * min (bs.length : Int) hs.length) := by
  have key : ∀ {hf : Str → Option Str} {u p : Str → Int}, Asg.Cert (gF (gnOf (mkW bs hs w) (mkF hs f))) bs hf 0 u p → Gs (mkW bs hs w) (mkF hs f) ((bs.map u).sum + (hs.map p).sum) := fun c => by
    have := Gs.of_cert L.F.ok (by rw [mkW_keys]; exact c)
    rw [mkW_keys, mkF_keys] at this
    exact this
  by_cases h : d ≤ 0
  · have := key (L.c0 h)
    rw [sum_const, sum_const] at this
    have e : max 0 d = 0 := by omega
    rw [e, Int.zero_mul]
    simpa using this
  · by_cases hl : bs.length ≤ hs.length
    · have := key (L.few (by omega) hl)
      rw [sum_const, sum_const] at this
      have e : max 0 d = d := by omega
      have e2 : min (bs.length : Int) hs.length = bs.length := by omega
      rw [e, e2, Int.mul_comm]
      simpa using this
    · have := key (L.many (by omega) (by omega))
      rw [sum_const] at this
      have e3 : (hs.map (inD hs d)).sum = (hs.length : Int) * d := by
        rw [← sum_const]
        refine congrArg List.sum (List.map_congr_left fun h hh => ?_)
        unfold inD; rw [if_pos hh]
      have e : max 0 d = d := by omega
      have e2 : min (bs.length : Int) hs.length = hs.length := by omega
      rw [e, e2, Int.mul_comm]
      rw [e3] at this
      simpa using this
theorem Like.cm (L : Like bs hs w f d) {hf : Str → Option Str} {u q : Str → Int} (c : Asg.Cert (gF (gnOf (mkW bs hs w) (mkF hs f))) bs hf 0 u q) : ∀ b ∈ bs, ∀ h, hf b = some h → h ∈ hs := fun b hb h e => (L.g' (c.eq b hb h e)).2.1
theorem Like.least (L : Like bs hs w f d) : Asg.Least (gF (gnOf (mkW bs hs w) (mkF hs f))) bs (fun h => if hs.length < bs.length then inD hs (max 0 d) h else 0) := by
  by_cases hl : hs.length < bs.length
  · simp only [if_pos hl]
    by_cases h : d ≤ 0
    · have e : max 0 d = 0 := by omega
      rw [e]
      have e2 : (fun h => inD hs 0 h) = fun _ => 0 := by funext h; unfold inD; split <;> rfl
      rw [e2]
      exact ⟨⟨_, _, L.c0 h⟩, fun hf u q c k => c.p0 k⟩
    · have e : max 0 d = d := by omega
      rw [e]
      refine ⟨⟨_, _, L.many (by omega) (by omega)⟩, fun hf u q c k => ?_⟩
      unfold inD
      split
      · rename_i hk
        have : ∃ b ∈ bs, hf b = none := Classical.byContradiction fun z => by
          have := all_have L.F.bn c.inj (L.cm c) fun b hb e => z ⟨b, hb, e⟩
          omega
        obtain ⟨b, hb, eb⟩ := this
        have h1 := c.fe b hb k d (L.g hb hk)
        have h2 := c.uz b hb eb
        omega
      · exact c.p0 k
  · simp only [if_neg hl]
    by_cases h : d ≤ 0
    · exact ⟨⟨_, _, L.c0 h⟩, fun hf u q c k => c.p0 k⟩
    · exact ⟨⟨_, _, L.few (by omega) (by omega)⟩, fun hf u q c k => c.p0 k⟩
theorem Like.most (L : Like bs hs w f d) : Asg.Most (gF (gnOf (mkW bs hs w) (mkF hs f))) bs (fun h => if bs.length < hs.length then 0 else inD hs (max 0 d) h) := by
  have had : ∀ {hf : Str → Option Str} {u q : Str → Int}, Asg.Cert (gF (gnOf (mkW bs hs w) (mkF hs f))) bs hf 0 u q → ∀ k, q k ≤ max 0 d ∧ (k ∉ hs → q k = 0) := fun {hf u q} c k => by
    by_cases z : ∃ b ∈ bs, hf b = some k
    · obtain ⟨b, hb, e⟩ := z
      have h1 := c.eq b hb k e
      have hk := L.cm c b hb k e
      rw [L.g hb hk] at h1
      have h2 := c.ut b hb
      have h3 : d = u b + q k := by cases h1; rfl
      exact ⟨by omega, fun n => absurd hk n⟩
    · have := c.pz k fun b hb e => z ⟨b, hb, e⟩
      exact ⟨by omega, fun _ => this⟩
  by_cases hl : bs.length < hs.length
  · simp only [if_pos hl]
    have up : ∀ hf u q', Asg.Cert (gF (gnOf (mkW bs hs w) (mkF hs f))) bs hf 0 u q' → ∀ h, q' h ≤ 0 := by
      intro hf u q c k
      have : ∃ h0 ∈ hs, ∀ b ∈ bs, hf b ≠ some h0 := Classical.byContradiction fun z => by
        have := all_had (hf := hf) (bs := bs) L.F.hn fun k hk => Classical.byContradiction fun z2 => z ⟨k, hk, fun b hb e => z2 ⟨b, hb, e⟩⟩
        omega
      obtain ⟨h0, m0, n0⟩ := this
      have p0 := c.pz h0 n0
      by_cases z : ∃ b ∈ bs, hf b = some k
      · obtain ⟨b, hb, e⟩ := z
        have h1 := c.eq b hb k e
        have hk := L.cm c b hb k e
        rw [L.g hb hk] at h1
        have h2 := c.fe b hb h0 d (L.g hb m0)
        have h3 : d = u b + q k := by cases h1; rfl
        omega
      · have := c.pz k fun b hb e => z ⟨b, hb, e⟩
        omega
    by_cases h : d ≤ 0
    · exact ⟨⟨_, _, L.c0 h⟩, up⟩
    · exact ⟨⟨_, _, L.few (by omega) (by omega)⟩, up⟩
  · simp only [if_neg hl]
    have up : ∀ hf u q', Asg.Cert (gF (gnOf (mkW bs hs w) (mkF hs f))) bs hf 0 u q' → ∀ h, q' h ≤ inD hs (max 0 d) h := by
      intro hf u q c k
      obtain ⟨h1, h2⟩ := had c k
      unfold inD
      split
      · exact h1
      · rename_i n; rw [h2 n]; exact Int.le_refl _
    refine ⟨?_, up⟩
    by_cases h : d ≤ 0
    · have e : max 0 d = 0 := by omega
      rw [e]
      have e2 : (fun h => inD hs 0 h) = fun _ => 0 := by funext h; unfold inD; split <;> rfl
      rw [e2]
      exact ⟨_, _, L.c0 h⟩
    · have e : max 0 d = d := by omega
      rw [e]
      exact ⟨_, _, L.many (by omega) (by omega)⟩
end
end
end PH
set_option linter.all false
set_option autoImplicit false
set_option maxRecDepth 100000
/-! Q30: names, dicts of pairs; the law of like markets. -/
namespace PH
open PySem
open PySem.Spec
open L2
open TL
open PyProof.Rows (sortedS)
def nm (c : Str) (m : Nat) : List Str := (List.range m).map fun i : Nat => c ++ (toString ((0 : Int) + (i : Int)) : Str)
theorem nm_b : ∀ m, m < 7 → (nm "b" m).Nodup ∧ (nm "b" m).all nameOk = true ∧ sortedS (nm "b" m) = true := by decide +kernel
theorem nm_h : ∀ m, m < 7 → (nm "h" m).Nodup ∧ (nm "h" m).all nameOk = true ∧ sortedS (nm "h" m) = true := by decide +kernel
theorem nm_len (c : Str) (m : Nat) : (nm c m).length = m := by unfold nm; simp
local macro_rules | `(tactic| walk_at "w1") => `(tactic| first
  | (with_reducible refine iSeq ?_)
  | (with_reducible refine iIf ?_)
  | (with_reducible refine iSkip ?_)
  | (with_reducible refine iAnd ?_)
  | (with_reducible refine iOr ?_)
  | (with_reducible refine iNot ?_)
  | (with_reducible refine iCmp ?_)
  | (with_reducible refine i2 ?_)
  | (with_reducible refine i1 ?_)
  | (with_reducible refine iC ?_)
  | (with_reducible refine iNil ?_)
  | (with_reducible refine iCons ?_)
  | (with_reducible refine iRet ?_)
  | (with_reducible refine iFrz ?_)
  | (with_reducible refine iBool ?_)
  | (with_reducible refine iVl ?_)
  | (with_reducible refine iAndV ?_)
  | (with_reducible refine iPar ?_)
  | (with_reducible refine iAsg ?_)
  | (with_reducible refine iAsgF ?_)
  | (with_reducible refine iYes ?_)
  | (with_reducible refine iteT ?_)
  | (with_reducible refine iteF ?_)
  | (with_reducible refine iIte ?_)
  | (with_reducible refine iAddD ?_)
  | (with_reducible refine iAddL ?_)
  | (with_reducible refine iCall ?_)
  | (with_reducible refine iFor ?_)
  | (with_reducible refine iAsgT ?_)
  | (with_reducible refine iTup ?_)
  | (with_reducible refine iLst ?_)
  | (with_reducible refine gTi ?_)
  | (with_reducible refine gsCi ?_)
  | (with_reducible refine gsNi ?_)
  | (with_reducible refine vSub_i ?_)
  | (with_reducible refine vAdd_i ?_)
  | (with_reducible refine vEq_i ?_)
  | (with_reducible refine vLt_i ?_)
  | (with_reducible refine vGt_i ?_)
  | (with_reducible refine vIsNot_s ?_)
  | (with_reducible refine vIsNot_non ?_)
  | (with_reducible refine vIs_str ?_)
  | (with_reducible refine vIs_non ?_)
  | (with_reducible refine vNe_s ?_)
  | ((with_reducible refine idx_t0 ?_))
  | ((with_reducible refine idx_mk0 ?_))
  | ((with_reducible refine idx_mk1 ?_))
  | (with_reducible refine iDc ?_)
  | (with_reducible refine iLc ?_)
  | (with_reducible refine iIts ?_)
  | (with_reducible refine iItsT ?_)
  | (with_reducible refine iILst ?_)
  | (with_reducible refine iIKeys ?_)
  | (with_reducible refine iIVals ?_)
  | ((with_reducible refine idx_t1 ?_))
  | ((with_reducible refine' gNi ?e1 ?_); (case e1 => simp [frz_len, unS_len]))
  | ((with_reducible refine' iVarRow ?e1 ?e2 ?_); (case e1 => exact rfl); (case e2 => with_reducible exact rfl))
  | ((with_reducible refine' iRdRow ?e1 ?e2 ?_); (case e1 => exact rfl); (case e2 => with_reducible exact rfl))
  | ((with_reducible refine' iVar ?e1 ?_); (case e1 => exact rfl))
  | ((with_reducible refine' iRd ?e1 ?_); (case e1 => exact rfl))
  | ((with_reducible refine' iRo ?e1 ?_); (case e1 => exact rfl))
  | ((with_reducible refine' iApp ?e1 ?_); (case e1 => exact rfl))
  | ((with_reducible refine' iPut ?e1 ?_); (case e1 => exact rfl))
  | ((with_reducible refine And.intro (le_ps ?e1) ?_); (case e1 => first | (simp only [List.length_cons, List.length_nil]; decide) | simp))
  | ((with_reducible refine And.intro (And.intro (lt_slots ?e1) (lt_slots ?e2)) ?_); (case e1 => simp); (case e2 => simp))
  | ((with_reducible refine And.intro (lt_slots ?e1) ?_); (case e1 => simp [frz_len, unS_len])))
local macro_rules | `(tactic| walk_at "w") => `(tactic| repeat (first | walk_at "w1" | (dsimp only) | (simp only [items_pv, itemsT_pv, keys_pv, vals_pv])))
/-- a list comprehension over the images of plain things -/
theorem cm_list {α : Type} {g : GP} {we : WE} {S0 : List Slot} {k : Nat} {Rf : List PV → Nat → Prop} (all : List α) (φ ψ : α → PV) (hs : ∀ a ∈ all, ∀ R : PK, R (ψ a) k → g (φ a) S0 fun S' => we S' k R) (h : Rf (all.map ψ) k) :
    wCmL g wYes (addL we) S0 Rf (all.map φ) [] k := by
  refine cmL_map all φ (fun pre acc => acc = pre.map ψ) ?_ (fun acc e => by rw [e]; exact h) all [] _ rfl rfl
  rintro pre a r' acc R hall rfl hR
  have e : (fun S' => wYes S' k fun b k1 => if b = true then addL we S' k1 (pre.map ψ) R else R (pre.map ψ) k1) = fun S' => we S' k fun y k2 => R ((pre.map ψ) ++ [y]) k2 := by
    funext S'
    simp [wYes, addL]
  rw [e]
  refine hs a (by rw [hall]; exact List.mem_append_right _ (List.mem_cons_self ..)) _ (hR _ ?_)
  rw [List.map_append]; rfl
theorem pairs_kS {α : Type} (ψ : α → PV) : ∀ l : List (Str × α), pairsOf (l.map fun e => PV.tup [.str e.1, ψ e.2]) = some (pvM kS ψ l)
  | [] => rfl
  | e :: l => by
    show (match keyOf (.str e.1), pairsOf (l.map fun e => PV.tup [.str e.1, ψ e.2]) with
      | some κ, some l => some ((κ, ψ e.2) :: l)
      | _, _ => none) = _
    rw [pairs_kS ψ l]; rfl
theorem vDict_pairs {α : Type} {ψ : α → PV} {l : List (Str × α)} {R : PV → Prop} (nd : (l.map (·.1)).Nodup) (h : R (.dk (pvM kS ψ l))) : vDict (.lst (l.map fun e => PV.tup [.str e.1, ψ e.2])) R := by
  refine ⟨pvM kS ψ l, pairs_kS ψ l, ?_⟩
  rw [merge_nil (pvM kS ψ l) [] (by simpa using pvM_nodup (f := ψ) nd)]
  exact h
/-- dict([(x, f x) for x in xs]) -/
theorem dict_of {α : Type} {ψ : α → PV} {g : GP} {we : WE} {S0 : List Slot} {k : Nat} {R : PK} (xs : List Str) (F : Str → α) (nd : xs.Nodup) (hl : xs.length ≤ 1000000) (hs : ∀ a ∈ xs, ∀ R : PK, R (.tup [.str a, ψ (F a)]) k → g (.str a) S0 fun S' => we S' k R)
    (h : R (.dk (pvM kS ψ (xs.map fun x => (x, F x)))) k) : (xs.map PV.str).length ≤ bigN ∧ wCmL g wYes (addL we) S0 (fun acc k' => vDict (.lst acc) fun r => R r k') (xs.map PV.str) [] k := by
  refine ⟨by rw [List.length_map]; exact hl, ?_⟩
  refine cm_list xs PV.str (fun x => PV.tup [.str x, ψ (F x)]) hs ?_
  have e : xs.map (fun x => PV.tup [.str x, ψ (F x)]) = (xs.map fun x => (x, F x)).map fun e => PV.tup [.str e.1, ψ e.2] := by rw [List.map_map]; rfl
  rw [e]
  exact vDict_pairs (by rw [map_fst]; exact nd) h
theorem str_len : ∀ j, j < 7 → (toString ((0 : Int) + ((j : Nat) : Int)) : Str).length ≤ 20 := by decide +kernel
/-- ["c" + str(i) for i in range(m)] -/
theorem names_of {c : Str} {i : Nat} {S0 : List Slot} {k m : Nat} {Rf : List PV → Nat → Prop} (hc : c.length ≤ 20) (hi : i < S0.length) (hm : m < 7) (h : Rf ((nm c m).map PV.str) k) :
    wCmL (gN i) wYes (addL (w2 (wC (.str c)) (w1 (wRd i) vToStr) vAdd)) S0 Rf (rngP 0 m) [] k := by
  unfold rngP
  refine cm_list (List.range m) (fun j : Nat => PV.int (0 + (j : Int))) (fun j : Nat => PV.str (c ++ (toString ((0 : Int) + (j : Int)) : Str))) (fun j hj R hR => ?_) ?_
  · refine ⟨hi, i2 (iC (i1 (iRd (p := .int (0 + (j : Int))) (List.getElem?_set_self hi) ?_)))⟩
    have hj' := List.mem_range.mp hj
    refine ⟨⟨by omega, by omega⟩, ?_, hR⟩
    have := str_len j (by omega)
    have : (20 : Nat) + 20 ≤ sizeLine := by decide
    omega
  · unfold nm at h
    rw [List.map_map] at h
    exact h
end PH
set_option linter.all false
set_option autoImplicit false
set_option maxRecDepth 100000
set_option maxHeartbeats 4000000
/-! Q31: the law of like markets. -/
namespace PH
open PySem
open PySem.Spec
open L2
open TL
open PyProof.Rows (sortedS)
theorem vMax2_i {i j : Int} {R : PV → Prop} (h : R (.int (max i j))) : vMax2 (.int i) (.int j) R := by
  show R (.int (if j > i then j else i))
  have e : (if j > i then j else i) = max i j := by split <;> omega
  rw [e]; exact h
theorem vMin2_i {i j : Int} {R : PV → Prop} (h : R (.int (min i j))) : vMin2 (.int i) (.int j) R := by
  show R (.int (if j < i then j else i))
  have e : (if j < i then j else i) = min i j := by split <;> omega
  rw [e]; exact h
theorem vMul_i {i j : Int} {R : PV → Prop} (h : small i ∨ small j) (hr : R (.int (i * j))) : vMul (.int i) (.int j) R := ⟨h, hr⟩
theorem iIRng1 {wa : WE} {S : List Slot} {k : Nat} {R : List PV → Nat → Prop} (h : wa S k fun p k' => match p with
  | .int j => (-(2 ^ 62) ≤ j ∧ j < 2 ^ 62) ∧ R (rngP 0 j.toNat) k'
  | _ => False) : wIRng1 wa S k R := h
local macro_rules | `(tactic| walk_at "w1") => `(tactic| first
  | (with_reducible refine iSeq ?_)
  | (with_reducible refine iIf ?_)
  | (with_reducible refine iSkip ?_)
  | (with_reducible refine iAnd ?_)
  | (with_reducible refine iOr ?_)
  | (with_reducible refine iNot ?_)
  | (with_reducible refine iCmp ?_)
  | (with_reducible refine i2 ?_)
  | (with_reducible refine i1 ?_)
  | (with_reducible refine iC ?_)
  | (with_reducible refine iNil ?_)
  | (with_reducible refine iCons ?_)
  | (with_reducible refine iRet ?_)
  | (with_reducible refine iFrz ?_)
  | (with_reducible refine iBool ?_)
  | (with_reducible refine iVl ?_)
  | (with_reducible refine iAndV ?_)
  | (with_reducible refine iPar ?_)
  | (with_reducible refine iAsg ?_)
  | (with_reducible refine iAsgF ?_)
  | (with_reducible refine iYes ?_)
  | (with_reducible refine iteT ?_)
  | (with_reducible refine iteF ?_)
  | (with_reducible refine iIte ?_)
  | (with_reducible refine iAddD ?_)
  | (with_reducible refine iAddL ?_)
  | (with_reducible refine iCall ?_)
  | (with_reducible refine iFor ?_)
  | (with_reducible refine iAsgT ?_)
  | (with_reducible refine iTup ?_)
  | (with_reducible refine iLst ?_)
  | (with_reducible refine gTi ?_)
  | (with_reducible refine gsCi ?_)
  | (with_reducible refine gsNi ?_)
  | (with_reducible refine vSub_i ?_)
  | (with_reducible refine vAdd_i ?_)
  | (with_reducible refine vEq_i ?_)
  | (with_reducible refine vLt_i ?_)
  | (with_reducible refine vGt_i ?_)
  | (with_reducible refine vIsNot_s ?_)
  | (with_reducible refine vIsNot_non ?_)
  | (with_reducible refine vIs_str ?_)
  | (with_reducible refine vIs_non ?_)
  | (with_reducible refine vNe_s ?_)
  | ((with_reducible refine idx_t0 ?_))
  | ((with_reducible refine idx_mk0 ?_))
  | ((with_reducible refine idx_mk1 ?_))
  | (with_reducible refine iDc ?_)
  | (with_reducible refine iLc ?_)
  | (with_reducible refine iIts ?_)
  | (with_reducible refine iItsT ?_)
  | (with_reducible refine iILst ?_)
  | (with_reducible refine iIKeys ?_)
  | (with_reducible refine iIVals ?_)
  | (with_reducible refine iIRng1 ?_)
  | (with_reducible refine vMax2_i ?_)
  | (with_reducible refine vMin2_i ?_)
  | ((with_reducible refine idx_t1 ?_))
  | ((with_reducible refine' gNi ?e1 ?_); (case e1 => simp [frz_len, unS_len]))
  | ((with_reducible refine' iVarRow ?e1 ?e2 ?_); (case e1 => first | (simp only [unS, frz, slM, List.set_cons_succ, List.set_cons_zero, List.getElem?_cons_succ, List.getElem?_cons_zero]; exact rfl) | exact rfl); (case e2 => with_reducible exact rfl))
  | ((with_reducible refine' iRdRow ?e1 ?e2 ?_); (case e1 => first | (simp only [unS, frz, slM, List.set_cons_succ, List.set_cons_zero, List.getElem?_cons_succ, List.getElem?_cons_zero]; exact rfl) | exact rfl); (case e2 => with_reducible exact rfl))
  | ((with_reducible refine' iVar ?e1 ?_); (case e1 => first | (simp only [unS, frz, slM, List.set_cons_succ, List.set_cons_zero, List.getElem?_cons_succ, List.getElem?_cons_zero]; exact rfl) | exact rfl))
  | ((with_reducible refine' iRd ?e1 ?_); (case e1 => first | (simp only [unS, frz, slM, List.set_cons_succ, List.set_cons_zero, List.getElem?_cons_succ, List.getElem?_cons_zero]; exact rfl) | exact rfl))
  | ((with_reducible refine' iRo ?e1 ?_); (case e1 => first | (simp only [unS, frz, slM, List.set_cons_succ, List.set_cons_zero, List.getElem?_cons_succ, List.getElem?_cons_zero]; exact rfl) | exact rfl))
  | ((with_reducible refine' iApp ?e1 ?_); (case e1 => first | (simp only [unS, frz, slM, List.set_cons_succ, List.set_cons_zero, List.getElem?_cons_succ, List.getElem?_cons_zero]; exact rfl) | exact rfl))
  | ((with_reducible refine' iPut ?e1 ?_); (case e1 => first | (simp only [unS, frz, slM, List.set_cons_succ, List.set_cons_zero, List.getElem?_cons_succ, List.getElem?_cons_zero]; exact rfl) | exact rfl))
  | ((with_reducible refine And.intro (le_ps ?e1) ?_); (case e1 => first | (simp only [List.length_cons, List.length_nil]; decide) | simp))
  | ((with_reducible refine And.intro (And.intro (lt_slots ?e1) (lt_slots ?e2)) ?_); (case e1 => simp); (case e2 => simp))
  | ((with_reducible refine And.intro (lt_slots ?e1) ?_); (case e1 => simp [frz_len, unS_len])))
local macro_rules | `(tactic| walk_at "w") => `(tactic| repeat (first | walk_at "w1" | (dsimp only) | (simp only [items_pv, itemsT_pv, keys_pv, vals_pv])))
def w__law_like_right (t__law_copied t_greatest_sum t_least_prices t_greatest_prices t__law_same : TSp) : WS :=
  (wSeq (wAsgT (wTup (wCons (wLc (wIRng1 (wVar 0)) [14] (gN 14) wYes (w2 (wC (.str "b")) (w1 (wRd 14) vToStr) vAdd)) (wCons (wLc (wIRng1 (wVar 1)) [14] (gN 14) wYes (w2 (wC (.str "h")) (w1 (wRd 14) vToStr) vAdd)) wNil))) (gT (gsC (gN 8) (gsC (gN 9) gsN))))
  (wSeq (wAsg 4 (w1 (wLc (wILst (wVar 8)) [15] (gN 15) wYes (wTup (wCons (wVar 15) (wCons (w1 (wLc (wILst (wVar 9)) [16] (gN 16) wYes (wTup (wCons (wVar 16) (wCons (wVar 2) wNil)))) vDict) wNil)))) vDict))
  (wSeq (wAsg 5 (wTup (wCons (wVar 4) (wCons (w1 (wLc (wILst (wVar 9)) [16] (gN 16) wYes (wTup (wCons (wVar 16) (wCons (wVar 3) wNil)))) vDict) wNil))))
  (wSeq (wPar 10 11 false false (w2 (wC (.int 0)) (w2 (wRd 2) (wRd 3) vSub) vMax2) (w2 (wRd 0) (wRd 1) vMin2))
  (wSeq (wAsg 6 (wLst (wCons (wCall 1 t_greatest_sum (wCons (wCall 1 t__law_copied (wCons (wVar 5) wNil)) wNil)) (wCons (wCall 1 t_least_prices (wCons (wCall 1 t__law_copied (wCons (wVar 5) wNil)) wNil)) (wCons (wCall 1 t_greatest_prices (wCons (wCall 1 t__law_copied (wCons (wVar 5) wNil)) wNil)) wNil)))))
  (wSeq (wAsgT (wTup (wCons (w2 (wRd 2) (wRd 3) vMax2) (wCons (wVar 3) wNil))) (gT (gsC (gN 12) (gsC (gN 13) gsN))))
  (wSeq (wAsgF 7 (wLst (wCons (w2 (wRd 10) (wRd 11) vMul) (wCons (w1 (wLc (wILst (wVar 9)) [16] (gN 16) wYes (wTup (wCons (wVar 16) (wCons (wIte (wCmp (wRd 0) (wRd 1) vGt) (wVar 12) (wVar 13)) wNil)))) vDict) wNil))))
  (wSeq (wApp 7 (w1 (wLc (wILst (wVar 9)) [16] (gN 16) wYes (wTup (wCons (wVar 16) (wCons (wIte (wCmp (wRd 0) (wRd 1) vLt) (wVar 13) (wVar 12)) wNil)))) vDict))
  (wFrz 7 (wRet (wCall 2 t__law_same (wCons (wVar 6) (wCons (wVar 7) wNil)))))))))))))

theorem cd_row (n : Nat) {r : List (Str × Int)} (nd : (r.map (·.1)).Nodup) (hl : r.length ≤ 1000000) : Cd (n + 1) (pvRow r) := by
  refine ⟨by unfold pvM; rw [List.length_map]; exact hl, pvM_nodup nd, fun e he => ?_⟩
  obtain ⟨a, ha, rfl⟩ := List.mem_map.mp he
  cases n <;> trivial
theorem cd_market {ws : List (Str × List (Str × Int))} {fl : List (Str × Int)} (M : OkM ws fl) : Cd 3 (pvMk ws fl) := by
  have lw := M.lw
  have lf := M.lf
  refine ⟨by simp, fun x hx => ?_⟩
  rcases List.mem_cons.mp hx with rfl | hx
  · refine ⟨by unfold pvM; rw [List.length_map]; omega, pvM_nodup M.bk, fun e he => ?_⟩
    obtain ⟨a, ha, rfl⟩ := List.mem_map.mp he
    have := len_sub (M.wk a ha) (M.wf a ha)
    exact cd_row 0 (M.wk a ha) (by omega)
  · rw [List.mem_singleton.mp hx]
    exact cd_row 1 M.fk (by omega)
theorem sd_row {r : List (Str × Int)} (hl : r.length ≤ 1000000) (n : Nat) : Sd (n + 3) (pvRow r) := by
  refine ⟨by unfold pvM; rw [List.length_map]; exact hl, fun e he => ?_⟩
  obtain ⟨a, ha, rfl⟩ := List.mem_map.mp he
  cases n <;> trivial
def t_like : TSp := fun ps k R => ∃ m n w f : Int, ps = [.int m, .int n, .int w, .int f] ∧ 1 ≤ m ∧ m ≤ 5 ∧ 1 ≤ n ∧ n ≤ 5 ∧ 0 ≤ w ∧ w ≤ 1000 ∧ 0 ≤ f ∧ f ≤ 1000 ∧ R (.bl true) k
theorem l_like (ps : List PV) (k : Nat) (R : PK) (hl : ps.length = 4) (h : t_like ps k R) : w__law_like_right (t_copy 3) t_greatest_sum' t_least_prices t_greatest_prices (t_same 5) { nx := fun _ k => R .non k, rt := R } (startS 17 ps) k := by
  obtain ⟨m, n, w, f, rfl, m1, m5, n1, n5, w0, w9, f0, f9, hR⟩ := h
  show w__law_like_right _ _ _ _ _ _ [.fz (.int m), .fz (.int n), .fz (.int w), .fz (.int f), .un, .un, .un, .un, .un, .un, .un, .un, .un, .un, .un, .un, .un] k
  unfold w__law_like_right
  walk_at "w"
  refine ⟨by omega, ?_⟩
  refine ⟨by simp [rngP]; unfold bigN; omega, ?_⟩
  refine names_of (by decide) (by simp [unS_len]) (by omega) ?_
  walk_at "w"
  refine ⟨by omega, ?_⟩
  refine ⟨by simp [rngP]; unfold bigN; omega, ?_⟩
  refine names_of (by decide) (by simp [unS_len]) (by omega) ?_
  walk_at "w"
  obtain ⟨bn, bo, bS⟩ := nm_b m.toNat (by omega)
  obtain ⟨hn, ho, hS⟩ := nm_h n.toNat (by omega)
  have bl := nm_len "b" m.toNat
  have hlen := nm_len "h" n.toNat
  generalize nm (Str.ofString "b") m.toNat = bs at *
  generalize nm (Str.ofString "h") n.toNat = hs at *
  have F : FullOk bs hs (fun _ _ => w) (fun _ => f) := ⟨bn, hn, List.all_eq_true.mp bo, List.all_eq_true.mp ho, fun _ _ _ _ => w0, fun _ _ => f0, by omega, by omega⟩
  have L : Like bs hs (fun _ _ => w) (fun _ => f) (w - f) := ⟨F, fun _ _ _ _ => rfl⟩
  have hne : mkW bs hs (fun _ _ => w) ≠ [] := by
    intro z
    have := congrArg List.length z
    simp only [mkW, List.length_map, List.length_nil] at this
    omega
  refine dict_of (ψ := pvRow) bs (fun b => hs.map fun h => (h, w)) bn (by omega) (fun b hb R' hR' => ?_) ?_
  · walk_at "w"
    refine dict_of (ψ := PV.int) hs (fun h => w) hn (by omega) (fun h hh R2 hR2 => ?_) ?_
    · walk_at "w"
      exact hR2
    · walk_at "w"
      exact hR'
  walk_at "w"
  refine dict_of (ψ := PV.int) hs (fun h => f) hn (by omega) (fun h hh R2 hR2 => ?_) ?_
  · walk_at "w"
    exact hR2
  have eM : (PV.tup [.dk (pvM kS pvRow (bs.map fun b => (b, hs.map fun h => (h, w)))), .dk (pvM kS PV.int (hs.map fun h => (h, f)))]) = pvMk (mkW bs hs fun _ _ => w) (mkF hs fun _ => f) := rfl
  walk_at "w"
  refine ⟨rfl, pvMk (mkW bs hs fun _ _ => w) (mkF hs fun _ => f), rfl, cd_market F.ok, ?_⟩
  walk_at "w"
  refine ⟨rfl, greatest_sum_n F.ok hne L.gs ?_⟩
  walk_at "w"
  refine ⟨rfl, pvMk (mkW bs hs fun _ _ => w) (mkF hs fun _ => f), rfl, cd_market F.ok, ?_⟩
  walk_at "w"
  refine ⟨rfl, least_prices_n F.ok hne (by rw [mkW_keys]; exact L.least) fun ns hp hs' => ?_⟩
  rw [mkF_keys] at hp
  obtain rfl := sorted_one hs' hS hp
  walk_at "w"
  refine ⟨rfl, pvMk (mkW bs ns fun _ _ => w) (mkF ns fun _ => f), rfl, cd_market F.ok, ?_⟩
  walk_at "w"
  refine ⟨rfl, greatest_prices_n F.ok hne (by rw [mkW_keys]; exact L.most) fun ns2 hp2 hs2 => ?_⟩
  rw [mkF_keys] at hp2
  obtain rfl := sorted_one hs2 hS hp2
  walk_at "w"
  refine vMul_i (.inl ⟨by omega, by omega⟩) ?_
  walk_at "w"
  refine dict_of (ψ := PV.int) ns2 (fun h => if n < m then max w f else f) hn (by omega) (fun h hh R2 hR2 => ?_) ?_
  · walk_at "w"
    refine ite01 (fun e => ?_) fun e => ?_
    · rw [if_pos e] at hR2
      walk_at "w"
      exact hR2
    · rw [if_neg e] at hR2
      walk_at "w"
      exact hR2
  walk_at "w"
  refine dict_of (ψ := PV.int) ns2 (fun h => if m < n then f else max w f) hn (by omega) (fun h hh R2 hR2 => ?_) ?_
  · walk_at "w"
    refine ite01 (fun e => ?_) fun e => ?_
    · rw [if_pos e] at hR2
      walk_at "w"
      exact hR2
    · rw [if_neg e] at hR2
      walk_at "w"
      exact hR2
  walk_at "w"
  refine ⟨by simp [bigN], ?_⟩
  walk_at "w"
  refine ⟨rfl, .lst [.int (max 0 (w - f) * min m n), pvRow (ns2.map fun x => (x, if n < m then max w f else f)), pvRow (ns2.map fun x => (x, if m < n then f else max w f))], ?_, ?_, hR⟩
  · have e1 : (bs.length : Int) = m := by omega
    have e2 : (ns2.length : Int) = n := by omega
    have r1 : (ns2.map fun x => (x, val (mkF ns2 fun x => f) x + if ns2.length < bs.length then inD ns2 (max 0 (w - f)) x else 0)) = ns2.map fun x => (x, if n < m then max w f else f) := by
      refine List.map_congr_left fun x hx => ?_
      rw [val_mkF hx]
      congr 1
      unfold inD
      rw [if_pos hx]
      by_cases z : n < m
      · rw [if_pos z, if_pos (by omega)]; omega
      · rw [if_neg z, if_neg (by omega)]; omega
    have r2 : (ns2.map fun x => (x, val (mkF ns2 fun x => f) x + if bs.length < ns2.length then 0 else inD ns2 (max 0 (w - f)) x)) = ns2.map fun x => (x, if m < n then f else max w f) := by
      refine List.map_congr_left fun x hx => ?_
      rw [val_mkF hx]
      congr 1
      unfold inD
      rw [if_pos hx]
      by_cases z : m < n
      · rw [if_pos z, if_pos (by omega)]; omega
      · rw [if_neg z, if_neg (by omega)]; omega
    rw [r1, r2, e1, e2]
    rfl
  · refine ⟨by simp, fun x hx => ?_⟩
    rcases List.mem_cons.mp hx with rfl | hx
    · trivial
    rcases List.mem_cons.mp hx with rfl | hx
    · exact sd_row (by rw [List.length_map]; omega) 1
    · rw [List.mem_singleton.mp hx]
      exact sd_row (by rw [List.length_map]; omega) 1
end PH
set_option linter.all false
set_option autoImplicit false
set_option maxRecDepth 100000
set_option maxHeartbeats 4000000
/-! Q32: markets of one house. -/
namespace PH
open PySem
open PySem.Spec
open L2
open TL
open PyProof.Rows (sortedS)
theorem sum_single {c : Int} {b0 : Str} : ∀ {bs : List Str}, bs.Nodup → b0 ∈ bs → (bs.map fun b => if b = b0 then c else 0).sum = c
  | [], _, h => by cases h
  | b :: bs, nd, h => by
    have nd' := List.nodup_cons.mp nd
    rw [List.map_cons, List.sum_cons]
    by_cases z : b = b0
    · subst z
      rw [if_pos rfl]
      have : (bs.map fun k => if k = b then c else 0).sum = 0 := by
        have e : (bs.map fun k => if k = b then c else 0) = bs.map fun _ => (0 : Int) := List.map_congr_left fun k hk => by
          rw [if_neg (fun z : k = b => nd'.1 (z ▸ hk))]
        rw [e, sum_const]; simp
      omega
    · rw [if_neg z]
      have := sum_single (c := c) nd'.2 (by
        rcases List.mem_cons.mp h with q | q
        · exact absurd q.symm z
        · exact q)
      omega
/-- the numbers in order, greatest first -/
structure Row2 (x : Str → Int) (bs : List Str) (f r0 r1 : Int) (rest : List Int) : Prop where
  p : (bs.map x ++ [f, f]).Perm (r0 :: r1 :: rest)
  h1 : r1 ≤ r0
  h2 : ∀ y ∈ rest, y ≤ r1
section
variable {x : Str → Int} {bs : List Str} {f r0 r1 : Int} {rest : List Int}
theorem Row2.le0 (r : Row2 x bs f r0 r1 rest) : ∀ b ∈ bs, x b ≤ r0 := fun b hb => by
  have hm : x b ∈ r0 :: r1 :: rest := r.p.mem_iff.mp (List.mem_append_left _ (List.mem_map.mpr ⟨b, hb, rfl⟩))
  rcases List.mem_cons.mp hm with e | e
  · omega
  · rcases List.mem_cons.mp e with e | e
    · have := r.h1; omega
    · have := r.h2 _ e; have := r.h1; omega
theorem Row2.fr (r : Row2 x bs f r0 r1 rest) : f ≤ r1 := by
  have hp := r.p
  by_cases z : r0 = f
  · subst z
    have h1 := r.h1
    have hm : (bs.map x ++ [r0, r0]).Perm (r0 :: (bs.map x ++ [r0])) := by
      have : bs.map x ++ [r0, r0] = bs.map x ++ [r0] ++ [r0] := by simp
      rw [this]
      exact List.perm_append_comm
    have h2 := (hm.symm.trans hp).cons_inv
    have h3 : r0 ∈ r1 :: rest := h2.mem_iff.mp (by simp)
    rcases List.mem_cons.mp h3 with e | e
    · omega
    · exact r.h2 _ e
  · have hm : f ∈ r0 :: r1 :: rest := hp.mem_iff.mp (by simp)
    rcases List.mem_cons.mp hm with e | e
    · exact absurd e.symm z
    · rcases List.mem_cons.mp e with e | e
      · omega
      · exact r.h2 _ e
/-- who has it -/
theorem Row2.best (r : Row2 x bs f r0 r1 rest) (nd : bs.Nodup) (h : f < r0) : ∃ b0 ∈ bs, x b0 = r0 ∧ (∀ b ∈ bs, b ≠ b0 → x b ≤ r1) ∧ (r1 = f ∨ ∃ b1 ∈ bs, b1 ≠ b0 ∧ x b1 = r1) := by
  have hm : r0 ∈ bs.map x ++ [f, f] := r.p.mem_iff.mpr (List.mem_cons_self ..)
  have hm' : r0 ∈ bs.map x := by
    rcases List.mem_append.mp hm with e | e
    · exact e
    · exfalso
      rcases List.mem_cons.mp e with e | e
      · omega
      · have := List.mem_singleton.mp e; omega
  obtain ⟨b0, hb0, e0⟩ := List.mem_map.mp hm'
  obtain ⟨A, B, rfl⟩ := List.append_of_mem hb0
  have hp : ((A ++ b0 :: B).map x ++ [f, f]).Perm (x b0 :: (A.map x ++ B.map x ++ [f, f])) := by
    rw [List.map_append, List.map_cons, List.append_assoc, List.cons_append]
    have := List.perm_middle (l₁ := A.map x) (a := x b0) (l₂ := B.map x ++ [f, f])
    rw [List.append_assoc]
    exact this
  rw [e0] at hp
  have h2 := (hp.symm.trans r.p).cons_inv
  rw [List.nodup_append] at nd
  have ndB := List.nodup_cons.mp nd.2.1
  refine ⟨b0, hb0, e0, fun b hb hn => ?_, ?_⟩
  · have hx : x b ∈ A.map x ++ B.map x ++ [f, f] := by
      rcases List.mem_append.mp hb with q | q
      · exact List.mem_append_left _ (List.mem_append_left _ (List.mem_map.mpr ⟨b, q, rfl⟩))
      · rcases List.mem_cons.mp q with q | q
        · exact absurd q hn
        · exact List.mem_append_left _ (List.mem_append_right _ (List.mem_map.mpr ⟨b, q, rfl⟩))
    rcases List.mem_cons.mp (h2.mem_iff.mp hx) with e | e
    · omega
    · exact r.h2 _ e
  · have h3 : r1 ∈ A.map x ++ B.map x ++ [f, f] := h2.mem_iff.mpr (List.mem_cons_self ..)
    rcases List.mem_append.mp h3 with e | e
    · right
      rcases List.mem_append.mp e with e | e
      · obtain ⟨b1, hb1, e1⟩ := List.mem_map.mp e
        exact ⟨b1, List.mem_append_left _ hb1, fun z => nd.2.2 b1 hb1 b0 (List.mem_cons_self ..) z, e1⟩
      · obtain ⟨b1, hb1, e1⟩ := List.mem_map.mp e
        exact ⟨b1, List.mem_append_right _ (List.mem_cons_of_mem _ hb1), fun z => ndB.1 (z ▸ hb1), e1⟩
    · left
      rcases List.mem_cons.mp e with e | e
      · exact e
      · exact List.mem_singleton.mp e
end
def ox (x : Str → Int) : Str → Str → Int := fun b _ => x b
def of (f : Int) : Str → Int := fun _ => f
section
variable {x : Str → Int} {bs : List Str} {f r0 r1 : Int} {rest : List Int} {h0 : Str}
def onH (h0 : Str) (d : Int) : Str → Int := fun k => if k = h0 then d else 0
theorem one_g (F : FullOk bs [h0] (ox x) (of f)) {b : Str} (hb : b ∈ bs) : gF (gnOf (mkW bs [h0] (ox x)) (mkF [h0] (of f))) b h0 = some (x b - f) := gF_mk F hb (List.mem_singleton.mpr rfl)
theorem one_g' (F : FullOk bs [h0] (ox x) (of f)) {b k : Str} {y : Int} (e : gF (gnOf (mkW bs [h0] (ox x)) (mkF [h0] (of f))) b k = some y) : b ∈ bs ∧ k = h0 ∧ y = x b - f := by
  obtain ⟨h1, h2, h3⟩ := gF_mk' F e
  exact ⟨h1, List.mem_singleton.mp h2, h3⟩
theorem one_none (F : FullOk bs [h0] (ox x) (of f)) (h : ∀ b ∈ bs, x b ≤ f) : Asg.Cert (gF (gnOf (mkW bs [h0] (ox x)) (mkF [h0] (of f)))) bs (fun _ => none) 0 (fun _ => 0) (onH h0 0) := by
  have e0 : ∀ k, onH h0 0 k = 0 := fun k => by unfold onH; split <;> rfl
  refine ⟨fun b hb k y hy => ?_, fun b hb k e => (by cases e), fun k => by rw [e0]; exact Int.le_refl _, fun k _ => e0 k, fun _ _ => Int.le_refl _, fun _ _ _ => rfl, fun b hb c hc k e => (by cases e)⟩
  obtain ⟨_, _, rfl⟩ := one_g' F hy
  have := h b hb
  rw [e0]; omega
theorem one_cert (F : FullOk bs [h0] (ox x) (of f)) {b0 : Str} {d : Int} (hb0 : b0 ∈ bs) (h1 : ∀ b ∈ bs, b ≠ b0 → x b ≤ d) (h2 : f ≤ d) (h3 : d ≤ x b0) :
    Asg.Cert (gF (gnOf (mkW bs [h0] (ox x)) (mkF [h0] (of f)))) bs (fun b => if b = b0 then some h0 else none) 0 (fun b => if b = b0 then x b0 - d else 0) (onH h0 (d - f)) := by
  refine ⟨fun b hb k y hy => ?_, fun b hb k e => ?_, fun k => ?_, fun k hk => ?_, fun b hb => ?_, fun b hb e => ?_, fun b hb c hc k e e' => ?_⟩
  · obtain ⟨_, rfl, rfl⟩ := one_g' F hy
    unfold onH
    rw [if_pos rfl]
    by_cases z : b = b0
    · subst z; rw [if_pos rfl]; omega
    · rw [if_neg z]
      have := h1 b hb z
      omega
  · split at e
    · rename_i z
      cases e
      rw [if_pos z, one_g F hb, z]
      unfold onH
      rw [if_pos rfl]
      congr 1; omega
    · cases e
  · unfold onH; split <;> omega
  · unfold onH
    split
    · rename_i z
      exact absurd (by rw [if_pos rfl, z]) (hk b0 hb0)
    · rfl
  · split <;> omega
  · split at e
    · cases e
    · rename_i z; rw [if_neg z]
  · split at e
    · split at e'
      · rename_i z1 z2; rw [z1, z2]
      · cases e'
    · cases e
theorem one_un (F : FullOk bs [h0] (ox x) (of f)) {hf : Str → Option Str} {u q : Str → Int} (c : Asg.Cert (gF (gnOf (mkW bs [h0] (ox x)) (mkF [h0] (of f)))) bs hf 0 u q) {b : Str} (hb : b ∈ bs) (h : hf b ≠ some h0) : u b = 0 := by
  cases e : hf b with
  | none => exact c.uz b hb e
  | some k =>
    have := (one_g' F (c.eq b hb k e)).2.1
    rw [this] at e
    exact absurd e h
theorem Row2.gs (r : Row2 x bs f r0 r1 rest) (F : FullOk bs [h0] (ox x) (of f)) : Gs (mkW bs [h0] (ox x)) (mkF [h0] (of f)) (r0 - f) := by
  have h1 := r.h1
  have hfr := r.fr
  have key : ∀ {hf : Str → Option Str} {u p : Str → Int}, Asg.Cert (gF (gnOf (mkW bs [h0] (ox x)) (mkF [h0] (of f)))) bs hf 0 u p → Gs (mkW bs [h0] (ox x)) (mkF [h0] (of f)) ((bs.map u).sum + ([h0].map p).sum) := fun c => by
    have := Gs.of_cert F.ok (by rw [mkW_keys]; exact c)
    rw [mkW_keys, mkF_keys] at this
    exact this
  by_cases z : f < r0
  · obtain ⟨b0, hb0, e0, h2, h3⟩ := r.best F.bn z
    have := key (one_cert F hb0 h2 hfr (by omega))
    rw [sum_single F.bn hb0] at this
    have e : ([h0].map (onH h0 (r1 - f))).sum = r1 - f := by simp [onH]
    rw [e] at this
    have e2 : x b0 - r1 + (r1 - f) = r0 - f := by omega
    rw [e2] at this
    exact this
  · have := key (one_none F fun b hb => by have := r.le0 b hb; omega)
    rw [sum_const] at this
    have e : ([h0].map (onH h0 0)).sum = 0 := by simp [onH]
    rw [e] at this
    have e2 : r0 - f = 0 := by omega
    rw [e2]
    simpa using this
theorem Row2.least (r : Row2 x bs f r0 r1 rest) (F : FullOk bs [h0] (ox x) (of f)) : Asg.Least (gF (gnOf (mkW bs [h0] (ox x)) (mkF [h0] (of f)))) bs (onH h0 (r1 - f)) := by
  have h1 := r.h1
  have hfr := r.fr
  by_cases z : f < r0
  · obtain ⟨b0, hb0, e0, h2, h3⟩ := r.best F.bn z
    refine ⟨⟨_, _, one_cert F hb0 h2 hfr (by omega)⟩, fun hf u q c k => ?_⟩
    unfold onH
    split
    · rename_i hk
      subst hk
      rcases h3 with e | ⟨b1, hb1, ne, e1⟩
      · have := c.p0 k; omega
      · by_cases z1 : hf b1 = some k
        · have z0 : hf b0 ≠ some k := fun z0 => ne (c.inj b1 hb1 b0 hb0 k z1 z0)
          have := one_un F c hb0 z0
          have := c.fe b0 hb0 k _ (one_g F hb0)
          omega
        · have := one_un F c hb1 z1
          have := c.fe b1 hb1 k _ (one_g F hb1)
          omega
    · exact c.p0 k
  · have e : r1 - f = 0 := by omega
    rw [e]
    refine ⟨⟨_, _, one_none F fun b hb => by have := r.le0 b hb; omega⟩, fun hf u q c k => ?_⟩
    have := c.p0 k
    unfold onH
    split <;> omega
theorem Row2.most (r : Row2 x bs f r0 r1 rest) (F : FullOk bs [h0] (ox x) (of f)) : Asg.Most (gF (gnOf (mkW bs [h0] (ox x)) (mkF [h0] (of f)))) bs (onH h0 (r0 - f)) := by
  have h1 := r.h1
  have hfr := r.fr
  have up : ∀ hf u q', Asg.Cert (gF (gnOf (mkW bs [h0] (ox x)) (mkF [h0] (of f)))) bs hf 0 u q' → ∀ h, q' h ≤ onH h0 (r0 - f) h := by
    intro hf u q c k
    by_cases z : ∃ b ∈ bs, hf b = some k
    · obtain ⟨b, hb, e⟩ := z
      have h2 := c.eq b hb k e
      obtain ⟨_, h3, h4⟩ := one_g' F h2
      have h5 := c.ut b hb
      have h6 := r.le0 b hb
      unfold onH
      rw [if_pos h3]
      omega
    · have := c.pz k fun b hb e => z ⟨b, hb, e⟩
      unfold onH
      split <;> omega
  refine ⟨?_, up⟩
  by_cases z : f < r0
  · obtain ⟨b0, hb0, e0, h2, h3⟩ := r.best F.bn z
    have := one_cert F (d := r0) hb0 (fun b hb _ => r.le0 b hb) (by omega) (by omega)
    exact ⟨_, _, this⟩
  · have e : r0 - f = 0 := by omega
    rw [e]
    exact ⟨_, _, one_none F fun b hb => by have := r.le0 b hb; omega⟩
end
/-! without any wants -/
theorem gn_empty {ws : List (Str × List (Str × Int))} {fl : List (Str × Int)} (h : ∀ e ∈ ws, e.2 = []) : gnOf ws fl = [] := by
  unfold gnOf
  rw [List.flatMap_eq_nil_iff]
  intro e he
  rw [h e he]; rfl
theorem gs_empty {ws : List (Str × List (Str × Int))} {fl : List (Str × Int)} (h : ∀ e ∈ ws, e.2 = []) : Gs ws fl 0 := by
  refine ⟨fun _ => none, fun _ => 0, fun _ => 0, ?_, ?_⟩
  · refine ⟨fun b hb k x hx => ?_, fun b hb k e => (by cases e), fun _ => Int.le_refl _, fun _ _ => rfl, fun _ _ => Int.le_refl _, fun _ _ _ => rfl, fun b hb c hc k e => (by cases e)⟩
    rw [gn_empty h] at hx
    cases hx
  · unfold Asg.gains
    rw [sum_const]; simp
/-- a full market in the order of names -/
theorem srt_mk {bs hs : List Str} {w : Str → Str → Int} {f : Str → Int} {ws' : List (Str × List (Str × Int))} {fl' : List (Str × Int)} (F : FullOk bs hs w f) (S : Srt (mkW bs hs w) (mkF hs f) ws' fl') (hS : sortedS hs = true) :
    ∃ ns, ns.Perm bs ∧ sortedS ns = true ∧ ws' = mkW ns hs w ∧ fl' = mkF hs f := by
  have pb := S.pb
  rw [mkW_keys] at pb
  refine ⟨ws'.map (·.1), pb, S.sb, ?_, ?_⟩
  · unfold mkW
    rw [List.map_map]
    conv => lhs; rw [← List.map_id ws']
    refine List.map_congr_left fun e he => ?_
    obtain ⟨b, r'⟩ := e
    obtain ⟨r, ns, h1, h2, h3, h4⟩ := S.row b r' he
    obtain ⟨b', hb', e'⟩ := List.mem_map.mp h1
    cases e'
    rw [map_fst] at h2
    have := sorted_one h3 hS h2
    subst this
    show (b, r') = (b, ns.map fun h => (h, w b h))
    rw [h4]
    congr 1
    unfold rowOf
    refine List.map_congr_left fun h hh => ?_
    unfold val
    rw [lk_mapF h hh]; rfl
  · obtain ⟨ns, h1, h2, rfl⟩ := S.fl
    rw [mkF_keys] at h1
    have := sorted_one h2 hS h1
    subst this
    unfold rowOf
    exact List.map_congr_left fun h hh => by rw [val_mkF hh]
end PH
set_option linter.all false
set_option autoImplicit false
set_option maxRecDepth 100000
set_option maxHeartbeats 4000000
/-! Q33: best pairings of one house, counted. -/
namespace PH
open PySem
open PySem.Spec
open L2
open TL
open PyProof.Rows (sortedS)
def cS (ws : List (Str × List (Str × Int))) (fl : List (Str × Int)) (s : Int) (rows : List Row) : Nat := (rows.filter fun r => decide ((sumL ws fl r).sum = s)).length
def cZ (h : Str) (rows : List Row) : Nat := (rows.filter fun r => !hasH r h).length
theorem sumL_snoc (ws : List (Str × List (Str × Int))) (fl : List (Str × Int)) (r : Row) (b : Str) (o : Option Str) : (sumL ws fl (r ++ [(b, o)])).sum = (sumL ws fl r).sum + (match o with
    | some h => wv ws fl b h
    | none => 0) := by
  unfold sumL
  rw [List.filterMap_append, List.sum_append_int]
  cases o <;> simp
theorem hasH_snoc (r : Row) (b h : Str) (o : Option Str) : hasH (r ++ [(b, o)]) h = (hasH r h || decide (o = some h)) := by
  unfold hasH
  rw [List.any_append]
  simp
theorem cS_append (ws : List (Str × List (Str × Int))) (fl : List (Str × Int)) (s : Int) (a b : List Row) : cS ws fl s (a ++ b) = cS ws fl s a + cS ws fl s b := by
  unfold cS; rw [List.filter_append, List.length_append]
theorem cZ_append (h : Str) (a b : List Row) : cZ h (a ++ b) = cZ h a + cZ h b := by
  unfold cZ; rw [List.filter_append, List.length_append]
section
variable {ws : List (Str × List (Str × Int))} {fl : List (Str × Int)} {h0 : Str} {s : Int}
theorem ext_one (b : Str) (v : Int) (r : Row) : extR b [(h0, v)] r = if hasH r h0 = true then [r ++ [(b, none)]] else [r ++ [(b, none)], r ++ [(b, some h0)]] := by
  unfold extR
  cases e : hasH r h0 with
  | true => simp [e]
  | false => simp [e]
theorem step_one (b : Str) (v : Int) : ∀ rows : List Row, (∀ r ∈ rows, hasH r h0 = false → (sumL ws fl r).sum = 0) →
    cS ws fl s (rows.flatMap (extR b [(h0, v)])) = cS ws fl s rows + cZ h0 rows * (if wv ws fl b h0 = s then 1 else 0) ∧ cZ h0 (rows.flatMap (extR b [(h0, v)])) = cZ h0 rows ∧
    (∀ r ∈ rows.flatMap (extR b [(h0, v)]), hasH r h0 = false → (sumL ws fl r).sum = 0)
  | [], _ => by simp [cS, cZ]
  | r :: rows, h => by
    obtain ⟨i1, i2, i3⟩ := step_one b v rows fun r hr => h r (List.mem_cons_of_mem _ hr)
    have h1 := h r (List.mem_cons_self ..)
    have e1 : cS ws fl s (r :: rows) = cS ws fl s [r] + cS ws fl s rows := cS_append ws fl s [r] rows
    have e2 : cZ h0 (r :: rows) = cZ h0 [r] + cZ h0 rows := cZ_append h0 [r] rows
    rw [List.flatMap_cons, cS_append, cZ_append, i1, i2, e1, e2]
    have n1 : (sumL ws fl (r ++ [(b, none)])).sum = (sumL ws fl r).sum := by rw [sumL_snoc]; simp
    have n2 : (sumL ws fl (r ++ [(b, some h0)])).sum = (sumL ws fl r).sum + wv ws fl b h0 := sumL_snoc ws fl r b (some h0)
    have m1 : hasH (r ++ [(b, none)]) h0 = hasH r h0 := by rw [hasH_snoc]; simp
    have m2 : hasH (r ++ [(b, some h0)]) h0 = true := by rw [hasH_snoc]; simp
    rw [ext_one]
    cases e : hasH r h0 with
    | true =>
      rw [if_pos rfl]
      have k1 : cS ws fl s [r ++ [(b, none)]] = cS ws fl s [r] := by
        unfold cS
        simp only [List.filter_cons, List.filter_nil, n1]
        split <;> rfl
      have k2 : cZ h0 [r ++ [(b, none)]] = 0 := by
        unfold cZ
        simp only [List.filter_cons, List.filter_nil, m1, e]
        rfl
      have k3 : cZ h0 [r] = 0 := by
        unfold cZ
        simp only [List.filter_cons, List.filter_nil, e]
        rfl
      refine ⟨by rw [k1, k3]; simp only [Nat.zero_add]; omega, by rw [k2, k3], fun q hq hz => ?_⟩
      rcases List.mem_append.mp hq with hq | hq
      · rw [List.mem_singleton.mp hq, m1, e] at hz; cases hz
      · exact i3 q hq hz
    | false =>
      rw [if_neg (by decide)]
      have z0 := h1 e
      have k1 : cS ws fl s [r ++ [(b, none)], r ++ [(b, some h0)]] = cS ws fl s [r] + (if wv ws fl b h0 = s then 1 else 0) := by
        have := cS_append ws fl s [r ++ [(b, none)]] [r ++ [(b, some h0)]]
        rw [show [r ++ [(b, none)]] ++ [r ++ [(b, some h0)]] = [r ++ [(b, none)], r ++ [(b, some h0)]] from rfl] at this
        rw [this]
        congr 1
        · unfold cS
          simp only [List.filter_cons, List.filter_nil, n1]
          split <;> rfl
        · unfold cS
          simp only [List.filter_cons, List.filter_nil, n2, z0, Int.zero_add, decide_eq_true_eq]
          split <;> rfl
      have k2 : cZ h0 [r ++ [(b, none)], r ++ [(b, some h0)]] = 1 := by
        unfold cZ
        simp only [List.filter_cons, List.filter_nil, m1, m2, e]
        rfl
      have k3 : cZ h0 [r] = 1 := by
        unfold cZ
        simp only [List.filter_cons, List.filter_nil, e]
        rfl
      refine ⟨by rw [k1, k3, Nat.add_mul]; omega, by rw [k2, k3], fun q hq hz => ?_⟩
      rcases List.mem_append.mp hq with hq | hq
      · rcases List.mem_cons.mp hq with hq | hq
        · rw [hq, n1]; exact z0
        · rw [List.mem_singleton.mp hq, m2] at hz; cases hz
      · exact i3 q hq hz
theorem count_one : ∀ (l : List (Str × List (Str × Int))) (rows : List Row), (∀ e ∈ l, ∃ v, e.2 = [(h0, v)]) → (∀ r ∈ rows, hasH r h0 = false → (sumL ws fl r).sum = 0) →
    cS ws fl s (rowsFrom rows l) = cS ws fl s rows + cZ h0 rows * (l.filter fun e => decide (wv ws fl e.1 h0 = s)).length
  | [], rows, _, _ => by simp [rowsFrom]
  | e :: l, rows, hl, h => by
    obtain ⟨v, hv⟩ := hl e (List.mem_cons_self ..)
    obtain ⟨b, r⟩ := e
    dsimp only at hv
    subst hv
    obtain ⟨i1, i2, i3⟩ := step_one (ws := ws) (fl := fl) (h0 := h0) (s := s) b v rows h
    have ih := count_one l (rows.flatMap (extR b [(h0, v)])) (fun e he => hl e (List.mem_cons_of_mem _ he)) i3
    show cS ws fl s (rowsFrom (rows.flatMap (extR b [(h0, v)])) l) = _
    rw [ih, i1, i2, List.filter_cons]
    by_cases z : wv ws fl b h0 = s
    · simp only [z, decide_true, if_true, List.length_cons, Nat.mul_add]; omega
    · simp only [z, decide_false, if_false]; simp
theorem rows_bound (c : Nat) : ∀ (l : List (Str × List (Str × Int))) (rows : List Row), (∀ e ∈ l, e.2.length ≤ c) → (rowsFrom rows l).length ≤ rows.length * (c + 1) ^ l.length
  | [], rows, _ => by simp [rowsFrom]
  | e :: l, rows, h => by
    have ih := rows_bound c l (rows.flatMap (extR e.1 e.2)) fun e' he' => h e' (List.mem_cons_of_mem _ he')
    have hb : (rows.flatMap (extR e.1 e.2)).length ≤ rows.length * (c + 1) := by
      clear ih
      induction rows with
      | nil => simp
      | cons r rows ih2 =>
        rw [List.flatMap_cons, List.length_append, List.length_cons, Nat.add_mul]
        have h1 : (extR e.1 e.2 r).length ≤ c + 1 := by
          unfold extR
          rw [List.length_cons, List.length_map]
          have := List.length_filter_le (fun w => !hasH r w.1) e.2
          have := h e (List.mem_cons_self ..)
          omega
        omega
    show (rowsFrom (rows.flatMap (extR e.1 e.2)) l).length ≤ _
    refine Nat.le_trans ih ?_
    rw [List.length_cons, Nat.pow_succ, Nat.mul_comm ((c + 1) ^ l.length), ← Nat.mul_assoc]
    exact Nat.mul_le_mul_right _ hb
end
section
variable {x : Str → Int} {bs : List Str} {f s : Int} {h0 : Str}
theorem one_wv (F : FullOk bs [h0] (ox x) (of f)) {b : Str} (hb : b ∈ bs) : wv (mkW bs [h0] (ox x)) (mkF [h0] (of f)) b h0 = x b - f := by
  unfold wv
  rw [val_mkF (List.mem_singleton.mpr rfl)]
  unfold mkW
  rw [lk_mapF b hb, Option.getD_some]
  unfold val
  rw [lk_mapF h0 (List.mem_singleton.mpr rfl)]; rfl
theorem one_count (F : FullOk bs [h0] (ox x) (of f)) (hs : 0 < s) : ((rowsOf (mkW bs [h0] (ox x))).filter fun r => decide ((sumL (mkW bs [h0] (ox x)) (mkF [h0] (of f)) r).sum = s)).length = (bs.filter fun b => decide (x b - f = s)).length := by
  have := count_one (ws := mkW bs [h0] (ox x)) (fl := mkF [h0] (of f)) (h0 := h0) (s := s) (mkW bs [h0] (ox x)) [[]] (fun e he => by
    obtain ⟨b, hb, rfl⟩ := List.mem_map.mp he
    exact ⟨_, rfl⟩) fun r hr _ => by rw [List.mem_singleton.mp hr]; rfl
  have e0 : cS (mkW bs [h0] (ox x)) (mkF [h0] (of f)) s [[]] = 0 := by
    unfold cS sumL
    simp
    omega
  have e1 : cZ h0 [[]] = 1 := rfl
  rw [e0, e1, Nat.zero_add, Nat.one_mul] at this
  refine this.trans ?_
  have e2 : (mkW bs [h0] (ox x)).filter (fun e => decide (wv (mkW bs [h0] (ox x)) (mkF [h0] (of f)) e.1 h0 = s)) = (bs.filter fun b => decide (x b - f = s)).map fun b => (b, [(h0, x b)]) := by
    conv => lhs; rw [show mkW bs [h0] (ox x) = bs.map fun b => (b, [(h0, x b)]) from rfl]
    rw [List.filter_map]
    congr 1
    refine List.filter_congr fun b hb => ?_
    simp only [Function.comp]
    have := one_wv F hb
    rw [show (bs.map fun b => (b, [(h0, x b)])) = mkW bs [h0] (ox x) from rfl, this]
  rw [e2, List.length_map]
theorem one_rows (F : FullOk bs [h0] (ox x) (of f)) (h : bs.length ≤ 10) : (rowsOf (mkW bs [h0] (ox x))).length ≤ 1000000 := by
  have := rows_bound 1 (mkW bs [h0] (ox x)) [[]] fun e he => by
    obtain ⟨b, hb, rfl⟩ := List.mem_map.mp he
    exact Nat.le_refl _
  have hl : (mkW bs [h0] (ox x)).length = bs.length := by unfold mkW; rw [List.length_map]
  rw [hl] at this
  have h2 : (1 + 1) ^ bs.length ≤ 2 ^ 10 := Nat.pow_le_pow_right (by decide) h
  have : (rowsOf (mkW bs [h0] (ox x))).length ≤ 1 * (1 + 1) ^ bs.length := this
  omega
theorem one_gn (F : FullOk bs [h0] (ox x) (of f)) : gnOf (mkW bs [h0] (ox x)) (mkF [h0] (of f)) = bs.map fun b => ((b, h0), x b - f) := by
  unfold gnOf mkW
  rw [List.flatMap_map]
  have e : ∀ b ∈ bs, gRow (mkF [h0] (of f)) b ([h0].map fun h => (h, ox x b h)) = [((b, h0), x b - f)] := fun b hb => by
    unfold gRow
    simp only [List.map_cons, List.map_nil]
    rw [val_mkF (List.mem_singleton.mpr rfl)]; rfl
  clear F
  induction bs with
  | nil => rfl
  | cons b bs ih =>
    have e1 := e b (List.mem_cons_self ..)
    have i1 := ih fun b' hb' => e b' (List.mem_cons_of_mem _ hb')
    rw [List.flatMap_cons, i1, List.map_cons]
    show gRow (mkF [h0] (of f)) b ([h0].map fun h => (h, ox x b h)) ++ _ = _
    rw [e1]; rfl
end
end PH
set_option linter.all false
set_option autoImplicit false
set_option maxRecDepth 100000
set_option maxHeartbeats 4000000
/-! Q34: the law of one house. -/
namespace PH
open PySem
open PySem.Spec
open L2
open TL
open PyProof.Rows (sortedS)
theorem iDone {wk wv : WE} {S : List Slot} {k : Nat} {R : PK} (h : wk S k fun q k1 => wv S k1 fun v k2 => ∃ κ, keyOf q = some κ ∧ R (.dk [(κ, v)]) k2) : wDone wk wv S k R := h
theorem kOf {x : Str} {P : Key → Prop} (h : P (kS x)) : ∃ κ, keyOf (.str x) = some κ ∧ P κ := ⟨_, rfl, h⟩
theorem iOrV {wa wb : WE} {S : List Slot} {k : Nat} {R : PK} (h : wa S k fun p k1 => match p with
  | .bl true => R (.bl true) k1
  | .bl false => wb S k1 R
  | _ => False) : wOrV wa wb S k R := h
theorem iNotV {wa : WE} {S : List Slot} {k : Nat} {R : PK} (h : wa S k fun p k1 => match p with
  | .bl b => R (.bl (!b)) k1
  | _ => False) : wNotV wa S k R := h
theorem vVals {α : Type} {f : α → PV} {l : List (Str × α)} {R : PV → Prop} (h : R (.lst (l.map fun e => f e.2))) : vList_values (.dk (pvM kS f l)) R := by
  show R (.lst ((pvM kS f l).map fun kv => kv.2))
  rw [vals_pv]; exact h
theorem vBack {xs : List PV} {R : PV → Prop} (h : R (.lst xs.reverse)) : vSlBack (.lst xs) R := h
theorem vAdd_l {x y : List PV} {R : PV → Prop} (hl : x.length + y.length ≤ 1000000) (h : R (.lst (x ++ y))) : vAdd (.lst x) (.lst y) R := ⟨Nat.le_trans hl (by decide), h⟩
theorem idx_li {xs : List Int} {i : Int} {R : PV → Prop} {p : Int} (h0 : 0 ≤ i) (e : xs[i.toNat]? = some p) (h : R (.int p)) : vIdx (.lst (xs.map PV.int)) (.int i) R := idx_l h0 (by rw [List.getElem?_map, e]; rfl) h
theorem iteN {P Q : Prop} (h : Q) : if (!true) = true then P else Q := by rw [if_neg (by decide)]; exact h
local macro_rules | `(tactic| walk_at "w1") => `(tactic| first
  | (with_reducible refine iSeq ?_)
  | (with_reducible refine iIf ?_)
  | (with_reducible refine iSkip ?_)
  | (with_reducible refine iAnd ?_)
  | (with_reducible refine iOr ?_)
  | (with_reducible refine iNot ?_)
  | (with_reducible refine iCmp ?_)
  | (with_reducible refine i2 ?_)
  | (with_reducible refine i1 ?_)
  | (with_reducible refine iC ?_)
  | (with_reducible refine iNil ?_)
  | (with_reducible refine iCons ?_)
  | (with_reducible refine iRet ?_)
  | (with_reducible refine iFrz ?_)
  | (with_reducible refine iBool ?_)
  | (with_reducible refine iVl ?_)
  | (with_reducible refine iAndV ?_)
  | (with_reducible refine iPar ?_)
  | (with_reducible refine iAsg ?_)
  | (with_reducible refine iAsgF ?_)
  | (with_reducible refine iYes ?_)
  | (with_reducible refine iteT ?_)
  | (with_reducible refine iteF ?_)
  | (with_reducible refine iteN ?_)
  | (with_reducible refine vGe_i ?_)
  | (with_reducible refine vLe_i ?_)
  | (with_reducible refine iIte ?_)
  | (with_reducible refine iAddD ?_)
  | (with_reducible refine iAddL ?_)
  | (with_reducible refine iCall ?_)
  | (with_reducible refine iFor ?_)
  | (with_reducible refine iAsgT ?_)
  | (with_reducible refine iTup ?_)
  | (with_reducible refine iLst ?_)
  | (with_reducible refine gTi ?_)
  | (with_reducible refine gsCi ?_)
  | (with_reducible refine gsNi ?_)
  | (with_reducible refine vSub_i ?_)
  | (with_reducible refine vAdd_i ?_)
  | (with_reducible refine vEq_i ?_)
  | (with_reducible refine vLt_i ?_)
  | (with_reducible refine vGt_i ?_)
  | (with_reducible refine vIsNot_s ?_)
  | (with_reducible refine vIsNot_non ?_)
  | (with_reducible refine vIs_str ?_)
  | (with_reducible refine vIs_non ?_)
  | (with_reducible refine vNe_s ?_)
  | ((with_reducible refine idx_t0 ?_))
  | ((with_reducible refine idx_mk0 ?_))
  | ((with_reducible refine idx_mk1 ?_))
  | (with_reducible refine iDc ?_)
  | (with_reducible refine iLc ?_)
  | (with_reducible refine iIts ?_)
  | (with_reducible refine iItsT ?_)
  | (with_reducible refine iILst ?_)
  | (with_reducible refine iIKeys ?_)
  | (with_reducible refine iIVals ?_)
  | (with_reducible refine iDone ?_)
  | (with_reducible refine kOf ?_)
  | (with_reducible refine iOrV ?_)
  | (with_reducible refine iNotV ?_)
  | (with_reducible refine vVals ?_)
  | (with_reducible refine vBack ?_)
  | (with_reducible refine iIRng1 ?_)
  | (with_reducible refine vMax2_i ?_)
  | (with_reducible refine vMin2_i ?_)
  | ((with_reducible refine idx_t1 ?_))
  | ((with_reducible refine' gNi ?e1 ?_); (case e1 => simp [frz_len, unS_len]))
  | ((with_reducible refine' iVarRow ?e1 ?e2 ?_); (case e1 => first | (simp only [unS, frz, slM, List.set_cons_succ, List.set_cons_zero, List.getElem?_cons_succ, List.getElem?_cons_zero]; exact rfl) | exact rfl); (case e2 => with_reducible exact rfl))
  | ((with_reducible refine' iRdRow ?e1 ?e2 ?_); (case e1 => first | (simp only [unS, frz, slM, List.set_cons_succ, List.set_cons_zero, List.getElem?_cons_succ, List.getElem?_cons_zero]; exact rfl) | exact rfl); (case e2 => with_reducible exact rfl))
  | ((with_reducible refine' iVar ?e1 ?_); (case e1 => first | (simp only [unS, frz, slM, List.set_cons_succ, List.set_cons_zero, List.getElem?_cons_succ, List.getElem?_cons_zero]; exact rfl) | exact rfl))
  | ((with_reducible refine' iRd ?e1 ?_); (case e1 => first | (simp only [unS, frz, slM, List.set_cons_succ, List.set_cons_zero, List.getElem?_cons_succ, List.getElem?_cons_zero]; exact rfl) | exact rfl))
  | ((with_reducible refine' iRo ?e1 ?_); (case e1 => first | (simp only [unS, frz, slM, List.set_cons_succ, List.set_cons_zero, List.getElem?_cons_succ, List.getElem?_cons_zero]; exact rfl) | exact rfl))
  | ((with_reducible refine' iApp ?e1 ?_); (case e1 => first | (simp only [unS, frz, slM, List.set_cons_succ, List.set_cons_zero, List.getElem?_cons_succ, List.getElem?_cons_zero]; exact rfl) | exact rfl))
  | ((with_reducible refine' iPut ?e1 ?_); (case e1 => first | (simp only [unS, frz, slM, List.set_cons_succ, List.set_cons_zero, List.getElem?_cons_succ, List.getElem?_cons_zero]; exact rfl) | exact rfl))
  | ((with_reducible refine And.intro (le_ps ?e1) ?_); (case e1 => first | (simp only [List.length_cons, List.length_nil]; decide) | simp))
  | ((with_reducible refine And.intro (And.intro (lt_slots ?e1) (lt_slots ?e2)) ?_); (case e1 => simp); (case e2 => simp))
  | ((with_reducible refine And.intro (lt_slots ?e1) ?_); (case e1 => simp [frz_len, unS_len])))
local macro_rules | `(tactic| walk_at "w") => `(tactic| repeat (first | walk_at "w1" | (dsimp only) | (simp only [items_pv, itemsT_pv, keys_pv, vals_pv])))
def w__law_one_house_right (t__law_copied t_least_prices t_greatest_prices t_greatest_sum t__law_same t_in_some t_best_count : TSp) : WS :=
  (wSeq (wAsg 2 (wTup (wCons (w1 (wLc (wIKeys (wVar 0)) [7] (gN 7) wYes (wTup (wCons (wVar 7) (wCons (wDone (wC (.str "h")) (w2 (wRd 0) (wRd 7) vIdx)) wNil)))) vDict) (wCons (wDone (wC (.str "h")) (wVar 1)) wNil))))
  (wSeq (wAsg 3 (w1 (w1 (w2 (w1 (wRd 0) vList_values) (wLst (wCons (wVar 1) (wCons (wVar 1) wNil))) vAdd) vSort) vSlBack))
  (wSeq (wAsg 4 (wLst (wCons (wCall 1 t_least_prices (wCons (wCall 1 t__law_copied (wCons (wVar 2) wNil)) wNil)) (wCons (wCall 1 t_greatest_prices (wCons (wCall 1 t__law_copied (wCons (wVar 2) wNil)) wNil)) (wCons (wCall 1 t_greatest_sum (wCons (wCall 1 t__law_copied (wCons (wVar 2) wNil)) wNil)) wNil)))))
  (wSeq (wIf (wNot (wVal (wCall 2 t__law_same (wCons (wVar 4) (wCons (wLst (wCons (wDone (wC (.str "h")) (w2 (w2 (wRd 3) (wC (.int 1)) vIdx) (wRd 1) vMax2)) (wCons (wDone (wC (.str "h")) (w2 (wRd 3) (wC (.int 0)) vIdx)) (wCons (w2 (w2 (wRd 3) (wC (.int 0)) vIdx) (wRd 1) vSub) wNil)))) wNil))))) (wRet (wC (.bl false))) wSkip)
  (wSeq (wAsgF 5 (wLc (wILst (w1 (wRd 0) vSort)) [7] (gN 7) (wAnd (wCmp (w2 (wRd 0) (wRd 7) vIdx) (w2 (wRd 3) (wC (.int 0)) vIdx) vEq) (wCmp (w2 (wRd 3) (wC (.int 0)) vIdx) (wRd 1) vGe)) (wVar 7)))
  (wSeq (wFrz 5 (wAsgF 6 (wLc (wILst (wVar 5)) [7] (gN 7) wYes (wTup (wCons (wVar 7) (wCons (wC (.str "h")) wNil))))))
  (wSeq (wFrz 6 (wIf (wNot (wVal (wCall 2 t__law_same (wCons (wCall 1 t_in_some (wCons (wCall 1 t__law_copied (wCons (wVar 2) wNil)) wNil)) (wCons (wVar 6) wNil))))) (wRet (wC (.bl false))) wSkip))
  (wRet (wOrV (wBool (wCmp (w2 (wRd 3) (wC (.int 0)) vIdx) (wRd 1) vEq)) (wCall 2 t__law_same (wCons (wCall 1 t_best_count (wCons (wCall 1 t__law_copied (wCons (wVar 2) wNil)) wNil)) (wCons (w1 (wRd 5) vLen) wNil))))))))))))

def t_one : TSp := fun ps k R => ∃ (bs : List Str) (x : Str → Int) (f : Int), ps = [.dk (pvM kS PV.int (bs.map fun b => (b, x b))), .int f] ∧ FullOk bs ["h"] (ox x) (of f) ∧ 0 < bs.length ∧ bs.length ≤ 10 ∧ R (.bl true) k
theorem vSort_ints {ns : List Int} {R : PV → Prop} (h : ∀ ns' : List Int, ns'.Perm ns → ns'.Pairwise (· ≤ ·) → R (.lst (ns'.map PV.int))) : vSort (.lst (ns.map PV.int)) R := .inl ⟨ns, rfl, h⟩
theorem l_one (ps : List PV) (k : Nat) (R : PK) (hl : ps.length = 2) (h : t_one ps k R) : w__law_one_house_right (t_copy 3) t_least_prices t_greatest_prices t_greatest_sum' (t_same 5) t_in_some t_best_count { nx := fun _ k => R .non k, rt := R } (startS 8 ps) k := by
  obtain ⟨bs, x, f, rfl, F, lb, lb2, hR⟩ := h
  show w__law_one_house_right _ _ _ _ _ _ _ _ [.fz (.dk (pvM kS PV.int (bs.map fun b => (b, x b)))), .fz (.int f), .un, .un, .un, .un, .un, .un] k
  unfold w__law_one_house_right
  have nd := F.bn
  have lkx : ∀ b ∈ bs, lk (bs.map fun b => (b, x b)) b = some (x b) := fun b hb => lk_mapF b hb
  walk_at "w"
  have e1 : (bs.map fun b => (b, x b)).map (fun e => PV.str e.1) = bs.map PV.str := by rw [List.map_map]; rfl
  rw [e1]
  refine dict_of (ψ := pvRow) bs (fun b => [((("h" : Str)), x b)]) nd (by omega) (fun b hb R' hR' => ?_) ?_
  · walk_at "w"
    refine vIdx_dk (f := PV.int) (lkx b hb) ?_
    walk_at "w"
    exact hR'
  have eM : (PV.tup [.dk (pvM kS pvRow (bs.map fun b => (b, [((("h" : Str)), x b)]))), .dk [(kS "h", .int f)]]) = pvMk (mkW bs ["h"] (ox x)) (mkF ["h"] (of f)) := rfl
  have hne : mkW bs ["h"] (ox x) ≠ [] := by
    intro z
    have := congrArg List.length z
    simp only [mkW, List.length_map, List.length_nil] at this
    omega
  walk_at "w"
  refine vAdd_l (by simp; omega) ?_
  have e2 : (bs.map fun b => (b, x b)).map (fun e => PV.int e.2) ++ [.int f, .int f] = (bs.map x ++ [f, f]).map PV.int := by
    rw [List.map_map, List.map_append, List.map_map]; rfl
  rw [e2]
  refine vSort_ints fun rs rp rS => ?_
  have hlr : rs.length = bs.length + 2 := by rw [rp.length_eq]; simp
  obtain ⟨r0, r1, rest, hrev⟩ : ∃ r0 r1 rest, rs.reverse = r0 :: r1 :: rest := by
    have hl2 : rs.reverse.length = bs.length + 2 := by rw [List.length_reverse, hlr]
    match h : rs.reverse, hl2 with
    | r0 :: r1 :: rest, _ => exact ⟨r0, r1, rest, rfl⟩
    | [_], h2 => simp at h2
    | [], h2 => simp at h2
  have pw : (r0 :: r1 :: rest).Pairwise (fun a b => b ≤ a) := by
    rw [← hrev, List.pairwise_reverse]; exact rS
  have hrow : Row2 x bs f r0 r1 rest := by
    refine ⟨?_, ?_, ?_⟩
    · rw [← hrev]; exact rp.symm.trans (List.reverse_perm rs).symm
    · exact (List.pairwise_cons.mp pw).1 r1 (List.mem_cons_self ..)
    · exact (List.pairwise_cons.mp (List.pairwise_cons.mp pw).2).1
  have e3 : (rs.map PV.int).reverse = (r0 :: r1 :: rest).map PV.int := by rw [← List.map_reverse, hrev]
  walk_at "w"
  rw [e3]
  clear e3 hrev
  have hS1 : sortedS [("h" : Str)] = true := by decide +kernel
  have h1 := hrow.h1
  have hfr := hrow.fr
  have one_p : ∀ {ns : List Str}, ns.Perm ((mkF ["h"] (of f)).map (·.1)) → ns = [("h" : Str)] := fun hp => by
    rw [mkF_keys] at hp
    exact List.perm_singleton.mp hp
  refine ⟨rfl, pvMk (mkW bs ["h"] (ox x)) (mkF ["h"] (of f)), rfl, cd_market F.ok, ?_⟩
  walk_at "w"
  refine ⟨rfl, least_prices_n F.ok hne (by rw [mkW_keys]; exact hrow.least F) fun ns hp hs' => ?_⟩
  obtain rfl := one_p hp
  walk_at "w"
  refine ⟨rfl, pvMk (mkW bs ["h"] (ox x)) (mkF ["h"] (of f)), rfl, cd_market F.ok, ?_⟩
  walk_at "w"
  refine ⟨rfl, greatest_prices_n F.ok hne (by rw [mkW_keys]; exact hrow.most F) fun ns hp hs' => ?_⟩
  obtain rfl := one_p hp
  walk_at "w"
  refine ⟨rfl, pvMk (mkW bs ["h"] (ox x)) (mkF ["h"] (of f)), rfl, cd_market F.ok, ?_⟩
  walk_at "w"
  refine ⟨rfl, greatest_sum_n F.ok hne (hrow.gs F) ?_⟩
  walk_at "w"
  refine idx_li (by decide) (p := r1) rfl ?_
  walk_at "w"
  refine idx_li (by decide) (p := r0) rfl ?_
  walk_at "w"
  refine idx_li (by decide) (p := r0) rfl ?_
  walk_at "w"
  refine ⟨rfl, .lst [pvRow [("h", r1)], pvRow [("h", r0)], .int (r0 - f)], ?_, ?_, ?_⟩
  · have v1 : val (mkF ["h"] (of f)) "h" = f := val_mkF (List.mem_singleton.mpr rfl)
    have o1 : ∀ d, onH "h" d "h" = d := fun d => by unfold onH; rw [if_pos rfl]
    have m1 : max r1 f = r1 := by omega
    have a1 : f + (r1 - f) = r1 := by omega
    have a2 : f + (r0 - f) = r0 := by omega
    rw [m1]
    simp only [List.map_cons, List.map_nil, v1, o1, a1, a2]
    rfl
  · refine ⟨by simp, fun y hy => ?_⟩
    rcases List.mem_cons.mp hy with rfl | hy
    · exact sd_row (by simp) 1
    rcases List.mem_cons.mp hy with rfl | hy
    · exact sd_row (by simp) 1
    · rw [List.mem_singleton.mp hy]; trivial
  walk_at "w"
  refine vSort_dk (by rw [List.length_map]; omega) fun ns np nS => ?_
  rw [map_fst] at np
  have nnd : ns.Nodup := np.nodup_iff.mpr nd
  have nl : ns.length = bs.length := np.length_eq
  walk_at "w"
  refine ⟨by rw [List.length_map]; unfold bigN; omega, ?_⟩
  refine cmL_map ns PV.str (fun pre acc => acc = (pre.filter fun b => decide (x b = r0)).map PV.str) ?_ ?_ ns [] _ rfl rfl
  · rintro pre b r' acc R2 hall rfl hR2
    have hb : b ∈ bs := np.mem_iff.mp (by rw [hall]; exact List.mem_append_right _ (List.mem_cons_self ..))
    rw [List.filter_append, List.map_append] at hR2
    walk_at "w"
    refine vIdx_dk (f := PV.int) (lkx b hb) ?_
    walk_at "w"
    refine idx_li (by decide) (p := r0) rfl ?_
    walk_at "w"
    refine ite01 (fun e => ?_) fun e => ?_
    · rw [List.filter_cons_of_pos (by simpa using e)] at hR2
      walk_at "w"
      refine idx_li (by decide) (p := r0) rfl ?_
      walk_at "w"
      rw [decide_eq_true (by omega)]
      walk_at "w"
      exact hR2 _ rfl
    · rw [List.filter_cons_of_neg (by simpa using e), List.filter_nil, List.map_nil, List.append_nil] at hR2
      walk_at "w"
      exact hR2 _ rfl
  rintro acc rfl
  generalize hbest : (ns.filter fun b => decide (x b = r0)) = best
  have bl : best.length ≤ ns.length := by rw [← hbest]; exact List.length_filter_le ..
  walk_at "w"
  refine ⟨by rw [List.length_map]; unfold bigN; omega, ?_⟩
  refine cm_list best PV.str (fun b => PV.tup [.str b, .str "h"]) (fun b hb R2 hR2 => ?_) ?_
  · walk_at "w"
    exact hR2
  walk_at "w"
  refine ⟨rfl, pvMk (mkW bs ["h"] (ox x)) (mkF ["h"] (of f)), rfl, cd_market F.ok, ?_⟩
  walk_at "w"
  have F2 : ∀ {ms : List Str}, ms.Perm bs → FullOk ms ["h"] (ox x) (of f) := fun hp =>
    ⟨hp.nodup_iff.mpr nd, F.hn, fun b hb => F.bo b (hp.mem_iff.mp hb), F.ho, fun b hb => F.w0 b (hp.mem_iff.mp hb), F.f0, by rw [hp.length_eq]; omega, F.lh⟩
  refine ⟨rfl, _, _, rfl, F.ok, hne, fun ws' fl' S => ?_⟩
  obtain ⟨ms, mp, mS, rfl, rfl⟩ := srt_mk F S hS1
  obtain rfl := sorted_one mS nS (mp.trans np.symm)
  refine ⟨_, _, r0 - f, fun _ => 0, rfl, (F2 mp).ok, (hrow.gs F).srt S F.ok, fun e he => ?_, ?_⟩
  · refine gs_empty fun e2 he2 => ?_
    rw [one_gn (F2 mp)] at he
    obtain ⟨b, hb, rfl⟩ := List.mem_map.mp he
    obtain ⟨a, ha, rfl⟩ := List.mem_map.mp he2
    have ha' := (List.mem_filter.mp ha).1
    obtain ⟨b2, hb2, rfl⟩ := List.mem_map.mp ha'
    rfl
  rw [one_gn (F2 mp)]
  have e4 : ((ms.map fun b => ((b, ("h" : Str)), x b - f)).filter fun e => decide (0 + e.2 = r0 - f)).map (fun e => pv2 e.1) = best.map fun b => PV.tup [.str b, .str "h"] := by
    rw [← hbest, List.filter_map, List.map_map]
    have e5 : (ms.filter ((fun e : (Str × Str) × Int => decide (0 + e.2 = r0 - f)) ∘ fun b => ((b, ("h" : Str)), x b - f))) = ms.filter fun b => decide (x b = r0) := by
      refine List.filter_congr fun b hb => ?_
      simp only [Function.comp, Int.zero_add]
      by_cases z : x b = r0
      · rw [decide_eq_true z, decide_eq_true (by omega)]
      · rw [decide_eq_false z, decide_eq_false (by omega)]
    rw [e5]
    refine List.map_congr_left fun b hb => ?_
    rfl
  rw [e4]
  walk_at "w"
  refine ⟨rfl, .lst (best.map fun b => PV.tup [.str b, .str "h"]), rfl, ⟨by rw [List.length_map]; omega, fun y hy => ?_⟩, ?_⟩
  · obtain ⟨b, hb, rfl⟩ := List.mem_map.mp hy
    refine ⟨by simp, fun z hz => ?_⟩
    rcases List.mem_cons.mp hz with rfl | hz
    · trivial
    · rw [List.mem_singleton.mp hz]; trivial
  walk_at "w"
  refine idx_li (by decide) (p := r0) rfl ?_
  walk_at "w"
  by_cases z : r0 = f
  · rw [decide_eq_true z]
    exact hR
  · rw [decide_eq_false z]
    walk_at "w"
    refine ⟨rfl, pvMk (mkW bs ["h"] (ox x)) (mkF ["h"] (of f)), rfl, cd_market F.ok, ?_⟩
    walk_at "w"
    refine ⟨rfl, _, _, rfl, F.ok, hne, fun ws' fl' S => ?_⟩
    obtain ⟨ms2, mp2, mS2, rfl, rfl⟩ := srt_mk F S hS1
    obtain rfl := sorted_one mS2 nS (mp2.trans np.symm)
    refine ⟨r0 - f, (hrow.gs F).srt S F.ok, one_rows (F2 mp) (by omega), ?_⟩
    rw [one_count (F2 mp) (by omega)]
    have e6 : (ms2.filter fun b => decide (x b - f = r0 - f)) = best := by
      rw [← hbest]
      refine List.filter_congr fun b hb => ?_
      by_cases z : x b = r0
      · rw [decide_eq_true z, decide_eq_true (by omega)]
      · rw [decide_eq_false z, decide_eq_false (by omega)]
    rw [e6]
    walk_at "w"
    show vLen (.lst (best.map PV.str)) _
    refine ⟨rfl, .int best.length, ?_, trivial, hR⟩
    rw [List.length_map]
end PH
set_option linter.all false
set_option autoImplicit false
set_option maxRecDepth 100000
set_option maxHeartbeats 4000000
/-! Q35: markets of one buyer. -/
namespace PH
open PySem
open PySem.Spec
open L2
open TL
open PyProof.Rows (sortedS)
section
variable {a : Str} {r fl : List (Str × Int)}
def sx (r fl : List (Str × Int)) (h : Str) : Int := val r h - val fl h
theorem sole_g (M : OkM [(a, r)] fl) {h : Str} (hh : h ∈ r.map (·.1)) : gF (gnOf [(a, r)] fl) a h = some (sx r fl h) := by
  rw [gF_eq M]
  obtain ⟨v, hv⟩ := isSome_lk hh
  rw [lk_cons, if_pos rfl, Option.bind_some, hv]
  unfold sx val
  rw [hv]; rfl
theorem sole_g' (M : OkM [(a, r)] fl) {b h : Str} {y : Int} (e : gF (gnOf [(a, r)] fl) b h = some y) : b = a ∧ h ∈ r.map (·.1) ∧ y = sx r fl h := by
  obtain ⟨r2, w, h1, h2, h3⟩ := gF_of M e
  cases List.mem_singleton.mp h1
  refine ⟨rfl, List.mem_map.mpr ⟨_, h2, rfl⟩, ?_⟩
  unfold sx val
  rw [lk_of (M.wk _ (List.mem_singleton.mpr rfl)) h2]
  exact h3
variable {g0 g1 : Int} {rest : List Int}
theorem sole_none (M : OkM [(a, r)] fl) (h : ∀ h ∈ r.map (·.1), sx r fl h ≤ 0) : Asg.Cert (gF (gnOf [(a, r)] fl)) [a] (fun _ => none) 0 (fun _ => 0) (fun _ => 0) := by
  refine ⟨fun b hb k y hy => ?_, fun b hb k e => (by cases e), fun k => Int.le_refl _, fun k _ => rfl, fun _ _ => Int.le_refl _, fun _ _ _ => rfl, fun b hb c hc k e => (by cases e)⟩
  obtain ⟨_, h2, rfl⟩ := sole_g' M hy
  have := h k h2
  omega
theorem sole_cert (M : OkM [(a, r)] fl) {b0 : Str} {d : Int} (hb0 : b0 ∈ r.map (·.1)) (h1 : ∀ b ∈ r.map (·.1), b ≠ b0 → sx r fl b ≤ d) (h2 : 0 ≤ d) (h3 : d ≤ sx r fl b0) :
    Asg.Cert (gF (gnOf [(a, r)] fl)) [a] (fun _ => some b0) 0 (fun _ => d) (onH b0 (sx r fl b0 - d)) := by
  refine ⟨fun b hb k y hy => ?_, fun b hb k e => ?_, fun k => ?_, fun k hk => ?_, fun b hb => h2, fun b hb e => (by cases e), fun b hb c hc k e e' => ?_⟩
  · obtain ⟨_, hk, rfl⟩ := sole_g' M hy
    unfold onH
    split
    · rename_i z; rw [z]; omega
    · rename_i z; have := h1 k hk z; omega
  · cases e
    rw [List.mem_singleton.mp hb, sole_g M hb0]
    unfold onH
    rw [if_pos rfl]
    congr 1; omega
  · unfold onH; split <;> omega
  · unfold onH
    split
    · rename_i z
      exact absurd (by rw [z]) (hk a (List.mem_singleton.mpr rfl))
    · rfl
  · rw [List.mem_singleton.mp hb, List.mem_singleton.mp hc]
theorem Row2.sgs (w : Row2 (sx r fl) (r.map (·.1)) 0 g0 g1 rest) (M : OkM [(a, r)] fl) : Gs [(a, r)] fl g0 := by
  have h1 := w.h1
  have hfr := w.fr
  have nd := M.wk _ (List.mem_singleton.mpr rfl)
  by_cases z : 0 < g0
  · obtain ⟨b0, hb0, e0, h2, h3⟩ := w.best nd z
    have c := sole_cert M hb0 (fun b hb _ => w.le0 b hb) (by omega) (by omega)
    have := Gs.of_cert (fl := fl) M c
    have e : ((fl.map (·.1)).map (onH b0 (sx r fl b0 - g0))).sum = 0 := by
      rw [e0]
      have : (fl.map (·.1)).map (onH b0 (g0 - g0)) = (fl.map (·.1)).map fun _ => (0 : Int) := List.map_congr_left fun k _ => by unfold onH; split <;> omega
      rw [this, sum_const]; simp
    rw [e] at this
    simpa using this
  · have c := sole_none M fun h hh => by have := w.le0 h hh; omega
    have := Gs.of_cert (fl := fl) M c
    rw [sum_const, sum_const] at this
    have e : g0 = 0 := by omega
    rw [e]
    simpa using this
theorem Row2.sleast (w : Row2 (sx r fl) (r.map (·.1)) 0 g0 g1 rest) (M : OkM [(a, r)] fl) : Asg.Least (gF (gnOf [(a, r)] fl)) [a] (fun _ => 0) := by
  have h1 := w.h1
  have hfr := w.fr
  have nd := M.wk _ (List.mem_singleton.mpr rfl)
  refine ⟨?_, fun hf u q c k => c.p0 k⟩
  by_cases z : 0 < g0
  · obtain ⟨b0, hb0, e0, h2, h3⟩ := w.best nd z
    have c := sole_cert M hb0 (fun b hb _ => w.le0 b hb) (by omega) (by omega)
    have e : onH b0 (sx r fl b0 - g0) = fun _ => 0 := by funext k; unfold onH; split <;> omega
    rw [e] at c
    exact ⟨_, _, c⟩
  · exact ⟨_, _, sole_none M fun h hh => by have := w.le0 h hh; omega⟩
/-- where the greatest price is raised -/
theorem Row2.smost (w : Row2 (sx r fl) (r.map (·.1)) 0 g0 g1 rest) (M : OkM [(a, r)] fl) {b0 : Str} (hb : 0 < g0 → b0 ∈ r.map (·.1) ∧ sx r fl b0 = g0 ∧ (∀ b ∈ r.map (·.1), b ≠ b0 → sx r fl b ≤ g1) ∧ (g1 = 0 ∨ ∃ b1 ∈ r.map (·.1), b1 ≠ b0 ∧ sx r fl b1 = g1)) :
    Asg.Most (gF (gnOf [(a, r)] fl)) [a] (onH b0 (g0 - g1)) := by
  have h1 := w.h1
  have hfr := w.fr
  have ma : a ∈ [a] := List.mem_singleton.mpr rfl
  by_cases z : 0 < g0
  · obtain ⟨hb0, e0, h2, h3⟩ := hb z
    have c := sole_cert M hb0 h2 hfr (by omega)
    rw [e0] at c
    refine ⟨⟨_, _, c⟩, fun hf u q c2 k => ?_⟩
    by_cases s : ∃ b ∈ [a], hf b = some k
    · obtain ⟨b, hba, e⟩ := s
      obtain rfl := List.mem_singleton.mp hba
      obtain ⟨_, hk, ek⟩ := sole_g' M (c2.eq b hba k e)
      have un : ∀ j, j ≠ k → q j = 0 := fun j hj => c2.pz j fun b' hb' e' => by
        rw [List.mem_singleton.mp hb', e] at e'
        exact hj (by cases e'; rfl)
      have f0 := c2.fe b hba b0 _ (sole_g M hb0)
      have u0 := c2.ut b hba
      unfold onH
      split
      · rename_i hz
        subst hz
        rcases h3 with h3 | ⟨b1, hb1, ne, e1⟩
        · omega
        · have f1 := c2.fe b hba b1 _ (sole_g M hb1)
          have := un b1 ne
          omega
      · rename_i hz
        have := un b0 (Ne.symm hz)
        have := h2 k hk hz
        omega
    · have := c2.pz k fun b hb e => s ⟨b, hb, e⟩
      unfold onH
      split <;> omega
  · have e : onH b0 (g0 - g1) = fun _ => 0 := by funext k; unfold onH; split <;> omega
    rw [e]
    have le : ∀ h ∈ r.map (·.1), sx r fl h ≤ 0 := fun h hh => by have := w.le0 h hh; omega
    refine ⟨⟨_, _, sole_none M le⟩, fun hf u q c2 k => ?_⟩
    by_cases s : ∃ b ∈ [a], hf b = some k
    · obtain ⟨b, hba, e⟩ := s
      obtain rfl := List.mem_singleton.mp hba
      obtain ⟨_, hk, ek⟩ := sole_g' M (c2.eq b hba k e)
      have := le k hk
      have u0 := c2.ut b hba
      omega
    · have := c2.pz k fun b hb e => s ⟨b, hb, e⟩
      omega
end
theorem vDict_dk {l : List (Key × PV)} {R : PV → Prop} (h : R (.dk l)) : vDict (.dk l) R := h
local macro_rules | `(tactic| walk_at "w1") => `(tactic| first
  | (with_reducible refine iSeq ?_)
  | (with_reducible refine iIf ?_)
  | (with_reducible refine iSkip ?_)
  | (with_reducible refine iAnd ?_)
  | (with_reducible refine iOr ?_)
  | (with_reducible refine iNot ?_)
  | (with_reducible refine iCmp ?_)
  | (with_reducible refine i2 ?_)
  | (with_reducible refine i1 ?_)
  | (with_reducible refine iC ?_)
  | (with_reducible refine iNil ?_)
  | (with_reducible refine iCons ?_)
  | (with_reducible refine iRet ?_)
  | (with_reducible refine iFrz ?_)
  | (with_reducible refine iBool ?_)
  | (with_reducible refine iVl ?_)
  | (with_reducible refine iAndV ?_)
  | (with_reducible refine iPar ?_)
  | (with_reducible refine iAsg ?_)
  | (with_reducible refine iAsgF ?_)
  | (with_reducible refine iYes ?_)
  | (with_reducible refine iteT ?_)
  | (with_reducible refine iteF ?_)
  | (with_reducible refine iteN ?_)
  | (with_reducible refine vGe_i ?_)
  | (with_reducible refine vLe_i ?_)
  | (with_reducible refine iIte ?_)
  | (with_reducible refine iAddD ?_)
  | (with_reducible refine iAddL ?_)
  | (with_reducible refine iCall ?_)
  | (with_reducible refine iFor ?_)
  | (with_reducible refine iAsgT ?_)
  | (with_reducible refine iTup ?_)
  | (with_reducible refine iLst ?_)
  | (with_reducible refine gTi ?_)
  | (with_reducible refine gsCi ?_)
  | (with_reducible refine gsNi ?_)
  | (with_reducible refine vSub_i ?_)
  | (with_reducible refine vAdd_i ?_)
  | (with_reducible refine vEq_i ?_)
  | (with_reducible refine vLt_i ?_)
  | (with_reducible refine vGt_i ?_)
  | (with_reducible refine vIsNot_s ?_)
  | (with_reducible refine vIsNot_non ?_)
  | (with_reducible refine vIs_str ?_)
  | (with_reducible refine vIs_non ?_)
  | (with_reducible refine vNe_s ?_)
  | ((with_reducible refine idx_t0 ?_))
  | ((with_reducible refine idx_mk0 ?_))
  | ((with_reducible refine idx_mk1 ?_))
  | (with_reducible refine iDc ?_)
  | (with_reducible refine iLc ?_)
  | (with_reducible refine iIts ?_)
  | (with_reducible refine iItsT ?_)
  | (with_reducible refine iILst ?_)
  | (with_reducible refine iIKeys ?_)
  | (with_reducible refine iIVals ?_)
  | (with_reducible refine iDone ?_)
  | (with_reducible refine kOf ?_)
  | (with_reducible refine iOrV ?_)
  | (with_reducible refine iNotV ?_)
  | (with_reducible refine vVals ?_)
  | (with_reducible refine vDict_dk ?_)
  | (with_reducible refine vBack ?_)
  | (with_reducible refine iIRng1 ?_)
  | (with_reducible refine vMax2_i ?_)
  | (with_reducible refine vMin2_i ?_)
  | ((with_reducible refine idx_t1 ?_))
  | ((with_reducible refine' gNi ?e1 ?_); (case e1 => simp [frz_len, unS_len]))
  | ((with_reducible refine' iVarRow ?e1 ?e2 ?_); (case e1 => first | (simp only [unS, frz, slM, List.set_cons_succ, List.set_cons_zero, List.getElem?_cons_succ, List.getElem?_cons_zero]; exact rfl) | exact rfl); (case e2 => with_reducible exact rfl))
  | ((with_reducible refine' iRdRow ?e1 ?e2 ?_); (case e1 => first | (simp only [unS, frz, slM, List.set_cons_succ, List.set_cons_zero, List.getElem?_cons_succ, List.getElem?_cons_zero]; exact rfl) | exact rfl); (case e2 => with_reducible exact rfl))
  | ((with_reducible refine' iVar ?e1 ?_); (case e1 => first | (simp only [unS, frz, slM, List.set_cons_succ, List.set_cons_zero, List.getElem?_cons_succ, List.getElem?_cons_zero]; exact rfl) | exact rfl))
  | ((with_reducible refine' iRd ?e1 ?_); (case e1 => first | (simp only [unS, frz, slM, List.set_cons_succ, List.set_cons_zero, List.getElem?_cons_succ, List.getElem?_cons_zero]; exact rfl) | exact rfl))
  | ((with_reducible refine' iRo ?e1 ?_); (case e1 => first | (simp only [unS, frz, slM, List.set_cons_succ, List.set_cons_zero, List.getElem?_cons_succ, List.getElem?_cons_zero]; exact rfl) | exact rfl))
  | ((with_reducible refine' iApp ?e1 ?_); (case e1 => first | (simp only [unS, frz, slM, List.set_cons_succ, List.set_cons_zero, List.getElem?_cons_succ, List.getElem?_cons_zero]; exact rfl) | exact rfl))
  | ((with_reducible refine' iPut ?e1 ?_); (case e1 => first | (simp only [unS, frz, slM, List.set_cons_succ, List.set_cons_zero, List.getElem?_cons_succ, List.getElem?_cons_zero]; exact rfl) | exact rfl))
  | ((with_reducible refine And.intro (le_ps ?e1) ?_); (case e1 => first | (simp only [List.length_cons, List.length_nil]; decide) | simp))
  | ((with_reducible refine And.intro (And.intro (lt_slots ?e1) (lt_slots ?e2)) ?_); (case e1 => simp); (case e2 => simp))
  | ((with_reducible refine And.intro (lt_slots ?e1) ?_); (case e1 => simp [frz_len, unS_len])))
local macro_rules | `(tactic| walk_at "w") => `(tactic| repeat (first | walk_at "w1" | (dsimp only) | (simp only [items_pv, itemsT_pv, keys_pv, vals_pv])))
def w__law_one_buyer_right (t__law_copied t_least_prices t_greatest_prices t_greatest_sum t_buyer_margin t__law_same : TSp) : WS :=
  (wSeq (wAsg 2 (wTup (wCons (wDone (wC (.str "a")) (w1 (wRd 0) vDict)) (wCons (w1 (wRd 1) vDict) wNil))))
  (wSeq (wAsg 3 (w1 (w1 (w2 (wLc (wIKeys (wVar 0)) [9] (gN 9) wYes (w2 (w2 (wRd 0) (wRd 9) vIdx) (w2 (wRd 1) (wRd 9) vIdx) vSub)) (wLst (wCons (wC (.int 0)) (wCons (wC (.int 0)) wNil))) vAdd) vSort) vSlBack))
  (wSeq (wPar 7 8 false false (wCall 1 t_least_prices (wCons (wCall 1 t__law_copied (wCons (wVar 2) wNil)) wNil)) (wCall 1 t_greatest_prices (wCons (wCall 1 t__law_copied (wCons (wVar 2) wNil)) wNil)))
  (wSeq (wAsg 4 (wLst (wCons (wCall 1 t_greatest_sum (wCons (wCall 1 t__law_copied (wCons (wVar 2) wNil)) wNil)) (wCons (wCall 2 t_buyer_margin (wCons (wCall 1 t__law_copied (wCons (wVar 2) wNil)) (wCons (wC (.str "a")) wNil))) (wCons (wVar 7) wNil)))))
  (wSeq (wIf (wNot (wVal (wCall 2 t__law_same (wCons (wVar 4) (wCons (wLst (wCons (w2 (w2 (wRd 3) (wC (.int 0)) vIdx) (wC (.int 0)) vMax2) (wCons (w2 (w2 (wRd 3) (wC (.int 0)) vIdx) (wC (.int 0)) vMax2) (wCons (w1 (w1 (wRd 1) vSort_items) vDict) wNil)))) wNil))))) (wRet (wC (.bl false))) wSkip)
  (wSeq (wAsgF 5 (wLc (wILst (w1 (wRd 0) vSort)) [9] (gN 9) (wAnd (wCmp (w2 (w2 (wRd 0) (wRd 9) vIdx) (w2 (wRd 1) (wRd 9) vIdx) vSub) (w2 (wRd 3) (wC (.int 0)) vIdx) vEq) (wCmp (w2 (wRd 3) (wC (.int 0)) vIdx) (wC (.int 0)) vGt)) (wVar 9)))
  (wSeq (wAsgF 6 (w1 (w1 (wRd 1) vSort_items) vDict))
  (wSeq (wIf (wCmp (w1 (wRd 5) vLen) (wC (.int 1)) vEq) (wPut 6 (w2 (wRd 5) (wC (.int 0)) vIdx) (w2 (w2 (w2 (wRd 6) (w2 (wRd 5) (wC (.int 0)) vIdx) vIdx) (w2 (wRd 3) (wC (.int 0)) vIdx) vAdd) (w2 (w2 (wRd 3) (wC (.int 1)) vIdx) (wC (.int 0)) vMax2) vSub)) wSkip)
  (wFrz 6 (wRet (wCall 2 t__law_same (wCons (wVar 8) (wCons (wVar 6) wNil)))))))))))))

theorem only_one {b0 : Str} : ∀ {l : List Str}, l.Nodup → (∀ x ∈ l, x = b0) → b0 ∈ l → l = [b0]
  | [], _, _, m => by cases m
  | [x], _, h, _ => by rw [h x (List.mem_cons_self ..)]
  | x :: y :: l, nd, h, _ => by
    have h1 := h x (List.mem_cons_self ..)
    have h2 := h y (List.mem_cons_of_mem _ (List.mem_cons_self ..))
    have := (List.nodup_cons.mp nd).1
    rw [h1, h2] at this
    exact absurd (List.mem_cons_self ..) this
def srtd (fl : List (Str × Int)) : Prop := fl.Pairwise (fun a b => leSI a b = true) ∧ sortedS (fl.map (·.1)) = true
theorem vSortItems {fl : List (Str × Int)} {R : PV → Prop} (h : srtd fl) (hr : R (.lst (fl.map fun e => PV.tup [.str e.1, .int e.2]))) : vSort_items (.dk (pvM kS PV.int fl)) R := by
  refine ⟨fl, rfl, ?_⟩
  rw [List.mergeSort_of_pairwise h.1]
  exact hr
theorem row_self {fl : List (Str × Int)} (nd : (fl.map (·.1)).Nodup) (q : Str → Int) : (fl.map (·.1)).map (fun x => (x, val fl x + q x)) = priceRow fl q := by
  unfold priceRow
  rw [List.map_map]
  refine List.map_congr_left fun e he => ?_
  have : val fl e.1 = e.2 := by unfold val; rw [lk_of nd he]; rfl
  simp only [Function.comp, this]
def t_buyer : TSp := fun ps k R => ∃ r fl : List (Str × Int), ps = [.dk (pvM kS PV.int r), .dk (pvM kS PV.int fl)] ∧ OkM [((("a" : Str)), r)] fl ∧ srtd fl ∧ R (.bl true) k
theorem l_buyer (ps : List PV) (k : Nat) (R : PK) (hl : ps.length = 2) (h : t_buyer ps k R) : w__law_one_buyer_right (t_copy 3) t_least_prices t_greatest_prices t_greatest_sum' t_buyer_margin (t_same 5) { nx := fun _ k => R .non k, rt := R } (startS 10 ps) k := by
  obtain ⟨r, fl, rfl, M, sf, hR⟩ := h
  show w__law_one_buyer_right _ _ _ _ _ _ _ [.fz (.dk (pvM kS PV.int r)), .fz (.dk (pvM kS PV.int fl)), .un, .un, .un, .un, .un, .un, .un, .un] k
  unfold w__law_one_buyer_right
  have lf := M.lf
  have rk := M.wk _ (List.mem_singleton.mpr rfl)
  have lr : r.length ≤ fl.length := len_sub rk (M.wf _ (List.mem_singleton.mpr rfl))
  have rf : ∀ h ∈ r.map (·.1), h ∈ fl.map (·.1) := fun h hh => by
    obtain ⟨e, he, rfl⟩ := List.mem_map.mp hh
    exact M.wf _ (List.mem_singleton.mpr rfl) e he
  have lkr : ∀ h ∈ r.map (·.1), lk r h = some (val r h) := fun h hh => by
    obtain ⟨v, hv⟩ := isSome_lk hh
    unfold val; rw [hv]; rfl
  have lkf : ∀ h ∈ r.map (·.1), lk fl h = some (val fl h) := fun h hh => by
    obtain ⟨v, hv⟩ := isSome_lk (rf h hh)
    unfold val; rw [hv]; rfl
  walk_at "w"
  have e1 : r.map (fun e => PV.str e.1) = (r.map (·.1)).map PV.str := by rw [List.map_map]; rfl
  refine ⟨by rw [List.length_map]; unfold bigN; omega, ?_⟩
  rw [e1]
  refine cm_list (r.map (·.1)) PV.str (fun h => PV.int (sx r fl h)) (fun h hh R2 hR2 => ?_) ?_
  · walk_at "w"
    refine vIdx_dk (f := PV.int) (lkr h hh) ?_
    walk_at "w"
    refine vIdx_dk (f := PV.int) (lkf h hh) ?_
    walk_at "w"
    exact hR2
  walk_at "w"
  refine vAdd_l (by simp; omega) ?_
  have e2 : (r.map fun e : Str × Int => e.1).map (fun h => PV.int (sx r fl h)) ++ [.int 0, .int 0] = ((r.map fun e : Str × Int => e.1).map (sx r fl) ++ [0, 0]).map PV.int := by
    simp only [List.map_append, List.map_map, List.map_cons, List.map_nil]; rfl
  rw [e2]
  refine vSort_ints fun rs rp rS => ?_
  have hlr : rs.length = r.length + 2 := by rw [rp.length_eq]; simp
  obtain ⟨g0, g1, rest, hrev⟩ : ∃ r0 r1 rest, rs.reverse = r0 :: r1 :: rest := by
    have hl2 : rs.reverse.length = r.length + 2 := by rw [List.length_reverse, hlr]
    match h : rs.reverse, hl2 with
    | r0 :: r1 :: rest, _ => exact ⟨r0, r1, rest, rfl⟩
    | [_], h2 => simp at h2
    | [], h2 => simp at h2
  have pw : (g0 :: g1 :: rest).Pairwise (fun a b => b ≤ a) := by
    rw [← hrev, List.pairwise_reverse]; exact rS
  have hrow : Row2 (sx r fl) (r.map (·.1)) 0 g0 g1 rest := by
    refine ⟨?_, ?_, ?_⟩
    · rw [← hrev]; exact rp.symm.trans (List.reverse_perm rs).symm
    · exact (List.pairwise_cons.mp pw).1 g1 (List.mem_cons_self ..)
    · exact (List.pairwise_cons.mp (List.pairwise_cons.mp pw).2).1
  have e3 : (rs.map PV.int).reverse = (g0 :: g1 :: rest).map PV.int := by rw [← List.map_reverse, hrev]
  walk_at "w"
  rw [e3]
  clear e3 hrev
  have h1 := hrow.h1
  have hfr := hrow.fr
  have hne : [((("a" : Str)), r)] ≠ [] := by simp
  obtain ⟨b0, hb0⟩ : ∃ b0, 0 < g0 → b0 ∈ r.map (·.1) ∧ sx r fl b0 = g0 ∧ (∀ b ∈ r.map (·.1), b ≠ b0 → sx r fl b ≤ g1) ∧ (g1 = 0 ∨ ∃ b1 ∈ r.map (·.1), b1 ≠ b0 ∧ sx r fl b1 = g1) := by
    by_cases z : 0 < g0
    · obtain ⟨b0, h⟩ := hrow.best rk z
      exact ⟨b0, fun _ => h⟩
    · exact ⟨"", fun h => absurd h z⟩
  have keysF : ∀ {ns : List Str}, ns.Perm (fl.map (·.1)) → sortedS ns = true → ns = fl.map (·.1) := fun hp hs => sorted_one hs sf.2 hp
  refine ⟨rfl, pvMk [("a", r)] fl, rfl, cd_market M, ?_⟩
  walk_at "w"
  refine ⟨rfl, least_prices_n M hne (hrow.sleast M) fun ns hp hs' => ?_⟩
  obtain rfl := keysF hp hs'
  rw [row_self M.fk, price_zero]
  walk_at "w"
  refine ⟨rfl, pvMk [("a", r)] fl, rfl, cd_market M, ?_⟩
  walk_at "w"
  refine ⟨rfl, greatest_prices_n M hne (hrow.smost M hb0) fun ns hp2 hs2 => ?_⟩
  obtain rfl := keysF hp2 hs2
  rw [row_self M.fk]
  walk_at "w"
  refine ⟨rfl, pvMk [("a", r)] fl, rfl, cd_market M, ?_⟩
  walk_at "w"
  refine ⟨rfl, greatest_sum_n M hne (hrow.sgs M) ?_⟩
  walk_at "w"
  refine ⟨rfl, pvMk [("a", r)] fl, rfl, cd_market M, ?_⟩
  walk_at "w"
  refine ⟨rfl, _, _, _, rfl, M, (by simp), fun ws' fl' hd hd2 S hk hc hk2 hc2 => ?_⟩
  have es1 : (sumL ws' fl' hd).sum = g0 := (Gs.of (S.ok M) hk hc).one (S.ok M) ((hrow.sgs M).srt S M)
  have es2 : (sumL (noB ws' "a") fl' hd2).sum = 0 := by
    have pb := S.pb
    have : noB ws' "a" = [] := by
      unfold noB
      rw [List.filter_eq_nil_iff]
      intro e he
      have : e.1 ∈ [("a" : Str)] := pb.mem_iff.mp (List.mem_map.mpr ⟨e, he, rfl⟩)
      unfold notKey
      rw [List.mem_singleton.mp this]
      simp
    rw [this] at hk2
    have : hd2 = [] := by simpa using hk2
    rw [this]; rfl
  rw [es1, es2]
  walk_at "w"
  refine idx_li (by decide) (p := g0) rfl ?_
  walk_at "w"
  refine idx_li (by decide) (p := g0) rfl ?_
  walk_at "w"
  refine vSortItems sf ?_
  walk_at "w"
  refine vDict_pairs (ψ := PV.int) M.fk ?_
  walk_at "w"
  refine ⟨rfl, .lst [.int g0, .int g0, pvRow fl], ?_, ?_, ?_⟩
  · have m1 : max g0 0 = g0 := by omega
    rw [m1, Int.sub_zero]; rfl
  · refine ⟨by simp, fun y hy => ?_⟩
    rcases List.mem_cons.mp hy with rfl | hy
    · trivial
    rcases List.mem_cons.mp hy with rfl | hy
    · trivial
    · rw [List.mem_singleton.mp hy]; exact sd_row (by omega) 1
  walk_at "w"
  refine vSort_dk (by omega) fun ns np nS => ?_
  have nnd : ns.Nodup := np.nodup_iff.mpr rk
  have nl : ns.length = r.length := by rw [np.length_eq, List.length_map]
  walk_at "w"
  refine ⟨by rw [List.length_map]; unfold bigN; omega, ?_⟩
  refine cmL_map ns PV.str (fun pre acc => acc = (pre.filter fun b => decide (sx r fl b = g0 ∧ 0 < g0)).map PV.str) ?_ ?_ ns [] _ rfl rfl
  · rintro pre b r' acc R2 hall rfl hR2
    have hb : b ∈ r.map (·.1) := np.mem_iff.mp (by rw [hall]; exact List.mem_append_right _ (List.mem_cons_self ..))
    rw [List.filter_append, List.map_append] at hR2
    walk_at "w"
    refine vIdx_dk (f := PV.int) (lkr b hb) ?_
    walk_at "w"
    refine vIdx_dk (f := PV.int) (lkf b hb) ?_
    walk_at "w"
    refine idx_li (by decide) (p := g0) rfl ?_
    walk_at "w"
    refine ite01 (fun e => ?_) fun e => ?_
    · have e' : sx r fl b = g0 := e
      walk_at "w"
      refine idx_li (by decide) (p := g0) rfl ?_
      walk_at "w"
      refine ite01 (fun z => ?_) fun z => ?_
      · rw [List.filter_cons_of_pos (by simp [e', z])] at hR2
        walk_at "w"
        exact hR2 _ rfl
      · rw [List.filter_cons_of_neg (by simp [z]), List.filter_nil, List.map_nil, List.append_nil] at hR2
        walk_at "w"
        exact hR2 _ rfl
    · have e' : ¬ sx r fl b = g0 := e
      rw [List.filter_cons_of_neg (by simp [e']), List.filter_nil, List.map_nil, List.append_nil] at hR2
      walk_at "w"
      exact hR2 _ rfl
  rintro acc rfl
  walk_at "w"
  refine vSortItems sf ?_
  walk_at "w"
  refine vDict_pairs (ψ := PV.int) M.fk ?_
  walk_at "w"
  refine vLen_l ?_
  rw [List.length_map]
  walk_at "w"
  refine ite01 (fun e => ?_) fun e => ?_
  · obtain ⟨t, ht⟩ : ∃ t, (ns.filter fun b => decide (sx r fl b = g0 ∧ 0 < g0)) = [t] := by
      have e' : (ns.filter fun b => decide (sx r fl b = g0 ∧ 0 < g0)).length = 1 := by omega
      exact List.length_eq_one_iff.mp e'
    have mt : t ∈ ns.filter fun b => decide (sx r fl b = g0 ∧ 0 < g0) := by rw [ht]; exact List.mem_cons_self ..
    obtain ⟨mt1, mt2⟩ := List.mem_filter.mp mt
    have mt2' : sx r fl t = g0 ∧ 0 < g0 := of_decide_eq_true mt2
    obtain ⟨hb1, hb2, hb3, hb4⟩ := hb0 mt2'.2
    have : b0 ∈ ns.filter fun b => decide (sx r fl b = g0 ∧ 0 < g0) := List.mem_filter.mpr ⟨np.mem_iff.mpr hb1, by simp [hb2, mt2'.2]⟩
    rw [ht] at this
    obtain rfl := List.mem_singleton.mp this
    rw [ht]
    have l0 : vIdx (.lst ([b0].map PV.str)) (.int 0) = fun R => vIdx (.lst ([b0].map PV.str)) (.int 0) R := rfl
    have ix0 : ∀ {R : PV → Prop}, R (.str b0) → vIdx (.lst ([b0].map PV.str)) (.int 0) R := fun h => idx_l (by decide) (p := .str b0) rfl h
    walk_at "w"
    refine ix0 ?_
    refine vIdx_dk (f := PV.int) (lkf b0 hb1) ?_
    walk_at "w"
    refine idx_li (by decide) (p := g0) rfl ?_
    walk_at "w"
    refine idx_li (by decide) (p := g1) rfl ?_
    walk_at "w"
    refine ix0 ?_
    refine dPut_dk (f := PV.int) (b := b0) (v := val fl b0 + g0 - max g1 0) rfl (by unfold bigN; omega) ?_
    have ep : put fl b0 (val fl b0 + g0 - max g1 0) = priceRow fl (onH b0 (g0 - g1)) := by
      have := price_put (fl := fl) (q := fun _ => 0) (h := b0) (v := val fl b0 + g0 - max g1 0) M.fk (rf b0 hb1)
      rw [price_zero] at this
      rw [this]
      congr 1
      funext k
      unfold Asg.putF onH
      dsimp only
      split <;> omega
    rw [ep]
    walk_at "w"
    refine ⟨rfl, pvRow (priceRow fl (onH b0 (g0 - g1))), rfl, sd_row (by rw [price_len]; omega) 2, hR⟩
  · walk_at "w"
    have ep : priceRow fl (onH b0 (g0 - g1)) = fl := by
      have : onH b0 (g0 - g1) = fun _ => 0 := by
        have z : g0 = g1 := Classical.byContradiction fun z => by
          have p0 : 0 < g0 := by omega
          obtain ⟨hb1, hb2, hb3, hb4⟩ := hb0 p0
          have m0 : b0 ∈ ns.filter fun b => decide (sx r fl b = g0 ∧ 0 < g0) := List.mem_filter.mpr ⟨np.mem_iff.mpr hb1, by simp [hb2, p0]⟩
          have := only_one (nnd.sublist List.filter_sublist) (fun y hy => by
            obtain ⟨y1, y2⟩ := List.mem_filter.mp hy
            have y2' : sx r fl y = g0 ∧ 0 < g0 := of_decide_eq_true y2
            refine Classical.byContradiction fun ne => ?_
            have := hb3 y (np.mem_iff.mp y1) ne
            omega) m0
          rw [this] at e
          simp at e
        funext k
        unfold onH
        split <;> omega
      rw [this, price_zero]
    rw [ep]
    refine ⟨rfl, pvRow fl, rfl, sd_row (by omega) 2, hR⟩
end PH
set_option linter.all false
set_option autoImplicit false
set_option maxRecDepth 100000
set_option maxHeartbeats 4000000
/-! Q36: ladders of worths. -/
namespace PH
open PySem
open PySem.Spec
open L2
open TL
open PyProof.Rows (sortedS)
def Tr (n : Nat) : Int := ((n * (n - 1) / 2 : Nat) : Int)
theorem tr_le : ∀ i, i < 7 → ∀ j, j < 7 → ((i : Nat) : Int) * ((j : Nat) : Int) ≤ Tr (i + 1) + Tr j := by decide +kernel
theorem tr_eq : ∀ i, i < 7 → ((i : Nat) : Int) * (i : Int) = Tr (i + 1) + Tr i := by decide +kernel
theorem tr_s (i : Nat) (h : i < 7) : Tr (i + 1) = Tr i + i := by
  have : ∀ i, i < 7 → Tr (i + 1) = Tr i + (i : Int) := by decide +kernel
  exact this i h
theorem tr_0 (i : Nat) : 0 ≤ Tr i := by unfold Tr; omega
theorem map_idx {α : Type} {bs : List Str} (nd : bs.Nodup) (F : Nat → α) : bs.map (fun b => F (bs.idxOf b)) = (List.range bs.length).map F := by
  refine List.ext_getElem (by simp) fun i h1 h2 => ?_
  simp only [List.getElem_map, List.getElem_range]
  rw [nd.idxOf_getElem]
section
variable {bs hs : List Str} {s : Int}
def lw (bs hs : List Str) (s : Int) : Str → Str → Int := fun b h => s * (bs.idxOf b : Nat) * (hs.idxOf h : Nat)
structure Lad (bs hs : List Str) (s : Int) : Prop where
  F : FullOk bs hs (lw bs hs s) (fun _ => 0)
  e : bs.length = hs.length
  l : bs.length < 7
  s0 : 0 ≤ s
def lu (bs : List Str) (s : Int) (b : Str) : Int := s * Tr (bs.idxOf b + 1)
def lp (hs : List Str) (s : Int) (h : Str) : Int := if h ∈ hs then s * Tr (hs.idxOf h) else 0
theorem ord_ix {b h : Str} (hn : hs.Nodup) (e : ord bs hs b = some h) : b ∈ bs ∧ h ∈ hs ∧ hs.idxOf h = bs.idxOf b := by
  unfold ord at e
  split at e
  · rename_i hb
    obtain ⟨l1, g1⟩ := List.getElem?_eq_some_iff.mp e
    refine ⟨hb, by rw [← g1]; exact List.getElem_mem l1, ?_⟩
    rw [← g1, hn.idxOf_getElem]
  · cases e
theorem Lad.cert (L : Lad bs hs s) : Asg.Cert (gF (gnOf (mkW bs hs (lw bs hs s)) (mkF hs fun _ => 0))) bs (ord bs hs) 0 (lu bs s) (lp hs s) := by
  have hl := L.l
  have he := L.e
  refine ⟨fun b hb k x hx => ?_, fun b hb k e => ?_, fun k => ?_, fun k hk => ?_, fun b hb => ?_, fun b hb e => ?_, fun b hb c hc k e e' => ord_inj L.F.hn e e'⟩
  · obtain ⟨_, h2, rfl⟩ := gF_mk' L.F hx
    have i1 := List.idxOf_lt_length_of_mem hb
    have i2 := List.idxOf_lt_length_of_mem h2
    have := tr_le (bs.idxOf b) (by omega) (hs.idxOf k) (by omega)
    unfold lp lu lw
    rw [if_pos h2, Int.sub_zero, Int.mul_assoc, ← Int.mul_add]
    exact Int.mul_le_mul_of_nonneg_left this L.s0
  · obtain ⟨_, h2, h3⟩ := ord_ix L.F.hn e
    have i1 := List.idxOf_lt_length_of_mem hb
    rw [gF_mk L.F hb h2]
    unfold lp lu lw
    rw [if_pos h2, h3, Int.sub_zero, Int.mul_assoc, ← Int.mul_add, tr_eq _ (by omega)]
  · unfold lp
    split
    · exact Int.mul_nonneg L.s0 (tr_0 _)
    · exact Int.le_refl _
  · unfold lp
    split
    · rename_i hm
      have := ord_un L.F.bn hm hk
      omega
    · rfl
  · exact Int.mul_nonneg L.s0 (tr_0 _)
  · have := ord_none hb e
    omega
theorem Lad.least (L : Lad bs hs s) : Asg.Least (gF (gnOf (mkW bs hs (lw bs hs s)) (mkF hs fun _ => 0))) bs (lp hs s) := by
  have hl := L.l
  have he := L.e
  refine ⟨⟨_, _, L.cert⟩, fun hf u q c k => ?_⟩
  have hh : ∀ {hf : Str → Option Str} {u q : Str → Int}, Asg.Cert (gF (gnOf (mkW bs hs (lw bs hs s)) (mkF hs fun _ => 0))) bs hf 0 u q → ∀ b ∈ bs, ∀ h, hf b = some h → h ∈ hs := fun c b hb h e => (gF_mk' L.F (c.eq b hb h e)).2.1
  have c' := c.swap L.cert L.F.bn L.F.hn (hh c) (hh L.cert)
  unfold lp
  split
  · rename_i hk
    have key : ∀ j, ∀ hj : j < hs.length, s * Tr j ≤ q hs[j] := by
      intro j
      induction j with
      | zero => intro hj; have := c'.p0 hs[0]; have : Tr 0 = 0 := rfl; rw [this, Int.mul_zero]; assumption
      | succ j ih =>
        intro hj
        have ih := ih (by omega)
        have hbj : j < bs.length := by omega
        have hb : bs[j] ∈ bs := List.getElem_mem hbj
        have e1 : ord bs hs bs[j] = some hs[j] := by
          unfold ord
          rw [if_pos hb, L.F.bn.idxOf_getElem, List.getElem?_eq_getElem]
        have g1 := c'.eq _ hb _ e1
        rw [gF_mk L.F hb (List.getElem_mem _)] at g1
        have g2 := c'.fe _ hb _ _ (gF_mk L.F hb (List.getElem_mem hj))
        unfold lw at g1 g2
        rw [L.F.bn.idxOf_getElem, L.F.hn.idxOf_getElem] at g1 g2
        have g1' : s * (j : Int) * (j : Int) = u bs[j] + q hs[j] := by
          have := Option.some.inj g1
          rw [Int.sub_zero] at this
          exact this
        rw [tr_s j (by omega), Int.mul_add]
        have e3 : s * (j : Int) * ((j + 1 : Nat) : Int) = s * (j : Int) * (j : Int) + s * (j : Int) := by
          rw [Int.natCast_add, Int.mul_add]; simp
        rw [e3] at g2
        omega
    have li := List.idxOf_lt_length_of_mem hk
    have := key (hs.idxOf k) li
    rw [List.getElem_idxOf li] at this
    exact this
  · exact c.p0 k
theorem Lad.gs (L : Lad bs hs s) : Gs (mkW bs hs (lw bs hs s)) (mkF hs fun _ => 0) (((List.range bs.length).map fun i : Nat => s * (0 + (i : Int)) * (0 + (i : Int))).sum) := by
  have hl := L.l
  have he := L.e
  have := Gs.of_cert L.F.ok (by rw [mkW_keys]; exact L.cert)
  rw [mkW_keys, mkF_keys] at this
  have e1 : bs.map (lu bs s) = (List.range bs.length).map fun i => s * Tr (i + 1) := map_idx L.F.bn fun i => s * Tr (i + 1)
  have e2 : hs.map (lp hs s) = (List.range hs.length).map fun i => s * Tr i := by
    rw [← map_idx L.F.hn fun i => s * Tr i]
    refine List.map_congr_left fun h hh => ?_
    unfold lp; rw [if_pos hh]
  have e3 : ((List.range bs.length).map fun i => s * Tr (i + 1)).sum + ((List.range hs.length).map fun i => s * Tr i).sum = ((List.range bs.length).map fun i : Nat => s * (0 + (i : Int)) * (0 + (i : Int))).sum := by
    rw [← he, ← Asg.sum_add]
    refine congrArg List.sum (List.map_congr_left fun i hi => ?_)
    have := List.mem_range.mp hi
    rw [Int.zero_add, Int.mul_assoc, tr_eq i (by omega), Int.mul_add]
  rw [e1, e2, e3] at this
  exact this
end
local macro_rules | `(tactic| walk_at "w1") => `(tactic| first
  | (with_reducible refine iSeq ?_)
  | (with_reducible refine iIf ?_)
  | (with_reducible refine iSkip ?_)
  | (with_reducible refine iAnd ?_)
  | (with_reducible refine iOr ?_)
  | (with_reducible refine iNot ?_)
  | (with_reducible refine iCmp ?_)
  | (with_reducible refine i2 ?_)
  | (with_reducible refine i1 ?_)
  | (with_reducible refine iC ?_)
  | (with_reducible refine iNil ?_)
  | (with_reducible refine iCons ?_)
  | (with_reducible refine iRet ?_)
  | (with_reducible refine iFrz ?_)
  | (with_reducible refine iBool ?_)
  | (with_reducible refine iVl ?_)
  | (with_reducible refine iAndV ?_)
  | (with_reducible refine iPar ?_)
  | (with_reducible refine iAsg ?_)
  | (with_reducible refine iAsgF ?_)
  | (with_reducible refine iYes ?_)
  | (with_reducible refine iteT ?_)
  | (with_reducible refine iteF ?_)
  | (with_reducible refine iteN ?_)
  | (with_reducible refine vGe_i ?_)
  | (with_reducible refine vLe_i ?_)
  | (with_reducible refine iIte ?_)
  | (with_reducible refine iAddD ?_)
  | (with_reducible refine iAddL ?_)
  | (with_reducible refine iCall ?_)
  | (with_reducible refine iFor ?_)
  | (with_reducible refine iAsgT ?_)
  | (with_reducible refine iTup ?_)
  | (with_reducible refine iLst ?_)
  | (with_reducible refine gTi ?_)
  | (with_reducible refine gsCi ?_)
  | (with_reducible refine gsNi ?_)
  | (with_reducible refine vSub_i ?_)
  | (with_reducible refine vAdd_i ?_)
  | (with_reducible refine vEq_i ?_)
  | (with_reducible refine vLt_i ?_)
  | (with_reducible refine vGt_i ?_)
  | (with_reducible refine vIsNot_s ?_)
  | (with_reducible refine vIsNot_non ?_)
  | (with_reducible refine vIs_str ?_)
  | (with_reducible refine vIs_non ?_)
  | (with_reducible refine vNe_s ?_)
  | ((with_reducible refine idx_t0 ?_))
  | ((with_reducible refine idx_mk0 ?_))
  | ((with_reducible refine idx_mk1 ?_))
  | (with_reducible refine iDc ?_)
  | (with_reducible refine iLc ?_)
  | (with_reducible refine iIts ?_)
  | (with_reducible refine iItsT ?_)
  | (with_reducible refine iILst ?_)
  | (with_reducible refine iIKeys ?_)
  | (with_reducible refine iIVals ?_)
  | (with_reducible refine iDone ?_)
  | (with_reducible refine kOf ?_)
  | (with_reducible refine iOrV ?_)
  | (with_reducible refine iNotV ?_)
  | (with_reducible refine vVals ?_)
  | (with_reducible refine vDict_dk ?_)
  | (with_reducible refine vBack ?_)
  | (with_reducible refine iIRng1 ?_)
  | (with_reducible refine vMax2_i ?_)
  | (with_reducible refine vMin2_i ?_)
  | ((with_reducible refine idx_t1 ?_))
  | ((with_reducible refine' gNi ?e1 ?_); (case e1 => simp [frz_len, unS_len]))
  | ((with_reducible refine' iVarRow ?e1 ?e2 ?_); (case e1 => first | (simp only [unS, frz, slM, List.set_cons_succ, List.set_cons_zero, List.getElem?_cons_succ, List.getElem?_cons_zero]; exact rfl) | exact rfl); (case e2 => with_reducible exact rfl))
  | ((with_reducible refine' iRdRow ?e1 ?e2 ?_); (case e1 => first | (simp only [unS, frz, slM, List.set_cons_succ, List.set_cons_zero, List.getElem?_cons_succ, List.getElem?_cons_zero]; exact rfl) | exact rfl); (case e2 => with_reducible exact rfl))
  | ((with_reducible refine' iVar ?e1 ?_); (case e1 => first | (simp only [unS, frz, slM, List.set_cons_succ, List.set_cons_zero, List.getElem?_cons_succ, List.getElem?_cons_zero]; exact rfl) | exact rfl))
  | ((with_reducible refine' iRd ?e1 ?_); (case e1 => first | (simp only [unS, frz, slM, List.set_cons_succ, List.set_cons_zero, List.getElem?_cons_succ, List.getElem?_cons_zero]; exact rfl) | exact rfl))
  | ((with_reducible refine' iRo ?e1 ?_); (case e1 => first | (simp only [unS, frz, slM, List.set_cons_succ, List.set_cons_zero, List.getElem?_cons_succ, List.getElem?_cons_zero]; exact rfl) | exact rfl))
  | ((with_reducible refine' iApp ?e1 ?_); (case e1 => first | (simp only [unS, frz, slM, List.set_cons_succ, List.set_cons_zero, List.getElem?_cons_succ, List.getElem?_cons_zero]; exact rfl) | exact rfl))
  | ((with_reducible refine' iPut ?e1 ?_); (case e1 => first | (simp only [unS, frz, slM, List.set_cons_succ, List.set_cons_zero, List.getElem?_cons_succ, List.getElem?_cons_zero]; exact rfl) | exact rfl))
  | ((with_reducible refine And.intro (le_ps ?e1) ?_); (case e1 => first | (simp only [List.length_cons, List.length_nil]; decide) | simp))
  | ((with_reducible refine And.intro (And.intro (lt_slots ?e1) (lt_slots ?e2)) ?_); (case e1 => simp); (case e2 => simp))
  | ((with_reducible refine And.intro (lt_slots ?e1) ?_); (case e1 => simp [frz_len, unS_len])))
local macro_rules | `(tactic| walk_at "w") => `(tactic| repeat (first | walk_at "w1" | (dsimp only) | (simp only [items_pv, itemsT_pv, keys_pv, vals_pv])))
def w__law_ladder_right (t__law_copied t_least_prices t_greatest_sum t__law_same : TSp) : WS :=
  (wSeq (wPar 6 7 false false (wLc (wIRng1 (wVar 0)) [8] (gN 8) wYes (w2 (wC (.str "b")) (w1 (wRd 8) vToStr) vAdd)) (wLc (wIRng1 (wVar 0)) [8] (gN 8) wYes (w2 (wC (.str "h")) (w1 (wRd 8) vToStr) vAdd)))
  (wSeq (wAsgF 2 (wC (.dk [])))
  (wSeq (wFor (wIEnum (wVar 6)) (gT (gsC (gN 8) (gsC (gN 9) gsN))) (wPut 2 (wVar 9) (w1 (wLc (wIEnum (wVar 7)) [11, 10] (gT (gsC (gN 11) (gsC (gN 10) gsN))) wYes (wTup (wCons (wVar 10) (wCons (w2 (w2 (wRd 1) (wRd 8) vMul) (wRd 11) vMul) wNil)))) vDict)))
  (wSeq (wFrz 2 (wAsg 3 (wTup (wCons (wVar 2) (wCons (w1 (wLc (wILst (wVar 7)) [10] (gN 10) wYes (wTup (wCons (wVar 10) (wCons (wC (.int 0)) wNil)))) vDict) wNil)))))
  (wSeq (wAsg 4 (w1 (wLc (wIEnum (wVar 7)) [11, 10] (gT (gsC (gN 11) (gsC (gN 10) gsN))) wYes (wTup (wCons (wVar 10) (wCons (w2 (w2 (w2 (wRd 1) (wRd 11) vMul) (w2 (wRd 11) (wC (.int 1)) vSub) vMul) (wC (.int 2)) vDiv) wNil)))) vDict))
  (wSeq (wAsg 5 (wLst (wCons (wCall 1 t_least_prices (wCons (wCall 1 t__law_copied (wCons (wVar 3) wNil)) wNil)) (wCons (wCall 1 t_greatest_sum (wCons (wCall 1 t__law_copied (wCons (wVar 3) wNil)) wNil)) wNil))))
  (wRet (wCall 2 t__law_same (wCons (wVar 5) (wCons (wLst (wCons (wVar 4) (wCons (w1 (wLc (wIRng1 (wVar 0)) [8] (gN 8) wYes (w2 (w2 (wRd 1) (wRd 8) vMul) (wRd 8) vMul)) vSum) wNil))) wNil))))))))))

theorem dict_of2 {α : Type} {ψ : α → PV} {g : GP} {we : WE} {S0 : List Slot} {k : Nat} {R : PK} (φ : Str → PV) (xs : List Str) (F : Str → α) (nd : xs.Nodup) (hl : xs.length ≤ 1000000) (hs : ∀ a ∈ xs, ∀ R : PK, R (.tup [.str a, ψ (F a)]) k → g (φ a) S0 fun S' => we S' k R)
    (h : R (.dk (pvM kS ψ (xs.map fun x => (x, F x)))) k) : (xs.map φ).length ≤ bigN ∧ wCmL g wYes (addL we) S0 (fun acc k' => vDict (.lst acc) fun r => R r k') (xs.map φ) [] k := by
  refine ⟨by rw [List.length_map]; exact hl, ?_⟩
  refine cm_list xs φ (fun x => PV.tup [.str x, ψ (F x)]) hs ?_
  have e : xs.map (fun x => PV.tup [.str x, ψ (F x)]) = (xs.map fun x => (x, F x)).map fun e => PV.tup [.str e.1, ψ e.2] := by rw [List.map_map]; rfl
  rw [e]
  exact vDict_pairs (by rw [map_fst]; exact nd) h
theorem vDiv_i {i j : Int} {R : PV → Prop} (h : 0 < j ∧ j < 1073741824) (hr : R (.int (i / j))) : vDiv (.int i) (.int j) R := ⟨h, hr⟩
theorem vSum_i {ns : List Int} {R : PV → Prop} (h : R (.int ns.sum)) : vSum (.lst (ns.map PV.int)) R := ⟨ns, rfl, h⟩
theorem enum_pv {bs : List Str} (nd : bs.Nodup) : ((bs.map PV.str).zipIdx.map fun pi => PV.tup [.int (pi.2 : Nat), pi.1]) = bs.map fun b => PV.tup [.int (bs.idxOf b : Nat), .str b] := by
  refine List.ext_getElem (by simp) fun i h1 h2 => ?_
  simp only [List.getElem_map, List.getElem_zipIdx]
  rw [nd.idxOf_getElem]
  simp
theorem iIEnum {wa : WE} {S : List Slot} {k : Nat} {R : List PV → Nat → Prop} (h : wa S k fun p k' => match p with
  | .lst ps => R (ps.zipIdx.map fun pi => PV.tup [.int (pi.2 : Nat), pi.1]) k'
  | _ => False) : wIEnum wa S k R := h
def t_ladder : TSp := fun ps k R => ∃ m s : Int, ps = [.int m, .int s] ∧ 1 ≤ m ∧ m ≤ 5 ∧ 0 ≤ s ∧ s ≤ 1000 ∧ R (.bl true) k
theorem l_ladder (ps : List PV) (k : Nat) (R : PK) (hl : ps.length = 2) (h : t_ladder ps k R) : w__law_ladder_right (t_copy 3) t_least_prices t_greatest_sum' (t_same 5) { nx := fun _ k => R .non k, rt := R } (startS 12 ps) k := by
  obtain ⟨m, s, rfl, m1, m5, s0, s9, hR⟩ := h
  show w__law_ladder_right _ _ _ _ _ [.fz (.int m), .fz (.int s), .un, .un, .un, .un, .un, .un, .un, .un, .un, .un] k
  unfold w__law_ladder_right
  walk_at "w"
  refine ⟨by omega, by simp [rngP]; unfold bigN; omega, ?_⟩
  refine names_of (by decide) (by simp [unS_len]) (by omega) ?_
  walk_at "w"
  refine ⟨by omega, by simp [rngP]; unfold bigN; omega, ?_⟩
  refine names_of (by decide) (by simp [unS_len]) (by omega) ?_
  obtain ⟨bn, bo, bS⟩ := nm_b m.toNat (by omega)
  obtain ⟨hn, ho, hS⟩ := nm_h m.toNat (by omega)
  have bl := nm_len "b" m.toNat
  have hlen := nm_len "h" m.toNat
  generalize nm (Str.ofString "b") m.toNat = bs at *
  generalize nm (Str.ofString "h") m.toNat = hs at *
  have F : FullOk bs hs (lw bs hs s) (fun _ => 0) := ⟨bn, hn, List.all_eq_true.mp bo, List.all_eq_true.mp ho, fun b _ h _ => Int.mul_nonneg (Int.mul_nonneg s0 (by omega)) (by omega), fun _ _ => Int.le_refl _, by omega, by omega⟩
  have L : Lad bs hs s := ⟨F, by omega, by omega, s0⟩
  have hne : mkW bs hs (lw bs hs s) ≠ [] := by
    intro z
    have := congrArg List.length z
    simp only [mkW, List.length_map, List.length_nil] at this
    omega
  walk_at "w"
  refine iIEnum ?_
  walk_at "w"
  rw [enum_pv bn]
  have sm : small s := ⟨by omega, by omega⟩
  have ix : ∀ {l : List Str} {x : Str}, x ∈ l → l.length < 7 → small (l.idxOf x : Nat) := fun hx hl => by
    have := List.idxOf_lt_length_of_mem hx
    exact ⟨by omega, by omega⟩
  refine forL_map bs (fun b => PV.tup [.int (bs.idxOf b : Nat), .str b]) (fun pre S k2 => k2 = k ∧ ∃ x8 x9, S = [.fz (.int m), .fz (.int s), .ow (.dk (pvM kS pvRow (mkW pre hs (lw bs hs s)))), .un, .un, .un, .fz (.lst (bs.map PV.str)), .fz (.lst (hs.map PV.str)), x8, x9, .un, .un]) ?_ ?_ bs [] _ _ rfl ⟨rfl, .un, .un, rfl⟩
  · rintro pre b r' S k2 hall ⟨rfl, x8, x9, rfl⟩ N hN
    have hb : b ∈ bs := by rw [hall]; exact List.mem_append_right _ (List.mem_cons_self ..)
    have pl : pre.length ≤ 7 := by have := congrArg List.length hall; rw [List.length_append] at this; omega
    walk_at "w"
    refine iIEnum ?_
    walk_at "w"
    rw [enum_pv hn]
    refine dict_of2 (ψ := PV.int) (fun h => PV.tup [.int (hs.idxOf h : Nat), .str h]) hs (fun h => lw bs hs s b h) hn (by omega) (fun h hh R2 hR2 => ?_) ?_
    · walk_at "w"
      refine vMul_i (.inl sm) ?_
      walk_at "w"
      refine vMul_i (.inr (ix hh (by omega))) ?_
      walk_at "w"
      exact hR2
    walk_at "w"
    refine dPut_dk (f := pvRow) (b := b) (v := hs.map fun h => (h, lw bs hs s b h)) rfl (by unfold mkW; rw [List.length_map]; unfold bigN; omega) ?_
    rw [put_new (by rw [mkW_keys]; intro z; rw [hall, List.nodup_append] at bn; exact bn.2.2 b z b (List.mem_cons_self ..) rfl)]
    refine hN _ _ ⟨rfl, .fz (.int (bs.idxOf b : Nat)), .fz (.str b), ?_⟩
    unfold mkW
    rw [List.map_append]
    rfl
  rintro S k2 ⟨rfl, x8, x9, rfl⟩
  walk_at "w"
  refine dict_of (ψ := PV.int) hs (fun h => 0) hn (by omega) (fun h hh R2 hR2 => ?_) ?_
  · walk_at "w"
    exact hR2
  walk_at "w"
  refine iIEnum ?_
  walk_at "w"
  rw [enum_pv hn]
  refine dict_of2 (ψ := PV.int) (fun h => PV.tup [.int (hs.idxOf h : Nat), .str h]) hs (fun h => s * Tr (hs.idxOf h)) hn (by omega) (fun h hh R2 hR2 => ?_) ?_
  · have li := List.idxOf_lt_length_of_mem hh
    walk_at "w"
    refine vMul_i (.inl sm) ?_
    walk_at "w"
    refine vMul_i (.inr ⟨by omega, by omega⟩) ?_
    walk_at "w"
    refine vDiv_i ⟨by decide, by decide⟩ ?_
    have e : s * ((hs.idxOf h : Nat) : Int) * (((hs.idxOf h : Nat) : Int) - 1) / 2 = s * Tr (hs.idxOf h) := by
      have hj : hs.idxOf h < 7 := by omega
      generalize hs.idxOf h = j at *
      have : j = 0 ∨ j = 1 ∨ j = 2 ∨ j = 3 ∨ j = 4 ∨ j = 5 ∨ j = 6 := by omega
      rcases this with rfl | rfl | rfl | rfl | rfl | rfl | rfl <;> simp [Tr] <;> omega
    rw [e]
    walk_at "w"
    exact hR2
  walk_at "w"
  refine ⟨rfl, pvMk (mkW bs hs (lw bs hs s)) (mkF hs fun _ => 0), rfl, cd_market F.ok, ?_⟩
  walk_at "w"
  refine ⟨rfl, least_prices_n F.ok hne (by rw [mkW_keys]; exact L.least) fun ns hp hs' => ?_⟩
  rw [mkF_keys] at hp
  obtain rfl := sorted_one hs' hS hp
  walk_at "w"
  refine ⟨rfl, pvMk (mkW bs ns (lw bs ns s)) (mkF ns fun _ => 0), rfl, cd_market F.ok, ?_⟩
  walk_at "w"
  refine ⟨rfl, greatest_sum_n F.ok hne L.gs ?_⟩
  walk_at "w"
  refine ⟨by omega, by simp [rngP]; unfold bigN; omega, ?_⟩
  unfold rngP
  refine cm_list (List.range m.toNat) (fun j : Nat => PV.int (0 + (j : Int))) (fun j : Nat => PV.int (s * (0 + (j : Int)) * (0 + (j : Int)))) (fun j hj R2 hR2 => ?_) ?_
  · have := List.mem_range.mp hj
    walk_at "w"
    refine vMul_i (.inl sm) ?_
    walk_at "w"
    refine vMul_i (.inr ⟨by omega, by omega⟩) ?_
    exact hR2
  have e7 : (List.range m.toNat).map (fun j : Nat => PV.int (s * (0 + (j : Int)) * (0 + (j : Int)))) = ((List.range m.toNat).map fun j : Nat => s * (0 + (j : Int)) * (0 + (j : Int))).map PV.int := by rw [List.map_map]; rfl
  rw [e7]
  refine vSum_i ?_
  walk_at "w"
  refine ⟨rfl, .lst [pvRow (ns.map fun x => (x, s * Tr (ns.idxOf x))), .int ((List.range m.toNat).map fun j : Nat => s * (0 + (j : Int)) * (0 + (j : Int))).sum], ?_, ?_, hR⟩
  · have r1 : (ns.map fun x => (x, val (mkF ns fun _ => 0) x + lp ns s x)) = ns.map fun x => (x, s * Tr (ns.idxOf x)) := by
      refine List.map_congr_left fun x hx => ?_
      rw [val_mkF hx]
      unfold lp
      rw [if_pos hx, Int.zero_add]
    rw [r1, bl]
    rfl
  · refine ⟨by simp, fun y hy => ?_⟩
    rcases List.mem_cons.mp hy with rfl | hy
    · exact sd_row (by rw [List.length_map]; omega) 1
    · rw [List.mem_singleton.mp hy]; trivial
end PH
set_option linter.all false
set_option autoImplicit false
set_option maxRecDepth 100000
set_option maxHeartbeats 4000000
/-! Q37: the law of known markets, behind its first row. -/
namespace PH
open PySem
open PySem.Spec
open L2
open TL
open PyProof.Rows (sortedS)
theorem cmL_mapK {α β : Type} {g : GP} {tt : WT} {add : List Slot → Nat → β → (β → Nat → Prop) → Prop} {S0 : List Slot} {Rf : β → Nat → Prop} (all : List α) (φ : α → PV) (J : List α → β → Nat → Prop)
    (hs : ∀ pre a r' acc k (R : β → Nat → Prop), all = pre ++ a :: r' → J pre acc k → (∀ acc' k', J (pre ++ [a]) acc' k' → R acc' k') → g (φ a) S0 fun S' => tt S' k fun b k1 => if b = true then add S' k1 acc R else R acc k1) (h : ∀ acc k, J all acc k → Rf acc k) :
    ∀ (r pre : List α) (acc : β) (k : Nat), all = pre ++ r → J pre acc k → wCmL g tt add S0 Rf (r.map φ) acc k
  | [], pre, acc, k, e, j => h acc k (by rw [e, List.append_nil]; exact j)
  | a :: r, pre, acc, k, e, j => hs pre a r acc k _ e j fun acc' k' j' => cmL_mapK all φ J hs h r (pre ++ [a]) acc' k' (by rw [e]; simp) j'
def hn (i : Nat) : Str := ("h" : Str) ++ (toString ((0 : Int) + (i : Int)) : Str)
theorem leSI_h (i j : Nat) (hij : i < j) (hj : j < 5) (a b : Int) : leSI (hn i, a) (hn j, b) = true := by
  have : (i = 0 ∧ (j = 1 ∨ j = 2 ∨ j = 3 ∨ j = 4)) ∨ (i = 1 ∧ (j = 2 ∨ j = 3 ∨ j = 4)) ∨ (i = 2 ∧ (j = 3 ∨ j = 4)) ∨ (i = 3 ∧ j = 4) := by omega
  rcases this with ⟨rfl, rfl | rfl | rfl | rfl⟩ | ⟨rfl, rfl | rfl | rfl⟩ | ⟨rfl, rfl | rfl⟩ | ⟨rfl, rfl⟩ <;> rfl
theorem srtd_h {fl : List (Str × Int)} {n : Nat} (hn5 : n < 6) (hk : fl.map (·.1) = nm "h" n) : srtd fl := by
  refine ⟨?_, by rw [hk]; exact (nm_h n (by omega)).2.2⟩
  have hl : fl.length = n := by
    have := congrArg List.length hk
    rw [List.length_map, nm_len] at this
    exact this
  rw [List.pairwise_iff_getElem]
  intro i j hi hj hij
  have key : ∀ i (hi : i < fl.length), fl[i].1 = hn i := fun i hi => by
    have e : (fl.map (·.1))[i]'(by rw [List.length_map]; exact hi) = (nm "h" n)[i]'(by rw [nm_len]; omega) := by
      congr 1
    rw [List.getElem_map] at e
    rw [e]
    unfold nm hn
    rw [List.getElem_map, List.getElem_range]
  have e1 := key i hi
  have e2 := key j hj
  have := leSI_h i j hij (by omega) fl[i].2 fl[j].2
  rw [← e1, ← e2] at this
  exact this
theorem row_form {l : List (Str × Int)} (nd : (l.map (·.1)).Nodup) : l = (l.map (·.1)).map fun b => (b, val l b) := by
  rw [List.map_map]
  conv => lhs; rw [← List.map_id l]
  refine List.map_congr_left fun e he => ?_
  have : val l e.1 = e.2 := by unfold val; rw [lk_of nd he]; rfl
  simp only [Function.comp, this]
  rfl
local macro_rules | `(tactic| walk_at "w1") => `(tactic| first
  | (with_reducible refine iSeq ?_)
  | (with_reducible refine iIf ?_)
  | (with_reducible refine iSkip ?_)
  | (with_reducible refine iAnd ?_)
  | (with_reducible refine iOr ?_)
  | (with_reducible refine iNot ?_)
  | (with_reducible refine iCmp ?_)
  | (with_reducible refine i2 ?_)
  | (with_reducible refine i1 ?_)
  | (with_reducible refine iC ?_)
  | (with_reducible refine iNil ?_)
  | (with_reducible refine iCons ?_)
  | (with_reducible refine iRet ?_)
  | (with_reducible refine iFrz ?_)
  | (with_reducible refine iBool ?_)
  | (with_reducible refine iVl ?_)
  | (with_reducible refine iAndV ?_)
  | (with_reducible refine iPar ?_)
  | (with_reducible refine iAsg ?_)
  | (with_reducible refine iAsgF ?_)
  | (with_reducible refine iYes ?_)
  | (with_reducible refine iteT ?_)
  | (with_reducible refine iteF ?_)
  | (with_reducible refine iteN ?_)
  | (with_reducible refine vGe_i ?_)
  | (with_reducible refine vLe_i ?_)
  | (with_reducible refine iIte ?_)
  | (with_reducible refine iAddD ?_)
  | (with_reducible refine iAddL ?_)
  | (with_reducible refine iCall ?_)
  | (with_reducible refine iFor ?_)
  | (with_reducible refine iAsgT ?_)
  | (with_reducible refine iTup ?_)
  | (with_reducible refine iLst ?_)
  | (with_reducible refine gTi ?_)
  | (with_reducible refine gsCi ?_)
  | (with_reducible refine gsNi ?_)
  | (with_reducible refine vSub_i ?_)
  | (with_reducible refine vAdd_i ?_)
  | (with_reducible refine vEq_i ?_)
  | (with_reducible refine vLt_i ?_)
  | (with_reducible refine vGt_i ?_)
  | (with_reducible refine vIsNot_s ?_)
  | (with_reducible refine vIsNot_non ?_)
  | (with_reducible refine vIs_str ?_)
  | (with_reducible refine vIs_non ?_)
  | (with_reducible refine vNe_s ?_)
  | ((with_reducible refine idx_t0 ?_))
  | ((with_reducible refine idx_mk0 ?_))
  | ((with_reducible refine idx_mk1 ?_))
  | (with_reducible refine iDc ?_)
  | (with_reducible refine iLc ?_)
  | (with_reducible refine iIts ?_)
  | (with_reducible refine iItsT ?_)
  | (with_reducible refine iILst ?_)
  | (with_reducible refine iIKeys ?_)
  | (with_reducible refine iIVals ?_)
  | (with_reducible refine iDone ?_)
  | (with_reducible refine kOf ?_)
  | (with_reducible refine iOrV ?_)
  | (with_reducible refine iNotV ?_)
  | (with_reducible refine vVals ?_)
  | (with_reducible refine vDict_dk ?_)
  | (with_reducible refine vBack ?_)
  | (with_reducible refine iIRng1 ?_)
  | (with_reducible refine vMax2_i ?_)
  | (with_reducible refine vMin2_i ?_)
  | ((with_reducible refine idx_t1 ?_))
  | ((with_reducible refine' gNi ?e1 ?_); (case e1 => simp [frz_len, unS_len]))
  | ((with_reducible refine' iVarRow ?e1 ?e2 ?_); (case e1 => first | (simp only [unS, frz, slM, List.set_cons_succ, List.set_cons_zero, List.getElem?_cons_succ, List.getElem?_cons_zero]; exact rfl) | exact rfl); (case e2 => with_reducible exact rfl))
  | ((with_reducible refine' iRdRow ?e1 ?e2 ?_); (case e1 => first | (simp only [unS, frz, slM, List.set_cons_succ, List.set_cons_zero, List.getElem?_cons_succ, List.getElem?_cons_zero]; exact rfl) | exact rfl); (case e2 => with_reducible exact rfl))
  | ((with_reducible refine' iVar ?e1 ?_); (case e1 => first | (simp only [unS, frz, slM, List.set_cons_succ, List.set_cons_zero, List.getElem?_cons_succ, List.getElem?_cons_zero]; exact rfl) | exact rfl))
  | ((with_reducible refine' iRd ?e1 ?_); (case e1 => first | (simp only [unS, frz, slM, List.set_cons_succ, List.set_cons_zero, List.getElem?_cons_succ, List.getElem?_cons_zero]; exact rfl) | exact rfl))
  | ((with_reducible refine' iRo ?e1 ?_); (case e1 => first | (simp only [unS, frz, slM, List.set_cons_succ, List.set_cons_zero, List.getElem?_cons_succ, List.getElem?_cons_zero]; exact rfl) | exact rfl))
  | ((with_reducible refine' iApp ?e1 ?_); (case e1 => first | (simp only [unS, frz, slM, List.set_cons_succ, List.set_cons_zero, List.getElem?_cons_succ, List.getElem?_cons_zero]; exact rfl) | exact rfl))
  | ((with_reducible refine' iPut ?e1 ?_); (case e1 => first | (simp only [unS, frz, slM, List.set_cons_succ, List.set_cons_zero, List.getElem?_cons_succ, List.getElem?_cons_zero]; exact rfl) | exact rfl))
  | ((with_reducible refine And.intro (le_ps ?e1) ?_); (case e1 => first | (simp only [List.length_cons, List.length_nil]; decide) | simp))
  | ((with_reducible refine And.intro (And.intro (lt_slots ?e1) (lt_slots ?e2)) ?_); (case e1 => simp); (case e2 => simp))
  | ((with_reducible refine And.intro (lt_slots ?e1) ?_); (case e1 => simp [frz_len, unS_len])))
local macro_rules | `(tactic| walk_at "w") => `(tactic| repeat (first | walk_at "w1" | (dsimp only) | (simp only [items_pv, itemsT_pv, keys_pv, vals_pv])))
def w_law_rest (t__law_pick t__law_draw t__law_like_right t__law_one_house_right t__law_one_buyer_right t__law_ladder_right : TSp) : WS :=
  (wSeq (wFor (wIRng1 (wC (.int 8))) (gN 2) (wSeq (wAsg 3 (wCall 2 t__law_pick (wCons (wVar 1) (wCons (wLst (wCons (wC (.int 5)) (wCons (wC (.int 90)) wNil))) wNil))))
  (wSeq (wPar 7 8 false false (w2 (wC (.int 1)) (wCall 2 t__law_draw (wCons (wVar 1) (wCons (wC (.int 4)) wNil))) vAdd) (w2 (wC (.int 1)) (wCall 2 t__law_draw (wCons (wVar 1) (wCons (wC (.int 4)) wNil))) vAdd))
  (wSeq (wIf (wNot (wVal (wCall 4 t__law_like_right (wCons (wVar 7) (wCons (wVar 8) (wCons (wCall 2 t__law_draw (wCons (wVar 1) (wCons (wVar 3) wNil))) (wCons (wCall 2 t__law_draw (wCons (wVar 1) (wCons (wC (.int 6)) wNil))) wNil))))))) (wRet (wC (.bl false))) wSkip)
  (wSeq (wAsg 4 (w1 (wLc (wIRng1 (w2 (wC (.int 1)) (wCall 2 t__law_draw (wCons (wVar 1) (wCons (wC (.int 5)) wNil))) vAdd)) [9] (gN 9) wYes (wTup (wCons (w2 (wC (.str "b")) (w1 (wRd 9) vToStr) vAdd) (wCons (wCall 2 t__law_draw (wCons (wVar 1) (wCons (wVar 3) wNil))) wNil)))) vDict))
  (wSeq (wIf (wNot (wVal (wCall 2 t__law_one_house_right (wCons (wVar 4) (wCons (wCall 2 t__law_draw (wCons (wVar 1) (wCons (wC (.int 6)) wNil))) wNil))))) (wRet (wC (.bl false))) wSkip)
  (wSeq (wAsg 5 (w1 (wLc (wIRng1 (w2 (wC (.int 1)) (wCall 2 t__law_draw (wCons (wVar 1) (wCons (wC (.int 4)) wNil))) vAdd)) [9] (gN 9) wYes (wTup (wCons (w2 (wC (.str "h")) (w1 (wRd 9) vToStr) vAdd) (wCons (wCall 2 t__law_draw (wCons (wVar 1) (wCons (wC (.int 6)) wNil))) wNil)))) vDict))
  (wSeq (wAsg 6 (w1 (wLc (wIKeys (wVar 5)) [10] (gN 10) (wCmp (wCall 2 t__law_draw (wCons (wVar 1) (wCons (wC (.int 4)) wNil))) (wC (.int 0)) vGt) (wTup (wCons (wVar 10) (wCons (wCall 2 t__law_draw (wCons (wVar 1) (wCons (wVar 3) wNil))) wNil)))) vDict))
  (wSeq (wIf (wNot (wVal (wCall 2 t__law_one_buyer_right (wCons (wVar 6) (wCons (wVar 5) wNil))))) (wRet (wC (.bl false))) wSkip)
  (wIf (wNot (wVal (wCall 2 t__law_ladder_right (wCons (w2 (wC (.int 1)) (wCall 2 t__law_draw (wCons (wVar 1) (wCons (wC (.int 4)) wNil))) vAdd) (wCons (w2 (wC (.int 1)) (wCall 2 t__law_draw (wCons (wVar 1) (wCons (wC (.int 5)) wNil))) vAdd) wNil))))) (wRet (wC (.bl false))) wSkip))))))))))
  (wRet (wC (.bl true))))
theorem iPick {R : PK} {k : Nat} {xs : List PV} (h0 : 0 < xs.length) (h1 : xs.length ≤ 1000000) (hk : k < 1000000) (h : ∀ x ∈ xs, R x (k + 1)) : ([PV.stm, .lst xs].length = 2 ∧ t__law_pick [.stm, .lst xs] k R) := ⟨rfl, xs, rfl, h0, h1, hk, h⟩
theorem iDraw {R : PK} {k : Nat} {n : Int} (h0 : 0 < n) (h1 : n < 1073741824) (hk : k < 1000000) (h : ∀ d, 0 ≤ d → d < n → R (.int d) (k + 1)) : ([PV.stm, .int n].length = 2 ∧ t__law_draw [.stm, .int n] k R) := ⟨rfl, n, rfl, h0, h1, hk, h⟩
theorem w1_rd {i : Nat} {S : List Slot} {k : Nat} {R : PK} {p : PV} {f : PV → (PV → Prop) → Prop} (e : S[i]? = some (.fz p)) (h : f p fun r => R r k) : TL.w1 (wRd i) f S k R := i1 (iRd e h)
theorem val_nn {l : List (Str × Int)} (h : ∀ e ∈ l, 0 ≤ e.2) (b : Str) : 0 ≤ val l b := by
  unfold val
  cases e : lk l b with
  | none => exact Int.le_refl _
  | some v => exact h _ (lk_mem e)
theorem one_of {l : List (Str × Int)} {f : Int} {k : Nat} {R : PK} (nd : (l.map (·.1)).Nodup) (ok : (l.map (·.1)).all nameOk = true) (l0 : ∀ e ∈ l, 0 ≤ e.2) (f0 : 0 ≤ f) (h0 : 0 < l.length) (h1 : l.length ≤ 10) (h : R (.bl true) k) : t_one [.dk (pvM kS PV.int l), .int f] k R := by
  refine ⟨l.map (·.1), val l, f, ?_, ?_, by rw [List.length_map]; exact h0, by rw [List.length_map]; exact h1, h⟩
  · rw [← row_form nd]
  · refine ⟨nd, by simp, List.all_eq_true.mp ok, fun x hx => ?_, fun b _ _ _ => val_nn l0 b, fun _ _ => f0, by rw [List.length_map]; omega, by simp⟩
    rw [List.mem_singleton.mp hx]
    decide +kernel
theorem buyer_of {l r : List (Str × Int)} {n k : Nat} {R : PK} (hn : n < 6) (hk : l.map (·.1) = nm "h" n) (l0 : ∀ e ∈ l, 0 ≤ e.2) (sub : (r.map (·.1)).Sublist (l.map (·.1))) (r0 : ∀ e ∈ r, 0 ≤ e.2) (h : R (.bl true) k) : t_buyer [.dk (pvM kS PV.int r), .dk (pvM kS PV.int l)] k R := by
  obtain ⟨h1, h2, h3⟩ := nm_h n (by omega)
  rw [← hk] at h1 h2
  have hl : l.length = n := by have := congrArg List.length hk; rw [List.length_map, nm_len] at this; exact this
  refine ⟨r, l, rfl, ?_, srtd_h hn hk, h⟩
  refine ⟨by simp, h1, fun e he => ?_, fun e he => ?_, fun e he => ?_, fun e he w hw => ?_, fun e he w hw => ?_, l0, by simp, by omega⟩
  · rw [List.mem_singleton.mp he]; exact h1.sublist sub
  · rw [List.mem_singleton.mp he]; show nameOk "a" = true; decide +kernel
  · exact List.all_eq_true.mp h2 _ (List.mem_map.mpr ⟨e, he, rfl⟩)
  · rw [List.mem_singleton.mp he] at hw
    exact sub.subset (List.mem_map.mpr ⟨w, hw, rfl⟩)
  · rw [List.mem_singleton.mp he] at hw
    exact r0 w hw
theorem nm_snoc (c : Str) (l : List (Str × Int)) (pre : List Nat) (j : Nat) (d : Int) (h : l.map (·.1) = pre.map fun i : Nat => c ++ (toString ((0 : Int) + (i : Int)) : Str)) : (l ++ [(c ++ (toString ((0 : Int) + (j : Int)) : Str), d)]).map (·.1) = (pre ++ [j]).map fun i : Nat => c ++ (toString ((0 : Int) + (i : Int)) : Str) := by
  rw [List.map_append, List.map_append, h]; rfl
/-- [(c + str(i), draw(W)) for i in range(n)] -/
theorem drawn_row {c : Str} {i : Nat} {wd : WE} {S0 : List Slot} {k n : Nat} {W : Int} {Rf : List PV → Nat → Prop} (hc : c.length ≤ 20) (hi : i < S0.length) (hi1 : i ≠ 1) (hn : n < 7) (hk : k + n < 1000000) (h1 : S0[1]? = some (.fz .stm)) (w0 : 0 < W) (wW : W < 1073741824)
    (hw : ∀ (x : PV) (k : Nat) (R : PK), R (.int W) k → wd (S0.set i (.fz x)) k R) (h : ∀ (l : List (Str × Int)) k', l.map (·.1) = nm c n → (∀ e ∈ l, 0 ≤ e.2 ∧ e.2 < W) → k' ≤ k + n → Rf (l.map fun e => .tup [.str e.1, .int e.2]) k') :
    wCmL (gN i) wYes (addL (wTup (wCons (w2 (wC (.str c)) (w1 (wRd i) vToStr) vAdd) (wCons (wCall 2 t__law_draw (wCons (wVar 1) (wCons wd wNil))) wNil)))) S0 Rf (rngP 0 n) [] k := by
  unfold rngP
  refine cmL_mapK (List.range n) (fun j : Nat => PV.int (0 + (j : Int))) (fun pre acc k' => ∃ l : List (Str × Int), l.map (·.1) = (pre.map fun i : Nat => c ++ (toString ((0 : Int) + (i : Int)) : Str)) ∧ (∀ e ∈ l, 0 ≤ e.2 ∧ e.2 < W) ∧ k' ≤ k + pre.length ∧ acc = l.map fun e => .tup [.str e.1, .int e.2]) ?_ ?_ _ [] _ _ rfl ⟨[], rfl, fun e he => (by cases he), Nat.le_refl _, rfl⟩
  · rintro pre j r' acc k' R hall ⟨l, l1, l2, l3, rfl⟩ hR
    have hj : j < n := List.mem_range.mp (by rw [hall]; exact List.mem_append_right _ (List.mem_cons_self ..))
    have pl : pre.length < n := by have := congrArg List.length hall; rw [List.length_append, List.length_range] at this; simp at this; omega
    refine ⟨hi, iYes (iteT (iAddL (iTup (iCons (i2 (iC (w1_rd (List.getElem?_set_self hi) ⟨⟨by omega, by omega⟩, ?_, ?_⟩)))))))⟩
    · have := str_len j (by omega)
      have : (20 : Nat) + 20 ≤ sizeLine := by decide
      omega
    · refine iCons (iCall (iCons (iVar (p := .stm) (by rw [List.getElem?_set_ne hi1]; exact h1) (iCons (hw _ _ _ (iNil (iDraw w0 wW (by omega) fun d d0 d1 => iNil ⟨by simp, ?_⟩)))))))
      have := hR ((l ++ [(c ++ (toString ((0 : Int) + (j : Int)) : Str), d)]).map fun e => PV.tup [.str e.1, .int e.2]) (k' + 1) ⟨_, nm_snoc c l pre j d l1, fun e he => ?_, by rw [List.length_append]; simp; omega, rfl⟩
      · rw [List.map_append] at this
        exact this
      · rcases List.mem_append.mp he with he | he
        · exact l2 e he
        · rw [List.mem_singleton.mp he]; exact ⟨d0, d1⟩
  · rintro acc k' ⟨l, l1, l2, l3, rfl⟩
    exact h l k' l1 l2 (by simpa using l3)
theorem l_law_rest (k : Nat) (R : PK) (hk : k ≤ 10) (hR : ∀ k, R (.bl true) k) : w_law_rest t__law_pick t__law_draw t_like t_one t_buyer t_ladder { nx := fun _ k => R .non k, rt := R } [.un, .fz .stm, .un, .un, .un, .un, .un, .un, .un, .un, .un] k := by
  unfold w_law_rest
  walk_at "w"
  refine ⟨⟨by decide, by decide⟩, ?_⟩
  unfold rngP
  refine forL_map (List.range (Int.toNat 8)) (fun i : Nat => PV.int (0 + (i : Int))) (fun pre S k2 => k2 ≤ 10 + 100 * pre.length ∧ ∃ x2 x3 x4 x5 x6 x7 x8 x9 x10, S = [.un, .fz .stm, x2, x3, x4, x5, x6, x7, x8, x9, x10]) ?_ ?_ _ [] _ _ rfl ⟨hk, .un, .un, .un, .un, .un, .un, .un, .un, .un, rfl⟩
  · rintro pre i r' S k2 hall ⟨hk2, x2, x3, x4, x5, x6, x7, x8, x9, x10, rfl⟩ N hN
    have pl : pre.length < 8 := by have := congrArg List.length hall; rw [List.length_append, List.length_range] at this; simp at this; omega
    walk_at "w"
    refine iPick (by decide) (by decide) (by omega) fun x hx => ?_
    obtain ⟨wide, rfl, hw0, hw1⟩ : ∃ w : Int, x = .int w ∧ 0 < w ∧ w ≤ 90 := by
      rcases List.mem_cons.mp hx with rfl | hx
      · exact ⟨5, rfl, by decide, by decide⟩
      · rw [List.mem_singleton.mp hx]; exact ⟨90, rfl, by decide, by decide⟩
    walk_at "w"
    refine iDraw (by decide) (by decide) (by omega) fun d1 d10 d11 => ?_
    walk_at "w"
    refine iDraw (by decide) (by decide) (by omega) fun d2 d20 d21 => ?_
    walk_at "w"
    refine iDraw hw0 (by omega) (by omega) fun d3 d30 d31 => ?_
    walk_at "w"
    refine iDraw (by decide) (by decide) (by omega) fun d4 d40 d41 => ?_
    walk_at "w"
    refine ⟨rfl, _, _, _, _, rfl, by omega, by omega, by omega, by omega, by omega, by omega, by omega, by omega, ?_⟩
    walk_at "w"
    refine iDraw (by decide) (by decide) (by omega) fun d5 d50 d51 => ?_
    walk_at "w"
    refine ⟨⟨by omega, by omega⟩, by simp [rngP]; unfold bigN; omega, ?_⟩
    refine drawn_row (W := wide) (by decide) (by simp [unS_len]) (by decide) (by omega) (by omega) rfl hw0 (by omega) (fun x k R hR => iVar (p := .int wide) rfl hR) fun l k3 l1 l2 l3 => ?_
    have nb := nm_b (1 + d5).toNat (by omega)
    rw [← l1] at nb
    have ll : l.length = (1 + d5).toNat := by have := congrArg List.length l1; rw [List.length_map, nm_len] at this; exact this
    refine vDict_pairs (ψ := PV.int) nb.1 ?_
    walk_at "w"
    refine iDraw (by decide) (by decide) (by omega) fun d6 d60 d61 => ?_
    walk_at "w"
    refine ⟨rfl, one_of nb.1 nb.2.1 (fun e he => (l2 e he).1) d60 (by omega) (by omega) ?_⟩
    walk_at "w"
    refine iDraw (by decide) (by decide) (by omega) fun d7 d70 d71 => ?_
    walk_at "w"
    refine ⟨⟨by omega, by omega⟩, by simp [rngP]; unfold bigN; omega, ?_⟩
    refine drawn_row (W := 6) (by decide) (by simp [unS_len]) (by decide) (by omega) (by omega) rfl (by decide) (by decide) (fun x k R hR => iC hR) fun fl k4 f1 f2 f3 => ?_
    have nf := nm_h (1 + d7).toNat (by omega)
    rw [← f1] at nf
    have lf : fl.length = (1 + d7).toNat := by have := congrArg List.length f1; rw [List.length_map, nm_len] at this; exact this
    refine vDict_pairs (ψ := PV.int) nf.1 ?_
    walk_at "w"
    have ek : fl.map (fun e => PV.str e.1) = (fl.map (·.1)).map PV.str := by rw [List.map_map]; rfl
    rw [ek]
    refine ⟨by rw [List.length_map, List.length_map]; unfold bigN; omega, ?_⟩
    refine cmL_mapK (fl.map (·.1)) PV.str (fun pre2 acc k' => ∃ r : List (Str × Int), (r.map (·.1)).Sublist pre2 ∧ (∀ e ∈ r, 0 ≤ e.2) ∧ k' ≤ k4 + 2 * pre2.length ∧ acc = r.map fun e => .tup [.str e.1, .int e.2]) ?_ ?_ _ [] _ _ rfl ⟨[], List.Sublist.refl _, fun e he => (by cases he), Nat.le_refl _, rfl⟩
    · rintro pre2 h r2 acc k5 R2 hall2 ⟨r, r1, r0, r3, rfl⟩ hR2
      have pl2 : pre2.length < 5 := by have := congrArg List.length hall2; rw [List.length_append, List.length_map] at this; simp at this; omega
      walk_at "w"
      refine iDraw (by decide) (by decide) (by omega) fun d8 d80 d81 => ?_
      walk_at "w"
      refine ite01 (fun e => ?_) fun e => ?_
      · walk_at "w"
        refine iDraw hw0 (by omega) (by omega) fun d9 d90 d91 => ?_
        walk_at "w"
        have := hR2 ((r ++ [(h, d9)]).map fun e => PV.tup [.str e.1, .int e.2]) (k5 + 1 + 1) ⟨r ++ [(h, d9)], ?_, fun e he => ?_, by rw [List.length_append]; simp; omega, rfl⟩
        · rw [List.map_append] at this
          exact this
        · rw [List.map_append]
          exact List.Sublist.append r1 (List.Sublist.refl _)
        · rcases List.mem_append.mp he with he | he
          · exact r0 e he
          · rw [List.mem_singleton.mp he]; exact d90
      · exact hR2 _ _ ⟨r, r1.trans (List.sublist_append_left ..), r0, by rw [List.length_append]; simp; omega, rfl⟩
    · rintro acc k5 ⟨r, r1, r0, r3, rfl⟩
      rw [List.length_map] at r3
      refine vDict_pairs (ψ := PV.int) (nf.1.sublist r1) ?_
      walk_at "w"
      refine ⟨rfl, buyer_of (n := (1 + d7).toNat) (by omega) f1 (fun e he => (f2 e he).1) r1 r0 ?_⟩
      walk_at "w"
      refine iDraw (by decide) (by decide) (by omega) fun d9 d90 d91 => ?_
      walk_at "w"
      refine iDraw (by decide) (by decide) (by omega) fun d10 d100 d101 => ?_
      walk_at "w"
      refine ⟨rfl, _, _, rfl, by omega, by omega, by omega, by omega, ?_⟩
      walk_at "w"
      refine hN _ _ ⟨by rw [List.length_append]; simp; omega, .fz (.int (0 + (i : Int))), .fz (.int wide), .fz (.dk (pvM kS PV.int l)), .fz (.dk (pvM kS PV.int fl)), .fz (.dk (pvM kS PV.int r)), .fz (.int (1 + d1)), .fz (.int (1 + d2)), x9, x10, rfl⟩
  · rintro S k2 ⟨hk2, x2, x3, x4, x5, x6, x7, x8, x9, x10, rfl⟩
    walk_at "w"
    exact hR _
end PH
set_option linter.all false
set_option autoImplicit false
set_option maxRecDepth 100000
/-! Q38: copies and likeness of what holds nothing. -/
namespace PH
open PySem
open PySem.Spec
open L2
open TL
local macro_rules | `(tactic| walk_at "w1") => `(tactic| first
  | (with_reducible refine iSeq ?_)
  | (with_reducible refine iIf ?_)
  | (with_reducible refine iSkip ?_)
  | (with_reducible refine iAnd ?_)
  | (with_reducible refine iOr ?_)
  | (with_reducible refine iNot ?_)
  | (with_reducible refine iCmp ?_)
  | (with_reducible refine i2 ?_)
  | (with_reducible refine i1 ?_)
  | (with_reducible refine iC ?_)
  | (with_reducible refine iNil ?_)
  | (with_reducible refine iCons ?_)
  | (with_reducible refine iRet ?_)
  | (with_reducible refine iFrz ?_)
  | (with_reducible refine iBool ?_)
  | (with_reducible refine iVl ?_)
  | (with_reducible refine iAndV ?_)
  | (with_reducible refine iPar ?_)
  | (with_reducible refine iAsg ?_)
  | (with_reducible refine iAsgF ?_)
  | (with_reducible refine iYes ?_)
  | (with_reducible refine iteT ?_)
  | (with_reducible refine iteF ?_)
  | (with_reducible refine iIte ?_)
  | (with_reducible refine iAddD ?_)
  | (with_reducible refine iAddL ?_)
  | (with_reducible refine iCall ?_)
  | (with_reducible refine iFor ?_)
  | (with_reducible refine iAsgT ?_)
  | (with_reducible refine iTup ?_)
  | (with_reducible refine iLst ?_)
  | (with_reducible refine gTi ?_)
  | (with_reducible refine gsCi ?_)
  | (with_reducible refine gsNi ?_)
  | (with_reducible refine vSub_i ?_)
  | (with_reducible refine vAdd_i ?_)
  | (with_reducible refine vEq_i ?_)
  | (with_reducible refine vLt_i ?_)
  | (with_reducible refine vGt_i ?_)
  | (with_reducible refine vIsNot_s ?_)
  | (with_reducible refine vIsNot_non ?_)
  | (with_reducible refine vIs_str ?_)
  | (with_reducible refine vIs_non ?_)
  | (with_reducible refine vNe_s ?_)
  | ((with_reducible refine idx_t0 ?_))
  | ((with_reducible refine idx_mk0 ?_))
  | ((with_reducible refine idx_mk1 ?_))
  | (with_reducible refine iDc ?_)
  | (with_reducible refine iLc ?_)
  | (with_reducible refine iIts ?_)
  | (with_reducible refine iItsT ?_)
  | (with_reducible refine iILst ?_)
  | (with_reducible refine iIKeys ?_)
  | (with_reducible refine iIVals ?_)
  | ((with_reducible refine idx_t1 ?_))
  | ((with_reducible refine' gNi ?e1 ?_); (case e1 => simp [frz_len, unS_len]))
  | ((with_reducible refine' iVarRow ?e1 ?e2 ?_); (case e1 => exact rfl); (case e2 => with_reducible exact rfl))
  | ((with_reducible refine' iRdRow ?e1 ?e2 ?_); (case e1 => exact rfl); (case e2 => with_reducible exact rfl))
  | ((with_reducible refine' iVar ?e1 ?_); (case e1 => exact rfl))
  | ((with_reducible refine' iRd ?e1 ?_); (case e1 => exact rfl))
  | ((with_reducible refine' iRo ?e1 ?_); (case e1 => exact rfl))
  | ((with_reducible refine' iApp ?e1 ?_); (case e1 => exact rfl))
  | ((with_reducible refine' iPut ?e1 ?_); (case e1 => exact rfl))
  | ((with_reducible refine And.intro (le_ps ?e1) ?_); (case e1 => first | (simp only [List.length_cons, List.length_nil]; decide) | simp))
  | ((with_reducible refine And.intro (And.intro (lt_slots ?e1) (lt_slots ?e2)) ?_); (case e1 => simp); (case e2 => simp))
  | ((with_reducible refine And.intro (lt_slots ?e1) ?_); (case e1 => simp [frz_len, unS_len])))
local macro_rules | `(tactic| walk_at "w") => `(tactic| repeat (first | walk_at "w1" | (dsimp only) | (simp only [items_pv, itemsT_pv, keys_pv, vals_pv])))
theorem l_copy0 (τ : TSp) (ps : List PV) (k : Nat) (R : PK) (hl : ps.length = 1) (h : t_copy 0 ps k R) : w__law_copied τ { nx := fun _ k => R .non k, rt := R } (startS 4 ps) k := by
  obtain ⟨p, rfl, hp, hR⟩ := h
  show w__law_copied _ _ [.fz p, .un, .un, .un] k
  unfold w__law_copied
  have flat : ∀ a, tyN p = some a → isI a "dict" = false → (["list", "tuple"].any (isI a)) = false → (wSeq (wIf (wVal (w1 (wRd 0) (vIsi "dict"))) (wRet (w1 (wLc (fun S k R => wIKeys (wVar 0) S k R ∨ wILst (wVar 0) S k R ∨ wITup (wVar 0) S k R) [3] (gN 3) wYes (wTup (wCons (wVar 3) (wCons (wCall 1 τ (wCons (w2 (wRd 0) (wRd 3) vIdx) wNil)) wNil)))) vDict)) wSkip)
  (wSeq (wIf (wNot (wVal (w1 (wRd 0) (vIsiT ["list", "tuple"])))) (wRet (wVar 0)) wSkip)
  (wSeq (wAsgF 1 (wLc (fun S k R => wIKeys (wVar 0) S k R ∨ wILst (wVar 0) S k R ∨ wITup (wVar 0) S k R) [2] (gN 2) wYes (wCall 1 τ (wCons (wVar 2) wNil))))
  (wFrz 1 (wRet (wIte (wVal (w1 (wRd 0) (vIsi "list"))) (wVar 1) (w1 (wRd 1) vTuple))))))) { nx := fun _ k => R .non k, rt := R } [.fz p, .un, .un, .un] k := by
    intro a e h1 h2
    refine iSeq (iIf (iVl (i1 (iRd (p := p) rfl (vIsi_no e ?_)))))
    rw [h1]
    walk_at "w"
    refine vIsiT_no e ?_
    rw [h2]
    walk_at "w"
    exact hR
  cases p with
  | non => exact flat _ rfl (by decide) (by decide)
  | bl b => exact flat _ rfl (by decide) (by decide)
  | int i => exact flat _ rfl (by decide) (by decide)
  | str x => exact flat _ rfl (by decide) (by decide)
  | lst xs => exact hp.elim
  | tup xs => exact hp.elim
  | dk kvs => exact hp.elim
  | dt kvs => exact hp.elim
  | stm => exact hp.elim
theorem l_same0 (τ : TSp) (ps : List PV) (k : Nat) (R : PK) (hl : ps.length = 2) (h : t_same 0 ps k R) : w__law_same τ { nx := fun _ k => R .non k, rt := R } (startS 4 ps) k := by
  obtain ⟨p, rfl, hp, hR⟩ := h
  show w__law_same _ _ [.fz p, .fz p, .un, .un] k
  unfold w__law_same
  cases p with
  | non =>
    walk_at "w"
    refine vIsiT_no rfl ?_
    rw [show (["list", "tuple"].any (isI "NoneType")) = false by decide]
    walk_at "w"
    refine vIsi_no rfl ?_
    rw [show isI "NoneType" "dict" = false by decide]
    walk_at "w"
    refine vIsi_no rfl ?_
    rw [show isI "NoneType" "int" = false by decide]
    walk_at "w"
    exact hR
  | bl b =>
    walk_at "w"
    refine vIsiT_no rfl ?_
    rw [show (["list", "tuple"].any (isI "bool")) = false by decide]
    walk_at "w"
    refine vIsi_no rfl ?_
    rw [show isI "bool" "dict" = false by decide]
    walk_at "w"
    refine vIsi_no rfl ?_
    rw [show isI "bool" "int" = true by decide]
    walk_at "w"
    refine vIsi_no rfl ?_
    rw [show isI "bool" "int" = true by decide]
    walk_at "w"
    refine vIsi_no rfl ?_
    refine iRd (p := .bl b) rfl (vIsi_no rfl ?_)
    rw [show isI "bool" "bool" = true by decide]
    show R (.bl (decide (b = b))) k
    simpa using hR
  | int i =>
    walk_at "w"
    refine vIsiT_no rfl ?_
    rw [show (["list", "tuple"].any (isI "int")) = false by decide]
    walk_at "w"
    refine vIsi_no rfl ?_
    rw [show isI "int" "dict" = false by decide]
    walk_at "w"
    refine vIsi_no rfl ?_
    rw [show isI "int" "int" = true by decide]
    walk_at "w"
    refine vIsi_no rfl ?_
    rw [show isI "int" "int" = true by decide]
    walk_at "w"
    refine vIsi_no rfl ?_
    refine iRd (p := .int i) rfl (vIsi_no rfl ?_)
    rw [show isI "int" "bool" = false by decide]
    show R (.bl (decide (i = i))) k
    simpa using hR
  | str x =>
    walk_at "w"
    refine vIsiT_no rfl ?_
    rw [show (["list", "tuple"].any (isI "str")) = false by decide]
    walk_at "w"
    refine vIsi_no rfl ?_
    rw [show isI "str" "dict" = false by decide]
    walk_at "w"
    refine vIsi_no rfl ?_
    rw [show isI "str" "int" = false by decide]
    walk_at "w"
    refine vIsi_no rfl ?_
    rw [show isI "str" "str" = true by decide]
    walk_at "w"
    refine vIsi_no rfl ?_
    rw [show isI "str" "str" = true by decide]
    show R (.bl (decide (x = x))) k
    simpa using hR
  | lst xs => exact hp.elim
  | tup xs => exact hp.elim
  | dk kvs => exact hp.elim
  | dt kvs => exact hp.elim
  | stm => exact hp.elim
end PH
set_option Elab.async false
set_option linter.all false
set_option maxRecDepth 100000
set_option maxHeartbeats 1000000
set_option autoImplicit false
/-! E1: a law's start, a law's end. -/
namespace TL
open PySem
open PySem.Spec
open PyProof.Rows
open L2
section
variable {P : Program} {w : World} {K : PySem.W.Frag} {mg : Str → Option Value} {base : Heap} {T : List (Addr × Str)}
def spStart (K : PySem.W.Frag) : Sp := fun vs H Q _ => ∃ (a0 : Addr) (ns : List Int), vs = [.ref a0] ∧ ns.length ≤ 63 ∧ SqL K H a0 (ns.map V.int) ∧ ∀ c a, H c = none → H a = none → c ≠ a → Q (.ref a) (upd (upd H c (.lst (ns.map V.int))) a (.lst [.ref c, .int 0, .int 0, .int 89]))
def spLawT (K : PySem.W.Frag) (T : List (Addr × Str)) : Sp := fun vs H Q _ => ∃ (a0 : Addr) (ns : List Int), vs = [.ref a0] ∧ ns.length ≤ 63 ∧ (∀ z ∈ ns, Builtin.Int.intBits z ≤ 1048576) ∧ (∀ p ∈ T, H p.1 = some (.tbl #[])) ∧ SqL K H a0 (ns.map V.int) ∧ ∀ H', Q (.bl true) H'
theorem pss_ex {X : Cx} {sts : List Stmt} {α : Type} {I : α → Prop} {t : α → TS} (h : ∀ i, I i → PSs X sts (t i)) : PSs X sts (fun D σ H => ∃ i, I i ∧ t i D σ H) :=
  ⟨fun pins s σ H D J ⟨i, hi, q⟩ => (h i hi).run pins s σ H D J q⟩
theorem bits_lt {z : Int} (h : Builtin.Int.intBits z ≤ 1048576) : z.natAbs < 2 ^ bigB :=
  Nat.lt_of_lt_of_le (PySem.intBits_le_iff.mp h) (Nat.pow_le_pow_right (by decide) (by unfold bigB; omega))
/-- the stream at its start -/
theorem start_amb {H : Hp} {c a : Addr} {ns : List Int} (hc : H c = none) (ha : H a = none) (hca : c ≠ a) (hl : ns.length ≤ 63) (hb : ∀ z ∈ ns, Builtin.Int.intBits z ≤ 1048576) (hT : ∀ p ∈ T, H p.1 = some (.tbl #[])) :
    Amb a ⟨c, T⟩ 0 (upd (upd H c (.lst (ns.map V.int))) a (.lst [.ref c, .int 0, .int 0, .int 89])) := by
  refine ⟨Ne.symm hca, ⟨ns, 0, 0, 89, upd_same, by rw [upd_ne hca]; exact upd_same, fun x hx => bits_lt (hb x hx), Int.le_refl _, Nat.two_pow_pos _, Int.le_refl _, by decide, by decide, by decide, hl⟩, fun p hp => ?_⟩
  have h1 := hT p hp
  have e : upd (upd H c (.lst (ns.map V.int))) a (.lst [.ref c, .int 0, .int 0, .int 89]) p.1 = some (.tbl #[]) := by
    rw [upd_ne (by rintro rfl; rw [ha] at h1; cases h1), upd_ne (by rintro rfl; rw [hc] at h1; cases h1)]
    exact h1
  refine ⟨#[], e, True.intro, fun pos cv hcv => ?_⟩
  have z : codeAmong pos [] = some cv := hcv
  simp [codeAmong] at z
/-- the slots at the start -/
theorem start_sl {a : Addr} {b : Bs} {H : Hp} {n : Nat} {σ : L2.St} (m : Amb a b 0 H) (hn : 2 ≤ n) (hσ : σ.length = n) (h1 : σ[1]? = some (some (.ref a))) : Wd a b H σ H ([.un, .fz .stm] ++ List.replicate (n - 2) .un) 0 := by
  have key : ∀ (i : Nat) (t : Slot), ([Slot.un, .fz .stm] ++ List.replicate (n - 2) .un)[i]? = some t → (i = 1 ∧ t = .fz .stm) ∨ t = .un := by
    intro i t e
    match i with
    | 0 => simp at e; exact .inr e.symm
    | 1 => simp at e; exact .inl ⟨rfl, e.symm⟩
    | i + 2 =>
      right
      rw [List.getElem?_append_right (by simp)] at e
      rw [List.getElem?_replicate] at e
      split at e
      · cases e; rfl
      · cases e
  refine ⟨by simp; omega, fun i t e => ?_, fun i c o => ?_, Up.refl, m⟩
  · rcases key i t e with ⟨rfl, rfl⟩ | rfl
    · exact ⟨_, h1, .stm⟩
    · trivial
  · obtain ⟨_, p, e⟩ := o
    rcases key i _ e with ⟨_, z⟩ | z <;> cases z
theorem law_ok {xL xS : Str} {fa fs : Addr} {fdS : FuncData} {N : List Str} {k : Nat} {wf : WS} {fns : List (Str × Nat × TSp)} {bl : List Str} {st : Stmt} {rest : List Stmt} {oc : Value} {od an : Option Addr} {osl : Array (Option Value)} {kV doc pm cdv ct : Value}
    {p1 p2 p3 p4 p5 : Pos}
    (lk : K.lookup fa = some ⟨oc, od, .func (PySem.W.fnOf xL xL (defArgs st) (defBody st) (defScope st) .none kV doc pm an cdv ct), osl⟩) (hcd : PySem.W.codeIn K cdv xL = true)
    (S : FnScope N ["script"] (defScope st)) (hN0 : N[0]? = some ("script" : Str)) (hN1 : N[1]? = some ("stream" : Str)) (hn : N.length = N.length) (hbody : defBody st = .Assign [.Name "stream" p1] (.Call (.Name xS p2) [.Name "script" p3] [] p4) p5 :: rest)
    (hpos : p5.line = p5.line) (hgl : (defScope st).names.lookup xS = some .globalImplicit) (hv : visB (defScope st) "script" = true) (hloc : Loc (defScope st) "stream") (hdb : (xS == ("__debug__" : Str)) = false)
    (hsw : ∀ env, swapsWith (.Call (.Name xS p2) [.Name "script" p3] [] p4) (some (.Name "stream" p1)) p5.line env = pure false)
    (hms : mg xS = some (.ref fs)) (kps : PySem.W.keepIn K (.ref fs) = true) (bs : Binds K fdS ["script"] []) (Fs : FnOk P w K mg base CX0 k fs fdS ["script"] (spStart K)) (hk : 8 ≤ k)
    (d : ∀ a b, SSs { a := a, b := b, fns := fns, bl := bl } ⟨N, defScope st, fun _ => true⟩ rest wf) (hbl : ∀ x ∈ bl, mg x = none) (hf : ∀ e ∈ fns, FC P w K mg base T k e)
    (h : ∀ R : PK, (∀ k, R (.bl true) k) → wf { nx := fun _ k => R .non k, rt := R } ([.un, .fz .stm] ++ List.replicate (N.length - 2) .un) 0) :
    FnOk P w K mg base CX0 (k + 1) fa (PySem.W.fnOf xL xL (defArgs st) (defBody st) (defScope st) .none kV doc pm an cdv ct) ["script"] (spLawT K T) := by
  have hN2 : 2 ≤ N.length := (List.getElem?_eq_some_iff.mp hN1).1
  refine fn_of lk hcd S (fun vs H Q E ⟨a0, ns, e, _⟩ => by rw [e]; rfl) fun A0 outer s H vs Q E hr hh => ?_
  obtain ⟨a0, ns, rfl, hl, hb, hT, hS, hq⟩ := hh
  rw [hbody]
  refine ⟨_, PSs.nox (pss_cons (ps_set (i := 1) (x := "stream") S.nd hN1 hloc (pe_call Fs hr hgl hms kps bs .nil pass0 (pa_cons (pe_var (i := 0) hN0 (vis_of hv) (by decide) (by decide)) pa_nil (by rfl)) hdb (by rfl) (by rfl)) (hsw _) (.inl rfl))
    (pss_ex (α := Addr × Bs) (I := fun i => i.2.T = T) fun i hi => (d i.1 i.2).run _ ⟨rfl, S.nd, rfl, S.kind, rfl, fun _ _ => rfl, rfl, hr.mono (by omega), hbl, fun e he => ?_, fun Pt q z => by cases z⟩)), ?_⟩
  · obtain ⟨f', fd', ps', j, h1, h2, h3, h4, h5, h6⟩ := hf e he
    exact ⟨f', fd', ps', j, h1, h2, h3, h4, h6 i.1 i.2 hi, hr.mono h5⟩
  · have s0 : (L2.start N [V.ref a0])[0]? = some (some (.ref a0)) := by unfold L2.start; rfl
    have sl : (L2.start N [V.ref a0]).length = N.length := by
      unfold L2.start
      simp
      omega
    refine ⟨.ref a0, s0, a0, ns, rfl, hl, hS, fun c a hc ha hca => ?_⟩
    refine ⟨(a, ⟨c, T⟩), rfl, _, _, 0, { nx := fun _ _ => (PV.non) = .bl true, rt := fun p _ => p = .bl true }, start_sl (start_amb hc ha hca hl hb hT) hN2 (by rw [List.length_set]; exact sl) (by rw [List.getElem?_set_self (by rw [sl]; omega)]), ?_, h (fun p _ => p = .bl true) fun _ => rfl⟩
    refine ⟨fun _ _ _ _ _ z => (by cases z), fun p k' v H' _ _ r z => ?_, fun _ _ _ _ _ z => z.elim, fun _ _ _ _ _ z => z.elim⟩
    subst z
    cases r with
    | bl _ => exact hq H'
    | frz h r => cases r
end
end TL
set_option Elab.async false
set_option linter.all false
set_option maxRecDepth 100000
set_option maxHeartbeats 4000000
set_option autoImplicit false
namespace K92
open PySem
open PySem.Spec
open PyProof.Rows
open L2
open TL
def top (i : Nat) : Stmt := PySem.Challenge.pw_pricedhouses_k92_whole_known_markets.main.body.getD i (.Pass ⟨0, 0, 0, 0⟩)

/-! ### is_list -/
def st_is_list : Stmt := top 5
def N_is_list : List Str := ["thing"]
def s_is_list : CtS := ⟨N_is_list, defScope st_is_list, fun _ => true⟩
def fns_is_list : List (Str × Nat × TSp) := []
def bl_is_list : List Str := ["isinstance", "tuple", "list"]
def w_is_list : WS :=
  (wRet (w1 (wRd 0) (vIsiT ["list", "tuple"])))
theorem sc_is_list : FnScope N_is_list ["thing"] (defScope st_is_list) := ⟨rfl, rfl, rfl, by decide +kernel, rfl, by decide +kernel, by decide +kernel⟩
theorem d_is_list (a : Addr) (b : Bs) : SSs { a := a, b := b, fns := fns_is_list , bl := bl_is_list } s_is_list (defBody st_is_list) (w_is_list ) :=
  (sss_one (ss_ret (se_isiT (so_rd (i := 0) (by decide +kernel)) (sty_cons (sty_cons sty_nil (by decide +kernel) (by decide +kernel) (show bl_is_list.contains "tuple" = true by decide +kernel)) (by decide +kernel) (by decide +kernel) (show bl_is_list.contains "list" = true by decide +kernel)) (by decide +kernel) (by decide +kernel) (by decide +kernel) (show bl_is_list.contains "isinstance" = true by decide +kernel))))

/-! ### is_integer -/
def st_is_integer : Stmt := top 6
def N_is_integer : List Str := ["thing"]
def s_is_integer : CtS := ⟨N_is_integer, defScope st_is_integer, fun _ => true⟩
def fns_is_integer : List (Str × Nat × TSp) := []
def bl_is_integer : List Str := ["isinstance", "int", "bool"]
def w_is_integer : WS :=
  (wRet (wAndV (w1 (wRd 0) (vIsi "int")) (wNotV (w1 (wRd 0) (vIsi "bool")))))
theorem sc_is_integer : FnScope N_is_integer ["thing"] (defScope st_is_integer) := ⟨rfl, rfl, rfl, by decide +kernel, rfl, by decide +kernel, by decide +kernel⟩
theorem d_is_integer (a : Addr) (b : Bs) : SSs { a := a, b := b, fns := fns_is_integer , bl := bl_is_integer } s_is_integer (defBody st_is_integer) (w_is_integer ) :=
  (sss_one (ss_ret (se_and (se_isi (T := "int") (so_rd (i := 0) (by decide +kernel)) (by decide +kernel) (by decide +kernel) (by decide +kernel) (show bl_is_integer.contains "isinstance" = true by decide +kernel) (by decide +kernel) (show bl_is_integer.contains "int" = true by decide +kernel)) (se_one (se_not (se_isi (T := "bool") (so_rd (i := 0) (by decide +kernel)) (by decide +kernel) (by decide +kernel) (by decide +kernel) (show bl_is_integer.contains "isinstance" = true by decide +kernel) (by decide +kernel) (show bl_is_integer.contains "bool" = true by decide +kernel)))))))

/-! ### is_number -/
def st_is_number : Stmt := top 7
def N_is_number : List Str := ["thing"]
def s_is_number : CtS := ⟨N_is_number, defScope st_is_number, fun _ => true⟩
def fns_is_number (t_is_integer : TSp) : List (Str × Nat × TSp) := [("is_integer", 1, t_is_integer)]
def bl_is_number : List Str := []
def w_is_number (t_is_integer : TSp) : WS :=
  (wRet (wAndV (wCall 1 t_is_integer (wCons (wVar 0) wNil)) (wBool (wCmp (wRd 0) (wC (.int 0)) vGe))))
theorem sc_is_number : FnScope N_is_number ["thing"] (defScope st_is_number) := ⟨rfl, rfl, rfl, by decide +kernel, rfl, by decide +kernel, by decide +kernel⟩
theorem d_is_number (t_is_integer : TSp) (a : Addr) (b : Bs) : SSs { a := a, b := b, fns := fns_is_number t_is_integer, bl := bl_is_number } s_is_number (defBody st_is_number) (w_is_number t_is_integer) :=
  (sss_one (ss_ret (se_and (se_call 0 rfl (by decide +kernel) (sa_cons (se_var (i := 0) (by decide +kernel)) sa_nil)) (se_one (se_cmp sc_ge (so_rd (i := 0) (by decide +kernel)) (SE.o se_int))))))

/-! ### is_name -/
def st_is_name : Stmt := top 8
def N_is_name : List Str := ["thing", "letters", "sign"]
def s_is_name : CtS := ⟨N_is_name, defScope st_is_name, fun _ => true⟩
def fns_is_name : List (Str × Nat × TSp) := []
def bl_is_name : List Str := ["isinstance", "str", "len", "all"]
def w_is_name : WS :=
  (wSeq (wIf (wOr (wNot (wVal (w1 (wRd 0) (vIsi "str")))) (wNot (wCh_lt_lt (wC (.int 0)) (w1 (wRd 0) vLen) (wC (.int 13))))) (wRet (wC (.bl false))) wSkip)
  (wSeq (wAsg 1 (wC (.str "abcdefghijklmnopqrstuvwxyz")))
  (wRet (wAndV (wBool (wCmp (w2 (wRd 0) (wC (.int 0)) vIdx) (wRd 1) vIn)) (w1 (wLc (wIStr (wVar 0)) [2] (gN 2) wYes (wBool (wCmp (wRd 2) (w2 (wRd 1) (wC (.str "0123456789")) vAdd) vIn))) vAll)))))
theorem sc_is_name : FnScope N_is_name ["thing"] (defScope st_is_name) := ⟨rfl, rfl, rfl, by decide +kernel, rfl, by decide +kernel, by decide +kernel⟩
theorem d_is_name (a : Addr) (b : Bs) : SSs { a := a, b := b, fns := fns_is_name , bl := bl_is_name } s_is_name (defBody st_is_name) (w_is_name ) :=
  (sss_cons (ss_if (sw_t (sw_or (st_not (st_val (SE.o (se_isi (T := "str") (so_rd (i := 0) (by decide +kernel)) (by decide +kernel) (by decide +kernel) (by decide +kernel) (show bl_is_name.contains "isinstance" = true by decide +kernel) (by decide +kernel) (show bl_is_name.contains "str" = true by decide +kernel))))) (sw_or1 (st_not (st_ch_lt_lt (SE.o se_int) (SE.o (se_len (so_rd (i := 0) (by decide +kernel)) (by decide +kernel) (show bl_is_name.contains "len" = true by decide +kernel))) (SE.o se_int)))))) (sss_one (ss_ret se_bl)) sss_nil)
    (sss_cons (ss_asg (i := 1) se_str (by decide +kernel))
    (sss_one (ss_ret (se_and (se_cmp sc_in (SE.o (se_idx (so_rd (i := 0) (by decide +kernel)) (SE.o se_int))) (so_rd (i := 1) (by decide +kernel))) (se_one (se_all (SF.o (sf_lc [("sign", 2)]  (si_str (se_var (i := 0) (by decide +kernel))) (sg_n (i := 2) (by decide +kernel)) sts_nil (se_cmp sc_in (so_rd (i := 2) (by decide +kernel)) (SE.o (se_add (so_rd (i := 1) (by decide +kernel)) (SE.o se_str)))) (by decide +kernel))) (by decide +kernel) (show bl_is_name.contains "all" = true by decide +kernel))))))))

/-! ### is_one_of -/
def st_is_one_of : Stmt := top 9
def N_is_one_of : List Str := ["known", "thing"]
def s_is_one_of : CtS := ⟨N_is_one_of, defScope st_is_one_of, fun _ => true⟩
def fns_is_one_of : List (Str × Nat × TSp) := []
def bl_is_one_of : List Str := ["isinstance", "str"]
def w_is_one_of : WS :=
  (wRet (wAndV (w1 (wRd 1) (vIsi "str")) (wBool (wCmp (wRd 1) (wRd 0) vIn))))
theorem sc_is_one_of : FnScope N_is_one_of ["known", "thing"] (defScope st_is_one_of) := ⟨rfl, rfl, rfl, by decide +kernel, rfl, by decide +kernel, by decide +kernel⟩
theorem d_is_one_of (a : Addr) (b : Bs) : SSs { a := a, b := b, fns := fns_is_one_of , bl := bl_is_one_of } s_is_one_of (defBody st_is_one_of) (w_is_one_of ) :=
  (sss_one (ss_ret (se_and (se_isi (T := "str") (so_rd (i := 1) (by decide +kernel)) (by decide +kernel) (by decide +kernel) (by decide +kernel) (show bl_is_one_of.contains "isinstance" = true by decide +kernel) (by decide +kernel) (show bl_is_one_of.contains "str" = true by decide +kernel)) (se_one (se_cmp sc_in (so_rd (i := 1) (by decide +kernel)) (so_rd (i := 0) (by decide +kernel)))))))

/-! ### are_floors -/
def st_are_floors : Stmt := top 11
def N_are_floors : List Str := ["thing", "floor", "house"]
def s_are_floors : CtS := ⟨N_are_floors, defScope st_are_floors, fun _ => true⟩
def fns_are_floors (t_is_name t_is_number : TSp) : List (Str × Nat × TSp) := [("is_name", 1, t_is_name), ("is_number", 1, t_is_number)]
def bl_are_floors : List Str := ["isinstance", "dict", "all"]
def w_are_floors (t_is_name t_is_number : TSp) : WS :=
  (wSeq (wIf (wOr (wNot (wVal (w1 (wRd 0) (vIsi "dict")))) (wNot (wVal (w1 (wLc (wIKeys (wVar 0)) [2] (gN 2) wYes (wCall 1 t_is_name (wCons (wVar 2) wNil))) vAll)))) (wRet (wC (.bl false))) wSkip)
  (wRet (w1 (wLc (wIVals (wVar 0)) [1] (gN 1) wYes (wCall 1 t_is_number (wCons (wVar 1) wNil))) vAll)))
theorem sc_are_floors : FnScope N_are_floors ["thing"] (defScope st_are_floors) := ⟨rfl, rfl, rfl, by decide +kernel, rfl, by decide +kernel, by decide +kernel⟩
theorem d_are_floors (t_is_name t_is_number : TSp) (a : Addr) (b : Bs) : SSs { a := a, b := b, fns := fns_are_floors t_is_name t_is_number, bl := bl_are_floors } s_are_floors (defBody st_are_floors) (w_are_floors t_is_name t_is_number) :=
  (sss_cons (ss_if (sw_t (sw_or (st_not (st_val (SE.o (se_isi (T := "dict") (so_rd (i := 0) (by decide +kernel)) (by decide +kernel) (by decide +kernel) (by decide +kernel) (show bl_are_floors.contains "isinstance" = true by decide +kernel) (by decide +kernel) (show bl_are_floors.contains "dict" = true by decide +kernel))))) (sw_or1 (st_not (st_val (SE.o (se_all (SF.o (sf_lc [("house", 2)]  (si_keys (se_var (i := 0) (by decide +kernel))) (sg_n (i := 2) (by decide +kernel)) sts_nil (se_call 0 rfl (by decide +kernel) (sa_cons (se_var (i := 2) (by decide +kernel)) sa_nil)) (by decide +kernel))) (by decide +kernel) (show bl_are_floors.contains "all" = true by decide +kernel)))))))) (sss_one (ss_ret se_bl)) sss_nil)
    (sss_one (ss_ret (se_all (SF.o (sf_lc [("floor", 1)]  (si_values (se_var (i := 0) (by decide +kernel))) (sg_n (i := 1) (by decide +kernel)) sts_nil (se_call 1 rfl (by decide +kernel) (sa_cons (se_var (i := 1) (by decide +kernel)) sa_nil)) (by decide +kernel))) (by decide +kernel) (show bl_are_floors.contains "all" = true by decide +kernel)))))

/-! ### is_market -/
def st_is_market : Stmt := top 12
def N_is_market : List Str := ["thing", "wants", "worths", "floors", "buyer", "house", "worth"]
def s_is_market : CtS := ⟨N_is_market, defScope st_is_market, fun _ => true⟩
def fns_is_market (t_is_list t_are_floors t_is_name t_is_number : TSp) : List (Str × Nat × TSp) := [("is_list", 1, t_is_list), ("are_floors", 1, t_are_floors), ("is_name", 1, t_is_name), ("is_number", 1, t_is_number)]
def bl_is_market : List Str := ["len", "isinstance", "dict", "all"]
def w_is_market (t_is_list t_are_floors t_is_name t_is_number : TSp) : WS :=
  (wSeq (wIf (wOr (wNot (wVal (wCall 1 t_is_list (wCons (wVar 0) wNil)))) (wOr (wCmp (w1 (wRd 0) vLen) (wC (.int 2)) vNe) (wOr (wNot (wVal (w1 (w2 (wRd 0) (wC (.int 0)) vIdx) (vIsi "dict")))) (wNot (wVal (wCall 1 t_are_floors (wCons (w2 (wRd 0) (wC (.int 1)) vIdx) wNil))))))) (wRet (wC (.bl false))) wSkip)
  (wSeq (wAsgT (wVar 0) (gT (gsC (gN 2) (gsC (gN 3) gsN))))
  (wSeq (wIf (wOr (wNild (wRd 2)) (wNot (wVal (w1 (wLc (wIItems (wVar 2)) [4, 1] (gT (gsC (gN 4) (gsC (gN 1) gsN))) wYes (wAndV (wCall 1 t_is_name (wCons (wVar 4) wNil)) (w1 (wRd 1) (vIsi "dict")))) vAll)))) (wRet (wC (.bl false))) wSkip)
  (wSeq (wFor (wIVals (wVar 2)) (gN 1) (wIf (wNot (wVal (w1 (wLc (wIItems (wVar 1)) [5, 6] (gT (gsC (gN 5) (gsC (gN 6) gsN))) wYes (wAndV (wCall 1 t_is_name (wCons (wVar 5) wNil)) (wAndV (wBool (wCmp (wRd 5) (wRd 3) vIn)) (wCall 1 t_is_number (wCons (wVar 6) wNil))))) vAll))) (wRet (wC (.bl false))) wSkip))
  (wRet (wC (.bl true)))))))
theorem sc_is_market : FnScope N_is_market ["thing"] (defScope st_is_market) := ⟨rfl, rfl, rfl, by decide +kernel, rfl, by decide +kernel, by decide +kernel⟩
theorem d_is_market (t_is_list t_are_floors t_is_name t_is_number : TSp) (a : Addr) (b : Bs) : SSs { a := a, b := b, fns := fns_is_market t_is_list t_are_floors t_is_name t_is_number, bl := bl_is_market } s_is_market (defBody st_is_market) (w_is_market t_is_list t_are_floors t_is_name t_is_number) :=
  (sss_cons (ss_if (sw_t (sw_or (st_not (st_val (SE.o (se_call 0 rfl (by decide +kernel) (sa_cons (se_var (i := 0) (by decide +kernel)) sa_nil))))) (sw_or (st_cmp sc_ne (SE.o (se_len (so_rd (i := 0) (by decide +kernel)) (by decide +kernel) (show bl_is_market.contains "len" = true by decide +kernel))) (SE.o se_int)) (sw_or (st_not (st_val (SE.o (se_isi (T := "dict") (SE.o (se_idx (so_rd (i := 0) (by decide +kernel)) (SE.o se_int))) (by decide +kernel) (by decide +kernel) (by decide +kernel) (show bl_is_market.contains "isinstance" = true by decide +kernel) (by decide +kernel) (show bl_is_market.contains "dict" = true by decide +kernel))))) (sw_or1 (st_not (st_val (SE.o (se_call 1 rfl (by decide +kernel) (sa_cons (se_idx (so_rd (i := 0) (by decide +kernel)) (SE.o se_int)) sa_nil)))))))))) (sss_one (ss_ret se_bl)) sss_nil)
    (sss_cons (ss_asgT (se_var (i := 0) (by decide +kernel)) (sg_t (n := 2) (sgs_c (sg_n (i := 2) (by decide +kernel)) (sgs_c (sg_n (i := 3) (by decide +kernel)) sgs_n)) (hg := (gsC_len gN_ex (gsC_len gN_ex gsN_len)))))
    (sss_cons (ss_if (sw_t (sw_or (st_nild (so_rd (i := 2) (by decide +kernel))) (sw_or1 (st_not (st_val (SE.o (se_all (SF.o (sf_lc [("buyer", 4), ("wants", 1)]  (si_items (se_var (i := 2) (by decide +kernel))) (sg_t (n := 2) (sgs_c (sg_n (i := 4) (by decide +kernel)) (sgs_c (sg_n (i := 1) (by decide +kernel)) sgs_n)) (hg := (gsC_len gN_ex (gsC_len gN_ex gsN_len)))) sts_nil (se_and (se_call 2 rfl (by decide +kernel) (sa_cons (se_var (i := 4) (by decide +kernel)) sa_nil)) (se_one (se_isi (T := "dict") (so_rd (i := 1) (by decide +kernel)) (by decide +kernel) (by decide +kernel) (by decide +kernel) (show bl_is_market.contains "isinstance" = true by decide +kernel) (by decide +kernel) (show bl_is_market.contains "dict" = true by decide +kernel)))) (by decide +kernel))) (by decide +kernel) (show bl_is_market.contains "all" = true by decide +kernel)))))))) (sss_one (ss_ret se_bl)) sss_nil)
    (sss_cons (ss_for (si_values (se_var (i := 2) (by decide +kernel))) (sg_n (i := 1) (by decide +kernel)) (sss_one (ss_if (st_not (st_val (SE.o (se_all (SF.o (sf_lc [("house", 5), ("worth", 6)]  (si_items (se_var (i := 1) (by decide +kernel))) (sg_t (n := 2) (sgs_c (sg_n (i := 5) (by decide +kernel)) (sgs_c (sg_n (i := 6) (by decide +kernel)) sgs_n)) (hg := (gsC_len gN_ex (gsC_len gN_ex gsN_len)))) sts_nil (se_and (se_call 2 rfl (by decide +kernel) (sa_cons (se_var (i := 5) (by decide +kernel)) sa_nil)) (se_and (se_cmp sc_in (so_rd (i := 5) (by decide +kernel)) (so_rd (i := 3) (by decide +kernel))) (se_one (se_call 3 rfl (by decide +kernel) (sa_cons (se_var (i := 6) (by decide +kernel)) sa_nil))))) (by decide +kernel))) (by decide +kernel) (show bl_is_market.contains "all" = true by decide +kernel))))) (sss_one (ss_ret se_bl)) sss_nil)))
    (sss_one (ss_ret se_bl))))))

/-! ### checked_market -/
def st_checked_market : Stmt := top 13
def N_checked_market : List Str := ["market", "worths", "buyer", "wants", "house"]
def s_checked_market : CtS := ⟨N_checked_market, defScope st_checked_market, fun _ => true⟩
def fns_checked_market (t_is_market : TSp) : List (Str × Nat × TSp) := [("is_market", 1, t_is_market)]
def bl_checked_market : List Str := ["sorted"]
def w_checked_market (t_is_market : TSp) : WS :=
  (wSeq (wIf (wNot (wVal (wCall 1 t_is_market (wCons (wVar 0) wNil)))) (fun _ _ _ => False) wSkip)
  (wSeq (wAsgF 1 (wC (.dk [])))
  (wSeq (wFor (wILst (w1 (w2 (wRd 0) (wC (.int 0)) vIdx) vSort)) (gN 2) (wSeq (wAsg 3 (w2 (w2 (wRd 0) (wC (.int 0)) vIdx) (wRd 2) vIdx))
  (wPut 1 (wVar 2) (wDc (wILst (w1 (wRd 3) vSort)) [4] (gN 4) wYes (wVar 4) (w2 (wRd 3) (wRd 4) vIdx) (u0P (.dK []))))))
  (wFrz 1 (wRet (wTup (wCons (wVar 1) (wCons (wDc (wILst (w1 (w2 (wRd 0) (wC (.int 1)) vIdx) vSort)) [4] (gN 4) wYes (wVar 4) (w2 (w2 (wRd 0) (wC (.int 1)) vIdx) (wRd 4) vIdx) (u0P (.dK []))) wNil))))))))
theorem sc_checked_market : FnScope N_checked_market ["market"] (defScope st_checked_market) := ⟨rfl, rfl, rfl, by decide +kernel, rfl, by decide +kernel, by decide +kernel⟩
theorem d_checked_market (t_is_market : TSp) (a : Addr) (b : Bs) : SSs { a := a, b := b, fns := fns_checked_market t_is_market, bl := bl_checked_market } s_checked_market (defBody st_checked_market) (w_checked_market t_is_market) :=
  (sss_cons (ss_if (st_not (st_val (SE.o (se_call 0 rfl (by decide +kernel) (sa_cons (se_var (i := 0) (by decide +kernel)) sa_nil))))) (sss_one ss_never) sss_nil)
    (sss_cons (ss_asgF (i := 1) sf_dk (by decide +kernel))
    (sss_cons (ss_for (si_list (SF.e (sf_sorted (SE.o (se_idx (so_rd (i := 0) (by decide +kernel)) (SE.o se_int))) (by decide +kernel) (show bl_checked_market.contains "sorted" = true by decide +kernel)))) (sg_n (i := 2) (by decide +kernel)) (sss_cons (ss_asg (i := 3) (se_idx (SE.o (se_idx (so_rd (i := 0) (by decide +kernel)) (SE.o se_int))) (so_rd (i := 2) (by decide +kernel))) (by decide +kernel))
    (sss_one (ss_put (i := 1) (by decide +kernel) (se_var (i := 2) (by decide +kernel)) (SF.e (sf_dcX (.dK []) [("house", 4)] (.inl rfl)  (si_list (SF.e (sf_sorted (so_rd (i := 3) (by decide +kernel)) (by decide +kernel) (show bl_checked_market.contains "sorted" = true by decide +kernel)))) (sg_n (i := 4) (by decide +kernel)) sts_nil (se_var (i := 4) (by decide +kernel)) (se_idx (so_rd (i := 3) (by decide +kernel)) (so_rd (i := 4) (by decide +kernel))) (by decide +kernel)))))))
    (sss_one (ss_frz 1 (ss_ret (se_tup (sa_cons (se_var (i := 1) (by decide +kernel)) (sa_cons (SF.e (sf_dcX (.dK []) [("house", 4)] (.inl rfl)  (si_list (SF.e (sf_sorted (SE.o (se_idx (so_rd (i := 0) (by decide +kernel)) (SE.o se_int))) (by decide +kernel) (show bl_checked_market.contains "sorted" = true by decide +kernel)))) (sg_n (i := 4) (by decide +kernel)) sts_nil (se_var (i := 4) (by decide +kernel)) (se_idx (SE.o (se_idx (so_rd (i := 0) (by decide +kernel)) (SE.o se_int))) (so_rd (i := 4) (by decide +kernel))) (by decide +kernel))) sa_nil)))))))))

/-! ### surplus_of -/
def st_surplus_of : Stmt := top 15
def N_surplus_of : List Str := ["known", "worths", "floors", "buyer", "wants", "house", "worth"]
def s_surplus_of : CtS := ⟨N_surplus_of, defScope st_surplus_of, fun _ => true⟩
def fns_surplus_of : List (Str × Nat × TSp) := []
def bl_surplus_of : List Str := []
def w_surplus_of : WS :=
  (wSeq (wAsgT (wVar 0) (gT (gsC (gN 1) (gsC (gN 2) gsN))))
  (wRet (wDc2 (wIItems (wVar 1)) [3, 4, 5, 6] (gT (gsC (gN 3) (gsC (gN 4) gsN))) wYes (wIItems (wVar 4)) [5, 6] (gT (gsC (gN 5) (gsC (gN 6) gsN))) wYes (wTup (wCons (wVar 3) (wCons (wVar 5) wNil))) (w2 (wRd 6) (w2 (wRd 2) (wRd 5) vIdx) vSub) (u0P (.dT [])))))
theorem sc_surplus_of : FnScope N_surplus_of ["known"] (defScope st_surplus_of) := ⟨rfl, rfl, rfl, by decide +kernel, rfl, by decide +kernel, by decide +kernel⟩
theorem d_surplus_of (a : Addr) (b : Bs) : SSs { a := a, b := b, fns := fns_surplus_of , bl := bl_surplus_of } s_surplus_of (defBody st_surplus_of) (w_surplus_of ) :=
  (sss_cons (ss_asgT (se_var (i := 0) (by decide +kernel)) (sg_t (n := 2) (sgs_c (sg_n (i := 1) (by decide +kernel)) (sgs_c (sg_n (i := 2) (by decide +kernel)) sgs_n)) (hg := (gsC_len gN_ex (gsC_len gN_ex gsN_len)))))
    (sss_one (ss_ret (SF.e (sf_dc2 (.dT []) [("buyer", 3), ("wants", 4), ("house", 5), ("worth", 6)] [5, 6] (.inr rfl)  (si_items (se_var (i := 1) (by decide +kernel))) (sg_t (n := 2) (sgs_c (sg_n (i := 3) (by decide +kernel)) (sgs_c (sg_n (i := 4) (by decide +kernel)) sgs_n)) (hg := (gsC_len gN_ex (gsC_len gN_ex gsN_len)))) sts_nil (si_items (se_var (i := 4) (by decide +kernel))) (sg_t (n := 2) (sgs_c (sg_n (i := 5) (by decide +kernel)) (sgs_c (sg_n (i := 6) (by decide +kernel)) sgs_n)) (hg := (gsC_len gN_ex (gsC_len gN_ex gsN_len)))) sts_nil (se_tup (sa_cons (se_var (i := 3) (by decide +kernel)) (sa_cons (se_var (i := 5) (by decide +kernel)) sa_nil))) (se_sub (so_rd (i := 6) (by decide +kernel)) (SE.o (se_idx (so_rd (i := 2) (by decide +kernel)) (so_rd (i := 5) (by decide +kernel))))) (by decide +kernel) (by decide +kernel))))))

/-! ### sum_of -/
def st_sum_of : Stmt := top 16
def N_sum_of : List Str := ["known", "pairing", "buyer", "house"]
def s_sum_of : CtS := ⟨N_sum_of, defScope st_sum_of, fun _ => true⟩
def fns_sum_of : List (Str × Nat × TSp) := []
def bl_sum_of : List Str := ["sum"]
def w_sum_of : WS :=
  (wRet (w1 (wLc (wIItems (wVar 1)) [2, 3] (gT (gsC (gN 2) (gsC (gN 3) gsN))) (wCmp (wRd 3) (wC .non) vIsNot) (w2 (w2 (w2 (w2 (wRd 0) (wC (.int 0)) vIdx) (wRd 2) vIdx) (wRd 3) vIdx) (w2 (w2 (wRd 0) (wC (.int 1)) vIdx) (wRd 3) vIdx) vSub)) vSum))
theorem sc_sum_of : FnScope N_sum_of ["known", "pairing"] (defScope st_sum_of) := ⟨rfl, rfl, rfl, by decide +kernel, rfl, by decide +kernel, by decide +kernel⟩
theorem d_sum_of (a : Addr) (b : Bs) : SSs { a := a, b := b, fns := fns_sum_of , bl := bl_sum_of } s_sum_of (defBody st_sum_of) (w_sum_of ) :=
  (sss_one (ss_ret (se_sum (SF.o (sf_lc [("buyer", 2), ("house", 3)]  (si_items (se_var (i := 1) (by decide +kernel))) (sg_t (n := 2) (sgs_c (sg_n (i := 2) (by decide +kernel)) (sgs_c (sg_n (i := 3) (by decide +kernel)) sgs_n)) (hg := (gsC_len gN_ex (gsC_len gN_ex gsN_len)))) (sts_one (st_cmp sc_isnot (so_rd (i := 3) (by decide +kernel)) (SE.o se_non))) (se_sub (SE.o (se_idx (SE.o (se_idx (SE.o (se_idx (so_rd (i := 0) (by decide +kernel)) (SE.o se_int))) (so_rd (i := 2) (by decide +kernel)))) (so_rd (i := 3) (by decide +kernel)))) (SE.o (se_idx (SE.o (se_idx (so_rd (i := 0) (by decide +kernel)) (SE.o se_int))) (so_rd (i := 3) (by decide +kernel))))) (by decide +kernel))) (by decide +kernel) (show bl_sum_of.contains "sum" = true by decide +kernel))))

/-! ### best_way -/
def st_best_way : Stmt := top 17
def N_best_way : List Str := ["buyers", "houses", "gains", "had", "holder", "best", "ends", "turn", "free", "end", "house", "way", "buyer", "gain", "here"]
def s_best_way : CtS := ⟨N_best_way, defScope st_best_way, fun _ => true⟩
def fns_best_way : List (Str × Nat × TSp) := []
def bl_best_way : List Str := ["len", "range", "max"]
def w_best_way : WS :=
  (wSeq (wAsg 4 (wDc (wIItems (wVar 3)) [12, 10] (gT (gsC (gN 12) (gsC (gN 10) gsN))) (wCmp (wRd 10) (wC .non) vIsNot) (wVar 10) (wVar 12) (u0P (.dK []))))
  (wSeq (wAsgF 5 (wDc (wILst (wVar 0)) [12] (gN 12) (wCmp (w2 (wRd 3) (wRd 12) vIdx) (wC .non) vIs) (wVar 12) (wTup (wCons (wC (.int 0)) (wCons (wC .non) wNil))) (u0P (.dK []))))
  (wSeq (wAsgF 6 (wC (.dk [])))
  (wSeq (wFor (wIRng1 (w2 (w1 (wRd 0) vLen) (wC (.int 1)) vAdd)) (gN 7) (wFor (wIItemsT (wVar 2)) (gT (gsC (gT (gsC (gN 12) (gsC (gN 10) gsN))) (gsC (gN 13) gsN))) (wIf (wAnd (wCmp (wRd 12) (wRd 5) vIn) (wCmp (w2 (wRd 3) (wRd 12) vIdx) (wRd 10) vNe)) (wSeq (wAsg 14 (w2 (w2 (w2 (wRd 5) (wRd 12) vIdx) (wC (.int 0)) vIdx) (wRd 13) vAdd))
  (wIf (wOr (wCmp (wRd 10) (wRd 6) vNotIn) (wCmp (wRd 14) (w2 (w2 (wRd 6) (wRd 10) vIdx) (wC (.int 0)) vIdx) vGt)) (wSeq (wPut 6 (wVar 10) (wTup (wCons (wVar 14) (wCons (wVar 12) wNil))))
  (wIf (wCmp (wRd 10) (wRd 4) vIn) (wPut 5 (w2 (wRd 4) (wRd 10) vIdx) (wTup (wCons (w2 (wRd 14) (w2 (wRd 2) (wTup (wCons (w2 (wRd 4) (wRd 10) vIdx) (wCons (wVar 10) wNil))) vIdx) vSub) (wCons (wVar 10) wNil)))) wSkip)) wSkip)) wSkip)))
  (wSeq (wAsgF 8 (wLc (wILst (wVar 1)) [10] (gN 10) (wAnd (wCmp (wRd 10) (wRd 6) vIn) (wCmp (wRd 10) (wRd 4) vNotIn)) (wVar 10)))
  (wSeq (wIf (wCmp (wRd 8) (wLst wNil) vEq) (wRet (wC .non)) wSkip)
  (wSeq (wFrz 8 (wAsg 9 (wMaxKey 6 (wVar 8) (w2 (w2 (wRd 1) (wRd 0) vIdx) (wC (.int 0)) vIdx))))
  (wSeq (wPar 10 11 false true (wVar 9) (wLst wNil))
  (wSeq (wWhile (wCmp (wRd 10) (wC .non) vIsNot) (wSeq (wAsg 12 (w2 (w2 (wRd 6) (wRd 10) vIdx) (wC (.int 1)) vIdx))
  (wSeq (wApp 11 (wTup (wCons (wVar 12) (wCons (wVar 10) wNil))))
  (wAsg 10 (w2 (wRd 3) (wRd 12) vIdx)))))
  (wFrz 11 (wRet (wTup (wCons (wVar 11) (wCons (w2 (w2 (wRd 6) (wRd 9) vIdx) (wC (.int 0)) vIdx) wNil))))))))))))))
theorem sc_best_way : FnScope N_best_way ["buyers", "houses", "gains", "had"] (defScope st_best_way) := ⟨rfl, rfl, rfl, by decide +kernel, rfl, by decide +kernel, by decide +kernel⟩
theorem d_best_way (Pt : Addr) (q : Str) (a : Addr) (b : Bs) : SSs { a := a, b := b, fns := fns_best_way , bl := bl_best_way, tb := some (Pt, q) } s_best_way (defBody st_best_way) (w_best_way ) :=
  (sss_cons (ss_asgC (i := 4) (SF.e (sf_dcX (.dK []) [("buyer", 12), ("house", 10)] (.inl rfl)  (si_items (se_var (i := 3) (by decide +kernel))) (sg_t (n := 2) (sgs_c (sg_n (i := 12) (by decide +kernel)) (sgs_c (sg_n (i := 10) (by decide +kernel)) sgs_n)) (hg := (gsC_len gN_ex (gsC_len gN_ex gsN_len)))) (sts_one (st_cmp sc_isnot (so_rd (i := 10) (by decide +kernel)) (SE.o se_non))) (se_var (i := 10) (by decide +kernel)) (se_var (i := 12) (by decide +kernel)) (by decide +kernel))) (by decide +kernel) (by decide +kernel))
    (sss_cons (ss_setDcX (.dK []) [("buyer", 12)] (.inl rfl) (i := 5) (by decide +kernel) (by decide +kernel) rfl (si_list (se_var (i := 0) (by decide +kernel))) (sg_n (i := 12) (by decide +kernel)) (sts_one (st_cmp sc_is (SE.o (se_idx (so_rd (i := 3) (by decide +kernel)) (so_rd (i := 12) (by decide +kernel)))) (SE.o se_non))) (se_var (i := 12) (by decide +kernel)) (se_tup (sa_cons se_int (sa_cons se_non sa_nil))) (by decide +kernel))
    (sss_cons (ss_asgF (i := 6) sf_dk (by decide +kernel))
    (sss_cons (ss_for (si_range1 (se_add (SE.o (se_len (so_rd (i := 0) (by decide +kernel)) (by decide +kernel) (show bl_best_way.contains "len" = true by decide +kernel))) (SE.o se_int)) (by decide +kernel) (show bl_best_way.contains "range" = true by decide +kernel)) (sg_n (i := 7) (by decide +kernel)) (sss_one (ss_for (si_itemsT (se_var (i := 2) (by decide +kernel))) (sg_t (n := 2) (sgs_c (sg_t (n := 2) (sgs_c (sg_n (i := 12) (by decide +kernel)) (sgs_c (sg_n (i := 10) (by decide +kernel)) sgs_n)) (hg := (gsC_len gN_ex (gsC_len gN_ex gsN_len)))) (sgs_c (sg_n (i := 13) (by decide +kernel)) sgs_n)) (hg := (gsC_len (gT_ex (gsC_ex gN_ex (gsC_ex gN_ex gsN_ex))) (gsC_len gN_ex gsN_len)))) (sss_one (ss_if (sw_t (sw_and (st_cmp sc_in (so_rd (i := 12) (by decide +kernel)) (so_rd (i := 5) (by decide +kernel))) (sw_and1 (st_cmp sc_ne (SE.o (se_idx (so_rd (i := 3) (by decide +kernel)) (so_rd (i := 12) (by decide +kernel)))) (so_rd (i := 10) (by decide +kernel)))))) (sss_cons (ss_asg (i := 14) (se_add (SE.o (se_idx (SE.o (se_idx (so_rd (i := 5) (by decide +kernel)) (so_rd (i := 12) (by decide +kernel)))) (SE.o se_int))) (so_rd (i := 13) (by decide +kernel))) (by decide +kernel))
    (sss_one (ss_if (sw_t (sw_or (st_cmp sc_notin (so_rd (i := 10) (by decide +kernel)) (so_rd (i := 6) (by decide +kernel))) (sw_or1 (st_cmp sc_gt (so_rd (i := 14) (by decide +kernel)) (SE.o (se_idx (SE.o (se_idx (so_rd (i := 6) (by decide +kernel)) (so_rd (i := 10) (by decide +kernel)))) (SE.o se_int))))))) (sss_cons (ss_put (i := 6) (by decide +kernel) (se_var (i := 10) (by decide +kernel)) (se_tup (sa_cons (se_var (i := 14) (by decide +kernel)) (sa_cons (se_var (i := 12) (by decide +kernel)) sa_nil))))
    (sss_one (ss_if (st_cmp sc_in (so_rd (i := 10) (by decide +kernel)) (so_rd (i := 4) (by decide +kernel))) (sss_one (ss_put (i := 5) (by decide +kernel) (se_idx (so_rd (i := 4) (by decide +kernel)) (so_rd (i := 10) (by decide +kernel))) (se_tup (sa_cons (se_sub (so_rd (i := 14) (by decide +kernel)) (SE.o (se_idx (so_rd (i := 2) (by decide +kernel)) (SE.o (se_tup (sa_cons (se_idx (so_rd (i := 4) (by decide +kernel)) (so_rd (i := 10) (by decide +kernel))) (sa_cons (se_var (i := 10) (by decide +kernel)) sa_nil))))))) (sa_cons (se_var (i := 10) (by decide +kernel)) sa_nil))))) sss_nil))) sss_nil))) sss_nil)))))
    (sss_cons (ss_setLc' [("house", 10)] (i := 8) (by decide +kernel) (by decide +kernel) rfl (si_list (se_var (i := 1) (by decide +kernel))) (sg_n (i := 10) (by decide +kernel)) (sts_one (sw_t (sw_and (st_cmp sc_in (so_rd (i := 10) (by decide +kernel)) (so_rd (i := 6) (by decide +kernel))) (sw_and1 (st_cmp sc_notin (so_rd (i := 10) (by decide +kernel)) (so_rd (i := 4) (by decide +kernel))))))) (se_var (i := 10) (by decide +kernel)) (by decide +kernel))
    (sss_cons (ss_if (st_cmp sc_eq (so_rd (i := 8) (by decide +kernel)) (SF.o (sf_lst sa_nil))) (sss_one (ss_ret se_non)) sss_nil)
    (sss_cons (ss_frz 8 (ss_asg (i := 9) (se_maxKey (x := "house") (y := "ends") 6 rfl (se_var (i := 8) (by decide +kernel)) (se_idx (SE.o (se_idx (so_rd (i := 1) (by decide +kernel)) (so_rd (i := 0) (by decide +kernel)))) (SE.o se_int)) (by decide +kernel) (show bl_best_way.contains "max" = true by decide +kernel) (by decide +kernel) (by decide +kernel) (by decide +kernel)) (by decide +kernel)))
    (sss_cons (ss_par (i := 10) (j := 11) (SE.m (se_var (i := 9) (by decide +kernel))) (SF.m (sf_lst sa_nil)) (by decide +kernel) (by decide +kernel) rfl (by decide +kernel))
    (sss_cons (ss_while (st_cmp sc_isnot (so_rd (i := 10) (by decide +kernel)) (SE.o se_non)) (sss_cons (ss_asg (i := 12) (se_idx (SE.o (se_idx (so_rd (i := 6) (by decide +kernel)) (so_rd (i := 10) (by decide +kernel)))) (SE.o se_int)) (by decide +kernel))
    (sss_cons (ss_app (i := 11) (by decide +kernel) (se_tup (sa_cons (se_var (i := 12) (by decide +kernel)) (sa_cons (se_var (i := 10) (by decide +kernel)) sa_nil))))
    (sss_one (ss_asg (i := 10) (se_idx (so_rd (i := 3) (by decide +kernel)) (so_rd (i := 12) (by decide +kernel))) (by decide +kernel))))))
    (sss_one (ss_frz 11 (ss_ret (se_tup (sa_cons (se_var (i := 11) (by decide +kernel)) (sa_cons (se_idx (SE.o (se_idx (so_rd (i := 6) (by decide +kernel)) (so_rd (i := 9) (by decide +kernel)))) (SE.o se_int)) sa_nil)))))))))))))))

/-! ### best_by -/
def st_best_by : Stmt := top 18
def N_best_by : List Str := ["buyers", "houses", "gains", "had", "way", "buyer"]
def s_best_by : CtS := ⟨N_best_by, defScope st_best_by, fun _ => true⟩
def fns_best_by (t_best_way : TSp) : List (Str × Nat × TSp) := [("best_way", 4, t_best_way)]
def bl_best_by : List Str := ["dict"]
def w_best_by (t_best_way : TSp) : WS :=
  (wSeq (wPar 3 4 true false (wDc (wILst (wVar 0)) [5] (gN 5) wYes (wVar 5) (wC .non) (u0P (.dK []))) (wTup (wCons (wLst wNil) (wCons (wC (.int 1)) wNil))))
  (wSeq (wWhile (wAnd (wCmp (wRd 4) (wC .non) vIsNot) (wCmp (w2 (wRd 4) (wC (.int 1)) vIdx) (wC (.int 0)) vGt)) (wSeq (wUpd 3 (w1 (w2 (wRd 4) (wC (.int 0)) vIdx) vDict))
  (wAsg 4 (wLend 3 (wCall 4 t_best_way (wCons (wVar 0) (wCons (wVar 1) (wCons (wVar 2) (wCons (wVar 3) wNil)))))))))
  (wFrz 3 (wRet (wVar 3)))))
theorem sc_best_by : FnScope N_best_by ["buyers", "houses", "gains"] (defScope st_best_by) := ⟨rfl, rfl, rfl, by decide +kernel, rfl, by decide +kernel, by decide +kernel⟩
theorem d_best_by (t_best_way : TSp) (a : Addr) (b : Bs) : SSs { a := a, b := b, fns := fns_best_by t_best_way, bl := bl_best_by } s_best_by (defBody st_best_by) (w_best_by t_best_way) :=
  (sss_cons (ss_par (i := 3) (j := 4) (SF.m (sf_dcX (.dK []) [("buyer", 5)] (.inl rfl)  (si_list (se_var (i := 0) (by decide +kernel))) (sg_n (i := 5) (by decide +kernel)) sts_nil (se_var (i := 5) (by decide +kernel)) se_non (by decide +kernel))) (SE.m (se_tup (sa_cons (SF.e (sf_lst sa_nil)) (sa_cons se_int sa_nil)))) (by decide +kernel) (by decide +kernel) rfl (by decide +kernel))
    (sss_cons (ss_while (sw_t (sw_and (st_cmp sc_isnot (so_rd (i := 4) (by decide +kernel)) (SE.o se_non)) (sw_and1 (st_cmp sc_gt (SE.o (se_idx (so_rd (i := 4) (by decide +kernel)) (SE.o se_int))) (SE.o se_int))))) (sss_cons (ss_upd (i := 3) (by decide +kernel) (SF.e (sf_dict (SE.o (se_idx (so_rd (i := 4) (by decide +kernel)) (SE.o se_int))) (by decide +kernel) (show bl_best_by.contains "dict" = true by decide +kernel))))
    (sss_one (ss_asg (i := 4) (se_lend 3 (se_call 0 rfl (by decide +kernel) (sa_cons (se_var (i := 0) (by decide +kernel)) (sa_cons (se_var (i := 1) (by decide +kernel)) (sa_cons (se_var (i := 2) (by decide +kernel)) (sa_cons (se_var (i := 3) (by decide +kernel)) sa_nil)))))) (by decide +kernel)))))
    (sss_one (ss_frz 3 (ss_ret (se_var (i := 3) (by decide +kernel)))))))

/-! ### best_of -/
def st_best_of : Stmt := top 19
def N_best_of : List Str := ["known"]
def s_best_of : CtS := ⟨N_best_of, defScope st_best_of, fun _ => true⟩
def fns_best_of (t_surplus_of t_best_by : TSp) : List (Str × Nat × TSp) := [("surplus_of", 1, t_surplus_of), ("best_by", 3, t_best_by)]
def bl_best_of : List Str := ["list"]
def w_best_of (t_surplus_of t_best_by : TSp) : WS :=
  (wRet (wCall 3 t_best_by (wCons (w1 (w2 (wRd 0) (wC (.int 0)) vIdx) vList) (wCons (w1 (w2 (wRd 0) (wC (.int 1)) vIdx) vList) (wCons (wCall 1 t_surplus_of (wCons (wVar 0) wNil)) wNil)))))
theorem sc_best_of : FnScope N_best_of ["known"] (defScope st_best_of) := ⟨rfl, rfl, rfl, by decide +kernel, rfl, by decide +kernel, by decide +kernel⟩
theorem d_best_of (t_surplus_of t_best_by : TSp) (a : Addr) (b : Bs) : SSs { a := a, b := b, fns := fns_best_of t_surplus_of t_best_by, bl := bl_best_of } s_best_of (defBody st_best_of) (w_best_of t_surplus_of t_best_by) :=
  (sss_one (ss_ret (se_call 1 rfl (by decide +kernel) (sa_cons (SF.e (sf_list (SE.o (se_idx (so_rd (i := 0) (by decide +kernel)) (SE.o se_int))) (by decide +kernel) (show bl_best_of.contains "list" = true by decide +kernel))) (sa_cons (SF.e (sf_list (SE.o (se_idx (so_rd (i := 0) (by decide +kernel)) (SE.o se_int))) (by decide +kernel) (show bl_best_of.contains "list" = true by decide +kernel))) (sa_cons (se_call 0 rfl (by decide +kernel) (sa_cons (se_var (i := 0) (by decide +kernel)) sa_nil)) sa_nil))))))

/-! ### greatest_of -/
def st_greatest_of : Stmt := top 20
def N_greatest_of : List Str := ["known"]
def s_greatest_of : CtS := ⟨N_greatest_of, defScope st_greatest_of, fun _ => true⟩
def fns_greatest_of (t_best_of t_sum_of : TSp) : List (Str × Nat × TSp) := [("best_of", 1, t_best_of), ("sum_of", 2, t_sum_of)]
def bl_greatest_of : List Str := []
def w_greatest_of (t_best_of t_sum_of : TSp) : WS :=
  (wRet (wCall 2 t_sum_of (wCons (wVar 0) (wCons (wCall 1 t_best_of (wCons (wVar 0) wNil)) wNil))))
theorem sc_greatest_of : FnScope N_greatest_of ["known"] (defScope st_greatest_of) := ⟨rfl, rfl, rfl, by decide +kernel, rfl, by decide +kernel, by decide +kernel⟩
theorem d_greatest_of (t_best_of t_sum_of : TSp) (a : Addr) (b : Bs) : SSs { a := a, b := b, fns := fns_greatest_of t_best_of t_sum_of, bl := bl_greatest_of } s_greatest_of (defBody st_greatest_of) (w_greatest_of t_best_of t_sum_of) :=
  (sss_one (ss_ret (se_call 1 rfl (by decide +kernel) (sa_cons (se_var (i := 0) (by decide +kernel)) (sa_cons (se_call 0 rfl (by decide +kernel) (sa_cons (se_var (i := 0) (by decide +kernel)) sa_nil)) sa_nil)))))

/-! ### greatest_sum -/
def st_greatest_sum : Stmt := top 21
def N_greatest_sum : List Str := ["market"]
def s_greatest_sum : CtS := ⟨N_greatest_sum, defScope st_greatest_sum, fun _ => true⟩
def fns_greatest_sum (t_checked_market t_greatest_of : TSp) : List (Str × Nat × TSp) := [("checked_market", 1, t_checked_market), ("greatest_of", 1, t_greatest_of)]
def bl_greatest_sum : List Str := []
def w_greatest_sum (t_checked_market t_greatest_of : TSp) : WS :=
  (wRet (wCall 1 t_greatest_of (wCons (wCall 1 t_checked_market (wCons (wVar 0) wNil)) wNil)))
theorem sc_greatest_sum : FnScope N_greatest_sum ["market"] (defScope st_greatest_sum) := ⟨rfl, rfl, rfl, by decide +kernel, rfl, by decide +kernel, by decide +kernel⟩
theorem d_greatest_sum (t_checked_market t_greatest_of : TSp) (a : Addr) (b : Bs) : SSs { a := a, b := b, fns := fns_greatest_sum t_checked_market t_greatest_of, bl := bl_greatest_sum } s_greatest_sum (defBody st_greatest_sum) (w_greatest_sum t_checked_market t_greatest_of) :=
  (sss_one (ss_ret (se_call 1 rfl (by decide +kernel) (sa_cons (se_call 0 rfl (by decide +kernel) (sa_cons (se_var (i := 0) (by decide +kernel)) sa_nil)) sa_nil))))

/-! ### without_buyer -/
def st_without_buyer : Stmt := top 22
def N_without_buyer : List Str := ["known", "buyer", "one", "wants"]
def s_without_buyer : CtS := ⟨N_without_buyer, defScope st_without_buyer, fun _ => true⟩
def fns_without_buyer : List (Str × Nat × TSp) := []
def bl_without_buyer : List Str := []
def w_without_buyer : WS :=
  (wRet (wTup (wCons (wDc (wIItems (w2 (wRd 0) (wC (.int 0)) vIdx)) [2, 3] (gT (gsC (gN 2) (gsC (gN 3) gsN))) (wCmp (wRd 2) (wRd 1) vNe) (wVar 2) (wVar 3) (u0P (.dK []))) (wCons (w2 (wRd 0) (wC (.int 1)) vIdx) wNil))))
theorem sc_without_buyer : FnScope N_without_buyer ["known", "buyer"] (defScope st_without_buyer) := ⟨rfl, rfl, rfl, by decide +kernel, rfl, by decide +kernel, by decide +kernel⟩
theorem d_without_buyer (a : Addr) (b : Bs) : SSs { a := a, b := b, fns := fns_without_buyer , bl := bl_without_buyer } s_without_buyer (defBody st_without_buyer) (w_without_buyer ) :=
  (sss_one (ss_ret (se_tup (sa_cons (SF.e (sf_dcX (.dK []) [("one", 2), ("wants", 3)] (.inl rfl)  (si_items (se_idx (so_rd (i := 0) (by decide +kernel)) (SE.o se_int))) (sg_t (n := 2) (sgs_c (sg_n (i := 2) (by decide +kernel)) (sgs_c (sg_n (i := 3) (by decide +kernel)) sgs_n)) (hg := (gsC_len gN_ex (gsC_len gN_ex gsN_len)))) (sts_one (st_cmp sc_ne (so_rd (i := 2) (by decide +kernel)) (so_rd (i := 1) (by decide +kernel)))) (se_var (i := 2) (by decide +kernel)) (se_var (i := 3) (by decide +kernel)) (by decide +kernel))) (sa_cons (se_idx (so_rd (i := 0) (by decide +kernel)) (SE.o se_int)) sa_nil)))))

/-! ### without_house -/
def st_without_house : Stmt := top 23
def N_without_house : List Str := ["known", "house", "worths", "buyer", "wants", "one", "worth", "floor"]
def s_without_house : CtS := ⟨N_without_house, defScope st_without_house, fun _ => true⟩
def fns_without_house : List (Str × Nat × TSp) := []
def bl_without_house : List Str := []
def w_without_house : WS :=
  (wSeq (wAsgF 2 (wDc (wIItems (w2 (wRd 0) (wC (.int 0)) vIdx)) [3, 4] (gT (gsC (gN 3) (gsC (gN 4) gsN))) wYes (wVar 3) (wDc (wIItems (wVar 4)) [5, 6] (gT (gsC (gN 5) (gsC (gN 6) gsN))) (wCmp (wRd 5) (wRd 1) vNe) (wVar 5) (wVar 6) (u0P (.dK []))) (u0P (.dK []))))
  (wFrz 2 (wRet (wTup (wCons (wVar 2) (wCons (wDc (wIItems (w2 (wRd 0) (wC (.int 1)) vIdx)) [5, 7] (gT (gsC (gN 5) (gsC (gN 7) gsN))) (wCmp (wRd 5) (wRd 1) vNe) (wVar 5) (wVar 7) (u0P (.dK []))) wNil))))))
theorem sc_without_house : FnScope N_without_house ["known", "house"] (defScope st_without_house) := ⟨rfl, rfl, rfl, by decide +kernel, rfl, by decide +kernel, by decide +kernel⟩
theorem d_without_house (a : Addr) (b : Bs) : SSs { a := a, b := b, fns := fns_without_house , bl := bl_without_house } s_without_house (defBody st_without_house) (w_without_house ) :=
  (sss_cons (ss_setDcX (.dK []) [("buyer", 3), ("wants", 4)] (.inl rfl) (i := 2) (by decide +kernel) (by decide +kernel) rfl (si_items (se_idx (so_rd (i := 0) (by decide +kernel)) (SE.o se_int))) (sg_t (n := 2) (sgs_c (sg_n (i := 3) (by decide +kernel)) (sgs_c (sg_n (i := 4) (by decide +kernel)) sgs_n)) (hg := (gsC_len gN_ex (gsC_len gN_ex gsN_len)))) sts_nil (se_var (i := 3) (by decide +kernel)) (SF.e (sf_dcX (.dK []) [("one", 5), ("worth", 6)] (.inl rfl)  (si_items (se_var (i := 4) (by decide +kernel))) (sg_t (n := 2) (sgs_c (sg_n (i := 5) (by decide +kernel)) (sgs_c (sg_n (i := 6) (by decide +kernel)) sgs_n)) (hg := (gsC_len gN_ex (gsC_len gN_ex gsN_len)))) (sts_one (st_cmp sc_ne (so_rd (i := 5) (by decide +kernel)) (so_rd (i := 1) (by decide +kernel)))) (se_var (i := 5) (by decide +kernel)) (se_var (i := 6) (by decide +kernel)) (by decide +kernel))) (by decide +kernel))
    (sss_one (ss_frz 2 (ss_ret (se_tup (sa_cons (se_var (i := 2) (by decide +kernel)) (sa_cons (SF.e (sf_dcX (.dK []) [("one", 5), ("floor", 7)] (.inl rfl)  (si_items (se_idx (so_rd (i := 0) (by decide +kernel)) (SE.o se_int))) (sg_t (n := 2) (sgs_c (sg_n (i := 5) (by decide +kernel)) (sgs_c (sg_n (i := 7) (by decide +kernel)) sgs_n)) (hg := (gsC_len gN_ex (gsC_len gN_ex gsN_len)))) (sts_one (st_cmp sc_ne (so_rd (i := 5) (by decide +kernel)) (so_rd (i := 1) (by decide +kernel)))) (se_var (i := 5) (by decide +kernel)) (se_var (i := 7) (by decide +kernel)) (by decide +kernel))) sa_nil)))))))

/-! ### pairs_in_some -/
def st_pairs_in_some : Stmt := top 24
def N_pairs_in_some : List Str := ["known", "most", "found", "gain", "buyer", "house"]
def s_pairs_in_some : CtS := ⟨N_pairs_in_some, defScope st_pairs_in_some, fun _ => true⟩
def fns_pairs_in_some (t_greatest_of t_surplus_of t_without_buyer t_without_house : TSp) : List (Str × Nat × TSp) := [("greatest_of", 1, t_greatest_of), ("surplus_of", 1, t_surplus_of), ("without_buyer", 2, t_without_buyer), ("without_house", 2, t_without_house)]
def bl_pairs_in_some : List Str := []
def w_pairs_in_some (t_greatest_of t_surplus_of t_without_buyer t_without_house : TSp) : WS :=
  (wSeq (wPar 1 2 false true (wCall 1 t_greatest_of (wCons (wVar 0) wNil)) (wLst wNil))
  (wSeq (wFor (wIItemsT (wCall 1 t_surplus_of (wCons (wVar 0) wNil))) (gT (gsC (gT (gsC (gN 4) (gsC (gN 5) gsN))) (gsC (gN 3) gsN))) (wIf (wCmp (w2 (wCall 1 t_greatest_of (wCons (wCall 2 t_without_house (wCons (wCall 2 t_without_buyer (wCons (wVar 0) (wCons (wVar 4) wNil))) (wCons (wVar 5) wNil))) wNil)) (wRd 3) vAdd) (wRd 1) vEq) (wApp 2 (wTup (wCons (wVar 4) (wCons (wVar 5) wNil)))) wSkip))
  (wFrz 2 (wRet (wVar 2)))))
theorem sc_pairs_in_some : FnScope N_pairs_in_some ["known"] (defScope st_pairs_in_some) := ⟨rfl, rfl, rfl, by decide +kernel, rfl, by decide +kernel, by decide +kernel⟩
theorem d_pairs_in_some (t_greatest_of t_surplus_of t_without_buyer t_without_house : TSp) (a : Addr) (b : Bs) : SSs { a := a, b := b, fns := fns_pairs_in_some t_greatest_of t_surplus_of t_without_buyer t_without_house, bl := bl_pairs_in_some } s_pairs_in_some (defBody st_pairs_in_some) (w_pairs_in_some t_greatest_of t_surplus_of t_without_buyer t_without_house) :=
  (sss_cons (ss_par (i := 1) (j := 2) (SE.m (se_call 0 rfl (by decide +kernel) (sa_cons (se_var (i := 0) (by decide +kernel)) sa_nil))) (SF.m (sf_lst sa_nil)) (by decide +kernel) (by decide +kernel) rfl (by decide +kernel))
    (sss_cons (ss_for (si_itemsT (se_call 1 rfl (by decide +kernel) (sa_cons (se_var (i := 0) (by decide +kernel)) sa_nil))) (sg_t (n := 2) (sgs_c (sg_t (n := 2) (sgs_c (sg_n (i := 4) (by decide +kernel)) (sgs_c (sg_n (i := 5) (by decide +kernel)) sgs_n)) (hg := (gsC_len gN_ex (gsC_len gN_ex gsN_len)))) (sgs_c (sg_n (i := 3) (by decide +kernel)) sgs_n)) (hg := (gsC_len (gT_ex (gsC_ex gN_ex (gsC_ex gN_ex gsN_ex))) (gsC_len gN_ex gsN_len)))) (sss_one (ss_if (st_cmp sc_eq (SE.o (se_add (SE.o (se_call 0 rfl (by decide +kernel) (sa_cons (se_call 3 rfl (by decide +kernel) (sa_cons (se_call 2 rfl (by decide +kernel) (sa_cons (se_var (i := 0) (by decide +kernel)) (sa_cons (se_var (i := 4) (by decide +kernel)) sa_nil))) (sa_cons (se_var (i := 5) (by decide +kernel)) sa_nil))) sa_nil))) (so_rd (i := 3) (by decide +kernel)))) (so_rd (i := 1) (by decide +kernel))) (sss_one (ss_app (i := 2) (by decide +kernel) (se_tup (sa_cons (se_var (i := 4) (by decide +kernel)) (sa_cons (se_var (i := 5) (by decide +kernel)) sa_nil))))) sss_nil)))
    (sss_one (ss_frz 2 (ss_ret (se_var (i := 2) (by decide +kernel)))))))

/-! ### in_some -/
def st_in_some : Stmt := top 25
def N_in_some : List Str := ["market"]
def s_in_some : CtS := ⟨N_in_some, defScope st_in_some, fun _ => true⟩
def fns_in_some (t_checked_market t_pairs_in_some : TSp) : List (Str × Nat × TSp) := [("checked_market", 1, t_checked_market), ("pairs_in_some", 1, t_pairs_in_some)]
def bl_in_some : List Str := []
def w_in_some (t_checked_market t_pairs_in_some : TSp) : WS :=
  (wRet (wCall 1 t_pairs_in_some (wCons (wCall 1 t_checked_market (wCons (wVar 0) wNil)) wNil)))
theorem sc_in_some : FnScope N_in_some ["market"] (defScope st_in_some) := ⟨rfl, rfl, rfl, by decide +kernel, rfl, by decide +kernel, by decide +kernel⟩
theorem d_in_some (t_checked_market t_pairs_in_some : TSp) (a : Addr) (b : Bs) : SSs { a := a, b := b, fns := fns_in_some t_checked_market t_pairs_in_some, bl := bl_in_some } s_in_some (defBody st_in_some) (w_in_some t_checked_market t_pairs_in_some) :=
  (sss_one (ss_ret (se_call 1 rfl (by decide +kernel) (sa_cons (se_call 0 rfl (by decide +kernel) (sa_cons (se_var (i := 0) (by decide +kernel)) sa_nil)) sa_nil))))

/-! ### buyer_margin -/
def st_buyer_margin : Stmt := top 26
def N_buyer_margin : List Str := ["market", "buyer", "known"]
def s_buyer_margin : CtS := ⟨N_buyer_margin, defScope st_buyer_margin, fun _ => true⟩
def fns_buyer_margin (t_checked_market t_is_one_of t_greatest_of t_without_buyer : TSp) : List (Str × Nat × TSp) := [("checked_market", 1, t_checked_market), ("is_one_of", 2, t_is_one_of), ("greatest_of", 1, t_greatest_of), ("without_buyer", 2, t_without_buyer)]
def bl_buyer_margin : List Str := []
def w_buyer_margin (t_checked_market t_is_one_of t_greatest_of t_without_buyer : TSp) : WS :=
  (wSeq (wAsg 2 (wCall 1 t_checked_market (wCons (wVar 0) wNil)))
  (wSeq (wIf (wNot (wVal (wCall 2 t_is_one_of (wCons (w2 (wRd 2) (wC (.int 0)) vIdx) (wCons (wVar 1) wNil))))) (fun _ _ _ => False) wSkip)
  (wRet (w2 (wCall 1 t_greatest_of (wCons (wVar 2) wNil)) (wCall 1 t_greatest_of (wCons (wCall 2 t_without_buyer (wCons (wVar 2) (wCons (wVar 1) wNil))) wNil)) vSub))))
theorem sc_buyer_margin : FnScope N_buyer_margin ["market", "buyer"] (defScope st_buyer_margin) := ⟨rfl, rfl, rfl, by decide +kernel, rfl, by decide +kernel, by decide +kernel⟩
theorem d_buyer_margin (t_checked_market t_is_one_of t_greatest_of t_without_buyer : TSp) (a : Addr) (b : Bs) : SSs { a := a, b := b, fns := fns_buyer_margin t_checked_market t_is_one_of t_greatest_of t_without_buyer, bl := bl_buyer_margin } s_buyer_margin (defBody st_buyer_margin) (w_buyer_margin t_checked_market t_is_one_of t_greatest_of t_without_buyer) :=
  (sss_cons (ss_asg (i := 2) (se_call 0 rfl (by decide +kernel) (sa_cons (se_var (i := 0) (by decide +kernel)) sa_nil)) (by decide +kernel))
    (sss_cons (ss_if (st_not (st_val (SE.o (se_call 1 rfl (by decide +kernel) (sa_cons (se_idx (so_rd (i := 2) (by decide +kernel)) (SE.o se_int)) (sa_cons (se_var (i := 1) (by decide +kernel)) sa_nil)))))) (sss_one ss_never) sss_nil)
    (sss_one (ss_ret (se_sub (SE.o (se_call 2 rfl (by decide +kernel) (sa_cons (se_var (i := 2) (by decide +kernel)) sa_nil))) (SE.o (se_call 2 rfl (by decide +kernel) (sa_cons (se_call 3 rfl (by decide +kernel) (sa_cons (se_var (i := 2) (by decide +kernel)) (sa_cons (se_var (i := 1) (by decide +kernel)) sa_nil))) sa_nil))))))))

/-! ### least_of -/
def st_least_of : Stmt := top 28
def N_least_of : List Str := ["known", "worths", "prices", "had", "is_new", "buyer", "wants", "mine", "gain", "house", "worth", "floor"]
def s_least_of : CtS := ⟨N_least_of, defScope st_least_of, fun _ => true⟩
def fns_least_of (t_best_of : TSp) : List (Str × Nat × TSp) := [("best_of", 1, t_best_of)]
def bl_least_of : List Str := []
def w_least_of (t_best_of : TSp) : WS :=
  (wSeq (wPar 1 2 false true (w2 (wRd 0) (wC (.int 0)) vIdx) (wDc (wIItems (w2 (wRd 0) (wC (.int 1)) vIdx)) [9, 11] (gT (gsC (gN 9) (gsC (gN 11) gsN))) wYes (wVar 9) (wVar 11) (u0P (.dK []))))
  (wSeq (wPar 3 4 false false (wCall 1 t_best_of (wCons (wVar 0) wNil)) (wC (.bl true)))
  (wSeq (wWhile (wVal (wRd 4)) (wSeq (wAsg 4 (wC (.bl false)))
  (wFor (wIItems (wVar 1)) (gT (gsC (gN 5) (gsC (gN 6) gsN))) (wSeq (wAsg 7 (w2 (wRd 3) (wRd 5) vIdx))
  (wSeq (wAsg 8 (wIte (wCmp (wRd 7) (wC .non) vIs) (wC (.int 0)) (w2 (w2 (wRd 6) (wRd 7) vIdx) (w2 (wRd 2) (wRd 7) vIdx) vSub)))
  (wFor (wIItems (wVar 6)) (gT (gsC (gN 9) (gsC (gN 10) gsN))) (wIf (wAnd (wCmp (wRd 9) (wRd 7) vNe) (wCmp (w2 (wRd 2) (wRd 9) vIdx) (w2 (wRd 10) (wRd 8) vSub) vLt)) (wSeq (wPut 2 (wVar 9) (w2 (wRd 10) (wRd 8) vSub))
  (wAsg 4 (wC (.bl true)))) wSkip)))))))
  (wFrz 2 (wRet (wVar 2))))))
theorem sc_least_of : FnScope N_least_of ["known"] (defScope st_least_of) := ⟨rfl, rfl, rfl, by decide +kernel, rfl, by decide +kernel, by decide +kernel⟩
theorem d_least_of (t_best_of : TSp) (a : Addr) (b : Bs) : SSs { a := a, b := b, fns := fns_least_of t_best_of, bl := bl_least_of } s_least_of (defBody st_least_of) (w_least_of t_best_of) :=
  (sss_cons (ss_par (i := 1) (j := 2) (SE.m (se_idx (so_rd (i := 0) (by decide +kernel)) (SE.o se_int))) (SF.m (sf_dcX (.dK []) [("house", 9), ("floor", 11)] (.inl rfl)  (si_items (se_idx (so_rd (i := 0) (by decide +kernel)) (SE.o se_int))) (sg_t (n := 2) (sgs_c (sg_n (i := 9) (by decide +kernel)) (sgs_c (sg_n (i := 11) (by decide +kernel)) sgs_n)) (hg := (gsC_len gN_ex (gsC_len gN_ex gsN_len)))) sts_nil (se_var (i := 9) (by decide +kernel)) (se_var (i := 11) (by decide +kernel)) (by decide +kernel))) (by decide +kernel) (by decide +kernel) rfl (by decide +kernel))
    (sss_cons (ss_par (i := 3) (j := 4) (SE.m (se_call 0 rfl (by decide +kernel) (sa_cons (se_var (i := 0) (by decide +kernel)) sa_nil))) (SE.m se_bl) (by decide +kernel) (by decide +kernel) rfl (by decide +kernel))
    (sss_cons (ss_while (st_val (so_rd (i := 4) (by decide +kernel))) (sss_cons (ss_asg (i := 4) se_bl (by decide +kernel))
    (sss_one (ss_for (si_items (se_var (i := 1) (by decide +kernel))) (sg_t (n := 2) (sgs_c (sg_n (i := 5) (by decide +kernel)) (sgs_c (sg_n (i := 6) (by decide +kernel)) sgs_n)) (hg := (gsC_len gN_ex (gsC_len gN_ex gsN_len)))) (sss_cons (ss_asg (i := 7) (se_idx (so_rd (i := 3) (by decide +kernel)) (so_rd (i := 5) (by decide +kernel))) (by decide +kernel))
    (sss_cons (ss_asg (i := 8) (se_ite (st_cmp sc_is (so_rd (i := 7) (by decide +kernel)) (SE.o se_non)) se_int (se_sub (SE.o (se_idx (so_rd (i := 6) (by decide +kernel)) (so_rd (i := 7) (by decide +kernel)))) (SE.o (se_idx (so_rd (i := 2) (by decide +kernel)) (so_rd (i := 7) (by decide +kernel)))))) (by decide +kernel))
    (sss_one (ss_for (si_items (se_var (i := 6) (by decide +kernel))) (sg_t (n := 2) (sgs_c (sg_n (i := 9) (by decide +kernel)) (sgs_c (sg_n (i := 10) (by decide +kernel)) sgs_n)) (hg := (gsC_len gN_ex (gsC_len gN_ex gsN_len)))) (sss_one (ss_if (sw_t (sw_and (st_cmp sc_ne (so_rd (i := 9) (by decide +kernel)) (so_rd (i := 7) (by decide +kernel))) (sw_and1 (st_cmp sc_lt (SE.o (se_idx (so_rd (i := 2) (by decide +kernel)) (so_rd (i := 9) (by decide +kernel)))) (SE.o (se_sub (so_rd (i := 10) (by decide +kernel)) (so_rd (i := 8) (by decide +kernel)))))))) (sss_cons (ss_put (i := 2) (by decide +kernel) (se_var (i := 9) (by decide +kernel)) (se_sub (so_rd (i := 10) (by decide +kernel)) (so_rd (i := 8) (by decide +kernel))))
    (sss_one (ss_asg (i := 4) se_bl (by decide +kernel)))) sss_nil))))))))))
    (sss_one (ss_frz 2 (ss_ret (se_var (i := 2) (by decide +kernel))))))))

/-! ### greatest_by -/
def st_greatest_by : Stmt := top 29
def N_greatest_by : List Str := ["known", "had", "prices", "is_new", "buyer", "house", "mine", "floor", "worth"]
def s_greatest_by : CtS := ⟨N_greatest_by, defScope st_greatest_by, fun _ => true⟩
def fns_greatest_by (t_best_of : TSp) : List (Str × Nat × TSp) := [("best_of", 1, t_best_of)]
def bl_greatest_by : List Str := []
def w_greatest_by (t_best_of : TSp) : WS :=
  (wSeq (wAsg 1 (wCall 1 t_best_of (wCons (wVar 0) wNil)))
  (wSeq (wAsgF 2 (wDc (wIItems (w2 (wRd 0) (wC (.int 1)) vIdx)) [5, 7] (gT (gsC (gN 5) (gsC (gN 7) gsN))) wYes (wVar 5) (wVar 7) (u0P (.dK []))))
  (wSeq (wFor (wIItems (wVar 1)) (gT (gsC (gN 4) (gsC (gN 5) gsN))) (wIf (wCmp (wRd 5) (wC .non) vIsNot) (wPut 2 (wVar 5) (w2 (w2 (w2 (wRd 0) (wC (.int 0)) vIdx) (wRd 4) vIdx) (wRd 5) vIdx)) wSkip))
  (wSeq (wAsg 3 (wC (.bl true)))
  (wSeq (wWhile (wVal (wRd 3)) (wSeq (wAsg 3 (wC (.bl false)))
  (wFor (wIItems (wVar 1)) (gT (gsC (gN 4) (gsC (gN 6) gsN))) (wFor (wIItems (w2 (w2 (wRd 0) (wC (.int 0)) vIdx) (wRd 4) vIdx)) (gT (gsC (gN 5) (gsC (gN 8) gsN))) (wIf (wAnd (wCmp (wRd 6) (wC .non) vIsNot) (wCmp (w2 (wRd 2) (wRd 6) vIdx) (w2 (w2 (w2 (wRd 2) (wRd 5) vIdx) (w2 (w2 (w2 (wRd 0) (wC (.int 0)) vIdx) (wRd 4) vIdx) (wRd 6) vIdx) vAdd) (wRd 8) vSub) vGt)) (wSeq (wPut 2 (wVar 6) (w2 (w2 (w2 (wRd 2) (wRd 5) vIdx) (w2 (w2 (w2 (wRd 0) (wC (.int 0)) vIdx) (wRd 4) vIdx) (wRd 6) vIdx) vAdd) (wRd 8) vSub))
  (wAsg 3 (wC (.bl true)))) wSkip)))))
  (wFrz 2 (wRet (wVar 2))))))))
theorem sc_greatest_by : FnScope N_greatest_by ["known"] (defScope st_greatest_by) := ⟨rfl, rfl, rfl, by decide +kernel, rfl, by decide +kernel, by decide +kernel⟩
theorem d_greatest_by (t_best_of : TSp) (a : Addr) (b : Bs) : SSs { a := a, b := b, fns := fns_greatest_by t_best_of, bl := bl_greatest_by } s_greatest_by (defBody st_greatest_by) (w_greatest_by t_best_of) :=
  (sss_cons (ss_asg (i := 1) (se_call 0 rfl (by decide +kernel) (sa_cons (se_var (i := 0) (by decide +kernel)) sa_nil)) (by decide +kernel))
    (sss_cons (ss_setDcX (.dK []) [("house", 5), ("floor", 7)] (.inl rfl) (i := 2) (by decide +kernel) (by decide +kernel) rfl (si_items (se_idx (so_rd (i := 0) (by decide +kernel)) (SE.o se_int))) (sg_t (n := 2) (sgs_c (sg_n (i := 5) (by decide +kernel)) (sgs_c (sg_n (i := 7) (by decide +kernel)) sgs_n)) (hg := (gsC_len gN_ex (gsC_len gN_ex gsN_len)))) sts_nil (se_var (i := 5) (by decide +kernel)) (se_var (i := 7) (by decide +kernel)) (by decide +kernel))
    (sss_cons (ss_for (si_items (se_var (i := 1) (by decide +kernel))) (sg_t (n := 2) (sgs_c (sg_n (i := 4) (by decide +kernel)) (sgs_c (sg_n (i := 5) (by decide +kernel)) sgs_n)) (hg := (gsC_len gN_ex (gsC_len gN_ex gsN_len)))) (sss_one (ss_if (st_cmp sc_isnot (so_rd (i := 5) (by decide +kernel)) (SE.o se_non)) (sss_one (ss_put (i := 2) (by decide +kernel) (se_var (i := 5) (by decide +kernel)) (se_idx (SE.o (se_idx (SE.o (se_idx (so_rd (i := 0) (by decide +kernel)) (SE.o se_int))) (so_rd (i := 4) (by decide +kernel)))) (so_rd (i := 5) (by decide +kernel))))) sss_nil)))
    (sss_cons (ss_asg (i := 3) se_bl (by decide +kernel))
    (sss_cons (ss_while (st_val (so_rd (i := 3) (by decide +kernel))) (sss_cons (ss_asg (i := 3) se_bl (by decide +kernel))
    (sss_one (ss_for (si_items (se_var (i := 1) (by decide +kernel))) (sg_t (n := 2) (sgs_c (sg_n (i := 4) (by decide +kernel)) (sgs_c (sg_n (i := 6) (by decide +kernel)) sgs_n)) (hg := (gsC_len gN_ex (gsC_len gN_ex gsN_len)))) (sss_one (ss_for (si_items (se_idx (SE.o (se_idx (so_rd (i := 0) (by decide +kernel)) (SE.o se_int))) (so_rd (i := 4) (by decide +kernel)))) (sg_t (n := 2) (sgs_c (sg_n (i := 5) (by decide +kernel)) (sgs_c (sg_n (i := 8) (by decide +kernel)) sgs_n)) (hg := (gsC_len gN_ex (gsC_len gN_ex gsN_len)))) (sss_one (ss_if (sw_t (sw_and (st_cmp sc_isnot (so_rd (i := 6) (by decide +kernel)) (SE.o se_non)) (sw_and1 (st_cmp sc_gt (SE.o (se_idx (so_rd (i := 2) (by decide +kernel)) (so_rd (i := 6) (by decide +kernel)))) (SE.o (se_sub (SE.o (se_add (SE.o (se_idx (so_rd (i := 2) (by decide +kernel)) (so_rd (i := 5) (by decide +kernel)))) (SE.o (se_idx (SE.o (se_idx (SE.o (se_idx (so_rd (i := 0) (by decide +kernel)) (SE.o se_int))) (so_rd (i := 4) (by decide +kernel)))) (so_rd (i := 6) (by decide +kernel)))))) (so_rd (i := 8) (by decide +kernel)))))))) (sss_cons (ss_put (i := 2) (by decide +kernel) (se_var (i := 6) (by decide +kernel)) (se_sub (SE.o (se_add (SE.o (se_idx (so_rd (i := 2) (by decide +kernel)) (so_rd (i := 5) (by decide +kernel)))) (SE.o (se_idx (SE.o (se_idx (SE.o (se_idx (so_rd (i := 0) (by decide +kernel)) (SE.o se_int))) (so_rd (i := 4) (by decide +kernel)))) (so_rd (i := 6) (by decide +kernel)))))) (so_rd (i := 8) (by decide +kernel))))
    (sss_one (ss_asg (i := 3) se_bl (by decide +kernel)))) sss_nil))))))))
    (sss_one (ss_frz 2 (ss_ret (se_var (i := 2) (by decide +kernel))))))))))

/-! ### least_prices -/
def st_least_prices : Stmt := top 31
def N_least_prices : List Str := ["market"]
def s_least_prices : CtS := ⟨N_least_prices, defScope st_least_prices, fun _ => true⟩
def fns_least_prices (t_checked_market t_least_of : TSp) : List (Str × Nat × TSp) := [("checked_market", 1, t_checked_market), ("least_of", 1, t_least_of)]
def bl_least_prices : List Str := []
def w_least_prices (t_checked_market t_least_of : TSp) : WS :=
  (wRet (wCall 1 t_least_of (wCons (wCall 1 t_checked_market (wCons (wVar 0) wNil)) wNil)))
theorem sc_least_prices : FnScope N_least_prices ["market"] (defScope st_least_prices) := ⟨rfl, rfl, rfl, by decide +kernel, rfl, by decide +kernel, by decide +kernel⟩
theorem d_least_prices (t_checked_market t_least_of : TSp) (a : Addr) (b : Bs) : SSs { a := a, b := b, fns := fns_least_prices t_checked_market t_least_of, bl := bl_least_prices } s_least_prices (defBody st_least_prices) (w_least_prices t_checked_market t_least_of) :=
  (sss_one (ss_ret (se_call 1 rfl (by decide +kernel) (sa_cons (se_call 0 rfl (by decide +kernel) (sa_cons (se_var (i := 0) (by decide +kernel)) sa_nil)) sa_nil))))

/-! ### greatest_prices -/
def st_greatest_prices : Stmt := top 32
def N_greatest_prices : List Str := ["market"]
def s_greatest_prices : CtS := ⟨N_greatest_prices, defScope st_greatest_prices, fun _ => true⟩
def fns_greatest_prices (t_checked_market t_greatest_by : TSp) : List (Str × Nat × TSp) := [("checked_market", 1, t_checked_market), ("greatest_by", 1, t_greatest_by)]
def bl_greatest_prices : List Str := []
def w_greatest_prices (t_checked_market t_greatest_by : TSp) : WS :=
  (wRet (wCall 1 t_greatest_by (wCons (wCall 1 t_checked_market (wCons (wVar 0) wNil)) wNil)))
theorem sc_greatest_prices : FnScope N_greatest_prices ["market"] (defScope st_greatest_prices) := ⟨rfl, rfl, rfl, by decide +kernel, rfl, by decide +kernel, by decide +kernel⟩
theorem d_greatest_prices (t_checked_market t_greatest_by : TSp) (a : Addr) (b : Bs) : SSs { a := a, b := b, fns := fns_greatest_prices t_checked_market t_greatest_by, bl := bl_greatest_prices } s_greatest_prices (defBody st_greatest_prices) (w_greatest_prices t_checked_market t_greatest_by) :=
  (sss_one (ss_ret (se_call 1 rfl (by decide +kernel) (sa_cons (se_call 0 rfl (by decide +kernel) (sa_cons (se_var (i := 0) (by decide +kernel)) sa_nil)) sa_nil))))

/-! ### all_best -/
def st_all_best : Stmt := top 34
def N_all_best : List Str := ["known", "rows", "most", "buyer", "wants", "later", "row", "house"]
def s_all_best : CtS := ⟨N_all_best, defScope st_all_best, fun _ => true⟩
def fns_all_best (t_greatest_of t_sum_of : TSp) : List (Str × Nat × TSp) := [("greatest_of", 1, t_greatest_of), ("sum_of", 2, t_sum_of)]
def bl_all_best : List Str := []
def w_all_best (t_greatest_of t_sum_of : TSp) : WS :=
  (wSeq (wAsg 1 (wLst (wCons (wC (.dk [])) wNil)))
  (wSeq (wFor (wIItems (w2 (wRd 0) (wC (.int 0)) vIdx)) (gT (gsC (gN 3) (gsC (gN 4) gsN))) (wSeq (wAsgF 5 (wLst wNil))
  (wSeq (wFor (wILst (wVar 1)) (gN 6) (wSeq (wApp 5 (wDstar (wVar 6) (wVar 3) (wC .non)))
  (wExt 5 (wLc (wIKeys (wVar 4)) [7] (gN 7) (wCmp (wVar 7) (wRd 6) vNotIn_values) (wDstar (wVar 6) (wVar 3) (wVar 7))))))
  (wFrz 5 (wAsg 1 (wVar 5))))))
  (wSeq (wAsg 2 (wCall 1 t_greatest_of (wCons (wVar 0) wNil)))
  (wRet (wLc (wILst (wVar 1)) [6] (gN 6) (wCmp (wCall 2 t_sum_of (wCons (wVar 0) (wCons (wVar 6) wNil))) (wRd 2) vEq) (wVar 6))))))
theorem sc_all_best : FnScope N_all_best ["known"] (defScope st_all_best) := ⟨rfl, rfl, rfl, by decide +kernel, rfl, by decide +kernel, by decide +kernel⟩
theorem d_all_best (t_greatest_of t_sum_of : TSp) (a : Addr) (b : Bs) : SSs { a := a, b := b, fns := fns_all_best t_greatest_of t_sum_of, bl := bl_all_best } s_all_best (defBody st_all_best) (w_all_best t_greatest_of t_sum_of) :=
  (sss_cons (ss_asg (i := 1) (SF.e (sf_lst (sa_cons (SF.e sf_dk) sa_nil))) (by decide +kernel))
    (sss_cons (ss_for (si_items (se_idx (so_rd (i := 0) (by decide +kernel)) (SE.o se_int))) (sg_t (n := 2) (sgs_c (sg_n (i := 3) (by decide +kernel)) (sgs_c (sg_n (i := 4) (by decide +kernel)) sgs_n)) (hg := (gsC_len gN_ex (gsC_len gN_ex gsN_len)))) (sss_cons (ss_asgF (i := 5) (sf_lst sa_nil) (by decide +kernel))
    (sss_cons (ss_for (si_list (se_var (i := 1) (by decide +kernel))) (sg_n (i := 6) (by decide +kernel)) (sss_cons (ss_app (i := 5) (by decide +kernel) (SF.e (sf_dstar (se_var (i := 6) (by decide +kernel)) (se_var (i := 3) (by decide +kernel)) se_non)))
    (sss_one (ss_ext (i := 5) (by decide +kernel) (SF.e (sf_lc [("house", 7)]  (si_keys (se_var (i := 4) (by decide +kernel))) (sg_n (i := 7) (by decide +kernel)) (sts_one (st_notin_values (se_var (i := 7) (by decide +kernel)) (so_rd (i := 6) (by decide +kernel)))) (SF.e (sf_dstar (se_var (i := 6) (by decide +kernel)) (se_var (i := 3) (by decide +kernel)) (se_var (i := 7) (by decide +kernel)))) (by decide +kernel)))))))
    (sss_one (ss_frz 5 (ss_asg (i := 1) (se_var (i := 5) (by decide +kernel)) (by decide +kernel)))))))
    (sss_cons (ss_asg (i := 2) (se_call 0 rfl (by decide +kernel) (sa_cons (se_var (i := 0) (by decide +kernel)) sa_nil)) (by decide +kernel))
    (sss_one (ss_ret (SF.e (sf_lc [("row", 6)]  (si_list (se_var (i := 1) (by decide +kernel))) (sg_n (i := 6) (by decide +kernel)) (sts_one (st_cmp sc_eq (SE.o (se_call 1 rfl (by decide +kernel) (sa_cons (se_var (i := 0) (by decide +kernel)) (sa_cons (se_var (i := 6) (by decide +kernel)) sa_nil)))) (so_rd (i := 2) (by decide +kernel)))) (se_var (i := 6) (by decide +kernel)) (by decide +kernel))))))))

/-! ### best_count -/
def st_best_count : Stmt := top 35
def N_best_count : List Str := ["market"]
def s_best_count : CtS := ⟨N_best_count, defScope st_best_count, fun _ => true⟩
def fns_best_count (t_checked_market t_all_best : TSp) : List (Str × Nat × TSp) := [("checked_market", 1, t_checked_market), ("all_best", 1, t_all_best)]
def bl_best_count : List Str := ["len"]
def w_best_count (t_checked_market t_all_best : TSp) : WS :=
  (wRet (w1 (wCall 1 t_all_best (wCons (wCall 1 t_checked_market (wCons (wVar 0) wNil)) wNil)) vLen))
theorem sc_best_count : FnScope N_best_count ["market"] (defScope st_best_count) := ⟨rfl, rfl, rfl, by decide +kernel, rfl, by decide +kernel, by decide +kernel⟩
theorem d_best_count (t_checked_market t_all_best : TSp) (a : Addr) (b : Bs) : SSs { a := a, b := b, fns := fns_best_count t_checked_market t_all_best, bl := bl_best_count } s_best_count (defBody st_best_count) (w_best_count t_checked_market t_all_best) :=
  (sss_one (ss_ret (se_len (SE.o (se_call 1 rfl (by decide +kernel) (sa_cons (se_call 0 rfl (by decide +kernel) (sa_cons (se_var (i := 0) (by decide +kernel)) sa_nil)) sa_nil))) (by decide +kernel) (show bl_best_count.contains "len" = true by decide +kernel))))

/-! ### _law_pick -/
def st__law_pick : Stmt := top 39
def N__law_pick : List Str := ["stream", "some"]
def s__law_pick : CtS := ⟨N__law_pick, defScope st__law_pick, fun _ => true⟩
def fns__law_pick (t__law_draw : TSp) : List (Str × Nat × TSp) := [("_law_draw", 2, t__law_draw)]
def bl__law_pick : List Str := ["len"]
def w__law_pick (t__law_draw : TSp) : WS :=
  (wRet (w2 (wRd 1) (wCall 2 t__law_draw (wCons (wVar 0) (wCons (w1 (wRd 1) vLen) wNil))) vIdx))
theorem sc__law_pick : FnScope N__law_pick ["stream", "some"] (defScope st__law_pick) := ⟨rfl, rfl, rfl, by decide +kernel, rfl, by decide +kernel, by decide +kernel⟩
theorem d__law_pick (t__law_draw : TSp) (a : Addr) (b : Bs) : SSs { a := a, b := b, fns := fns__law_pick t__law_draw, bl := bl__law_pick } s__law_pick (defBody st__law_pick) (w__law_pick t__law_draw) :=
  (sss_one (ss_ret (se_idx (so_rd (i := 1) (by decide +kernel)) (SE.o (se_call 0 rfl (by decide +kernel) (sa_cons (se_var (i := 0) (by decide +kernel)) (sa_cons (se_len (so_rd (i := 1) (by decide +kernel)) (by decide +kernel) (show bl__law_pick.contains "len" = true by decide +kernel)) sa_nil)))))))

/-! ### _law_copied -/
def st__law_copied : Stmt := top 40
def N__law_copied : List Str := ["thing", "found", "part", "key"]
def s__law_copied : CtS := ⟨N__law_copied, defScope st__law_copied, fun _ => true⟩
def fns__law_copied (t__law_copied : TSp) : List (Str × Nat × TSp) := [("_law_copied", 1, t__law_copied)]
def bl__law_copied : List Str := ["isinstance", "dict", "tuple", "list"]
def w__law_copied (t__law_copied : TSp) : WS :=
  (wSeq (wIf (wVal (w1 (wRd 0) (vIsi "dict"))) (wRet (w1 (wLc (fun S k R => wIKeys (wVar 0) S k R ∨ wILst (wVar 0) S k R ∨ wITup (wVar 0) S k R) [3] (gN 3) wYes (wTup (wCons (wVar 3) (wCons (wCall 1 t__law_copied (wCons (w2 (wRd 0) (wRd 3) vIdx) wNil)) wNil)))) vDict)) wSkip)
  (wSeq (wIf (wNot (wVal (w1 (wRd 0) (vIsiT ["list", "tuple"])))) (wRet (wVar 0)) wSkip)
  (wSeq (wAsgF 1 (wLc (fun S k R => wIKeys (wVar 0) S k R ∨ wILst (wVar 0) S k R ∨ wITup (wVar 0) S k R) [2] (gN 2) wYes (wCall 1 t__law_copied (wCons (wVar 2) wNil))))
  (wFrz 1 (wRet (wIte (wVal (w1 (wRd 0) (vIsi "list"))) (wVar 1) (w1 (wRd 1) vTuple)))))))
theorem sc__law_copied : FnScope N__law_copied ["thing"] (defScope st__law_copied) := ⟨rfl, rfl, rfl, by decide +kernel, rfl, by decide +kernel, by decide +kernel⟩
theorem d__law_copied (t__law_copied : TSp) (a : Addr) (b : Bs) : SSs { a := a, b := b, fns := fns__law_copied t__law_copied, bl := bl__law_copied } s__law_copied (defBody st__law_copied) (w__law_copied t__law_copied) :=
  (sss_cons (ss_if (st_val (SE.o (se_isi (T := "dict") (so_rd (i := 0) (by decide +kernel)) (by decide +kernel) (by decide +kernel) (by decide +kernel) (show bl__law_copied.contains "isinstance" = true by decide +kernel) (by decide +kernel) (show bl__law_copied.contains "dict" = true by decide +kernel)))) (sss_one (ss_ret (SF.e (sf_dict (SF.o (sf_lc [("key", 3)]  (si_or (si_keys (se_var (i := 0) (by decide +kernel))) (si_or (si_list (se_var (i := 0) (by decide +kernel))) (si_tup (se_var (i := 0) (by decide +kernel))))) (sg_n (i := 3) (by decide +kernel)) sts_nil (se_tup (sa_cons (se_var (i := 3) (by decide +kernel)) (sa_cons (se_call 0 rfl (by decide +kernel) (sa_cons (se_idx (so_rd (i := 0) (by decide +kernel)) (so_rd (i := 3) (by decide +kernel))) sa_nil)) sa_nil))) (by decide +kernel))) (by decide +kernel) (show bl__law_copied.contains "dict" = true by decide +kernel))))) sss_nil)
    (sss_cons (ss_if (st_not (st_val (SE.o (se_isiT (so_rd (i := 0) (by decide +kernel)) (sty_cons (sty_cons sty_nil (by decide +kernel) (by decide +kernel) (show bl__law_copied.contains "tuple" = true by decide +kernel)) (by decide +kernel) (by decide +kernel) (show bl__law_copied.contains "list" = true by decide +kernel)) (by decide +kernel) (by decide +kernel) (by decide +kernel) (show bl__law_copied.contains "isinstance" = true by decide +kernel))))) (sss_one (ss_ret (se_var (i := 0) (by decide +kernel)))) sss_nil)
    (sss_cons (ss_setLc' [("part", 2)] (i := 1) (by decide +kernel) (by decide +kernel) rfl (si_or (si_keys (se_var (i := 0) (by decide +kernel))) (si_or (si_list (se_var (i := 0) (by decide +kernel))) (si_tup (se_var (i := 0) (by decide +kernel))))) (sg_n (i := 2) (by decide +kernel)) sts_nil (se_call 0 rfl (by decide +kernel) (sa_cons (se_var (i := 2) (by decide +kernel)) sa_nil)) (by decide +kernel))
    (sss_one (ss_frz 1 (ss_ret (se_ite (st_val (SE.o (se_isi (T := "list") (so_rd (i := 0) (by decide +kernel)) (by decide +kernel) (by decide +kernel) (by decide +kernel) (show bl__law_copied.contains "isinstance" = true by decide +kernel) (by decide +kernel) (show bl__law_copied.contains "list" = true by decide +kernel)))) (se_var (i := 1) (by decide +kernel)) (se_tuple (so_rd (i := 1) (by decide +kernel)) (by decide +kernel) (show bl__law_copied.contains "tuple" = true by decide +kernel)))))))))

/-! ### _law_same -/
def st__law_same : Stmt := top 41
def N__law_same : List Str := ["found", "due", "x", "y"]
def s__law_same : CtS := ⟨N__law_same, defScope st__law_same, fun _ => true⟩
def fns__law_same (t__law_same : TSp) : List (Str × Nat × TSp) := [("_law_same", 2, t__law_same)]
def bl__law_same : List Str := ["isinstance", "tuple", "list", "len", "zip", "all", "dict", "int", "bool", "str"]
def w__law_same (t__law_same : TSp) : WS :=
  (wSeq (wIf (wVal (w1 (wRd 1) (vIsiT ["list", "tuple"]))) (wSeq (wIf (wOr (wCmp (w1 (wRd 0) (vIsi "list")) (w1 (wRd 1) (vIsi "list")) vNe) (wCmp (w1 (wRd 0) (vIsi "tuple")) (w1 (wRd 1) (vIsi "tuple")) vNe)) (wRet (wC (.bl false))) wSkip)
  (wRet (wAndV (wBool (wCmp (w1 (wRd 0) vLen) (w1 (wRd 1) vLen) vEq)) (w1 (wLc (wIZip (wVar 0) (wVar 1)) [2, 3] (gT (gsC (gN 2) (gsC (gN 3) gsN))) wYes (wCall 2 t__law_same (wCons (wVar 2) (wCons (wVar 3) wNil)))) vAll)))) wSkip)
  (wSeq (wIf (wVal (w1 (wRd 1) (vIsi "dict"))) (wRet (wAndV (w1 (wRd 0) (vIsi "dict")) (wCall 2 t__law_same (wCons (w1 (wRd 0) vList_items) (wCons (w1 (wRd 1) vList_items) wNil))))) wSkip)
  (wSeq (wIf (wVal (w1 (wRd 1) (vIsi "int"))) (wRet (wAndV (w1 (wRd 0) (vIsi "int")) (wAndV (wBool (wCmp (w1 (wRd 0) (vIsi "bool")) (w1 (wRd 1) (vIsi "bool")) vEq)) (wBool (wCmp (wRd 0) (wRd 1) vEq))))) wSkip)
  (wSeq (wIf (wCmp (wRd 1) (wC .non) vIs) (wRet (wBool (wCmp (wRd 0) (wC .non) vIs))) wSkip)
  (wSeq (wIf (wVal (w1 (wRd 1) (vIsi "str"))) (wRet (wAndV (w1 (wRd 0) (vIsi "str")) (wBool (wCmp (wRd 0) (wRd 1) vEq)))) wSkip)
  (wRet (wAndV (wNotV (w1 (wRd 0) (vIsiT ["int", "str", "list", "tuple", "dict"]))) (wBool (wCmp (wRd 0) (wRd 1) vEq)))))))))
theorem sc__law_same : FnScope N__law_same ["found", "due"] (defScope st__law_same) := ⟨rfl, rfl, rfl, by decide +kernel, rfl, by decide +kernel, by decide +kernel⟩
theorem d__law_same (t__law_same : TSp) (a : Addr) (b : Bs) : SSs { a := a, b := b, fns := fns__law_same t__law_same, bl := bl__law_same } s__law_same (defBody st__law_same) (w__law_same t__law_same) :=
  (sss_cons (ss_if (st_val (SE.o (se_isiT (so_rd (i := 1) (by decide +kernel)) (sty_cons (sty_cons sty_nil (by decide +kernel) (by decide +kernel) (show bl__law_same.contains "tuple" = true by decide +kernel)) (by decide +kernel) (by decide +kernel) (show bl__law_same.contains "list" = true by decide +kernel)) (by decide +kernel) (by decide +kernel) (by decide +kernel) (show bl__law_same.contains "isinstance" = true by decide +kernel)))) (sss_cons (ss_if (sw_t (sw_or (st_cmp sc_ne (SE.o (se_isi (T := "list") (so_rd (i := 0) (by decide +kernel)) (by decide +kernel) (by decide +kernel) (by decide +kernel) (show bl__law_same.contains "isinstance" = true by decide +kernel) (by decide +kernel) (show bl__law_same.contains "list" = true by decide +kernel))) (SE.o (se_isi (T := "list") (so_rd (i := 1) (by decide +kernel)) (by decide +kernel) (by decide +kernel) (by decide +kernel) (show bl__law_same.contains "isinstance" = true by decide +kernel) (by decide +kernel) (show bl__law_same.contains "list" = true by decide +kernel)))) (sw_or1 (st_cmp sc_ne (SE.o (se_isi (T := "tuple") (so_rd (i := 0) (by decide +kernel)) (by decide +kernel) (by decide +kernel) (by decide +kernel) (show bl__law_same.contains "isinstance" = true by decide +kernel) (by decide +kernel) (show bl__law_same.contains "tuple" = true by decide +kernel))) (SE.o (se_isi (T := "tuple") (so_rd (i := 1) (by decide +kernel)) (by decide +kernel) (by decide +kernel) (by decide +kernel) (show bl__law_same.contains "isinstance" = true by decide +kernel) (by decide +kernel) (show bl__law_same.contains "tuple" = true by decide +kernel))))))) (sss_one (ss_ret se_bl)) sss_nil)
    (sss_one (ss_ret (se_and (se_cmp sc_eq (SE.o (se_len (so_rd (i := 0) (by decide +kernel)) (by decide +kernel) (show bl__law_same.contains "len" = true by decide +kernel))) (SE.o (se_len (so_rd (i := 1) (by decide +kernel)) (by decide +kernel) (show bl__law_same.contains "len" = true by decide +kernel)))) (se_one (se_all (SF.o (sf_lc [("x", 2), ("y", 3)]  (si_zip (se_var (i := 0) (by decide +kernel)) (se_var (i := 1) (by decide +kernel)) (by decide +kernel) (show bl__law_same.contains "zip" = true by decide +kernel)) (sg_t (n := 2) (sgs_c (sg_n (i := 2) (by decide +kernel)) (sgs_c (sg_n (i := 3) (by decide +kernel)) sgs_n)) (hg := (gsC_len gN_ex (gsC_len gN_ex gsN_len)))) sts_nil (se_call 0 rfl (by decide +kernel) (sa_cons (se_var (i := 2) (by decide +kernel)) (sa_cons (se_var (i := 3) (by decide +kernel)) sa_nil))) (by decide +kernel))) (by decide +kernel) (show bl__law_same.contains "all" = true by decide +kernel))))))) sss_nil)
    (sss_cons (ss_if (st_val (SE.o (se_isi (T := "dict") (so_rd (i := 1) (by decide +kernel)) (by decide +kernel) (by decide +kernel) (by decide +kernel) (show bl__law_same.contains "isinstance" = true by decide +kernel) (by decide +kernel) (show bl__law_same.contains "dict" = true by decide +kernel)))) (sss_one (ss_ret (se_and (se_isi (T := "dict") (so_rd (i := 0) (by decide +kernel)) (by decide +kernel) (by decide +kernel) (by decide +kernel) (show bl__law_same.contains "isinstance" = true by decide +kernel) (by decide +kernel) (show bl__law_same.contains "dict" = true by decide +kernel)) (se_one (se_call 0 rfl (by decide +kernel) (sa_cons (SF.e (sf_list_items (so_rd (i := 0) (by decide +kernel)) (by decide +kernel) (show bl__law_same.contains "list" = true by decide +kernel))) (sa_cons (SF.e (sf_list_items (so_rd (i := 1) (by decide +kernel)) (by decide +kernel) (show bl__law_same.contains "list" = true by decide +kernel))) sa_nil))))))) sss_nil)
    (sss_cons (ss_if (st_val (SE.o (se_isi (T := "int") (so_rd (i := 1) (by decide +kernel)) (by decide +kernel) (by decide +kernel) (by decide +kernel) (show bl__law_same.contains "isinstance" = true by decide +kernel) (by decide +kernel) (show bl__law_same.contains "int" = true by decide +kernel)))) (sss_one (ss_ret (se_and (se_isi (T := "int") (so_rd (i := 0) (by decide +kernel)) (by decide +kernel) (by decide +kernel) (by decide +kernel) (show bl__law_same.contains "isinstance" = true by decide +kernel) (by decide +kernel) (show bl__law_same.contains "int" = true by decide +kernel)) (se_and (se_cmp sc_eq (SE.o (se_isi (T := "bool") (so_rd (i := 0) (by decide +kernel)) (by decide +kernel) (by decide +kernel) (by decide +kernel) (show bl__law_same.contains "isinstance" = true by decide +kernel) (by decide +kernel) (show bl__law_same.contains "bool" = true by decide +kernel))) (SE.o (se_isi (T := "bool") (so_rd (i := 1) (by decide +kernel)) (by decide +kernel) (by decide +kernel) (by decide +kernel) (show bl__law_same.contains "isinstance" = true by decide +kernel) (by decide +kernel) (show bl__law_same.contains "bool" = true by decide +kernel)))) (se_one (se_cmp sc_eq (so_rd (i := 0) (by decide +kernel)) (so_rd (i := 1) (by decide +kernel)))))))) sss_nil)
    (sss_cons (ss_if (st_cmp sc_is (so_rd (i := 1) (by decide +kernel)) (SE.o se_non)) (sss_one (ss_ret (se_cmp sc_is (so_rd (i := 0) (by decide +kernel)) (SE.o se_non)))) sss_nil)
    (sss_cons (ss_if (st_val (SE.o (se_isi (T := "str") (so_rd (i := 1) (by decide +kernel)) (by decide +kernel) (by decide +kernel) (by decide +kernel) (show bl__law_same.contains "isinstance" = true by decide +kernel) (by decide +kernel) (show bl__law_same.contains "str" = true by decide +kernel)))) (sss_one (ss_ret (se_and (se_isi (T := "str") (so_rd (i := 0) (by decide +kernel)) (by decide +kernel) (by decide +kernel) (by decide +kernel) (show bl__law_same.contains "isinstance" = true by decide +kernel) (by decide +kernel) (show bl__law_same.contains "str" = true by decide +kernel)) (se_one (se_cmp sc_eq (so_rd (i := 0) (by decide +kernel)) (so_rd (i := 1) (by decide +kernel))))))) sss_nil)
    (sss_one (ss_ret (se_and (se_not (se_isiT (so_rd (i := 0) (by decide +kernel)) (sty_cons (sty_cons (sty_cons (sty_cons (sty_cons sty_nil (by decide +kernel) (by decide +kernel) (show bl__law_same.contains "dict" = true by decide +kernel)) (by decide +kernel) (by decide +kernel) (show bl__law_same.contains "tuple" = true by decide +kernel)) (by decide +kernel) (by decide +kernel) (show bl__law_same.contains "list" = true by decide +kernel)) (by decide +kernel) (by decide +kernel) (show bl__law_same.contains "str" = true by decide +kernel)) (by decide +kernel) (by decide +kernel) (show bl__law_same.contains "int" = true by decide +kernel)) (by decide +kernel) (by decide +kernel) (by decide +kernel) (show bl__law_same.contains "isinstance" = true by decide +kernel))) (se_one (se_cmp sc_eq (so_rd (i := 0) (by decide +kernel)) (so_rd (i := 1) (by decide +kernel))))))))))))

/-! ### _law_like_right -/
def st__law_like_right : Stmt := top 42
def N__law_like_right : List Str := ["many", "houses", "worth", "floor", "worths", "market", "found", "due", "names", "homes", "gain", "had", "top", "low", "at", "name", "home"]
def s__law_like_right : CtS := ⟨N__law_like_right, defScope st__law_like_right, fun _ => true⟩
def fns__law_like_right (t__law_copied t_greatest_sum t_least_prices t_greatest_prices t__law_same : TSp) : List (Str × Nat × TSp) := [("_law_copied", 1, t__law_copied), ("greatest_sum", 1, t_greatest_sum), ("least_prices", 1, t_least_prices), ("greatest_prices", 1, t_greatest_prices), ("_law_same", 2, t__law_same)]
def bl__law_like_right : List Str := ["range", "str", "dict", "max", "min"]
def w__law_like_right (t__law_copied t_greatest_sum t_least_prices t_greatest_prices t__law_same : TSp) : WS :=
  (wSeq (wAsgT (wTup (wCons (wLc (wIRng1 (wVar 0)) [14] (gN 14) wYes (w2 (wC (.str "b")) (w1 (wRd 14) vToStr) vAdd)) (wCons (wLc (wIRng1 (wVar 1)) [14] (gN 14) wYes (w2 (wC (.str "h")) (w1 (wRd 14) vToStr) vAdd)) wNil))) (gT (gsC (gN 8) (gsC (gN 9) gsN))))
  (wSeq (wAsg 4 (w1 (wLc (wILst (wVar 8)) [15] (gN 15) wYes (wTup (wCons (wVar 15) (wCons (w1 (wLc (wILst (wVar 9)) [16] (gN 16) wYes (wTup (wCons (wVar 16) (wCons (wVar 2) wNil)))) vDict) wNil)))) vDict))
  (wSeq (wAsg 5 (wTup (wCons (wVar 4) (wCons (w1 (wLc (wILst (wVar 9)) [16] (gN 16) wYes (wTup (wCons (wVar 16) (wCons (wVar 3) wNil)))) vDict) wNil))))
  (wSeq (wPar 10 11 false false (w2 (wC (.int 0)) (w2 (wRd 2) (wRd 3) vSub) vMax2) (w2 (wRd 0) (wRd 1) vMin2))
  (wSeq (wAsg 6 (wLst (wCons (wCall 1 t_greatest_sum (wCons (wCall 1 t__law_copied (wCons (wVar 5) wNil)) wNil)) (wCons (wCall 1 t_least_prices (wCons (wCall 1 t__law_copied (wCons (wVar 5) wNil)) wNil)) (wCons (wCall 1 t_greatest_prices (wCons (wCall 1 t__law_copied (wCons (wVar 5) wNil)) wNil)) wNil)))))
  (wSeq (wAsgT (wTup (wCons (w2 (wRd 2) (wRd 3) vMax2) (wCons (wVar 3) wNil))) (gT (gsC (gN 12) (gsC (gN 13) gsN))))
  (wSeq (wAsgF 7 (wLst (wCons (w2 (wRd 10) (wRd 11) vMul) (wCons (w1 (wLc (wILst (wVar 9)) [16] (gN 16) wYes (wTup (wCons (wVar 16) (wCons (wIte (wCmp (wRd 0) (wRd 1) vGt) (wVar 12) (wVar 13)) wNil)))) vDict) wNil))))
  (wSeq (wApp 7 (w1 (wLc (wILst (wVar 9)) [16] (gN 16) wYes (wTup (wCons (wVar 16) (wCons (wIte (wCmp (wRd 0) (wRd 1) vLt) (wVar 13) (wVar 12)) wNil)))) vDict))
  (wFrz 7 (wRet (wCall 2 t__law_same (wCons (wVar 6) (wCons (wVar 7) wNil)))))))))))))
theorem sc__law_like_right : FnScope N__law_like_right ["many", "houses", "worth", "floor"] (defScope st__law_like_right) := ⟨rfl, rfl, rfl, by decide +kernel, rfl, by decide +kernel, by decide +kernel⟩
theorem d__law_like_right (t__law_copied t_greatest_sum t_least_prices t_greatest_prices t__law_same : TSp) (a : Addr) (b : Bs) : SSs { a := a, b := b, fns := fns__law_like_right t__law_copied t_greatest_sum t_least_prices t_greatest_prices t__law_same, bl := bl__law_like_right } s__law_like_right (defBody st__law_like_right) (w__law_like_right t__law_copied t_greatest_sum t_least_prices t_greatest_prices t__law_same) :=
  (sss_cons (ss_asgTc (se_tup (sa_cons (SF.e (sf_lc [("at", 14)]  (si_range1 (se_var (i := 0) (by decide +kernel)) (by decide +kernel) (show bl__law_like_right.contains "range" = true by decide +kernel)) (sg_n (i := 14) (by decide +kernel)) sts_nil (se_add (SE.o se_str) (SE.o (se_toStr (so_rd (i := 14) (by decide +kernel)) (by decide +kernel) (show bl__law_like_right.contains "str" = true by decide +kernel)))) (by decide +kernel))) (sa_cons (SF.e (sf_lc [("at", 14)]  (si_range1 (se_var (i := 1) (by decide +kernel)) (by decide +kernel) (show bl__law_like_right.contains "range" = true by decide +kernel)) (sg_n (i := 14) (by decide +kernel)) sts_nil (se_add (SE.o se_str) (SE.o (se_toStr (so_rd (i := 14) (by decide +kernel)) (by decide +kernel) (show bl__law_like_right.contains "str" = true by decide +kernel)))) (by decide +kernel))) sa_nil))) (sg_t (n := 2) (sgs_c (sg_n (i := 8) (by decide +kernel)) (sgs_c (sg_n (i := 9) (by decide +kernel)) sgs_n)) (hg := (gsC_len gN_ex (gsC_len gN_ex gsN_len)))) (by decide +kernel))
    (sss_cons (ss_asg (i := 4) (SF.e (sf_dict (SF.o (sf_lc [("name", 15)]  (si_list (se_var (i := 8) (by decide +kernel))) (sg_n (i := 15) (by decide +kernel)) sts_nil (se_tup (sa_cons (se_var (i := 15) (by decide +kernel)) (sa_cons (SF.e (sf_dict (SF.o (sf_lc [("home", 16)]  (si_list (se_var (i := 9) (by decide +kernel))) (sg_n (i := 16) (by decide +kernel)) sts_nil (se_tup (sa_cons (se_var (i := 16) (by decide +kernel)) (sa_cons (se_var (i := 2) (by decide +kernel)) sa_nil))) (by decide +kernel))) (by decide +kernel) (show bl__law_like_right.contains "dict" = true by decide +kernel))) sa_nil))) (by decide +kernel))) (by decide +kernel) (show bl__law_like_right.contains "dict" = true by decide +kernel))) (by decide +kernel))
    (sss_cons (ss_asg (i := 5) (se_tup (sa_cons (se_var (i := 4) (by decide +kernel)) (sa_cons (SF.e (sf_dict (SF.o (sf_lc [("home", 16)]  (si_list (se_var (i := 9) (by decide +kernel))) (sg_n (i := 16) (by decide +kernel)) sts_nil (se_tup (sa_cons (se_var (i := 16) (by decide +kernel)) (sa_cons (se_var (i := 3) (by decide +kernel)) sa_nil))) (by decide +kernel))) (by decide +kernel) (show bl__law_like_right.contains "dict" = true by decide +kernel))) sa_nil))) (by decide +kernel))
    (sss_cons (ss_par (i := 10) (j := 11) (SE.m (se_max2 (SE.o se_int) (SE.o (se_sub (so_rd (i := 2) (by decide +kernel)) (so_rd (i := 3) (by decide +kernel)))) (by decide +kernel) (show bl__law_like_right.contains "max" = true by decide +kernel))) (SE.m (se_min2 (so_rd (i := 0) (by decide +kernel)) (so_rd (i := 1) (by decide +kernel)) (by decide +kernel) (show bl__law_like_right.contains "min" = true by decide +kernel))) (by decide +kernel) (by decide +kernel) rfl (by decide +kernel))
    (sss_cons (ss_asg (i := 6) (SF.e (sf_lst (sa_cons (se_call 1 rfl (by decide +kernel) (sa_cons (se_call 0 rfl (by decide +kernel) (sa_cons (se_var (i := 5) (by decide +kernel)) sa_nil)) sa_nil)) (sa_cons (se_call 2 rfl (by decide +kernel) (sa_cons (se_call 0 rfl (by decide +kernel) (sa_cons (se_var (i := 5) (by decide +kernel)) sa_nil)) sa_nil)) (sa_cons (se_call 3 rfl (by decide +kernel) (sa_cons (se_call 0 rfl (by decide +kernel) (sa_cons (se_var (i := 5) (by decide +kernel)) sa_nil)) sa_nil)) sa_nil))))) (by decide +kernel))
    (sss_cons (ss_asgTc (se_tup (sa_cons (se_max2 (so_rd (i := 2) (by decide +kernel)) (so_rd (i := 3) (by decide +kernel)) (by decide +kernel) (show bl__law_like_right.contains "max" = true by decide +kernel)) (sa_cons (se_var (i := 3) (by decide +kernel)) sa_nil))) (sg_t (n := 2) (sgs_c (sg_n (i := 12) (by decide +kernel)) (sgs_c (sg_n (i := 13) (by decide +kernel)) sgs_n)) (hg := (gsC_len gN_ex (gsC_len gN_ex gsN_len)))) (by decide +kernel))
    (sss_cons (ss_asgF (i := 7) (sf_lst (sa_cons (se_mul (so_rd (i := 10) (by decide +kernel)) (so_rd (i := 11) (by decide +kernel))) (sa_cons (SF.e (sf_dict (SF.o (sf_lc [("home", 16)]  (si_list (se_var (i := 9) (by decide +kernel))) (sg_n (i := 16) (by decide +kernel)) sts_nil (se_tup (sa_cons (se_var (i := 16) (by decide +kernel)) (sa_cons (se_ite (st_cmp sc_gt (so_rd (i := 0) (by decide +kernel)) (so_rd (i := 1) (by decide +kernel))) (se_var (i := 12) (by decide +kernel)) (se_var (i := 13) (by decide +kernel))) sa_nil))) (by decide +kernel))) (by decide +kernel) (show bl__law_like_right.contains "dict" = true by decide +kernel))) sa_nil))) (by decide +kernel))
    (sss_cons (ss_app (i := 7) (by decide +kernel) (SF.e (sf_dict (SF.o (sf_lc [("home", 16)]  (si_list (se_var (i := 9) (by decide +kernel))) (sg_n (i := 16) (by decide +kernel)) sts_nil (se_tup (sa_cons (se_var (i := 16) (by decide +kernel)) (sa_cons (se_ite (st_cmp sc_lt (so_rd (i := 0) (by decide +kernel)) (so_rd (i := 1) (by decide +kernel))) (se_var (i := 13) (by decide +kernel)) (se_var (i := 12) (by decide +kernel))) sa_nil))) (by decide +kernel))) (by decide +kernel) (show bl__law_like_right.contains "dict" = true by decide +kernel))))
    (sss_one (ss_frz 7 (ss_ret (se_call 4 rfl (by decide +kernel) (sa_cons (se_var (i := 6) (by decide +kernel)) (sa_cons (se_var (i := 7) (by decide +kernel)) sa_nil))))))))))))))

/-! ### _law_one_house_right -/
def st__law_one_house_right : Stmt := top 43
def N__law_one_house_right : List Str := ["worths", "floor", "market", "row", "found", "best", "pairs", "name"]
def s__law_one_house_right : CtS := ⟨N__law_one_house_right, defScope st__law_one_house_right, fun _ => true⟩
def fns__law_one_house_right (t__law_copied t_least_prices t_greatest_prices t_greatest_sum t__law_same t_in_some t_best_count : TSp) : List (Str × Nat × TSp) := [("_law_copied", 1, t__law_copied), ("least_prices", 1, t_least_prices), ("greatest_prices", 1, t_greatest_prices), ("greatest_sum", 1, t_greatest_sum), ("_law_same", 2, t__law_same), ("in_some", 1, t_in_some), ("best_count", 1, t_best_count)]
def bl__law_one_house_right : List Str := ["dict", "list", "sorted", "max", "len"]
def w__law_one_house_right (t__law_copied t_least_prices t_greatest_prices t_greatest_sum t__law_same t_in_some t_best_count : TSp) : WS :=
  (wSeq (wAsg 2 (wTup (wCons (w1 (wLc (wIKeys (wVar 0)) [7] (gN 7) wYes (wTup (wCons (wVar 7) (wCons (wDone (wC (.str "h")) (w2 (wRd 0) (wRd 7) vIdx)) wNil)))) vDict) (wCons (wDone (wC (.str "h")) (wVar 1)) wNil))))
  (wSeq (wAsg 3 (w1 (w1 (w2 (w1 (wRd 0) vList_values) (wLst (wCons (wVar 1) (wCons (wVar 1) wNil))) vAdd) vSort) vSlBack))
  (wSeq (wAsg 4 (wLst (wCons (wCall 1 t_least_prices (wCons (wCall 1 t__law_copied (wCons (wVar 2) wNil)) wNil)) (wCons (wCall 1 t_greatest_prices (wCons (wCall 1 t__law_copied (wCons (wVar 2) wNil)) wNil)) (wCons (wCall 1 t_greatest_sum (wCons (wCall 1 t__law_copied (wCons (wVar 2) wNil)) wNil)) wNil)))))
  (wSeq (wIf (wNot (wVal (wCall 2 t__law_same (wCons (wVar 4) (wCons (wLst (wCons (wDone (wC (.str "h")) (w2 (w2 (wRd 3) (wC (.int 1)) vIdx) (wRd 1) vMax2)) (wCons (wDone (wC (.str "h")) (w2 (wRd 3) (wC (.int 0)) vIdx)) (wCons (w2 (w2 (wRd 3) (wC (.int 0)) vIdx) (wRd 1) vSub) wNil)))) wNil))))) (wRet (wC (.bl false))) wSkip)
  (wSeq (wAsgF 5 (wLc (wILst (w1 (wRd 0) vSort)) [7] (gN 7) (wAnd (wCmp (w2 (wRd 0) (wRd 7) vIdx) (w2 (wRd 3) (wC (.int 0)) vIdx) vEq) (wCmp (w2 (wRd 3) (wC (.int 0)) vIdx) (wRd 1) vGe)) (wVar 7)))
  (wSeq (wFrz 5 (wAsgF 6 (wLc (wILst (wVar 5)) [7] (gN 7) wYes (wTup (wCons (wVar 7) (wCons (wC (.str "h")) wNil))))))
  (wSeq (wFrz 6 (wIf (wNot (wVal (wCall 2 t__law_same (wCons (wCall 1 t_in_some (wCons (wCall 1 t__law_copied (wCons (wVar 2) wNil)) wNil)) (wCons (wVar 6) wNil))))) (wRet (wC (.bl false))) wSkip))
  (wRet (wOrV (wBool (wCmp (w2 (wRd 3) (wC (.int 0)) vIdx) (wRd 1) vEq)) (wCall 2 t__law_same (wCons (wCall 1 t_best_count (wCons (wCall 1 t__law_copied (wCons (wVar 2) wNil)) wNil)) (wCons (w1 (wRd 5) vLen) wNil))))))))))))
theorem sc__law_one_house_right : FnScope N__law_one_house_right ["worths", "floor"] (defScope st__law_one_house_right) := ⟨rfl, rfl, rfl, by decide +kernel, rfl, by decide +kernel, by decide +kernel⟩
theorem d__law_one_house_right (t__law_copied t_least_prices t_greatest_prices t_greatest_sum t__law_same t_in_some t_best_count : TSp) (a : Addr) (b : Bs) : SSs { a := a, b := b, fns := fns__law_one_house_right t__law_copied t_least_prices t_greatest_prices t_greatest_sum t__law_same t_in_some t_best_count, bl := bl__law_one_house_right } s__law_one_house_right (defBody st__law_one_house_right) (w__law_one_house_right t__law_copied t_least_prices t_greatest_prices t_greatest_sum t__law_same t_in_some t_best_count) :=
  (sss_cons (ss_asg (i := 2) (se_tup (sa_cons (SF.e (sf_dict (SF.o (sf_lc [("name", 7)]  (si_keys (se_var (i := 0) (by decide +kernel))) (sg_n (i := 7) (by decide +kernel)) sts_nil (se_tup (sa_cons (se_var (i := 7) (by decide +kernel)) (sa_cons (SF.e (sf_done se_str (se_idx (so_rd (i := 0) (by decide +kernel)) (so_rd (i := 7) (by decide +kernel))))) sa_nil))) (by decide +kernel))) (by decide +kernel) (show bl__law_one_house_right.contains "dict" = true by decide +kernel))) (sa_cons (SF.e (sf_done se_str (se_var (i := 1) (by decide +kernel)))) sa_nil))) (by decide +kernel))
    (sss_cons (ss_asg (i := 3) (SF.e (sf_slBack (SF.o (sf_sorted (SE.o (se_add (SF.o (sf_list_values (so_rd (i := 0) (by decide +kernel)) (by decide +kernel) (show bl__law_one_house_right.contains "list" = true by decide +kernel))) (SF.o (sf_lst (sa_cons (se_var (i := 1) (by decide +kernel)) (sa_cons (se_var (i := 1) (by decide +kernel)) sa_nil)))))) (by decide +kernel) (show bl__law_one_house_right.contains "sorted" = true by decide +kernel))))) (by decide +kernel))
    (sss_cons (ss_asg (i := 4) (SF.e (sf_lst (sa_cons (se_call 1 rfl (by decide +kernel) (sa_cons (se_call 0 rfl (by decide +kernel) (sa_cons (se_var (i := 2) (by decide +kernel)) sa_nil)) sa_nil)) (sa_cons (se_call 2 rfl (by decide +kernel) (sa_cons (se_call 0 rfl (by decide +kernel) (sa_cons (se_var (i := 2) (by decide +kernel)) sa_nil)) sa_nil)) (sa_cons (se_call 3 rfl (by decide +kernel) (sa_cons (se_call 0 rfl (by decide +kernel) (sa_cons (se_var (i := 2) (by decide +kernel)) sa_nil)) sa_nil)) sa_nil))))) (by decide +kernel))
    (sss_cons (ss_if (st_not (st_val (SE.o (se_call 4 rfl (by decide +kernel) (sa_cons (se_var (i := 4) (by decide +kernel)) (sa_cons (SF.e (sf_lst (sa_cons (SF.e (sf_done se_str (se_max2 (SE.o (se_idx (so_rd (i := 3) (by decide +kernel)) (SE.o se_int))) (so_rd (i := 1) (by decide +kernel)) (by decide +kernel) (show bl__law_one_house_right.contains "max" = true by decide +kernel)))) (sa_cons (SF.e (sf_done se_str (se_idx (so_rd (i := 3) (by decide +kernel)) (SE.o se_int)))) (sa_cons (se_sub (SE.o (se_idx (so_rd (i := 3) (by decide +kernel)) (SE.o se_int))) (so_rd (i := 1) (by decide +kernel))) sa_nil))))) sa_nil)))))) (sss_one (ss_ret se_bl)) sss_nil)
    (sss_cons (ss_setLc' [("name", 7)] (i := 5) (by decide +kernel) (by decide +kernel) rfl (si_list (SF.e (sf_sorted (so_rd (i := 0) (by decide +kernel)) (by decide +kernel) (show bl__law_one_house_right.contains "sorted" = true by decide +kernel)))) (sg_n (i := 7) (by decide +kernel)) (sts_one (sw_t (sw_and (st_cmp sc_eq (SE.o (se_idx (so_rd (i := 0) (by decide +kernel)) (so_rd (i := 7) (by decide +kernel)))) (SE.o (se_idx (so_rd (i := 3) (by decide +kernel)) (SE.o se_int)))) (sw_and1 (st_cmp sc_ge (SE.o (se_idx (so_rd (i := 3) (by decide +kernel)) (SE.o se_int))) (so_rd (i := 1) (by decide +kernel))))))) (se_var (i := 7) (by decide +kernel)) (by decide +kernel))
    (sss_cons (ss_frz 5 (ss_setLc' [("name", 7)] (i := 6) (by decide +kernel) (by decide +kernel) rfl (si_list (se_var (i := 5) (by decide +kernel))) (sg_n (i := 7) (by decide +kernel)) sts_nil (se_tup (sa_cons (se_var (i := 7) (by decide +kernel)) (sa_cons se_str sa_nil))) (by decide +kernel)))
    (sss_cons (ss_frz 6 (ss_if (st_not (st_val (SE.o (se_call 4 rfl (by decide +kernel) (sa_cons (se_call 5 rfl (by decide +kernel) (sa_cons (se_call 0 rfl (by decide +kernel) (sa_cons (se_var (i := 2) (by decide +kernel)) sa_nil)) sa_nil)) (sa_cons (se_var (i := 6) (by decide +kernel)) sa_nil)))))) (sss_one (ss_ret se_bl)) sss_nil))
    (sss_one (ss_ret (se_or (se_cmp sc_eq (SE.o (se_idx (so_rd (i := 3) (by decide +kernel)) (SE.o se_int))) (so_rd (i := 1) (by decide +kernel))) (se_one (se_call 4 rfl (by decide +kernel) (sa_cons (se_call 6 rfl (by decide +kernel) (sa_cons (se_call 0 rfl (by decide +kernel) (sa_cons (se_var (i := 2) (by decide +kernel)) sa_nil)) sa_nil)) (sa_cons (se_len (so_rd (i := 5) (by decide +kernel)) (by decide +kernel) (show bl__law_one_house_right.contains "len" = true by decide +kernel)) sa_nil))))))))))))))

/-! ### _law_one_buyer_right -/
def st__law_one_buyer_right : Stmt := top 44
def N__law_one_buyer_right : List Str := ["wants", "floors", "market", "gains", "found", "top", "due", "low", "high", "house"]
def s__law_one_buyer_right : CtS := ⟨N__law_one_buyer_right, defScope st__law_one_buyer_right, fun _ => true⟩
def fns__law_one_buyer_right (t__law_copied t_least_prices t_greatest_prices t_greatest_sum t_buyer_margin t__law_same : TSp) : List (Str × Nat × TSp) := [("_law_copied", 1, t__law_copied), ("least_prices", 1, t_least_prices), ("greatest_prices", 1, t_greatest_prices), ("greatest_sum", 1, t_greatest_sum), ("buyer_margin", 2, t_buyer_margin), ("_law_same", 2, t__law_same)]
def bl__law_one_buyer_right : List Str := ["dict", "sorted", "max", "len"]
def w__law_one_buyer_right (t__law_copied t_least_prices t_greatest_prices t_greatest_sum t_buyer_margin t__law_same : TSp) : WS :=
  (wSeq (wAsg 2 (wTup (wCons (wDone (wC (.str "a")) (w1 (wRd 0) vDict)) (wCons (w1 (wRd 1) vDict) wNil))))
  (wSeq (wAsg 3 (w1 (w1 (w2 (wLc (wIKeys (wVar 0)) [9] (gN 9) wYes (w2 (w2 (wRd 0) (wRd 9) vIdx) (w2 (wRd 1) (wRd 9) vIdx) vSub)) (wLst (wCons (wC (.int 0)) (wCons (wC (.int 0)) wNil))) vAdd) vSort) vSlBack))
  (wSeq (wPar 7 8 false false (wCall 1 t_least_prices (wCons (wCall 1 t__law_copied (wCons (wVar 2) wNil)) wNil)) (wCall 1 t_greatest_prices (wCons (wCall 1 t__law_copied (wCons (wVar 2) wNil)) wNil)))
  (wSeq (wAsg 4 (wLst (wCons (wCall 1 t_greatest_sum (wCons (wCall 1 t__law_copied (wCons (wVar 2) wNil)) wNil)) (wCons (wCall 2 t_buyer_margin (wCons (wCall 1 t__law_copied (wCons (wVar 2) wNil)) (wCons (wC (.str "a")) wNil))) (wCons (wVar 7) wNil)))))
  (wSeq (wIf (wNot (wVal (wCall 2 t__law_same (wCons (wVar 4) (wCons (wLst (wCons (w2 (w2 (wRd 3) (wC (.int 0)) vIdx) (wC (.int 0)) vMax2) (wCons (w2 (w2 (wRd 3) (wC (.int 0)) vIdx) (wC (.int 0)) vMax2) (wCons (w1 (w1 (wRd 1) vSort_items) vDict) wNil)))) wNil))))) (wRet (wC (.bl false))) wSkip)
  (wSeq (wAsgF 5 (wLc (wILst (w1 (wRd 0) vSort)) [9] (gN 9) (wAnd (wCmp (w2 (w2 (wRd 0) (wRd 9) vIdx) (w2 (wRd 1) (wRd 9) vIdx) vSub) (w2 (wRd 3) (wC (.int 0)) vIdx) vEq) (wCmp (w2 (wRd 3) (wC (.int 0)) vIdx) (wC (.int 0)) vGt)) (wVar 9)))
  (wSeq (wAsgF 6 (w1 (w1 (wRd 1) vSort_items) vDict))
  (wSeq (wIf (wCmp (w1 (wRd 5) vLen) (wC (.int 1)) vEq) (wPut 6 (w2 (wRd 5) (wC (.int 0)) vIdx) (w2 (w2 (w2 (wRd 6) (w2 (wRd 5) (wC (.int 0)) vIdx) vIdx) (w2 (wRd 3) (wC (.int 0)) vIdx) vAdd) (w2 (w2 (wRd 3) (wC (.int 1)) vIdx) (wC (.int 0)) vMax2) vSub)) wSkip)
  (wFrz 6 (wRet (wCall 2 t__law_same (wCons (wVar 8) (wCons (wVar 6) wNil)))))))))))))
theorem sc__law_one_buyer_right : FnScope N__law_one_buyer_right ["wants", "floors"] (defScope st__law_one_buyer_right) := ⟨rfl, rfl, rfl, by decide +kernel, rfl, by decide +kernel, by decide +kernel⟩
theorem d__law_one_buyer_right (t__law_copied t_least_prices t_greatest_prices t_greatest_sum t_buyer_margin t__law_same : TSp) (a : Addr) (b : Bs) : SSs { a := a, b := b, fns := fns__law_one_buyer_right t__law_copied t_least_prices t_greatest_prices t_greatest_sum t_buyer_margin t__law_same, bl := bl__law_one_buyer_right } s__law_one_buyer_right (defBody st__law_one_buyer_right) (w__law_one_buyer_right t__law_copied t_least_prices t_greatest_prices t_greatest_sum t_buyer_margin t__law_same) :=
  (sss_cons (ss_asg (i := 2) (se_tup (sa_cons (SF.e (sf_done se_str (SF.e (sf_dict (so_rd (i := 0) (by decide +kernel)) (by decide +kernel) (show bl__law_one_buyer_right.contains "dict" = true by decide +kernel))))) (sa_cons (SF.e (sf_dict (so_rd (i := 1) (by decide +kernel)) (by decide +kernel) (show bl__law_one_buyer_right.contains "dict" = true by decide +kernel))) sa_nil))) (by decide +kernel))
    (sss_cons (ss_asg (i := 3) (SF.e (sf_slBack (SF.o (sf_sorted (SE.o (se_add (SF.o (sf_lc [("house", 9)]  (si_keys (se_var (i := 0) (by decide +kernel))) (sg_n (i := 9) (by decide +kernel)) sts_nil (se_sub (SE.o (se_idx (so_rd (i := 0) (by decide +kernel)) (so_rd (i := 9) (by decide +kernel)))) (SE.o (se_idx (so_rd (i := 1) (by decide +kernel)) (so_rd (i := 9) (by decide +kernel))))) (by decide +kernel))) (SF.o (sf_lst (sa_cons se_int (sa_cons se_int sa_nil)))))) (by decide +kernel) (show bl__law_one_buyer_right.contains "sorted" = true by decide +kernel))))) (by decide +kernel))
    (sss_cons (ss_par (i := 7) (j := 8) (SE.m (se_call 1 rfl (by decide +kernel) (sa_cons (se_call 0 rfl (by decide +kernel) (sa_cons (se_var (i := 2) (by decide +kernel)) sa_nil)) sa_nil))) (SE.m (se_call 2 rfl (by decide +kernel) (sa_cons (se_call 0 rfl (by decide +kernel) (sa_cons (se_var (i := 2) (by decide +kernel)) sa_nil)) sa_nil))) (by decide +kernel) (by decide +kernel) rfl (by decide +kernel))
    (sss_cons (ss_asg (i := 4) (SF.e (sf_lst (sa_cons (se_call 3 rfl (by decide +kernel) (sa_cons (se_call 0 rfl (by decide +kernel) (sa_cons (se_var (i := 2) (by decide +kernel)) sa_nil)) sa_nil)) (sa_cons (se_call 4 rfl (by decide +kernel) (sa_cons (se_call 0 rfl (by decide +kernel) (sa_cons (se_var (i := 2) (by decide +kernel)) sa_nil)) (sa_cons se_str sa_nil))) (sa_cons (se_var (i := 7) (by decide +kernel)) sa_nil))))) (by decide +kernel))
    (sss_cons (ss_if (st_not (st_val (SE.o (se_call 5 rfl (by decide +kernel) (sa_cons (se_var (i := 4) (by decide +kernel)) (sa_cons (SF.e (sf_lst (sa_cons (se_max2 (SE.o (se_idx (so_rd (i := 3) (by decide +kernel)) (SE.o se_int))) (SE.o se_int) (by decide +kernel) (show bl__law_one_buyer_right.contains "max" = true by decide +kernel)) (sa_cons (se_max2 (SE.o (se_idx (so_rd (i := 3) (by decide +kernel)) (SE.o se_int))) (SE.o se_int) (by decide +kernel) (show bl__law_one_buyer_right.contains "max" = true by decide +kernel)) (sa_cons (SF.e (sf_dict (SF.o (sf_sorted_items (so_rd (i := 1) (by decide +kernel)) (by decide +kernel) (show bl__law_one_buyer_right.contains "sorted" = true by decide +kernel))) (by decide +kernel) (show bl__law_one_buyer_right.contains "dict" = true by decide +kernel))) sa_nil))))) sa_nil)))))) (sss_one (ss_ret se_bl)) sss_nil)
    (sss_cons (ss_setLc' [("house", 9)] (i := 5) (by decide +kernel) (by decide +kernel) rfl (si_list (SF.e (sf_sorted (so_rd (i := 0) (by decide +kernel)) (by decide +kernel) (show bl__law_one_buyer_right.contains "sorted" = true by decide +kernel)))) (sg_n (i := 9) (by decide +kernel)) (sts_one (sw_t (sw_and (st_cmp sc_eq (SE.o (se_sub (SE.o (se_idx (so_rd (i := 0) (by decide +kernel)) (so_rd (i := 9) (by decide +kernel)))) (SE.o (se_idx (so_rd (i := 1) (by decide +kernel)) (so_rd (i := 9) (by decide +kernel)))))) (SE.o (se_idx (so_rd (i := 3) (by decide +kernel)) (SE.o se_int)))) (sw_and1 (st_cmp sc_gt (SE.o (se_idx (so_rd (i := 3) (by decide +kernel)) (SE.o se_int))) (SE.o se_int)))))) (se_var (i := 9) (by decide +kernel)) (by decide +kernel))
    (sss_cons (ss_asgF (i := 6) (sf_dict (SF.o (sf_sorted_items (so_rd (i := 1) (by decide +kernel)) (by decide +kernel) (show bl__law_one_buyer_right.contains "sorted" = true by decide +kernel))) (by decide +kernel) (show bl__law_one_buyer_right.contains "dict" = true by decide +kernel)) (by decide +kernel))
    (sss_cons (ss_if (st_cmp sc_eq (SE.o (se_len (so_rd (i := 5) (by decide +kernel)) (by decide +kernel) (show bl__law_one_buyer_right.contains "len" = true by decide +kernel))) (SE.o se_int)) (sss_one (ss_put (i := 6) (by decide +kernel) (se_idx (so_rd (i := 5) (by decide +kernel)) (SE.o se_int)) (se_sub (SE.o (se_add (SE.o (se_idx (so_rd (i := 6) (by decide +kernel)) (SE.o (se_idx (so_rd (i := 5) (by decide +kernel)) (SE.o se_int))))) (SE.o (se_idx (so_rd (i := 3) (by decide +kernel)) (SE.o se_int))))) (SE.o (se_max2 (SE.o (se_idx (so_rd (i := 3) (by decide +kernel)) (SE.o se_int))) (SE.o se_int) (by decide +kernel) (show bl__law_one_buyer_right.contains "max" = true by decide +kernel)))))) sss_nil)
    (sss_one (ss_frz 6 (ss_ret (se_call 5 rfl (by decide +kernel) (sa_cons (se_var (i := 8) (by decide +kernel)) (sa_cons (se_var (i := 6) (by decide +kernel)) sa_nil))))))))))))))

/-! ### _law_ladder_right -/
def st__law_ladder_right : Stmt := top 45
def N__law_ladder_right : List Str := ["many", "step", "worths", "market", "low", "found", "names", "homes", "at", "name", "home", "place"]
def s__law_ladder_right : CtS := ⟨N__law_ladder_right, defScope st__law_ladder_right, fun _ => true⟩
def fns__law_ladder_right (t__law_copied t_least_prices t_greatest_sum t__law_same : TSp) : List (Str × Nat × TSp) := [("_law_copied", 1, t__law_copied), ("least_prices", 1, t_least_prices), ("greatest_sum", 1, t_greatest_sum), ("_law_same", 2, t__law_same)]
def bl__law_ladder_right : List Str := ["range", "str", "enumerate", "dict", "sum"]
def w__law_ladder_right (t__law_copied t_least_prices t_greatest_sum t__law_same : TSp) : WS :=
  (wSeq (wPar 6 7 false false (wLc (wIRng1 (wVar 0)) [8] (gN 8) wYes (w2 (wC (.str "b")) (w1 (wRd 8) vToStr) vAdd)) (wLc (wIRng1 (wVar 0)) [8] (gN 8) wYes (w2 (wC (.str "h")) (w1 (wRd 8) vToStr) vAdd)))
  (wSeq (wAsgF 2 (wC (.dk [])))
  (wSeq (wFor (wIEnum (wVar 6)) (gT (gsC (gN 8) (gsC (gN 9) gsN))) (wPut 2 (wVar 9) (w1 (wLc (wIEnum (wVar 7)) [11, 10] (gT (gsC (gN 11) (gsC (gN 10) gsN))) wYes (wTup (wCons (wVar 10) (wCons (w2 (w2 (wRd 1) (wRd 8) vMul) (wRd 11) vMul) wNil)))) vDict)))
  (wSeq (wFrz 2 (wAsg 3 (wTup (wCons (wVar 2) (wCons (w1 (wLc (wILst (wVar 7)) [10] (gN 10) wYes (wTup (wCons (wVar 10) (wCons (wC (.int 0)) wNil)))) vDict) wNil)))))
  (wSeq (wAsg 4 (w1 (wLc (wIEnum (wVar 7)) [11, 10] (gT (gsC (gN 11) (gsC (gN 10) gsN))) wYes (wTup (wCons (wVar 10) (wCons (w2 (w2 (w2 (wRd 1) (wRd 11) vMul) (w2 (wRd 11) (wC (.int 1)) vSub) vMul) (wC (.int 2)) vDiv) wNil)))) vDict))
  (wSeq (wAsg 5 (wLst (wCons (wCall 1 t_least_prices (wCons (wCall 1 t__law_copied (wCons (wVar 3) wNil)) wNil)) (wCons (wCall 1 t_greatest_sum (wCons (wCall 1 t__law_copied (wCons (wVar 3) wNil)) wNil)) wNil))))
  (wRet (wCall 2 t__law_same (wCons (wVar 5) (wCons (wLst (wCons (wVar 4) (wCons (w1 (wLc (wIRng1 (wVar 0)) [8] (gN 8) wYes (w2 (w2 (wRd 1) (wRd 8) vMul) (wRd 8) vMul)) vSum) wNil))) wNil))))))))))
theorem sc__law_ladder_right : FnScope N__law_ladder_right ["many", "step"] (defScope st__law_ladder_right) := ⟨rfl, rfl, rfl, by decide +kernel, rfl, by decide +kernel, by decide +kernel⟩
theorem d__law_ladder_right (t__law_copied t_least_prices t_greatest_sum t__law_same : TSp) (a : Addr) (b : Bs) : SSs { a := a, b := b, fns := fns__law_ladder_right t__law_copied t_least_prices t_greatest_sum t__law_same, bl := bl__law_ladder_right } s__law_ladder_right (defBody st__law_ladder_right) (w__law_ladder_right t__law_copied t_least_prices t_greatest_sum t__law_same) :=
  (sss_cons (ss_par (i := 6) (j := 7) (SE.m (SF.e (sf_lc [("at", 8)]  (si_range1 (se_var (i := 0) (by decide +kernel)) (by decide +kernel) (show bl__law_ladder_right.contains "range" = true by decide +kernel)) (sg_n (i := 8) (by decide +kernel)) sts_nil (se_add (SE.o se_str) (SE.o (se_toStr (so_rd (i := 8) (by decide +kernel)) (by decide +kernel) (show bl__law_ladder_right.contains "str" = true by decide +kernel)))) (by decide +kernel)))) (SE.m (SF.e (sf_lc [("at", 8)]  (si_range1 (se_var (i := 0) (by decide +kernel)) (by decide +kernel) (show bl__law_ladder_right.contains "range" = true by decide +kernel)) (sg_n (i := 8) (by decide +kernel)) sts_nil (se_add (SE.o se_str) (SE.o (se_toStr (so_rd (i := 8) (by decide +kernel)) (by decide +kernel) (show bl__law_ladder_right.contains "str" = true by decide +kernel)))) (by decide +kernel)))) (by decide +kernel) (by decide +kernel) rfl (by decide +kernel))
    (sss_cons (ss_asgF (i := 2) sf_dk (by decide +kernel))
    (sss_cons (ss_for (si_enum (se_var (i := 6) (by decide +kernel)) (by decide +kernel) (show bl__law_ladder_right.contains "enumerate" = true by decide +kernel)) (sg_t (n := 2) (sgs_c (sg_n (i := 8) (by decide +kernel)) (sgs_c (sg_n (i := 9) (by decide +kernel)) sgs_n)) (hg := (gsC_len gN_ex (gsC_len gN_ex gsN_len)))) (sss_one (ss_put (i := 2) (by decide +kernel) (se_var (i := 9) (by decide +kernel)) (SF.e (sf_dict (SF.o (sf_lc [("place", 11), ("home", 10)]  (si_enum (se_var (i := 7) (by decide +kernel)) (by decide +kernel) (show bl__law_ladder_right.contains "enumerate" = true by decide +kernel)) (sg_t (n := 2) (sgs_c (sg_n (i := 11) (by decide +kernel)) (sgs_c (sg_n (i := 10) (by decide +kernel)) sgs_n)) (hg := (gsC_len gN_ex (gsC_len gN_ex gsN_len)))) sts_nil (se_tup (sa_cons (se_var (i := 10) (by decide +kernel)) (sa_cons (se_mul (SE.o (se_mul (so_rd (i := 1) (by decide +kernel)) (so_rd (i := 8) (by decide +kernel)))) (so_rd (i := 11) (by decide +kernel))) sa_nil))) (by decide +kernel))) (by decide +kernel) (show bl__law_ladder_right.contains "dict" = true by decide +kernel))))))
    (sss_cons (ss_frz 2 (ss_asg (i := 3) (se_tup (sa_cons (se_var (i := 2) (by decide +kernel)) (sa_cons (SF.e (sf_dict (SF.o (sf_lc [("home", 10)]  (si_list (se_var (i := 7) (by decide +kernel))) (sg_n (i := 10) (by decide +kernel)) sts_nil (se_tup (sa_cons (se_var (i := 10) (by decide +kernel)) (sa_cons se_int sa_nil))) (by decide +kernel))) (by decide +kernel) (show bl__law_ladder_right.contains "dict" = true by decide +kernel))) sa_nil))) (by decide +kernel)))
    (sss_cons (ss_asg (i := 4) (SF.e (sf_dict (SF.o (sf_lc [("place", 11), ("home", 10)]  (si_enum (se_var (i := 7) (by decide +kernel)) (by decide +kernel) (show bl__law_ladder_right.contains "enumerate" = true by decide +kernel)) (sg_t (n := 2) (sgs_c (sg_n (i := 11) (by decide +kernel)) (sgs_c (sg_n (i := 10) (by decide +kernel)) sgs_n)) (hg := (gsC_len gN_ex (gsC_len gN_ex gsN_len)))) sts_nil (se_tup (sa_cons (se_var (i := 10) (by decide +kernel)) (sa_cons (se_div (SE.o (se_mul (SE.o (se_mul (so_rd (i := 1) (by decide +kernel)) (so_rd (i := 11) (by decide +kernel)))) (SE.o (se_sub (so_rd (i := 11) (by decide +kernel)) (SE.o se_int))))) (SE.o se_int)) sa_nil))) (by decide +kernel))) (by decide +kernel) (show bl__law_ladder_right.contains "dict" = true by decide +kernel))) (by decide +kernel))
    (sss_cons (ss_asg (i := 5) (SF.e (sf_lst (sa_cons (se_call 1 rfl (by decide +kernel) (sa_cons (se_call 0 rfl (by decide +kernel) (sa_cons (se_var (i := 3) (by decide +kernel)) sa_nil)) sa_nil)) (sa_cons (se_call 2 rfl (by decide +kernel) (sa_cons (se_call 0 rfl (by decide +kernel) (sa_cons (se_var (i := 3) (by decide +kernel)) sa_nil)) sa_nil)) sa_nil)))) (by decide +kernel))
    (sss_one (ss_ret (se_call 3 rfl (by decide +kernel) (sa_cons (se_var (i := 5) (by decide +kernel)) (sa_cons (SF.e (sf_lst (sa_cons (se_var (i := 4) (by decide +kernel)) (sa_cons (se_sum (SF.o (sf_lc [("at", 8)]  (si_range1 (se_var (i := 0) (by decide +kernel)) (by decide +kernel) (show bl__law_ladder_right.contains "range" = true by decide +kernel)) (sg_n (i := 8) (by decide +kernel)) sts_nil (se_mul (SE.o (se_mul (so_rd (i := 1) (by decide +kernel)) (so_rd (i := 8) (by decide +kernel)))) (so_rd (i := 8) (by decide +kernel))) (by decide +kernel))) (by decide +kernel) (show bl__law_ladder_right.contains "sum" = true by decide +kernel)) sa_nil)))) sa_nil)))))))))))

/-! ### law -/
def st_law : Stmt := top 46
def N_law : List Str := ["script", "stream", "turn", "wide", "worths", "floors", "wants", "many", "houses", "at", "house"]
def s_law : CtS := ⟨N_law, defScope st_law, fun _ => true⟩
def fns_law (t__law_pick t__law_draw t__law_like_right t__law_one_house_right t__law_one_buyer_right t__law_ladder_right : TSp) : List (Str × Nat × TSp) := [("_law_pick", 2, t__law_pick), ("_law_draw", 2, t__law_draw), ("_law_like_right", 4, t__law_like_right), ("_law_one_house_right", 2, t__law_one_house_right), ("_law_one_buyer_right", 2, t__law_one_buyer_right), ("_law_ladder_right", 2, t__law_ladder_right)]
def bl_law : List Str := ["range", "str", "dict"]
def w_law (t__law_pick t__law_draw t__law_like_right t__law_one_house_right t__law_one_buyer_right t__law_ladder_right : TSp) : WS :=
  (wSeq (wFor (wIRng1 (wC (.int 8))) (gN 2) (wSeq (wAsg 3 (wCall 2 t__law_pick (wCons (wVar 1) (wCons (wLst (wCons (wC (.int 5)) (wCons (wC (.int 90)) wNil))) wNil))))
  (wSeq (wPar 7 8 false false (w2 (wC (.int 1)) (wCall 2 t__law_draw (wCons (wVar 1) (wCons (wC (.int 4)) wNil))) vAdd) (w2 (wC (.int 1)) (wCall 2 t__law_draw (wCons (wVar 1) (wCons (wC (.int 4)) wNil))) vAdd))
  (wSeq (wIf (wNot (wVal (wCall 4 t__law_like_right (wCons (wVar 7) (wCons (wVar 8) (wCons (wCall 2 t__law_draw (wCons (wVar 1) (wCons (wVar 3) wNil))) (wCons (wCall 2 t__law_draw (wCons (wVar 1) (wCons (wC (.int 6)) wNil))) wNil))))))) (wRet (wC (.bl false))) wSkip)
  (wSeq (wAsg 4 (w1 (wLc (wIRng1 (w2 (wC (.int 1)) (wCall 2 t__law_draw (wCons (wVar 1) (wCons (wC (.int 5)) wNil))) vAdd)) [9] (gN 9) wYes (wTup (wCons (w2 (wC (.str "b")) (w1 (wRd 9) vToStr) vAdd) (wCons (wCall 2 t__law_draw (wCons (wVar 1) (wCons (wVar 3) wNil))) wNil)))) vDict))
  (wSeq (wIf (wNot (wVal (wCall 2 t__law_one_house_right (wCons (wVar 4) (wCons (wCall 2 t__law_draw (wCons (wVar 1) (wCons (wC (.int 6)) wNil))) wNil))))) (wRet (wC (.bl false))) wSkip)
  (wSeq (wAsg 5 (w1 (wLc (wIRng1 (w2 (wC (.int 1)) (wCall 2 t__law_draw (wCons (wVar 1) (wCons (wC (.int 4)) wNil))) vAdd)) [9] (gN 9) wYes (wTup (wCons (w2 (wC (.str "h")) (w1 (wRd 9) vToStr) vAdd) (wCons (wCall 2 t__law_draw (wCons (wVar 1) (wCons (wC (.int 6)) wNil))) wNil)))) vDict))
  (wSeq (wAsg 6 (w1 (wLc (wIKeys (wVar 5)) [10] (gN 10) (wCmp (wCall 2 t__law_draw (wCons (wVar 1) (wCons (wC (.int 4)) wNil))) (wC (.int 0)) vGt) (wTup (wCons (wVar 10) (wCons (wCall 2 t__law_draw (wCons (wVar 1) (wCons (wVar 3) wNil))) wNil)))) vDict))
  (wSeq (wIf (wNot (wVal (wCall 2 t__law_one_buyer_right (wCons (wVar 6) (wCons (wVar 5) wNil))))) (wRet (wC (.bl false))) wSkip)
  (wIf (wNot (wVal (wCall 2 t__law_ladder_right (wCons (w2 (wC (.int 1)) (wCall 2 t__law_draw (wCons (wVar 1) (wCons (wC (.int 4)) wNil))) vAdd) (wCons (w2 (wC (.int 1)) (wCall 2 t__law_draw (wCons (wVar 1) (wCons (wC (.int 5)) wNil))) vAdd) wNil))))) (wRet (wC (.bl false))) wSkip))))))))))
  (wRet (wC (.bl true))))
theorem sc_law : FnScope N_law ["script"] (defScope st_law) := ⟨rfl, rfl, rfl, by decide +kernel, rfl, by decide +kernel, by decide +kernel⟩
theorem d_law (t__law_pick t__law_draw t__law_like_right t__law_one_house_right t__law_one_buyer_right t__law_ladder_right : TSp) (a : Addr) (b : Bs) : SSs { a := a, b := b, fns := fns_law t__law_pick t__law_draw t__law_like_right t__law_one_house_right t__law_one_buyer_right t__law_ladder_right, bl := bl_law } s_law ((defBody st_law).drop 1) (w_law t__law_pick t__law_draw t__law_like_right t__law_one_house_right t__law_one_buyer_right t__law_ladder_right) :=
  (sss_cons (ss_for (si_range1 se_int (by decide +kernel) (show bl_law.contains "range" = true by decide +kernel)) (sg_n (i := 2) (by decide +kernel)) (sss_cons (ss_asg (i := 3) (se_call 0 rfl (by decide +kernel) (sa_cons (se_var (i := 1) (by decide +kernel)) (sa_cons (SF.e (sf_lst (sa_cons se_int (sa_cons se_int sa_nil)))) sa_nil))) (by decide +kernel))
    (sss_cons (ss_par (i := 7) (j := 8) (SE.m (se_add (SE.o se_int) (SE.o (se_call 1 rfl (by decide +kernel) (sa_cons (se_var (i := 1) (by decide +kernel)) (sa_cons se_int sa_nil)))))) (SE.m (se_add (SE.o se_int) (SE.o (se_call 1 rfl (by decide +kernel) (sa_cons (se_var (i := 1) (by decide +kernel)) (sa_cons se_int sa_nil)))))) (by decide +kernel) (by decide +kernel) rfl (by decide +kernel))
    (sss_cons (ss_if (st_not (st_val (SE.o (se_call 2 rfl (by decide +kernel) (sa_cons (se_var (i := 7) (by decide +kernel)) (sa_cons (se_var (i := 8) (by decide +kernel)) (sa_cons (se_call 1 rfl (by decide +kernel) (sa_cons (se_var (i := 1) (by decide +kernel)) (sa_cons (se_var (i := 3) (by decide +kernel)) sa_nil))) (sa_cons (se_call 1 rfl (by decide +kernel) (sa_cons (se_var (i := 1) (by decide +kernel)) (sa_cons se_int sa_nil))) sa_nil)))))))) (sss_one (ss_ret se_bl)) sss_nil)
    (sss_cons (ss_asg (i := 4) (SF.e (sf_dict (SF.o (sf_lc [("at", 9)]  (si_range1 (se_add (SE.o se_int) (SE.o (se_call 1 rfl (by decide +kernel) (sa_cons (se_var (i := 1) (by decide +kernel)) (sa_cons se_int sa_nil))))) (by decide +kernel) (show bl_law.contains "range" = true by decide +kernel)) (sg_n (i := 9) (by decide +kernel)) sts_nil (se_tup (sa_cons (se_add (SE.o se_str) (SE.o (se_toStr (so_rd (i := 9) (by decide +kernel)) (by decide +kernel) (show bl_law.contains "str" = true by decide +kernel)))) (sa_cons (se_call 1 rfl (by decide +kernel) (sa_cons (se_var (i := 1) (by decide +kernel)) (sa_cons (se_var (i := 3) (by decide +kernel)) sa_nil))) sa_nil))) (by decide +kernel))) (by decide +kernel) (show bl_law.contains "dict" = true by decide +kernel))) (by decide +kernel))
    (sss_cons (ss_if (st_not (st_val (SE.o (se_call 3 rfl (by decide +kernel) (sa_cons (se_var (i := 4) (by decide +kernel)) (sa_cons (se_call 1 rfl (by decide +kernel) (sa_cons (se_var (i := 1) (by decide +kernel)) (sa_cons se_int sa_nil))) sa_nil)))))) (sss_one (ss_ret se_bl)) sss_nil)
    (sss_cons (ss_asg (i := 5) (SF.e (sf_dict (SF.o (sf_lc [("at", 9)]  (si_range1 (se_add (SE.o se_int) (SE.o (se_call 1 rfl (by decide +kernel) (sa_cons (se_var (i := 1) (by decide +kernel)) (sa_cons se_int sa_nil))))) (by decide +kernel) (show bl_law.contains "range" = true by decide +kernel)) (sg_n (i := 9) (by decide +kernel)) sts_nil (se_tup (sa_cons (se_add (SE.o se_str) (SE.o (se_toStr (so_rd (i := 9) (by decide +kernel)) (by decide +kernel) (show bl_law.contains "str" = true by decide +kernel)))) (sa_cons (se_call 1 rfl (by decide +kernel) (sa_cons (se_var (i := 1) (by decide +kernel)) (sa_cons se_int sa_nil))) sa_nil))) (by decide +kernel))) (by decide +kernel) (show bl_law.contains "dict" = true by decide +kernel))) (by decide +kernel))
    (sss_cons (ss_asg (i := 6) (SF.e (sf_dict (SF.o (sf_lc [("house", 10)]  (si_keys (se_var (i := 5) (by decide +kernel))) (sg_n (i := 10) (by decide +kernel)) (sts_one (st_cmp sc_gt (SE.o (se_call 1 rfl (by decide +kernel) (sa_cons (se_var (i := 1) (by decide +kernel)) (sa_cons se_int sa_nil)))) (SE.o se_int))) (se_tup (sa_cons (se_var (i := 10) (by decide +kernel)) (sa_cons (se_call 1 rfl (by decide +kernel) (sa_cons (se_var (i := 1) (by decide +kernel)) (sa_cons (se_var (i := 3) (by decide +kernel)) sa_nil))) sa_nil))) (by decide +kernel))) (by decide +kernel) (show bl_law.contains "dict" = true by decide +kernel))) (by decide +kernel))
    (sss_cons (ss_if (st_not (st_val (SE.o (se_call 4 rfl (by decide +kernel) (sa_cons (se_var (i := 6) (by decide +kernel)) (sa_cons (se_var (i := 5) (by decide +kernel)) sa_nil)))))) (sss_one (ss_ret se_bl)) sss_nil)
    (sss_one (ss_if (st_not (st_val (SE.o (se_call 5 rfl (by decide +kernel) (sa_cons (se_add (SE.o se_int) (SE.o (se_call 1 rfl (by decide +kernel) (sa_cons (se_var (i := 1) (by decide +kernel)) (sa_cons se_int sa_nil))))) (sa_cons (se_add (SE.o se_int) (SE.o (se_call 1 rfl (by decide +kernel) (sa_cons (se_var (i := 1) (by decide +kernel)) (sa_cons se_int sa_nil))))) sa_nil)))))) (sss_one (ss_ret se_bl)) sss_nil)))))))))))
    (sss_one (ss_ret se_bl)))

def st__law_draw : Stmt := top 38
def N__law_draw : List Str := ["stream", "many", "cell", "digit", "mixed"]
def s__law_draw : CtS := ⟨N__law_draw, defScope st__law_draw, fun _ => true⟩
def w__law_draw : WS := fun W S k => ∃ n : Int, S[0]? = some (.fz .stm) ∧ S[1]? = some (.fz (.int n)) ∧ S.length = 5 ∧ 0 < n ∧ n < 1073741824 ∧ k < 1000000 ∧ ∀ d : Int, 0 ≤ d → d < n → W.rt (.int d) (k + 1)
theorem sc__law_draw : FnScope N__law_draw ["stream", "many"] (defScope st__law_draw) := ⟨rfl, rfl, rfl, by decide +kernel, rfl, by decide +kernel, by decide +kernel⟩
section
variable {A : CtD} {X : Cx}
/-- stream[i] -/
theorem pe_cell (t : TX A s__law_draw X) {i : Int} {p1 p2 p3 : Pos} {j : Nat} : PE X (.Subscript (.Name "stream" p1) (.Constant (.int i) j p2) p3) (tOp (rIxL X.K) (tVar 0) (tC (.int i))) :=
  pe_ix ix_list (pe_var (i := 0) (by rw [t.hN]; rfl) (by rw [t.sc]; exact vis_of (by decide +kernel))) pe_int (by intro _ _; rfl)
end
theorem d__law_draw (A : CtD) (hb : A.bl.contains "int" = true) : SSs A s__law_draw (defBody st__law_draw) w__law_draw := by
  refine ⟨fun X t => ?_⟩
  have vn : ∀ {i : Nat} {x : Str} {p : Pos}, s__law_draw.N[i]? = some x → visB s__law_draw.sc x = true → (x == ("__debug__" : Str)) = false → (x == ("__classdict__" : Str)) = false → PE X (.Name x p) (tVar i) := fun h1 h2 h3 h4 =>
    pe_var (by rw [t.hN]; exact h1) (by rw [t.sc]; exact vis_of h2) h3 h4
  have hN : X.N.Nodup := by rw [t.hN]; decide +kernel
  have fs : ∀ x, X.fn x = true := fun x => t.fn x rfl
  have i0 : ∀ {x : Str}, glB s__law_draw x = true → Gl X x := fun h => (glB.gl h t).1
  refine pss_imp (
    pss_cons (ps_asg (pe_op op_add (pe_cell t) pe_int) (pg_sub (vn (i := 0) rfl (by decide +kernel) (by decide) (by decide)) pe_int set_list))
    (pss_cons (ps_while t.never (PW.pt (pw_and (pt_cmpR op_eq (pe_cell t) pe_int rfl) (pw_and1 (pt_cmpR (op_neD t.u64) (pe_cell t) (pe_lst pa_nil) rfl))))
      (pss_cons (ps_set (hf := .inl (fs _)) hN (i := 2) (x := "cell") (by rw [t.hN]; rfl) (lOk.loc (i := 2) (x := "cell") (by decide +kernel) t).2.1 (pe_bm F.plainAttrs_list F.slot_list_pop F.type_list_pop mt_popAt (pe_cell t) (pa_cons pe_int pa_nil)))
      (pss_cons (ps_asg (pe_op op_mod (pe_callTy call_int1 (i0 (by decide +kernel)) (blt t hb) (by decide +kernel) (pa_cons (pe_op op_add (pe_op op_add (pe_op op_mul (pe_cell t) pe_int) (vn (i := 2) rfl (by decide +kernel) (by decide) (by decide))) pe_int) pa_nil)) pe_int) (pg_sub (vn (i := 0) rfl (by decide +kernel) (by decide) (by decide)) pe_int set_list))
      (pss_one (ps_asg (pe_ifExp (pt_cmpR op_ge (vn (i := 2) rfl (by decide +kernel) (by decide) (by decide)) (pe_op op_pow pe_int pe_int) rfl) (vn (i := 2) rfl (by decide +kernel) (by decide) (by decide)) pe_int) (pg_sub (vn (i := 0) rfl (by decide +kernel) (by decide) (by decide)) pe_int set_list))))))
    (pss_cons (ps_if (pt_cmpR op_gt (pe_cell t) pe_int rfl)
      (pss_cons (ps_set (hf := .inl (fs _)) hN (i := 3) (x := "digit") (by rw [t.hN]; rfl) (lOk.loc (i := 3) (x := "digit") (by decide +kernel) t).2.1 (pe_op op_mod (pe_callTy call_int1 (i0 (by decide +kernel)) (blt t hb) (by decide +kernel) (pa_cons (pe_cell t) pa_nil)) (vn (i := 1) rfl (by decide +kernel) (by decide) (by decide))))
      (pss_cons (ps_asg (pe_op op_fdiv (pe_cell t) (vn (i := 1) rfl (by decide +kernel) (by decide) (by decide))) (pg_sub (vn (i := 0) rfl (by decide +kernel) (by decide) (by decide)) pe_int set_list))
      (pss_one (ps_ret (vn (i := 3) rfl (by decide +kernel) (by decide) (by decide)))))) pss_nil)
    (pss_cons (ps_set (hf := .inl (fs _)) hN (i := 4) (x := "mixed") (by rw [t.hN]; rfl) (lOk.loc (i := 4) (x := "mixed") (by decide +kernel) t).2.1 (pe_op op_mod (pe_callTy call_int1 (i0 (by decide +kernel)) (blt t hb) (by decide +kernel) (pa_cons (pe_op op_pow (pe_op op_add (pe_op op_add (pe_cell t) (pe_op op_mul pe_int (pe_cell t))) pe_int) pe_int) pa_nil)) pe_int))
    (pss_one (ps_ret (pe_op op_mod (pe_op op_mod (pe_callTy call_int1 (i0 (by decide +kernel)) (blt t hb) (by decide +kernel) (pa_cons (pe_op op_pow (pe_op op_add (pe_op op_add (pe_op op_mul (vn (i := 4) rfl (by decide +kernel) (by decide) (by decide)) pe_int) (pe_op op_mul pe_int (pe_cell t))) pe_int) pe_int) pa_nil)) pe_int) (vn (i := 1) rfl (by decide +kernel) (by decide) (by decide)))))))) ) ?_
  intro D σ H ⟨Hb, S, k, W, d, r, n, hS0, hS1, hlen, n0, nb, hk, fin⟩
  obtain ⟨v0, hv0, r0⟩ := d.sl 0 _ hS0
  obtain ⟨v1, hv1, r1⟩ := d.sl 1 _ hS1
  obtain rfl : v0 = .ref A.a := by
    cases r0 with
    | frz h r => cases r
    | stm => rfl
  obtain rfl : v1 = .int n := (RepO.r r1 : RepO A.a A.b _ _ _).int
  obtain ⟨xs, c, t0, m, e1, e2, e3, e4, e5, e6, e7, e8, e9, e10⟩ := d.amb.ex
  have ne := d.amb.ne
  have z : Sd A H n σ H xs c t0 m := ⟨hv0, hv1, by rw [← d.len]; exact hlen, e1, e2, fun _ _ _ _ e => e, fun _ e => e⟩
  have b : Bd xs c m := ⟨e3, e4, e5, e8, e9, e10⟩
  refine z.rdO rfl ⟨_, _, rfl, rfl, ?_⟩
  refine z.wr (i := 2) (j := 2) rfl rfl ne fun H1 z1 => ?_
  refine draw_while ne z1 b fun σ2 H2 xs2 c2 m2 z2 b2 => ?_
  refine draw_rest ne z2 b2 n0 nb (by omega) (by omega) fun σ3 H3 xs3 c3 m3 dd z3 b3 d0 dn => ?_
  exact r.rt _ (k + 1) _ H3 (d.up.trans z3.up) (z3.amb d.amb b3 (by omega) (by omega)) (.int _) (fin dd d0 dn)

def st__law_start : Stmt := top 37
theorem sc__law_start : FnScope ["script"] ["script"] (defScope st__law_start) := ⟨rfl, rfl, rfl, by decide +kernel, rfl, by decide +kernel, by decide +kernel⟩
section
variable {P : Program} {w : World} {K : PySem.W.Frag} {mg : Str → Option Value} {base : Heap} {T : List (Addr × Str)} {h : Heap}
theorem start_ok {f : Addr} {oc : Value} {od an : Option Addr} {osl : Array (Option Value)} {kV doc pm cdv ct : Value} (lk : K.lookup f = some ⟨oc, od, .func (PySem.W.fnOf "_law_start" "_law_start" (defArgs st__law_start) (defBody st__law_start) (defScope st__law_start) .none kV doc pm an cdv ct), osl⟩)
    (hcd : PySem.W.codeIn K cdv "_law_start" = true) (hl : mg "list" = none) : FnOk P w K mg base CX0 9 f (PySem.W.fnOf "_law_start" "_law_start" (defArgs st__law_start) (defBody st__law_start) (defScope st__law_start) .none kV doc pm an cdv ct) ["script"] (spStart K) := by
  refine fn_of lk hcd sc__law_start (fun vs H Q E ⟨a0, ns, e, _⟩ => by rw [e]; rfl) fun A0 outer s H vs Q E hr hh => ?_
  obtain ⟨a0, ns, rfl, hlen, hS, hq⟩ := hh
  refine ⟨_, PSs.nox (pss_one (ps_ret (pe_lst (pa_cons (pe_callTy call_list_of (by show (defScope st__law_start).names.lookup _ = _; decide +kernel) hl (by decide +kernel) (pa_cons (pe_var (i := 0) rfl (vis_of (show visB (defScope st__law_start) "script" = true by decide +kernel)) (by decide) (by decide)) pa_nil (by rfl))) (pa_cons pe_int (pa_cons pe_int (pa_cons pe_int pa_nil))))))), ?_⟩
  refine ⟨.ref a0, rfl, ?_⟩
  refine ⟨a0, _, rfl, .inl hS, fun c hc => ?_⟩
  refine ⟨(show (4 : Nat) ≤ sizeLine by decide), fun a ha => ?_⟩
  have hca : c ≠ a := by
    rintro rfl
    rw [upd_same] at ha; cases ha
  exact hq c a hc (by rw [upd_ne (Ne.symm hca)] at ha; exact ha) hca
/-- where a def stands -/
def DefK (K : PySem.W.Frag) (x : Str) (st : Stmt) : Prop := ∃ (f : Addr) (oc : Value) (od : Option Addr) (osl : Array (Option Value)) (kV doc pm : Value) (an : Option Addr) (cdv ct : Value),
  PySem.W.nsIn K mainGlobals x = some (some (.ref f)) ∧ K.lookup f = some ⟨oc, od, .func (PySem.W.fnOf x x (defArgs st) (defBody st) (defScope st) .none kV doc pm an cdv ct), osl⟩ ∧ PySem.W.codeIn K cdv x = true ∧ PySem.W.keepIn K (.ref f) = true
theorem DefK.mk {x : Str} {st : Stmt} {f : Addr} {oc : Value} {od : Option Addr} {osl : Array (Option Value)} {kV doc pm : Value} {an : Option Addr} {cdv ct : Value} (h1 : PySem.W.nsIn K mainGlobals x = some (some (.ref f)))
    (h2 : K.lookup f = some ⟨oc, od, .func (PySem.W.fnOf x x (defArgs st) (defBody st) (defScope st) .none kV doc pm an cdv ct), osl⟩) (h3 : PySem.W.codeIn K cdv x = true) (h4 : PySem.W.keepIn K (.ref f) = true) : DefK K x st := ⟨f, oc, od, osl, kV, doc, pm, an, cdv, ct, h1, h2, h3, h4⟩
theorem fcK {x : Str} {st : Stmt} {N ps : List Str} {n k : Nat} {τ : TSp} {wf : WS} {fns : List (Str × Nat × TSp)} {bl : List Str} (X : K.In h) (G : h.Ns mainGlobals mg) (D : DefK K x st)
    (hb : ∀ (kV doc pm : Value) (an : Option Addr) (cdv ct : Value) (us : List Value), us.length = ps.length → bindArgs (PySem.W.fnOf x x (defArgs st) (defBody st) (defScope st) .none kV doc pm an cdv ct) ⟨us, []⟩ = pure (ps.zip us)) (S : FnScope N ps (defScope st)) (hn : ps.length = n) (hk : 8 ≤ k)
    (d : ∀ a b, SSs { a := a, b := b, fns := fns, bl := bl } ⟨N, defScope st, fun _ => true⟩ (defBody st) wf) (hbl : ∀ x ∈ bl, mg x = none) (hf : ∀ e ∈ fns, FC P w K mg base T k e)
    (hl : ∀ (ps : List PV) (k : Nat) (R : PK), ps.length = n → τ ps k R → wf { nx := fun _ k => R .non k, rt := R } (startS N.length ps) k) : FC P w K mg base T (k + 1) (x, n, τ) := by
  obtain ⟨f, oc, od, osl, kV, doc, pm, an, cdv, ct, h1, h2, h3, h4⟩ := D
  exact fc (tb := none) (PySem.W.mg_of X G h1) h2 h3 h4 ((fun_mk h2 h3 h4).binds hb) S hn hk (fun Pt q z => by cases z) d hbl hf hl
theorem fcKt {x : Str} {st : Stmt} {N ps : List Str} {n k : Nat} {τ : TSp} {wf : WS} {fns : List (Str × Nat × TSp)} {bl : List Str} {c Pt : Addr} {q : Str} (X : K.In h) (G : h.Ns mainGlobals mg) (D : DefK K x st) (ht : PySem.W.tabIn K x = some (c, Pt)) (hT : T = [(Pt, q)]) (hq : x ++ ".<locals>." ++ "<lambda>" = q) (tb : LamX.TabB base mg c Pt)
    (hb : ∀ (kV doc pm : Value) (an : Option Addr) (cdv ct : Value) (us : List Value), us.length = ps.length → bindArgs (PySem.W.fnOf x x (defArgs st) (defBody st) (defScope st) .none kV doc pm an cdv ct) ⟨us, []⟩ = pure (ps.zip us)) (S : FnScope N ps (defScope st)) (hn : ps.length = n) (hk : 8 ≤ k)
    (d : ∀ a b, SSs { a := a, b := b, fns := fns, bl := bl, tb := some (Pt, q) } ⟨N, defScope st, fun _ => true⟩ (defBody st) wf) (hbl : ∀ x ∈ bl, mg x = none) (hf : ∀ e ∈ fns, FC P w K mg base T k e)
    (hl : ∀ (ps : List PV) (k : Nat) (R : PK), ps.length = n → τ ps k R → wf { nx := fun _ k => R .non k, rt := R } (startS N.length ps) k) : FC P w K mg base T (k + 1) (x, n, τ) := by
  obtain ⟨f, oc, od, osl, kV, doc, pm, an, cdv, ct, h1, h2, h3, h4⟩ := D
  have hc : cdv = .ref c := PySem.W.law_code X G ht (PySem.W.mg_of X G h1) (X _ _ h2) rfl
  refine fc (tb := some (Pt, q)) (PySem.W.mg_of X G h1) h2 h3 h4 ((fun_mk h2 h3 h4).binds hb) S hn hk (fun Pt' q' z => ?_) d hbl hf hl
  cases z
  subst hT
  exact ⟨List.mem_cons_self .., fun p hp _ => by rw [List.mem_singleton.mp hp], hq, c, hc, tb⟩
theorem fcNo {x : Str} {st : Stmt} {ps : List Str} {n : Nat} (X : K.In h) (G : h.Ns mainGlobals mg) (D : DefK K x st) (hn : ps.length = n)
    (hb : ∀ (kV doc pm : Value) (an : Option Addr) (cdv ct : Value) (us : List Value), us.length = ps.length → bindArgs (PySem.W.fnOf x x (defArgs st) (defBody st) (defScope st) .none kV doc pm an cdv ct) ⟨us, []⟩ = pure (ps.zip us)) : FC P w K mg base T 8 (x, n, PH.t_no) := by
  obtain ⟨f, oc, od, osl, kV, doc, pm, an, cdv, ct, h1, h2, h3, h4⟩ := D
  refine ⟨f, _, ps, 8, PySem.W.mg_of X G h1, h4, (fun_mk h2 h3 h4).binds hb, hn, Nat.le_refl _, fun a b _ => ⟨fun vs H Q E z => ?_, fun A outer s H args us vs Q E _ _ _ _ z => ?_⟩⟩
  · obtain ⟨_, _, _, _, _, _, z, _⟩ := z
    exact z.elim
  · obtain ⟨_, _, _, _, _, _, z, _⟩ := z
    exact z.elim
theorem ball_nil {α : Type} {p : α → Prop} : ∀ x ∈ ([] : List α), p x := fun _ hx => by cases hx
theorem ball_cons {α : Type} {p : α → Prop} {a : α} {l : List α} (h : p a) (t : ∀ x ∈ l, p x) : ∀ x ∈ a :: l, p x := fun x hx => by
  rcases List.mem_cons.mp hx with rfl | hx
  · exact h
  · exact t x hx
end

theorem all_mk {w : World} {K : PySem.W.Frag} {h : Heap} {mg : Str → Option Value} {fa : Addr} (X : K.In h) (G : h.Ns mainGlobals mg) (hfa : mg "law" = some (.ref fa))
    (D__law_start : DefK K "_law_start" st__law_start)
    (D__law_draw : DefK K "_law_draw" st__law_draw)
    (D_is_list : DefK K "is_list" st_is_list)
    (D_is_integer : DefK K "is_integer" st_is_integer)
    (D_is_number : DefK K "is_number" st_is_number)
    (D_is_name : DefK K "is_name" st_is_name)
    (D_is_one_of : DefK K "is_one_of" st_is_one_of)
    (D_are_floors : DefK K "are_floors" st_are_floors)
    (D_is_market : DefK K "is_market" st_is_market)
    (D_checked_market : DefK K "checked_market" st_checked_market)
    (D_surplus_of : DefK K "surplus_of" st_surplus_of)
    (D_sum_of : DefK K "sum_of" st_sum_of)
    (D_best_way : DefK K "best_way" st_best_way)
    (D_best_by : DefK K "best_by" st_best_by)
    (D_best_of : DefK K "best_of" st_best_of)
    (D_greatest_of : DefK K "greatest_of" st_greatest_of)
    (D_greatest_sum : DefK K "greatest_sum" st_greatest_sum)
    (D_without_buyer : DefK K "without_buyer" st_without_buyer)
    (D_without_house : DefK K "without_house" st_without_house)
    (D_pairs_in_some : DefK K "pairs_in_some" st_pairs_in_some)
    (D_in_some : DefK K "in_some" st_in_some)
    (D_buyer_margin : DefK K "buyer_margin" st_buyer_margin)
    (D_least_of : DefK K "least_of" st_least_of)
    (D_greatest_by : DefK K "greatest_by" st_greatest_by)
    (D_least_prices : DefK K "least_prices" st_least_prices)
    (D_greatest_prices : DefK K "greatest_prices" st_greatest_prices)
    (D_all_best : DefK K "all_best" st_all_best)
    (D_best_count : DefK K "best_count" st_best_count)
    (D__law_pick : DefK K "_law_pick" st__law_pick)
    (D__law_copied : DefK K "_law_copied" st__law_copied)
    (D__law_same : DefK K "_law_same" st__law_same)
    (D__law_like_right : DefK K "_law_like_right" st__law_like_right)
    (D__law_one_house_right : DefK K "_law_one_house_right" st__law_one_house_right)
    (D__law_one_buyer_right : DefK K "_law_one_buyer_right" st__law_one_buyer_right)
    (D__law_ladder_right : DefK K "_law_ladder_right" st__law_ladder_right)
    (D_law : DefK K "law" st_law)
    (Z_isinstance : PySem.W.nsIn K mainGlobals "isinstance" = some none)
    (Z_tuple : PySem.W.nsIn K mainGlobals "tuple" = some none)
    (Z_list : PySem.W.nsIn K mainGlobals "list" = some none)
    (Z_int : PySem.W.nsIn K mainGlobals "int" = some none)
    (Z_bool : PySem.W.nsIn K mainGlobals "bool" = some none)
    (Z_str : PySem.W.nsIn K mainGlobals "str" = some none)
    (Z_len : PySem.W.nsIn K mainGlobals "len" = some none)
    (Z_all : PySem.W.nsIn K mainGlobals "all" = some none)
    (Z_dict : PySem.W.nsIn K mainGlobals "dict" = some none)
    (Z_sorted : PySem.W.nsIn K mainGlobals "sorted" = some none)
    (Z_sum : PySem.W.nsIn K mainGlobals "sum" = some none)
    (Z_range : PySem.W.nsIn K mainGlobals "range" = some none)
    (Z_max : PySem.W.nsIn K mainGlobals "max" = some none)
    (Z_zip : PySem.W.nsIn K mainGlobals "zip" = some none)
    (Z_min : PySem.W.nsIn K mainGlobals "min" = some none)
    (Z_enumerate : PySem.W.nsIn K mainGlobals "enumerate" = some none)
    {c Pt : Addr} (ht : PySem.W.tabIn K "best_way" = some (c, Pt)) (hc : PySem.W.codeHdIn K c Pt = true) (hP : h.get? Pt = some { cls := .none, data := .fields #[] }) (hK : K.lookup Pt = none)
    : LamX.LawAtS PySem.Challenge.rw_pricedhouses_k92_whole_known_markets w K CX0 60 63 "script" mg fa h := by
  have z_isinstance := PySem.W.mg_none_of X G Z_isinstance
  have z_tuple := PySem.W.mg_none_of X G Z_tuple
  have z_list := PySem.W.mg_none_of X G Z_list
  have z_int := PySem.W.mg_none_of X G Z_int
  have z_bool := PySem.W.mg_none_of X G Z_bool
  have z_str := PySem.W.mg_none_of X G Z_str
  have z_len := PySem.W.mg_none_of X G Z_len
  have z_all := PySem.W.mg_none_of X G Z_all
  have z_dict := PySem.W.mg_none_of X G Z_dict
  have z_sorted := PySem.W.mg_none_of X G Z_sorted
  have z_sum := PySem.W.mg_none_of X G Z_sum
  have z_range := PySem.W.mg_none_of X G Z_range
  have z_max := PySem.W.mg_none_of X G Z_max
  have z_zip := PySem.W.mg_none_of X G Z_zip
  have z_min := PySem.W.mg_none_of X G Z_min
  have z_enumerate := PySem.W.mg_none_of X G Z_enumerate
  obtain ⟨fl, ocl, odl, osl, kVl, docl, pml, anl, cdl, ctl, l1, l2, l3, l4⟩ := D_law
  have e := hfa.symm.trans (PySem.W.mg_of X G l1)
  cases e
  obtain ⟨fs, ocs, ods, oss, kVs, docs, pms, ans, cds, cts, s1, s2, s3, s4⟩ := D__law_start
  refine ⟨PySem.W.fnOf "law" "law" (defArgs st_law) (defBody st_law) (defScope st_law) .none kVl docl pml anl cdl ctl, [(c, Pt)], spLawT K [(Pt, "best_way" ++ ".<locals>." ++ "<lambda>")], fun p hp => ?_, fun p hp => ?_, fun p hp => ?_, fun s v => .of_eq rfl, fun H a ns hl hb hT hS => ⟨a, ns, rfl, hl, hb, fun p hp => ?_, hS, fun _ => rfl⟩, fun base KB NB TB => ?_⟩
  · rw [List.mem_singleton.mp hp]; exact hP
  · rw [List.mem_singleton.mp hp]; exact hK
  · rw [List.mem_singleton.mp hp]; exact PySem.W.codeHd_of_K X hc
  · rw [List.mem_singleton.mp hp]; exact hT (c, Pt) (List.mem_singleton.mpr rfl)
  have tb := TB (c, Pt) (List.mem_singleton.mpr rfl)
  generalize hTT : [(Pt, ("best_way" ++ ".<locals>." ++ "<lambda>" : Str))] = TT
  have c__law_draw : FC PySem.Challenge.rw_pricedhouses_k92_whole_known_markets.prog w K mg base TT 9 ("_law_draw", 2, PH.t__law_draw) := fcK X G D__law_draw (fun _ _ _ _ _ _ us hl => match us, hl with | [_, _], _ => rfl) sc__law_draw rfl (by decide) (fun a b => d__law_draw { a := a, b := b, fns := [], bl := ["int"] } (show (["int"] : List Str).contains "int" = true by decide +kernel)) (ball_cons z_int ball_nil) ball_nil (fun ps k R hl h => by
    obtain ⟨n, rfl, n0, nb, hk, hR⟩ := h
    exact ⟨n, rfl, rfl, rfl, n0, nb, hk, hR⟩)
  have c__law_pick : FC PySem.Challenge.rw_pricedhouses_k92_whole_known_markets.prog w K mg base TT 10 ("_law_pick", 2, PH.t__law_pick) := fcK X G D__law_pick (fun _ _ _ _ _ _ us hl => match us, hl with | [_, _], _ => rfl) sc__law_pick rfl (by decide) (fun a b => d__law_pick PH.t__law_draw a b) (ball_cons z_len ball_nil) (ball_cons (c__law_draw.mono (by decide)) ball_nil) PH.l__law_pick
  have c__law_copied_no := fcNo (P := PySem.Challenge.rw_pricedhouses_k92_whole_known_markets.prog) (w := w) (base := base) (T := TT) (n := 1) (ps := ["thing"]) X G D__law_copied rfl (fun _ _ _ _ _ _ us hl => match us, hl with | [_], _ => rfl)
  have c__law_copied_0 : FC PySem.Challenge.rw_pricedhouses_k92_whole_known_markets.prog w K mg base TT 9 ("_law_copied", 1, PH.t_copy 0) := fcK X G D__law_copied (fun _ _ _ _ _ _ us hl => match us, hl with | [_], _ => rfl) sc__law_copied rfl (by decide) (fun a b => d__law_copied PH.t_no a b) (ball_cons z_isinstance (ball_cons z_dict (ball_cons z_tuple (ball_cons z_list ball_nil)))) (ball_cons (c__law_copied_no.mono (by decide)) ball_nil) (PH.l_copy0 _)
  have c__law_copied_1 : FC PySem.Challenge.rw_pricedhouses_k92_whole_known_markets.prog w K mg base TT 10 ("_law_copied", 1, PH.t_copy 1) := fcK X G D__law_copied (fun _ _ _ _ _ _ us hl => match us, hl with | [_], _ => rfl) sc__law_copied rfl (by decide) (fun a b => d__law_copied (PH.t_copy 0) a b) (ball_cons z_isinstance (ball_cons z_dict (ball_cons z_tuple (ball_cons z_list ball_nil)))) (ball_cons (c__law_copied_0.mono (by decide)) ball_nil) (PH.l_copy 0)
  have c__law_copied_2 : FC PySem.Challenge.rw_pricedhouses_k92_whole_known_markets.prog w K mg base TT 11 ("_law_copied", 1, PH.t_copy 2) := fcK X G D__law_copied (fun _ _ _ _ _ _ us hl => match us, hl with | [_], _ => rfl) sc__law_copied rfl (by decide) (fun a b => d__law_copied (PH.t_copy 1) a b) (ball_cons z_isinstance (ball_cons z_dict (ball_cons z_tuple (ball_cons z_list ball_nil)))) (ball_cons (c__law_copied_1.mono (by decide)) ball_nil) (PH.l_copy 1)
  have c__law_copied_3 : FC PySem.Challenge.rw_pricedhouses_k92_whole_known_markets.prog w K mg base TT 12 ("_law_copied", 1, PH.t_copy 3) := fcK X G D__law_copied (fun _ _ _ _ _ _ us hl => match us, hl with | [_], _ => rfl) sc__law_copied rfl (by decide) (fun a b => d__law_copied (PH.t_copy 2) a b) (ball_cons z_isinstance (ball_cons z_dict (ball_cons z_tuple (ball_cons z_list ball_nil)))) (ball_cons (c__law_copied_2.mono (by decide)) ball_nil) (PH.l_copy 2)
  have c_is_list : FC PySem.Challenge.rw_pricedhouses_k92_whole_known_markets.prog w K mg base TT 9 ("is_list", 1, PH.t_is_list) := fcK X G D_is_list (fun _ _ _ _ _ _ us hl => match us, hl with | [_], _ => rfl) sc_is_list rfl (by decide) (fun a b => d_is_list  a b) (ball_cons z_isinstance (ball_cons z_tuple (ball_cons z_list ball_nil))) ball_nil PH.l_is_list
  have c_is_name : FC PySem.Challenge.rw_pricedhouses_k92_whole_known_markets.prog w K mg base TT 9 ("is_name", 1, PH.t_is_name) := fcK X G D_is_name (fun _ _ _ _ _ _ us hl => match us, hl with | [_], _ => rfl) sc_is_name rfl (by decide) (fun a b => d_is_name  a b) (ball_cons z_isinstance (ball_cons z_str (ball_cons z_len (ball_cons z_all ball_nil)))) ball_nil PH.l_is_name
  have c_is_integer : FC PySem.Challenge.rw_pricedhouses_k92_whole_known_markets.prog w K mg base TT 9 ("is_integer", 1, PH.t_is_integer) := fcK X G D_is_integer (fun _ _ _ _ _ _ us hl => match us, hl with | [_], _ => rfl) sc_is_integer rfl (by decide) (fun a b => d_is_integer  a b) (ball_cons z_isinstance (ball_cons z_int (ball_cons z_bool ball_nil))) ball_nil PH.l_is_integer
  have c_is_number : FC PySem.Challenge.rw_pricedhouses_k92_whole_known_markets.prog w K mg base TT 10 ("is_number", 1, PH.t_is_number) := fcK X G D_is_number (fun _ _ _ _ _ _ us hl => match us, hl with | [_], _ => rfl) sc_is_number rfl (by decide) (fun a b => d_is_number PH.t_is_integer a b) ball_nil (ball_cons (c_is_integer.mono (by decide)) ball_nil) PH.l_is_number
  have c_are_floors : FC PySem.Challenge.rw_pricedhouses_k92_whole_known_markets.prog w K mg base TT 11 ("are_floors", 1, PH.t_are_floors) := fcK X G D_are_floors (fun _ _ _ _ _ _ us hl => match us, hl with | [_], _ => rfl) sc_are_floors rfl (by decide) (fun a b => d_are_floors PH.t_is_name PH.t_is_number a b) (ball_cons z_isinstance (ball_cons z_dict (ball_cons z_all ball_nil))) (ball_cons (c_is_name.mono (by decide)) (ball_cons (c_is_number.mono (by decide)) ball_nil)) PH.l_are_floors
  have c_is_market : FC PySem.Challenge.rw_pricedhouses_k92_whole_known_markets.prog w K mg base TT 12 ("is_market", 1, PH.t_is_market) := fcK X G D_is_market (fun _ _ _ _ _ _ us hl => match us, hl with | [_], _ => rfl) sc_is_market rfl (by decide) (fun a b => d_is_market PH.t_is_list PH.t_are_floors PH.t_is_name PH.t_is_number a b) (ball_cons z_len (ball_cons z_isinstance (ball_cons z_dict (ball_cons z_all ball_nil)))) (ball_cons (c_is_list.mono (by decide)) (ball_cons (c_are_floors.mono (by decide)) (ball_cons (c_is_name.mono (by decide)) (ball_cons (c_is_number.mono (by decide)) ball_nil)))) PH.l_is_market
  have c_checked_market : FC PySem.Challenge.rw_pricedhouses_k92_whole_known_markets.prog w K mg base TT 13 ("checked_market", 1, PH.t_checked_market) := fcK X G D_checked_market (fun _ _ _ _ _ _ us hl => match us, hl with | [_], _ => rfl) sc_checked_market rfl (by decide) (fun a b => d_checked_market PH.t_is_market a b) (ball_cons z_sorted ball_nil) (ball_cons (c_is_market.mono (by decide)) ball_nil) PH.l_checked_market
  have c_surplus_of : FC PySem.Challenge.rw_pricedhouses_k92_whole_known_markets.prog w K mg base TT 9 ("surplus_of", 1, PH.t_surplus_of) := fcK X G D_surplus_of (fun _ _ _ _ _ _ us hl => match us, hl with | [_], _ => rfl) sc_surplus_of rfl (by decide) (fun a b => d_surplus_of  a b) ball_nil ball_nil PH.l_surplus_of
  have c_best_way : FC PySem.Challenge.rw_pricedhouses_k92_whole_known_markets.prog w K mg base TT 9 ("best_way", 4, PH.t_best_way) := fcKt X G D_best_way ht hTT.symm rfl tb (fun _ _ _ _ _ _ us hl => match us, hl with | [_, _, _, _], _ => rfl) sc_best_way rfl (by decide) (fun a b => d_best_way  Pt _ a b) (ball_cons z_len (ball_cons z_range (ball_cons z_max ball_nil))) ball_nil PH.l_best_way
  have c_best_by : FC PySem.Challenge.rw_pricedhouses_k92_whole_known_markets.prog w K mg base TT 10 ("best_by", 3, PH.t_best_by) := fcK X G D_best_by (fun _ _ _ _ _ _ us hl => match us, hl with | [_, _, _], _ => rfl) sc_best_by rfl (by decide) (fun a b => d_best_by PH.t_best_way a b) (ball_cons z_dict ball_nil) (ball_cons (c_best_way.mono (by decide)) ball_nil) PH.l_best_by
  have c_best_of : FC PySem.Challenge.rw_pricedhouses_k92_whole_known_markets.prog w K mg base TT 11 ("best_of", 1, PH.t_best_of) := fcK X G D_best_of (fun _ _ _ _ _ _ us hl => match us, hl with | [_], _ => rfl) sc_best_of rfl (by decide) (fun a b => d_best_of PH.t_surplus_of PH.t_best_by a b) (ball_cons z_list ball_nil) (ball_cons (c_surplus_of.mono (by decide)) (ball_cons (c_best_by.mono (by decide)) ball_nil)) PH.l_best_of
  have c_sum_of : FC PySem.Challenge.rw_pricedhouses_k92_whole_known_markets.prog w K mg base TT 9 ("sum_of", 2, PH.t_sum_of) := fcK X G D_sum_of (fun _ _ _ _ _ _ us hl => match us, hl with | [_, _], _ => rfl) sc_sum_of rfl (by decide) (fun a b => d_sum_of  a b) (ball_cons z_sum ball_nil) ball_nil PH.l_sum_of
  have c_greatest_of : FC PySem.Challenge.rw_pricedhouses_k92_whole_known_markets.prog w K mg base TT 12 ("greatest_of", 1, PH.t_greatest_of) := fcK X G D_greatest_of (fun _ _ _ _ _ _ us hl => match us, hl with | [_], _ => rfl) sc_greatest_of rfl (by decide) (fun a b => d_greatest_of PH.t_best_of PH.t_sum_of a b) ball_nil (ball_cons (c_best_of.mono (by decide)) (ball_cons (c_sum_of.mono (by decide)) ball_nil)) PH.l_greatest_of
  have c_greatest_sum : FC PySem.Challenge.rw_pricedhouses_k92_whole_known_markets.prog w K mg base TT 14 ("greatest_sum", 1, PH.t_greatest_sum') := fcK X G D_greatest_sum (fun _ _ _ _ _ _ us hl => match us, hl with | [_], _ => rfl) sc_greatest_sum rfl (by decide) (fun a b => d_greatest_sum PH.t_checked_market PH.t_greatest_of a b) ball_nil (ball_cons (c_checked_market.mono (by decide)) (ball_cons (c_greatest_of.mono (by decide)) ball_nil)) PH.l_greatest_sum'
  have c_least_of : FC PySem.Challenge.rw_pricedhouses_k92_whole_known_markets.prog w K mg base TT 12 ("least_of", 1, PH.t_least_of) := fcK X G D_least_of (fun _ _ _ _ _ _ us hl => match us, hl with | [_], _ => rfl) sc_least_of rfl (by decide) (fun a b => d_least_of PH.t_best_of a b) ball_nil (ball_cons (c_best_of.mono (by decide)) ball_nil) PH.l_least_of
  have c_least_prices : FC PySem.Challenge.rw_pricedhouses_k92_whole_known_markets.prog w K mg base TT 14 ("least_prices", 1, PH.t_least_prices) := fcK X G D_least_prices (fun _ _ _ _ _ _ us hl => match us, hl with | [_], _ => rfl) sc_least_prices rfl (by decide) (fun a b => d_least_prices PH.t_checked_market PH.t_least_of a b) ball_nil (ball_cons (c_checked_market.mono (by decide)) (ball_cons (c_least_of.mono (by decide)) ball_nil)) PH.l_least_prices
  have c_greatest_by : FC PySem.Challenge.rw_pricedhouses_k92_whole_known_markets.prog w K mg base TT 12 ("greatest_by", 1, PH.t_greatest_by) := fcK X G D_greatest_by (fun _ _ _ _ _ _ us hl => match us, hl with | [_], _ => rfl) sc_greatest_by rfl (by decide) (fun a b => d_greatest_by PH.t_best_of a b) ball_nil (ball_cons (c_best_of.mono (by decide)) ball_nil) PH.l_greatest_by
  have c_greatest_prices : FC PySem.Challenge.rw_pricedhouses_k92_whole_known_markets.prog w K mg base TT 14 ("greatest_prices", 1, PH.t_greatest_prices) := fcK X G D_greatest_prices (fun _ _ _ _ _ _ us hl => match us, hl with | [_], _ => rfl) sc_greatest_prices rfl (by decide) (fun a b => d_greatest_prices PH.t_checked_market PH.t_greatest_by a b) ball_nil (ball_cons (c_checked_market.mono (by decide)) (ball_cons (c_greatest_by.mono (by decide)) ball_nil)) PH.l_greatest_prices
  have c__law_same_no := fcNo (P := PySem.Challenge.rw_pricedhouses_k92_whole_known_markets.prog) (w := w) (base := base) (T := TT) (n := 2) (ps := ["found", "due"]) X G D__law_same rfl (fun _ _ _ _ _ _ us hl => match us, hl with | [_, _], _ => rfl)
  have c__law_same_0 : FC PySem.Challenge.rw_pricedhouses_k92_whole_known_markets.prog w K mg base TT 9 ("_law_same", 2, PH.t_same 0) := fcK X G D__law_same (fun _ _ _ _ _ _ us hl => match us, hl with | [_, _], _ => rfl) sc__law_same rfl (by decide) (fun a b => d__law_same PH.t_no a b) (ball_cons z_isinstance (ball_cons z_tuple (ball_cons z_list (ball_cons z_len (ball_cons z_zip (ball_cons z_all (ball_cons z_dict (ball_cons z_int (ball_cons z_bool (ball_cons z_str ball_nil)))))))))) (ball_cons (c__law_same_no.mono (by decide)) ball_nil) (PH.l_same0 _)
  have c__law_same_1 : FC PySem.Challenge.rw_pricedhouses_k92_whole_known_markets.prog w K mg base TT 10 ("_law_same", 2, PH.t_same 1) := fcK X G D__law_same (fun _ _ _ _ _ _ us hl => match us, hl with | [_, _], _ => rfl) sc__law_same rfl (by decide) (fun a b => d__law_same (PH.t_same 0) a b) (ball_cons z_isinstance (ball_cons z_tuple (ball_cons z_list (ball_cons z_len (ball_cons z_zip (ball_cons z_all (ball_cons z_dict (ball_cons z_int (ball_cons z_bool (ball_cons z_str ball_nil)))))))))) (ball_cons (c__law_same_0.mono (by decide)) ball_nil) (PH.l_same 0)
  have c__law_same_2 : FC PySem.Challenge.rw_pricedhouses_k92_whole_known_markets.prog w K mg base TT 11 ("_law_same", 2, PH.t_same 2) := fcK X G D__law_same (fun _ _ _ _ _ _ us hl => match us, hl with | [_, _], _ => rfl) sc__law_same rfl (by decide) (fun a b => d__law_same (PH.t_same 1) a b) (ball_cons z_isinstance (ball_cons z_tuple (ball_cons z_list (ball_cons z_len (ball_cons z_zip (ball_cons z_all (ball_cons z_dict (ball_cons z_int (ball_cons z_bool (ball_cons z_str ball_nil)))))))))) (ball_cons (c__law_same_1.mono (by decide)) ball_nil) (PH.l_same 1)
  have c__law_same_3 : FC PySem.Challenge.rw_pricedhouses_k92_whole_known_markets.prog w K mg base TT 12 ("_law_same", 2, PH.t_same 3) := fcK X G D__law_same (fun _ _ _ _ _ _ us hl => match us, hl with | [_, _], _ => rfl) sc__law_same rfl (by decide) (fun a b => d__law_same (PH.t_same 2) a b) (ball_cons z_isinstance (ball_cons z_tuple (ball_cons z_list (ball_cons z_len (ball_cons z_zip (ball_cons z_all (ball_cons z_dict (ball_cons z_int (ball_cons z_bool (ball_cons z_str ball_nil)))))))))) (ball_cons (c__law_same_2.mono (by decide)) ball_nil) (PH.l_same 2)
  have c__law_same_4 : FC PySem.Challenge.rw_pricedhouses_k92_whole_known_markets.prog w K mg base TT 13 ("_law_same", 2, PH.t_same 4) := fcK X G D__law_same (fun _ _ _ _ _ _ us hl => match us, hl with | [_, _], _ => rfl) sc__law_same rfl (by decide) (fun a b => d__law_same (PH.t_same 3) a b) (ball_cons z_isinstance (ball_cons z_tuple (ball_cons z_list (ball_cons z_len (ball_cons z_zip (ball_cons z_all (ball_cons z_dict (ball_cons z_int (ball_cons z_bool (ball_cons z_str ball_nil)))))))))) (ball_cons (c__law_same_3.mono (by decide)) ball_nil) (PH.l_same 3)
  have c__law_same_5 : FC PySem.Challenge.rw_pricedhouses_k92_whole_known_markets.prog w K mg base TT 14 ("_law_same", 2, PH.t_same 5) := fcK X G D__law_same (fun _ _ _ _ _ _ us hl => match us, hl with | [_, _], _ => rfl) sc__law_same rfl (by decide) (fun a b => d__law_same (PH.t_same 4) a b) (ball_cons z_isinstance (ball_cons z_tuple (ball_cons z_list (ball_cons z_len (ball_cons z_zip (ball_cons z_all (ball_cons z_dict (ball_cons z_int (ball_cons z_bool (ball_cons z_str ball_nil)))))))))) (ball_cons (c__law_same_4.mono (by decide)) ball_nil) (PH.l_same 4)
  have c__law_like_right : FC PySem.Challenge.rw_pricedhouses_k92_whole_known_markets.prog w K mg base TT 15 ("_law_like_right", 4, PH.t_like) := fcK X G D__law_like_right (fun _ _ _ _ _ _ us hl => match us, hl with | [_, _, _, _], _ => rfl) sc__law_like_right rfl (by decide) (fun a b => d__law_like_right (PH.t_copy 3) PH.t_greatest_sum' PH.t_least_prices PH.t_greatest_prices (PH.t_same 5) a b) (ball_cons z_range (ball_cons z_str (ball_cons z_dict (ball_cons z_max (ball_cons z_min ball_nil))))) (ball_cons (c__law_copied_3.mono (by decide)) (ball_cons (c_greatest_sum.mono (by decide)) (ball_cons (c_least_prices.mono (by decide)) (ball_cons (c_greatest_prices.mono (by decide)) (ball_cons (c__law_same_5.mono (by decide)) ball_nil))))) PH.l_like
  have c_without_buyer : FC PySem.Challenge.rw_pricedhouses_k92_whole_known_markets.prog w K mg base TT 9 ("without_buyer", 2, PH.t_without_buyer) := fcK X G D_without_buyer (fun _ _ _ _ _ _ us hl => match us, hl with | [_, _], _ => rfl) sc_without_buyer rfl (by decide) (fun a b => d_without_buyer  a b) ball_nil ball_nil PH.l_without_buyer
  have c_without_house : FC PySem.Challenge.rw_pricedhouses_k92_whole_known_markets.prog w K mg base TT 9 ("without_house", 2, PH.t_without_house) := fcK X G D_without_house (fun _ _ _ _ _ _ us hl => match us, hl with | [_, _], _ => rfl) sc_without_house rfl (by decide) (fun a b => d_without_house  a b) ball_nil ball_nil PH.l_without_house
  have c_pairs_in_some : FC PySem.Challenge.rw_pricedhouses_k92_whole_known_markets.prog w K mg base TT 13 ("pairs_in_some", 1, PH.t_pairs_in_some) := fcK X G D_pairs_in_some (fun _ _ _ _ _ _ us hl => match us, hl with | [_], _ => rfl) sc_pairs_in_some rfl (by decide) (fun a b => d_pairs_in_some PH.t_greatest_of PH.t_surplus_of PH.t_without_buyer PH.t_without_house a b) ball_nil (ball_cons (c_greatest_of.mono (by decide)) (ball_cons (c_surplus_of.mono (by decide)) (ball_cons (c_without_buyer.mono (by decide)) (ball_cons (c_without_house.mono (by decide)) ball_nil)))) PH.l_pairs_in_some
  have c_in_some : FC PySem.Challenge.rw_pricedhouses_k92_whole_known_markets.prog w K mg base TT 14 ("in_some", 1, PH.t_in_some) := fcK X G D_in_some (fun _ _ _ _ _ _ us hl => match us, hl with | [_], _ => rfl) sc_in_some rfl (by decide) (fun a b => d_in_some PH.t_checked_market PH.t_pairs_in_some a b) ball_nil (ball_cons (c_checked_market.mono (by decide)) (ball_cons (c_pairs_in_some.mono (by decide)) ball_nil)) PH.l_in_some
  have c_all_best : FC PySem.Challenge.rw_pricedhouses_k92_whole_known_markets.prog w K mg base TT 13 ("all_best", 1, PH.t_all_best) := fcK X G D_all_best (fun _ _ _ _ _ _ us hl => match us, hl with | [_], _ => rfl) sc_all_best rfl (by decide) (fun a b => d_all_best PH.t_greatest_of PH.t_sum_of a b) ball_nil (ball_cons (c_greatest_of.mono (by decide)) (ball_cons (c_sum_of.mono (by decide)) ball_nil)) PH.l_all_best
  have c_best_count : FC PySem.Challenge.rw_pricedhouses_k92_whole_known_markets.prog w K mg base TT 14 ("best_count", 1, PH.t_best_count) := fcK X G D_best_count (fun _ _ _ _ _ _ us hl => match us, hl with | [_], _ => rfl) sc_best_count rfl (by decide) (fun a b => d_best_count PH.t_checked_market PH.t_all_best a b) (ball_cons z_len ball_nil) (ball_cons (c_checked_market.mono (by decide)) (ball_cons (c_all_best.mono (by decide)) ball_nil)) PH.l_best_count
  have c__law_one_house_right : FC PySem.Challenge.rw_pricedhouses_k92_whole_known_markets.prog w K mg base TT 15 ("_law_one_house_right", 2, PH.t_one) := fcK X G D__law_one_house_right (fun _ _ _ _ _ _ us hl => match us, hl with | [_, _], _ => rfl) sc__law_one_house_right rfl (by decide) (fun a b => d__law_one_house_right (PH.t_copy 3) PH.t_least_prices PH.t_greatest_prices PH.t_greatest_sum' (PH.t_same 5) PH.t_in_some PH.t_best_count a b) (ball_cons z_dict (ball_cons z_list (ball_cons z_sorted (ball_cons z_max (ball_cons z_len ball_nil))))) (ball_cons (c__law_copied_3.mono (by decide)) (ball_cons (c_least_prices.mono (by decide)) (ball_cons (c_greatest_prices.mono (by decide)) (ball_cons (c_greatest_sum.mono (by decide)) (ball_cons (c__law_same_5.mono (by decide)) (ball_cons (c_in_some.mono (by decide)) (ball_cons (c_best_count.mono (by decide)) ball_nil))))))) PH.l_one
  have c_is_one_of : FC PySem.Challenge.rw_pricedhouses_k92_whole_known_markets.prog w K mg base TT 9 ("is_one_of", 2, PH.t_is_one_of) := fcK X G D_is_one_of (fun _ _ _ _ _ _ us hl => match us, hl with | [_, _], _ => rfl) sc_is_one_of rfl (by decide) (fun a b => d_is_one_of  a b) (ball_cons z_isinstance (ball_cons z_str ball_nil)) ball_nil PH.l_is_one_of
  have c_buyer_margin : FC PySem.Challenge.rw_pricedhouses_k92_whole_known_markets.prog w K mg base TT 14 ("buyer_margin", 2, PH.t_buyer_margin) := fcK X G D_buyer_margin (fun _ _ _ _ _ _ us hl => match us, hl with | [_, _], _ => rfl) sc_buyer_margin rfl (by decide) (fun a b => d_buyer_margin PH.t_checked_market PH.t_is_one_of PH.t_greatest_of PH.t_without_buyer a b) ball_nil (ball_cons (c_checked_market.mono (by decide)) (ball_cons (c_is_one_of.mono (by decide)) (ball_cons (c_greatest_of.mono (by decide)) (ball_cons (c_without_buyer.mono (by decide)) ball_nil)))) PH.l_buyer_margin
  have c__law_one_buyer_right : FC PySem.Challenge.rw_pricedhouses_k92_whole_known_markets.prog w K mg base TT 15 ("_law_one_buyer_right", 2, PH.t_buyer) := fcK X G D__law_one_buyer_right (fun _ _ _ _ _ _ us hl => match us, hl with | [_, _], _ => rfl) sc__law_one_buyer_right rfl (by decide) (fun a b => d__law_one_buyer_right (PH.t_copy 3) PH.t_least_prices PH.t_greatest_prices PH.t_greatest_sum' PH.t_buyer_margin (PH.t_same 5) a b) (ball_cons z_dict (ball_cons z_sorted (ball_cons z_max (ball_cons z_len ball_nil)))) (ball_cons (c__law_copied_3.mono (by decide)) (ball_cons (c_least_prices.mono (by decide)) (ball_cons (c_greatest_prices.mono (by decide)) (ball_cons (c_greatest_sum.mono (by decide)) (ball_cons (c_buyer_margin.mono (by decide)) (ball_cons (c__law_same_5.mono (by decide)) ball_nil)))))) PH.l_buyer
  have c__law_ladder_right : FC PySem.Challenge.rw_pricedhouses_k92_whole_known_markets.prog w K mg base TT 15 ("_law_ladder_right", 2, PH.t_ladder) := fcK X G D__law_ladder_right (fun _ _ _ _ _ _ us hl => match us, hl with | [_, _], _ => rfl) sc__law_ladder_right rfl (by decide) (fun a b => d__law_ladder_right (PH.t_copy 3) PH.t_least_prices PH.t_greatest_sum' (PH.t_same 5) a b) (ball_cons z_range (ball_cons z_str (ball_cons z_enumerate (ball_cons z_dict (ball_cons z_sum ball_nil))))) (ball_cons (c__law_copied_3.mono (by decide)) (ball_cons (c_least_prices.mono (by decide)) (ball_cons (c_greatest_sum.mono (by decide)) (ball_cons (c__law_same_5.mono (by decide)) ball_nil)))) PH.l_ladder
  have Fs := start_ok (P := PySem.Challenge.rw_pricedhouses_k92_whole_known_markets.prog) (w := w) (base := base) s2 s3 z_list
  have bs : Binds K _ ["script"] [] := (fun_mk s2 s3 s4).binds (ps := ["script"]) fun _ _ _ _ _ _ us hl => match us, hl with | [_], _ => rfl
  refine (law_ok (k := 15) l2 l3 sc_law rfl rfl rfl rfl rfl (by decide +kernel) (by decide +kernel) (by unfold L2.Loc; decide +kernel) (by decide) (by intro _; rfl) (PySem.W.mg_of X G s1) s4 bs (Fs.mono (by decide)) (by decide) (fun a b => d_law PH.t__law_pick PH.t__law_draw PH.t_like PH.t_one PH.t_buyer PH.t_ladder a b) (ball_cons z_range (ball_cons z_str (ball_cons z_dict ball_nil))) (ball_cons (c__law_pick.mono (by decide)) (ball_cons (c__law_draw.mono (by decide)) (ball_cons (c__law_like_right.mono (by decide)) (ball_cons (c__law_one_house_right.mono (by decide)) (ball_cons (c__law_one_buyer_right.mono (by decide)) (ball_cons (c__law_ladder_right.mono (by decide)) ball_nil)))))) (fun R hR => PH.l_law_rest 0 R (by decide) hR)).mono (by decide)
end K92
set_option Elab.async false
set_option linter.all false
local macro_rules | `(tactic| walk_at "def") => `(tactic| (refine' K92.DefK.mk ?a ?l ?c ?k; (case a => k_is); (case l => k_is); (case c => k_is); (case k => k_is)))
open PySem PySem.W PyProof.Rows
set_option maxRecDepth 100000 in
set_option maxHeartbeats 0 in
theorem PySem.Challenge.cw_pricedhouses_k92_whole_known_markets_holds : PySem.Challenge.rw_pricedhouses_k92_whole_known_markets.Holds := by
  w_on; o_law; k_head; (case hw => w_witness2)
  k_fill
  refine LamX.walk_ofTs (l := PySem.Challenge.rw_pricedhouses_k92_whole_known_markets) (n := 63) (k := 60) (x := "script") (CX := fun _ => L2.CX0) rfl (by decide) rfl ⟨rfl, by decide, by decide⟩ (fun w h Y => PySem.W.km_in_of Y) ?F (fun _ _ _ _ _ z => z)
  case F =>
    intro w mg fa h Y KX G hmg
    refine' K92.all_mk KX G hmg ?D__law_start ?D__law_draw ?D_is_list ?D_is_integer ?D_is_number ?D_is_name ?D_is_one_of ?D_are_floors ?D_is_market ?D_checked_market ?D_surplus_of ?D_sum_of ?D_best_way ?D_best_by ?D_best_of ?D_greatest_of ?D_greatest_sum ?D_without_buyer ?D_without_house ?D_pairs_in_some ?D_in_some ?D_buyer_margin ?D_least_of ?D_greatest_by ?D_least_prices ?D_greatest_prices ?D_all_best ?D_best_count ?D__law_pick ?D__law_copied ?D__law_same ?D__law_like_right ?D__law_one_house_right ?D__law_one_buyer_right ?D__law_ladder_right ?D_law ?Z_isinstance ?Z_tuple ?Z_list ?Z_int ?Z_bool ?Z_str ?Z_len ?Z_all ?Z_dict ?Z_sorted ?Z_sum ?Z_range ?Z_max ?Z_zip ?Z_min ?Z_enumerate (c := 127) (Pt := 125) ?u1 ?u2 ?u3 ?u4
    (case D__law_start => walk_at "def")
    (case D__law_draw => walk_at "def")
    (case D_is_list => walk_at "def")
    (case D_is_integer => walk_at "def")
    (case D_is_number => walk_at "def")
    (case D_is_name => walk_at "def")
    (case D_is_one_of => walk_at "def")
    (case D_are_floors => walk_at "def")
    (case D_is_market => walk_at "def")
    (case D_checked_market => walk_at "def")
    (case D_surplus_of => walk_at "def")
    (case D_sum_of => walk_at "def")
    (case D_best_way => walk_at "def")
    (case D_best_by => walk_at "def")
    (case D_best_of => walk_at "def")
    (case D_greatest_of => walk_at "def")
    (case D_greatest_sum => walk_at "def")
    (case D_without_buyer => walk_at "def")
    (case D_without_house => walk_at "def")
    (case D_pairs_in_some => walk_at "def")
    (case D_in_some => walk_at "def")
    (case D_buyer_margin => walk_at "def")
    (case D_least_of => walk_at "def")
    (case D_greatest_by => walk_at "def")
    (case D_least_prices => walk_at "def")
    (case D_greatest_prices => walk_at "def")
    (case D_all_best => walk_at "def")
    (case D_best_count => walk_at "def")
    (case D__law_pick => walk_at "def")
    (case D__law_copied => walk_at "def")
    (case D__law_same => walk_at "def")
    (case D__law_like_right => walk_at "def")
    (case D__law_one_house_right => walk_at "def")
    (case D__law_one_buyer_right => walk_at "def")
    (case D__law_ladder_right => walk_at "def")
    (case D_law => walk_at "def")
    (case Z_isinstance => k_is)
    (case Z_tuple => k_is)
    (case Z_list => k_is)
    (case Z_int => k_is)
    (case Z_bool => k_is)
    (case Z_str => k_is)
    (case Z_len => k_is)
    (case Z_all => k_is)
    (case Z_dict => k_is)
    (case Z_sorted => k_is)
    (case Z_sum => k_is)
    (case Z_range => k_is)
    (case Z_max => k_is)
    (case Z_zip => k_is)
    (case Z_min => k_is)
    (case Z_enumerate => k_is)
    (case u1 => kernel_rfl)
    (case u2 => kernel_rfl)
    (case u3 => exact PySem.W.km_tabs_of Y _ (by first | exact List.mem_cons_self .. | simp))
    (case u4 => kernel_rfl)
