import PyProof.Rows.All
import Wide.All
import OpenK.AllK
import Wide.FinOn
import HandS.ForMost
import HandS.Wide
import HandS.Defaults
import HandS.Zip
import HandS.IsInst
import HandS.Flow
import HandS.Style
import HandS.Conv
import HandS.EndBits
import HandS.TryOnly
import HandS.Small
import KE.GoesMore
import PySem.Challenge.RW_cubicway_k17_whole_rows_of_changes
set_option Elab.async false
set_option linter.all false
section
set_option maxRecDepth 100000
set_option maxHeartbeats 2000000
/-! CW, first part: plain data, the logical state, how both lie in the abstract heap. -/
namespace CW
open PySem PySem.Spec PyProof.Rows L2

/-- plain data: what is never changed -/
inductive P where
  | non | bl (b : Bool) | int (i : Int) | str (x : Str) | ty (n : String) | ref (a : Addr) | tup (xs : List P) | lst (xs : List P) | con (xs : List P)
/-- a value: plain, or the n-th changing object -/
inductive D where
  | p (x : P) | obj (n : Nat)
/-- a changing object -/
inductive O where
  | lst (xs : List P) | dic (kvs : List (Key × D))
abbrev S := List (Option O)
inductive R (α : Type) where
  | ok (a : α) (s : S) | bad
abbrev M (α : Type) := S → R α
abbrev En := List (Option D)
def Good {α : Type} (r : R α) (Q : α → S → Prop) : Prop := match r with
  | .ok a s => Q a s
  | .bad => False
theorem Good.mono {α : Type} {r : R α} {Q Q' : α → S → Prop} (h : Good r Q) (k : ∀ a s, Q a s → Q' a s) : Good r Q' := by
  cases r with
  | ok a s => exact k a s h
  | bad => exact h
def bnd {α β : Type} (m : M α) (k : α → M β) : M β := fun s => match m s with
  | .ok a s' => k a s'
  | .bad => .bad
theorem Good.bnd {α β : Type} {m : M α} {k : α → M β} {s : S} {Q : β → S → Prop} (h : Good (bnd m k s) Q) : Good (m s) (fun a s' => Good (k a s') Q) := by
  unfold CW.bnd at h
  cases e : m s with
  | ok a s' =>
    rw [e] at h
    exact h
  | bad =>
    rw [e] at h
    exact h.elim
theorem bnd_ok {α β : Type} {m : M α} {k : α → M β} {s s' : S} {a : α} (h : m s = .ok a s') : bnd m k s = k a s' := by
  unfold CW.bnd
  rw [h]
theorem bnd_bad {α β : Type} {m : M α} {k : α → M β} {s : S} (h : m s = .bad) : bnd m k s = .bad := by
  unfold CW.bnd
  rw [h]
def ret {α : Type} (a : α) : M α := fun s => .ok a s
def bad {α : Type} : M α := fun _ => .bad

/-! ### how it lies in the heap -/
section
variable (K : PySem.W.Frag)
/-- the heap of nothing: what is read of the written part alone -/
def H0 : Hp := fun _ => none
def CS (H : Hp) (a : Addr) (vs : List V) : Prop := (∃ o, H a = some (.frz o (.lst vs))) ∨ SqL K H0 a vs
mutual
inductive PV (F : Addr → Prop) (H : Hp) : V → P → Prop
  | non : PV F H .non .non
  | bl (b : Bool) : PV F H (.bl b) (.bl b)
  | int (i : Int) : PV F H (.int i) (.int i)
  | str (x : Str) : PV F H (.str x) (.str x)
  | ty (n : String) : PV F H (.ty n) (.ty n)
  | ref (a : Addr) : PV F H (.ref a) (.ref a)
  | tup {a : Addr} {vs : List V} {xs : List P} : SqT K H a vs → PVs F H vs xs → PV F H (.ref a) (.tup xs)
  | lst {a : Addr} {vs : List V} {xs : List P} : F a → H a = some (.lst vs) → PVs F H vs xs → PV F H (.ref a) (.lst xs)
  | con {a : Addr} {vs : List V} {xs : List P} : CS K H a vs → PVs F H vs xs → PV F H (.ref a) (.con xs)
inductive PVs (F : Addr → Prop) (H : Hp) : List V → List P → Prop
  | nil : PVs F H [] []
  | cons {v : V} {vs : List V} {x : P} {xs : List P} : PV F H v x → PVs F H vs xs → PVs F H (v :: vs) (x :: xs)
end
structure Wd where
  io : List Addr
  fr : Addr → Prop
  pv : Addr → Prop
def DV (W : Wd) (H : Hp) (v : V) : D → Prop
  | .p x => PV K W.fr H v x
  | .obj n => ∃ a, W.io[n]? = some a ∧ v = .ref a
abbrev DVs (W : Wd) (H : Hp) : List V → List D → Prop := Paired (DV K W H)
def OV (W : Wd) (H : Hp) (a : Addr) : O → Prop
  | .lst xs => ∃ vs, H a = some (.lst vs) ∧ PVs K W.fr H vs xs
  | .dic kvs => ∃ ws : List (Key × V), H a = some (.dK ws) ∧ Paired (fun (p : Key × V) (q : Key × D) => p.1 = q.1 ∧ DV K W H p.2 q.2) ws kvs
/-- how worlds go on -/
structure Ev (W : Wd) (H : Hp) (W' : Wd) (H' : Hp) : Prop where
  io : ∃ r, W'.io = W.io ++ r
  fr : ∀ a, W.fr a → W'.fr a
  fk : ∀ a o, W.fr a → H a = some o → H' a = some o
  tk : ∀ a xs, H a = some (.tup xs) → H' a = some (.tup xs)
  zk : ∀ a o u, H a = some (.frz o u) → H' a = some (.frz o u)
  pv : ∀ a, W.pv a → W'.pv a
  pk : ∀ a o, W.pv a → H a = some o → H' a = some o
structure Abs (W : Wd) (s : S) (H : Hp) : Prop where
  len : W.io.length = s.length
  nd : W.io.Nodup
  tr : ∀ a ∈ W.io, H a ≠ none
  ft : ∀ a, W.fr a → H a ≠ none
  ob : ∀ (n : Nat) (o : O), s[n]? = some (some o) → ∃ a, W.io[n]? = some a ∧ ¬ W.fr a ∧ OV K W H a o
  pd : ∀ a, W.pv a → H a ≠ none ∧ ¬ W.fr a ∧ a ∉ W.io
end
section
variable {K : PySem.W.Frag} {W W1 W2 W' : Wd} {H H1 H2 H' : Hp} {s : S} {v : V} {a p : Addr} {d : D} {x : P}
theorem Ev.rfl : Ev W H W H := ⟨⟨[], by simp⟩, fun _ h => h, fun _ _ _ h => h, fun _ _ h => h, fun _ _ _ h => h, fun _ h => h, fun _ _ _ h => h⟩
theorem Ev.trans (e : Ev W H W1 H1) (f : Ev W1 H1 W2 H2) : Ev W H W2 H2 where
  io := by
    obtain ⟨r, hr⟩ := e.io
    obtain ⟨q, hq⟩ := f.io
    exact ⟨r ++ q, by rw [hq, hr, List.append_assoc]⟩
  fr := fun a h => f.fr a (e.fr a h)
  fk := fun a o h g => f.fk a o (e.fr a h) (e.fk a o h g)
  tk := fun a xs h => f.tk a xs (e.tk a xs h)
  zk := fun a o u h => f.zk a o u (e.zk a o u h)
  pv := fun a h => f.pv a (e.pv a h)
  pk := fun a o h g => f.pk a o (e.pv a h) (e.pk a o h g)
theorem Ev.sqt (e : Ev W H W' H') {vs : List V} (h : SqT K H a vs) : SqT K H' a vs := by
  rcases h with (h | ⟨o, h⟩) | h
  · exact Or.inl (Or.inl (e.tk _ _ h))
  · exact Or.inl (Or.inr ⟨o, e.zk _ _ _ h⟩)
  · exact Or.inr h
theorem Ev.cs (e : Ev W H W' H') {vs : List V} (h : CS K H a vs) : CS K H' a vs := by
  rcases h with ⟨o, h⟩ | h
  · exact Or.inl ⟨o, e.zk _ _ _ h⟩
  · exact Or.inr h
theorem CS.sql {vs : List V} (h : CS K H a vs) : SqL K H a vs := by
  rcases h with ⟨o, h⟩ | (h | ⟨o, h⟩) | h
  · exact Or.inl (Or.inr ⟨o, h⟩)
  · exact nomatch h
  · exact nomatch h
  · exact Or.inr h
mutual
theorem PV.up (e : Ev W H W' H') : ∀ {v : V} {x : P}, PV K W.fr H v x → PV K W'.fr H' v x
  | _, _, .non => .non
  | _, _, .bl b => .bl b
  | _, _, .int i => .int i
  | _, _, .str z => .str z
  | _, _, .ty n => .ty n
  | _, _, .ref a => .ref a
  | _, _, .tup h r => .tup (e.sqt h) (PVs.up e r)
  | _, _, .lst f h r => .lst (e.fr _ f) (e.fk _ _ f h) (PVs.up e r)
  | _, _, .con h r => .con (e.cs h) (PVs.up e r)
theorem PVs.up (e : Ev W H W' H') : ∀ {vs : List V} {xs : List P}, PVs K W.fr H vs xs → PVs K W'.fr H' vs xs
  | _, _, .nil => .nil
  | _, _, .cons h r => .cons (PV.up e h) (PVs.up e r)
end
theorem DV.up (e : Ev W H W' H') (h : DV K W H v d) : DV K W' H' v d := by
  cases d with
  | p x => exact PV.up e h
  | obj n =>
    obtain ⟨a, ha, hv⟩ := h
    obtain ⟨r, hr⟩ := e.io
    refine ⟨a, ?_, hv⟩
    have hl := (List.getElem?_eq_some_iff.mp ha).1
    rw [hr, List.getElem?_append_left hl]
    exact ha
theorem DVs.up (e : Ev W H W' H') : ∀ {vs : List V} {ds : List D}, DVs K W H vs ds → DVs K W' H' vs ds
  | _, _, .nil => .nil
  | _, _, .cons h r => .cons (DV.up e h) (DVs.up e r)
theorem PVs.len {F : Addr → Prop} : ∀ {vs : List V} {xs : List P}, PVs K F H vs xs → vs.length = xs.length
  | _, _, .nil => _root_.rfl
  | _, _, .cons _ r => congrArg (· + 1) (PVs.len r)
theorem PVs.app {F : Addr → Prop} : ∀ {vs : List V} {xs : List P} {us : List V} {ys : List P}, PVs K F H vs xs → PVs K F H us ys → PVs K F H (vs ++ us) (xs ++ ys)
  | _, _, _, _, .nil, q => q
  | _, _, _, _, .cons h r, q => .cons h (PVs.app r q)
theorem PVs.get {F : Addr → Prop} : ∀ {vs : List V} {xs : List P} {i : Nat} {x : P}, PVs K F H vs xs → xs[i]? = some x → ∃ v, vs[i]? = some v ∧ PV K F H v x
  | _, _, _, _, .nil, e => by simp at e
  | _, _, 0, _, .cons h _, e => by
    simp at e
    subst e
    exact ⟨_, rfl, h⟩
  | _, _, i + 1, x, .cons _ r, e => by
    obtain ⟨v, h1, h2⟩ := PVs.get (i := i) (x := x) r (by simpa using e)
    exact ⟨v, by simpa using h1, h2⟩
theorem PVs.put {F : Addr → Prop} {v : V} {x : P} (h : PV K F H v x) : ∀ {vs : List V} {xs : List P} (i : Nat), PVs K F H vs xs → PVs K F H (vs.set i v) (xs.set i x)
  | _, _, _, .nil => .nil
  | _, _, 0, .cons _ r => .cons h r
  | _, _, i + 1, .cons q r => .cons q (PVs.put h i r)
theorem PVs.take {F : Addr → Prop} : ∀ {vs : List V} {xs : List P} (n : Nat), PVs K F H vs xs → PVs K F H (vs.take n) (xs.take n)
  | _, _, 0, _ => .nil
  | _, _, _ + 1, .nil => .nil
  | _, _, n + 1, .cons h r => .cons h (PVs.take n r)
theorem PVs.drop {F : Addr → Prop} : ∀ {vs : List V} {xs : List P} (n : Nat), PVs K F H vs xs → PVs K F H (vs.drop n) (xs.drop n)
  | _, _, 0, r => r
  | _, _, _ + 1, .nil => .nil
  | _, _, n + 1, .cons _ r => PVs.drop n r
theorem PVs.rep {F : Addr → Prop} {v : V} {x : P} (h : PV K F H v x) : ∀ n : Nat, PVs K F H (List.replicate n v) (List.replicate n x)
  | 0 => .nil
  | n + 1 => .cons h (PVs.rep h n)
theorem PVs.ints {F : Addr → Prop} : ∀ ns : List Int, PVs K F H (ns.map V.int) (ns.map P.int)
  | [] => .nil
  | n :: r => .cons (.int n) (PVs.ints r)
theorem PVs.bls {F : Addr → Prop} : ∀ {vs : List V} {bs : List Bool}, PVs K F H vs (bs.map P.bl) → vs = bs.map V.bl
  | _, [], .nil => _root_.rfl
  | _, _ :: _, .cons (.bl _) r => congrArg (_ :: ·) (PVs.bls r)
theorem PVs.int_eq {F : Addr → Prop} : ∀ {vs : List V} {bs : List Int}, PVs K F H vs (bs.map P.int) → vs = bs.map V.int
  | _, [], .nil => _root_.rfl
  | _, _ :: _, .cons (.int _) r => congrArg (_ :: ·) (PVs.int_eq r)
theorem PVs.str_eq {F : Addr → Prop} : ∀ {vs : List V} {bs : List Str}, PVs K F H vs (bs.map P.str) → vs = bs.map V.str
  | _, [], .nil => _root_.rfl
  | _, _ :: _, .cons (.str _) r => congrArg (_ :: ·) (PVs.str_eq r)
theorem DVs.plain : ∀ {vs : List V} {xs : List P}, DVs K W H vs (xs.map D.p) → PVs K W.fr H vs xs
  | _, [], .nil => .nil
  | _, _ :: _, .cons h r => .cons h (DVs.plain r)
theorem PVs.dvs : ∀ {vs : List V} {xs : List P}, PVs K W.fr H vs xs → DVs K W H vs (xs.map D.p)
  | _, _, .nil => .nil
  | _, _, .cons h r => .cons h (PVs.dvs r)
/-- a new object that no name of ours bears -/
theorem Ev.new {o : HO} (hp : H p = none) : Ev W H W (upd H p o) where
  io := ⟨[], by simp⟩
  fr := fun _ h => h
  fk := fun a o _ h => by rw [upd_ne (ne_of_none h hp)]; exact h
  tk := fun a xs h => by rw [upd_ne (ne_of_none h hp)]; exact h
  zk := fun a o u h => by rw [upd_ne (ne_of_none h hp)]; exact h
  pv := fun _ h => h
  pk := fun a o _ h => by rw [upd_ne (ne_of_none h hp)]; exact h
theorem Ev.oth {o : HO} (hp : H p = none) (h : H a ≠ none) : upd H p o a = H a := upd_ne fun e => h (e ▸ hp)
theorem OV.up (e : Ev W H W' H') (he : H' a = H a) {o : O} (h : OV K W H a o) : OV K W' H' a o := by
  cases o with
  | lst xs =>
    obtain ⟨vs, h1, h2⟩ := h
    exact ⟨vs, he.trans h1, PVs.up e h2⟩
  | dic kvs =>
    obtain ⟨ws, h1, h2⟩ := h
    exact ⟨ws, he.trans h1, Paired.mapP h2 fun p q z => ⟨z.1, DV.up e z.2⟩⟩
theorem OV.there {o : O} (h : OV K W H a o) : H a ≠ none := by
  cases o with
  | lst xs =>
    obtain ⟨vs, h1, _⟩ := h
    rw [h1]
    exact fun z => nomatch z
  | dic kvs =>
    obtain ⟨ws, h1, _⟩ := h
    rw [h1]
    exact fun z => nomatch z
theorem Abs.new {o : HO} (A : Abs K W s H) (hp : H p = none) : Abs K W s (upd H p o) where
  len := A.len
  nd := A.nd
  tr := fun a h => by rw [Ev.oth hp (A.tr a h)]; exact A.tr a h
  ft := fun a h => by rw [Ev.oth hp (A.ft a h)]; exact A.ft a h
  ob := fun n u h => by
    obtain ⟨a, h1, h2, h3⟩ := A.ob n u h
    exact ⟨a, h1, h2, h3.up (Ev.new hp) (Ev.oth hp h3.there)⟩
  pd := fun a h => ⟨by rw [Ev.oth hp (A.pd a h).1]; exact (A.pd a h).1, (A.pd a h).2⟩
/-- a new list that will not be changed -/
def Wd.keep (W : Wd) (p : Addr) : Wd := ⟨W.io, fun a => W.fr a ∨ a = p, W.pv⟩
theorem Ev.keep {o : HO} (hp : H p = none) : Ev W H (W.keep p) (upd H p o) where
  io := ⟨[], by simp [Wd.keep]⟩
  fr := fun _ h => Or.inl h
  fk := (Ev.new (W := W) hp).fk
  tk := (Ev.new (W := W) hp).tk
  zk := (Ev.new (W := W) hp).zk
  pv := fun _ h => h
  pk := (Ev.new (W := W) hp).pk
theorem Abs.keep {o : HO} (A : Abs K W s H) (hp : H p = none) : Abs K (W.keep p) s (upd H p o) where
  len := A.len
  nd := A.nd
  tr := fun a h => by rw [Ev.oth hp (A.tr a h)]; exact A.tr a h
  ft := fun a h => by
    rcases h with h | h
    · rw [Ev.oth hp (A.ft a h)]
      exact A.ft a h
    · rw [h, upd_same]
      exact fun z => nomatch z
  ob := fun n u h => by
    obtain ⟨a, h1, h2, h3⟩ := A.ob n u h
    refine ⟨a, h1, fun z => ?_, h3.up (Ev.keep hp) (Ev.oth hp h3.there)⟩
    rcases z with z | z
    · exact h2 z
    · rw [z] at h3
      exact h3.there hp
  pd := fun a h => ⟨by rw [Ev.oth hp (A.pd a h).1]; exact (A.pd a h).1, fun z => by
    rcases z with z | z
    · exact (A.pd a h).2.1 z
    · exact (A.pd a h).1 (by rw [z]; exact hp), (A.pd a h).2.2⟩
/-- a new changing object -/
def Wd.add (W : Wd) (p : Addr) : Wd := ⟨W.io ++ [p], W.fr, W.pv⟩
theorem Ev.add {o : HO} (hp : H p = none) : Ev W H (W.add p) (upd H p o) where
  io := ⟨[p], _root_.rfl⟩
  fr := fun _ h => h
  fk := (Ev.new (W := W) hp).fk
  tk := (Ev.new (W := W) hp).tk
  zk := (Ev.new (W := W) hp).zk
  pv := fun _ h => h
  pk := (Ev.new (W := W) hp).pk
theorem Abs.add {o : HO} {u : O} (A : Abs K W s H) (hp : H p = none) (hu : OV K (W.add p) (upd H p o) p u) : Abs K (W.add p) (s ++ [some u]) (upd H p o) where
  len := by simp [Wd.add, A.len]
  nd := by
    refine List.nodup_append.mpr ⟨A.nd, by simp, fun a ha b hb e => ?_⟩
    have hb' : b = p := by simpa using hb
    exact A.tr a ha (by rw [e, hb']; exact hp)
  tr := fun a h => by
    rcases List.mem_append.mp h with h | h
    · rw [Ev.oth hp (A.tr a h)]
      exact A.tr a h
    · have e : a = p := by simpa using h
      rw [e, upd_same]
      exact fun z => nomatch z
  ft := fun a h => by rw [Ev.oth hp (A.ft a h)]; exact A.ft a h
  ob := fun n q h => by
    by_cases hn : n < s.length
    · rw [List.getElem?_append_left hn] at h
      obtain ⟨a, h1, h2, h3⟩ := A.ob n q h
      refine ⟨a, ?_, h2, h3.up (Ev.add hp) (Ev.oth hp h3.there)⟩
      show (W.io ++ [p])[n]? = some a
      rw [List.getElem?_append_left (by rw [A.len]; exact hn)]
      exact h1
    · have hn2 : n = s.length := by
        have h4 := (List.getElem?_eq_some_iff.mp h).1
        simp at h4
        omega
      subst hn2
      have hq : q = u := by
        simp at h
        exact h.symm
      subst hq
      refine ⟨p, ?_, fun z => A.ft p z hp, hu⟩
      show (W.io ++ [p])[s.length]? = some p
      rw [← A.len]
      simp
  pd := fun a h => ⟨by rw [Ev.oth hp (A.pd a h).1]; exact (A.pd a h).1, (A.pd a h).2.1, fun z => by
    rcases List.mem_append.mp z with z | z
    · exact (A.pd a h).2.2 z
    · have e : a = p := by simpa using z
      exact (A.pd a h).1 (by rw [e]; exact hp)⟩
theorem Abs.nobj (A : Abs K W s H) (hp : H p = none) : (W.add p).io[s.length]? = some p := by
  show (W.io ++ [p])[s.length]? = some p
  rw [← A.len]
  simp
/-- a changing object is changed -/
theorem Ev.put {n : Nat} {o o' : O} {u : HO} (A : Abs K W s H) (hn : s[n]? = some (some o)) (ha : W.io[n]? = some a) : Ev W H W (upd H a u) := by
  obtain ⟨b, h1, h2, h3⟩ := A.ob n o hn
  rw [ha] at h1
  cases h1
  have nt : ∀ xs, H a ≠ some (.tup xs) := fun xs z => by
    cases o with
    | lst xs =>
      obtain ⟨vs, h4, _⟩ := h3
      rw [z] at h4
      cases h4
    | dic kvs =>
      obtain ⟨vs, h4, _⟩ := h3
      rw [z] at h4
      cases h4
  have nz : ∀ q r, H a ≠ some (.frz q r) := fun q r z => by
    cases o with
    | lst xs =>
      obtain ⟨vs, h4, _⟩ := h3
      rw [z] at h4
      cases h4
    | dic kvs =>
      obtain ⟨vs, h4, _⟩ := h3
      rw [z] at h4
      cases h4
  refine ⟨⟨[], by simp⟩, fun _ h => h, fun b q hb h => ?_, fun b xs h => ?_, fun b q r h => ?_, fun _ h => h, fun b q hb h => ?_⟩
  · have e : b ≠ a := fun e => by
      subst e
      exact h2 hb
    rw [upd_ne e]
    exact h
  · have e : b ≠ a := fun e => by
      subst e
      exact nt xs h
    rw [upd_ne e]
    exact h
  · have e : b ≠ a := fun e => by
      subst e
      exact nz q r h
    rw [upd_ne e]
    exact h
  · have e : b ≠ a := fun e => by
      subst e
      exact (A.pd b hb).2.2 (List.mem_of_getElem? ha)
    rw [upd_ne e]
    exact h
theorem Abs.put {n : Nat} {o o' : O} {u : HO} (A : Abs K W s H) (hn : s[n]? = some (some o)) (ha : W.io[n]? = some a) (hu : OV K W (upd H a u) a o') : Abs K W (s.set n (some o')) (upd H a u) := by
  have ev : Ev W H W (upd H a u) := Ev.put (o' := o') A hn ha
  have hl : n < s.length := (List.getElem?_eq_some_iff.mp hn).1
  refine ⟨by rw [List.length_set]; exact A.len, A.nd, fun b h => ?_, fun b h => ?_, fun m q h => ?_, fun b h => ⟨?_, (A.pd b h).2⟩⟩
  · by_cases e : b = a
    · rw [e, upd_same]
      exact fun z => nomatch z
    · rw [upd_ne e]
      exact A.tr b h
  · by_cases e : b = a
    · rw [e, upd_same]
      exact fun z => nomatch z
    · rw [upd_ne e]
      exact A.ft b h
  · by_cases e : m = n
    · subst e
      rw [List.getElem?_set_self hl] at h
      have hq : o' = q := Option.some.inj (Option.some.inj h)
      subst hq
      obtain ⟨b, h1, h2, h3⟩ := A.ob m o hn
      rw [ha] at h1
      cases h1
      exact ⟨a, ha, h2, hu⟩
    · rw [List.getElem?_set_ne (Ne.symm e)] at h
      obtain ⟨b, h1, h2, h3⟩ := A.ob m q h
      have hab : b ≠ a := fun z => e (nd_ix A.nd h1 (by rw [z]; exact ha))
      exact ⟨b, h1, h2, h3.up ev (upd_ne hab)⟩
  · have e : b ≠ a := fun e => by
      subst e
      exact (A.pd b h).2.2 (List.mem_of_getElem? ha)
    rw [upd_ne e]
    exact (A.pd b h).1
/-- an object is from now on plain -/
theorem Abs.freeze {n : Nat} {xs : List P} (A : Abs K W s H) (hn : s[n]? = some (some (.lst xs))) (ha : W.io[n]? = some a) : Ev W H (W.keep a) H ∧ Abs K (W.keep a) (s.set n none) H ∧ PV K (W.keep a).fr H (.ref a) (.lst xs) := by
  obtain ⟨b, h1, h2, vs, h3, h4⟩ := A.ob n _ hn
  rw [ha] at h1
  cases h1
  have ev : Ev W H (W.keep a) H := ⟨⟨[], by simp [Wd.keep]⟩, fun _ h => Or.inl h, fun _ _ _ h => h, fun _ _ h => h, fun _ _ _ h => h, fun _ h => h, fun _ _ _ h => h⟩
  refine ⟨ev, ⟨by rw [List.length_set]; exact A.len, A.nd, A.tr, fun b h => ?_, fun m q h => ?_, fun b h => ⟨(A.pd b h).1, fun z => ?_, (A.pd b h).2.2⟩⟩, .lst (Or.inr _root_.rfl) h3 (PVs.up ev h4)⟩
  · rcases h with h | h
    · exact A.ft b h
    · rw [h, h3]
      exact fun z => nomatch z
  · have e : m ≠ n := fun e => by
      subst e
      rw [List.getElem?_set_self (List.getElem?_eq_some_iff.mp hn).1] at h
      cases h
    rw [List.getElem?_set_ne (Ne.symm e)] at h
    obtain ⟨b, g1, g2, g3⟩ := A.ob m q h
    refine ⟨b, g1, fun z => ?_, g3.up ev _root_.rfl⟩
    rcases z with z | z
    · exact g2 z
    · exact e (nd_ix A.nd g1 (by rw [z]; exact ha))
  · rcases z with z | z
    · exact (A.pd b h).2.1 z
    · exact (A.pd b h).2.2 (by rw [z]; exact List.mem_of_getElem? ha)
/-- the older objects bear no name of a newer one -/
def Keeps (s s' : S) : Prop := s.length ≤ s'.length ∧ ∀ (i : Nat) (kvs : List (Key × D)), i < s.length → s'[i]? = some (some (.dic kvs)) → s[i]? = s'[i]? ∨ ∀ kv ∈ kvs, ∀ m, kv.2 = .obj m → m < s.length
theorem Keeps.self : Keeps s s := ⟨Nat.le_refl _, fun _ _ _ _ => Or.inl rfl⟩
theorem Keeps.more (r : S) : Keeps s (s ++ r) := ⟨by rw [List.length_append]; omega, fun i _ h _ => Or.inl (by rw [List.getElem?_append_left h])⟩
theorem DV.old {n : Nat} {r : List Addr} (h : DV K W' H v d) (hr : W'.io = W.io ++ r) (hd : ∀ m, d = .obj m → m < W.io.length) : DV K ⟨W.io, W'.fr, W'.pv⟩ H v d := by
  cases d with
  | p x => exact h
  | obj m =>
    obtain ⟨a, h1, h2⟩ := h
    rw [hr, List.getElem?_append_left (hd m rfl)] at h1
    exact ⟨a, h1, h2⟩
/-- what a def made and did not hand back is forgotten -/
theorem Abs.cut {s' : S} (A : Abs K W s H) (e : Ev W H W' H') (A' : Abs K W' s' H') (k : Keeps s s') : Abs K ⟨W.io, W'.fr, W'.pv⟩ (s'.take s.length) H' := by
  obtain ⟨r, hr⟩ := e.io
  obtain ⟨k1, k2⟩ := k
  refine ⟨by rw [List.length_take, A.len]; omega, A.nd, fun a h => A'.tr a (by rw [hr]; exact List.mem_append_left _ h), A'.ft, fun n o h => ?_, fun a h => ⟨(A'.pd a h).1, (A'.pd a h).2.1, fun z => (A'.pd a h).2.2 (by rw [hr]; exact List.mem_append_left _ z)⟩⟩
  have hn : n < s.length := by
    have h4 := (List.getElem?_eq_some_iff.mp h).1
    simp at h4
    omega
  rw [List.getElem?_take_of_lt hn] at h
  obtain ⟨a, h1, h2, h3⟩ := A'.ob n o h
  rw [hr, List.getElem?_append_left (by rw [A.len]; exact hn)] at h1
  refine ⟨a, h1, h2, ?_⟩
  cases o with
  | lst xs => exact h3
  | dic kvs =>
    obtain ⟨ws, h4, h5⟩ := h3
    refine ⟨ws, h4, ?_⟩
    have low : ∀ kv ∈ kvs, ∀ m, kv.2 = .obj m → m < W.io.length := by
      rcases k2 n kvs hn h with z | z
      · rw [h] at z
        obtain ⟨b, g1, _, ws2, _, g5⟩ := A.ob n _ z
        intro kv hk m hm
        have key : ∀ {us : List (Key × V)} {qs : List (Key × D)}, Paired (fun (p : Key × V) (q : Key × D) => p.1 = q.1 ∧ DV K W H p.2 q.2) us qs → kv ∈ qs → m < W.io.length := by
          intro us qs hp
          induction hp with
          | nil => intro h; cases h
          | cons hh _ ih =>
            intro hq
            rcases List.mem_cons.mp hq with e1 | e1
            · obtain ⟨_, h7⟩ := hh
              rw [← e1, hm] at h7
              obtain ⟨c, h8, _⟩ := h7
              exact (List.getElem?_eq_some_iff.mp h8).1
            · exact ih e1
        exact key g5 hk
      · intro kv hk m hm
        rw [A.len]
        exact z kv hk m hm
    have go : ∀ {us : List (Key × V)} {qs : List (Key × D)}, Paired (fun (p : Key × V) (q : Key × D) => p.1 = q.1 ∧ DV K W' H' p.2 q.2) us qs → (∀ kv ∈ qs, ∀ m, kv.2 = .obj m → m < W.io.length) → Paired (fun (p : Key × V) (q : Key × D) => p.1 = q.1 ∧ DV K ⟨W.io, W'.fr, W'.pv⟩ H' p.2 q.2) us qs := by
      intro us qs hp
      induction hp with
      | nil => intro _; exact .nil
      | cons hh _ ih =>
        intro hq
        exact .cons ⟨hh.1, DV.old (n := 0) hh.2 hr (hq _ List.mem_cons_self)⟩ (ih fun kv h => hq kv (List.mem_cons_of_mem _ h))
    exact go h5 low
theorem Ev.cut {W' : Wd} (e : Ev W H W' H') : Ev W H ⟨W.io, W'.fr, W'.pv⟩ H' := ⟨⟨[], by simp⟩, e.fr, e.fk, e.tk, e.zk, e.pv, e.pk⟩
/-! ### a list in the making, seen by nobody -/
def Wd.hide (W : Wd) (p : Addr) : Wd := ⟨W.io, W.fr, fun a => W.pv a ∨ a = p⟩
def Wd.show (W : Wd) (p : Addr) : Wd := ⟨W.io, W.fr, fun a => W.pv a ∧ a ≠ p⟩
theorem Abs.hide (A : Abs K W s H) (h : H p ≠ none) (hf : ¬ W.fr p) (hi : p ∉ W.io) : Abs K (W.hide p) s H := by
  have up : ∀ {v d}, DV K W H v d → DV K (W.hide p) H v d := fun {v d} q => by cases d <;> exact q
  refine ⟨A.len, A.nd, A.tr, A.ft, fun n o hn => ?_, fun a ha => ?_⟩
  · obtain ⟨a, h1, h2, h3⟩ := A.ob n o hn
    refine ⟨a, h1, h2, ?_⟩
    cases o with
    | lst xs => exact h3
    | dic kvs =>
      obtain ⟨ws, h4, h5⟩ := h3
      exact ⟨ws, h4, Paired.mapP h5 fun p q z => ⟨z.1, up z.2⟩⟩
  · rcases ha with ha | ha
    · exact A.pd a ha
    · rw [ha]
      exact ⟨h, hf, hi⟩
theorem Ev.hide : Ev W H (W.hide p) H := ⟨⟨[], by simp [Wd.hide]⟩, fun _ h => h, fun _ _ _ h => h, fun _ _ h => h, fun _ _ _ h => h, fun _ h => Or.inl h, fun _ _ _ h => h⟩
/-- an item more -/
theorem Ev.grow {u : HO} (e : Ev (W.hide p) H W' H') (hp : ¬ W.pv p) (A' : Abs K W' s H') (hl : ∃ vs, H' p = some (.lst vs)) : Ev W H (W'.show p) (upd H' p u) := by
  obtain ⟨vs, hv⟩ := hl
  have pp : W'.pv p := e.pv p (Or.inr _root_.rfl)
  have nf := (A'.pd p pp).2.1
  have nt : ∀ xs, H' p ≠ some (.tup xs) := fun xs z => by
    rw [hv] at z
    cases z
  have nz : ∀ q r, H' p ≠ some (.frz q r) := fun q r z => by
    rw [hv] at z
    cases z
  refine ⟨e.io, e.fr, fun b q hb h => ?_, fun b xs h => ?_, fun b q r h => ?_, fun b h => ⟨e.pv b (Or.inl h), fun z => hp (z ▸ h)⟩, fun b q hb h => ?_⟩
  · have ne : b ≠ p := fun z => by
      subst z
      exact nf (e.fr b hb)
    rw [upd_ne ne]
    exact e.fk b q hb h
  · have g := e.tk b xs h
    have ne : b ≠ p := fun z => by
      subst z
      exact nt xs g
    rw [upd_ne ne]
    exact g
  · have g := e.zk b q r h
    have ne : b ≠ p := fun z => by
      subst z
      exact nz q r g
    rw [upd_ne ne]
    exact g
  · have ne : b ≠ p := fun z => by
      subst z
      exact hp hb
    rw [upd_ne ne]
    exact e.pk b q (Or.inl hb) h
theorem Abs.grow {u : HO} (A : Abs K W s H) (pp : W.pv p) (hl : ∃ vs, H p = some (.lst vs)) : Ev (W.show p) H (W.show p) (upd H p u) ∧ Abs K (W.show p) s (upd H p u) := by
  obtain ⟨vs, hv⟩ := hl
  obtain ⟨n1, n2, n3⟩ := A.pd p pp
  have ev : Ev (W.show p) H (W.show p) (upd H p u) := by
    refine ⟨⟨[], by simp⟩, fun _ h => h, fun b q hb h => ?_, fun b xs h => ?_, fun b q r h => ?_, fun _ h => h, fun b q hb h => ?_⟩
    · have ne : b ≠ p := fun z => by
        subst z
        exact n2 hb
      rw [upd_ne ne]
      exact h
    · have ne : b ≠ p := fun z => by
        subst z
        rw [hv] at h
        cases h
      rw [upd_ne ne]
      exact h
    · have ne : b ≠ p := fun z => by
        subst z
        rw [hv] at h
        cases h
      rw [upd_ne ne]
      exact h
    · rw [upd_ne hb.2]
      exact h
  have dn : ∀ {v d}, DV K W H v d → DV K (W.show p) H v d := fun {v d} q => by cases d <;> exact q
  refine ⟨ev, ⟨A.len, A.nd, fun a ha => ?_, fun a ha => ?_, fun n o hn => ?_, fun a ha => ⟨?_, (A.pd a ha.1).2⟩⟩⟩
  · have ne : a ≠ p := fun z => by
      subst z
      exact n3 ha
    rw [upd_ne ne]
    exact A.tr a ha
  · have ne : a ≠ p := fun z => by
      subst z
      exact n2 ha
    rw [upd_ne ne]
    exact A.ft a ha
  · obtain ⟨a, h1, h2, h3⟩ := A.ob n o hn
    have ne : a ≠ p := fun z => by
      subst z
      exact n3 (List.mem_of_getElem? h1)
    refine ⟨a, h1, h2, OV.up ev (upd_ne ne) ?_⟩
    cases o with
    | lst xs => exact h3
    | dic kvs =>
      obtain ⟨ws, h4, h5⟩ := h3
      exact ⟨ws, h4, Paired.mapP h5 fun p q z => ⟨z.1, dn z.2⟩⟩
  · rw [upd_ne ha.2]
    exact (A.pd a ha.1).1
end
end CW

end
section
set_option maxRecDepth 100000
set_option maxHeartbeats 2000000
/-! CW, second part: what a piece of text does, as a function of the logical state; expressions. -/
namespace CW
open PySem PySem.Spec PyProof.Rows L2

structure Cf where
  pg : Program
  w : World
  K : PySem.W.Frag
  mg : Str → Option Value
  base : Heap
/-- what is known wherever a def's body, or a comprehension's block, runs -/
structure Okx (C : Cf) (k : Nat) (X : Cx) : Prop where
  pr : X.prog = C.pg
  ew : X.w = C.w
  eK : X.K = C.K
  em : X.mg = C.mg
  eb : X.base = C.base
  calm : X.calm = true
  rm : Room k X.A
  gd : X.A.guards = some []
/-- the scope that runs, by the written one: a captured name may be a cell of the def around -/
structure Lik (sc es : Scope) : Prop where
  loc : ∀ x, sc.names.lookup x = some .local → es.names.lookup x = some .local
  cel : ∀ x, sc.names.lookup x = some .cell → es.names.lookup x = some .cell
  fre : ∀ x, sc.names.lookup x = some .free → es.names.lookup x = some .cell ∨ es.names.lookup x = some .free
  glo : ∀ x, sc.names.lookup x = some .globalImplicit → es.names.lookup x = some .globalImplicit
theorem Lik.rfl {sc : Scope} : Lik sc sc := ⟨fun _ h => h, fun _ h => h, fun _ h => Or.inr h, fun _ h => h⟩
theorem Lik.vis {sc es : Scope} {x : Str} (l : Lik sc es) (h : Vis sc x) : Vis es x := by
  rcases h with h | h | h
  · exact Or.inl (l.loc x h)
  · exact Or.inr (Or.inl (l.cel x h))
  · rcases l.fre x h with h | h
    · exact Or.inr (Or.inl h)
    · exact Or.inr (Or.inr h)
theorem Lik.lo {sc es : Scope} {x : Str} (l : Lik sc es) (h : Loc sc x) : Loc es x := by
  rcases h with h | h
  · exact Or.inl (l.loc x h)
  · exact Or.inr (l.cel x h)
structure Cok (C : Cf) (sc : Scope) (N : List Str) (k : Nat) (X : Cx) : Prop extends Okx C k X where
  nN : X.N = N
  nd : N.Nodup
  eL : Lik sc X.env.scope
  po : PassesOwn (model X.prog X.w) X.A X.env X.xe
  fc : ∀ x, sc.names.lookup x = some .cell → X.fn x = true
/-- a def's own body -/
structure Cod (C : Cf) (sc : Scope) (N : List Str) (k : Nat) (X : Cx) : Prop extends Cok C sc N k X where
  eS : X.env.scope = sc
structure ER (K : PySem.W.Frag) (W : Wd) (H : Hp) (σ : L2.St) (ρ : En) : Prop where
  len : σ.length = ρ.length
  «at» : ∀ (i : Nat) (d : D), ρ[i]? = some (some d) → ∃ v, σ[i]? = some (some v) ∧ DV K W H v d
def Po (K : PySem.W.Frag) (W : Wd) (H : Hp) (Q : VK) : D → S → Prop := fun d s => ∀ W' H' v, Ev W H W' H' → DV K W' H' v d → Abs K W' s H' → Q v H'
def PoA (K : PySem.W.Frag) (W : Wd) (H : Hp) (Q : List V → Hp → Prop) : List D → S → Prop := fun ds s => ∀ W' H' vs, Ev W H W' H' → DVs K W' H' vs ds → Abs K W' s H' → Q vs H'
def PoT (K : PySem.W.Frag) (W : Wd) (H : Hp) (Q : Bool → Hp → Prop) : Bool → S → Prop := fun b s => ∀ W' H', Ev W H W' H' → Abs K W' s H' → Q b H'
theorem ER.up {K : PySem.W.Frag} {W W' : Wd} {H H' : Hp} {σ : L2.St} {ρ : En} (h : ER K W H σ ρ) (e : Ev W H W' H') : ER K W' H' σ ρ := ⟨h.len, fun i d z => by
  obtain ⟨v, h1, h2⟩ := h.at i d z
  exact ⟨v, h1, h2.up e⟩⟩
theorem Po.up {K : PySem.W.Frag} {W W' : Wd} {H H' : Hp} {Q : VK} {d : D} {s : S} (e : Ev W H W' H') (h : Po K W H Q d s) : Po K W' H' Q d s := fun W2 H2 v e2 => h W2 H2 v (e.trans e2)
theorem PoA.up {K : PySem.W.Frag} {W W' : Wd} {H H' : Hp} {Q : List V → Hp → Prop} {d : List D} {s : S} (e : Ev W H W' H') (h : PoA K W H Q d s) : PoA K W' H' Q d s := fun W2 H2 v e2 => h W2 H2 v (e.trans e2)
theorem PoT.up {K : PySem.W.Frag} {W W' : Wd} {H H' : Hp} {Q : Bool → Hp → Prop} {d : Bool} {s : S} (e : Ev W H W' H') (h : PoT K W H Q d s) : PoT K W' H' Q d s := fun W2 H2 e2 => h W2 H2 (e.trans e2)

abbrev EF := En → M D
abbrev AF := En → M (List D)
abbrev TF := En → M Bool
/-- an expression does m -/
def SE (C : Cf) (sc : Scope) (N : List Str) (k : Nat) (e : Expr) (m : EF) : Prop :=
  ∀ X, Cok C sc N k X → ∃ t, PE X e t ∧ ∀ σ H W s ρ Q, ER C.K W H σ ρ → Abs C.K W s H → Good (m ρ s) (Po C.K W H Q) → t σ H Q
def SA (C : Cf) (sc : Scope) (N : List Str) (k : Nat) (es : List Expr) (m : AF) : Prop :=
  ∀ X, Cok C sc N k X → ∃ t, PA X es t ∧ ∀ σ H W s ρ Q, ER C.K W H σ ρ → Abs C.K W s H → Good (m ρ s) (PoA C.K W H Q) → t σ H Q
def ST (C : Cf) (sc : Scope) (N : List Str) (k : Nat) (e : Expr) (m : TF) : Prop :=
  ∀ X, Cok C sc N k X → ∃ t, PT X e t ∧ ∀ σ H W s ρ Q, ER C.K W H σ ρ → Abs C.K W s H → Good (m ρ s) (PoT C.K W H Q) → t σ H Q
/-- a test within and, or -/
def SW (C : Cf) (sc : Scope) (N : List Str) (k : Nat) (e : Expr) (m : TF) : Prop :=
  ∀ X, Cok C sc N k X → ∃ t, PW X e t ∧ ∀ σ H W s ρ Q, ER C.K W H σ ρ → Abs C.K W s H → Good (m ρ s) (PoT C.K W H Q) → t σ H Q

section
variable {C : Cf} {sc : Scope} {N : List Str} {k : Nat} {pos : Pos} {e a b : Expr} {m ma mb : EF}

/-! ### names, constants -/
def vE (i : Nat) : EF := fun ρ s => match ρ[i]? with
  | some (some d) => .ok d s
  | _ => .bad
def cE (x : P) : EF := fun _ s => .ok (.p x) s
theorem s_v (i : Nat) {x : Str} (hN : N[i]? = some x := by rfl) (hv : Vis sc x := by first | exact Or.inl rfl | exact Or.inr (Or.inl rfl) | exact Or.inr (Or.inr rfl)) (hd : (x == ("__debug__" : Str)) = false := by decide)
    (hcd : (x == ("__classdict__" : Str)) = false := by decide) : SE C sc N k (.Name x pos) (vE i) := fun X ok => by
  refine ⟨_, pe_var (i := i) (by rw [ok.nN]; exact hN) (ok.eL.vis hv) hd hcd, fun σ H W s ρ Q er A g => ?_⟩
  unfold vE at g
  split at g
  · rename_i d hd
    obtain ⟨v, h1, h2⟩ := er.at i d hd
    exact ⟨v, h1, g W H v Ev.rfl h2 A⟩
  · exact g.elim
theorem s_int {i : Int} {j : Nat} : SE C sc N k (.Constant (.int i) j pos) (cE (.int i)) := fun X ok => ⟨_, pe_int, fun σ H W s ρ Q er A g => g W H _ Ev.rfl (PV.int i) A⟩
theorem s_bl {i : Bool} {j : Nat} : SE C sc N k (.Constant (.bool i) j pos) (cE (.bl i)) := fun X ok => ⟨_, pe_bl, fun σ H W s ρ Q er A g => g W H _ Ev.rfl (PV.bl i) A⟩
theorem s_non {j : Nat} : SE C sc N k (.Constant .none j pos) (cE .non) := fun X ok => ⟨_, pe_non, fun σ H W s ρ Q er A g => g W H _ Ev.rfl PV.non A⟩
theorem s_str {x : Str} {j : Nat} : SE C sc N k (.Constant (.str x) j pos) (cE (.str x)) := fun X ok => ⟨_, pe_str, fun σ H W s ρ Q er A g => g W H _ Ev.rfl (PV.str x) A⟩
def GlS (sc : Scope) (x : Str) : Prop := sc.names.lookup x = some .globalImplicit
theorem GlS.of {X : Cx} {x : Str} (h : GlS sc x) (ok : Cok C sc N k X) : Gl X x := by
  exact ok.eL.glo x h
/-- a module's constant -/
theorem s_glob {x : Str} {v : V} {u : Value} {z : P} (hm : C.mg x = some u) (r : RelV v u) (hz : ∀ F H, PV C.K F H v z) (hg : GlS sc x := by rfl) (hd : (x == ("__debug__" : Str)) = false := by decide) : SE C sc N k (.Name x pos) (cE z) := fun X ok => by
  refine ⟨_, pe_glob (hg.of ok) (by rw [ok.em]; exact hm) r hd, fun σ H W s ρ Q er A g => ?_⟩
  exact g W H v Ev.rfl (hz _ _) A

/-! ### operators -/
/-- a two-place operation on values does g -/
def OpS (C : Cf) (k : Nat) (f : Value → Value → Sem Value) (g : D → D → M D) : Prop :=
  ∀ X, Okx C k X → ∃ r, OpR X f r ∧ ∀ W s H x y dx dy Q, DV C.K W H x dx → DV C.K W H y dy → Abs C.K W s H → Good (g dx dy s) (Po C.K W H Q) → r x y H Q
def op2 (g : D → D → M D) (ma mb : EF) : EF := fun ρ => bnd (ma ρ) fun x => bnd (mb ρ) fun y => g x y
theorem two {t u : TE} {R : V → V → Hp → Prop} {σ : L2.St} {H : Hp} {W : Wd} {s : S} {ρ : En} {g : D → D → M D} {Q : VK}
    (ha : ∀ σ H W s ρ Q, ER C.K W H σ ρ → Abs C.K W s H → Good (ma ρ s) (Po C.K W H Q) → t σ H Q) (hb : ∀ σ H W s ρ Q, ER C.K W H σ ρ → Abs C.K W s H → Good (mb ρ s) (Po C.K W H Q) → u σ H Q)
    (er : ER C.K W H σ ρ) (A : Abs C.K W s H) (h : Good (op2 g ma mb ρ s) (Po C.K W H Q))
    (hR : ∀ W' H' s' x y dx dy, Ev W H W' H' → DV C.K W' H' x dx → DV C.K W' H' y dy → Abs C.K W' s' H' → Good (g dx dy s') (Po C.K W' H' Q) → R x y H') : t σ H fun x H1 => u σ H1 fun y H2 => R x y H2 := by
  refine ha σ H W s ρ _ er A (h.bnd.mono fun dx s1 h1 W1 H1 x e1 r1 A1 => ?_)
  refine hb σ H1 W1 s1 ρ _ (er.up e1) A1 (h1.bnd.mono fun dy s2 h2 W2 H2 y e2 r2 A2 => ?_)
  exact hR W2 H2 s2 x y dx dy (e1.trans e2) (r1.up e2) r2 A2 (h2.mono fun d s z => z.up (e1.trans e2))
theorem s_bin {op : Operator} {g : D → D → M D} (ho : OpS C k (binaryOp op) g) (ha : SE C sc N k a ma) (hb : SE C sc N k b mb) : SE C sc N k (.BinOp a op b pos) (op2 g ma mb) := fun X ok => by
  obtain ⟨r, h1, h2⟩ := ho X ok.toOkx
  obtain ⟨ta, pa, qa⟩ := ha X ok
  obtain ⟨tb, pb, qb⟩ := hb X ok
  exact ⟨_, pe_op h1 pa pb, fun σ H W s ρ Q er A g => two qa qb er A g fun W' H' s' x y dx dy e rx ry A' g' => h2 W' s' H' x y dx dy Q rx ry A' g'⟩
theorem s_cmp {op : CmpOp} {g : D → D → M D} (ho : OpS C k (compareOp op) g) (ha : SE C sc N k a ma) (hb : SE C sc N k b mb) (hm : behindInMarks op b = false := by first | exact nomark _ | rfl) : SE C sc N k (.Compare a [op] [b] pos) (op2 g ma mb) := fun X ok => by
  obtain ⟨r, h1, h2⟩ := ho X ok.toOkx
  obtain ⟨ta, pa, qa⟩ := ha X ok
  obtain ⟨tb, pb, qb⟩ := hb X ok
  exact ⟨_, pe_cmpR h1 pa pb hm, fun σ H W s ρ Q er A g => two qa qb er A g fun W' H' s' x y dx dy e rx ry A' g' => h2 W' s' H' x y dx dy Q rx ry A' g'⟩
def chn (g h : D → D → M D) (ma mb mc : EF) : EF := fun ρ => bnd (ma ρ) fun x => bnd (mb ρ) fun y => bnd (g x y) fun c => match c with
  | .p (.bl true) => bnd (mc ρ) fun z => h y z
  | .p (.bl false) => ret (.p (.bl false))
  | _ => bad
theorem chn_go {t u v : TE} {r r' : R2} {mc : EF} {g h : D → D → M D} {σ : L2.St} {H : Hp} {W : Wd} {s : S} {ρ : En} {Q : VK}
    (ha : ∀ σ H W s ρ Q, ER C.K W H σ ρ → Abs C.K W s H → Good (ma ρ s) (Po C.K W H Q) → t σ H Q) (hb : ∀ σ H W s ρ Q, ER C.K W H σ ρ → Abs C.K W s H → Good (mb ρ s) (Po C.K W H Q) → u σ H Q)
    (hc : ∀ σ H W s ρ Q, ER C.K W H σ ρ → Abs C.K W s H → Good (mc ρ s) (Po C.K W H Q) → v σ H Q)
    (h1 : ∀ W s H x y dx dy Q, DV C.K W H x dx → DV C.K W H y dy → Abs C.K W s H → Good (g dx dy s) (Po C.K W H Q) → r x y H Q) (h2 : ∀ W s H x y dx dy Q, DV C.K W H x dx → DV C.K W H y dy → Abs C.K W s H → Good (h dx dy s) (Po C.K W H Q) → r' x y H Q)
    (er : ER C.K W H σ ρ) (A : Abs C.K W s H) (G : Good (chn g h ma mb mc ρ s) (Po C.K W H Q)) : tChain r r' t u v σ H Q := by
  refine ha σ H W s ρ _ er A (G.bnd.mono fun dx s1 z1 W1 H1 x e1 r1 A1 => ?_)
  refine hb σ H1 W1 s1 ρ _ (er.up e1) A1 (z1.bnd.mono fun dy s2 z2 W2 H2 y e2 r2 A2 => ?_)
  refine h1 W2 s2 H2 x y dx dy _ (r1.up e2) r2 A2 (z2.bnd.mono fun c s3 z3 W3 H3 z e3 r3 A3 => ?_)
  cases c with
  | obj n => exact z3.elim
  | p c =>
    cases r3 with
    | bl c =>
      refine ⟨c, rfl, ?_⟩
      cases c with
      | true =>
        refine iteT (hc σ H3 W3 s3 ρ _ (er.up (e1.trans (e2.trans e3))) A3 (z3.bnd.mono fun dz s4 z4 W4 H4 y' e4 r4 A4 => ?_))
        exact h2 W4 s4 H4 y y' dy dz Q (r2.up (e3.trans e4)) r4 A4 (z4.mono fun _ _ q => q.up (e1.trans (e2.trans (e3.trans e4))))
      | false => exact iteF (z3 W3 H3 _ (e1.trans (e2.trans e3)) (.bl false) A3)
    | _ => exact z3.elim
theorem s_chain {op op' : CmpOp} {g h : D → D → M D} {c : Expr} {mc : EF} (ho : OpS C k (compareOp op) g) (ho' : OpS C k (compareOp op') h) (ha : SE C sc N k a ma) (hb : SE C sc N k b mb) (hc : SE C sc N k c mc)
    (hm : lastMarks [op, op'] [b, c] = false := by with_unfolding_all rfl) : SE C sc N k (.Compare a [op, op'] [b, c] pos) (chn g h ma mb mc) := fun X ok => by
  obtain ⟨r, h1, h2⟩ := ho X ok.toOkx
  obtain ⟨r', h1', h2'⟩ := ho' X ok.toOkx
  obtain ⟨ta, pa, qa⟩ := ha X ok
  obtain ⟨tb, pb, qb⟩ := hb X ok
  obtain ⟨tc, pc, qc⟩ := hc X ok
  exact ⟨_, pe_chain h1 h1' pa pb pc hm, fun σ H W s ρ Q er A g => chn_go qa qb qc h2 h2' er A g⟩
/-- a value that must be a truth -/
def tB (m : EF) : TF := fun ρ => bnd (m ρ) fun d => match d with
  | .p (.bl b) => ret b
  | _ => bad
theorem tB_go {t : TE} {σ : L2.St} {H : Hp} {W : Wd} {s : S} {ρ : En} {Q : Bool → Hp → Prop}
    (ha : ∀ σ H W s ρ Q, ER C.K W H σ ρ → Abs C.K W s H → Good (ma ρ s) (Po C.K W H Q) → t σ H Q) (er : ER C.K W H σ ρ) (A : Abs C.K W s H) (h : Good (tB ma ρ s) (PoT C.K W H Q)) : t σ H fun x H1 => ∃ c, x = .bl c ∧ Q c H1 := by
  refine ha σ H W s ρ _ er A (h.bnd.mono fun d s1 h1 W1 H1 x e1 r1 A1 => ?_)
  cases d with
  | obj n => exact h1.elim
  | p z =>
    cases z with
    | bl c =>
      cases r1
      exact ⟨c, rfl, h1 W1 H1 e1 A1⟩
    | _ => exact h1.elim
theorem t_cmp {op : CmpOp} {g : D → D → M D} (ho : OpS C k (compareOp op) g) (ha : SE C sc N k a ma) (hb : SE C sc N k b mb) (hm : behindInMarks op b = false := by first | exact nomark _ | rfl) : ST C sc N k (.Compare a [op] [b] pos) (tB (op2 g ma mb)) := fun X ok => by
  obtain ⟨r, h1, h2⟩ := ho X ok.toOkx
  obtain ⟨ta, pa, qa⟩ := ha X ok
  obtain ⟨tb, pb, qb⟩ := hb X ok
  exact ⟨_, pt_cmpR h1 pa pb hm, fun σ H W s ρ Q er A g => tB_go (t := tOp r ta tb) (fun σ H W s ρ Q er A g => two qa qb er A g fun W' H' s' x y dx dy e rx ry A' g' => h2 W' s' H' x y dx dy Q rx ry A' g') er A g⟩
theorem t_chain {op op' : CmpOp} {g h : D → D → M D} {c : Expr} {mc : EF} (ho : OpS C k (compareOp op) g) (ho' : OpS C k (compareOp op') h) (ha : SE C sc N k a ma) (hb : SE C sc N k b mb) (hc : SE C sc N k c mc)
    (hm : lastMarks [op, op'] [b, c] = false := by with_unfolding_all rfl) : ST C sc N k (.Compare a [op, op'] [b, c] pos) (tB (chn g h ma mb mc)) := fun X ok => by
  obtain ⟨r, h1, h2⟩ := ho X ok.toOkx
  obtain ⟨r', h1', h2'⟩ := ho' X ok.toOkx
  obtain ⟨ta, pa, qa⟩ := ha X ok
  obtain ⟨tb, pb, qb⟩ := hb X ok
  obtain ⟨tc, pc, qc⟩ := hc X ok
  exact ⟨_, pt_chain h1 h1' pa pb pc hm, fun σ H W s ρ Q er A g => tB_go (t := tChain r r' ta tb tc) (fun σ H W s ρ Q er A g => chn_go qa qb qc h2 h2' er A g) er A g⟩
/-- the truth of a value -/
def truD : D → M Bool
  | .p .non => ret false
  | .p (.bl b) => ret b
  | .p (.int i) => ret (i != 0)
  | .p (.lst xs) => ret (!xs.isEmpty)
  | .p (.con xs) => ret (!xs.isEmpty)
  | .p (.tup xs) => ret (!xs.isEmpty)
  | .p (.str x) => fun s => if x.length ≤ sizeLine then .ok ((x.length : Int) != 0) s else .bad
  | .obj n => fun s => match s[n]? with
    | some (some (.lst xs)) => .ok (!xs.isEmpty) s
    | some (some (.dic kvs)) => .ok (!kvs.isEmpty) s
    | _ => .bad
  | _ => bad
def tT (m : EF) : TF := fun ρ => bnd (m ρ) truD
theorem PVs.emp {K : PySem.W.Frag} {F : Addr → Prop} {H : Hp} {vs : List V} {xs : List P} (h : PVs K F H vs xs) : (!vs.isEmpty) = !xs.isEmpty := by
  cases h <;> rfl
theorem Paired.emp {α β : Type} {f : α → β → Prop} {vs : List α} {xs : List β} (h : Paired f vs xs) : (!vs.isEmpty) = !xs.isEmpty := by
  cases h <;> rfl
theorem tT_go {t : TE} {σ : L2.St} {H : Hp} {W : Wd} {s : S} {ρ : En} {Q : Bool → Hp → Prop}
    (ha : ∀ σ H W s ρ Q, ER C.K W H σ ρ → Abs C.K W s H → Good (ma ρ s) (Po C.K W H Q) → t σ H Q) (er : ER C.K W H σ ρ) (A : Abs C.K W s H) (h : Good (tT ma ρ s) (PoT C.K W H Q)) : t σ H fun x H1 => ∃ c, TruV C.K x H1 c ∧ Q c H1 := by
  refine ha σ H W s ρ _ er A (h.bnd.mono fun d s1 h1 W1 H1 x e1 r1 A1 => ?_)
  cases d with
  | obj n =>
    obtain ⟨a, h4, rfl⟩ := r1
    unfold truD at h1
    dsimp only at h1
    split at h1
    · rename_i xs hs
      obtain ⟨a', h5, _, vs, h6, h7⟩ := A1.ob n _ hs
      rw [h4] at h5
      cases h5
      exact ⟨_, Or.inl ⟨vs, SqL.of h6, rfl⟩, by rw [h7.emp]; exact h1 W1 H1 e1 A1⟩
    · rename_i kvs hs
      obtain ⟨a', h5, _, vs, h6, h7⟩ := A1.ob n _ hs
      rw [h4] at h5
      cases h5
      exact ⟨_, Or.inr (Or.inr ⟨vs, h6, rfl⟩), by rw [Paired.emp h7]; exact h1 W1 H1 e1 A1⟩
    · exact h1.elim
  | p z =>
    cases r1 with
    | non => exact ⟨_, rfl, h1 W1 H1 e1 A1⟩
    | bl c => exact ⟨_, rfl, h1 W1 H1 e1 A1⟩
    | int c => exact ⟨_, rfl, h1 W1 H1 e1 A1⟩
    | str c =>
      unfold truD at h1
      dsimp only at h1
      split at h1
      · rename_i hl
        exact ⟨_, ⟨hl, rfl⟩, h1 W1 H1 e1 A1⟩
      · exact h1.elim
    | ty c => exact h1.elim
    | ref c => exact h1.elim
    | tup hq hr => exact ⟨_, Or.inr (Or.inl ⟨_, hq, rfl⟩), by rw [hr.emp]; exact h1 W1 H1 e1 A1⟩
    | lst hf hq hr => exact ⟨_, Or.inl ⟨_, SqL.of hq, rfl⟩, by rw [hr.emp]; exact h1 W1 H1 e1 A1⟩
    | con hq hr => exact ⟨_, Or.inl ⟨_, hq.sql, rfl⟩, by rw [hr.emp]; exact h1 W1 H1 e1 A1⟩
theorem t_val (ha : SE C sc N k a ma) (he : ∀ (env : Env) whole, isTrue a env whole = (do let v ← whole; standAt a.pos; holding [v] (truthy v)) := by intro _ _; rfl) : ST C sc N k a (tT ma) := fun X ok => by
  obtain ⟨ta, pa, qa⟩ := ha X ok
  refine ⟨_, pt_truth pa (he X.env), fun σ H W s ρ Q er A g => ?_⟩
  rw [ok.eK]
  exact tT_go qa er A g
def andT (ma mb : TF) : TF := fun ρ => bnd (ma ρ) fun c => if c = true then mb ρ else ret false
def orT (ma mb : TF) : TF := fun ρ => bnd (ma ρ) fun c => if c = true then ret true else mb ρ
def notT (ma : TF) : TF := fun ρ => bnd (ma ρ) fun c => ret (!c)
section
variable {ta tb : TF} {rest : List Expr}
theorem w_and1 (ha : ST C sc N k a ta) : SW C sc N k (.BoolOp .And [a] pos) ta := fun X ok => by
  obtain ⟨t, p, q⟩ := ha X ok
  exact ⟨_, pw_and1 p, q⟩
theorem w_or1 (ha : ST C sc N k a ta) : SW C sc N k (.BoolOp .Or [a] pos) ta := fun X ok => by
  obtain ⟨t, p, q⟩ := ha X ok
  exact ⟨_, pw_or1 p, q⟩
theorem w_and (ha : ST C sc N k a ta) (hb : SW C sc N k (.BoolOp .And (b :: rest) pos) tb) : SW C sc N k (.BoolOp .And (a :: b :: rest) pos) (andT ta tb) := fun X ok => by
  obtain ⟨t, p, q⟩ := ha X ok
  obtain ⟨u, p', q'⟩ := hb X ok
  refine ⟨_, pw_and p p', fun σ H W s ρ Q er A g => ?_⟩
  refine q σ H W s ρ _ er A (g.bnd.mono fun c s1 h1 W1 H1 e1 A1 => ?_)
  cases c with
  | true => exact iteT (q' σ H1 W1 s1 ρ Q (er.up e1) A1 (Good.mono h1 fun _ _ z => z.up e1))
  | false => exact iteF (h1 W1 H1 e1 A1)
theorem w_or (ha : ST C sc N k a ta) (hb : SW C sc N k (.BoolOp .Or (b :: rest) pos) tb) : SW C sc N k (.BoolOp .Or (a :: b :: rest) pos) (orT ta tb) := fun X ok => by
  obtain ⟨t, p, q⟩ := ha X ok
  obtain ⟨u, p', q'⟩ := hb X ok
  refine ⟨_, pw_or p p', fun σ H W s ρ Q er A g => ?_⟩
  refine q σ H W s ρ _ er A (g.bnd.mono fun c s1 h1 W1 H1 e1 A1 => ?_)
  cases c with
  | true => exact iteT (h1 W1 H1 e1 A1)
  | false => exact iteF (q' σ H1 W1 s1 ρ Q (er.up e1) A1 (Good.mono h1 fun _ _ z => z.up e1))
theorem t_w (h : SW C sc N k a ta) : ST C sc N k a ta := fun X ok => by
  obtain ⟨t, p, q⟩ := h X ok
  exact ⟨_, p.pt, q⟩
theorem t_not (ha : ST C sc N k a ta) : ST C sc N k (.UnaryOp .Not a pos) (notT ta) := fun X ok => by
  obtain ⟨t, p, q⟩ := ha X ok
  refine ⟨_, pt_not p, fun σ H W s ρ Q er A g => ?_⟩
  exact q σ H W s ρ _ er A (g.bnd.mono fun c s1 h1 W1 H1 e1 A1 => h1 W1 H1 e1 A1)
def ifE (t : TF) (ma mb : EF) : EF := fun ρ => bnd (t ρ) fun c => if c = true then ma ρ else mb ρ
theorem s_if {c : Expr} (hc : ST C sc N k c ta) (ha : SE C sc N k a ma) (hb : SE C sc N k b mb) : SE C sc N k (.IfExp c a b pos) (ifE ta ma mb) := fun X ok => by
  obtain ⟨t, p, q⟩ := hc X ok
  obtain ⟨u, p', q'⟩ := ha X ok
  obtain ⟨v, p2, q2⟩ := hb X ok
  refine ⟨_, pe_ifExp p p' p2, fun σ H W s ρ Q er A g => ?_⟩
  refine q σ H W s ρ _ er A (g.bnd.mono fun c s1 h1 W1 H1 e1 A1 => ?_)
  cases c with
  | true => exact iteT (q' σ H1 W1 s1 ρ Q (er.up e1) A1 (Good.mono h1 fun _ _ z => z.up e1))
  | false => exact iteF (q2 σ H1 W1 s1 ρ Q (er.up e1) A1 (Good.mono h1 fun _ _ z => z.up e1))
/-! and, or, not as values: all but the last truths -/
def andE (ma mb : EF) : EF := fun ρ => bnd (ma ρ) fun d => match d with
  | .p (.bl c) => if c = true then mb ρ else ret (.p (.bl false))
  | _ => bad
def orE (ma mb : EF) : EF := fun ρ => bnd (ma ρ) fun d => match d with
  | .p (.bl c) => if c = true then ret (.p (.bl true)) else mb ρ
  | _ => bad
def notE (ma : EF) : EF := fun ρ => bnd (ma ρ) fun d => match d with
  | .p (.bl c) => ret (.p (.bl (!c)))
  | _ => bad
theorem s_one {op} (ha : SE C sc N k a ma) : SE C sc N k (.BoolOp op [a] pos) ma := fun X ok => by
  obtain ⟨t, p, q⟩ := ha X ok
  exact ⟨_, pe_one p, q⟩
theorem s_and (ha : SE C sc N k a ma) (hb : SE C sc N k (.BoolOp .And (b :: rest) pos) mb) : SE C sc N k (.BoolOp .And (a :: b :: rest) pos) (andE ma mb) := fun X ok => by
  obtain ⟨t, p, q⟩ := ha X ok
  obtain ⟨u, p', q'⟩ := hb X ok
  refine ⟨_, pe_and p p', fun σ H W s ρ Q er A g => ?_⟩
  refine q σ H W s ρ _ er A (g.bnd.mono fun c s1 h1 W1 H1 x e1 r1 A1 => ?_)
  cases c with
  | obj n => exact h1.elim
  | p z =>
    cases r1 with
    | bl c =>
      refine ⟨c, rfl, ?_⟩
      cases c with
      | true => exact iteT (q' σ H1 W1 s1 ρ Q (er.up e1) A1 (Good.mono h1 fun _ _ z => z.up e1))
      | false => exact iteF (h1 W1 H1 _ e1 (.bl false) A1)
    | _ => exact h1.elim
theorem s_or (ha : SE C sc N k a ma) (hb : SE C sc N k (.BoolOp .Or (b :: rest) pos) mb) : SE C sc N k (.BoolOp .Or (a :: b :: rest) pos) (orE ma mb) := fun X ok => by
  obtain ⟨t, p, q⟩ := ha X ok
  obtain ⟨u, p', q'⟩ := hb X ok
  refine ⟨_, pe_or p p', fun σ H W s ρ Q er A g => ?_⟩
  refine q σ H W s ρ _ er A (g.bnd.mono fun c s1 h1 W1 H1 x e1 r1 A1 => ?_)
  cases c with
  | obj n => exact h1.elim
  | p z =>
    cases r1 with
    | bl c =>
      refine ⟨c, rfl, ?_⟩
      cases c with
      | true => exact iteT (h1 W1 H1 _ e1 (.bl true) A1)
      | false => exact iteF (q' σ H1 W1 s1 ρ Q (er.up e1) A1 (Good.mono h1 fun _ _ z => z.up e1))
    | _ => exact h1.elim
theorem s_not (ha : SE C sc N k a ma) : SE C sc N k (.UnaryOp .Not a pos) (notE ma) := fun X ok => by
  obtain ⟨t, p, q⟩ := ha X ok
  refine ⟨_, pe_not p, fun σ H W s ρ Q er A g => ?_⟩
  refine q σ H W s ρ _ er A (g.bnd.mono fun c s1 h1 W1 H1 x e1 r1 A1 => ?_)
  cases c with
  | obj n => exact h1.elim
  | p z =>
    cases r1 with
    | bl c => exact ⟨c, rfl, h1 W1 H1 _ e1 (.bl _) A1⟩
    | _ => exact h1.elim
end
/-! ### one-place operators -/
def negD : D → M D
  | .p (.int i) => ret (.p (.int (-i)))
  | _ => bad
def op1 (g : D → M D) (ma : EF) : EF := fun ρ => bnd (ma ρ) g
theorem s_neg (ha : SE C sc N k a ma) : SE C sc N k (.UnaryOp .USub a pos) (op1 negD ma) := fun X ok => by
  obtain ⟨t, p, q⟩ := ha X ok
  refine ⟨_, pe_un un_neg p, fun σ H W s ρ Q er A g => ?_⟩
  refine q σ H W s ρ _ er A (g.bnd.mono fun c s1 h1 W1 H1 x e1 r1 A1 => ?_)
  cases c with
  | obj n => exact h1.elim
  | p z =>
    cases r1 with
    | int c => exact ⟨c, rfl, h1 W1 H1 _ e1 (.int _) A1⟩
    | _ => exact h1.elim
/-! ### argument lists -/
def evA : List EF → AF
  | [] => fun _ s => .ok [] s
  | m :: r => fun ρ => bnd (m ρ) fun d => bnd (evA r ρ) fun ds => ret (d :: ds)
theorem evA_len : ∀ (ms : List EF) {ρ : En} {s s' : S} {ds : List D}, evA ms ρ s = .ok ds s' → ds.length = ms.length
  | [], ρ, s, s', ds, h => by
    unfold evA at h
    cases h
    rfl
  | m :: r, ρ, s, s', ds, h => by
    simp only [evA, bnd] at h
    cases h1 : m ρ s with
    | bad =>
      rw [h1] at h
      cases h
    | ok d s1 =>
      rw [h1] at h
      simp only at h
      cases h2 : evA r ρ s1 with
      | bad =>
        rw [h2] at h
        cases h
      | ok es s2 =>
        rw [h2] at h
        cases h
        exact congrArg (· + 1) (evA_len r h2)
theorem Good.len {ms : List EF} {ρ : En} {s : S} {Q : List D → S → Prop} (h : Good (evA ms ρ s) Q) : Good (evA ms ρ s) fun ds s' => ds.length = ms.length ∧ Q ds s' := by
  cases e : evA ms ρ s with
  | ok ds s' =>
    rw [e] at h
    exact ⟨evA_len ms e, h⟩
  | bad =>
    rw [e] at h
    exact h
abbrev SAs (C : Cf) (sc : Scope) (N : List Str) (k : Nat) (es : List Expr) (ms : List EF) : Prop := SA C sc N k es (evA ms)
theorem a_nil : SAs C sc N k [] [] := fun X ok => ⟨_, pa_nil, fun σ H W s ρ Q er A g => g W H [] Ev.rfl .nil A⟩
theorem a_cons {es : List Expr} {r : List EF} (ha : SE C sc N k a ma) (hr : SAs C sc N k es r) (he : ∀ env, starEach (a :: es) env = (false, eval a env) :: starEach es env := by intro _; rfl) : SAs C sc N k (a :: es) (ma :: r) := fun X ok => by
  obtain ⟨t, p, q⟩ := ha X ok
  obtain ⟨u, p', q'⟩ := hr X ok
  refine ⟨_, pa_cons p p' (he X.env), fun σ H W s ρ Q er A g => ?_⟩
  refine q σ H W s ρ _ er A ((Good.bnd g).mono fun d s1 h1 W1 H1 x e1 r1 A1 => ?_)
  refine q' σ H1 W1 s1 ρ _ (er.up e1) A1 ((Good.bnd h1).mono fun ds s2 h2 W2 H2 xs e2 r2 A2 => ?_)
  exact h2 W2 H2 (x :: xs) (e1.trans e2) (.cons (r1.up e2) r2) A2
end
end CW

end
section
set_option maxRecDepth 100000
set_option maxHeartbeats 2000000
/-! CW, third part: displays, subscripts, slices, dicts. -/
namespace CW
open PySem PySem.Spec PyProof.Rows L2
def plain : List D → Option (List P)
  | [] => some []
  | .p x :: r => (plain r).map (x :: ·)
  | .obj _ :: _ => none
theorem plain_eq : ∀ {ds : List D} {xs : List P}, plain ds = some xs → ds = xs.map D.p
  | [], xs, h => by
    cases h
    rfl
  | .p x :: r, xs, h => by
    unfold plain at h
    cases e : plain r with
    | none =>
      rw [e] at h
      cases h
    | some ys =>
      rw [e] at h
      have h' := Option.some.inj h
      subst h'
      rw [plain_eq e]
      rfl
  | .obj _ :: _, xs, h => by cases h
theorem plain_map : ∀ xs : List P, plain (xs.map D.p) = some xs
  | [] => rfl
  | x :: r => by
    show (plain (r.map D.p)).map (x :: ·) = some (x :: r)
    rw [plain_map r]
    rfl
section
variable {C : Cf} {sc : Scope} {N : List Str} {k : Nat} {pos : Pos} {e a b : Expr} {m ma mb : EF} {es : List Expr} {ms : List EF}
/-! ### displays -/
def tupE (ms : List EF) : EF := fun ρ => bnd (evA ms ρ) fun ds s => match plain ds with
  | some xs => .ok (.p (.tup xs)) s
  | none => .bad
theorem s_tup {x1} (h : SAs C sc N k es ms) (hl : ms.length ≤ sizeLine := by decide) : SE C sc N k (.Tuple es x1 pos) (tupE ms) := fun X ok => by
  obtain ⟨t, p, q⟩ := h X ok
  refine ⟨_, pe_tup p, fun σ H W s ρ Q er A g => ?_⟩
  refine q σ H W s ρ _ er A (g.bnd.len.mono fun ds s1 ⟨z, h1⟩ W1 H1 vs e1 r1 A1 => ?_)
  split at h1
  · rename_i xs hx
    have hx' := plain_eq hx
    subst hx'
    refine ⟨by rw [Paired.length r1, z]; exact hl, fun o ho => ?_⟩
    have r2 : PVs C.K W1.fr (upd H1 o (.tup vs)) vs xs := PVs.up (Ev.new ho) (DVs.plain r1)
    exact h1 W1 _ _ (e1.trans (Ev.new ho)) (PV.tup (SqT.of upd_same) r2) (A1.new ho)
  · exact h1.elim
/-- a list that will not be changed -/
def lstE (ms : List EF) : EF := fun ρ => bnd (evA ms ρ) fun ds s => match plain ds with
  | some xs => .ok (.p (.lst xs)) s
  | none => .bad
theorem keep_go {W W1 : Wd} {H H1 : Hp} {s : S} {xs : List P} {vs : List V} {Q : VK} {o : Addr} (e : Ev W H W1 H1) (A : Abs C.K W1 s H1) (r : PVs C.K W1.fr H1 vs xs) (g : Po C.K W H Q (.p (.lst xs)) s) (ho : H1 o = none) : Q (.ref o) (upd H1 o (.lst vs)) := by
  have ev : Ev W1 H1 (W1.keep o) (upd H1 o (.lst vs)) := Ev.keep ho
  exact g _ _ _ (e.trans ev) (PV.lst (Or.inr rfl) upd_same (PVs.up ev r)) (A.keep ho)
theorem s_lst (h : SAs C sc N k es ms) (hl : ms.length ≤ sizeLine := by decide) : SE C sc N k (.List es pos) (lstE ms) := fun X ok => by
  obtain ⟨t, p, q⟩ := h X ok
  refine ⟨_, pe_lst p, fun σ H W s ρ Q er A g => ?_⟩
  refine q σ H W s ρ _ er A (g.bnd.len.mono fun ds s1 ⟨z, h1⟩ W1 H1 vs e1 r1 A1 => ?_)
  split at h1
  · rename_i xs hx
    have hx' := plain_eq hx
    subst hx'
    exact ⟨by rw [Paired.length r1, z]; exact hl, fun o ho => keep_go e1 A1 (DVs.plain r1) h1 ho⟩
  · exact h1.elim
/-- a list that may be changed -/
def newL (xs : List P) : M D := fun s => .ok (.obj s.length) (s ++ [some (.lst xs)])
def lsoE (ms : List EF) : EF := fun ρ => bnd (evA ms ρ) fun ds s => match plain ds with
  | some xs => newL xs s
  | none => .bad
theorem new_go {W W1 : Wd} {H H1 : Hp} {s : S} {xs : List P} {vs : List V} {Q : VK} {o : Addr} (e : Ev W H W1 H1) (A : Abs C.K W1 s H1) (r : PVs C.K W1.fr H1 vs xs) (g : Good (newL xs s) (Po C.K W H Q)) (ho : H1 o = none) : Q (.ref o) (upd H1 o (.lst vs)) := by
  have ev : Ev W1 H1 (W1.add o) (upd H1 o (.lst vs)) := Ev.add ho
  exact g _ _ _ (e.trans ev) ⟨o, A.nobj ho, rfl⟩ (A.add ho ⟨vs, upd_same, PVs.up ev r⟩)
theorem s_lso (h : SAs C sc N k es ms) (hl : ms.length ≤ sizeLine := by decide) : SE C sc N k (.List es pos) (lsoE ms) := fun X ok => by
  obtain ⟨t, p, q⟩ := h X ok
  refine ⟨_, pe_lst p, fun σ H W s ρ Q er A g => ?_⟩
  refine q σ H W s ρ _ er A (g.bnd.len.mono fun ds s1 ⟨z, h1⟩ W1 H1 vs e1 r1 A1 => ?_)
  split at h1
  · rename_i xs hx
    have hx' := plain_eq hx
    subst hx'
    exact ⟨by rw [Paired.length r1, z]; exact hl, fun o ho => new_go e1 A1 (DVs.plain r1) h1 ho⟩
  · exact h1.elim
/-! ### what holds a row -/
/-- the items of a list, changing or not -/
def its : D → S → Option (List P)
  | .p (.lst xs), _ => some xs
  | .p (.con xs), _ => some xs
  | .obj n, s => match s[n]? with
    | some (some (.lst xs)) => some xs
    | _ => none
  | _, _ => none
/-- .. of a list of our own -/
def itm : D → S → Option (List P)
  | .p (.lst xs), _ => some xs
  | .obj n, s => match s[n]? with
    | some (some (.lst xs)) => some xs
    | _ => none
  | _, _ => none
theorem itm_at {W : Wd} {H : Hp} {s : S} {v : V} {d : D} {xs : List P} (r : DV C.K W H v d) (A : Abs C.K W s H) (h : itm d s = some xs) : ∃ a vs, v = .ref a ∧ H a = some (.lst vs) ∧ PVs C.K W.fr H vs xs := by
  cases d with
  | obj n =>
    unfold itm at h
    dsimp only at h
    split at h
    · rename_i ys hs
      cases h
      obtain ⟨a, h1, _, vs, h2, h3⟩ := A.ob n _ hs
      obtain ⟨a', h4, rfl⟩ := r
      rw [h1] at h4
      cases h4
      exact ⟨a, vs, rfl, h2, h3⟩
    · cases h
  | p z =>
    cases r with
    | lst hf hq hr =>
      cases h
      exact ⟨_, _, rfl, hq, hr⟩
    | _ => cases h
theorem its_sq {W : Wd} {H : Hp} {s : S} {v : V} {d : D} {xs : List P} (r : DV C.K W H v d) (A : Abs C.K W s H) (h : its d s = some xs) : ∃ a vs, v = .ref a ∧ SqL C.K H a vs ∧ PVs C.K W.fr H vs xs := by
  cases d with
  | obj n =>
    unfold its at h
    dsimp only at h
    split at h
    · rename_i ys hs
      cases h
      obtain ⟨a, h1, _, vs, h2, h3⟩ := A.ob n _ hs
      obtain ⟨a', h4, rfl⟩ := r
      rw [h1] at h4
      cases h4
      exact ⟨a, vs, rfl, SqL.of h2, h3⟩
    · cases h
  | p z =>
    cases r with
    | lst hf hq hr =>
      cases h
      exact ⟨_, _, rfl, SqL.of hq, hr⟩
    | con hq hr =>
      cases h
      exact ⟨_, _, rfl, hq.sql, hr⟩
    | _ => cases h
theorem PVs.atI {K : PySem.W.Frag} {F : Addr → Prop} {H : Hp} {vs : List V} {xs : List P} {i : Int} {x : P} (h : PVs K F H vs xs) (e : L2.atI xs i = some x) : ∃ v, L2.atI vs i = some v ∧ PV K F H v x := by
  unfold L2.atI at e ⊢
  rw [h.len]
  cases hj : ixN xs.length i with
  | none =>
    rw [hj] at e
    cases e
  | some j =>
    rw [hj] at e
    exact h.get e
/-- list, tuple or text by an index -/
def ixD (x y : D) : M D := fun s => match y with
  | .p (.int i) => match x with
    | .p (.tup xs) => match L2.atI xs i with
      | some z => .ok (.p z) s
      | none => .bad
    | .p (.str z) => match L2.atI z.cps.toList i with
      | some c => if z.length ≤ sizeLine then .ok (.p (.str ⟨#[c]⟩)) s else .bad
      | none => .bad
    | x => match its x s with
      | some xs => match L2.atI xs i with
        | some z => .ok (.p z) s
        | none => .bad
      | none => .bad
  | _ => .bad
theorem ixD_go {W : Wd} {H : Hp} {s : S} {x y : V} {dx dy : D} {Q : VK} (rx : DV C.K W H x dx) (ry : DV C.K W H y dy) (A : Abs C.K W s H) (g : Good (ixD dx dy s) (Po C.K W H Q)) : rIx C.K x y H Q := by
  unfold ixD at g
  split at g
  · rename_i i
    cases ry
    split at g
    · rename_i xs
      split at g
      · rename_i z hz
        cases rx with
        | tup hq hr =>
          obtain ⟨v, h1, h2⟩ := hr.atI hz
          exact Or.inr (Or.inl ⟨_, _, _, _, rfl, rfl, hq, h1, g W H v Ev.rfl h2 A⟩)
      · exact g.elim
    · rename_i z
      split at g
      · rename_i c hc
        split at g
        · rename_i hl
          cases rx
          exact Or.inr (Or.inr ⟨z, i, c, rfl, rfl, hl, hc, g W H _ Ev.rfl (PV.str _) A⟩)
        · exact g.elim
      · exact g.elim
    · split at g
      · rename_i xs hx
        split at g
        · rename_i z hz
          obtain ⟨a, vs, rfl, hq, hr⟩ := its_sq rx A hx
          obtain ⟨v, h1, h2⟩ := hr.atI hz
          exact Or.inl ⟨_, _, _, _, rfl, rfl, hq, h1, g W H v Ev.rfl h2 A⟩
        · exact g.elim
      · exact g.elim
  · exact g.elim
theorem s_ix (ha : SE C sc N k a ma) (hb : SE C sc N k b mb) (hs : PlainIx b := by exact fun _ _ => rfl) : SE C sc N k (.Subscript a b pos) (op2 ixD ma mb) := fun X ok => by
  obtain ⟨ta, pa, qa⟩ := ha X ok
  obtain ⟨tb, pb, qb⟩ := hb X ok
  refine ⟨_, pe_ix ix_seq pa pb hs, fun σ H W s ρ Q er A g => ?_⟩
  rw [ok.eK]
  exact two qa qb er A g fun W' H' s' x y dx dy e rx ry A' g' => ixD_go rx ry A' g'
/-! ### dicts -/
def keyD : D → Option Key
  | .p (.int i) => some (.inl i)
  | .p (.str x) => some (.inr x)
  | _ => none
def lookD (kvs : List (Key × D)) (q : Key) : Option D := (kvs.find? fun kv => decide (kv.1 = q)).map (·.2)
def putD (kvs : List (Key × D)) (q : Key) (v : D) : List (Key × D) :=
  if (kvs.any fun kv => decide (kv.1 = q)) = true then kvs.map (fun kv => if kv.1 = q then (kv.1, v) else kv) else kvs ++ [(q, v)]
abbrev KD (K : PySem.W.Frag) (W : Wd) (H : Hp) : List (Key × V) → List (Key × D) → Prop := Paired fun (p : Key × V) (q : Key × D) => p.1 = q.1 ∧ DV K W H p.2 q.2
theorem KD.look {K : PySem.W.Frag} {W : Wd} {H : Hp} {ws : List (Key × V)} {kvs : List (Key × D)} {q : Key} (h : KD K W H ws kvs) : (lookD kvs q = none → valV ws q = none) ∧ ∀ d, lookD kvs q = some d → ∃ v, valV ws q = some v ∧ DV K W H v d := by
  induction h with
  | nil => exact ⟨fun _ => rfl, fun d z => by cases z⟩
  | @cons x y xs ys hh _ ih =>
    unfold lookD valV at ih ⊢
    rw [List.find?_cons, List.find?_cons, hh.1]
    by_cases e : y.1 = q
    · rw [decide_eq_true e]
      refine ⟨fun z => (nomatch z), fun d z => ?_⟩
      cases z
      exact ⟨_, rfl, hh.2⟩
    · rw [decide_eq_false e]
      exact ih
theorem KD.any {K : PySem.W.Frag} {W : Wd} {H : Hp} {ws : List (Key × V)} {kvs : List (Key × D)} {q : Key} (h : KD K W H ws kvs) : (ws.any fun kv => decide (kv.1 = q)) = kvs.any fun kv => decide (kv.1 = q) := by
  induction h with
  | nil => rfl
  | cons hh _ ih => rw [List.any_cons, List.any_cons, hh.1, ih]
theorem KD.app {K : PySem.W.Frag} {W : Wd} {H : Hp} {ws us : List (Key × V)} {kvs qs : List (Key × D)} (h : KD K W H ws kvs) (g : KD K W H us qs) : KD K W H (ws ++ us) (kvs ++ qs) := by
  induction h with
  | nil => exact g
  | cons hh _ ih => exact .cons hh ih
theorem KD.put {K : PySem.W.Frag} {W : Wd} {H : Hp} {ws : List (Key × V)} {kvs : List (Key × D)} {q : Key} {v : V} {d : D} (h : KD K W H ws kvs) (hv : DV K W H v d) : KD K W H (putK ws q v) (putD kvs q d) := by
  unfold putK putD
  rw [h.any]
  split
  · induction h with
    | nil => exact .nil
    | @cons x y xs ys hh _ ih =>
      rw [List.map_cons, List.map_cons, hh.1]
      refine .cons ?_ (by
        by_cases z : (ys.any fun kv => decide (kv.1 = q)) = true
        · exact ih z
        · have key : ∀ {us : List (Key × V)} {qs : List (Key × D)}, KD K W H us qs → KD K W H (us.map fun kv => if kv.1 = q then (kv.1, v) else kv) (qs.map fun kv => if kv.1 = q then (kv.1, d) else kv) := by
            intro us qs hp
            induction hp with
            | nil => exact .nil
            | @cons x y xs ys hh _ ih2 =>
              rw [List.map_cons, List.map_cons, hh.1]
              refine .cons ?_ ih2
              split
              · exact ⟨rfl, hv⟩
              · exact hh
          exact key (by assumption))
      split
      · exact ⟨rfl, hv⟩
      · exact hh
  · exact h.app (.cons ⟨rfl, hv⟩ .nil)
theorem KD.up {K : PySem.W.Frag} {W W' : Wd} {H H' : Hp} {ws : List (Key × V)} {kvs : List (Key × D)} (h : KD K W H ws kvs) (e : Ev W H W' H') : KD K W' H' ws kvs := Paired.mapP h fun p q z => ⟨z.1, z.2.up e⟩
theorem key_rel {W : Wd} {H : Hp} {y : V} {d : D} {q : Key} (r : DV C.K W H y d) (h : keyD d = some q) : y = kV q := by
  cases d with
  | obj n => cases h
  | p z =>
    cases r with
    | int i =>
      cases h
      rfl
    | str x =>
      cases h
      rfl
    | _ => cases h
def dctD : D → S → Option (List (Key × D))
  | .obj n, s => match s[n]? with
    | some (some (.dic kvs)) => some kvs
    | _ => none
  | _, _ => none
theorem dct_at {W : Wd} {H : Hp} {s : S} {v : V} {d : D} {kvs : List (Key × D)} (r : DV C.K W H v d) (A : Abs C.K W s H) (h : dctD d s = some kvs) : ∃ n a ws, d = .obj n ∧ s[n]? = some (some (.dic kvs)) ∧ W.io[n]? = some a ∧ v = .ref a ∧ H a = some (.dK ws) ∧ KD C.K W H ws kvs := by
  cases d with
  | p z => cases h
  | obj n =>
    unfold dctD at h
    dsimp only at h
    split at h
    · rename_i qs hs
      cases h
      obtain ⟨a, h1, _, ws, h2, h3⟩ := A.ob n _ hs
      obtain ⟨a', h4, rfl⟩ := r
      rw [h1] at h4
      cases h4
      exact ⟨n, a, ws, rfl, hs, h1, rfl, h2, h3⟩
    · cases h
def dgetD (x y : D) : M D := fun s => match dctD x s, keyD y with
  | some kvs, some q => match lookD kvs q with
    | some d => .ok d s
    | none => .bad
  | _, _ => .bad
theorem s_dget (ha : SE C sc N k a ma) (hb : SE C sc N k b mb) (hs : NoSl b := by exact fun _ _ => rfl) : SE C sc N k (.Subscript a b pos) (op2 dgetD ma mb) := fun X ok => by
  obtain ⟨ta, pa, qa⟩ := ha X ok
  obtain ⟨tb, pb, qb⟩ := hb X ok
  refine ⟨_, pe_dget (hu_of ok.rm) pa pb hs, fun σ H W s ρ Q er A g => ?_⟩
  refine two qa qb er A g fun W' H' s' x y dx dy e rx ry A' g' => ?_
  unfold dgetD at g'
  split at g'
  · rename_i kvs q h1 h2
    split at g'
    · rename_i d hd
      obtain ⟨n, a, ws, rfl, hs, h3, rfl, h4, h5⟩ := dct_at rx A' h1
      have hy := key_rel ry h2
      subst hy
      obtain ⟨v, h6, h7⟩ := (KD.look h5).2 d hd
      exact ⟨a, v, rfl, by rw [← h6]; exact DGet.k h4, g' W' H' v Ev.rfl h7 A'⟩
    · exact g'.elim
  · exact g'.elim
def dinD (b : Bool) (y x : D) : M D := fun s => match dctD x s, keyD y with
  | some kvs, some q => .ok (.p (.bl (if b = true then (lookD kvs q).isSome else !(lookD kvs q).isSome))) s
  | _, _ => .bad
theorem look_some {W : Wd} {H : Hp} {ws : List (Key × V)} {kvs : List (Key × D)} {q : Key} (h : KD C.K W H ws kvs) : (valV ws q).isSome = (lookD kvs q).isSome := by
  cases e : lookD kvs q with
  | none => rw [(KD.look h).1 e]; rfl
  | some d =>
    obtain ⟨v, h6, _⟩ := (KD.look h).2 d e
    rw [h6]
    rfl
theorem s_din (hb : SE C sc N k b mb) (ha : SE C sc N k a ma) (hm : behindInMarks .In a = false := by rfl) : SE C sc N k (.Compare b [.In] [a] pos) (op2 (dinD true) mb ma) := fun X ok => by
  obtain ⟨ta, pa, qa⟩ := ha X ok
  obtain ⟨tb, pb, qb⟩ := hb X ok
  refine ⟨_, pe_cmp (pc_din (hu_of ok.rm) pb pa) hm, fun σ H W s ρ Q er A g => ?_⟩
  refine two qb qa er A g fun W' H' s' y x dy dx e ry rx A' g' => ?_
  unfold dinD at g'
  split at g'
  · rename_i kvs q h1 h2
    obtain ⟨n, a, ws, rfl, hs, h3, rfl, h4, h5⟩ := dct_at rx A' h1
    have hy := key_rel ry h2
    subst hy
    refine ⟨a, _, rfl, DGet.k h4, ?_⟩
    rw [look_some h5]
    exact g' W' H' _ Ev.rfl (PV.bl _) A'
  · exact g'.elim
theorem s_dnotin (hb : SE C sc N k b mb) (ha : SE C sc N k a ma) (hm : behindInMarks .NotIn a = false := by rfl) : SE C sc N k (.Compare b [.NotIn] [a] pos) (op2 (dinD false) mb ma) := fun X ok => by
  obtain ⟨ta, pa, qa⟩ := ha X ok
  obtain ⟨tb, pb, qb⟩ := hb X ok
  refine ⟨_, pe_cmp (pc_dnotin (hu_of ok.rm) pb pa) hm, fun σ H W s ρ Q er A g => ?_⟩
  refine two qb qa er A g fun W' H' s' y x dy dx e ry rx A' g' => ?_
  unfold dinD at g'
  split at g'
  · rename_i kvs q h1 h2
    obtain ⟨n, a, ws, rfl, hs, h3, rfl, h4, h5⟩ := dct_at rx A' h1
    have hy := key_rel ry h2
    subst hy
    refine ⟨a, _, rfl, DGet.k h4, ?_⟩
    rw [look_some h5]
    exact g' W' H' _ Ev.rfl (PV.bl _) A'
  · exact g'.elim
/-- {"a": x, ..} -/
def mkD (l : List (Key × D)) (acc : List (Key × D)) : List (Key × D) := l.foldl (fun acc kd => putD acc kd.1 kd.2) acc
def dicE (ks : List Str) (ms : List EF) : EF := fun ρ s => bnd (evA ms ρ) (fun ds s2 => match s2[s.length]? with
  | some (some (.dic [])) => .ok (.obj s.length) (s2.set s.length (some (.dic (mkD ((ks.map Sum.inr).zip ds) []))))
  | _ => .bad) (s ++ [some (.dic [])])
theorem KD.mk {K : PySem.W.Frag} {W : Wd} {H : Hp} {ws : List (Key × V)} {kvs : List (Key × D)} (h : KD K W H ws kvs) : ∀ {us : List (Key × V)} {acc : List (Key × D)}, KD K W H us acc → KD K W H (mergeK us ws) (mkD kvs acc) := by
  induction h with
  | nil => exact fun q => q
  | @cons x y xs ys hh _ ih =>
    intro us acc q
    have e := ih (q.put (q := y.1) hh.2)
    unfold mergeK mkD
    rw [List.foldl_cons, List.foldl_cons, hh.1]
    exact e
/-- the pairs of a display by texts -/
def SPr (C : Cf) (sc : Scope) (N : List Str) (k : Nat) (pos : Pos) (keys : List (Option Expr)) (vals : List Expr) (ks : List Str) (ms : List EF) : Prop :=
  ∀ X, Cok C sc N k X → ∃ trs, PPs X pos keys vals trs ∧ ∀ σ H W s ρ (Q : List (V × V) → Hp → Prop), ER C.K W H σ ρ → Abs C.K W s H →
    Good (evA ms ρ s) (fun ds s' => ∀ W' H' (ws : List (Key × V)), Ev W H W' H' → KD C.K W' H' ws ((ks.map Sum.inr).zip ds) → ws.length = ks.length → Abs C.K W' s' H' → Q (ws.map fun kv => (kV kv.1, kv.2)) H') → tPairs trs σ H Q
theorem p_nil : SPr C sc N k pos [] [] [] [] := fun X ok => ⟨_, pps_nil, fun σ H W s ρ Q er A g => g W H [] Ev.rfl .nil rfl A⟩
theorem p_cons {x : Str} {j : Nat} {p2 : Pos} {keys : List (Option Expr)} {vals : List Expr} {ks : List Str} (ha : SE C sc N k a ma) (hr : SPr C sc N k pos keys vals ks ms) : SPr C sc N k pos (some (.Constant (.str x) j p2) :: keys) (a :: vals) (x :: ks) (ma :: ms) := fun X ok => by
  obtain ⟨t, p, q⟩ := ha X ok
  obtain ⟨trs, p', q'⟩ := hr X ok
  refine ⟨_, pps_cons pe_str p p', fun σ H W s ρ Q er A g => ?_⟩
  refine q σ H W s ρ _ er A ((Good.bnd g).mono fun d s1 h1 W1 H1 v e1 r1 A1 => ?_)
  refine q' σ H1 W1 s1 ρ _ (er.up e1) A1 ((Good.bnd h1).mono fun ds s2 h2 W2 H2 ws e2 r2 hl A2 => ?_)
  exact h2 W2 H2 ((Sum.inr x, v) :: ws) (e1.trans e2) (.cons ⟨rfl, r1.up e2⟩ r2) (congrArg (· + 1) hl) A2
theorem s_dic {keys : List (Option Expr)} {vals : List Expr} {ks : List Str} (h : SPr C sc N k pos keys vals ks ms) (hall : keys.all (·.isSome) = true := by rfl) (hl : keys.length = vals.length := by rfl) (h0 : keys ≠ [] := by exact fun z => nomatch z)
    (h15 : keys.length ≤ 15 := by decide) (hk : ks.length ≤ 15 := by decide) : SE C sc N k (.Dict keys vals pos) (dicE ks ms) := fun X ok => by
  obtain ⟨trs, p, q⟩ := h X ok
  refine ⟨_, pe_disp p hall hl h0 h15, fun σ H W s ρ Q er A g o ho => ?_⟩
  have ev : Ev W H (W.add o) (upd H o (.dK [])) := Ev.add ho
  have A1 : Abs C.K (W.add o) (s ++ [some (.dic [])]) (upd H o (.dK [])) := A.add ho ⟨[], upd_same, .nil⟩
  have io1 : (W.add o).io[s.length]? = some o := A.nobj ho
  unfold dicE at g
  refine q σ _ _ _ ρ _ (er.up ev) A1 (g.bnd.mono fun ds s2 h2 W2 H2 ws e2 r2 hw A2 => ?_)
  split at h2
  · rename_i hs
    obtain ⟨a', g1, g2, us, g3, g4⟩ := A2.ob _ _ hs
    obtain ⟨r, hr⟩ := e2.io
    have io2 : W2.io[s.length]? = some o := by
      rw [hr, List.getElem?_append_left (List.getElem?_eq_some_iff.mp io1).1]
      exact io1
    rw [io2] at g1
    cases g1
    cases g4
    refine ⟨g3, ws, rfl, by omega, ?_⟩
    have ev2 : Ev W2 H2 W2 (upd H2 o (.dK (mergeK [] ws))) := Ev.put (o' := .dic []) A2 hs io2
    exact h2 W2 _ _ (ev.trans (e2.trans ev2)) ⟨o, io2, rfl⟩ (A2.put hs io2 ⟨_, upd_same, KD.mk (r2.up ev2) .nil⟩)
  · exact h2.elim
theorem s_dic0 : SE C sc N k (.Dict [] [] pos) (fun _ s => .ok (.obj s.length) (s ++ [some (.dic [])])) := fun X ok => by
  refine ⟨_, pe_dnewK, fun σ H W s ρ Q er A g o ho => ?_⟩
  exact g _ _ _ (Ev.add ho) ⟨o, A.nobj ho, rfl⟩ (A.add ho ⟨[], upd_same, .nil⟩)
end
end CW

end
section
set_option maxRecDepth 100000
set_option maxHeartbeats 2000000
/-! CW, fourth part: operators by values, data compared and shown. -/
namespace CW
open PySem PySem.Spec PyProof.Rows L2
section
variable {C : Cf} {k : Nat}
/-! ### whole numbers -/
def mulOk (i j : Int) : Prop := i.natAbs.log2 + j.natAbs.log2 < 1000000 ∨ i.natAbs < 2 ^ 64 ∨ j.natAbs < 2 ^ 64
instance (i j : Int) : Decidable (mulOk i j) := by unfold mulOk; exact inferInstance
theorem mulOk.ok {i j : Int} (h : mulOk i j) : IntMulOk i j := by
  rcases h with h | h | h
  · exact CMulW.ok h
  · exact .of_left (intBits_le_64 (by omega) (by omega))
  · exact .of_right (intBits_le_64 (by omega) (by omega))
def divOk (i j : Int) : Prop := j ≠ 0 ∧ Builtin.divisionGoesByPylong i j = false
instance (i j : Int) : Decidable (divOk i j) := by unfold divOk; exact inferInstance
def powOk (i j : Int) : Prop := 0 ≤ j ∧ j ≤ 1000000 ∧ i.natAbs < 2 ^ 64
instance (i j : Int) : Decidable (powOk i j) := by unfold powOk; exact inferInstance
/-- int and int -/
def ii (c : Int → Int → Bool) (g : Int → Int → P) (x y : D) : M D := fun s => match x, y with
  | .p (.int i), .p (.int j) => if c i j = true then .ok (.p (g i j)) s else .bad
  | _, _ => .bad
def yes : Int → Int → Bool := fun _ _ => true
theorem ii_go {W : Wd} {H : Hp} {s : S} {x y : V} {dx dy : D} {Q : D → S → Prop} {c : Int → Int → Bool} {g : Int → Int → P} (rx : DV C.K W H x dx) (ry : DV C.K W H y dy) (h : Good (ii c g dx dy s) Q) : ∃ i j, x = .int i ∧ y = .int j ∧ c i j = true ∧ Q (.p (g i j)) s := by
  unfold ii at h
  split at h
  · split at h
    · rename_i hc
      cases rx
      cases ry
      exact ⟨_, _, rfl, rfl, hc, h⟩
    · exact h.elim
  · exact h.elim
def subD := ii yes fun i j => .int (i - j)
def modD := ii (fun _ j => j != 0) fun i j => .int (i.fmod j)
def divD := ii (fun i j => decide (divOk i j)) fun i j => .int (i.fdiv j)
def powD := ii (fun i j => decide (powOk i j)) fun i j => .int (i ^ j.toNat)
def shlD := ii (fun i j => decide (powOk i j)) fun i j => .int (i * 2 ^ j.toNat)
def ltD := ii yes fun i j => .bl (decide (i < j))
def leD := ii yes fun i j => .bl (decide (i ≤ j))
def gtD := ii yes fun i j => .bl (decide (j < i))
def geD := ii yes fun i j => .bl (decide (j ≤ i))
theorem o_sub : OpS C k (binaryOp .Sub) subD := fun X ok => ⟨_, op_sub, fun W s H x y dx dy Q rx ry A g => by
  obtain ⟨i, j, rfl, rfl, _, q⟩ := ii_go rx ry g
  exact ⟨i, j, rfl, rfl, q W H _ Ev.rfl (PV.int _) A⟩⟩
theorem o_mod : OpS C k (binaryOp .Mod) modD := fun X ok => ⟨_, op_modN, fun W s H x y dx dy Q rx ry A g => by
  obtain ⟨i, j, rfl, rfl, c, q⟩ := ii_go rx ry g
  exact ⟨i, j, rfl, rfl, by simpa using c, q W H _ Ev.rfl (PV.int _) A⟩⟩
theorem o_div : OpS C k (binaryOp .FloorDiv) divD := fun X ok => ⟨_, (opI (C := divOk) (g := fun i j => i.fdiv j) fun i j _ _ _ _ _ hc q => floordiv_int hc.1 q (Or.inl hc.2)), fun W s H x y dx dy Q rx ry A g => by
  obtain ⟨i, j, rfl, rfl, c, q⟩ := ii_go rx ry g
  exact ⟨i, j, rfl, rfl, of_decide_eq_true c, q W H _ Ev.rfl (PV.int _) A⟩⟩
theorem o_pow : OpS C k (binaryOp .Pow) powD := fun X ok => ⟨_, op_pow, fun W s H x y dx dy Q rx ry A g => by
  obtain ⟨i, j, rfl, rfl, c, q⟩ := ii_go rx ry g
  have c2 : powOk i j := of_decide_eq_true c
  exact ⟨i, j, rfl, rfl, c2, q W H _ Ev.rfl (PV.int _) A⟩⟩
theorem o_shl : OpS C k (binaryOp .LShift) shlD := fun X ok => ⟨_, op_shl, fun W s H x y dx dy Q rx ry A g => by
  obtain ⟨i, j, rfl, rfl, c, q⟩ := ii_go rx ry g
  have c2 : powOk i j := of_decide_eq_true c
  exact ⟨i, j, rfl, rfl, c2, q W H _ Ev.rfl (PV.int _) A⟩⟩
theorem o_lt : OpS C k (compareOp .Lt) ltD := fun X ok => ⟨_, op_lt, fun W s H x y dx dy Q rx ry A g => by
  obtain ⟨i, j, rfl, rfl, c, q⟩ := ii_go rx ry g
  exact ⟨i, j, rfl, rfl, q W H _ Ev.rfl (PV.bl _) A⟩⟩
theorem o_le : OpS C k (compareOp .LtE) leD := fun X ok => ⟨_, op_le, fun W s H x y dx dy Q rx ry A g => by
  obtain ⟨i, j, rfl, rfl, c, q⟩ := ii_go rx ry g
  exact ⟨i, j, rfl, rfl, q W H _ Ev.rfl (PV.bl _) A⟩⟩
theorem o_gt : OpS C k (compareOp .Gt) gtD := fun X ok => ⟨_, op_gt, fun W s H x y dx dy Q rx ry A g => by
  obtain ⟨i, j, rfl, rfl, c, q⟩ := ii_go rx ry g
  exact ⟨i, j, rfl, rfl, q W H _ Ev.rfl (PV.bl _) A⟩⟩
theorem o_ge : OpS C k (compareOp .GtE) geD := fun X ok => ⟨_, op_ge, fun W s H x y dx dy Q rx ry A g => by
  obtain ⟨i, j, rfl, rfl, c, q⟩ := ii_go rx ry g
  exact ⟨i, j, rfl, rfl, q W H _ Ev.rfl (PV.bl _) A⟩⟩
/-! ### + and * -/
/-- fr: the new list is plain (true) or may be changed (false) -/
def mkL (fr : Bool) (xs : List P) : M D := if fr = true then ret (.p (.lst xs)) else newL xs
theorem mkL_go {W W1 : Wd} {H H1 : Hp} {s : S} {fr : Bool} {xs : List P} {vs : List V} {Q : VK} {o : Addr} (e : Ev W H W1 H1) (A : Abs C.K W1 s H1) (r : PVs C.K W1.fr H1 vs xs) (g : Good (mkL fr xs s) (Po C.K W H Q)) (ho : H1 o = none) : Q (.ref o) (upd H1 o (.lst vs)) := by
  unfold mkL at g
  cases fr with
  | true => exact keep_go e A r (by rw [if_pos rfl] at g; exact g) ho
  | false => exact new_go e A r (by rw [if_neg Bool.false_ne_true] at g; exact g) ho
def addD (fr : Bool) (x y : D) : M D := fun s => match x, y with
  | .p (.int i), .p (.int j) => .ok (.p (.int (i + j))) s
  | .p (.str a), .p (.str b) => if a.length + b.length ≤ sizeLine then .ok (.p (.str (a ++ b))) s else .bad
  | .p (.tup xs), .p (.tup ys) => if xs ≠ [] ∧ xs.length + ys.length ≤ sizeLine then .ok (.p (.tup (xs ++ ys))) s else .bad
  | x, y => match itm x s, itm y s with
    | some xs, some ys => if xs.length + ys.length ≤ sizeLine then mkL fr (xs ++ ys) s else .bad
    | _, _ => .bad
theorem o_add (fr : Bool) : OpS C k (binaryOp .Add) (addD fr) := fun X ok => by
  refine ⟨_, OpR.or op_add (OpR.or op_add_str (OpR.or (op_catT (X := X)) op_cat)), fun W s H x y dx dy Q rx ry A g => ?_⟩
  rw [ok.eK]
  unfold addD at g
  split at g
  · cases rx
    cases ry
    exact Or.inl ⟨_, _, rfl, rfl, g W H _ Ev.rfl (PV.int _) A⟩
  · split at g
    · rename_i hl
      cases rx
      cases ry
      exact Or.inr (Or.inl ⟨_, _, rfl, rfl, hl, g W H _ Ev.rfl (PV.str _) A⟩)
    · exact g.elim
  · split at g
    · rename_i hl
      cases rx with
      | tup h1 h2 =>
        cases ry with
        | tup h3 h4 =>
          refine Or.inr (Or.inr (Or.inl ⟨_, _, _, _, rfl, rfl, h1, h3, fun z => ?_, by rw [h2.len, h4.len]; exact hl.2, fun z => ?_, fun z p hp => ?_⟩))
          · subst z
            cases h2
            exact hl.1 rfl
          · subst z
            cases h4
            rename_i xs _
            exact g W H _ Ev.rfl (PV.tup h1 (by rw [List.append_nil]; exact h2)) A
          · exact g W _ _ (Ev.new hp) (PV.tup (SqT.of upd_same) (PVs.up (Ev.new hp) (h2.app h4))) (A.new hp)
    · exact g.elim
  · split at g
    · rename_i xs ys e1 e2
      split at g
      · rename_i hl
        obtain ⟨a, vs, rfl, h1, h2⟩ := itm_at rx A e1
        obtain ⟨b, us, rfl, h3, h4⟩ := itm_at ry A e2
        exact Or.inr (Or.inr (Or.inr ⟨a, b, vs, us, rfl, rfl, h1, h3, by rw [h2.len, h4.len]; exact hl, fun p hp => mkL_go Ev.rfl A (h2.app h4) g hp⟩))
      · exact g.elim
    · exact g.elim
theorem PVs.flat {K : PySem.W.Frag} {F : Addr → Prop} {H : Hp} {vs : List V} {xs : List P} (h : PVs K F H vs xs) : ∀ n, PVs K F H (List.replicate n vs).flatten (List.replicate n xs).flatten
  | 0 => .nil
  | n + 1 => by
    rw [List.replicate_succ, List.replicate_succ, List.flatten_cons, List.flatten_cons]
    exact h.app (PVs.flat h n)
def mulD (fr : Bool) (x y : D) : M D := fun s => match x, y with
  | .p (.int i), .p (.int j) => if mulOk i j then .ok (.p (.int (i * j))) s else .bad
  | x, .p (.int n) => match itm x s with
    | some xs => if -(2 ^ 63) ≤ n ∧ n < 2 ^ 63 ∧ xs.length * n.toNat ≤ sizeLine then mkL fr (List.replicate n.toNat xs).flatten s else .bad
    | none => .bad
  | _, _ => .bad
theorem o_mul (fr : Bool) : OpS C k (binaryOp .Mult) (mulD fr) := fun X ok => by
  refine ⟨_, OpR.or (opI (C := mulOk) (g := fun i j => i * j) fun i j _ _ _ _ _ hc q => mul_int q hc.ok) op_rep, fun W s H x y dx dy Q rx ry A g => ?_⟩
  unfold mulD at g
  split at g
  · split at g
    · rename_i hc
      cases rx
      cases ry
      exact Or.inl ⟨_, _, rfl, rfl, hc, g W H _ Ev.rfl (PV.int _) A⟩
    · exact g.elim
  · split at g
    · rename_i xs e1
      split at g
      · rename_i hl
        obtain ⟨a, vs, rfl, h1, h2⟩ := itm_at rx A e1
        cases ry
        exact Or.inr ⟨a, _, vs, rfl, rfl, h1, hl.1, hl.2.1, by rw [h2.len]; exact hl.2.2, fun p hp => mkL_go Ev.rfl A (h2.flat _) g hp⟩
      · exact g.elim
    · exact g.elim
  · exact g.elim
/-! ### data -/
mutual
def toPy : P → Option PyData
  | .non => some .none
  | .bl b => some (.bool b)
  | .int i => some (.int i)
  | .str x => some (.str x)
  | .tup xs => (toPys xs).map .tuple
  | .lst xs => (toPys xs).map .list
  | .con xs => (toPys xs).map .list
  | .ty _ => none
  | .ref _ => none
def toPys : List P → Option (List PyData)
  | [] => some []
  | x :: r => match toPy x, toPys r with
    | some d, some ds => some (d :: ds)
    | _, _ => none
end
def toPyD : D → S → Option PyData
  | .p x, _ => toPy x
  | .obj n, s => match s[n]? with
    | some (some (.lst xs)) => (toPys xs).map .list
    | _ => none
mutual
theorem PV.dp {K : PySem.W.Frag} {F : Addr → Prop} {H : Hp} : ∀ {v : V} {x : P} {d : PyData}, PV K F H v x → toPy x = some d → Dp K H v d
  | _, _, _, .non, e => by
    cases e
    exact .non
  | _, _, _, .bl b, e => by
    cases e
    exact .bl b
  | _, _, _, .int b, e => by
    cases e
    exact .int b
  | _, _, _, .str b, e => by
    cases e
    exact .str b
  | _, _, _, .ty b, e => by cases e
  | _, _, _, .ref b, e => by cases e
  | _, _, d, .tup (xs := xs) h r, e => by
    unfold toPy at e
    cases q : toPys xs with
    | none =>
      rw [q] at e
      cases e
    | some ds =>
      rw [q] at e
      cases e
      exact .tup h (PVs.dp r q)
  | _, _, d, .lst (xs := xs) _ h r, e => by
    unfold toPy at e
    cases q : toPys xs with
    | none =>
      rw [q] at e
      cases e
    | some ds =>
      rw [q] at e
      cases e
      exact .lst (SqL.of h) (PVs.dp r q)
  | _, _, d, .con (xs := xs) h r, e => by
    unfold toPy at e
    cases q : toPys xs with
    | none =>
      rw [q] at e
      cases e
    | some ds =>
      rw [q] at e
      cases e
      exact .lst h.sql (PVs.dp r q)
theorem PVs.dp {K : PySem.W.Frag} {F : Addr → Prop} {H : Hp} : ∀ {vs : List V} {xs : List P} {ds : List PyData}, PVs K F H vs xs → toPys xs = some ds → DpAll K H vs ds
  | _, _, _, .nil, e => by
    unfold toPys at e
    cases e
    exact .nil
  | _, _, ds, .cons (x := x) (xs := xs) h r, e => by
    unfold toPys at e
    cases q1 : toPy x with
    | none =>
      rw [q1] at e
      cases e
    | some d =>
      cases q2 : toPys xs with
      | none =>
        rw [q1, q2] at e
        cases e
      | some es =>
        rw [q1, q2] at e
        cases e
        exact .cons (PV.dp h q1) (PVs.dp r q2)
end
theorem DV.dp {W : Wd} {H : Hp} {s : S} {v : V} {d : D} {z : PyData} (r : DV C.K W H v d) (A : Abs C.K W s H) (h : toPyD d s = some z) : Dp C.K H v z := by
  cases d with
  | p x => exact PV.dp r h
  | obj n =>
    unfold toPyD at h
    dsimp only at h
    split at h
    · rename_i xs hs
      obtain ⟨a, h1, _, vs, h2, h3⟩ := A.ob n _ hs
      obtain ⟨a', h4, rfl⟩ := r
      rw [h1] at h4
      cases h4
      cases q : toPys xs with
      | none =>
        rw [q] at h
        cases h
      | some ds =>
        rw [q] at h
        cases h
        exact .lst (SqL.of h2) (PVs.dp h3 q)
    · cases h
def eqD (neg : Bool) (x y : D) : M D := fun s => match toPyD x s, toPyD y s with
  | some d, some e => if SeqAt.shaped d = true ∧ SeqAt.shaped e = true then .ok (.p (.bl (if neg = true then !PyData.eqv d e else PyData.eqv d e))) s else .bad
  | _, _ => .bad
theorem u64 {X : Cx} (hr : Room k X.A) : X.A.units + 64 < cLine := by have := hr.un; omega
theorem o_eq : OpS C k (compareOp .Eq) (eqD false) := fun X ok => by
  refine ⟨_, op_eqD (u64 ok.rm), fun W s H x y dx dy Q rx ry A g => ?_⟩
  unfold eqD at g
  split at g
  · rename_i d e h1 h2
    split at g
    · rename_i hs
      rw [ok.eK]
      exact ⟨d, e, DV.dp rx A h1, DV.dp ry A h2, hs.1, hs.2, g W H _ Ev.rfl (PV.bl _) A⟩
    · exact g.elim
  · exact g.elim
theorem o_ne : OpS C k (compareOp .NotEq) (eqD true) := fun X ok => by
  refine ⟨_, op_neD (u64 ok.rm), fun W s H x y dx dy Q rx ry A g => ?_⟩
  unfold eqD at g
  split at g
  · rename_i d e h1 h2
    split at g
    · rename_i hs
      rw [ok.eK]
      exact ⟨d, e, DV.dp rx A h1, DV.dp ry A h2, hs.1, hs.2, g W H _ Ev.rfl (PV.bl _) A⟩
    · exact g.elim
  · exact g.elim
/-- is None -/
def isN (neg : Bool) (x y : D) : M D := fun s => match y with
  | .p .non => match x with
    | .p .non => .ok (.p (.bl (!neg))) s
    | _ => .ok (.p (.bl neg)) s
  | _ => .bad
theorem isN_go {neg : Bool} {W : Wd} {H : Hp} {s : S} {x y : V} {dx dy : D} {Q : VK} (rx : DV C.K W H x dx) (ry : DV C.K W H y dy) (A : Abs C.K W s H) (g : Good (isN neg dx dy s) (Po C.K W H Q)) : y = .non ∧ Q (.bl (if decide (x = .non) = true then !neg else neg)) H := by
  unfold isN at g
  split at g
  · cases ry
    refine ⟨rfl, ?_⟩
    split at g
    · cases rx
      exact g W H _ Ev.rfl (PV.bl _) A
    · rename_i hx
      have hne : x ≠ .non := fun z => by
        subst z
        cases dx with
        | obj n =>
          obtain ⟨a, _, e⟩ := rx
          cases e
        | p z =>
          cases rx
          exact hx rfl
      rw [decide_eq_false hne]
      exact g W H _ Ev.rfl (PV.bl _) A
  · exact g.elim
theorem o_is : OpS C k (compareOp .Is) (isN false) := fun X ok => ⟨_, op_isN, fun W s H x y dx dy Q rx ry A g => by
  obtain ⟨h1, h2⟩ := isN_go rx ry A g
  refine ⟨h1, ?_⟩
  by_cases e : x = .non
  · rw [decide_eq_true e] at h2 ⊢
    exact h2
  · rw [decide_eq_false e] at h2 ⊢
    exact h2⟩
theorem o_isnot : OpS C k (compareOp .IsNot) (isN true) := fun X ok => ⟨_, op_notN, fun W s H x y dx dy Q rx ry A g => by
  obtain ⟨h1, h2⟩ := isN_go rx ry A g
  refine ⟨h1, ?_⟩
  by_cases e : x = .non
  · rw [decide_eq_true e] at h2 ⊢
    exact h2
  · rw [decide_eq_false e] at h2 ⊢
    exact h2⟩
end
end CW

end
section
set_option maxRecDepth 100000
set_option maxHeartbeats 2000000
/-! CW, fifth part: defs and their calls; built-in functions. -/
namespace CW
open PySem PySem.Spec PyProof.Rows L2
/-- a def's promise, for every around without a repr in work -/
structure Fn (C : Cf) (k : Nat) (f : Addr) (fd : FuncData) (ps : List Str) (sp : Sp) : Prop where
  len : ∀ vs H Q E, sp vs H Q E → vs.length = ps.length
  run : ∀ (A : Around) (outer : List Env) (s : Shared) (H : Hp) (args : Args) (us : List Value) (vs : List V) (Q : VK) (E : XK),
    Room k A → A.guards = some [] → Env0 C.pg C.w C.K C.mg C.base A outer s H → BindsTo s fd args (ps.zip us) → Vals vs us → sp vs H Q E →
      codeAny (model C.pg C.w) A (.call (.ref f) args) (CR CX0 outer C.pg C.w H s Q E) s
theorem Fn.mono {C : Cf} {j k : Nat} {f : Addr} {fd : FuncData} {ps : List Str} {sp : Sp} (F : Fn C j f fd ps sp) (h : j ≤ k) : Fn C k f fd ps sp :=
  ⟨F.len, fun A outer s H args us vs Q E hr => F.run A outer s H args us vs Q E (hr.mono h)⟩
/-- what m does, as a promise -/
def spM (K : PySem.W.Frag) (n : Nat) (m : List D → M D) : Sp := fun vs H Q _ => vs.length = n ∧ ∃ W s ds, DVs K W H vs ds ∧ Abs K W s H ∧ Good (m ds s) (Po K W H Q)
section
variable {C : Cf} {sc : Scope} {N : List Str} {k : Nat} {pos p2 : Pos} {e a b : Expr} {ma mb : EF} {es : List Expr} {ms : List EF}
/-- a call of f with values -/
theorem run_call {X : Cx} {j : Nat} {f : Addr} {fd : FuncData} {ps : List Str} {sp : Sp} {pins : List (Addr × Obj)} {σ : L2.St} {H : Hp} {s : Shared} {Q : VK} {us : List Value} {vs : List V} (F : Fn C j f fd ps sp) (ok : Okx C j X) (hb : Binds C.K fd ps []) (I : Inv X pins σ H s) (r : Vals vs us)
    (h : sp vs H Q E0) : wpAny (model X.prog X.w) X.A (call (.ref f) us) (EP X pins σ Q) X.xe s := by
  have hl : us.length = ps.length := by rw [← r.length]; exact F.len _ _ _ _ h
  have e0 := I.env0
  have kin := I.kIn
  rw [ok.pr, ok.ew, ok.eK, ok.em, ok.eb] at e0
  rw [ok.eK] at kin
  have hbt := hb s us kin (by rw [List.append_nil]; exact hl)
  rw [List.append_nil] at hbt
  have run := F.run X.A X.stack s H ⟨us, []⟩ us vs Q E0 ok.rm ok.gd e0 hbt r h
  rw [← ok.pr, ← ok.ew] at run
  refine wpAny_call (codeAny_mono run fun q s' hq => ?_)
  match q, hq with
  | .error _, hq => exact hq.elim
  | .ok (.ret u), hq => exact I.after hq
/-- f(..) of a global def -/
def calE (m : List D → M D) (ms : List EF) : EF := fun ρ => bnd (evA ms ρ) m
theorem s_call {x : Str} {j : Nat} {f : Addr} {fd : FuncData} {ps : List Str} {m : List D → M D} {n : Nat} (F : Fn C j f fd ps (spM C.K n m)) (hj : j ≤ k) (hm : C.mg x = some (.ref f)) (hk : PySem.W.keepIn C.K (.ref f) = true) (hb : Binds C.K fd ps [])
    (ha : SAs C sc N k (e :: es) ms) (hg : GlS sc x := by rfl) (hn : ms.length = n := by rfl) (hd : (x == ("__debug__" : Str)) = false := by decide)
    (he : ∀ env, starEach (e :: es) env = (false, eval e env) :: starEach es env := by intro _; rfl) (hp : ∀ env, (backTo pos (starEach es env)).any (·.1) = false := by intro _; rfl) :
    SE C sc N k (.Call (.Name x p2) (e :: es) [] pos) (calE m ms) := fun X ok => by
  obtain ⟨t, p, q⟩ := ha X ok
  refine ⟨fun σ H Q => t σ H fun vs H1 => spM C.K n m vs H1 Q E0, ⟨fun pins s σ H Q I h => ?_⟩, fun σ H W s ρ Q er A g => ?_⟩
  · refine wpAny_Call_Name_kw (ld_glob I (hg.of ok) (by rw [ok.em]; exact hm) ?_ hd)
    refine PySem.W.callWith_K (h₀ := X.base) I.ok.mod.kin (by rw [ok.eK]; exact hk) (thn (p.run pos pins s σ H _ I h) fun us s1 ⟨vs, H1, I1, r, q1⟩ => ⟨I1.kIn, ?_⟩) (he X.env) (hp X.env)
    have ok' : Okx C k X := ok.toOkx
    exact run_call (F.mono hj) ok' hb I1 r q1
  · refine q σ H W s ρ _ er A (g.bnd.len.mono fun ds s1 ⟨z, h1⟩ W1 H1 vs e1 r1 A1 => ?_)
    exact ⟨by rw [Paired.length r1, z]; exact hn, W1, s1, ds, r1, A1, h1.mono fun _ _ w => w.up e1⟩
theorem s_call0 {x : Str} {j : Nat} {f : Addr} {fd : FuncData} {ps : List Str} {m : List D → M D} (F : Fn C j f fd ps (spM C.K 0 m)) (hj : j ≤ k) (hm : C.mg x = some (.ref f)) (hk : PySem.W.keepIn C.K (.ref f) = true) (hb : Binds C.K fd ps [])
    (hg : GlS sc x := by rfl) (hd : (x == ("__debug__" : Str)) = false := by decide) : SE C sc N k (.Call (.Name x p2) [] [] pos) (calE m []) := fun X ok => by
  refine ⟨fun σ H Q => spM C.K 0 m [] H Q E0, ⟨fun pins s σ H Q I h => ?_⟩, fun σ H W s ρ Q er A g => ?_⟩
  · refine wpAny_Call_Name_kw (ld_glob I (hg.of ok) (by rw [ok.em]; exact hm) ?_ hd)
    exact PySem.W.callWith_K0 I.kIn (by rw [ok.eK]; exact hk) (run_call (us := []) (F.mono hj) ok.toOkx hb I .nil h)
  · exact ⟨rfl, W, s, [], .nil, A, g⟩

/-! ### built-in functions -/
/-- a call of a built-in value does g -/
def CaS (C : Cf) (k : Nat) (f : Value) (g : List D → M D) : Prop :=
  ∀ X, Okx C k X → ∃ r, CallR X f r ∧ ∀ W s H xs ds Q, DVs C.K W H xs ds → Abs C.K W s H → Good (g ds s) (Po C.K W H Q) → r xs H Q
theorem s_bf {x : Str} {id : String} {g : List D → M D} (hc : CaS C k (.builtin id) g) (hm : C.mg x = none) (hv : bootBuiltins x = some (.builtin id)) (ha : SAs C sc N k (e :: es) ms) (hg : GlS sc x := by rfl) (hn : x ≠ "__name__" := by decide) (hd : (x == ("__debug__" : Str)) = false := by decide)
    (he : ∀ env, starEach (e :: es) env = (false, eval e env) :: starEach es env := by intro _; rfl) (hp : ∀ env, (backTo pos (starEach es env)).any (·.1) = false := by intro _; rfl) :
    SE C sc N k (.Call (.Name x p2) (e :: es) [] pos) (calE g ms) := fun X ok => by
  obtain ⟨t, p, q⟩ := ha X ok
  obtain ⟨r, h1, h2⟩ := hc X ok.toOkx
  refine ⟨_, pe_callB h1 (hg.of ok) (by rw [ok.em]; exact hm) hv p hn hd (he X.env) (hp X.env), fun σ H W s ρ Q er A g => ?_⟩
  refine q σ H W s ρ _ er A (g.bnd.mono fun ds s1 z W1 H1 vs e1 r1 A1 => ?_)
  exact h2 W1 s1 H1 vs ds Q r1 A1 (Good.mono z fun _ _ w => w.up e1)
theorem s_bt {x : Str} {id : String} {g : List D → M D} (hc : CaS C k (.type id) g) (hm : C.mg x = none) (hv : bootBuiltins x = some (.type id)) (ha : SAs C sc N k (e :: es) ms) (hg : GlS sc x := by rfl) (hn : x ≠ "__name__" := by decide) (hd : (x == ("__debug__" : Str)) = false := by decide)
    (he : ∀ env, starEach (e :: es) env = (false, eval e env) :: starEach es env := by intro _; rfl) (hp : ∀ env, (backTo pos (starEach es env)).any (·.1) = false := by intro _; rfl) :
    SE C sc N k (.Call (.Name x p2) (e :: es) [] pos) (calE g ms) := fun X ok => by
  obtain ⟨t, p, q⟩ := ha X ok
  obtain ⟨r, h1, h2⟩ := hc X ok.toOkx
  refine ⟨_, pe_callTy h1 (hg.of ok) (by rw [ok.em]; exact hm) hv p hn hd (he X.env) (hp X.env), fun σ H W s ρ Q er A g => ?_⟩
  refine q σ H W s ρ _ er A (g.bnd.mono fun ds s1 z W1 H1 vs e1 r1 A1 => ?_)
  exact h2 W1 s1 H1 vs ds Q r1 A1 (Good.mono z fun _ _ w => w.up e1)
theorem dvs1 {W : Wd} {H : Hp} {xs : List V} {d : D} (r : DVs C.K W H xs [d]) : ∃ x, xs = [x] ∧ DV C.K W H x d := by
  match xs, r with
  | [x], .cons h .nil => exact ⟨x, rfl, h⟩
theorem dvs2 {W : Wd} {H : Hp} {xs : List V} {d d' : D} (r : DVs C.K W H xs [d, d']) : ∃ x y, xs = [x, y] ∧ DV C.K W H x d ∧ DV C.K W H y d' := by
  match xs, r with
  | [x, y], .cons h (.cons h' .nil) => exact ⟨x, y, rfl, h, h'⟩
def absD : List D → M D := fun ds s => match ds with
  | [.p (.int i)] => .ok (.p (.int (if i < 0 then -i else i))) s
  | _ => .bad
theorem c_abs : CaS C k (.builtin "abs") absD := fun X ok => ⟨_, call_abs, fun W s H xs ds Q r A g => by
  unfold absD at g
  split at g
  · obtain ⟨x, rfl, h⟩ := dvs1 r
    cases h
    exact ⟨_, rfl, g W H _ Ev.rfl (PV.int _) A⟩
  · exact g.elim⟩
def lenD : List D → M D := fun ds s => match ds with
  | [.p (.tup xs)] => .ok (.p (.int xs.length)) s
  | [.p (.str x)] => if x.length ≤ sizeLine then .ok (.p (.int x.length)) s else .bad
  | [d] => match its d s with
    | some xs => .ok (.p (.int xs.length)) s
    | none => .bad
  | _ => .bad
theorem c_len : CaS C k (.builtin "len") lenD := fun X ok => ⟨_, call_len, fun W s H xs ds Q r A g => by
  unfold lenD at g
  rw [ok.eK]
  split at g
  · obtain ⟨x, rfl, h⟩ := dvs1 r
    cases h with
    | tup h1 h2 => exact ⟨_, _, rfl, Or.inr ⟨_, h1, rfl⟩, by rw [h2.len]; exact g W H _ Ev.rfl (PV.int _) A⟩
  · split at g
    · rename_i hl
      obtain ⟨x, rfl, h⟩ := dvs1 r
      cases h
      exact ⟨_, _, rfl, ⟨hl, rfl⟩, g W H _ Ev.rfl (PV.int _) A⟩
    · exact g.elim
  · split at g
    · rename_i hx
      obtain ⟨x, rfl, h⟩ := dvs1 r
      obtain ⟨a, vs, rfl, h1, h2⟩ := its_sq h A hx
      exact ⟨_, _, rfl, Or.inl ⟨_, h1, rfl⟩, by rw [h2.len]; exact g W H _ Ev.rfl (PV.int _) A⟩
    · exact g.elim
  · exact g.elim⟩
def maxD : List D → M D := fun ds s => match ds with
  | [.p (.int i), .p (.int j)] => .ok (.p (.int (if j > i then j else i))) s
  | _ => .bad
theorem c_max : CaS C k (.builtin "max") maxD := fun X ok => ⟨_, call_max2 ok.calm, fun W s H xs ds Q r A g => by
  unfold maxD at g
  split at g
  · obtain ⟨x, y, rfl, h, h'⟩ := dvs2 r
    cases h
    cases h'
    exact ⟨_, _, rfl, g W H _ Ev.rfl (PV.int _) A⟩
  · exact g.elim⟩
def minD : List D → M D := fun ds s => match ds with
  | [.p (.int i), .p (.int j)] => .ok (.p (.int (if j < i then j else i))) s
  | _ => .bad
theorem c_min : CaS C k (.builtin "min") minD := fun X ok => ⟨_, call_min2 ok.calm, fun W s H xs ds Q r A g => by
  unfold minD at g
  split at g
  · obtain ⟨x, y, rfl, h, h'⟩ := dvs2 r
    cases h
    cases h'
    exact ⟨_, _, rfl, g W H _ Ev.rfl (PV.int _) A⟩
  · exact g.elim⟩
def intD : List D → M D := fun ds s => match ds with
  | [.p (.int i)] => .ok (.p (.int i)) s
  | [.p (.bl b)] => .ok (.p (.int (if b = true then 1 else 0))) s
  | _ => .bad
theorem c_int : CaS C k (.type "int") intD := fun X ok => ⟨_, call_int1, fun W s H xs ds Q r A g => by
  unfold intD at g
  split at g
  · obtain ⟨x, rfl, h⟩ := dvs1 r
    cases h
    exact Or.inl ⟨_, rfl, g W H _ Ev.rfl (PV.int _) A⟩
  · obtain ⟨x, rfl, h⟩ := dvs1 r
    cases h
    exact Or.inr ⟨_, rfl, g W H _ Ev.rfl (PV.int _) A⟩
  · exact g.elim⟩
/-- a row of truths -/
def blsOf : List P → Option (List Bool)
  | [] => some []
  | .bl b :: r => (blsOf r).map (b :: ·)
  | _ :: _ => none
theorem blsOf_eq : ∀ {xs : List P} {bs : List Bool}, blsOf xs = some bs → xs = bs.map P.bl
  | [], bs, h => by
    cases h
    rfl
  | x :: r, bs, h => by
    cases x with
    | bl b =>
      unfold blsOf at h
      cases e : blsOf r with
      | none =>
        rw [e] at h
        cases h
      | some cs =>
        rw [e] at h
        have h' := Option.some.inj h
        subst h'
        rw [blsOf_eq e]
        rfl
    | _ => cases h
theorem blsOf_map : ∀ bs : List Bool, blsOf (bs.map P.bl) = some bs
  | [] => rfl
  | b :: r => by
    show (blsOf (r.map P.bl)).map (b :: ·) = some (b :: r)
    rw [blsOf_map r]
    rfl
def allD : List D → M D := fun ds s => match ds with
  | [d] => match its d s with
    | some xs => match blsOf xs with
      | some bs => .ok (.p (.bl (bs.all id))) s
      | none => .bad
    | none => .bad
  | _ => .bad
theorem c_all : CaS C k (.builtin "all") allD := fun X ok => ⟨_, cr_all ok.calm, fun W s H xs ds Q r A g => by
  unfold allD at g
  rw [ok.eK]
  split at g
  · split at g
    · rename_i ys hx
      split at g
      · rename_i bs hb
        obtain ⟨x, rfl, h⟩ := dvs1 r
        obtain ⟨a, vs, rfl, h1, h2⟩ := its_sq h A hx
        have hy := blsOf_eq hb
        subst hy
        have hv := h2.bls
        subst hv
        exact ⟨_, bs, rfl, h1, g W H _ Ev.rfl (PV.bl _) A⟩
      · exact g.elim
    · exact g.elim
  · exact g.elim⟩
def anyD : List D → M D := fun ds s => match ds with
  | [d] => match its d s with
    | some xs => match blsOf xs with
      | some bs => .ok (.p (.bl (bs.any id))) s
      | none => .bad
    | none => .bad
  | _ => .bad
theorem c_any : CaS C k (.builtin "any") anyD := fun X ok => ⟨_, cr_any ok.calm, fun W s H xs ds Q r A g => by
  unfold anyD at g
  rw [ok.eK]
  split at g
  · split at g
    · rename_i ys hx
      split at g
      · rename_i bs hb
        obtain ⟨x, rfl, h⟩ := dvs1 r
        obtain ⟨a, vs, rfl, h1, h2⟩ := its_sq h A hx
        have hy := blsOf_eq hb
        subst hy
        have hv := h2.bls
        subst hv
        exact ⟨_, bs, rfl, h1, g W H _ Ev.rfl (PV.bl _) A⟩
      · exact g.elim
    · exact g.elim
  · exact g.elim⟩
/-- tuple(x) of a list or a tuple; list(x), plain or not -/
def tupD : List D → M D := fun ds s => match ds with
  | [.p (.tup xs)] => .ok (.p (.tup xs)) s
  | [d] => match its d s with
    | some xs => .ok (.p (.tup xs)) s
    | none => .bad
  | _ => .bad
theorem c_tup : CaS C k (.type "tuple") tupD := fun X ok => ⟨_, call_tuple_of, fun W s H xs ds Q r A g => by
  unfold tupD at g
  rw [ok.eK]
  split at g
  · obtain ⟨x, rfl, h⟩ := dvs1 r
    cases h with
    | tup h1 h2 => exact ⟨_, _, rfl, Or.inr ⟨h1, g W H _ Ev.rfl (PV.tup h1 h2) A⟩⟩
  · split at g
    · rename_i hx
      obtain ⟨x, rfl, h⟩ := dvs1 r
      obtain ⟨a, vs, rfl, h1, h2⟩ := its_sq h A hx
      exact ⟨_, _, rfl, Or.inl ⟨h1, fun l hl => g W _ _ (Ev.new hl) (PV.tup (SqT.of upd_same) (PVs.up (Ev.new hl) h2)) (A.new hl)⟩⟩
    · exact g.elim
  · exact g.elim⟩
def lisD (fr : Bool) : List D → M D := fun ds s => match ds with
  | [.p (.tup xs)] => mkL fr xs s
  | [d] => match its d s with
    | some xs => mkL fr xs s
    | none => .bad
  | _ => .bad
theorem c_lis (fr : Bool) : CaS C k (.type "list") (lisD fr) := fun X ok => ⟨_, call_list_of, fun W s H xs ds Q r A g => by
  unfold lisD at g
  rw [ok.eK]
  split at g
  · obtain ⟨x, rfl, h⟩ := dvs1 r
    cases h with
    | tup h1 h2 => exact ⟨_, _, rfl, Or.inr h1, fun l hl => mkL_go Ev.rfl A h2 g hl⟩
  · split at g
    · rename_i hx
      obtain ⟨x, rfl, h⟩ := dvs1 r
      obtain ⟨a, vs, rfl, h1, h2⟩ := its_sq h A hx
      exact ⟨_, _, rfl, Or.inl h1, fun l hl => mkL_go Ev.rfl A h2 g hl⟩
    · exact g.elim
  · exact g.elim⟩
/-! isinstance of a built-in class -/
def tyD : D → S → Option String
  | .p .non, _ => some "NoneType"
  | .p (.bl _), _ => some "bool"
  | .p (.int _), _ => some "int"
  | .p (.str _), _ => some "str"
  | .p (.tup _), _ => some "tuple"
  | .p (.lst _), _ => some "list"
  | .obj n, s => match s[n]? with
    | some (some (.lst _)) => some "list"
    | some (some (.dic _)) => some "dict"
    | _ => none
  | _, _ => none
theorem tyX {W : Wd} {H : Hp} {s : S} {v : V} {d : D} {z : String} (r : DV C.K W H v d) (A : Abs C.K W s H) (h : tyD d s = some z) : TyX C.K H v (.type z) := by
  cases d with
  | obj n =>
    unfold tyD at h
    dsimp only at h
    split at h
    · rename_i xs hs
      cases h
      obtain ⟨a, h1, _, vs, h2, h3⟩ := A.ob n _ hs
      obtain ⟨a', h4, rfl⟩ := r
      rw [h1] at h4
      cases h4
      exact .base (.lst h2)
    · rename_i xs hs
      cases h
      obtain ⟨a, h1, _, vs, h2, h3⟩ := A.ob n _ hs
      obtain ⟨a', h4, rfl⟩ := r
      rw [h1] at h4
      cases h4
      exact .base (.dK h2)
    · cases h
  | p x =>
    cases r with
    | non =>
      cases h
      exact .base .non
    | bl b =>
      cases h
      exact .base (.bl b)
    | int b =>
      cases h
      exact .base (.int b)
    | str b =>
      cases h
      exact .base (.str b)
    | lst hf h1 h2 =>
      cases h
      exact .base (.lst h1)
    | tup h1 h2 =>
      cases h
      rcases h1 with (h1 | ⟨o, h1⟩) | ⟨o, its, n, h1, hc, _⟩
      · exact .base (.tup h1)
      · exact .fTuple h1
      · exact .kTuple h1 hc
    | _ => cases h
def isiD : List D → M D := fun ds s => match ds with
  | [d, .p (.ty c)] => match tyD d s with
    | some z => match kitB z c with
      | some b => .ok (.p (.bl b)) s
      | none => .bad
    | none => .bad
  | _ => .bad
theorem c_isi : CaS C k (.builtin "isinstance") isiD := fun X ok => ⟨_, call_isi, fun W s H xs ds Q r A g => by
  unfold isiD at g
  rw [ok.eK]
  split at g
  · split at g
    · rename_i hz
      split at g
      · rename_i hb
        obtain ⟨x, y, rfl, h, h'⟩ := dvs2 r
        cases h'
        exact ⟨_, _, _, _, _, rfl, .ty _, tyX h A hz, kit_ty hb, g W H _ Ev.rfl (PV.bl _) A⟩
      · exact g.elim
    · exact g.elim
  · exact g.elim⟩
/-- a built-in class's name as a value -/
theorem s_bty {x : Str} {id : String} (hm : C.mg x = none) (hv : bootBuiltins x = some (.type id)) (hg : GlS sc x := by rfl) (hn : x ≠ "__name__" := by decide) (hd : (x == ("__debug__" : Str)) = false := by decide) : SE C sc N k (.Name x pos) (cE (.ty id)) := fun X ok => by
  refine ⟨_, pe_bltn (hg.of ok) (by rw [ok.em]; exact hm) hv (v := .ty id) rfl hn hd, fun σ H W s ρ Q er A g => ?_⟩
  exact g W H _ Ev.rfl (PV.ty _) A
/-! repr -/
def shwD : List D → M D := fun ds s => match ds with
  | [d] => match toPyD d s with
    | some z => if z.showable = true ∧ z.hasDict = false ∧ z.depth ≤ 60 ∧ z.shown.length ≤ sizeLine then .ok (.p (.str z.shown)) s else .bad
    | none => .bad
  | _ => .bad
def rShw (K : PySem.W.Frag) : List V → Hp → VK → Prop := fun xs H Q => ∃ x z, xs = [x] ∧ Dp K H x z ∧ z.showable = true ∧ z.hasDict = false ∧ z.depth ≤ 60 ∧ z.shown.length ≤ sizeLine ∧ Q (.str z.shown) H
theorem call_shw {X : Cx} (hg : X.A.guards = some []) (hr : Room k X.A) : CallR X (.builtin "repr") (rShw X.K) := by
  intro pins s σ H xs us Q I r h
  obtain ⟨x, z, rfl, hd, h1, h2, h3, h4, q⟩ := h
  obtain ⟨u, rfl, ru⟩ := vals1 r
  have hu := hr.un
  have seq : ∀ a, u = .ref a → wpAny (model X.prog X.w) X.A (call (.builtin "repr") [u]) (EP X pins σ Q) X.xe s := fun a e => by
    obtain ⟨as, rd⟩ := Dp.reads I z x u hd ru
    subst e
    exact repr_of_reads' rd h1 (PyData.noDict_hsm h2) hg (by omega) (fun _ _ e => e) (fun h' u tk hk => ⟨.str z.shown, H, I.kept hk, ⟨_, rfl⟩, q⟩) h4
  cases hd with
  | non =>
    cases ru
    exact PySem.P.repr_of_none ⟨.str _, H, I.tok _, ⟨_, rfl⟩, q⟩
  | bl b =>
    cases ru
    exact PySem.P.repr_of_bool ⟨.str _, H, I.tok _, ⟨_, rfl⟩, by
      have e : PyData.shown (.bool b) = ((if b then "True" else "False" : Str)) := by cases b <;> rfl
      rw [e] at q
      exact q⟩
  | int i =>
    obtain ⟨t, rfl⟩ := ru
    exact PySem.P.repr_of_int (of_decide_eq_true h1) ⟨.str _, H, I.tok _, ⟨_, rfl⟩, q⟩
  | str y =>
    obtain ⟨t, rfl⟩ := ru
    exact PySem.P.repr_of_str ⟨.str _, H, I.tok _, ⟨_, rfl⟩, q⟩ h4
  | lst _ _ => exact seq _ ru
  | tup _ _ => exact seq _ ru
theorem c_shw : CaS C k (.builtin "repr") shwD := fun X ok => ⟨_, call_shw ok.gd ok.rm, fun W s H xs ds Q r A g => by
  unfold shwD at g
  rw [ok.eK]
  split at g
  · split at g
    · rename_i z hz
      split at g
      · rename_i hc
        obtain ⟨x, rfl, h⟩ := dvs1 r
        exact ⟨x, z, rfl, DV.dp h A hz, hc.1, hc.2.1, hc.2.2.1, hc.2.2.2, g W H _ Ev.rfl (PV.str _) A⟩
      · exact g.elim
    · exact g.elim
  · exact g.elim⟩
end
end CW

end
section
set_option maxRecDepth 100000
set_option maxHeartbeats 2000000
/-! CW, sixth part: statements. -/
namespace CW
open PySem PySem.Spec PyProof.Rows L2
inductive Fl where
  | nx (ρ : En) | rt (d : D) | bk (ρ : En) | ct (ρ : En)
abbrev SF := En → M Fl
abbrev GF := D → En → M En
def PoR (K : PySem.W.Frag) (W : Wd) (H : Hp) (Q : L2.St → Hp → Prop) : En → S → Prop := fun ρ s => ∀ W' H' σ, Ev W H W' H' → ER K W' H' σ ρ → Abs K W' s H' → Q σ H'
def PoF (K : PySem.W.Frag) (W : Wd) (H : Hp) (D : Ends) : Fl → S → Prop := fun f s => match f with
  | .nx ρ => PoR K W H D.nx ρ s
  | .rt d => Po K W H D.rt d s
  | .bk ρ => PoR K W H D.bk ρ s
  | .ct ρ => PoR K W H D.ct ρ s
theorem PoR.up {K : PySem.W.Frag} {W W' : Wd} {H H' : Hp} {Q : L2.St → Hp → Prop} {d : En} {s : S} (e : Ev W H W' H') (h : PoR K W H Q d s) : PoR K W' H' Q d s := fun W2 H2 v e2 => h W2 H2 v (e.trans e2)
theorem PoF.up {K : PySem.W.Frag} {W W' : Wd} {H H' : Hp} {D : Ends} {f : Fl} {s : S} (e : Ev W H W' H') (h : PoF K W H D f s) : PoF K W' H' D f s := by
  cases f with
  | nx ρ => exact PoR.up e h
  | rt d => exact Po.up e h
  | bk ρ => exact PoR.up e h
  | ct ρ => exact PoR.up e h
def SS (C : Cf) (sc : Scope) (N : List Str) (k : Nat) (st : Stmt) (m : SF) : Prop :=
  ∀ X, Cod C sc N k X → ∃ t, PS X st t ∧ ∀ D σ H W s ρ, ER C.K W H σ ρ → Abs C.K W s H → Good (m ρ s) (PoF C.K W H D) → t D σ H
def SB (C : Cf) (sc : Scope) (N : List Str) (k : Nat) (st : List Stmt) (m : SF) : Prop :=
  ∀ X, Cod C sc N k X → ∃ t, PSs X st t ∧ ∀ D σ H W s ρ, ER C.K W H σ ρ → Abs C.K W s H → Good (m ρ s) (PoF C.K W H D) → t D σ H
/-- but for the places pl nothing is stored -/
def Agr (pl : List Nat) (σ σ' : L2.St) : Prop := σ'.length = σ.length ∧ ∀ j, j ∉ pl → σ'[j]? = σ[j]?
theorem Agr.rfl {pl : List Nat} {σ : L2.St} : Agr pl σ σ := ⟨_root_.rfl, fun _ _ => _root_.rfl⟩
theorem Agr.trans {pl pl' : List Nat} {σ σ' σ2 : L2.St} (h : Agr pl σ σ') (g : Agr pl' σ' σ2) : Agr (pl ++ pl') σ σ2 := ⟨g.1.trans h.1, fun j hj => by
  rw [g.2 j fun z => hj (List.mem_append_right _ z), h.2 j fun z => hj (List.mem_append_left _ z)]⟩
def PoG (K : PySem.W.Frag) (W : Wd) (H : Hp) (pl : List Nat) (σ : L2.St) (Q : L2.St → Hp → Prop) : En → S → Prop := fun ρ s => ∀ W' H' σ', Ev W H W' H' → ER K W' H' σ' ρ → Abs K W' s H' → Agr pl σ σ' → Q σ' H'
theorem PoR.g {K : PySem.W.Frag} {W : Wd} {H : Hp} {pl : List Nat} {σ : L2.St} {Q : L2.St → Hp → Prop} {ρ : En} {s : S} (h : PoR K W H Q ρ s) : PoG K W H pl σ Q ρ s := fun W' H' σ' e er A _ => h W' H' σ' e er A
def SG (C : Cf) (sc : Scope) (N : List Str) (k : Nat) (tg : Expr) (g : GF) (pl : List Nat) : Prop :=
  ∀ X, Cok C sc N k X → ∃ t, PG X tg t ∧ ∀ v d σ H W s ρ Q, DV C.K W H v d → ER C.K W H σ ρ → Abs C.K W s H → Good (g d ρ s) (PoG C.K W H pl σ Q) → t v σ H Q
def SGs (C : Cf) (sc : Scope) (N : List Str) (k : Nat) (ts : List Expr) (g : List P → En → M En) (pl : List Nat) : Prop :=
  ∀ X, Cok C sc N k X → ∃ t, PGs X ts t ∧ ∀ vs xs σ H W s ρ Q, PVs C.K W.fr H vs xs → ER C.K W H σ ρ → Abs C.K W s H → Good (g xs ρ s) (PoG C.K W H pl σ Q) → t vs σ H Q
theorem ER.put {K : PySem.W.Frag} {W : Wd} {H : Hp} {σ : L2.St} {ρ : En} {v : V} {d : D} (h : ER K W H σ ρ) (r : DV K W H v d) (i : Nat) : ER K W H (σ.set i (some v)) (ρ.set i (some d)) := by
  refine ⟨by rw [List.length_set, List.length_set]; exact h.len, fun j e hj => ?_⟩
  by_cases q : i = j
  · subst q
    have hl : i < ρ.length := by
      have z := (List.getElem?_eq_some_iff.mp hj).1
      rw [List.length_set] at z
      exact z
    rw [List.getElem?_set_self hl] at hj
    cases hj
    exact ⟨v, List.getElem?_set_self (by rw [h.len]; exact hl), r⟩
  · rw [List.getElem?_set_ne q] at hj
    rw [List.getElem?_set_ne q]
    exact h.at j e hj
theorem ER.wipe {K : PySem.W.Frag} {W : Wd} {H : Hp} {σ : L2.St} {ρ : En} (h : ER K W H σ ρ) (i : Nat) : ER K W H (σ.set i none) (ρ.set i none) := by
  refine ⟨by rw [List.length_set, List.length_set]; exact h.len, fun j e hj => ?_⟩
  by_cases q : i = j
  · subst q
    have hl : i < ρ.length := by
      have z := (List.getElem?_eq_some_iff.mp hj).1
      rw [List.length_set] at z
      exact z
    rw [List.getElem?_set_self hl] at hj
    cases hj
  · rw [List.getElem?_set_ne q] at hj
    rw [List.getElem?_set_ne q]
    exact h.at j e hj
section
variable {C : Cf} {sc : Scope} {N : List Str} {k : Nat} {pos p2 : Pos} {e a b tg : Expr} {m ma mb : EF} {es : List Expr} {ms : List EF} {st : Stmt} {sts : List Stmt} {f g : SF}
/-! ### targets -/
def setG (i : Nat) : GF := fun d ρ s => .ok (ρ.set i (some d)) s
theorem Cok.hf {X : Cx} {x : Str} (ok : Cok C sc N k X) (hx : Loc sc x) : X.fn x = true ∨ X.env.scope.names.lookup x = some .local := by
  rcases hx with h | h
  · exact Or.inr (ok.eL.loc x h)
  · exact Or.inl (ok.fc x h)
theorem g_name (i : Nat) {x : Str} (hi : N[i]? = some x := by rfl) (hx : Loc sc x := by first | exact Or.inl rfl | exact Or.inr rfl) : SG C sc N k (.Name x pos) (setG i) [i] := fun X ok => by
  refine ⟨_, pg_name (by rw [ok.nN]; exact ok.nd) (by rw [ok.nN]; exact hi) (ok.eL.lo hx) (ok.hf hx), fun v d σ H W s ρ Q r er A g => ?_⟩
  refine g W H _ Ev.rfl (er.put r i) A ⟨by rw [List.length_set], fun j hj => ?_⟩
  rw [List.getElem?_set_ne fun z => hj (by rw [z]; exact List.mem_singleton_self _)]
def nilG : List P → En → M En := fun xs ρ s => match xs with
  | [] => .ok ρ s
  | _ => .bad
def consG (g : GF) (r : List P → En → M En) : List P → En → M En := fun xs ρ => match xs with
  | x :: xs => bnd (g (.p x) ρ) fun ρ' => r xs ρ'
  | [] => bad
theorem gs_nil : SGs C sc N k [] nilG [] := fun X ok => by
  refine ⟨_, pgs_nil, fun vs xs σ H W s ρ Q r er A g => ?_⟩
  cases r with
  | nil => exact ⟨rfl, g W H _ Ev.rfl er A Agr.rfl⟩
  | cons _ _ => exact g.elim
theorem gs_cons {ts : List Expr} {h : GF} {r : List P → En → M En} {pl pl' : List Nat} (h1 : SG C sc N k tg h pl) (h2 : SGs C sc N k ts r pl') (hs : ∀ env, (assignEach (tg :: ts) env).map (·.2) = assign tg env :: (assignEach ts env).map (·.2) := by intro _; rfl) : SGs C sc N k (tg :: ts) (consG h r) (pl ++ pl') := fun X ok => by
  obtain ⟨t, p, q⟩ := h1 X ok
  obtain ⟨u, p', q'⟩ := h2 X ok
  refine ⟨_, pgs_cons p p' (hs X.env), fun vs xs σ H W s ρ Q rv er A g => ?_⟩
  cases rv with
  | nil => exact g.elim
  | cons hv hr =>
    refine ⟨_, _, rfl, q _ _ σ H W s ρ _ (show DV C.K W H _ (.p _) from hv) er A (Good.mono (Good.bnd g) fun ρ1 s1 h1 W1 H1 σ1 e1 er1 A1 ag => ?_)⟩
    exact q' _ _ σ1 H1 W1 s1 ρ1 Q (PVs.up e1 hr) er1 A1 (Good.mono h1 fun _ _ z W2 H2 σ2 e2 er2 A2 ag2 => z W2 H2 σ2 (e1.trans e2) er2 A2 (ag.trans ag2))
/-- (a, b, ..) = a tuple, a list -/
def tupG (n : Nat) (g : List P → En → M En) : GF := fun d ρ s => match d with
  | .p (.tup xs) => if xs.length = n then g xs ρ s else .bad
  | d => match its d s with
    | some xs => if xs.length = n then g xs ρ s else .bad
    | none => .bad
theorem pg_or {X : Cx} {t u : TG} (h1 : PG X tg t) (h2 : PG X tg u) : PG X tg (fun v σ H Q => t v σ H Q ∨ u v σ H Q) := ⟨fun pins s σ H v w Q I r q => by
  rcases q with q | q
  · exact h1.run pins s σ H v w Q I r q
  · exact h2.run pins s σ H v w Q I r q⟩
theorem g_tup {ts : List Expr} {j n : Nat} {r : List P → En → M En} {pl : List Nat} (h : SGs C sc N k ts r pl) (hn : ∀ env, (assignEach ts env).length = n := by intro _; rfl) (hst : ∀ env, (assignEach ts env).findIdx? (·.1) = none := by intro _; rfl) : SG C sc N k (.Tuple ts j pos) (tupG n r) pl := fun X ok => by
  obtain ⟨t, p, q⟩ := h X ok
  refine ⟨_, pg_or (pg_tup ok.calm p (hn X.env) (hst X.env)) (pg_lst ok.calm p (hn X.env) (hst X.env)), fun v d σ H W s ρ Q rv er A g => ?_⟩
  rw [ok.eK]
  unfold tupG at g
  split at g
  · split at g
    · rename_i hl
      cases rv with
      | tup h1 h2 => exact Or.inl ⟨_, _, rfl, h1, by rw [h2.len]; exact hl, q _ _ σ H W s ρ Q h2 er A g⟩
    · exact g.elim
  · split at g
    · rename_i hx
      split at g
      · rename_i hl
        obtain ⟨a, vs, rfl, h1, h2⟩ := its_sq rv A hx
        exact Or.inr ⟨_, _, rfl, h1, by rw [h2.len]; exact hl, q _ _ σ H W s ρ Q h2 er A g⟩
      · exact g.elim
    · exact g.elim
/-! ### small statements -/
def nopF : SF := fun ρ s => .ok (.nx ρ) s
def seqF (f g : SF) : SF := fun ρ => bnd (f ρ) fun r => match r with
  | .nx ρ' => g ρ'
  | r => ret r
theorem b_nil : SB C sc N k [] nopF := fun X ok => ⟨_, pss_nil, fun D σ H W s ρ er A g => g W H σ Ev.rfl er A⟩
theorem b_one (h : SS C sc N k st f) : SB C sc N k [st] f := fun X ok => by
  obtain ⟨t, p, q⟩ := h X ok
  exact ⟨_, pss_one p, q⟩
theorem b_cons (h : SS C sc N k st f) (h2 : SB C sc N k sts g) : SB C sc N k (st :: sts) (seqF f g) := fun X ok => by
  obtain ⟨t, p, q⟩ := h X ok
  obtain ⟨u, p', q'⟩ := h2 X ok
  refine ⟨_, pss_cons p p', fun D σ H W s ρ er A G => ?_⟩
  refine q { D with nx := u D } σ H W s ρ er A ((Good.bnd G).mono fun r s1 h1 => ?_)
  cases r with
  | nx ρ' => exact fun W1 H1 σ1 e1 er1 A1 => q' D σ1 H1 W1 s1 ρ' er1 A1 (Good.mono h1 fun _ _ z => z.up e1)
  | rt d => exact h1
  | bk ρ' => exact h1
  | ct ρ' => exact h1
theorem x_pass : SS C sc N k (.Pass pos) nopF := fun X ok => ⟨_, ps_pass, fun D σ H W s ρ er A g => g W H σ Ev.rfl er A⟩
theorem x_break : SS C sc N k (.Break pos) (fun ρ s => .ok (.bk ρ) s) := fun X ok => ⟨_, ps_break, fun D σ H W s ρ er A g => g W H σ Ev.rfl er A⟩
theorem x_cont : SS C sc N k (.Continue pos) (fun ρ s => .ok (.ct ρ) s) := fun X ok => ⟨_, ps_continue, fun D σ H W s ρ er A g => g W H σ Ev.rfl er A⟩
/-- a statement that is not come to -/
def noF : SF := fun _ _ => .bad
theorem x_never : SS C sc N k st noF := fun X ok => ⟨_, ps_never, fun D σ H W s ρ er A g => g.elim⟩
def retF (m : EF) : SF := fun ρ => bnd (m ρ) fun d => ret (.rt d)
theorem x_ret (h : SE C sc N k e m) : SS C sc N k (.Return (some e) pos) (retF m) := fun X ok => by
  obtain ⟨t, p, q⟩ := h X ok.toCok
  exact ⟨_, ps_ret p, fun D σ H W s ρ er A g => q σ H W s ρ _ er A ((Good.bnd g).mono fun _ _ z => z)⟩
theorem x_retN : SS C sc N k (.Return none pos) (fun _ s => .ok (.rt (.p .non)) s) := fun X ok => ⟨_, ps_retN, fun D σ H W s ρ er A g => g W H _ Ev.rfl PV.non A⟩
def expF (m : EF) : SF := fun ρ => bnd (m ρ) fun _ => ret (.nx ρ)
theorem x_exp (h : SE C sc N k e m) (hs : ∀ env, swapsWith e none pos.line env = pure false := by intro _; rfl) : SS C sc N k (.Expr e pos) (expF m) := fun X ok => by
  obtain ⟨t, p, q⟩ := h X ok.toCok
  refine ⟨_, ps_expr p (hs X.env), fun D σ H W s ρ er A g => ?_⟩
  exact q σ H W s ρ _ er A ((Good.bnd g).mono fun d s1 z W1 H1 v e1 r1 A1 => z W1 H1 σ e1 (er.up e1) A1)
theorem x_doc {x : Str} {j : Nat} : SS C sc N k (.Expr (.Constant (.str x) j p2) pos) nopF := fun X ok => ⟨_, ps_doc, fun D σ H W s ρ er A g => g W H σ Ev.rfl er A⟩
def iffF (t : TF) (f g : SF) : SF := fun ρ => bnd (t ρ) fun c => if c = true then f ρ else g ρ
theorem x_if {c : Expr} {ys ns : List Stmt} {t : TF} (hc : ST C sc N k c t) (hy : SB C sc N k ys f) (hn : SB C sc N k ns g) : SS C sc N k (.If c ys ns pos) (iffF t f g) := fun X ok => by
  obtain ⟨t, p, q⟩ := hc X ok.toCok
  obtain ⟨u, p', q'⟩ := hy X ok
  obtain ⟨v, p2, q2⟩ := hn X ok
  refine ⟨_, ps_if p p' p2, fun D σ H W s ρ er A G => ?_⟩
  refine q σ H W s ρ _ er A ((Good.bnd G).mono fun c s1 h1 W1 H1 e1 A1 => ?_)
  cases c with
  | true => exact iteT (q' D σ H1 W1 s1 ρ (er.up e1) A1 (Good.mono h1 fun _ _ z => z.up e1))
  | false => exact iteF (q2 D σ H1 W1 s1 ρ (er.up e1) A1 (Good.mono h1 fun _ _ z => z.up e1))
/-! ### assignments -/
def asgF (m : EF) (g : GF) : SF := fun ρ => bnd (m ρ) fun d => bnd (g d ρ) fun ρ' => ret (.nx ρ')
theorem x_asg {h : GF} {pl : List Nat} (he : SE C sc N k e m) (hg : SG C sc N k tg h pl) (hs : ∀ env : Env, env.scope = sc → swapsWithSole [tg] e pos.line env = pure false := by intro _ _; rfl) (hw : ∀ env : Env, env.scope = sc → swappedStores [tg] e env = pure none := by intro _ _; rfl)
    (h1 : ∀ env, (assignEach [tg] env).map (·.2) = [assign tg env] := by intro _; rfl) : SS C sc N k (.Assign [tg] e pos) (asgF m h) := fun X ok => by
  obtain ⟨t, p, q⟩ := he X ok.toCok
  obtain ⟨u, p', q'⟩ := hg X ok.toCok
  refine ⟨_, ps_asg p p' (hs X.env ok.eS) (hw X.env ok.eS) (h1 X.env), fun D σ H W s ρ er A g => ?_⟩
  refine q σ H W s ρ _ er A ((Good.bnd g).mono fun d s1 z W1 H1 v e1 r1 A1 => ?_)
  refine q' v d σ H1 W1 s1 ρ _ r1 (er.up e1) A1 ((Good.bnd z).mono fun ρ' s2 z2 W2 H2 σ2 e2 er2 A2 _ => ?_)
  exact z2 W2 H2 σ2 (e1.trans e2) er2 A2
/-- a, b = x, y with plain local names -/
def parF (i j : Nat) (ms : List EF) : SF := fun ρ => bnd (evA ms ρ) fun ds s => match ds with
  | [x, y] => .ok (.nx ((ρ.set i (some x)).set j (some y))) s
  | _ => .bad
theorem x_par (i j : Nat) {x y : Str} {px py pt : Pos} {kt k2 : Nat} {pt2 : Pos} (ha : SAs C sc N k [a, b] ms) (hi : N[i]? = some x := by rfl) (hj : N[j]? = some y := by rfl) (hij : i ≠ j := by decide) (hx : sc.names.lookup x = some .local := by rfl) (hy : sc.names.lookup y = some .local := by rfl)
    (hw : ∀ env : Env, env.scope = sc → swappedStores [.Tuple [.Name x px, .Name y py] kt pt] (.Tuple [a, b] k2 pt2) env = pure (some [x, y])) (hs : ∀ env, swapsWithSole [.Tuple [.Name x px, .Name y py] kt pt] (.Tuple [a, b] k2 pt2) pos.line env = pure false := by intro _; rfl) :
    SS C sc N k (.Assign [.Tuple [.Name x px, .Name y py] kt pt] (.Tuple [a, b] k2 pt2) pos) (parF i j ms) := fun X ok => by
  obtain ⟨t, p, q⟩ := ha X ok.toCok
  refine ⟨_, ps_par ok.calm (by rw [ok.nN]; exact ok.nd) (by rw [ok.nN]; exact hi) (by rw [ok.nN]; exact hj) hij (by rw [ok.eS]; exact hx) (by rw [ok.eS]; exact hy) p (hw X.env ok.eS) (hs X.env), fun D σ H W s ρ er A g => ?_⟩
  refine q σ H W s ρ _ er A ((Good.bnd g).mono fun ds s1 z W1 H1 vs e1 r1 A1 => ?_)
  split at z
  · obtain ⟨x', y', rfl, r2, r3⟩ := dvs2 r1
    exact ⟨_, _, rfl, z W1 H1 _ e1 (((er.up e1).put r2 i).put r3 j) A1⟩
  · exact z.elim
def par3F (i j l : Nat) (ms : List EF) : SF := fun ρ => bnd (evA ms ρ) fun ds s => match ds with
  | [x, y, z] => .ok (.nx (((ρ.set i (some x)).set j (some y)).set l (some z))) s
  | _ => .bad
theorem dvs3 {W : Wd} {H : Hp} {xs : List V} {d d' d2 : D} (r : DVs C.K W H xs [d, d', d2]) : ∃ x y z, xs = [x, y, z] ∧ DV C.K W H x d ∧ DV C.K W H y d' ∧ DV C.K W H z d2 := by
  match xs, r with
  | [x, y, z], .cons h (.cons h' (.cons h2 .nil)) => exact ⟨x, y, z, rfl, h, h', h2⟩
/-! ### in place -/
def augF (i : Nat) (g : D → D → M D) (m : EF) : SF := fun ρ s => match ρ[i]? with
  | some (some d) => bnd (m ρ) (fun y => bnd (g d y) fun z => ret (.nx (ρ.set i (some z)))) s
  | _ => .bad
theorem x_aug (i : Nat) {x : Str} {op : Operator} {h : D → D → M D} (ho : OpS C k (inplaceOp op) h) (he : SE C sc N k e m) (hi : N[i]? = some x := by rfl) (hx : Loc sc x := by first | exact Or.inl rfl | exact Or.inr rfl) : SS C sc N k (.AugAssign (.Name x p2) op e pos) (augF i h m) := fun X ok => by
  obtain ⟨t, p, q⟩ := he X ok.toCok
  obtain ⟨r, p1, q1⟩ := ho X ok.toOkx
  refine ⟨_, ps_aug (ti := r) (by rw [ok.nN]; exact ok.nd) (by rw [ok.nN]; exact hi) (by rw [ok.eS]; exact hx) p p1 (ok.toCok.hf hx), fun D σ H W s ρ er A g => ?_⟩
  unfold augF at g
  split at g
  · rename_i d hd
    obtain ⟨v, hv, rv⟩ := er.at i d hd
    refine ⟨v, hv, q σ H W s ρ _ er A ((Good.bnd g).mono fun y s1 z W1 H1 u e1 r1 A1 => ?_)⟩
    refine q1 W1 s1 H1 v u d y _ (rv.up e1) r1 A1 ((Good.bnd z).mono fun c s2 z2 W2 H2 w e2 r2 A2 => ?_)
    exact z2 W2 H2 _ (e1.trans e2) (((er.up e1).up e2).put r2 i) A2
  · exact g.elim
theorem i_add : OpS C k (inplaceOp .Add) (ii yes fun i j => .int (i + j)) := fun X ok => ⟨_, iop_add, fun W s H x y dx dy Q rx ry A g => by
  obtain ⟨i, j, rfl, rfl, _, q⟩ := ii_go rx ry g
  exact ⟨i, j, rfl, rfl, q W H _ Ev.rfl (PV.int _) A⟩⟩
theorem i_sub : OpS C k (inplaceOp .Sub) (ii yes fun i j => .int (i - j)) := fun X ok => ⟨_, iop_sub, fun W s H x y dx dy Q rx ry A g => by
  obtain ⟨i, j, rfl, rfl, _, q⟩ := ii_go rx ry g
  exact ⟨i, j, rfl, rfl, q W H _ Ev.rfl (PV.int _) A⟩⟩
/-! ### what is changed -/
/-- d[y] = v -/
def dputF (md mi mv : EF) : SF := fun ρ => bnd (mv ρ) fun v => bnd (md ρ) fun d => bnd (mi ρ) fun i s => match d, dctD d s, keyD i with
  | .obj n, some kvs, some q => if kvs.length < sizeLine then .ok (.nx ρ) (s.set n (some (.dic (putD kvs q v)))) else .bad
  | _, _, _ => .bad
theorem x_dput {o i value : Expr} {p3 : Pos} {md mi mv : EF} (ho : SE C sc N k o md) (hi : SE C sc N k i mi) (hv : SE C sc N k value mv) (hs : ∀ env, swapsWith value (some (.Subscript o i p3)) pos.line env = pure false := by intro _; rfl) :
    SS C sc N k (.Assign [.Subscript o i p3] value pos) (dputF md mi mv) := fun X ok => by
  obtain ⟨t1, p1, q1⟩ := ho X ok.toCok
  obtain ⟨t2, p2, q2⟩ := hi X ok.toCok
  obtain ⟨t3, p3, q3⟩ := hv X ok.toCok
  refine ⟨_, ps_dput (hu_of ok.rm) p1 p2 p3 (hs X.env), fun D σ H W s ρ er A g => ?_⟩
  refine q3 σ H W s ρ _ er A ((Good.bnd g).mono fun v s1 z W1 H1 vv e1 r1 A1 => ?_)
  refine q1 σ H1 W1 s1 ρ _ (er.up e1) A1 ((Good.bnd z).mono fun d s2 z2 W2 H2 vd e2 r2 A2 => ?_)
  refine q2 σ H2 W2 s2 ρ _ ((er.up e1).up e2) A2 ((Good.bnd z2).mono fun i s3 z3 W3 H3 vi e3 r3 A3 => ?_)
  split at z3
  · rename_i n kvs q hq hd
    split at z3
    · rename_i hl
      obtain ⟨n', a, ws, hn, hs, h3, rfl, h4, h5⟩ := dct_at (r2.up e3) A3 hd
      cases hn
      have hy := key_rel r3 hq
      subst hy
      have hlen : ws.length < sizeLine := by rw [Paired.length h5]; exact hl
      have ev : Ev W3 H3 W3 (upd H3 a (.dK (putK ws q vv))) := Ev.put (o' := .dic []) A3 hs h3
      exact ⟨a, _, rfl, DPut.k h4 hlen, z3 W3 _ _ (((e1.trans e2).trans e3).trans ev) ((((er.up e1).up e2).up e3).up ev) (A3.put hs h3 ⟨_, upd_same, ((h5.up ev).put (((r1.up e2).up e3).up ev))⟩)⟩
    · exact z3.elim
  · exact z3.elim
/-- xs[i] = v -/
def lputF (mo mi mv : EF) : SF := fun ρ => bnd (mv ρ) fun v => bnd (mo ρ) fun d => bnd (mi ρ) fun i s => match d, v, i with
  | .obj n, .p x, .p (.int z) => match s[n]? with
    | some (some (.lst xs)) => match ixN xs.length z with
      | some j => .ok (.nx ρ) (s.set n (some (.lst (xs.set j x))))
      | none => .bad
    | _ => .bad
  | _, _, _ => .bad
theorem x_lput {o i value : Expr} {p3 : Pos} {mo mi mv : EF} (ho : SE C sc N k o mo) (hi : SE C sc N k i mi) (hv : SE C sc N k value mv) (hs : ∀ env : Env, env.scope = sc → swapsWithSole [.Subscript o i p3] value pos.line env = pure false := by intro _ _; rfl)
    (hw : ∀ env : Env, swappedStores [.Subscript o i p3] value env = pure none := by intro _; rfl) (h1 : ∀ env, (assignEach [.Subscript o i p3] env).map (·.2) = [assign (.Subscript o i p3) env] := by intro _; rfl)
    (ha : ∀ env v, assign (.Subscript o i p3) env v = (do
      let ov ← holding [v] (eval o env)
      let iv ← holding [v, ov] (eval i env)
      standAt p3
      holding [v, ov, iv] (setItem ov iv v)
      release [v, ov, iv] []) := by intro _ _; rfl) : SS C sc N k (.Assign [.Subscript o i p3] value pos) (lputF mo mi mv) := fun X ok => by
  obtain ⟨t1, p1, q1⟩ := ho X ok.toCok
  obtain ⟨t2, p2, q2⟩ := hi X ok.toCok
  obtain ⟨t3, p3, q3⟩ := hv X ok.toCok
  refine ⟨_, ps_asg p3 (pg_sub p1 p2 set_list (ha X.env)) (hs X.env ok.eS) (hw X.env) (h1 X.env), fun D σ H W s ρ er A g => ?_⟩
  refine q3 σ H W s ρ _ er A ((Good.bnd g).mono fun v s1 z W1 H1 vv e1 r1 A1 => ?_)
  refine q1 σ H1 W1 s1 ρ _ (er.up e1) A1 ((Good.bnd z).mono fun d s2 z2 W2 H2 vd e2 r2 A2 => ?_)
  refine q2 σ H2 W2 s2 ρ _ ((er.up e1).up e2) A2 ((Good.bnd z2).mono fun i s3 z3 W3 H3 vi e3 r3 A3 => ?_)
  split at z3
  · rename_i n x iz
    split at z3
    · rename_i xs hx
      split at z3
      · rename_i j hj
        cases r3
        obtain ⟨a, h4, rfl⟩ := r2.up e3
        obtain ⟨a', h5, _, vs, h6, h7⟩ := A3.ob n _ hx
        rw [h4] at h5
        cases h5
        have ev : Ev W3 H3 W3 (upd H3 a (.lst (vs.set j vv))) := Ev.put (o' := .lst []) A3 hx h4
        refine ⟨a, vs, _, j, rfl, rfl, h6, by rw [h7.len]; exact hj, z3 W3 _ _ (((e1.trans e2).trans e3).trans ev) ((((er.up e1).up e2).up e3).up ev) (A3.put hx h4 ⟨_, upd_same, PVs.put ?_ j (PVs.up ev h7)⟩)⟩
        exact PV.up ev (PV.up e3 (PV.up e2 r1))
      · exact z3.elim
    · exact z3.elim
  · exact z3.elim
/-- xs.append(x), xs.extend(ys) -/
def appE (mo ma : EF) : EF := fun ρ => bnd (mo ρ) fun d => bnd (ma ρ) fun x s => match d, x with
  | .obj n, .p x => match s[n]? with
    | some (some (.lst xs)) => if xs.length < sizeLine then .ok (.p .non) (s.set n (some (.lst (xs ++ [x])))) else .bad
    | _ => .bad
  | _, _ => .bad
end
end CW

end
section
set_option maxRecDepth 100000
set_option maxHeartbeats 2000000
/-! CW, seventh part: methods of lists, loops, comprehensions, defs. -/
namespace CW
open PySem PySem.Spec PyProof.Rows L2
section
variable {C : Cf} {sc : Scope} {N : List Str} {k : Nat} {pos p2 apos cpos : Pos} {e a b c o tg : Expr} {m ma mb mo : EF} {es : List Expr} {ms : List EF} {st : Stmt} {sts : List Stmt} {f g : SF}
theorem x_par3 (i j l : Nat) {x y z : Str} {px py pz pt : Pos} {kt k2 : Nat} {pt2 : Pos} (ha : SAs C sc N k [a, b, c] ms) (hi : N[i]? = some x := by rfl) (hj : N[j]? = some y := by rfl) (hl : N[l]? = some z := by rfl) (hij : i ≠ j := by decide) (hil : i ≠ l := by decide) (hjl : j ≠ l := by decide)
    (hx : sc.names.lookup x = some .local := by rfl) (hy : sc.names.lookup y = some .local := by rfl) (hz : sc.names.lookup z = some .local := by rfl)
    (hw : ∀ env : Env, env.scope = sc → swappedStores [.Tuple [.Name x px, .Name y py, .Name z pz] kt pt] (.Tuple [a, b, c] k2 pt2) env = pure (some [x, y, z])) (hs : ∀ env, swapsWithSole [.Tuple [.Name x px, .Name y py, .Name z pz] kt pt] (.Tuple [a, b, c] k2 pt2) pos.line env = pure false := by intro _; rfl) :
    SS C sc N k (.Assign [.Tuple [.Name x px, .Name y py, .Name z pz] kt pt] (.Tuple [a, b, c] k2 pt2) pos) (par3F i j l ms) := fun X ok => by
  obtain ⟨t, p, q⟩ := ha X ok.toCok
  refine ⟨_, ps_par3 ok.calm (by rw [ok.nN]; exact ok.nd) (by rw [ok.nN]; exact hi) (by rw [ok.nN]; exact hj) (by rw [ok.nN]; exact hl) hij hil hjl (by rw [ok.eS]; exact hx) (by rw [ok.eS]; exact hy) (by rw [ok.eS]; exact hz) p (hw X.env ok.eS) (hs X.env), fun D σ H W s ρ er A g => ?_⟩
  refine q σ H W s ρ _ er A ((Good.bnd g).mono fun ds s1 w W1 H1 vs e1 r1 A1 => ?_)
  split at w
  · obtain ⟨x', y', z', rfl, r2, r3, r4⟩ := dvs3 r1
    exact ⟨_, _, _, rfl, w W1 H1 _ e1 ((((er.up e1).put r2 i).put r3 j).put r4 l) A1⟩
  · exact w.elim
/-! ### methods of lists -/
theorem obj_lst {W : Wd} {H : Hp} {s : S} {v : V} {n : Nat} {xs : List P} (r : DV C.K W H v (.obj n)) (A : Abs C.K W s H) (h : s[n]? = some (some (.lst xs))) : ∃ a vs, W.io[n]? = some a ∧ v = .ref a ∧ H a = some (.lst vs) ∧ PVs C.K W.fr H vs xs := by
  obtain ⟨a, h4, rfl⟩ := r
  obtain ⟨a', h5, _, vs, h6, h7⟩ := A.ob n _ h
  rw [h4] at h5
  cases h5
  exact ⟨a, vs, h4, rfl, h6, h7⟩
/-- a method of a list does g -/
def MtS (C : Cf) (k : Nat) (id : String) (g : D → List D → M D) : Prop :=
  ∀ X, Okx C k X → ∃ r, MtR X id r ∧ ∀ W s H x d xs ds Q, DV C.K W H x d → DVs C.K W H xs ds → Abs C.K W s H → Good (g d ds s) (Po C.K W H Q) → r x xs H Q
def metE (g : D → List D → M D) (mo : EF) (ms : List EF) : EF := fun ρ => bnd (mo ρ) fun d s => match its d s with
  | some _ => bnd (evA ms ρ) (g d) s
  | none => .bad
theorem s_met {name : Str} {id : String} {g : D → List D → M D} (pa : PlainAttrs "list") (slot : Slot "list" name id) (hty : typeOf (.builtin id) = pure (.type "method_descriptor")) (hm : MtS C k id g) (ho : SE C sc N k o mo) (ha : SAs C sc N k (e :: es) ms)
    (hb : ∀ env, attributeBase o name env (eval o env) = eval o env := by intro _; rfl)
    (hf : ∀ env, ((backTo cpos (starEach (e :: es) env)).all (fun x => !x.1) && (backToKw cpos (keywordEach [] env)).all (fun x => x.1.isSome) && decide ((e :: es).length + ([] : List Keyword).length + (if ([] : List Keyword).isEmpty then 0 else 1) < 30)) = true := by intro _; rfl)
    (hl : (apos.endLine == cpos.line) = true := by rfl) (hs : ∀ env, starEach (e :: es) env = (false, eval e env) :: starEach es env := by intro _; rfl) (hp : ∀ env, (backTo cpos (starEach es env)).any (·.1) = false := by intro _; rfl) :
    SE C sc N k (.Call (.Attribute o name apos) (e :: es) [] cpos) (metE g mo ms) := fun X ok => by
  obtain ⟨t1, p1, q1⟩ := ho X ok
  obtain ⟨t2, p2, q2⟩ := ha X ok
  obtain ⟨r, p3, q3⟩ := hm X ok.toOkx
  refine ⟨_, pe_bm pa slot hty p3 p1 p2 (hb X.env) (hf X.env) hl (hs X.env) (hp X.env), fun σ H W s ρ Q er A G => ?_⟩
  refine q1 σ H W s ρ _ er A ((Good.bnd G).mono fun d s1 z W1 H1 v e1 r1 A1 => ?_)
  split at z
  · rename_i xs hx
    obtain ⟨a, vs, rfl, h1, h2⟩ := its_sq r1 A1 hx
    refine ⟨by rw [ok.eK]; exact Or.inl ⟨rfl, _, h1⟩, q2 σ H1 W1 s1 ρ _ (er.up e1) A1 ((Good.bnd z).mono fun ds s2 z2 W2 H2 us e2 r2 A2 => ?_)⟩
    exact q3 W2 s2 H2 _ d us ds Q (r1.up e2) r2 A2 (Good.mono z2 fun _ _ w => w.up (e1.trans e2))
  · exact z.elim
theorem s_met0 {name : Str} {id : String} {g : D → List D → M D} (pa : PlainAttrs "list") (slot : Slot "list" name id) (hty : typeOf (.builtin id) = pure (.type "method_descriptor")) (hm : MtS C k id g) (ho : SE C sc N k o mo)
    (hb : ∀ env, attributeBase o name env (eval o env) = eval o env := by intro _; rfl) (hl : (apos.endLine == cpos.line) = true := by rfl) :
    SE C sc N k (.Call (.Attribute o name apos) [] [] cpos) (metE g mo []) := fun X ok => by
  obtain ⟨t1, p1, q1⟩ := ho X ok
  obtain ⟨r, p3, q3⟩ := hm X ok.toOkx
  refine ⟨_, pe_bm0 pa slot hty p3 p1 (hb X.env) hl, fun σ H W s ρ Q er A G => ?_⟩
  refine q1 σ H W s ρ _ er A ((Good.bnd G).mono fun d s1 z W1 H1 v e1 r1 A1 => ?_)
  split at z
  · rename_i xs hx
    obtain ⟨a, vs, rfl, h1, h2⟩ := its_sq r1 A1 hx
    exact ⟨by rw [ok.eK]; exact Or.inl ⟨rfl, _, h1⟩, q3 W1 s1 H1 _ d [] [] Q r1 .nil A1 (Good.mono z fun _ _ w => w.up e1)⟩
  · exact z.elim
theorem put_go {W : Wd} {H : Hp} {s : S} {n : Nat} {a : Addr} {xs ys : List P} {us : List V} {Q : VK} {v : V} {d : D} (A : Abs C.K W s H) (hn : s[n]? = some (some (.lst xs))) (ha : W.io[n]? = some a) (r : PVs C.K W.fr H us ys) (rv : DV C.K W H v d)
    (g : Good (.ok d (s.set n (some (.lst ys)))) (Po C.K W H Q)) : Q v (upd H a (.lst us)) := by
  have ev : Ev W H W (upd H a (.lst us)) := Ev.put (o' := .lst []) A hn ha
  exact g W _ _ ev (rv.up ev) (A.put hn ha ⟨_, upd_same, PVs.up ev r⟩)
def appD : D → List D → M D := fun d ds s => match d, ds with
  | .obj n, [.p x] => match s[n]? with
    | some (some (.lst xs)) => if xs.length < sizeLine then .ok (.p .non) (s.set n (some (.lst (xs ++ [x])))) else .bad
    | _ => .bad
  | _, _ => .bad
theorem m_app : MtS C k "list.append" appD := fun X ok => ⟨_, mt_append, fun W s H x d xs ds Q rx r A g => by
  unfold appD at g
  split at g
  · split at g
    · rename_i hn
      split at g
      · rename_i hl
        obtain ⟨a, vs, ha, rfl, h1, h2⟩ := obj_lst rx A hn
        obtain ⟨y, rfl, hy⟩ := dvs1 r
        exact ⟨a, vs, y, rfl, rfl, h1, by rw [h2.len]; exact hl, put_go A hn ha (h2.app (.cons hy .nil)) (d := .p .non) PV.non g⟩
      · exact g.elim
    · exact g.elim
  · exact g.elim⟩
def extD : D → List D → M D := fun d ds s => match d, ds with
  | .obj n, [e] => match s[n]?, itm e s with
    | some (some (.lst xs)), some ys => if xs.length + ys.length ≤ sizeLine then .ok (.p .non) (s.set n (some (.lst (xs ++ ys)))) else .bad
    | _, _ => .bad
  | _, _ => .bad
theorem m_ext : MtS C k "list.extend" extD := fun X ok => ⟨_, mt_extend, fun W s H x d xs ds Q rx r A g => by
  unfold extD at g
  split at g
  · split at g
    · rename_i hn he
      split at g
      · rename_i hl
        obtain ⟨a, vs, ha, rfl, h1, h2⟩ := obj_lst rx A hn
        obtain ⟨y, rfl, hy⟩ := dvs1 r
        obtain ⟨b, us, rfl, h3, h4⟩ := itm_at hy A he
        exact ⟨a, b, vs, us, rfl, rfl, h1, h3, by rw [h2.len, h4.len]; exact hl, put_go A hn ha (h2.app h4) (d := .p .non) PV.non g⟩
      · exact g.elim
    · exact g.elim
  · exact g.elim⟩
/-! ### while -/
def whN : Nat → TF → SF → SF
  | 0, _, _ => fun _ _ => .bad
  | n + 1, c, b => fun ρ => bnd (c ρ) fun t => if t = true then bnd (b ρ) (fun r => match r with
    | .nx ρ' => whN n c b ρ'
    | .ct ρ' => whN n c b ρ'
    | .bk ρ' => ret (.nx ρ')
    | .rt d => ret (.rt d)) else ret (.nx ρ)
open Classical in
noncomputable def whF (c : TF) (b : SF) : SF := fun ρ s => if h : ∃ n, whN n c b ρ s ≠ .bad then whN (choose h) c b ρ s else .bad
theorem x_while {cnd : Expr} {body : List Stmt} {t : TF} {f : SF} (hc : ST C sc N k cnd t) (hb : SB C sc N k body f) : SS C sc N k (.While cnd body [] pos) (whF t f) := fun X ok => by
  obtain ⟨tc, p, q⟩ := hc X ok.toCok
  obtain ⟨tb, p', q'⟩ := hb X ok
  refine ⟨_, ps_while ok.po p p', fun D σ H W s ρ er A g => ?_⟩
  obtain ⟨n, hn⟩ : ∃ n, Good (whN n t f ρ s) (PoF C.K W H D) := by
    unfold whF at g
    split at g
    · rename_i h
      exact ⟨_, g⟩
    · exact g.elim
  refine ⟨fun m σ' H' => ∃ W' s' ρ', Ev W H W' H' ∧ ER C.K W' H' σ' ρ' ∧ Abs C.K W' s' H' ∧ Good (whN m t f ρ' s') (PoF C.K W' H' D), ⟨n, W, s, ρ, Ev.rfl, er, A, hn⟩, ?_⟩
  rintro m σ1 H1 ⟨W1, s1, ρ1, e1, er1, A1, g1⟩
  cases m with
  | zero => exact g1.elim
  | succ m =>
    refine q σ1 H1 W1 s1 ρ1 _ er1 A1 ((Good.bnd g1).mono fun c s2 z W2 H2 e2 A2 => ?_)
    cases c with
    | false => exact iteF (z W2 H2 σ1 e2 (er1.up e2) A2)
    | true =>
      refine iteT ⟨fun σ' H' => ∃ W' s' ρ', Ev W H W' H' ∧ ER C.K W' H' σ' ρ' ∧ Abs C.K W' s' H' ∧ Good (whN m t f ρ' s') (PoF C.K W' H' D), fun σ' H' h => ⟨m, Nat.lt_succ_self m, h⟩, ?_⟩
      refine q' _ σ1 H2 W2 s2 ρ1 (er1.up e2) A2 ((Good.bnd z).mono fun r s3 z3 => ?_)
      cases r with
      | nx ρ' => exact fun W3 H3 σ3 e3 er3 A3 => ⟨W3, s3, ρ', (e1.trans e2).trans e3, er3, A3, Good.mono z3 fun _ _ w => w.up (e2.trans e3)⟩
      | ct ρ' => exact fun W3 H3 σ3 e3 er3 A3 => ⟨W3, s3, ρ', (e1.trans e2).trans e3, er3, A3, Good.mono z3 fun _ _ w => w.up (e2.trans e3)⟩
      | bk ρ' => exact fun W3 H3 σ3 e3 er3 A3 => z3 W3 H3 σ3 (e2.trans e3) er3 A3
      | rt d => exact fun W3 H3 v3 e3 r3 A3 => z3 W3 H3 v3 (e2.trans e3) r3 A3
/-- fuel does no harm -/
theorem whN_up {t : TF} {f : SF} : ∀ (n m : Nat) {ρ : En} {s : S}, n ≤ m → whN n t f ρ s ≠ .bad → whN m t f ρ s = whN n t f ρ s
  | 0, _, _, _, _, h => (h rfl).elim
  | n + 1, 0, _, _, hl, _ => (Nat.not_succ_le_zero n hl).elim
  | n + 1, m + 1, ρ, s, hl, h => by
    unfold whN at h ⊢
    cases ht : t ρ s with
    | bad => rw [bnd_bad ht, bnd_bad ht]
    | ok b s1 =>
      rw [bnd_ok ht] at h
      rw [bnd_ok ht, bnd_ok ht]
      cases b with
      | false => rfl
      | true =>
        rw [if_pos rfl] at h
        rw [if_pos rfl, if_pos rfl]
        cases hf : f ρ s1 with
        | bad => rw [bnd_bad hf, bnd_bad hf]
        | ok r s2 =>
          rw [bnd_ok hf] at h
          rw [bnd_ok hf, bnd_ok hf]
          cases r with
          | nx ρ' => exact whN_up n m (Nat.le_of_succ_le_succ hl) h
          | ct ρ' => exact whN_up n m (Nat.le_of_succ_le_succ hl) h
          | bk ρ' => rfl
          | rt d => rfl
theorem whF_of {t : TF} {f : SF} {ρ : En} {s : S} (n : Nat) (h : whN n t f ρ s ≠ .bad) : whF t f ρ s = whN n t f ρ s := by
  have hx : ∃ n, whN n t f ρ s ≠ .bad := ⟨n, h⟩
  unfold whF
  rw [dif_pos hx]
  have hc := Classical.choose_spec hx
  rcases Nat.le_total n (Classical.choose hx) with hl | hl
  · exact whN_up _ _ hl h
  · exact (whN_up _ _ hl hc).symm
/-- one turn of a while -/
theorem whF_eq (t : TF) (f : SF) (ρ : En) : whF t f ρ = bnd (t ρ) fun b => if b = true then bnd (f ρ) (fun r => match r with
    | .nx ρ' => whF t f ρ'
    | .ct ρ' => whF t f ρ'
    | .bk ρ' => ret (.nx ρ')
    | .rt d => ret (.rt d)) else ret (.nx ρ) := by
  funext s
  have key : ∀ n, whN (n + 1) t f ρ s = bnd (t ρ) (fun b => if b = true then bnd (f ρ) (fun r => match r with
    | .nx ρ' => whN n t f ρ'
    | .ct ρ' => whN n t f ρ'
    | .bk ρ' => ret (.nx ρ')
    | .rt d => ret (.rt d)) else ret (.nx ρ)) s := fun n => rfl
  have bads : ∀ ρ' s', (¬ ∃ n, whN n t f ρ' s' ≠ .bad) → whF t f ρ' s' = .bad := fun ρ' s' h => by
    unfold whF
    rw [dif_neg h]
  cases ht : t ρ s with
  | bad =>
    rw [bnd_bad ht]
    refine bads ρ s fun ⟨n, h⟩ => h ?_
    cases n with
    | zero => rfl
    | succ n => rw [key n, bnd_bad ht]
  | ok b s1 =>
    rw [bnd_ok ht]
    cases b with
    | false =>
      have h1 : whN 1 t f ρ s = .ok (.nx ρ) s1 := by rw [key 0, bnd_ok ht]; rfl
      rw [whF_of 1 (by rw [h1]; exact fun z => nomatch z), h1]
      rfl
    | true =>
      rw [if_pos rfl]
      cases hf : f ρ s1 with
      | bad =>
        rw [bnd_bad hf]
        refine bads ρ s fun ⟨n, h⟩ => h ?_
        cases n with
        | zero => rfl
        | succ n => rw [key n, bnd_ok ht, if_pos rfl, bnd_bad hf]
      | ok r s2 =>
        rw [bnd_ok hf]
        have step : ∀ n, whN (n + 1) t f ρ s = (match r with
          | .nx ρ' => whN n t f ρ'
          | .ct ρ' => whN n t f ρ'
          | .bk ρ' => ret (.nx ρ')
          | .rt d => ret (.rt d)) s2 := fun n => by rw [key n, bnd_ok ht, if_pos rfl, bnd_ok hf]
        have go : ∀ ρ', (∀ n, whN (n + 1) t f ρ s = whN n t f ρ' s2) → whF t f ρ s = whF t f ρ' s2 := fun ρ' hst => by
          by_cases hx : ∃ n, whN n t f ρ' s2 ≠ .bad
          · obtain ⟨n, hn⟩ := hx
            rw [whF_of (n + 1) (by rw [hst n]; exact hn), hst n, whF_of n hn]
          · rw [bads ρ' s2 hx]
            refine bads ρ s fun ⟨n, h⟩ => ?_
            cases n with
            | zero => exact h rfl
            | succ n => exact hx ⟨n, by rw [← hst n]; exact h⟩
        cases r with
        | nx ρ' => exact go ρ' step
        | ct ρ' => exact go ρ' step
        | bk ρ' =>
          rw [whF_of 1 (by rw [step 0]; exact fun z => nomatch z), step 0]
        | rt d =>
          rw [whF_of 1 (by rw [step 0]; exact fun z => nomatch z), step 0]
end
end CW

end
section
set_option maxRecDepth 100000
set_option maxHeartbeats 2000000
/-! CW, eighth part: what is walked; for; comprehensions. -/
namespace CW
open PySem PySem.Spec PyProof.Rows L2
/-- lists that must stay as they are while they are walked -/
abbrev Gd := List (Nat × List P)
def gok (g : Gd) (s : S) : Prop := ∀ p ∈ g, s[p.1]? = some (some (.lst p.2))
theorem gok_nil (s : S) : gok [] s := fun _ h => nomatch h
def ItOk (K : PySem.W.Frag) (J : It) (W0 : Wd) (H0 : Hp) (xs : List P) (g : Gd) : Prop :=
  ∀ W H s, Ev W0 H0 W H → Abs K W s H → gok g s → ∀ i, (∀ x, xs[i]? = some x → J.go i H ∧ ∀ v H', J.yld i H v H' → Ev W H W H' ∧ PV K W.fr H' v x ∧ Abs K W s H') ∧ (xs.length = i → J.stop i H)
abbrev IF := En → M (List P × Gd)
def SI (C : Cf) (sc : Scope) (N : List Str) (k : Nat) (tg iter : Expr) (m : IF) : Prop :=
  ∀ X, Cok C sc N k X → ∃ t, PI X tg iter t ∧ ∀ σ H W s ρ (R : It → Hp → Prop), ER C.K W H σ ρ → Abs C.K W s H →
    Good (m ρ s) (fun xg s' => ∀ W' H' J, Ev W H W' H' → Abs C.K W' s' H' → ItOk C.K J W' H' xg.1 xg.2 → R J H') → t σ H R
section
variable {C : Cf} {sc : Scope} {N : List Str} {k : Nat} {pos p2 : Pos} {e a b tg iter : Expr} {m ma mb : EF} {es : List Expr} {ms : List EF} {sts : List Stmt} {f : SF}
/-- a list's address, and how it stands for the walk -/
def rowD : D → S → Option (List P × Gd)
  | .p (.lst xs), _ => some (xs, [])
  | .p (.con xs), _ => some (xs, [])
  | .obj n, s => match s[n]? with
    | some (some (.lst xs)) => some (xs, [(n, xs)])
    | _ => none
  | _, _ => none
def RowOk (K : PySem.W.Frag) (a : Addr) (W0 : Wd) (H0 : Hp) (xs : List P) (g : Gd) : Prop := ∀ W H s, Ev W0 H0 W H → Abs K W s H → gok g s → ∃ vs, SqL K H a vs ∧ PVs K W.fr H vs xs
theorem RowOk.more {K : PySem.W.Frag} {a : Addr} {W0 : Wd} {H0 : Hp} {xs : List P} {g g' : Gd} (h : RowOk K a W0 H0 xs g) (hs : ∀ p ∈ g, p ∈ g') : RowOk K a W0 H0 xs g' := fun W H s e A k => h W H s e A fun p hp => k p (hs p hp)
theorem RowOk.up {K : PySem.W.Frag} {a : Addr} {W0 W1 : Wd} {H0 H1 : Hp} {xs : List P} {g : Gd} (h : RowOk K a W0 H0 xs g) (e : Ev W0 H0 W1 H1) : RowOk K a W1 H1 xs g := fun W H s e1 A k => h W H s (e.trans e1) A k
theorem row_go {W : Wd} {H : Hp} {s : S} {v : V} {d : D} {xs : List P} {g : Gd} (r : DV C.K W H v d) (A : Abs C.K W s H) (h : rowD d s = some (xs, g)) : ∃ a, v = .ref a ∧ (∃ vs, SqL C.K H a vs) ∧ RowOk C.K a W H xs g := by
  cases d with
  | obj n =>
    unfold rowD at h
    dsimp only at h
    split at h
    · rename_i ys hs
      cases h
      obtain ⟨a, h4, rfl⟩ := r
      obtain ⟨a', h5, _, vs, h6, h7⟩ := A.ob n _ hs
      rw [h4] at h5
      cases h5
      refine ⟨a, rfl, ⟨vs, SqL.of h6⟩, fun W1 H1 s1 e A1 hg => ?_⟩
      obtain ⟨a', h5, _, us, h8, h9⟩ := A1.ob n _ (hg (n, xs) List.mem_cons_self)
      obtain ⟨q, hq⟩ := e.io
      rw [hq, List.getElem?_append_left (List.getElem?_eq_some_iff.mp h4).1, h4] at h5
      cases h5
      exact ⟨us, SqL.of h8, h9⟩
    · cases h
  | p z =>
    cases r with
    | lst hf hq hr =>
      cases h
      exact ⟨_, rfl, ⟨_, SqL.of hq⟩, fun W1 H1 s1 e A1 hg => ⟨_, SqL.of (e.fk _ _ hf hq), PVs.up e hr⟩⟩
    | con hq hr =>
      cases h
      exact ⟨_, rfl, ⟨_, hq.sql⟩, fun W1 H1 s1 e A1 hg => ⟨_, (e.cs hq).sql, PVs.up e hr⟩⟩
    | _ => cases h
theorem PVs.len_get {K : PySem.W.Frag} {F : Addr → Prop} {H : Hp} {vs : List V} {xs : List P} {i : Nat} {v : V} {x : P} (h : PVs K F H vs xs) (hx : xs[i]? = some x) (hv : vs[i]? = some v) : PV K F H v x := by
  obtain ⟨u, h1, h2⟩ := h.get hx
  rw [hv] at h1
  cases h1
  exact h2
theorem itl_ok {a : Addr} {W : Wd} {H : Hp} {xs : List P} {g : Gd} (h : RowOk C.K a W H xs g) : ItOk C.K (Itl C.K a) W H xs g := fun W1 H1 s1 e A1 hg i => by
  obtain ⟨vs, h1, h2⟩ := h W1 H1 s1 e A1 hg
  refine ⟨fun x hx => ?_, fun hi => ⟨vs, h1, by rw [h2.len]; exact Nat.le_of_eq hi⟩⟩
  obtain ⟨v, h3, h4⟩ := h2.get hx
  refine ⟨⟨vs, v, h1, h3⟩, fun u H' hy => ?_⟩
  obtain ⟨rfl, hu⟩ := hy
  exact ⟨Ev.rfl, h2.len_get hx (hu vs h1), A1⟩
theorem itt_ok {a : Addr} {W : Wd} {H : Hp} {vs : List V} {xs : List P} (h1 : SqT C.K H a vs) (h2 : PVs C.K W.fr H vs xs) : ItOk C.K (Itt C.K a) W H xs [] := fun W1 H1 s1 e A1 hg i => by
  refine ⟨fun x hx => ?_, fun hi => ⟨vs, e.sqt h1, by rw [h2.len]; exact Nat.le_of_eq hi⟩⟩
  obtain ⟨v, h3, h4⟩ := h2.get hx
  refine ⟨⟨vs, v, e.sqt h1, h3⟩, fun u H' hy => ?_⟩
  obtain ⟨rfl, hu⟩ := hy
  exact ⟨Ev.rfl, (PVs.up e h2).len_get hx (hu vs (e.sqt h1)), A1⟩
theorem pi_or {X : Cx} {t u : TI} (h1 : PI X tg iter t) (h2 : PI X tg iter u) : PI X tg iter (fun σ H R => t σ H R ∨ u σ H R) := ⟨fun pins s σ H R I q => by
  rcases q with q | q
  · exact h1.run pins s σ H R I q
  · exact h2.run pins s σ H R I q⟩
/-- over a list or a tuple -/
def rowI (m : EF) : IF := fun ρ => bnd (m ρ) fun d s => match d with
  | .p (.tup xs) => .ok (xs, []) s
  | d => match rowD d s with
    | some r => .ok r s
    | none => .bad
/-- over a list, over a tuple: said which -/
def lstI (m : EF) : IF := fun ρ => bnd (m ρ) fun d s => match rowD d s with
  | some r => .ok r s
  | none => .bad
def tupI (m : EF) : IF := fun ρ => bnd (m ρ) fun d s => match d with
  | .p (.tup xs) => .ok (xs, []) s
  | _ => .bad
theorem i_lst (h : SE C sc N k e m) : SI C sc N k tg e (lstI m) := fun X ok => by
  obtain ⟨t, p, q⟩ := h X ok
  refine ⟨_, pi_list p, fun σ H W s ρ R er A g => ?_⟩
  refine q σ H W s ρ _ er A ((Good.bnd g).mono fun d s1 z W1 H1 v e1 r1 A1 => ?_)
  split at z
  · rename_i r hr
    obtain ⟨xs, gd⟩ := r
    obtain ⟨a, rfl, h1, h2⟩ := row_go r1 A1 hr
    rw [ok.eK]
    exact ⟨a, rfl, h1, z W1 H1 _ e1 A1 (itl_ok h2)⟩
  · exact z.elim
theorem i_tup (h : SE C sc N k e m) : SI C sc N k tg e (tupI m) := fun X ok => by
  obtain ⟨t, p, q⟩ := h X ok
  refine ⟨_, pi_tup p, fun σ H W s ρ R er A g => ?_⟩
  refine q σ H W s ρ _ er A ((Good.bnd g).mono fun d s1 z W1 H1 v e1 r1 A1 => ?_)
  split at z
  · cases r1 with
    | tup h1 h2 =>
      rw [ok.eK]
      exact ⟨_, rfl, ⟨_, h1⟩, z W1 H1 _ e1 A1 (itt_ok h1 h2)⟩
  · exact z.elim
/-- a name that holds a list or a tuple: asked twice, which is no matter -/
theorem i_row (h : SE C sc N k e m) : SI C sc N k tg e (rowI m) := fun X ok => by
  obtain ⟨t, p, q⟩ := i_lst (tg := tg) h X ok
  obtain ⟨t2, p2, q2⟩ := i_tup (tg := tg) h X ok
  refine ⟨_, pi_or p p2, fun σ H W s ρ R er A g => ?_⟩
  have g1 := Good.bnd g
  cases e1 : m ρ s with
  | bad =>
    rw [e1] at g1
    exact g1.elim
  | ok d s1 =>
    rw [e1] at g1
    have left : Good (lstI m ρ s) (fun xg s' => ∀ W' H' J, Ev W H W' H' → Abs C.K W' s' H' → ItOk C.K J W' H' xg.1 xg.2 → R J H') → t σ H R ∨ t2 σ H R := fun z => Or.inl (q σ H W s ρ R er A z)
    have right : Good (tupI m ρ s) (fun xg s' => ∀ W' H' J, Ev W H W' H' → Abs C.K W' s' H' → ItOk C.K J W' H' xg.1 xg.2 → R J H') → t σ H R ∨ t2 σ H R := fun z => Or.inr (q2 σ H W s ρ R er A z)
    unfold lstI at left
    unfold tupI at right
    rw [bnd_ok e1] at left right
    cases d with
    | obj n => exact left g1
    | p z =>
      cases z with
      | tup xs => exact right g1
      | _ => exact left g1
/-! range -/
def ranP (lo : Int) (n : Nat) : List P := (List.range n).map fun i => .int (lo + (i : Nat))
theorem ranP_len (lo : Int) (n : Nat) : (ranP lo n).length = n := by
  unfold ranP
  rw [List.length_map, List.length_range]
theorem itr_ok {lo : Int} {n : Nat} {W : Wd} {H : Hp} : ItOk C.K (Itr lo n) W H (ranP lo n) [] := fun W1 H1 s1 e A1 hg i => by
  refine ⟨fun x hx => ?_, fun hi => by rw [ranP_len] at hi; exact Nat.le_of_eq hi⟩
  have hi : i < n := by
    have z := (List.getElem?_eq_some_iff.mp hx).1
    rw [ranP_len] at z
    exact z
  refine ⟨hi, fun u H' hy => ?_⟩
  obtain ⟨rfl, rfl⟩ := hy
  unfold ranP at hx
  rw [List.getElem?_map, List.getElem?_range hi] at hx
  cases hx
  exact ⟨Ev.rfl, .int _, A1⟩
def r1I (ms : List EF) : IF := fun ρ => bnd (evA ms ρ) fun ds s => match ds with
  | [.p (.int j)] => if -(2 ^ 62) ≤ j ∧ j < 2 ^ 62 then .ok (ranP 0 j.toNat, []) s else .bad
  | _ => .bad
theorem i_r1 (ha : SAs C sc N k [a] ms) (hm : C.mg "range" = none) (hg : GlS sc "range" := by rfl) (hs : ∀ env, starEach [a] env = [(false, eval a env)] := by intro _; rfl) : SI C sc N k tg (.Call (.Name "range" p2) [a] [] pos) (r1I ms) := fun X ok => by
  obtain ⟨t, p, q⟩ := ha X ok
  refine ⟨_, pi_range1 (hg.of ok) (by rw [ok.em]; exact hm) p (hs X.env), fun σ H W s ρ R er A g => ?_⟩
  refine q σ H W s ρ _ er A ((Good.bnd g).mono fun ds s1 z W1 H1 vs e1 r1 A1 => ?_)
  split at z
  · split at z
    · rename_i hb
      obtain ⟨x, rfl, hx⟩ := dvs1 r1
      cases hx
      exact ⟨_, rfl, hb.1, hb.2, z W1 H1 _ e1 A1 itr_ok⟩
    · exact z.elim
  · exact z.elim
def r2I (ms : List EF) : IF := fun ρ => bnd (evA ms ρ) fun ds s => match ds with
  | [.p (.int i), .p (.int j)] => if -(2 ^ 62) ≤ i ∧ i < 2 ^ 62 ∧ -(2 ^ 62) ≤ j ∧ j < 2 ^ 62 then .ok (ranP i (j - i).toNat, []) s else .bad
  | _ => .bad
theorem i_r2 (ha : SAs C sc N k [a, b] ms) (hm : C.mg "range" = none) (hg : GlS sc "range" := by rfl) (hs : ∀ env, starEach [a, b] env = [(false, eval a env), (false, eval b env)] := by intro _; rfl) (hs2 : ∀ env, starEach [b] env = [(false, eval b env)] := by intro _; rfl) :
    SI C sc N k tg (.Call (.Name "range" p2) [a, b] [] pos) (r2I ms) := fun X ok => by
  obtain ⟨t, p, q⟩ := ha X ok
  refine ⟨_, pi_range2 (hg.of ok) (by rw [ok.em]; exact hm) p (hs X.env) (hs2 X.env), fun σ H W s ρ R er A g => ?_⟩
  refine q σ H W s ρ _ er A ((Good.bnd g).mono fun ds s1 z W1 H1 vs e1 r1 A1 => ?_)
  split at z
  · split at z
    · rename_i hb
      obtain ⟨x, y, rfl, hx, hy⟩ := dvs2 r1
      cases hx
      cases hy
      exact ⟨_, _, rfl, hb, z W1 H1 _ e1 A1 itr_ok⟩
    · exact z.elim
  · exact z.elim
/-! enumerate, zip -/
def enuP (xs : List P) : List P := (List.range xs.length).zipWith (fun i x => .tup [.int (i : Nat), x]) xs
theorem enuP_len (xs : List P) : (enuP xs).length = xs.length := by
  unfold enuP
  rw [List.length_zipWith, List.length_range, Nat.min_self]
theorem enuP_get {xs : List P} {i : Nat} {y : P} (h : (enuP xs)[i]? = some y) : ∃ x, xs[i]? = some x ∧ y = .tup [.int (i : Nat), x] := by
  have hi : i < xs.length := by
    have z := (List.getElem?_eq_some_iff.mp h).1
    rw [enuP_len] at z
    exact z
  unfold enuP at h
  rw [List.getElem?_zipWith, List.getElem?_range hi, List.getElem?_eq_getElem hi] at h
  exact ⟨_, List.getElem?_eq_getElem hi, (Option.some.inj h).symm⟩
theorem ite_ok {a : Addr} {W : Wd} {H : Hp} {xs : List P} {g : Gd} (h : RowOk C.K a W H xs g) : ItOk C.K (Ite C.K a) W H (enuP xs) g := fun W1 H1 s1 e A1 hg i => by
  obtain ⟨vs, h1, h2⟩ := h W1 H1 s1 e A1 hg
  refine ⟨fun y hy => ?_, fun hi => ⟨vs, h1, by rw [h2.len]; rw [enuP_len] at hi; exact Nat.le_of_eq hi⟩⟩
  obtain ⟨x, hx, rfl⟩ := enuP_get hy
  obtain ⟨v, h3, h4⟩ := h2.get hx
  refine ⟨⟨vs, v, h1, h3⟩, fun u H' hu => ?_⟩
  obtain ⟨T, w, rfl, hT, rfl, hw⟩ := hu
  have ev : Ev W1 H1 W1 (upd H1 T (.tup [.int (i : Nat), w])) := Ev.new hT
  exact ⟨ev, .tup (SqT.of upd_same) (.cons (.int _) (.cons (PV.up ev (h2.len_get hx (hw vs h1))) .nil)), A1.new hT⟩
def enuI (m : EF) : IF := fun ρ => bnd (m ρ) fun d s => match rowD d s with
  | some r => .ok (enuP r.1, r.2) s
  | none => .bad
theorem i_enu {elts : List Expr} {kk : Nat} {tpos : Pos} (h : SE C sc N k e m) (hm : C.mg "enumerate" = none) (hg : GlS sc "enumerate" := by rfl) (hs : ∀ env, starEach [e] env = [(false, eval e env)] := by intro _; rfl) (hs2 : ∀ env, starEach [e] env = (false, eval e env) :: starEach [] env := by intro _; rfl) :
    SI C sc N k (.Tuple elts kk tpos) (.Call (.Name "enumerate" p2) [e] [] pos) (enuI m) := fun X ok => by
  obtain ⟨t, p, q⟩ := h X ok
  refine ⟨_, pi_enum (hg.of ok) (by rw [ok.em]; exact hm) (pa_cons p pa_nil (hs2 X.env)) (hs X.env), fun σ H W s ρ R er A g => ?_⟩
  refine q σ H W s ρ _ er A ((Good.bnd g).mono fun d s1 z W1 H1 v e1 r1 A1 => ?_)
  split at z
  · rename_i r hr
    obtain ⟨xs, gd⟩ := r
    obtain ⟨a, rfl, ⟨vs, h1⟩, h2⟩ := row_go r1 A1 hr
    rw [ok.eK]
    exact ⟨a, vs, rfl, h1, z W1 H1 _ e1 A1 (ite_ok h2)⟩
  · exact z.elim
def zipP (xs ys : List P) : List P := xs.zipWith (fun x y => .tup [x, y]) ys
theorem itz_ok {a b : Addr} {W : Wd} {H : Hp} {xs ys : List P} {g : Gd} (h : RowOk C.K a W H xs g) (h' : RowOk C.K b W H ys g) : ItOk C.K (Itz C.K a b) W H (zipP xs ys) g := fun W1 H1 s1 e A1 hg i => by
  obtain ⟨vs, h1, h2⟩ := h W1 H1 s1 e A1 hg
  obtain ⟨us, h3, h4⟩ := h' W1 H1 s1 e A1 hg
  refine ⟨fun z hz => ?_, fun hi => ⟨vs, us, h1, h3, ?_⟩⟩
  · obtain ⟨x, y, hx, hy, rfl⟩ : ∃ x y, xs[i]? = some x ∧ ys[i]? = some y ∧ z = .tup [x, y] := by
      unfold zipP at hz
      rw [List.getElem?_zipWith] at hz
      cases e1 : xs[i]? with
      | none =>
        rw [e1] at hz
        cases hz
      | some x =>
        cases e2 : ys[i]? with
        | none =>
          rw [e1, e2] at hz
          cases hz
        | some y =>
          rw [e1, e2] at hz
          exact ⟨x, y, rfl, rfl, (Option.some.inj hz).symm⟩
    obtain ⟨v, g1, g2⟩ := h2.get hx
    obtain ⟨u, g3, g4⟩ := h4.get hy
    refine ⟨⟨vs, us, v, u, h1, h3, g1, g3⟩, fun w H' hw => ?_⟩
    obtain ⟨T, p, q, rfl, hT, rfl, hp, hq⟩ := hw
    have ev : Ev W1 H1 W1 (upd H1 T (.tup [p, q])) := Ev.new hT
    exact ⟨ev, .tup (SqT.of upd_same) (.cons (PV.up ev (h2.len_get hx (hp vs h1))) (.cons (PV.up ev (h4.len_get hy (hq us h3))) .nil)), A1.new hT⟩
  · unfold zipP at hi
    rw [List.length_zipWith] at hi
    rw [h2.len, h4.len]
    omega
def zipI (ma mb : EF) : IF := fun ρ => bnd (ma ρ) fun x => bnd (mb ρ) fun y s => match rowD x s, rowD y s with
  | some r, some q => .ok (zipP r.1 q.1, r.2 ++ q.2) s
  | _, _ => .bad
theorem i_zip {elts : List Expr} {kk : Nat} {tpos : Pos} (h : SE C sc N k a ma) (h' : SE C sc N k b mb) (hm : C.mg "zip" = none) (hg : GlS sc "zip" := by rfl) (hs : ∀ env, starEach [a, b] env = (false, eval a env) :: starEach [b] env := by intro _; rfl)
    (hs2 : ∀ env, starEach [b] env = (false, eval b env) :: starEach [] env := by intro _; rfl) (hp : ∀ env, (backTo pos (starEach [b] env)).any (·.1) = false := by intro _; rfl) :
    SI C sc N k (.Tuple elts kk tpos) (.Call (.Name "zip" p2) [a, b] [] pos) (zipI ma mb) := fun X ok => by
  obtain ⟨t, p, q⟩ := h X ok
  obtain ⟨t', p', q'⟩ := h' X ok
  refine ⟨_, pi_zip (hg.of ok) (by rw [ok.em]; exact hm) (pa_cons p (pa_cons p' pa_nil (hs2 X.env)) (hs X.env)) (hs X.env) (hp X.env), fun σ H W s ρ R er A g => ?_⟩
  refine q σ H W s ρ _ er A ((Good.bnd g).mono fun d s1 z W1 H1 v e1 r1 A1 => ?_)
  refine q' σ H1 W1 s1 ρ _ (er.up e1) A1 ((Good.bnd z).mono fun d' s2 z2 W2 H2 v' e2 r2 A2 => ?_)
  split at z2
  · rename_i r q hr hq
    obtain ⟨xs, gd⟩ := r
    obtain ⟨ys, gd'⟩ := q
    obtain ⟨a, rfl, ⟨vs, h1⟩, h2⟩ := row_go (r1.up e2) A2 hr
    obtain ⟨b, rfl, ⟨us, h3⟩, h4⟩ := row_go r2 A2 hq
    rw [ok.eK]
    exact ⟨a, b, vs, us, rfl, h1, h3, z2 W2 H2 _ (e1.trans e2) A2 (itz_ok (h2.more fun _ h => List.mem_append_left _ h) (h4.more fun _ h => List.mem_append_right _ h))⟩
  · exact z2.elim
/-! ### for -/
open Classical in
noncomputable def forL (g : Gd) (t : GF) (b : SF) : List P → SF
  | [] => fun ρ s => if gok g s then .ok (.nx ρ) s else .bad
  | x :: xs => fun ρ s => if gok g s then bnd (t (.p x) ρ) (fun ρ1 => bnd (b ρ1) fun r => match r with
    | .nx ρ' => forL g t b xs ρ'
    | .ct ρ' => forL g t b xs ρ'
    | .bk ρ' => ret (.nx ρ')
    | .rt d => ret (.rt d)) s else .bad
noncomputable def forF (i : IF) (t : GF) (b : SF) : SF := fun ρ => bnd (i ρ) fun xg => forL xg.2 t b xg.1 ρ
theorem x_for {i : IF} {t : GF} {pl : List Nat} (hi : SI C sc N k tg iter i) (hg : SG C sc N k tg t pl) (hb : SB C sc N k sts f) (hs : ∀ env x, foldedSetIterable iter env x = pure x := by intro _ _; rfl) : SS C sc N k (.For tg iter sts [] pos) (forF i t f) := fun X ok => by
  obtain ⟨ti, p, q⟩ := hi X ok.toCok
  obtain ⟨tt, p', q'⟩ := hg X ok.toCok
  obtain ⟨tb, p2, q2⟩ := hb X ok
  refine ⟨_, ps_for ok.po ok.calm p p' p2 (hs X.env), fun D σ H W s ρ er A g => ?_⟩
  refine q σ H W s ρ _ er A ((Good.bnd g).mono fun xg s1 z W1 H1 J e1 A1 io => ?_)
  obtain ⟨xs, gd⟩ := xg
  refine ⟨fun i m σ' H' => ∃ W' s' ρ', Ev W1 H1 W' H' ∧ ER C.K W' H' σ' ρ' ∧ Abs C.K W' s' H' ∧ i + m = xs.length ∧ Good (forL gd t f (xs.drop i) ρ' s') (PoF C.K W' H' D), ⟨xs.length, W1, s1, ρ, Ev.rfl, er.up e1, A1, by simp, Good.mono z fun _ _ w => w.up e1⟩, ?_⟩
  rintro i m σ2 H2 ⟨W2, s2, ρ2, e2, er2, A2, hm, g2⟩
  by_cases hi : i < xs.length
  · rw [List.drop_eq_getElem_cons hi] at g2
    unfold forL at g2
    split at g2
    · rename_i gk
      obtain ⟨hgo, hy⟩ := (io W2 H2 s2 e2 A2 gk i).1 xs[i] (List.getElem?_eq_getElem hi)
      refine Or.inr ⟨hgo, fun σ' H' => ∃ W' s' ρ', Ev W1 H1 W' H' ∧ ER C.K W' H' σ' ρ' ∧ Abs C.K W' s' H' ∧ Good (forL gd t f (xs.drop (i + 1)) ρ' s') (PoF C.K W' H' D), ?_, fun v H3 hv => ?_⟩
      · rintro σ' H' ⟨W', s', ρ', a1, a2, a3, a4⟩
        exact ⟨m - 1, by omega, W', s', ρ', a1, a2, a3, by omega, a4⟩
      · obtain ⟨e3, r3, A3⟩ := hy v H3 hv
        refine q' v _ σ2 H3 W2 s2 ρ2 _ (show DV C.K W2 H3 v (.p xs[i]) from r3) (er2.up e3) A3 ((Good.bnd g2).mono fun ρ1 s4 z4 W4 H4 σ4 e4 er4 A4 _ => ?_)
        refine q2 _ σ4 H4 W4 s4 ρ1 er4 A4 ((Good.bnd z4).mono fun r s5 z5 => ?_)
        have e34 := e3.trans e4
        cases r with
        | nx ρ' => exact fun W5 H5 σ5 e5 er5 A5 => ⟨W5, s5, ρ', (e2.trans e34).trans e5, er5, A5, Good.mono z5 fun _ _ w => w.up (e34.trans e5)⟩
        | ct ρ' => exact fun W5 H5 σ5 e5 er5 A5 => ⟨W5, s5, ρ', (e2.trans e34).trans e5, er5, A5, Good.mono z5 fun _ _ w => w.up (e34.trans e5)⟩
        | bk ρ' => exact fun W5 H5 σ5 e5 er5 A5 => z5 W5 H5 σ5 (e34.trans e5) er5 A5
        | rt d => exact fun W5 H5 v5 e5 r5 A5 => z5 W5 H5 v5 (e34.trans e5) r5 A5
    · exact g2.elim
  · rw [List.drop_eq_nil_of_le (Nat.le_of_not_lt hi)] at g2
    unfold forL at g2
    split at g2
    · rename_i gk
      exact Or.inl ⟨(io W2 H2 s2 e2 A2 gk i).2 (show xs.length = i by omega), g2 W2 H2 σ2 Ev.rfl er2 A2⟩
    · exact g2.elim
end
end CW

end
section
set_option maxRecDepth 100000
set_option maxHeartbeats 2000000
/-! CW, ninth part: comprehensions; slices; defs by their bodies; the end of a law. -/
namespace CW
open PySem PySem.Spec PyProof.Rows L2
section
variable {C : Cf} {sc scope : Scope} {N : List Str} {k : Nat} {pos p2 : Pos} {e a b tg iter elt : Expr} {m ma mb : EF} {es ifs : List Expr} {ms : List EF} {sts : List Stmt} {f : SF}
/-- a list that nobody has seen as yet comes to light -/
theorem own_go {W : Wd} {H : Hp} {s : S} {fr : Bool} {xs : List P} {vs : List V} {Q : VK} {p : Addr} (A : Abs C.K W s H) (hp : H p = some (.lst vs)) (n1 : ¬ W.fr p) (n2 : p ∉ W.io) (n3 : ¬ W.pv p) (r : PVs C.K W.fr H vs xs) (g : Good (mkL fr xs s) (Po C.K W H Q)) : Q (.ref p) H := by
  have there : H p ≠ none := by rw [hp]; exact fun z => nomatch z
  unfold mkL at g
  cases fr with
  | true =>
    rw [if_pos rfl] at g
    have ev : Ev W H (W.keep p) H := ⟨⟨[], by simp [Wd.keep]⟩, fun _ h => Or.inl h, fun _ _ _ h => h, fun _ _ h => h, fun _ _ _ h => h, fun _ h => h, fun _ _ _ h => h⟩
    refine g (W.keep p) H _ ev (PV.lst (Or.inr rfl) hp (PVs.up ev r)) ⟨A.len, A.nd, A.tr, fun a h => ?_, fun n o h => ?_, fun a h => ⟨(A.pd a h).1, fun z => ?_, (A.pd a h).2.2⟩⟩
    · rcases h with h | h
      · exact A.ft a h
      · rw [h]
        exact there
    · obtain ⟨a, h1, h2, h3⟩ := A.ob n o h
      refine ⟨a, h1, fun z => ?_, OV.up ev rfl h3⟩
      rcases z with z | z
      · exact h2 z
      · exact n2 (by rw [← z]; exact List.mem_of_getElem? h1)
    · rcases z with z | z
      · exact (A.pd a h).2.1 z
      · exact n3 (by rw [← z]; exact h)
  | false =>
    rw [if_neg Bool.false_ne_true] at g
    have ev : Ev W H (W.add p) H := ⟨⟨[p], rfl⟩, fun _ h => h, fun _ _ _ h => h, fun _ _ h => h, fun _ _ _ h => h, fun _ h => h, fun _ _ _ h => h⟩
    have at_ : (W.add p).io[s.length]? = some p := by
      show (W.io ++ [p])[s.length]? = some p
      rw [← A.len]
      simp
    refine g (W.add p) H _ ev ⟨p, at_, rfl⟩ ⟨by simp [Wd.add, A.len], ?_, fun a h => ?_, A.ft, fun n o h => ?_, fun a h => ⟨(A.pd a h).1, (A.pd a h).2.1, fun z => ?_⟩⟩
    · refine List.nodup_append.mpr ⟨A.nd, by simp, fun a ha b hb e => ?_⟩
      have hb' : b = p := by simpa using hb
      exact n2 (by rw [← hb', ← e]; exact ha)
    · rcases List.mem_append.mp h with h | h
      · exact A.tr a h
      · have e : a = p := by simpa using h
        rw [e]
        exact there
    · by_cases hn : n < s.length
      · rw [List.getElem?_append_left hn] at h
        obtain ⟨a, h1, h2, h3⟩ := A.ob n o h
        refine ⟨a, ?_, h2, OV.up ev rfl h3⟩
        show (W.io ++ [p])[n]? = some a
        rw [List.getElem?_append_left (by rw [A.len]; exact hn)]
        exact h1
      · have hn2 : n = s.length := by
          have h4 := (List.getElem?_eq_some_iff.mp h).1
          simp at h4
          omega
        subst hn2
        have hq : o = .lst xs := by
          simp at h
          exact h.symm
        subst hq
        exact ⟨p, at_, n1, vs, hp, PVs.up ev r⟩
    · rcases List.mem_append.mp z with z | z
      · exact (A.pd a h).2.2 z
      · have e : a = p := by simpa using z
        exact n3 (by rw [← e]; exact h)
def wipE (ρ : En) : List Nat → En
  | [] => ρ
  | v :: vs => (wipE ρ vs).set v none
theorem ER.wip {K : PySem.W.Frag} {W : Wd} {H : Hp} {σ : L2.St} {ρ : En} (h : ER K W H σ ρ) : ∀ vs : List Nat, ER K W H (L2.wipe σ vs) (wipE ρ vs)
  | [] => h
  | v :: vs => ER.wipe (ER.wip h vs) v
theorem wipe_get {σ : L2.St} {j : Nat} : ∀ {vs : List Nat}, (L2.wipe σ vs)[j]? = if j ∈ vs ∧ j < σ.length then some none else σ[j]?
  | [] => by
    rw [if_neg (by simp)]
    rfl
  | v :: vs => by
    have ih := wipe_get (σ := σ) (j := j) (vs := vs)
    show ((L2.wipe σ vs).set v none)[j]? = _
    by_cases hv : v = j
    · subst hv
      by_cases hl : v < σ.length
      · rw [List.getElem?_set_self (by rw [wipe_length]; exact hl), if_pos ⟨List.mem_cons_self, hl⟩]
      · rw [List.getElem?_eq_none (by rw [List.length_set, wipe_length]; omega), if_neg fun z => hl z.2, List.getElem?_eq_none (by omega)]
    · rw [List.getElem?_set_ne hv, ih]
      have e : (j ∈ v :: vs ∧ j < σ.length) = (j ∈ vs ∧ j < σ.length) := by
        rw [List.mem_cons]
        apply propext
        constructor
        · rintro ⟨h | h, h2⟩
          · exact absurd h.symm hv
          · exact ⟨h, h2⟩
        · rintro ⟨h, h2⟩
          exact ⟨Or.inr h, h2⟩
      simp only [e]
theorem wipe_agr {σ σ2 : L2.St} {pl vs : List Nat} (h : Agr pl (L2.wipe σ vs) σ2) (hs : ∀ i ∈ pl, i ∈ vs) : L2.wipe σ2 vs = L2.wipe σ vs := by
  apply List.ext_getElem?
  intro j
  have hl : σ2.length = σ.length := by rw [h.1, wipe_length]
  rw [wipe_get, wipe_get, hl]
  split
  · rfl
  · rename_i hj
    by_cases hm : j ∈ pl
    · have hv := hs j hm
      have hge : ¬ j < σ.length := fun z => hj ⟨hv, z⟩
      rw [List.getElem?_eq_none (by omega), List.getElem?_eq_none (by omega)]
    · rw [h.2 j hm, wipe_get, if_neg hj]
open Classical in
noncomputable def lcL (own : List Nat) (g : Gd) (t : GF) (c : TF) (m : EF) (ρ : En) : List P → M (List P)
  | [] => fun s => if gok g s then .ok [] s else .bad
  | x :: xs => fun s => if gok g s then bnd (t (.p x) (wipE ρ own)) (fun ρ1 => bnd (c ρ1) fun b => if b = true then bnd (m ρ1) (fun d => match d with
      | .p y => bnd (lcL own g t c m ρ xs) fun r => ret (y :: r)
      | .obj _ => bad) else lcL own g t c m ρ xs) s else .bad
noncomputable def lcE (fr : Bool) (i : IF) (own : List Nat) (t : GF) (c : TF) (m : EF) : EF := fun ρ => bnd (i ρ) fun xg s => if xg.1.length ≤ sizeLine then bnd (lcL own xg.2 t c m ρ xg.1) (mkL fr) s else .bad
def yesT : TF := fun _ s => .ok true s
/-- the tests of a comprehension -/
def STs (C : Cf) (sc : Scope) (N : List Str) (k : Nat) (ifs : List Expr) (m : TF) : Prop :=
  ∀ X, Cok C sc N k X → ∃ t, PTs X ifs t ∧ ∀ σ H W s ρ Q, ER C.K W H σ ρ → Abs C.K W s H → Good (m ρ s) (PoT C.K W H Q) → t σ H Q
theorem c_yes : STs C sc N k [] yesT := fun X ok => ⟨_, pts_nil, fun σ H W s ρ Q er A g => g W H Ev.rfl A⟩
theorem c_if {t : TF} (h : ST C sc N k e t) : STs C sc N k [e] t := fun X ok => by
  obtain ⟨u, p, q⟩ := h X ok
  exact ⟨_, pts_one p, q⟩
abbrev Bx := Shared × Hp × Addr × List (Str × Addr) × List Addr
abbrev inB (X : Cx) (scope : Scope) (i : Bx) : Cx := X.blk i.1 i.2.1 scope (compEnvC scope i.2.2.2.1 i.2.2.1 X.env) i.2.2.2.2
theorem free_relS {sc : Scope} : ∀ {names : List (Str × NameKind)} {x : Str}, names.lookup x = some .free →
    (names.map fun (n, k) => if (k == NameKind.free && sc.kind == .function && sc.names.lookup n == some .cell) then (n, NameKind.cell) else (n, k)).lookup x = some .cell ∨
    (names.map fun (n, k) => if (k == NameKind.free && sc.kind == .function && sc.names.lookup n == some .cell) then (n, NameKind.cell) else (n, k)).lookup x = some .free
  | [], _, h => by simp at h
  | (n, k0) :: r, x, h => by
    have ih := @free_relS sc r x
    rw [List.map_cons]
    cases hx : x == n with
    | true =>
      simp only [List.lookup_cons, hx] at h
      cases h
      dsimp only
      split
      · exact Or.inl (by simp only [List.lookup_cons, hx])
      · exact Or.inr (by simp only [List.lookup_cons, hx])
    | false =>
      simp only [List.lookup_cons, hx] at h
      dsimp only
      split
      · simp only [List.lookup_cons, hx]
        exact ih h
      · simp only [List.lookup_cons, hx]
        exact ih h
theorem blk_lik {es : Scope} {own : List (Str × Nat)} (h : BlkOk N sc scope own) (l : Lik sc es) : BlkOk N es scope own :=
  ⟨h.kind, h.uniq, h.ix, fun y hy e => by
    rcases h.free y hy e with z | z
    · exact Or.inl (l.cel _ z)
    · exact l.fre _ z, h.own⟩
theorem blk_ok {X : Cx} (ok : Cok C sc N k X) (i : Bx) : Cok C scope N k (inB X scope i) where
  pr := ok.pr
  ew := ok.ew
  eK := ok.eK
  em := ok.em
  eb := ok.eb
  calm := ok.calm
  rm := ok.rm
  gd := ok.gd
  nN := ok.nN
  nd := ok.nd
  eL := {
    loc := fun x h => lookup_relS_keep (by decide) h
    cel := fun x h => lookup_relS_keep (by decide) h
    fre := fun x h => free_relS h
    glo := fun x h => lookup_relS_keep (by decide) h }
  po := PassesOwn.never
  fc := fun x h => by
    show (scope.names.lookup x == some .cell) = true
    rw [h]
    rfl
theorem uni_e {X : Cx} (ok : Cok C sc N k X) (h : SE C scope N k e m) : ∃ t, (∀ i, PE (inB X scope i) e t) ∧ ∀ σ H W s ρ Q, ER C.K W H σ ρ → Abs C.K W s H → Good (m ρ s) (Po C.K W H Q) → t σ H Q := by
  have hb := fun i => h (inB X scope i) (blk_ok ok i)
  exact ⟨fun σ H Q => ∀ i, Classical.choose (hb i) σ H Q, fun i => ⟨fun pins s σ H Q I w => (Classical.choose_spec (hb i)).1.run pins s σ H Q I (w i)⟩, fun σ H W s ρ Q er A g i => (Classical.choose_spec (hb i)).2 σ H W s ρ Q er A g⟩
theorem uni_t {X : Cx} {c : TF} (ok : Cok C sc N k X) (h : STs C scope N k ifs c) : ∃ t, (∀ i, PTs (inB X scope i) ifs t) ∧ ∀ σ H W s ρ Q, ER C.K W H σ ρ → Abs C.K W s H → Good (c ρ s) (PoT C.K W H Q) → t σ H Q := by
  have hb := fun i => h (inB X scope i) (blk_ok ok i)
  exact ⟨fun σ H Q => ∀ i, Classical.choose (hb i) σ H Q, fun i => ⟨fun pins s σ H Q I w => (Classical.choose_spec (hb i)).1.run pins s σ H Q I (w i)⟩, fun σ H W s ρ Q er A g i => (Classical.choose_spec (hb i)).2 σ H W s ρ Q er A g⟩
theorem uni_g {X : Cx} {g : GF} {pl : List Nat} (ok : Cok C sc N k X) (h : SG C scope N k tg g pl) : ∃ t, (∀ i, PG (inB X scope i) tg t) ∧ ∀ v d σ H W s ρ Q, DV C.K W H v d → ER C.K W H σ ρ → Abs C.K W s H → Good (g d ρ s) (PoG C.K W H pl σ Q) → t v σ H Q := by
  have hb := fun i => h (inB X scope i) (blk_ok ok i)
  exact ⟨fun v σ H Q => ∀ i, Classical.choose (hb i) v σ H Q, fun i => ⟨fun pins s σ H v u Q I r w => (Classical.choose_spec (hb i)).1.run pins s σ H v u Q I r (w i)⟩, fun v d σ H W s ρ Q r er A g i => (Classical.choose_spec (hb i)).2 v d σ H W s ρ Q r er A g⟩
theorem upd_id {H : Hp} {p : Addr} {o : HO} (h : H p = some o) : upd H p o = H := by
  funext b
  by_cases e : b = p
  · rw [e, upd_same, h]
  · rw [upd_ne e]
theorem lc_go {i : IF} {own : List Nat} {pl : List Nat} {t : GF} {c : TF} {fr : Bool} {ti : TI} {tt : TG} {tc : TT} {te : TE} {σ : L2.St} {H : Hp} {W : Wd} {s : S} {ρ : En} {Q : VK}
    (q : ∀ σ H W s ρ (R : It → Hp → Prop), ER C.K W H σ ρ → Abs C.K W s H → Good (i ρ s) (fun xg s' => ∀ W' H' J, Ev W H W' H' → Abs C.K W' s' H' → ItOk C.K J W' H' xg.1 xg.2 → R J H') → ti σ H R)
    (q1 : ∀ v d σ H W s ρ Q, DV C.K W H v d → ER C.K W H σ ρ → Abs C.K W s H → Good (t d ρ s) (PoG C.K W H pl σ Q) → tt v σ H Q) (hpl : ∀ i ∈ pl, i ∈ own)
    (q2 : ∀ σ H W s ρ Q, ER C.K W H σ ρ → Abs C.K W s H → Good (c ρ s) (PoT C.K W H Q) → tc σ H Q) (q3 : ∀ σ H W s ρ Q, ER C.K W H σ ρ → Abs C.K W s H → Good (m ρ s) (Po C.K W H Q) → te σ H Q)
    (er : ER C.K W H σ ρ) (A : Abs C.K W s H) (g : Good (lcE fr i own t c m ρ s) (Po C.K W H Q)) : tLc ti tt tc te own σ H Q := by
  refine q σ H W s ρ _ er A ((Good.bnd g).mono fun xg s1 z W1 H1 J e1 A1 io => ?_)
  obtain ⟨xs, gd⟩ := xg
  have z : Good (if xs.length ≤ sizeLine then bnd (lcL own gd t c m ρ xs) (mkL fr) s1 else .bad) (Po C.K W H Q) := z
  split at z
  · rename_i hsz
    intro D hD
    have io : ItOk C.K J W1 H1 xs gd := io
    have nD1 : ¬ W1.fr D := fun z => A1.ft D z hD
    have nD2 : D ∉ W1.io := fun z => A1.tr D z hD
    have nD3 : ¬ W1.pv D := fun z => (A1.pd D z).1 hD
    refine ⟨fun i m' H' => ∃ W' s' acc ys, Ev W1 H1 W' H' ∧ ¬ W'.fr D ∧ D ∉ W'.io ∧ ¬ W'.pv D ∧ H' D = some (.lst acc) ∧ PVs C.K W'.fr H' acc ys ∧ Abs C.K W' s' H' ∧ i + m' = xs.length ∧ ys.length ≤ i ∧
      Good (lcL own gd t c m ρ (xs.drop i) s') (fun r s2 => Good (mkL fr (ys ++ r) s2) (Po C.K W' H' Q)), ⟨xs.length, W1, s1, [], [], Ev.new hD, nD1, nD2, nD3, upd_same, .nil, A1.new hD, by simp, Nat.le_refl _, ?_⟩, ?_⟩
    · exact (Good.bnd z).mono fun r s2 w => Good.mono w fun _ _ w2 => w2.up (e1.trans (Ev.new hD))
    rintro i m' H2 ⟨W2, s2, acc, ys, e2, f1, f2, f3, hd, ra, A2, hm, hy, g2⟩
    have hid : Ev W2 H2 (W2.hide D) H2 := Ev.hide
    have Ah : Abs C.K (W2.hide D) s2 H2 := A2.hide (by rw [hd]; exact fun z => nomatch z) f1 f2
    by_cases hi : i < xs.length
    · rw [List.drop_eq_getElem_cons hi] at g2
      unfold lcL at g2
      split at g2
      · rename_i gk
        obtain ⟨hgo, hyl⟩ := (io (W2.hide D) H2 s2 (e2.trans hid) Ah gk i).1 xs[i] (List.getElem?_eq_getElem hi)
        refine Or.inr ⟨hgo, fun H' => ∃ W' s' acc ys, Ev W1 H1 W' H' ∧ ¬ W'.fr D ∧ D ∉ W'.io ∧ ¬ W'.pv D ∧ H' D = some (.lst acc) ∧ PVs C.K W'.fr H' acc ys ∧ Abs C.K W' s' H' ∧ ys.length ≤ i + 1 ∧
          Good (lcL own gd t c m ρ (xs.drop (i + 1)) s') (fun r s2 => Good (mkL fr (ys ++ r) s2) (Po C.K W' H' Q)), ?_, fun v H3 hv => ?_⟩
        · rintro H' ⟨W', s', acc', ys', b1, b2, b3, b4, b5, b6, b7, b8, b9⟩
          exact ⟨m' - 1, by omega, W', s', acc', ys', b1, b2, b3, b4, b5, b6, b7, by omega, b8, b9⟩
        · obtain ⟨e3, r3, A3⟩ := hyl v H3 hv
          have er3 : ER C.K (W2.hide D) H3 (L2.wipe σ own) (wipE ρ own) := ER.wip (er.up (e1.trans (e2.trans (hid.trans e3)))) own
          refine q1 v _ _ H3 _ s2 _ _ (show DV C.K (W2.hide D) H3 v (.p xs[i]) from r3) er3 A3 ((Good.bnd g2).mono fun ρ1 s4 z4 W4 H4 σ4 e4 er4 A4 ag => ?_)
          refine ⟨wipe_agr ag hpl, q2 σ4 H4 W4 s4 ρ1 _ er4 A4 ((Good.bnd z4).mono fun bb s5 z5 W5 H5 e5 A5 => ?_)⟩
          cases bb with
          | true =>
            rw [if_pos rfl] at z5
            refine iteT (q3 σ4 H5 W5 s5 ρ1 _ (er4.up e5) A5 ((Good.bnd z5).mono fun d s6 z6 W6 H6 y e6 r6 A6 => ?_))
            have e36 : Ev (W2.hide D) H2 W6 H6 := e3.trans (e4.trans (e5.trans e6))
            have hd6 : H6 D = some (.lst acc) := e36.pk D _ (Or.inr rfl) hd
            have pp : W6.pv D := e36.pv D (Or.inr rfl)
            cases d with
            | obj n => exact z6.elim
            | p y' =>
              have hal : acc.length < sizeLine := by rw [ra.len]; omega
              have ev : Ev W2 H2 (W6.show D) (upd H6 D (.lst (acc ++ [y]))) := Ev.grow e36 f3 A6 ⟨acc, hd6⟩
              obtain ⟨ev6, A7⟩ := Abs.grow (u := .lst (acc ++ [y])) A6 pp ⟨acc, hd6⟩
              have r6' : PV C.K (W6.show D).fr H6 y y' := r6
              refine ⟨acc, hd6, hal, W6.show D, s6, acc ++ [y], ys ++ [y'], e2.trans ev, (A6.pd D pp).2.1, (A6.pd D pp).2.2, fun z => z.2 rfl, upd_same, (PVs.up ev ra).app (.cons (PV.up ev6 r6') .nil), A7, by rw [List.length_append]; simp only [List.length_singleton]; omega, ?_⟩
              refine (Good.bnd z6).mono fun r s7 w => ?_
              rw [List.append_assoc]
              exact Good.mono w fun _ _ w2 => w2.up ev
          | false =>
            rw [if_neg Bool.false_ne_true] at z5
            refine iteF ?_
            have e35 : Ev (W2.hide D) H2 W5 H5 := e3.trans (e4.trans e5)
            have hd5 : H5 D = some (.lst acc) := e35.pk D _ (Or.inr rfl) hd
            have pp : W5.pv D := e35.pv D (Or.inr rfl)
            have ev : Ev W2 H2 (W5.show D) (upd H5 D (.lst acc)) := Ev.grow e35 f3 A5 ⟨acc, hd5⟩
            obtain ⟨ev5, A7⟩ := Abs.grow (u := .lst acc) A5 pp ⟨acc, hd5⟩
            rw [upd_id hd5] at ev A7
            exact ⟨W5.show D, s5, acc, ys, e2.trans ev, (A5.pd D pp).2.1, (A5.pd D pp).2.2, fun z => z.2 rfl, hd5, PVs.up ev ra, A7, by omega, Good.mono z5 fun _ _ w => Good.mono w fun _ _ w2 => w2.up ev⟩
      · exact g2.elim
    · rw [List.drop_eq_nil_of_le (Nat.le_of_not_lt hi)] at g2
      unfold lcL at g2
      split at g2
      · rename_i gk
        have g3 : Good (mkL fr (ys ++ []) s2) (Po C.K W2 H2 Q) := g2
        rw [List.append_nil] at g3
        exact Or.inl ⟨(io W2 H2 s2 e2 A2 gk i).2 (show xs.length = i by omega), own_go A2 hd f1 f2 f3 ra g3⟩
      · exact g2.elim
  · exact z.elim
theorem s_lc (fr : Bool) (own : List (Str × Nat)) {i : IF} {t : GF} {c : TF} {pl : List Nat} (hi : SI C sc N k tg iter i) (hg : SG C scope N k tg t pl) (ht : STs C scope N k ifs c) (he : SE C scope N k elt m) (hpl : ∀ i ∈ pl, i ∈ own.map (·.2) := by decide)
    (bk : blkC N sc scope own = true := by decide +kernel) (hs : ∀ env x, foldedSetIterable iter env x = pure x := by intro _ _; rfl) : SE C sc N k (.ListComp elt [⟨tg, iter, ifs, 0⟩] scope pos) (lcE fr i (own.map (·.2)) t c m) := fun X ok => by
  obtain ⟨ti, p, q⟩ := hi X ok
  obtain ⟨tt, p1, q1⟩ := uni_g ok hg
  obtain ⟨tc, p2, q2⟩ := uni_t ok ht
  obtain ⟨te, p3, q3⟩ := uni_e ok he
  refine ⟨_, pe_lc ok.calm (by rw [ok.nN]; exact ok.nd) p (by rw [ok.nN]; exact blk_lik (blkOk_by bk) ok.eL) (fun s H C cl fp => p1 (s, H, C, cl, fp)) (fun s H C cl fp => p2 (s, H, C, cl, fp)) (fun s H C cl fp => p3 (s, H, C, cl, fp)) (hs X.env), fun σ H W s ρ Q er A g => ?_⟩
  exact lc_go q q1 hpl q2 q3 er A g
/-- y = [..] on one line -/
theorem x_lc (j : Nat) (fr : Bool) (own : List (Str × Nat)) {y : Str} {py spos : Pos} {i : IF} {t : GF} {c : TF} {pl : List Nat} (hi : SI C sc N k tg iter i) (hg : SG C scope N k tg t pl) (ht : STs C scope N k ifs c) (he : SE C scope N k elt m) (hy : N[j]? = some y := by rfl)
    (hyl : sc.names.lookup y = some .local := by rfl) (hk : sc.kind = .function := by rfl) (hl : (py.line == pos.line) = true := by rfl) (hn : (scope.names.any fun (n, k) => n == y && (k == .local || k == .cell)) = false := by decide +kernel)
    (hpl : ∀ i ∈ pl, i ∈ own.map (·.2) := by decide) (bk : blkC N sc scope own = true := by decide +kernel) (hs : ∀ env x, foldedSetIterable iter env x = pure x := by intro _ _; rfl) :
    SS C sc N k (.Assign [.Name y py] (.ListComp elt [⟨tg, iter, ifs, 0⟩] scope pos) spos) (asgF (lcE fr i (own.map (·.2)) t c m) (setG j)) := fun X ok => by
  obtain ⟨ti, p, q⟩ := hi X ok.toCok
  obtain ⟨tt, p1, q1⟩ := uni_g ok.toCok hg
  obtain ⟨tc, p2, q2⟩ := uni_t ok.toCok ht
  obtain ⟨te, p3, q3⟩ := uni_e ok.toCok he
  refine ⟨_, ps_setLc (i := j) ok.calm (by rw [ok.nN]; exact ok.nd) (by rw [ok.nN]; exact hy) (by rw [ok.eS]; exact hyl) (sw_true (by rw [ok.eS]; exact hk) (by rw [ok.eS]; exact hyl) hl hn) p (by rw [ok.nN]; exact blk_lik (blkOk_by bk) ok.eL) (fun s H C cl fp => p1 (s, H, C, cl, fp)) (fun s H C cl fp => p2 (s, H, C, cl, fp))
    (fun s H C cl fp => p3 (s, H, C, cl, fp)) (hs X.env), fun D σ H W s ρ er A g => ?_⟩
  refine lc_go q q1 hpl q2 q3 er A ((Good.bnd g).mono fun d s1 z W1 H1 v e1 r1 A1 => ?_)
  exact z W1 H1 _ e1 ((er.up e1).put r1 j) A1
/-! ### a def by its body -/
open Classical in
/-- what is left of the state behind a def -/
noncomputable def fin (s : S) : D → M D
  | .p x, s' => if Keeps s s' then .ok (.p x) (s'.take s.length) else .bad
  | .obj n, s' => if n < s.length then (if Keeps s s' then .ok (.obj n) (s'.take s.length) else .bad) else .ok (.obj n) s'
noncomputable def defM (n nl : Nat) (m : SF) : List D → M D := fun ds s => if ds.length = n then (match m (ds.map some ++ List.replicate (nl - n) none) s with
  | .ok (.rt d) s' => fin s d s'
  | .ok (.nx _) s' => fin s (.p .non) s'
  | _ => .bad) else .bad
open Classical in
theorem fin_go {W W' : Wd} {H H' : Hp} {s s' : S} {d : D} {v : V} {Q : VK} (A : Abs C.K W s H) (e : Ev W H W' H') (r : DV C.K W' H' v d) (A' : Abs C.K W' s' H') (g : Good (fin s d s') (Po C.K W H Q)) : Q v H' := by
  cases d with
  | p x =>
    have g : Good (if Keeps s s' then .ok (.p x) (s'.take s.length) else .bad) (Po C.K W H Q) := g
    by_cases hk : Keeps s s'
    · rw [if_pos hk] at g
      exact g _ H' v e.cut (show DV C.K ⟨W.io, W'.fr, W'.pv⟩ H' v (.p x) from r) (A.cut e A' hk)
    · rw [if_neg hk] at g
      exact g.elim
  | obj n =>
    have g : Good (if n < s.length then (if Keeps s s' then .ok (.obj n) (s'.take s.length) else .bad) else .ok (.obj n) s') (Po C.K W H Q) := g
    by_cases hn : n < s.length
    · rw [if_pos hn] at g
      by_cases hk : Keeps s s'
      · rw [if_pos hk] at g
        obtain ⟨q, hq⟩ := e.io
        refine g _ H' v e.cut (DV.old (n := 0) r hq fun m hm => ?_) (A.cut e A' hk)
        cases hm
        rw [A.len]
        exact hn
      · rw [if_neg hk] at g
        exact g.elim
    · rw [if_neg hn] at g
      exact g W' H' v e r A'
theorem start_er {W : Wd} {H : Hp} {vs : List V} {ds : List D} {n : Nat} (r : DVs C.K W H vs ds) (hl : vs.length = n) : ER C.K W H (L2.start N vs) (ds.map some ++ List.replicate (N.length - n) none) := by
  have h1 := Paired.length r
  unfold L2.start
  refine ⟨by simp only [List.length_append, List.length_map, List.length_replicate, h1, ← hl], fun i d hd => ?_⟩
  by_cases hi : i < ds.length
  · rw [List.getElem?_append_left (by simpa using hi), List.getElem?_map, List.getElem?_eq_getElem hi] at hd
    have hd' : ds[i] = d := Option.some.inj (Option.some.inj hd)
    rw [List.getElem?_append_left (by rw [List.length_map]; omega), List.getElem?_map]
    have key : ∀ {vs : List V} {ds : List D} {i : Nat} {d : D}, DVs C.K W H vs ds → ds[i]? = some d → ∃ v, vs[i]? = some v ∧ DV C.K W H v d := by
      intro vs ds i d hr
      induction hr generalizing i with
      | nil => intro z; simp at z
      | cons hh _ ih =>
        intro z
        cases i with
        | zero =>
          simp at z
          subst z
          exact ⟨_, rfl, hh⟩
        | succ i =>
          obtain ⟨v, a1, a2⟩ := ih (by simpa using z)
          exact ⟨v, by simpa using a1, a2⟩
    obtain ⟨v, a1, a2⟩ := key r (List.getElem?_eq_getElem hi)
    exact ⟨v, by rw [a1]; rfl, by rw [← hd']; exact a2⟩
  · rw [List.getElem?_append_right (by simpa using Nat.le_of_not_lt hi), List.getElem?_replicate] at hd
    split at hd <;> cases hd
theorem fn_body {x qual : Str} {st : Stmt} {f : Addr} {fd : FuncData} {ps : List Str} {m : SF} (F : Fun C.K x qual st f fd) (Sc : FnScope N ps (defScope st)) (hb : SB C (defScope st) N k (defBody st) m) : Fn C (k + 1) f fd ps (spM C.K ps.length (defM ps.length N.length m)) := by
  obtain ⟨oc, od, kV, doc, pm, an, cdv, ct, osl, rfl, lk, hcd⟩ := F.ex
  refine ⟨fun vs H Q E h => h.1, fun A outer s H args us vs Q E hr hgd e0 bd r hsp => ?_⟩
  have hl : vs.length = ps.length := hsp.1
  have kin : C.K.In s.heap := e0.mod.kin.keeps fun b o e => (e0.bs b o e).1
  have lim : s.heap.NoLimit := e0.mod.nolimit.keeps fun b o e => (e0.bs b o e).1
  refine codeAny_call_function hr.depth (kin _ _ lk) rfl Sc.co Sc.gen rfl (PySem.W.codeRec_of kin hcd) (bd _ _ _ _ ?_)
  refine wpAny_newFunctionEnv_cells Sc.kind (fun y hy => ?_) fun env he s1 ic => ?_
  · rcases Sc.par y.1 (List.of_mem_zip (show (y.1, y.2) ∈ ps.zip us from hy)).1 with q | q
    · exact Or.inl q
    · exact Or.inr ⟨q, PySem.W.cellsFrom_some _ _ _ (Or.inl q)⟩
  · subst he
    refine ⟨lim.keeps ic.toInCall.keep, codeAny_func ?_⟩
    have I : Inv (cxOf CX0 C.pg C.w C.K C.mg C.base N qual (defScope st) f cdv A outer s H E) [] (L2.start N vs) H s1 := inv_start Sc hr.hd e0 hl r ic
    have cod : Cod C (defScope st) N k (cxOf CX0 C.pg C.w C.K C.mg C.base N qual (defScope st) f cdv A outer s H E).nox :=
      { pr := rfl, ew := rfl, eK := rfl, em := rfl, eb := rfl, calm := rfl, rm := hr.deeper _, gd := hgd, nN := rfl, nd := Sc.nd, eL := Lik.rfl, po := PassesOwn.never, fc := fun _ _ => rfl, eS := rfl }
    obtain ⟨t, p, q⟩ := hb _ cod
    obtain ⟨_, W, s0, ds, rd, A0, g⟩ := hsp
    have hds : ds.length = ps.length := by rw [← Paired.length rd]; exact hl
    unfold defM at g
    rw [if_pos hds] at g
    have end_ : ∀ {d : D} {s' : S}, Good (fin s0 d s') (Po C.K W H Q) → Po C.K W H Q d s' := fun {d s'} h W' H' v e rv A' => fin_go A0 e rv A' h
    have run := q { nx := fun _ H' => Q .non H', rt := Q } (L2.start N vs) H W s0 _ (start_er rd hl) A0 (by
      cases e : m (ds.map some ++ List.replicate (N.length - ps.length) none) s0 with
      | bad =>
        rw [e] at g
        exact g
      | ok fl s' =>
        rw [e] at g
        cases fl with
        | rt d => exact end_ g
        | nx ρ => exact fun W' H' σ' ev er A' => end_ (d := .p .non) g W' H' .non ev PV.non A'
        | bk ρ => exact g.elim
        | ct ρ => exact g.elim)
    refine wpAny_mono (p.nox.run [] s1 (L2.start N vs) H _ I run) (fun fl s' hs => ?_) fun e s' hs => hs
    have done : ∀ {σ' : L2.St} {H' : Hp} {v : V} {u : Value}, Inv (cxOf CX0 C.pg C.w C.K C.mg C.base N qual (defScope st) f cdv A outer s H E) [] σ' H' s' → RelV v u → Q v H' → CE outer C.pg C.w H s Q u s' :=
      fun {σ' H' v u} J rv w => ⟨v, H', J.os, J.bare, J.base, J.hok, rv, w⟩
    match fl, hs with
    | .ret u, ⟨v, σ', H', J, rv, w⟩ => exact done J rv w
    | .next, ⟨σ', H', J, w⟩ => exact done (v := V.non) (u := Value.none) J rfl w
    | .brk, ⟨_, _, _, w⟩ => exact False.elim w
    | .cont, ⟨_, _, _, w⟩ => exact False.elim w
end
/-! ### the law's own call -/
section
variable {P₀ : Program} {w : World} {K : PySem.W.Frag} {mg mb : Str → Option Value}
/-- one way that the script may lie -/
theorem law_way {k : Nat} {fa a : Addr} {fd : FuncData} {x : Str} {m : List D → M D} {s1 : Shared} {ns : List Int} {H : Hp} (KX : K.In s1.heap) (hns : s1.heap.Ns mainGlobals mg) (hb : s1.heap.Ns builtinsNs mb) (hbb : ∀ x : Str, x ≠ "__name__" → mb x = bootBuiltins x)
    (hlim : s1.heap.NoLimit) (hg : s1.gens = #[]) (hr : Room k callerA) (F : ∀ base : Heap, Fn ⟨P₀, w, K, mg, base⟩ k fa fd [x] (spM K 1 m)) (hbind : ∀ (s : Shared) (u : Value), BindsTo s fd ⟨[u], []⟩ [(x, u)])
    (hm : ∃ s', m [.p (.con (ns.map P.int))] [] = .ok (.p (.bl true)) s') (hS : CS K H a (ns.map V.int)) (hok : HOk P₀ w H s1.heap) (hH : ∀ b u, H b = some u → ∃ o xs, u = .frz o (.lst xs) ∧ s1.heap.get? b = some o ∧ (∀ es ep, o.data ≠ .dict es ep) ∧ K.lookup b = none) :
    codeAny (model P₀ w) callerA (.call (.ref fa) ⟨[.ref a], []⟩) (fun r s' => r = .ok (.ret (.bool true)) ∧ OldK s1.heap s'.heap ∧ s'.os = s1.os ∧ AllBare s'.gens) s1 := by
  have stay : ∀ {b : Addr} {o : Obj}, s1.heap.get? b = some o → H b = none → (hidT s1.heap H).get? b = some o := fun e n => hidT_get e n
  have nsd : ∀ {b : Addr} {q : Str → Option Value}, s1.heap.Ns b q → (hidT s1.heap H).Ns b q := fun {b q} h => by
    obtain ⟨o, es, ep, e, d, r⟩ := h
    refine ⟨o, es, ep, stay e ?_, d, r⟩
    cases z : H b with
    | none => rfl
    | some u =>
      obtain ⟨o', _, _, e', nd, _⟩ := hH b u z
      rw [e] at e'
      cases e'
      exact (nd _ _ d).elim
  have kin : K.In (hidT s1.heap H) := fun b o e => stay (KX b o e) (by
    cases z : H b with
    | none => rfl
    | some u =>
      obtain ⟨_, _, _, _, _, nk⟩ := hH b u z
      rw [e] at nk
      cases nk)
  have hM : Mod K mg (hidT s1.heap H) := ⟨kin, nsd hns, ⟨mb, nsd hb, hbb⟩, by
    obtain ⟨mc, h1, h2⟩ := hlim
    exact ⟨mc, nsd h1, h2⟩⟩
  have e0 : Env0 P₀ w K mg (hidT s1.heap H) callerA [] s1 H :=
    { frames := rfl, mod := hM, bs := fun b o e => of_hidT e, bsz := Nat.le_of_eq (hidT_size _ _), funs := trivial, frf := fun b h => (nomatch h), hok := hok, bare := .of_eq hg }
  obtain ⟨s', hs'⟩ := hm
  have sp : spM K 1 m [.ref a] H (fun v _ => v = .bl true) E0 := by
    refine ⟨rfl, ⟨[], fun _ => False, fun _ => False⟩, [], [.p (.con (ns.map P.int))], .cons (PV.con hS (PVs.ints ns)) .nil, ⟨rfl, List.nodup_nil, fun _ h => (nomatch h), fun _ h => h.elim, fun n o h => by simp at h, fun _ h => h.elim⟩, ?_⟩
    rw [hs']
    intro W' H' v _ r _
    cases r
    rfl
  refine codeAny_mono ((F _).run callerA [] s1 H ⟨[.ref a], []⟩ [.ref a] [.ref a] _ _ hr rfl e0 (hbind s1 (.ref a)) (.cons rfl .nil) sp) fun r s2 h => ?_
  match r, h with
  | .error _, h => exact h.elim
  | .ok (.ret u), ⟨v, H', os, bare, un, hok', rv, q⟩ =>
    have q' : v = .bl true := q
    subst q'
    obtain rfl : u = Value.bool true := rv
    refine ⟨rfl, OldK.of_keep fun b o e => ?_, os, bare⟩
    cases z : H b with
    | none => exact un.keep b o e z (fun h => by cases h) (fun h => by cases h)
    | some u =>
      obtain ⟨o', xs, rfl, e', _, _⟩ := hH b u z
      rw [e] at e'
      cases e'
      exact (hok' b _ (un.frzs b _ _ z)).1
theorem law_end {l : PySem.W.OpenLaw} {n k : Nat} {q : Program} {loose : List Str} {XP : (Str → Option Value) → Heap → Prop} {YP : World → Heap → Prop} {d : DefRec} {K : Params → PySem.W.Frag} {x : Str} {m : World → List D → M D}
    (hn : l.most = some n) (hn2 : n ≤ sizeLine) (hdf : d.params.defaults = []) (hr : Room k callerA) (hY : ∀ (w : World) (h : Heap), YP w h → (K w.params).In h)
    (F : ∀ (w : World) (mg : Str → Option Value) (fa : Addr) (h : Heap), (K w.params).In h → h.Ns mainGlobals mg → mg d.name = some (.ref fa) →
      ∃ fd : FuncData, (∀ (s : Shared) (u : Value), BindsTo s fd ⟨[u], []⟩ [(x, u)]) ∧ ∀ base : Heap, Fn ⟨l.prog, w, K w.params, mg, base⟩ k fa fd [x] (spM (K w.params) 1 (m w)))
    (hm : ∀ w (ns : List Int), ns.length ≤ n → (∀ z ∈ ns, Builtin.Int.intBits z ≤ 1048576) → ∃ s', m w [.p (.con (ns.map P.int))] [] = .ok (.p (.bl true)) s') :
    PySem.W.WalkO q loose XP YP l.row.toRowW d [] (fun f vs => PySem.call f vs) := by
  refine Att.attach_callB hn hdf fun w s₀ s₁ mg mb fa o pm cd doc a vs ns G Y ho hd hcd hmg hobj hints hlen hbits hg => ?_
  have KX := hY w _ Y
  obtain ⟨fd, hb, hF⟩ := F w mg fa _ KX G.T.g hmg
  have rv := vals_ints hints
  have lv := hints.length
  have hz : (ns.map V.int).length ≤ sizeLine := by rw [List.length_map]; exact Nat.le_trans hlen hn2
  have fin_ : ∀ {H : Hp}, CS (K w.params) H a (ns.map V.int) → HOk l.prog w H s₁.heap → (∀ b u, H b = some u → ∃ o xs, u = .frz o (.lst xs) ∧ s₁.heap.get? b = some o ∧ (∀ es ep, o.data ≠ .dict es ep) ∧ (K w.params).lookup b = none) → _ :=
    fun {H} h1 h2 h3 => law_way (H := H) (m := m w) KX G.T.g G.T.b G.T.builtins G.T.nolimit hg hr hF hb (hm w ns hlen hbits) h1 h2 h3
  cases hk : (K w.params).lookup a with
  | some ob =>
    have e := KX a ob hk
    rw [hobj] at e
    cases e
    refine fin_ (H := fun _ => none) (Or.inr (Or.inr ⟨_, vs.toArray, _, hk, rfl, rfl, rfl, ?_, by simpa using rv⟩)) (fun b u z => by cases z) (fun b u z => by cases z)
    rw [List.size_toArray, ← rv.length]
    exact hz
  | none =>
    refine fin_ (H := fun b => if b = a then some (.frz { cls := .type "list", data := .seq vs.toArray } (.lst (ns.map V.int))) else none) (Or.inl ⟨_, if_pos rfl⟩) (fun b u z => ?_) (fun b u z => ?_)
    · by_cases e : b = a
      · subst e
        have z' := (if_pos rfl).symm.trans z
        cases z'
        exact ⟨hobj, hz, vs, _, rv, hobj⟩
      · have z' := (if_neg e).symm.trans z
        cases z'
    · by_cases e : b = a
      · subst e
        have z' := (if_pos rfl).symm.trans z
        cases z'
        exact ⟨_, _, rfl, hobj, fun es ep q => (nomatch q), hk⟩
      · have z' := (if_neg e).symm.trans z
        cases z'
end
end CW

end
section
set_option maxRecDepth 100000
set_option maxHeartbeats 2000000
/-! CW, tenth part: more expressions. -/
namespace CW
open PySem PySem.Spec PyProof.Rows L2
section
variable {C : Cf} {sc scope : Scope} {N : List Str} {k : Nat} {pos p2 p3 apos cpos : Pos} {e a b o tg iter elt : Expr} {m ma mb mo : EF} {es ifs : List Expr} {ms : List EF} {sts : List Stmt} {f : SF}
/-- from now on plain -/
def frz : D → M D := fun d s => match d with
  | .obj n => match s[n]? with
    | some (some (.lst xs)) => .ok (.p (.lst xs)) (s.set n none)
    | _ => .ok d s
  | d => .ok d s
def frzE (m : EF) : EF := fun ρ => bnd (m ρ) frz
theorem s_frz (h : SE C sc N k e m) : SE C sc N k e (frzE m) := fun X ok => by
  obtain ⟨t, p, q⟩ := h X ok
  refine ⟨t, p, fun σ H W s ρ Q er A g => ?_⟩
  refine q σ H W s ρ _ er A ((Good.bnd g).mono fun d s1 z W1 H1 v e1 r1 A1 => ?_)
  unfold frz at z
  split at z
  · split at z
    · rename_i hn
      obtain ⟨a, ha, rfl⟩ := r1
      obtain ⟨ev, A2, r2⟩ := A1.freeze hn ha
      exact z _ H1 _ (e1.trans ev) r2 A2
    · exact z W1 H1 v e1 r1 A1
  · exact z W1 H1 v e1 r1 A1
/-! count of what is equal -/
def cntD : D → List D → M D := fun d ds s => match ds with
  | [x] => match toPyD d s, toPyD x s with
    | some (.list ys), some z => if SeqAt.shaped (.list ys) = true ∧ SeqAt.shaped z = true then .ok (.p (.int ((ys.countP fun y => PyData.eqv y z : Nat)))) s else .bad
    | _, _ => .bad
  | _ => .bad
def rCnt (K : PySem.W.Frag) : V → List V → Hp → VK → Prop := fun x xs H Q => ∃ (y : V) (d : PyData) (ds : List PyData), xs = [y] ∧ Dp K H x (.list ds) ∧ Dp K H y d ∧ SeqAt.shaped (.list ds) = true ∧ SeqAt.shaped d = true ∧ Q (.int (ds.countP fun z => PyData.eqv z d : Nat)) H
theorem mt_cnt {X : Cx} (hu : X.A.units + 65 < cLine) : MtR X "list.count" (rCnt X.K) := by
  intro pins s σ H x xs v us Q I rx rxs h
  obtain ⟨y, d, ds, rfl, hl, hy, sl, sd, q⟩ := h
  obtain ⟨uy, rfl, ry⟩ := rxs.one
  obtain ⟨bs, r1⟩ := Dp.reads I d y uy hy ry
  cases hl with
  | lst hs ha =>
    cases rx
    obtain ⟨items, rv, ⟨⟨cls, dd, data, sls⟩, n, ho, hc, hdn, hdt⟩, hlen⟩ := I.list hs
    simp only at hc hdt
    subst hc hdt
    obtain ⟨as, h4⟩ := Dp.readsAll I ds _ items ha rv
    have hxs : PyData.canLayAll0 ds = true := SeqAt.canLay_of_shaped sl
    have room : X.A.units + 1 + min (PyData.depthAll ds) d.depth < cLine := by
      have h1 := SeqAt.depth_of_shaped sd
      have h2 : min (PyData.depthAll ds) d.depth ≤ d.depth := Nat.min_le_right _ _
      omega
    have hmap : items.map (SeqAt.readOf s.heap) = ds := SeqAt.readsAll_map ds items as hxs h4
    have eqs := SeqAt.items_eqAt (A := X.A) (vs := items.toArray) (show ReadsAll s.heap items.toArray.toList ds as from h4) r1 hxs (SeqAt.canLay_of_shaped sd) room
    refine call_meets PySem.F.slot_list_count ⟨_, ho, rfl⟩ PySem.F.entry_list_count (PySem.F.args_list_count_2 _ _)
      (SeqAt.list_countAt _ items.toArray n dd sls uy (fun u => PyData.eqv (SeqAt.readOf s.heap u) d)) ⟨ho, eqs, ?_⟩
    refine ⟨.int (ds.countP fun z => PyData.eqv z d : Nat), H, I.tok _, ⟨s.toks, ?_⟩, q⟩
    have e : items.toArray.toList.countP (fun u => PyData.eqv (SeqAt.readOf s.heap u) d) = ds.countP fun z => PyData.eqv z d := by
      rw [← hmap, List.countP_map]
      rfl
    rw [e]
theorem m_cnt : MtS C k "list.count" cntD := fun X ok => ⟨_, mt_cnt (by have := ok.rm.un; omega), fun W s H x d xs ds Q rx r A g => by
  unfold cntD at g
  split at g
  · split at g
    · rename_i h1 h2
      split at g
      · rename_i hs
        obtain ⟨y, rfl, hy⟩ := dvs1 r
        rw [ok.eK]
        exact ⟨y, _, _, rfl, DV.dp rx A h1, DV.dp hy A h2, hs.1, hs.2, g W H _ Ev.rfl (PV.int _) A⟩
      · exact g.elim
    · exact g.elim
  · exact g.elim⟩
end
end CW

end
section
set_option maxRecDepth 100000
set_option maxHeartbeats 2000000
/-! CW, eleventh part: what a term comes to, as equations. -/
namespace CW
open PySem PySem.Spec PyProof.Rows L2
section
variable {ρ : En} {s s' : S} {xs : List P} {m ma mb mc : EF} {f g : SF} {t : TF}
def R.bind {α β : Type} (r : R α) (k : α → S → R β) : R β := match r with
  | .ok a s => k a s
  | .bad => .bad
@[simp] theorem R.bind_ok {α β : Type} (a : α) (k : α → S → R β) : R.bind (.ok a s) k = k a s := rfl
@[simp] theorem R.bind_bad {α β : Type} (k : α → S → R β) : R.bind .bad k = .bad := rfl
theorem bnd_ev {α β : Type} (m : M α) (k : α → M β) : bnd m k s = R.bind (m s) k := by
  unfold bnd R.bind
  cases m s <;> rfl
@[simp] theorem R.bind_ite {α β : Type} (c : Prop) [Decidable c] (a b : R α) (k : α → S → R β) : R.bind (if c then a else b) k = if c then R.bind a k else R.bind b k := by
  split <;> rfl
@[simp] theorem vE_0 (d : D) (r : En) : vE 0 (some d :: r) s = .ok d s := rfl
@[simp] theorem vE_s (i : Nat) (d : Option D) (r : En) : vE (i + 1) (d :: r) s = vE i r s := rfl
@[simp] theorem vE_1 (d : Option D) (r : En) : vE 1 (d :: r) s = vE 0 r s := rfl
@[simp] theorem vE_2 (d0 d1 : Option D) (r : En) : vE 2 (d0 :: d1 :: r) s = vE 0 r s := rfl
@[simp] theorem vE_3 (d0 d1 d2 : Option D) (r : En) : vE 3 (d0 :: d1 :: d2 :: r) s = vE 0 r s := rfl
@[simp] theorem vE_4 (d0 d1 d2 d3 : Option D) (r : En) : vE 4 (d0 :: d1 :: d2 :: d3 :: r) s = vE 0 r s := rfl
@[simp] theorem vE_5 (d0 d1 d2 d3 d4 : Option D) (r : En) : vE 5 (d0 :: d1 :: d2 :: d3 :: d4 :: r) s = vE 0 r s := rfl
@[simp] theorem vE_6 (d0 d1 d2 d3 d4 d5 : Option D) (r : En) : vE 6 (d0 :: d1 :: d2 :: d3 :: d4 :: d5 :: r) s = vE 0 r s := rfl
@[simp] theorem vE_7 (d0 d1 d2 d3 d4 d5 d6 : Option D) (r : En) : vE 7 (d0 :: d1 :: d2 :: d3 :: d4 :: d5 :: d6 :: r) s = vE 0 r s := rfl
@[simp] theorem vE_8 (d0 d1 d2 d3 d4 d5 d6 d7 : Option D) (r : En) : vE 8 (d0 :: d1 :: d2 :: d3 :: d4 :: d5 :: d6 :: d7 :: r) s = vE 0 r s := rfl
@[simp] theorem vE_9 (d0 d1 d2 d3 d4 d5 d6 d7 d8 : Option D) (r : En) : vE 9 (d0 :: d1 :: d2 :: d3 :: d4 :: d5 :: d6 :: d7 :: d8 :: r) s = vE 0 r s := rfl
@[simp] theorem cE_ev (x : P) : cE x ρ s = .ok (.p x) s := rfl
@[simp] theorem ret_ev {α : Type} (a : α) : ret a s = .ok a s := rfl
@[simp] theorem bad_ev {α : Type} : (bad : M α) s = .bad := rfl
@[simp] theorem op2_ev (g : D → D → M D) : op2 g ma mb ρ s = R.bind (ma ρ s) fun x s1 => R.bind (mb ρ s1) fun y s2 => g x y s2 := by
  unfold op2; rw [bnd_ev]; congr
@[simp] theorem op1_ev (g : D → M D) : op1 g ma ρ s = R.bind (ma ρ s) fun x s1 => g x s1 := by
  unfold op1; simp only [bnd_ev]
def tBk : D → M Bool := fun d => match d with
    | .p (.bl b) => ret b
    | _ => bad
@[simp] theorem tBk_bl (b : Bool) : tBk (.p (.bl b)) s = .ok b s := rfl
@[simp] theorem tB_ev : tB m ρ s = R.bind (m ρ s) tBk := by unfold tB; rw [bnd_ev]; rfl
@[simp] theorem tT_ev : tT m ρ s = R.bind (m ρ s) truD := by unfold tT; rw [bnd_ev]
@[simp] theorem truD_bl (b : Bool) : truD (.p (.bl b)) s = .ok b s := rfl
@[simp] theorem truD_int (i : Int) : truD (.p (.int i)) s = .ok (i != 0) s := rfl
@[simp] theorem truD_non : truD (.p .non) s = .ok false s := rfl
@[simp] theorem truD_tup (xs : List P) : truD (.p (.tup xs)) s = .ok (!xs.isEmpty) s := rfl
@[simp] theorem truD_lst (xs : List P) : truD (.p (.lst xs)) s = .ok (!xs.isEmpty) s := rfl
@[simp] theorem andT_ev (a b : TF) : andT a b ρ s = R.bind (a ρ s) fun c s1 => if c = true then b ρ s1 else .ok false s1 := by
  unfold andT; rw [bnd_ev]; congr; funext c s1; cases c <;> rfl
@[simp] theorem orT_ev (a b : TF) : orT a b ρ s = R.bind (a ρ s) fun c s1 => if c = true then .ok true s1 else b ρ s1 := by
  unfold orT; rw [bnd_ev]; congr; funext c s1; cases c <;> rfl
@[simp] theorem notT_ev (a : TF) : notT a ρ s = R.bind (a ρ s) fun c s1 => .ok (!c) s1 := by unfold notT; rw [bnd_ev]; rfl
@[simp] theorem ifE_ev : ifE t ma mb ρ s = R.bind (t ρ s) fun c s1 => if c = true then ma ρ s1 else mb ρ s1 := by
  unfold ifE; rw [bnd_ev]; congr; funext c s1; cases c <;> rfl
def andk (k : M D) : D → M D := fun d => match d with
  | .p (.bl c) => if c = true then k else ret (.p (.bl false))
  | _ => bad
def ork (k : M D) : D → M D := fun d => match d with
  | .p (.bl c) => if c = true then ret (.p (.bl true)) else k
  | _ => bad
@[simp] theorem andk_bl (k : M D) (c : Bool) : andk k (.p (.bl c)) s = if c = true then k s else .ok (.p (.bl false)) s := by cases c <;> rfl
@[simp] theorem ork_bl (k : M D) (c : Bool) : ork k (.p (.bl c)) s = if c = true then .ok (.p (.bl true)) s else k s := by cases c <;> rfl
@[simp] theorem andE_ev : andE ma mb ρ s = R.bind (ma ρ s) (andk (mb ρ)) := by unfold andE; rw [bnd_ev]; rfl
@[simp] theorem orE_ev : orE ma mb ρ s = R.bind (ma ρ s) (ork (mb ρ)) := by unfold orE; rw [bnd_ev]; rfl
def notk : D → M D := fun d => match d with
  | .p (.bl c) => ret (.p (.bl (!c)))
  | _ => bad
@[simp] theorem notk_bl (c : Bool) : notk (.p (.bl c)) s = .ok (.p (.bl (!c))) s := rfl
@[simp] theorem notE_ev : notE ma ρ s = R.bind (ma ρ s) notk := by unfold notE; rw [bnd_ev]; rfl
@[simp] theorem negD_int (i : Int) : negD (.p (.int i)) s = .ok (.p (.int (-i))) s := rfl
@[simp] theorem evA_nil : evA [] ρ s = .ok [] s := rfl
@[simp] theorem evA_cons (ms : List EF) : evA (m :: ms) ρ s = R.bind (m ρ s) fun d s1 => R.bind (evA ms ρ s1) fun ds s2 => .ok (d :: ds) s2 := by
  show bnd _ _ _ = _
  simp only [bnd_ev]; rfl
@[simp] theorem plain_nil : plain [] = some [] := rfl
@[simp] theorem plain_cons (x : P) (r : List D) : plain (.p x :: r) = (plain r).map (x :: ·) := rfl
def tupk (f : List P → P) : List D → M D := fun ds s => match plain ds with
  | some xs => .ok (.p (f xs)) s
  | none => .bad
theorem tupk_ev (f : List P → P) {ds : List D} {xs : List P} (h : plain ds = some xs) : tupk f ds s = .ok (.p (f xs)) s := by unfold tupk; rw [h]
@[simp] theorem tupk_0 (f : List P → P) : tupk f [] s = .ok (.p (f [])) s := rfl
@[simp] theorem tupk_1 (f : List P → P) (a : P) : tupk f [.p a] s = .ok (.p (f [a])) s := rfl
@[simp] theorem tupk_2 (f : List P → P) (a b : P) : tupk f [.p a, .p b] s = .ok (.p (f [a, b])) s := rfl
@[simp] theorem tupk_3 (f : List P → P) (a b c : P) : tupk f [.p a, .p b, .p c] s = .ok (.p (f [a, b, c])) s := rfl
@[simp] theorem tupk_4 (f : List P → P) (a b c d : P) : tupk f [.p a, .p b, .p c, .p d] s = .ok (.p (f [a, b, c, d])) s := rfl
@[simp] theorem tupk_5 (f : List P → P) (a b c d e : P) : tupk f [.p a, .p b, .p c, .p d, .p e] s = .ok (.p (f [a, b, c, d, e])) s := rfl
@[simp] theorem tupk_6 (f : List P → P) (a b c d e e1 : P) : tupk f [.p a, .p b, .p c, .p d, .p e, .p e1] s = .ok (.p (f [a, b, c, d, e, e1])) s := rfl
@[simp] theorem tupk_8 (f : List P → P) (a b c d e e1 e2 e3 : P) : tupk f [.p a, .p b, .p c, .p d, .p e, .p e1, .p e2, .p e3] s = .ok (.p (f [a, b, c, d, e, e1, e2, e3])) s := rfl
@[simp] theorem tupE_ev (ms : List EF) : tupE ms ρ s = R.bind (evA ms ρ s) (tupk .tup) := by unfold tupE; rw [bnd_ev]; rfl
@[simp] theorem lstE_ev (ms : List EF) : lstE ms ρ s = R.bind (evA ms ρ s) (tupk .lst) := by unfold lstE; rw [bnd_ev]; rfl
def lsok : List D → M D := fun ds s => match plain ds with
  | some xs => newL xs s
  | none => .bad
theorem lsok_ev {ds : List D} {xs : List P} (h : plain ds = some xs) : lsok ds s = .ok (.obj s.length) (s ++ [some (.lst xs)]) := by unfold lsok; rw [h]; rfl
@[simp] theorem lsoE_ev (ms : List EF) : lsoE ms ρ s = R.bind (evA ms ρ s) lsok := by unfold lsoE; rw [bnd_ev]; rfl
@[simp] theorem ix_tup (xs : List P) (i : Int) : ixD (.p (.tup xs)) (.p (.int i)) s = match L2.atI xs i with
  | some z => .ok (.p z) s
  | none => .bad := rfl
@[simp] theorem ix_lst (xs : List P) (i : Int) : ixD (.p (.lst xs)) (.p (.int i)) s = match L2.atI xs i with
  | some z => .ok (.p z) s
  | none => .bad := rfl
@[simp] theorem sub_int (i j : Int) : subD (.p (.int i)) (.p (.int j)) s = .ok (.p (.int (i - j))) s := rfl
@[simp] theorem mod_int (i j : Int) : modD (.p (.int i)) (.p (.int j)) s = if j = 0 then .bad else .ok (.p (.int (i.fmod j))) s := by
  unfold modD ii; by_cases h : j = 0 <;> simp [h]
@[simp] theorem div_int (i j : Int) : divD (.p (.int i)) (.p (.int j)) s = if divOk i j then .ok (.p (.int (i.fdiv j))) s else .bad := by
  unfold divD ii; by_cases h : divOk i j <;> simp [h]
@[simp] theorem pow_int (i j : Int) : powD (.p (.int i)) (.p (.int j)) s = if powOk i j then .ok (.p (.int (i ^ j.toNat))) s else .bad := by
  unfold powD ii; by_cases h : powOk i j <;> simp [h]
@[simp] theorem lt_int (i j : Int) : ltD (.p (.int i)) (.p (.int j)) s = .ok (.p (.bl (decide (i < j)))) s := rfl
@[simp] theorem le_int (i j : Int) : leD (.p (.int i)) (.p (.int j)) s = .ok (.p (.bl (decide (i ≤ j)))) s := rfl
@[simp] theorem gt_int (i j : Int) : gtD (.p (.int i)) (.p (.int j)) s = .ok (.p (.bl (decide (j < i)))) s := rfl
@[simp] theorem ge_int (i j : Int) : geD (.p (.int i)) (.p (.int j)) s = .ok (.p (.bl (decide (j ≤ i)))) s := rfl
@[simp] theorem add_int (fr : Bool) (i j : Int) : addD fr (.p (.int i)) (.p (.int j)) s = .ok (.p (.int (i + j))) s := rfl
@[simp] theorem mul_int (fr : Bool) (i j : Int) : mulD fr (.p (.int i)) (.p (.int j)) s = if mulOk i j then .ok (.p (.int (i * j))) s else .bad := rfl
@[simp] theorem eqv_int (i j : Int) : PyData.eqv (.int i) (.int j) = decide (i = j) := by
  unfold PyData.eqv
  by_cases h : i = j <;> simp [h]
theorem eq_dat (neg : Bool) {x y : D} {d e : PyData} (hx : toPyD x s = some d) (hy : toPyD y s = some e) (h : SeqAt.shaped d = true ∧ SeqAt.shaped e = true) : eqD neg x y s = .ok (.p (.bl (if neg = true then !PyData.eqv d e else PyData.eqv d e))) s := by
  unfold eqD
  rw [hx, hy]
  exact if_pos h
@[simp] theorem eq_int (i j : Int) : eqD false (.p (.int i)) (.p (.int j)) s = .ok (.p (.bl (decide (i = j)))) s := by
  rw [eq_dat (d := .int i) (e := .int j) false rfl rfl ⟨rfl, rfl⟩, eqv_int]
  rfl
@[simp] theorem ne_int (i j : Int) : eqD true (.p (.int i)) (.p (.int j)) s = .ok (.p (.bl (!decide (i = j)))) s := by
  rw [eq_dat (d := .int i) (e := .int j) true rfl rfl ⟨rfl, rfl⟩, eqv_int]
  rfl
@[simp] theorem calE_ev (g : List D → M D) (ms : List EF) : calE g ms ρ s = R.bind (evA ms ρ s) g := by unfold calE; rw [bnd_ev]
@[simp] theorem abs_ev (i : Int) : absD [.p (.int i)] s = .ok (.p (.int i.natAbs)) s := by
  show R.ok (D.p (.int (if i < 0 then -i else i))) s = _
  have : (if i < 0 then -i else i) = (i.natAbs : Int) := by split <;> omega
  rw [this]
@[simp] theorem max_ev (i j : Int) : maxD [.p (.int i), .p (.int j)] s = .ok (.p (.int (max i j))) s := by
  show R.ok (D.p (.int (if j > i then j else i))) s = _
  have : (if j > i then j else i) = max i j := by split <;> omega
  rw [this]
@[simp] theorem min_ev (i j : Int) : minD [.p (.int i), .p (.int j)] s = .ok (.p (.int (min i j))) s := by
  show R.ok (D.p (.int (if j < i then j else i))) s = _
  have : (if j < i then j else i) = min i j := by split <;> omega
  rw [this]
@[simp] theorem int_i (i : Int) : intD [.p (.int i)] s = .ok (.p (.int i)) s := rfl
@[simp] theorem int_b (b : Bool) : intD [.p (.bl b)] s = .ok (.p (.int (if b = true then 1 else 0))) s := rfl
@[simp] theorem len_tup (xs : List P) : lenD [.p (.tup xs)] s = .ok (.p (.int xs.length)) s := rfl
@[simp] theorem len_lst (xs : List P) : lenD [.p (.lst xs)] s = .ok (.p (.int xs.length)) s := rfl
theorem isi_ev (d : D) {c z : String} {b : Bool} (h : tyD d s = some z) (hk : kitB z c = some b) : isiD [d, .p (.ty c)] s = .ok (.p (.bl b)) s := by
  show (match tyD d s with
    | some z => (match kitB z c with
      | some b => R.ok (D.p (.bl b)) s
      | none => .bad)
    | none => .bad) = _
  rw [h]
  show (match kitB z c with
      | some b => R.ok (D.p (.bl b)) s
      | none => .bad) = _
  rw [hk]
@[simp] theorem isi_non_int : isiD [.p .non, .p (.ty "int")] s = .ok (.p (.bl false)) s := isi_ev _ rfl (by decide +kernel)
@[simp] theorem isi_non_bool : isiD [.p .non, .p (.ty "bool")] s = .ok (.p (.bl false)) s := isi_ev _ rfl (by decide +kernel)
@[simp] theorem isi_non_tuple : isiD [.p .non, .p (.ty "tuple")] s = .ok (.p (.bl false)) s := isi_ev _ rfl (by decide +kernel)
@[simp] theorem isi_non_list : isiD [.p .non, .p (.ty "list")] s = .ok (.p (.bl false)) s := isi_ev _ rfl (by decide +kernel)
@[simp] theorem isi_non_str : isiD [.p .non, .p (.ty "str")] s = .ok (.p (.bl false)) s := isi_ev _ rfl (by decide +kernel)
@[simp] theorem isi_bl_int (b : Bool) : isiD [.p (.bl b), .p (.ty "int")] s = .ok (.p (.bl true)) s := isi_ev _ rfl (by decide +kernel)
@[simp] theorem isi_bl_bool (b : Bool) : isiD [.p (.bl b), .p (.ty "bool")] s = .ok (.p (.bl true)) s := isi_ev _ rfl (by decide +kernel)
@[simp] theorem isi_bl_tuple (b : Bool) : isiD [.p (.bl b), .p (.ty "tuple")] s = .ok (.p (.bl false)) s := isi_ev _ rfl (by decide +kernel)
@[simp] theorem isi_bl_list (b : Bool) : isiD [.p (.bl b), .p (.ty "list")] s = .ok (.p (.bl false)) s := isi_ev _ rfl (by decide +kernel)
@[simp] theorem isi_bl_str (b : Bool) : isiD [.p (.bl b), .p (.ty "str")] s = .ok (.p (.bl false)) s := isi_ev _ rfl (by decide +kernel)
@[simp] theorem isi_int_int (i : Int) : isiD [.p (.int i), .p (.ty "int")] s = .ok (.p (.bl true)) s := isi_ev _ rfl (by decide +kernel)
@[simp] theorem isi_int_bool (i : Int) : isiD [.p (.int i), .p (.ty "bool")] s = .ok (.p (.bl false)) s := isi_ev _ rfl (by decide +kernel)
@[simp] theorem isi_int_tuple (i : Int) : isiD [.p (.int i), .p (.ty "tuple")] s = .ok (.p (.bl false)) s := isi_ev _ rfl (by decide +kernel)
@[simp] theorem isi_int_list (i : Int) : isiD [.p (.int i), .p (.ty "list")] s = .ok (.p (.bl false)) s := isi_ev _ rfl (by decide +kernel)
@[simp] theorem isi_int_str (i : Int) : isiD [.p (.int i), .p (.ty "str")] s = .ok (.p (.bl false)) s := isi_ev _ rfl (by decide +kernel)
@[simp] theorem isi_str_int (x : Str) : isiD [.p (.str x), .p (.ty "int")] s = .ok (.p (.bl false)) s := isi_ev _ rfl (by decide +kernel)
@[simp] theorem isi_str_bool (x : Str) : isiD [.p (.str x), .p (.ty "bool")] s = .ok (.p (.bl false)) s := isi_ev _ rfl (by decide +kernel)
@[simp] theorem isi_str_tuple (x : Str) : isiD [.p (.str x), .p (.ty "tuple")] s = .ok (.p (.bl false)) s := isi_ev _ rfl (by decide +kernel)
@[simp] theorem isi_str_list (x : Str) : isiD [.p (.str x), .p (.ty "list")] s = .ok (.p (.bl false)) s := isi_ev _ rfl (by decide +kernel)
@[simp] theorem isi_str_str (x : Str) : isiD [.p (.str x), .p (.ty "str")] s = .ok (.p (.bl true)) s := isi_ev _ rfl (by decide +kernel)
@[simp] theorem isi_tup_int (xs : List P) : isiD [.p (.tup xs), .p (.ty "int")] s = .ok (.p (.bl false)) s := isi_ev _ rfl (by decide +kernel)
@[simp] theorem isi_tup_bool (xs : List P) : isiD [.p (.tup xs), .p (.ty "bool")] s = .ok (.p (.bl false)) s := isi_ev _ rfl (by decide +kernel)
@[simp] theorem isi_tup_tuple (xs : List P) : isiD [.p (.tup xs), .p (.ty "tuple")] s = .ok (.p (.bl true)) s := isi_ev _ rfl (by decide +kernel)
@[simp] theorem isi_tup_list (xs : List P) : isiD [.p (.tup xs), .p (.ty "list")] s = .ok (.p (.bl false)) s := isi_ev _ rfl (by decide +kernel)
@[simp] theorem isi_tup_str (xs : List P) : isiD [.p (.tup xs), .p (.ty "str")] s = .ok (.p (.bl false)) s := isi_ev _ rfl (by decide +kernel)
@[simp] theorem isi_lst_int (xs : List P) : isiD [.p (.lst xs), .p (.ty "int")] s = .ok (.p (.bl false)) s := isi_ev _ rfl (by decide +kernel)
@[simp] theorem isi_lst_bool (xs : List P) : isiD [.p (.lst xs), .p (.ty "bool")] s = .ok (.p (.bl false)) s := isi_ev _ rfl (by decide +kernel)
@[simp] theorem isi_lst_tuple (xs : List P) : isiD [.p (.lst xs), .p (.ty "tuple")] s = .ok (.p (.bl false)) s := isi_ev _ rfl (by decide +kernel)
@[simp] theorem isi_lst_list (xs : List P) : isiD [.p (.lst xs), .p (.ty "list")] s = .ok (.p (.bl true)) s := isi_ev _ rfl (by decide +kernel)
@[simp] theorem isi_lst_str (xs : List P) : isiD [.p (.lst xs), .p (.ty "str")] s = .ok (.p (.bl false)) s := isi_ev _ rfl (by decide +kernel)
@[simp] theorem setG_ev (i : Nat) (d : D) : setG i d ρ s = .ok (ρ.set i (some d)) s := rfl
@[simp] theorem nilG_ev : nilG [] ρ s = .ok ρ s := rfl
@[simp] theorem consG_ev (g : GF) (r : List P → En → M En) (x : P) (xs : List P) : consG g r (x :: xs) ρ s = R.bind (g (.p x) ρ s) (r xs) := by
  show bnd _ _ _ = _
  rw [bnd_ev]
@[simp] theorem tupG_tup (n : Nat) (g : List P → En → M En) (xs : List P) : tupG n g (.p (.tup xs)) ρ s = if xs.length = n then g xs ρ s else .bad := rfl
@[simp] theorem tupG_lst (n : Nat) (g : List P → En → M En) (xs : List P) : tupG n g (.p (.lst xs)) ρ s = if xs.length = n then g xs ρ s else .bad := rfl
@[simp] theorem nopF_ev : nopF ρ s = .ok (.nx ρ) s := rfl
@[simp] theorem noF_ev : noF ρ s = .bad := rfl
def seqk (g : SF) : Fl → M Fl := fun r => match r with
  | .nx ρ' => g ρ'
  | r => ret r
@[simp] theorem seqk_nx (g : SF) : seqk g (.nx ρ) s = g ρ s := rfl
@[simp] theorem seqk_rt (g : SF) (d : D) : seqk g (.rt d) s = .ok (.rt d) s := rfl
@[simp] theorem seqk_bk (g : SF) : seqk g (.bk ρ) s = .ok (.bk ρ) s := rfl
@[simp] theorem seqk_ct (g : SF) : seqk g (.ct ρ) s = .ok (.ct ρ) s := rfl
@[simp] theorem seqF_ev : seqF f g ρ s = R.bind (f ρ s) (seqk g) := by unfold seqF; rw [bnd_ev]; rfl
@[simp] theorem retF_ev : retF m ρ s = R.bind (m ρ s) fun d s1 => .ok (.rt d) s1 := by unfold retF; rw [bnd_ev]; rfl
@[simp] theorem expF_ev : expF m ρ s = R.bind (m ρ s) fun d s1 => .ok (.nx ρ) s1 := by unfold expF; rw [bnd_ev]; rfl
@[simp] theorem iffF_ev : iffF t f g ρ s = R.bind (t ρ s) fun c s1 => if c = true then f ρ s1 else g ρ s1 := by
  unfold iffF; rw [bnd_ev]; congr; funext c s1; cases c <;> rfl
@[simp] theorem asgF_ev (g : GF) : asgF m g ρ s = R.bind (m ρ s) fun d s1 => R.bind (g d ρ s1) fun ρ' s2 => .ok (.nx ρ') s2 := by
  unfold asgF; simp only [bnd_ev]; rfl
def park (i j : Nat) (ρ : En) : List D → M Fl := fun ds s => match ds with
  | [x, y] => .ok (.nx ((ρ.set i (some x)).set j (some y))) s
  | _ => .bad
@[simp] theorem park_ev (i j : Nat) (x y : D) : park i j ρ [x, y] s = .ok (.nx ((ρ.set i (some x)).set j (some y))) s := rfl
@[simp] theorem parF_ev (i j : Nat) (ms : List EF) : parF i j ms ρ s = R.bind (evA ms ρ s) (park i j ρ) := by unfold parF; rw [bnd_ev]; rfl
def park3 (i j l : Nat) (ρ : En) : List D → M Fl := fun ds s => match ds with
  | [x, y, z] => .ok (.nx (((ρ.set i (some x)).set j (some y)).set l (some z))) s
  | _ => .bad
@[simp] theorem park3_ev (i j l : Nat) (x y z : D) : park3 i j l ρ [x, y, z] s = .ok (.nx (((ρ.set i (some x)).set j (some y)).set l (some z))) s := rfl
@[simp] theorem par3F_ev (i j l : Nat) (ms : List EF) : par3F i j l ms ρ s = R.bind (evA ms ρ s) (park3 i j l ρ) := by unfold par3F; rw [bnd_ev]; rfl
theorem augF_ev (i : Nat) (g : D → D → M D) {d : D} (h : ρ[i]? = some (some d)) : augF i g m ρ s = R.bind (m ρ s) fun y s1 => R.bind (g d y s1) fun z s2 => .ok (.nx (ρ.set i (some z))) s2 := by
  unfold augF; rw [h]; simp only [bnd_ev]; rfl
@[simp] theorem fin_self (x : P) : fin s (.p x) s = .ok (.p x) s := by
  unfold fin
  dsimp only
  rw [if_pos Keeps.self, List.take_length]
@[simp] theorem fin_more (x : P) (r : S) : fin s (.p x) (s ++ r) = .ok (.p x) s := by
  unfold fin
  dsimp only
  rw [if_pos (Keeps.more r), List.take_left]
@[simp] theorem atI2_0 {α} (x y : α) : L2.atI [x, y] 0 = some x := rfl
@[simp] theorem atI2_1 {α} (x y : α) : L2.atI [x, y] 1 = some y := rfl
@[simp] theorem atI1_0 {α} (x : α) : L2.atI [x] 0 = some x := rfl
@[simp] theorem atI3_0 {α} (x y z : α) : L2.atI [x, y, z] 0 = some x := rfl
@[simp] theorem atI3_1 {α} (x y z : α) : L2.atI [x, y, z] 1 = some y := rfl
@[simp] theorem atI3_2 {α} (x y z : α) : L2.atI [x, y, z] 2 = some z := rfl
theorem defM_rt {n nl : Nat} {ds : List D} {x : P} (hl : ds.length = n) (h : f (ds.map some ++ List.replicate (nl - n) none) s = .ok (.rt (.p x)) s) : defM n nl f ds s = .ok (.p x) s := by
  unfold defM
  rw [if_pos hl, h]
  exact fin_self x
theorem defM_nx {n nl : Nat} {ds : List D} (hl : ds.length = n) (h : f (ds.map some ++ List.replicate (nl - n) none) s = .ok (.nx ρ) s) : defM n nl f ds s = .ok (.p .non) s := by
  unfold defM
  rw [if_pos hl, h]
  exact fin_self .non
noncomputable def defk (s : S) : Fl → M D := fun r => match r with
  | .rt d => fin s d
  | .nx _ => fin s (.p .non)
  | _ => bad
@[simp] theorem defk_rt (d : D) (s1 : S) : defk s (.rt d) s1 = fin s d s1 := rfl
@[simp] theorem defk_nx (s1 : S) : defk s (.nx ρ) s1 = fin s (.p .non) s1 := rfl
theorem defM_ev {n nl : Nat} {ds : List D} (hl : ds.length = n) : defM n nl f ds s = R.bind (f (ds.map some ++ List.replicate (nl - n) none) s) (defk s) := by
  unfold defM R.bind defk
  rw [if_pos hl]
  cases f (ds.map some ++ List.replicate (nl - n) none) s with
  | bad => rfl
  | ok r s1 => cases r <;> rfl
theorem fin_take (x : P) (h : s'.take s.length = s) : fin s (.p x) s' = .ok (.p x) s := by
  have e : s' = s ++ s'.drop s.length := by conv => lhs; rw [← List.take_append_drop s.length s', h]
  rw [e]
  exact fin_more x _
@[simp] theorem fin_ex (x : P) (r : S) : fin [] (.p x) r = .ok (.p x) [] := fin_take x rfl
@[simp] theorem fin_ex1 (x : P) (a : Option O) (r : S) : fin [a] (.p x) (a :: r) = .ok (.p x) [a] := fin_take x rfl
@[simp] theorem fin_ex2 (x : P) (a b : Option O) (r : S) : fin [a, b] (.p x) (a :: b :: r) = .ok (.p x) [a, b] := fin_take x rfl
@[simp] theorem fin_ex3 (x : P) (a b c : Option O) (r : S) : fin [a, b, c] (.p x) (a :: b :: c :: r) = .ok (.p x) [a, b, c] := fin_take x rfl
@[simp] theorem gok_tru : gok [] s = True := by
  unfold gok
  simp
@[simp] theorem wipE_nil : wipE ρ [] = ρ := rfl
@[simp] theorem wipE_cons (v : Nat) (vs : List Nat) : wipE ρ (v :: vs) = (wipE ρ vs).set v none := rfl
theorem lcL_nil {own : List Nat} {tg : GF} {c : TF} : lcL own [] tg c m ρ [] s = .ok [] s := by
  unfold lcL
  rw [gok_tru]
  exact if_pos trivial
/-- a comprehension whose parts change nothing -/
theorem lcL_purg {g : Gd} {own : List Nat} {tg : GF} {c : TF} (hg : gok g s) (F : P → En) (keep : P → Bool) (f : P → P) : ∀ {xs : List P}, (∀ x ∈ xs, tg (.p x) (wipE ρ own) s = .ok (F x) s ∧ c (F x) s = .ok (keep x) s ∧ (keep x = true → m (F x) s = .ok (.p (f x)) s)) →
    lcL own g tg c m ρ xs s = .ok ((xs.filter keep).map f) s
  | [], _ => by
    unfold lcL
    exact if_pos hg
  | x :: xs, h => by
    have ih := lcL_purg (xs := xs) hg F keep f fun y hy => h y (List.mem_cons_of_mem _ hy)
    obtain ⟨h1, h2, h3⟩ := h x List.mem_cons_self
    unfold lcL
    rw [if_pos hg, bnd_ev, h1, R.bind_ok, bnd_ev, h2, R.bind_ok]
    cases hk : keep x with
    | false =>
      rw [if_neg (by decide), ih, List.filter_cons_of_neg (by rw [hk]; decide)]
    | true =>
      rw [if_pos rfl, bnd_ev, h3 hk, R.bind_ok]
      show bnd _ _ _ = _
      rw [bnd_ev, ih, R.bind_ok, List.filter_cons_of_pos hk]
      rfl
theorem lcL_pure {own : List Nat} {tg : GF} {c : TF} (F : P → En) (keep : P → Bool) (f : P → P) {xs : List P} (h : ∀ x ∈ xs, tg (.p x) (wipE ρ own) s = .ok (F x) s ∧ c (F x) s = .ok (keep x) s ∧ (keep x = true → m (F x) s = .ok (.p (f x)) s)) :
    lcL own [] tg c m ρ xs s = .ok ((xs.filter keep).map f) s := lcL_purg (by rw [gok_tru]; trivial) F keep f h
theorem lcL_all {own : List Nat} {tg : GF} (F : P → En) (f : P → P) {xs : List P} (h : ∀ x ∈ xs, tg (.p x) (wipE ρ own) s = .ok (F x) s ∧ m (F x) s = .ok (.p (f x)) s) :
    lcL own [] tg yesT m ρ xs s = .ok (xs.map f) s := by
  rw [lcL_pure F (fun _ => true) f fun x hx => ⟨(h x hx).1, rfl, fun _ => (h x hx).2⟩, show List.filter (fun _ => true) xs = xs from List.filter_eq_self.mpr fun _ _ => rfl]
@[simp] theorem mkL_true (xs : List P) : mkL true xs s = .ok (.p (.lst xs)) s := rfl
@[simp] theorem mkL_false (xs : List P) : mkL false xs s = .ok (.obj s.length) (s ++ [some (.lst xs)]) := rfl
theorem lcE_ev {fr : Bool} {i : IF} {own : List Nat} {tg : GF} {c : TF} : lcE fr i own tg c m ρ s = R.bind (i ρ s) fun xg s1 => if xg.1.length ≤ sizeLine then R.bind (lcL own xg.2 tg c m ρ xg.1 s1) (mkL fr) else .bad := by
  unfold lcE; rw [bnd_ev]; congr
/-- a comprehension over a row that stands still -/
theorem lcE_all {fr : Bool} {i : IF} {own : List Nat} {tg : GF} (F : P → En) (f : P → P) {xs : List P} {s1 : S} (hi : i ρ s = .ok (xs, []) s1) (hl : xs.length ≤ sizeLine) (h : ∀ x ∈ xs, tg (.p x) (wipE ρ own) s1 = .ok (F x) s1 ∧ m (F x) s1 = .ok (.p (f x)) s1) :
    lcE fr i own tg yesT m ρ s = mkL fr (xs.map f) s1 := by
  rw [lcE_ev, hi, R.bind_ok]
  show (if xs.length ≤ sizeLine then _ else _) = _
  rw [if_pos hl, lcL_all F f h, R.bind_ok]
theorem lcE_pure {fr : Bool} {i : IF} {own : List Nat} {tg : GF} {c : TF} (F : P → En) (keep : P → Bool) (f : P → P) {xs : List P} {s1 : S} (hi : i ρ s = .ok (xs, []) s1) (hl : xs.length ≤ sizeLine)
    (h : ∀ x ∈ xs, tg (.p x) (wipE ρ own) s1 = .ok (F x) s1 ∧ c (F x) s1 = .ok (keep x) s1 ∧ (keep x = true → m (F x) s1 = .ok (.p (f x)) s1)) :
    lcE fr i own tg c m ρ s = mkL fr ((xs.filter keep).map f) s1 := by
  rw [lcE_ev, hi, R.bind_ok]
  show (if xs.length ≤ sizeLine then _ else _) = _
  rw [if_pos hl, lcL_pure F keep f h, R.bind_ok]
theorem lcE_purg {fr : Bool} {i : IF} {own : List Nat} {g : Gd} {tg : GF} {c : TF} (F : P → En) (keep : P → Bool) (f : P → P) {xs : List P} {s1 : S} (hi : i ρ s = .ok (xs, g) s1) (hg : gok g s1) (hl : xs.length ≤ sizeLine)
    (h : ∀ x ∈ xs, tg (.p x) (wipE ρ own) s1 = .ok (F x) s1 ∧ c (F x) s1 = .ok (keep x) s1 ∧ (keep x = true → m (F x) s1 = .ok (.p (f x)) s1)) :
    lcE fr i own tg c m ρ s = mkL fr ((xs.filter keep).map f) s1 := by
  rw [lcE_ev, hi, R.bind_ok]
  show (if xs.length ≤ sizeLine then _ else _) = _
  rw [if_pos hl, lcL_purg hg F keep f h, R.bind_ok]
/-- the list that stands at a place -/
def lsAt (n : Nat) (s : S) : Option (List P) := match s[n]? with
  | some (some (.lst xs)) => some xs
  | _ => none
@[simp] theorem lsAt_0 (xs : List P) (r : S) : lsAt 0 (some (.lst xs) :: r) = some xs := rfl
@[simp] theorem lsAt_s (n : Nat) (a : Option O) (r : S) : lsAt (n + 1) (a :: r) = lsAt n r := rfl
theorem its_obj (n : Nat) : its (.obj n) s = lsAt n s := rfl
@[simp] theorem its_lst (xs : List P) : its (.p (.lst xs)) s = some xs := rfl
def addk (fr : Bool) (xs : Option (List P)) (ys : List P) : M D := fun s => match xs with
  | some xs => if xs.length + ys.length ≤ sizeLine then mkL fr (xs ++ ys) s else .bad
  | none => .bad
@[simp] theorem addk_some (fr : Bool) (xs ys : List P) : addk fr (some xs) ys s = if xs.length + ys.length ≤ sizeLine then mkL fr (xs ++ ys) s else .bad := rfl
@[simp] theorem add_obj_lst (fr : Bool) (n : Nat) (ys : List P) : addD fr (.obj n) (.p (.lst ys)) s = addk fr (lsAt n s) ys s := by
  unfold addD addk lsAt itm
  dsimp only
  cases s[n]? with
  | none => rfl
  | some o => cases o with
    | none => rfl
    | some o => cases o <;> rfl
@[simp] theorem add_lst_lst (fr : Bool) (xs ys : List P) : addD fr (.p (.lst xs)) (.p (.lst ys)) s = if xs.length + ys.length ≤ sizeLine then mkL fr (xs ++ ys) s else .bad := rfl
def appk (xs : Option (List P)) (n : Nat) (x : P) : M D := fun s => match xs with
  | some xs => if xs.length < sizeLine then .ok (.p .non) (s.set n (some (.lst (xs ++ [x])))) else .bad
  | none => .bad
@[simp] theorem appk_some (xs : List P) (n : Nat) (x : P) : appk (some xs) n x s = if xs.length < sizeLine then .ok (.p .non) (s.set n (some (.lst (xs ++ [x])))) else .bad := rfl
@[simp] theorem lsok_0 : lsok [] s = .ok (.obj s.length) (s ++ [some (.lst [])]) := rfl
@[simp] theorem lsok_1 (a : P) : lsok [.p a] s = .ok (.obj s.length) (s ++ [some (.lst [a])]) := rfl
@[simp] theorem lsok_2 (a b : P) : lsok [.p a, .p b] s = .ok (.obj s.length) (s ++ [some (.lst [a, b])]) := rfl
@[simp] theorem lsok_3 (a b c : P) : lsok [.p a, .p b, .p c] s = .ok (.obj s.length) (s ++ [some (.lst [a, b, c])]) := rfl
@[simp] theorem lsok_4 (a b c d : P) : lsok [.p a, .p b, .p c, .p d] s = .ok (.obj s.length) (s ++ [some (.lst [a, b, c, d])]) := rfl
theorem rowI_obj {n : Nat} (h : m ρ s = .ok (.obj n) s') (hl : lsAt n s' = some xs) : rowI m ρ s = .ok (xs, [(n, xs)]) s' ∧ gok [(n, xs)] s' := by
  have e : s'[n]? = some (some (.lst xs)) := by
    unfold lsAt at hl
    split at hl
    · rename_i h
      rw [h, Option.some.inj hl]
    · cases hl
  constructor
  · unfold rowI
    rw [bnd_ev, h, R.bind_ok]
    unfold rowD
    dsimp only
    rw [e]
  · intro p hp
    rw [List.mem_singleton.mp hp]
    exact e
@[simp] theorem eq_bl (a b : Bool) : eqD false (.p (.bl a)) (.p (.bl b)) s = .ok (.p (.bl (a == b))) s := by
  rw [eq_dat (d := .bool a) (e := .bool b) false rfl rfl ⟨rfl, rfl⟩]
  unfold PyData.eqv
  rfl
@[simp] theorem ne_bl (a b : Bool) : eqD true (.p (.bl a)) (.p (.bl b)) s = .ok (.p (.bl (!(a == b)))) s := by
  rw [eq_dat (d := .bool a) (e := .bool b) true rfl rfl ⟨rfl, rfl⟩]
  unfold PyData.eqv
  rfl
@[simp] theorem ne_nil_nil : eqD true (.p (.lst [])) (.p (.lst [])) s = .ok (.p (.bl false)) s := rfl
theorem cnt_2 (a b c : Bool) : cntD (.p (.lst [.bl a, .bl b])) [.p (.bl c)] s = .ok (.p (.int ((if a = c then 1 else 0) + (if b = c then 1 else 0)))) s := by
  cases a <;> cases b <;> cases c <;> rfl
theorem rowI_ev (h : m ρ s = .ok (.p (.tup xs)) s') : rowI m ρ s = .ok (xs, []) s' := by
  unfold rowI; rw [bnd_ev, h]; rfl
theorem rowI_lst (h : m ρ s = .ok (.p (.lst xs)) s') : rowI m ρ s = .ok (xs, []) s' := by
  unfold rowI; rw [bnd_ev, h]; rfl
theorem rowI_con (h : m ρ s = .ok (.p (.con xs)) s') : rowI m ρ s = .ok (xs, []) s' := by
  unfold rowI; rw [bnd_ev, h]; rfl
theorem lstI_lst (h : m ρ s = .ok (.p (.lst xs)) s') : lstI m ρ s = .ok (xs, []) s' := by
  unfold lstI; rw [bnd_ev, h]; rfl
theorem tupI_tup (h : m ρ s = .ok (.p (.tup xs)) s') : tupI m ρ s = .ok (xs, []) s' := by
  unfold tupI; rw [bnd_ev, h]; rfl
theorem all_lst {xs : List P} {bs : List Bool} (h : blsOf xs = some bs) : allD [.p (.lst xs)] s = .ok (.p (.bl (bs.all id))) s := by
  show (match blsOf xs with
      | some bs => R.ok (D.p (.bl (bs.all id))) s
      | none => .bad) = _
  rw [h]
theorem any_lst {xs : List P} {bs : List Bool} (h : blsOf xs = some bs) : anyD [.p (.lst xs)] s = .ok (.p (.bl (bs.any id))) s := by
  show (match blsOf xs with
      | some bs => R.ok (D.p (.bl (bs.any id))) s
      | none => .bad) = _
  rw [h]
theorem blsOf_trues {α : Type} (xs : List α) : blsOf (xs.map fun _ => P.bl true) = some (xs.map fun _ => true) := by
  induction xs with
  | nil => rfl
  | cons x xs ih =>
    show (blsOf (xs.map fun _ => P.bl true)).map _ = _
    rw [ih]; rfl
theorem all_trues {α : Type} (xs : List α) : allD [.p (.lst (xs.map fun _ => P.bl true))] s = .ok (.p (.bl true)) s := by
  rw [all_lst (blsOf_trues xs)]
  simp
theorem defM_if {n nl : Nat} {ds : List D} : defM n nl f ds s = if ds.length = n then R.bind (f (ds.map some ++ List.replicate (nl - n) none) s) (defk s) else .bad := by
  by_cases h : ds.length = n
  · rw [if_pos h, defM_ev h]
  · rw [if_neg h]; unfold defM; rw [if_neg h]
end
end CW

end
section
set_option maxRecDepth 100000
set_option maxHeartbeats 2000000
/-! CW, twelfth part: loops as equations, the draws' state. -/
namespace CW
open PySem PySem.Spec PyProof.Rows L2
section
variable {ρ : En} {s s' : S} {xs : List P} {m ma mb mc : EF} {f g : SF} {t : TF}
def fork (k : SF) : Fl → M Fl := fun r => match r with
  | .nx ρ' => k ρ'
  | .ct ρ' => k ρ'
  | .bk ρ' => ret (.nx ρ')
  | .rt d => ret (.rt d)
@[simp] theorem fork_nx (k : SF) : fork k (.nx ρ) s = k ρ s := rfl
@[simp] theorem fork_ct (k : SF) : fork k (.ct ρ) s = k ρ s := rfl
@[simp] theorem fork_bk (k : SF) : fork k (.bk ρ) s = .ok (.nx ρ) s := rfl
@[simp] theorem fork_rt (k : SF) (d : D) : fork k (.rt d) s = .ok (.rt d) s := rfl
theorem forL_nil {tg : GF} : forL [] tg f [] ρ s = .ok (.nx ρ) s := by
  unfold forL
  rw [gok_tru]
  exact if_pos trivial
theorem forL_cons {tg : GF} (x : P) : forL [] tg f (x :: xs) ρ s = R.bind (tg (.p x) ρ s) fun ρ1 s1 => R.bind (f ρ1 s1) (fork (forL [] tg f xs)) := by
  conv => lhs; unfold forL
  rw [gok_tru, if_pos trivial, bnd_ev]
  congr
theorem forF_ev {i : IF} {tg : GF} : forF i tg f ρ s = R.bind (i ρ s) fun xg s1 => forL xg.2 tg f xg.1 ρ s1 := by
  unfold forF; rw [bnd_ev]
theorem whF_ev (ρ : En) (s : S) : whF t f ρ s = R.bind (t ρ s) fun b s1 => if b = true then R.bind (f ρ s1) (fork (whF t f)) else .ok (.nx ρ) s1 := by
  rw [whF_eq, bnd_ev]
  congr
  funext b s1
  cases b with
  | false => rfl
  | true =>
    rw [if_pos rfl, if_pos rfl, bnd_ev]
    rfl
/-- a loop that keeps something -/
theorem forL_inv {tg : GF} (I : En → S → Prop) : ∀ {xs : List P} {ρ : En} {s : S}, I ρ s → (∀ x ∈ xs, ∀ ρ s, I ρ s → ∃ ρ1 s1 ρ2 s2, tg (.p x) ρ s = .ok ρ1 s1 ∧ f ρ1 s1 = .ok (.nx ρ2) s2 ∧ I ρ2 s2) →
    ∃ ρ' s', forL [] tg f xs ρ s = .ok (.nx ρ') s' ∧ I ρ' s'
  | [], ρ, s, h, _ => ⟨ρ, s, forL_nil, h⟩
  | x :: xs, ρ, s, h, k => by
    obtain ⟨ρ1, s1, ρ2, s2, e1, e2, i2⟩ := k x List.mem_cons_self ρ s h
    obtain ⟨ρ', s', e3, i3⟩ := forL_inv I i2 (fun y hy => k y (List.mem_cons_of_mem _ hy))
    exact ⟨ρ', s', by rw [forL_cons, e1, R.bind_ok, e2, R.bind_ok, fork_nx, e3], i3⟩
def dputk (ρ : En) (v d : D) : D → M Fl := fun i s => match d, dctD d s, keyD i with
  | .obj n, some kvs, some q => if kvs.length < sizeLine then .ok (.nx ρ) (s.set n (some (.dic (putD kvs q v)))) else .bad
  | _, _, _ => .bad
@[simp] theorem dputF_ev : dputF ma mb mc ρ s = R.bind (mc ρ s) fun v s1 => R.bind (ma ρ s1) fun d s2 => R.bind (mb ρ s2) (dputk ρ v d) := by
  unfold dputF
  rw [bnd_ev]
  congr
def lputk (ρ : En) (v d : D) : D → M Fl := fun i s => match d, v, i with
  | .obj n, .p x, .p (.int z) => match s[n]? with
    | some (some (.lst xs)) => match ixN xs.length z with
      | some j => .ok (.nx ρ) (s.set n (some (.lst (xs.set j x))))
      | none => .bad
    | _ => .bad
  | _, _, _ => .bad
@[simp] theorem lputF_ev : lputF ma mb mc ρ s = R.bind (mc ρ s) fun v s1 => R.bind (ma ρ s1) fun d s2 => R.bind (mb ρ s2) (lputk ρ v d) := by
  unfold lputF
  rw [bnd_ev]
  congr
@[simp] theorem frzE_ev : frzE m ρ s = R.bind (m ρ s) frz := by unfold frzE; rw [bnd_ev]
@[simp] theorem frz_p (x : P) : frz (.p x) s = .ok (.p x) s := rfl
def dick (ks : List Str) (n : Nat) : List D → M D := fun ds s2 => match s2[n]? with
  | some (some (.dic [])) => .ok (.obj n) (s2.set n (some (.dic (mkD ((ks.map Sum.inr).zip ds) []))))
  | _ => .bad
@[simp] theorem dicE_ev (ks : List Str) (ms : List EF) : dicE ks ms ρ s = R.bind (evA ms ρ (s ++ [some (.dic [])])) (dick ks s.length) := by
  unfold dicE; rw [bnd_ev]; rfl
@[simp] theorem metE_ev {G : D → List D → M D} (ms : List EF) : metE G ma ms ρ s = R.bind (ma ρ s) fun d s1 => match its d s1 with
    | some _ => R.bind (evA ms ρ s1) (G d)
    | none => .bad := by
  unfold metE; rw [bnd_ev]; congr
@[simp] theorem app_obj (n : Nat) (x : P) : appD (.obj n) [.p x] s = appk (lsAt n s) n x s := by
  unfold appD appk lsAt
  dsimp only
  cases s[n]? with
  | none => rfl
  | some o => cases o with
    | none => rfl
    | some o => cases o <;> rfl
/-! ### the draws' state -/
def mk (sm k : Int) (cells : List Int) (rest : S) : S := some (.dic [(.inr "great", .obj 1), (.inr "small", .p (.int sm)), (.inr "at", .p (.int k))]) :: some (.lst (cells.map .int)) :: rest
@[simp] theorem mk_great (sm k : Int) (cells : List Int) (rest : S) : dgetD (.obj 0) (.p (.str "great")) (mk sm k cells rest) = .ok (.obj 1) (mk sm k cells rest) := rfl
@[simp] theorem mk_small (sm k : Int) (cells : List Int) (rest : S) : dgetD (.obj 0) (.p (.str "small")) (mk sm k cells rest) = .ok (.p (.int sm)) (mk sm k cells rest) := rfl
@[simp] theorem mk_at (sm k : Int) (cells : List Int) (rest : S) : dgetD (.obj 0) (.p (.str "at")) (mk sm k cells rest) = .ok (.p (.int k)) (mk sm k cells rest) := rfl
@[simp] theorem mk_put_small (sm k i : Int) (cells : List Int) (rest : S) : dputk ρ (.p (.int i)) (.obj 0) (.p (.str "small")) (mk sm k cells rest) = .ok (.nx ρ) (mk i k cells rest) := rfl
@[simp] theorem mk_put_at (sm k i : Int) (cells : List Int) (rest : S) : dputk ρ (.p (.int i)) (.obj 0) (.p (.str "at")) (mk sm k cells rest) = .ok (.nx ρ) (mk sm i cells rest) := rfl
theorem ixN_ok {n : Nat} {z : Int} (h0 : 0 ≤ z) (h : z < n) : ixN n z = some z.toNat := by
  unfold ixN
  rw [if_pos h0]
  exact if_pos (by omega)
theorem mk_put_1 (sm k i z : Int) (cells : List Int) (rest : S) (h0 : 0 ≤ z) (h : z < cells.length) : lputk ρ (.p (.int i)) (.obj 1) (.p (.int z)) (mk sm k cells rest) = .ok (.nx ρ) (mk sm k (cells.set z.toNat i) rest) := by
  show (match ixN (cells.map P.int).length z with
      | some j => R.ok (Fl.nx ρ) ((mk sm k cells rest).set 1 (some (.lst ((cells.map P.int).set j (.int i)))))
      | none => .bad) = _
  rw [ixN_ok h0 (by rw [List.length_map]; exact h)]
  show R.ok (Fl.nx ρ) _ = _
  rw [← List.map_set]
  rfl
theorem toPys_int : ∀ cells : List Int, toPys (cells.map P.int) = some (cells.map PyData.int)
  | [] => rfl
  | x :: xs => by
    show (match toPy (.int x), toPys (xs.map P.int) with
      | some d, some ds => some (d :: ds)
      | _, _ => none) = _
    rw [toPys_int xs]
    rfl
theorem shapedAll_int : ∀ cells : List Int, SeqAt.shaped (.list (cells.map PyData.int)) = true
  | [] => rfl
  | x :: xs => by
    have ih := shapedAll_int xs
    simp [SeqAt.shaped] at ih ⊢
    exact ih
theorem mk_ne_nil (sm k : Int) (cells : List Int) (rest : S) : eqD true (.obj 1) (.p (.lst [])) (mk sm k cells rest) = .ok (.p (.bl (!cells.isEmpty))) (mk sm k cells rest) := by
  rw [eq_dat true (d := .list (cells.map .int)) (e := .list []) (by show (toPys (cells.map P.int)).map PyData.list = _; rw [toPys_int]; rfl) rfl ⟨shapedAll_int _, rfl⟩]
  cases cells with
  | nil => rfl
  | cons x xs =>
    have : PyData.eqv (.list (List.map PyData.int (x :: xs))) (.list []) = false := by
      simp [PyData.eqv, PyData.eqvAll]
    rw [this]
    rfl
@[simp] theorem mk_len (sm k : Int) (cells : List Int) (rest : S) : lenD [.obj 1] (mk sm k cells rest) = .ok (.p (.int cells.length)) (mk sm k cells rest) := by
  show R.ok (D.p (.int ((cells.map P.int).length : Nat))) _ = _
  rw [List.length_map]
theorem mk_ix (sm k z : Int) (cells : List Int) (rest : S) (h0 : 0 ≤ z) (h : z < cells.length) : ixD (.obj 1) (.p (.int z)) (mk sm k cells rest) = .ok (.p (.int (cells[z.toNat]'(by omega)))) (mk sm k cells rest) := by
  show (match L2.atI (cells.map P.int) z with
        | some z => R.ok (D.p z) (mk sm k cells rest)
        | none => .bad) = _
  have e : L2.atI (cells.map P.int) z = some (.int (cells[z.toNat]'(by omega))) := by
    unfold L2.atI
    rw [ixN_ok h0 (by rw [List.length_map]; exact h), Option.bind_some, List.getElem?_map, List.getElem?_eq_getElem (by omega)]
    rfl
  rw [e]
theorem fin_mk (sm k sm' k' : Int) (cells cells' : List Int) (rest r : S) (x : P) : fin (mk sm k cells rest) (.p x) (mk sm' k' cells' (rest ++ r)) = .ok (.p x) (mk sm' k' cells' rest) := by
  unfold fin
  dsimp only
  rw [if_pos]
  · show R.ok _ (_ :: _ :: List.take rest.length (rest ++ r)) = _
    rw [List.take_left]
    rfl
  · refine ⟨by simp [mk], fun i kvs hi hd => ?_⟩
    match i with
    | 0 =>
      right
      have : kvs = [(.inr "great", .obj 1), (.inr "small", .p (.int sm')), (.inr "at", .p (.int k'))] := by
        have := Option.some.inj hd
        have := Option.some.inj this
        injection this with this
        exact this.symm
      subst this
      intro kv hkv m hm
      simp at hkv
      rcases hkv with rfl | rfl | rfl
      · cases hm
        simp [mk]
      · cases hm
      · cases hm
    | 1 =>
      have := Option.some.inj hd
      cases this
    | i + 2 =>
      left
      have hi' : i < rest.length := by
        simp [mk] at hi
        omega
      show rest[i]? = (rest ++ r)[i]?
      rw [List.getElem?_append_left hi']
@[simp] theorem fin_mk0 (sm k sm' k' : Int) (cells cells' : List Int) (rest : S) (x : P) : fin (mk sm k cells rest) (.p x) (mk sm' k' cells' rest) = .ok (.p x) (mk sm' k' cells' rest) := by
  have := fin_mk sm k sm' k' cells cells' rest [] x
  rwa [List.append_nil] at this
end
end CW

end
section
set_option maxRecDepth 100000
set_option maxHeartbeats 2000000
/-! CW, thirteenth part: items as targets; a tuple of any values told at once. -/
namespace CW
open PySem PySem.Spec PyProof.Rows L2
section
variable {C : Cf} {sc scope : Scope} {N : List Str} {k : Nat} {pos p2 p3 pt apos cpos : Pos} {e a b o i tg iter elt : Expr} {m ma mb mo mi md : EF} {es ifs ts : List Expr} {ms : List EF} {sts : List Stmt} {f : SF}
def dputG (md mi : EF) : GF := fun v ρ => bnd (md ρ) fun d => bnd (mi ρ) fun i s => match d, dctD d s, keyD i with
  | .obj n, some kvs, some q => if kvs.length < sizeLine then .ok ρ (s.set n (some (.dic (putD kvs q v)))) else .bad
  | _, _, _ => .bad
theorem g_dput (ho : SE C sc N k o md) (hi : SE C sc N k i mi)
    (ha : ∀ env v, assign (.Subscript o i p3) env v = (do
      let ov ← holding [v] (eval o env)
      let iv ← holding [v, ov] (eval i env)
      standAt p3
      holding [v, ov, iv] (setItem ov iv v)
      release [v, ov, iv] []) := by intro _ _; rfl) : SG C sc N k (.Subscript o i p3) (dputG md mi) [] := fun X ok => by
  obtain ⟨t1, p1, q1⟩ := ho X ok
  obtain ⟨t2, p2, q2⟩ := hi X ok
  refine ⟨_, pg_sub p1 p2 (set_dict (hu_of ok.rm)) (ha X.env), fun vv v σ H W s ρ Q r1 er A z => ?_⟩
  refine q1 σ H W s ρ _ er A ((Good.bnd z).mono fun d s2 z2 W2 H2 vd e2 r2 A2 => ?_)
  refine q2 σ H2 W2 s2 ρ _ (er.up e2) A2 ((Good.bnd z2).mono fun i s3 z3 W3 H3 vi e3 r3 A3 => ?_)
  split at z3
  · rename_i n kvs q hq hd
    split at z3
    · rename_i hl
      obtain ⟨n', a, ws, hn, hs, h3, rfl, h4, h5⟩ := dct_at (r2.up e3) A3 hd
      cases hn
      have hy := key_rel r3 hq
      subst hy
      have hlen : ws.length < sizeLine := by rw [Paired.length h5]; exact hl
      have ev : Ev W3 H3 W3 (upd H3 a (.dK (putK ws q vv))) := Ev.put (o' := .dic []) A3 hs h3
      exact ⟨a, _, rfl, DPut.k h4 hlen, z3 W3 _ _ ((e2.trans e3).trans ev) (((er.up e2).up e3).up ev) (A3.put hs h3 ⟨_, upd_same, ((h5.up ev).put (((r1.up e2).up e3).up ev))⟩) Agr.rfl⟩
    · exact z3.elim
  · exact z3.elim
def lputG (mo mi : EF) : GF := fun v ρ => bnd (mo ρ) fun d => bnd (mi ρ) fun i s => match d, v, i with
  | .obj n, .p x, .p (.int z) => match s[n]? with
    | some (some (.lst xs)) => match ixN xs.length z with
      | some j => .ok ρ (s.set n (some (.lst (xs.set j x))))
      | none => .bad
    | _ => .bad
  | _, _, _ => .bad
theorem g_lput (ho : SE C sc N k o mo) (hi : SE C sc N k i mi)
    (ha : ∀ env v, assign (.Subscript o i p3) env v = (do
      let ov ← holding [v] (eval o env)
      let iv ← holding [v, ov] (eval i env)
      standAt p3
      holding [v, ov, iv] (setItem ov iv v)
      release [v, ov, iv] []) := by intro _ _; rfl) : SG C sc N k (.Subscript o i p3) (lputG mo mi) [] := fun X ok => by
  obtain ⟨t1, p1, q1⟩ := ho X ok
  obtain ⟨t2, p2, q2⟩ := hi X ok
  refine ⟨_, pg_sub p1 p2 set_list (ha X.env), fun vv v σ H W s ρ Q r1 er A z => ?_⟩
  refine q1 σ H W s ρ _ er A ((Good.bnd z).mono fun d s2 z2 W2 H2 vd e2 r2 A2 => ?_)
  refine q2 σ H2 W2 s2 ρ _ (er.up e2) A2 ((Good.bnd z2).mono fun i s3 z3 W3 H3 vi e3 r3 A3 => ?_)
  split at z3
  · rename_i n x iz
    split at z3
    · rename_i xs hx
      split at z3
      · rename_i j hj
        cases r3
        obtain ⟨a, h4, rfl⟩ := r2.up e3
        obtain ⟨a', h5, _, vs, h6, h7⟩ := A3.ob n _ hx
        rw [h4] at h5
        cases h5
        have ev : Ev W3 H3 W3 (upd H3 a (.lst (vs.set j vv))) := Ev.put (o' := .lst []) A3 hx h4
        refine ⟨a, vs, _, j, rfl, rfl, h6, by rw [h7.len]; exact hj, z3 W3 _ _ ((e2.trans e3).trans ev) (((er.up e2).up e3).up ev) (A3.put hx h4 ⟨_, upd_same, PVs.put ?_ j (PVs.up ev h7)⟩) Agr.rfl⟩
        exact PV.up ev (PV.up e3 (PV.up e2 r1))
      · exact z3.elim
    · exact z3.elim
  · exact z3.elim
/-! ### t1, t2, .. = e1, e2, .. -/
def SGD (C : Cf) (sc : Scope) (N : List Str) (k : Nat) (ts : List Expr) (g : List D → En → M En) (pl : List Nat) : Prop :=
  ∀ X, Cok C sc N k X → ∃ t, PGs X ts t ∧ ∀ vs ds σ H W s ρ Q, DVs C.K W H vs ds → ER C.K W H σ ρ → Abs C.K W s H → Good (g ds ρ s) (PoG C.K W H pl σ Q) → t vs σ H Q
def nilT : List D → En → M En := fun ds ρ s => match ds with
  | [] => .ok ρ s
  | _ => .bad
def consT (g : GF) (r : List D → En → M En) : List D → En → M En := fun ds ρ => match ds with
  | d :: ds => bnd (g d ρ) fun ρ' => r ds ρ'
  | [] => bad
theorem gd_nil : SGD C sc N k [] nilT [] := fun X ok => by
  refine ⟨_, pgs_nil, fun vs ds σ H W s ρ Q r er A g => ?_⟩
  cases r with
  | nil => exact ⟨rfl, g W H _ Ev.rfl er A Agr.rfl⟩
  | cons _ _ => exact g.elim
theorem gd_cons {h : GF} {r : List D → En → M En} {pl pl' : List Nat} (h1 : SG C sc N k tg h pl) (h2 : SGD C sc N k ts r pl') (hs : ∀ env, (assignEach (tg :: ts) env).map (·.2) = assign tg env :: (assignEach ts env).map (·.2) := by intro _; rfl) : SGD C sc N k (tg :: ts) (consT h r) (pl ++ pl') := fun X ok => by
  obtain ⟨t, p, q⟩ := h1 X ok
  obtain ⟨u, p', q'⟩ := h2 X ok
  refine ⟨_, pgs_cons p p' (hs X.env), fun vs ds σ H W s ρ Q rv er A g => ?_⟩
  cases rv with
  | nil => exact g.elim
  | cons hv hr =>
    refine ⟨_, _, rfl, q _ _ σ H W s ρ _ hv er A (Good.mono (Good.bnd g) fun ρ1 s1 h1 W1 H1 σ1 e1 er1 A1 ag => ?_)⟩
    exact q' _ _ σ1 H1 W1 s1 ρ1 Q (DVs.up e1 hr) er1 A1 (Good.mono h1 fun _ _ z W2 H2 σ2 e2 er2 A2 ag2 => z W2 H2 σ2 (e1.trans e2) er2 A2 (ag.trans ag2))
def tasF (ms : List EF) (g : List D → En → M En) : SF := fun ρ => bnd (evA ms ρ) fun ds => bnd (g ds ρ) fun ρ' => ret (.nx ρ')
theorem x_tas {j x1 : Nat} {g : List D → En → M En} {pl : List Nat} (he : SAs C sc N k es ms) (hg : SGD C sc N k ts g pl) (hl : ms.length ≤ sizeLine := by decide) (hlt : ts.length = ms.length := by rfl) (hs : ∀ env : Env, env.scope = sc → swapsWithSole [.Tuple ts j pt] (.Tuple es x1 p2) pos.line env = pure false := by intro _ _; rfl)
    (hw : ∀ env : Env, env.scope = sc → swappedStores [.Tuple ts j pt] (.Tuple es x1 p2) env = pure none := by intro env h; cases env; cases h; rfl)
    (hn : ∀ env, (assignEach ts env).length = ts.length := by intro _; rfl) (hst : ∀ env, (assignEach ts env).findIdx? (·.1) = none := by intro _; rfl)
    (h1 : ∀ env, (assignEach [.Tuple ts j pt] env).map (·.2) = [assign (.Tuple ts j pt) env] := by intro _; rfl) : SS C sc N k (.Assign [.Tuple ts j pt] (.Tuple es x1 p2) pos) (tasF ms g) := fun X ok => by
  obtain ⟨t, p, q⟩ := he X ok.toCok
  obtain ⟨u, p', q'⟩ := hg X ok.toCok
  refine ⟨_, ps_asg (pe_tup p) (pg_tup ok.calm p' (hn X.env) (hst X.env)) (hs X.env ok.eS) (hw X.env ok.eS) (h1 X.env), fun D σ H W s ρ er A g => ?_⟩
  rw [ok.eK]
  refine q σ H W s ρ _ er A (g.bnd.len.mono fun ds s1 ⟨z, h2⟩ W1 H1 vs e1 r1 A1 => ?_)
  refine ⟨by rw [Paired.length r1, z]; exact hl, fun o ho => ?_⟩
  have ev := Ev.new (W := W1) (o := HO.tup vs) ho
  refine ⟨_, _, rfl, SqT.of upd_same, by rw [Paired.length r1, z, hlt], ?_⟩
  refine q' _ _ σ _ W1 s1 ρ _ (DVs.up ev r1) ((er.up e1).up ev) (A1.new ho) ((Good.bnd h2).mono fun ρ' s2 z2 W2 H2 σ2 e2 er2 A2 _ => ?_)
  exact z2 W2 H2 σ2 ((e1.trans ev).trans e2) er2 A2
/-! ### as equations -/
variable {ρ : En} {s : S}
@[simp] theorem nilT_ev : nilT [] ρ s = .ok ρ s := rfl
@[simp] theorem consT_ev (g : GF) (r : List D → En → M En) (x : D) (xs : List D) : consT g r (x :: xs) ρ s = R.bind (g x ρ s) (r xs) := by
  show bnd _ _ _ = _
  rw [bnd_ev]
@[simp] theorem tasF_ev (g : List D → En → M En) : tasF ms g ρ s = R.bind (evA ms ρ s) fun ds s1 => R.bind (g ds ρ s1) fun ρ' s2 => .ok (.nx ρ') s2 := by
  unfold tasF; rw [bnd_ev]; congr
def gk (ρ : En) : Fl → M En := fun r s => match r with
  | .nx _ => .ok ρ s
  | _ => .bad
@[simp] theorem gk_nx (ρ' : En) : gk ρ (.nx ρ') s = .ok ρ s := rfl
@[simp] theorem dputG_ev (v : D) : dputG ma mb v ρ s = R.bind (ma ρ s) fun d s2 => R.bind (mb ρ s2) fun i s3 => R.bind (dputk ρ v d i s3) (gk ρ) := by
  unfold dputG
  rw [bnd_ev]
  congr
  funext d s2
  rw [bnd_ev]
  congr
  funext i s3
  unfold dputk
  cases d with
  | p x => rfl
  | obj n =>
    cases dctD (.obj n) s3 with
    | none => rfl
    | some kvs =>
      cases keyD i with
      | none => rfl
      | some q =>
        dsimp only
        by_cases h : kvs.length < sizeLine
        · rw [if_pos h, if_pos h]; rfl
        · rw [if_neg h, if_neg h]; rfl
@[simp] theorem lputG_ev (v : D) : lputG ma mb v ρ s = R.bind (ma ρ s) fun d s2 => R.bind (mb ρ s2) fun i s3 => R.bind (lputk ρ v d i s3) (gk ρ) := by
  unfold lputG
  rw [bnd_ev]
  congr
  funext d s2
  rw [bnd_ev]
  congr
  funext i s3
  unfold lputk
  cases d with
  | p x => rfl
  | obj n =>
    cases v with
    | obj _ => rfl
    | p x =>
      cases i with
      | obj _ => rfl
      | p y =>
        cases y with
        | int z =>
          dsimp only
          cases s3[n]? with
          | none => rfl
          | some o => cases o with
            | none => rfl
            | some o => cases o with
              | dic _ => rfl
              | lst xs =>
                dsimp only
                cases ixN xs.length z <;> rfl
        | _ => rfl
end
end CW

end
section
set_option maxRecDepth 100000
set_option maxHeartbeats 2000000
/-! CW, fourteenth part: zip of a list and a tuple. -/
namespace CW
open PySem PySem.Spec PyProof.Rows L2
/-- what zip of the list at a and the tuple at b yields -/
def ItzM (K : PySem.W.Frag) (a b : Addr) : It :=
  ⟨fun n G => ∃ (l m : List V) (p q : V), (SqL K G a l ∧ SqT K G b m) ∧ l[n]? = some p ∧ m[n]? = some q,
    fun n G r G' => ∃ o p q, r = .ref o ∧ G o = none ∧ G' = upd G o (.tup [p, q]) ∧ (∀ l, SqL K G a l → l[n]? = some p) ∧ ∀ m, SqT K G b m → m[n]? = some q,
    fun n G => ∃ l m : List V, (SqL K G a l ∧ SqT K G b m) ∧ (n ≤ l.length ∧ n ≤ m.length) ∧ (n = l.length ∨ n = m.length)⟩
/-- how its cells stand -/
def ZmSt (a b z c d i j : Addr) (n : Nat) (h : Heap) : Prop := (IsZip h z c d .none ∧ IsPair h c (.ref i) (.ref j)) ∧ (∃ x y, IsPair h d x y) ∧ h.IsListIter i a n ∧ h.IsTupleIter j b n
theorem five_of {x z c d i j : Addr} (h : x ∈ [z, c, d, i, j]) : x = z ∨ x = c ∨ x = d ∨ x = i ∨ x = j := by simpa using h
theorem turn_zipM {P : Program} {w : World} {K : PySem.W.Frag} {elts : List Expr} {kk : Nat} {tpos : Pos} {a b z c d i j : Addr} (D : ZipApart z c d i j a b) : Turn P w K (.Tuple elts kk tpos) (ItzM K a b) [z, c, d, i, j] z (ZmSt a b z c d i j) := by
  have sep : ZipSep2 z c d i j [i, a] [j, b] := ⟨D.TIz, D.TOz, D.TITO, D.TIi1, by simp, by simp [D.i1z.symm, D.l1z.symm], by simp [D.TOi1, D.l1TO.symm], D.TIi2, by simp, by simp [D.i2z.symm, D.l2z.symm], by simp [D.TOi2, D.l2TO.symm], by simp [D.i12, D.l2i1.symm], by simp [D.i12.symm, D.l1i2.symm]⟩
  refine ⟨by simp, fun n h st x hx => ?_, fun n h h' st k => ?_, fun X hP hw hK hc n pins s σ H E I hf st hg => ?_, fun X hP hw hK hc n pins s σ H E I hf st hg => ?_, fun A n s Q E st h => wpAny_pyIter_zip st.1.1 h⟩
  · obtain ⟨⟨s1, s2⟩, ⟨u, v, s3⟩, ⟨o1, e1, _, d1⟩, ⟨o2, e2, _, d2⟩⟩ := st
    rcases five_of hx with rfl | rfl | rfl | rfl | rfl
    · exact ⟨_, s1, fun v q => nomatch q⟩
    · exact ⟨_, s2, fun v q => nomatch q⟩
    · exact ⟨_, s3, fun v q => nomatch q⟩
    · exact ⟨o1, e1, fun v q => by rw [d1] at q; cases q⟩
    · exact ⟨o2, e2, fun v q => by rw [d2] at q; cases q⟩
  · obtain ⟨⟨s1, s2⟩, ⟨u, v, s3⟩, s4, s5⟩ := st
    exact ⟨⟨k z (by simp) _ s1, k c (by simp) _ s2⟩, ⟨u, v, k d (by simp) _ s3⟩, s4.at fun o q => k i (by simp) o q, s5.at fun o q => k j (by simp) o q⟩
  · subst hP hw hK
    obtain ⟨⟨s1, s2⟩, ⟨u, v, s3⟩, s4, s5⟩ := st
    obtain ⟨l, m, p, q, ⟨hl, hm⟩, hp, hq⟩ := hg
    obtain ⟨us, ru, pl, _⟩ := I.list hl
    obtain ⟨vs, rv, pt, _⟩ := I.tuple hm
    have hh : X.A.in1.handled = none := I.ok.hd hc
    obtain ⟨x, hx, rx⟩ := ru.get hp
    obtain ⟨y, hy, ry⟩ := rv.get hq
    have n1 : n < us.toArray.size := by simpa using (List.getElem?_eq_some_iff.mp hx).1
    have n2 : n < vs.toArray.size := by simpa using (List.getElem?_eq_some_iff.mp hy).1
    have zl : z < s.heap.objs.size := Heap.lt_size s1
    refine wpAny_pyNext_zipD2_item sep (Draws.list hh i a D.l1i1 us.toArray) (Draws.tuple hh j b D.l2i2 vs.toArray) s1 s2 s3 ⟨s4, pl.isList⟩ ⟨s5, pt⟩ n1 n2 fun x1 x2 h1 tk g1 g2 z1 t1 f1 f2 hT hsz hk => ?_
    have q1 : x1 = x := by simpa [hx] using g1.symm
    have q2 : x2 = y := by simpa [hy] using g2.symm
    subst q1 q2
    refine ⟨_, rfl, wpAny_letOwnedTupleGo_zip (s := { s with heap := h1, toks := tk }) z1 fun h2 z2 sb => ?_⟩
    have hT2 : h2.get? s.heap.objs.size = some _ := (sb.2 _ (Nat.ne_of_gt zl)).trans hT
    have new : ObjOk X.prog X.w (upd H s.heap.objs.size (.tup [p, q])) h2 s.heap.objs.size (.tup [p, q]) := ⟨(by decide : 2 ≤ sizeLine), [x1, x2], .cons rx (.cons ry .nil), ⟨_, hT2, rfl, _, rfl⟩⟩
    have I1 : Inv X pins σ (upd H s.heap.objs.size (.tup [p, q])) { s with heap := h2, toks := tk } := I.turnedNew (t' := tk) (ch := [z, c, d, i, j]) (fun x o hb e => (sb.2 x fun e' => hb (by simp [e'])).trans (hk x o (fun e' => hb (by simp [e'])) (fun e' => hb (by simp [e'])) (fun e' => hb (by simp [e'])) (fun e' => hb (by simp [e'])) e)) hf (Nat.le_refl _) new
    refine ⟨.ref s.heap.objs.size, _, I1, rfl, ⟨_, p, q, rfl, I.hok.fresh (Nat.le_refl _), rfl, fun l' h' => ?_, fun m' h' => by rw [I.tuple_inj h' hm]; exact hq⟩, ⟨⟨z2, (sb.2 _ D.TIz).trans (hk _ _ D.TIz D.TITO D.TIi1 D.TIi2 s2)⟩, ⟨x1, x2, (sb.2 _ D.TOz).trans t1⟩, f1.1.at fun o e => (sb.2 _ D.i1z).trans e, f2.1.at fun o e => (sb.2 _ D.i2z).trans e⟩, fun x hx => ?_⟩
    · rw [I.list_inj h' hl]; exact hp
    · have lt : x < s.heap.objs.size := by
        rcases five_of hx with rfl | rfl | rfl | rfl | rfl
        · exact zl
        · exact Heap.lt_size s2
        · exact Heap.lt_size s3
        · exact s4.elim fun _ e => Heap.lt_size e.1
        · exact s5.elim fun _ e => Heap.lt_size e.1
      rw [upd_ne (Nat.ne_of_lt lt)]
      exact (hf x hx).1
  · subst hP hw hK
    obtain ⟨⟨s1, s2⟩, ⟨u, v, s3⟩, s4, s5⟩ := st
    obtain ⟨l, m, ⟨hl, hm⟩, ⟨hl1, hm1⟩, he⟩ := hg
    obtain ⟨us, ru, pl, _⟩ := I.list hl
    obtain ⟨vs, rv, pt, _⟩ := I.tuple hm
    have hh : X.A.in1.handled = none := I.ok.hd hc
    have c1 : us.toArray.size = l.length := by rw [List.size_toArray]; exact ru.length.symm
    have c2 : vs.toArray.size = m.length := by rw [List.size_toArray]; exact rv.length.symm
    exact wpAny_pyNext_zipD2_end sep (Draws.list hh i a D.l1i1 us.toArray) (Draws.tuple hh j b D.l2i2 vs.toArray) s1 s2 s3 ⟨s4, pl.isList⟩ ⟨s5, pt⟩ (by omega) (by omega) (by omega) fun h1 tk hk => ⟨rfl, I.turnedL (t' := tk) (ch := [z, c, d, i, j]) (fun x o hb e => hk x o (fun e' => hb (by simp [e'])) (fun e' => hb (by simp [e'])) (fun e' => hb (by simp [e'])) (fun e' => hb (by simp [e'])) e) hf⟩
end CW
namespace CW
open PySem PySem.Spec PyProof.Rows L2
section
variable {C : Cf} {sc scope : Scope} {N : List Str} {k : Nat} {pos p2 p3 apos cpos : Pos} {e a b o tg iter elt : Expr} {m ma mb mo : EF} {es ifs : List Expr} {ms : List EF} {sts : List Stmt} {f : SF}
def iZipM (K : PySem.W.Frag) (ta : TA) : TI := fun σ H R => ta σ H fun vs H1 => ∃ a b l m, vs = [.ref a, .ref b] ∧ (SqL K H1 a l ∧ SqT K H1 b m) ∧ R (ItzM K a b) H1
theorem pi_zipM {X : Cx} {e1 e2 : Expr} {ta : TA} {p pos tpos : Pos} {elts : List Expr} {kk : Nat} (hg : Gl X "zip") (hm : X.mg "zip" = none) (ha : PA X [e1, e2] ta)
    (hs : starEach [e1, e2] X.env = (false, eval e1 X.env) :: starEach [e2] X.env) (hpl : (backTo pos (starEach [e2] X.env)).any (·.1) = false) : PI X (.Tuple elts kk tpos) (.Call (.Name "zip" p) [e1, e2] [] pos) (iZipM X.K ta) := ⟨fun pins s σ H R I h => by
  refine Call_ (ld_blt I hg hm boot_zip (callWith_type1 (thn (ha.run pos pins s σ H _ I h) fun us s1 ⟨vs, H1, I1, r1, q1⟩ => ?_) hs hpl))
  obtain ⟨a, b, l, m, rfl, ⟨hl, hm⟩, q⟩ := q1
  cases r1 with
  | cons r rr => cases rr with
    | cons r' rr =>
      cases rr; cases r; cases r'
      obtain ⟨us, ru, pl, _⟩ := I1.list hl
      obtain ⟨vs, rv, pt, _⟩ := I1.tuple hm
      obtain ⟨ot, hot, _⟩ := id pt
      refine zip_begins2 (begins_list a us.toArray) (begins_tuple b vs.toArray) pl.isList pt fun h1 z1 c1 d1 f1 f2 hsz hk => wpAny_pyIter_zip z1 ?_
      have I2 : Inv X pins σ H1 { s1 with heap := h1 } := I1.kept (t' := s1.toks) hk
      refine ⟨s1.heap.objs.size + 4, [s1.heap.objs.size + 4, s1.heap.objs.size + 2, s1.heap.objs.size + 3, s1.heap.objs.size, s1.heap.objs.size + 1], _, _, H1, rfl, I2, turn_zipM (PySem.W.ktu_apart s1.heap.objs.size a b pl.lt (Heap.lt_size hot)), ⟨⟨z1, c1⟩, ⟨_, _, d1⟩, ⟨_, f1, rfl, rfl⟩, ⟨_, f2, rfl, rfl⟩⟩, fun x hx => ?_, q⟩
      have hle : s1.heap.objs.size ≤ x := by rcases five_of hx with rfl | rfl | rfl | rfl | rfl <;> first | exact Nat.le_refl _ | exact Nat.le_add_right _ _
      exact I1.fpOk hle (I1.hok.fresh hle)⟩
theorem itm_ok {a b : Addr} {W : Wd} {H : Hp} {xs ys : List P} {us : List V} {g : Gd} (h : RowOk C.K a W H xs g) (h3 : SqT C.K H b us) (h4 : PVs C.K W.fr H us ys) : ItOk C.K (ItzM C.K a b) W H (zipP xs ys) g := fun W1 H1 s1 e A1 hg i => by
  obtain ⟨vs, h1, h2⟩ := h W1 H1 s1 e A1 hg
  have t3 := e.sqt h3
  have t4 := PVs.up e h4
  refine ⟨fun z hz => ?_, fun hi => ?_⟩
  · obtain ⟨x, y, hx, hy, rfl⟩ : ∃ x y, xs[i]? = some x ∧ ys[i]? = some y ∧ z = .tup [x, y] := by
      unfold zipP at hz
      rw [List.getElem?_zipWith] at hz
      cases e1 : xs[i]? with
      | none => rw [e1] at hz; cases hz
      | some x => cases e2 : ys[i]? with
        | none => rw [e1, e2] at hz; cases hz
        | some y => rw [e1, e2] at hz; exact ⟨x, y, rfl, rfl, (Option.some.inj hz).symm⟩
    obtain ⟨v, g1, g2⟩ := h2.get hx
    obtain ⟨u, g3, g4⟩ := t4.get hy
    refine ⟨⟨vs, us, v, u, ⟨h1, t3⟩, g1, g3⟩, fun w H' hw => ?_⟩
    obtain ⟨T, p, q, rfl, hT, rfl, hp, hq⟩ := hw
    have ev : Ev W1 H1 W1 (upd H1 T (.tup [p, q])) := Ev.new hT
    exact ⟨ev, .tup (SqT.of upd_same) (.cons (PV.up ev (h2.len_get hx (hp vs h1))) (.cons (PV.up ev (t4.len_get hy (hq us t3))) .nil)), A1.new hT⟩
  · have l1 := h2.len
    have l2 := t4.len
    unfold zipP at hi
    rw [List.length_zipWith] at hi
    exact ⟨vs, us, ⟨h1, t3⟩, by omega, by omega⟩
def zimI (ma mb : EF) : IF := fun ρ => bnd (ma ρ) fun x => bnd (mb ρ) fun y s => match rowD x s, y with
  | some r, .p (.tup ys) => .ok (zipP r.1 ys, r.2) s
  | _, _ => .bad
theorem i_zim {elts : List Expr} {kk : Nat} {tpos : Pos} (h : SE C sc N k a ma) (h' : SE C sc N k b mb) (hm : C.mg "zip" = none) (hg : GlS sc "zip" := by rfl) (hs : ∀ env, starEach [a, b] env = (false, eval a env) :: starEach [b] env := by intro _; rfl)
    (hs2 : ∀ env, starEach [b] env = (false, eval b env) :: starEach [] env := by intro _; rfl) (hp : ∀ env, (backTo pos (starEach [b] env)).any (·.1) = false := by intro _; rfl) :
    SI C sc N k (.Tuple elts kk tpos) (.Call (.Name "zip" p2) [a, b] [] pos) (zimI ma mb) := fun X ok => by
  obtain ⟨t, p, q⟩ := h X ok
  obtain ⟨t', p', q'⟩ := h' X ok
  refine ⟨_, pi_zipM (hg.of ok) (by rw [ok.em]; exact hm) (pa_cons p (pa_cons p' pa_nil (hs2 X.env)) (hs X.env)) (hs X.env) (hp X.env), fun σ H W s ρ R er A g => ?_⟩
  refine q σ H W s ρ _ er A ((Good.bnd g).mono fun d s1 z W1 H1 v e1 r1 A1 => ?_)
  refine q' σ H1 W1 s1 ρ _ (er.up e1) A1 ((Good.bnd z).mono fun d' s2 z2 W2 H2 v' e2 r2 A2 => ?_)
  split at z2
  · rename_i r ys hr
    obtain ⟨xs, gd⟩ := r
    obtain ⟨a, rfl, ⟨vs, h1⟩, h2⟩ := row_go (r1.up e2) A2 hr
    cases r2 with
    | tup h3 h4 =>
      rw [ok.eK]
      exact ⟨a, _, vs, _, rfl, ⟨h1, h3⟩, z2 W2 H2 _ (e1.trans e2) A2 (itm_ok h2 h3 h4)⟩
  · exact z2.elim
end
end CW
namespace CW
open PySem PySem.Spec PyProof.Rows L2
section
variable {C : Cf} {k : Nat}
theorem PVs.drop1 {K : PySem.W.Frag} {F : Addr → Prop} {H : Hp} : ∀ {vs : List V} {xs : List P}, PVs K F H vs xs → PVs K F H vs.dropLast xs.dropLast
  | _, _, .nil => .nil
  | _, _, .cons h .nil => .nil
  | _, _, .cons h (.cons h2 r) => .cons h (PVs.drop1 (.cons h2 r))
def popD : D → List D → M D := fun d ds s => match d, ds with
  | .obj n, [] => match s[n]? with
    | some (some (.lst xs)) => match xs[xs.length - 1]? with
      | some y => .ok (.p y) (s.set n (some (.lst xs.dropLast)))
      | none => .bad
    | _ => .bad
  | _, _ => .bad
theorem m_pop : MtS C k "list.pop" popD := fun X ok => ⟨_, mt_pop, fun W s H x d xs ds Q rx r A g => by
  unfold popD at g
  split at g
  · split at g
    · rename_i ys hn
      split at g
      · rename_i y hy
        obtain ⟨a, vs, ha, rfl, h1, h2⟩ := obj_lst rx A hn
        obtain ⟨u, h3, h4⟩ := h2.get hy
        cases r with
        | nil => exact ⟨a, vs, u, rfl, rfl, h1, by rw [h2.len]; exact h3, put_go A hn ha (PVs.drop1 h2) (d := .p y) h4 g⟩
      · exact g.elim
    · exact g.elim
  · exact g.elim⟩
def popk (xs : Option (List P)) (n : Nat) : M D := fun s => match xs with
  | some xs => match xs[xs.length - 1]? with
    | some y => .ok (.p y) (s.set n (some (.lst xs.dropLast)))
    | none => .bad
  | none => .bad
@[simp] theorem pop_obj (n : Nat) (s : S) : popD (.obj n) [] s = popk (lsAt n s) n s := by
  unfold popD popk lsAt
  dsimp only
  cases s[n]? with
  | none => rfl
  | some o => cases o with
    | none => rfl
    | some o => cases o <;> rfl
end
end CW

end
section
set_option maxRecDepth 100000
set_option maxHeartbeats 2000000
/-! plain: fractions -/
namespace CW
open PySem PySem.Spec PyProof.Rows L2
/-- a fraction as the program writes it -/
def fq (q : Rat) : P := if q.den = 1 then .int q.num else .tup [.int q.num, .int q.den]
/-- both numbers lie below 2 ^ b -/
def sz (q : Rat) (b : Nat) : Prop := q.num.natAbs < 2 ^ b ∧ q.den < 2 ^ b
def szi (i : Int) (b : Nat) : Prop := i.natAbs < 2 ^ b
instance (i : Int) (b : Nat) : Decidable (szi i b) := inferInstanceAs (Decidable (_ < _))
theorem szi.log {i : Int} {b : Nat} (h : szi i b) (hb : 0 < b) : i.natAbs.log2 < b := by
  by_cases h0 : i.natAbs = 0
  · rw [h0]; simpa using hb
  · exact (Nat.log2_lt h0).mpr h
theorem szi.mulOk {i j : Int} {a b : Nat} (hi : szi i a) (hj : szi j b) (h : a + b < 1000000) (ha : 0 < a) (hb : 0 < b) : mulOk i j := by
  have := hi.log ha
  have := hj.log hb
  exact Or.inl (by omega)
theorem szi.divOk {i j : Int} {b : Nat} (hj : szi j b) (h : b < 9000) (hb : 0 < b) (h0 : j ≠ 0) : divOk i j :=
  ⟨h0, PyProof.noPylong_of_log2 (by have := hj.log hb; omega)⟩
theorem szi.mono {i : Int} {a b : Nat} (h : szi i a) (hab : a ≤ b) : szi i b := Nat.lt_of_lt_of_le h (Nat.pow_le_pow_right (by decide) hab)
theorem szi.mul {i j : Int} {a b : Nat} (hi : szi i a) (hj : szi j b) : szi (i * j) (a + b) := by
  unfold szi at *
  rw [Int.natAbs_mul, Nat.pow_add]
  by_cases h : j.natAbs = 0
  · rw [h, Nat.mul_zero]; exact Nat.mul_pos (Nat.pow_pos (by decide)) (Nat.pow_pos (by decide))
  · exact Nat.mul_lt_mul_of_lt_of_lt hi hj
theorem szi.add {i j : Int} {a : Nat} (hi : szi i a) (hj : szi j a) : szi (i + j) (a + 1) := by
  unfold szi at *
  rw [Nat.pow_succ]
  have := Int.natAbs_add_le i j
  omega
theorem szi.neg {i : Int} {a : Nat} (hi : szi i a) : szi (-i) a := by
  unfold szi at *
  rwa [Int.natAbs_neg]
theorem szi.sub {i j : Int} {a : Nat} (hi : szi i a) (hj : szi j a) : szi (i - j) (a + 1) := by
  rw [Int.sub_eq_add_neg]
  exact hi.add hj.neg
/-! the lowest terms -/
/-- what the greatest common divisor, with the sign of the bottom, leaves -/
theorem low_eq {t b g : Int} (hb : b ≠ 0) (hg : g = b.sign * (Int.gcd t b : Nat)) : g ≠ 0 ∧ t = (Rat.divInt t b).num * g ∧ b = ((Rat.divInt t b).den : Int) * g := by
  have h0 : Int.gcd t b ≠ 0 := by
    intro h
    exact hb (Int.gcd_eq_zero_iff.mp h).2
  have hs : b.sign ≠ 0 := by
    intro h
    exact hb (Int.sign_eq_zero_iff_zero.mp h)
  have hg0 : g ≠ 0 := by
    rw [hg]
    exact Int.mul_ne_zero hs (by omega)
  have hss : b.sign * b.sign = 1 := by
    rcases Int.lt_trichotomy b 0 with h | h | h
    · rw [Int.sign_eq_neg_one_of_neg h]; rfl
    · exact absurd h hb
    · rw [Int.sign_eq_one_of_pos h]; rfl
  refine ⟨hg0, ?_, ?_⟩
  · rw [Rat.num_divInt, hg, Int.gcd_comm b t]
    obtain ⟨c, hc⟩ : (Int.gcd t b : Int) ∣ t := Int.gcd_dvd_left ..
    have e : b.sign * t = (b.sign * c) * (Int.gcd t b : Int) := by
      conv => lhs; rw [hc]
      simp only [Int.mul_comm, Int.mul_left_comm, Int.mul_assoc]
    rw [e, Int.mul_ediv_cancel _ (by omega)]
    have e2 : b.sign * c * (b.sign * (Int.gcd t b : Int)) = (b.sign * b.sign) * ((Int.gcd t b : Int) * c) := by
      simp only [Int.mul_comm, Int.mul_left_comm, Int.mul_assoc]
    rw [e2, hss, Int.one_mul]
    exact hc
  · rw [Rat.den_divInt, if_neg hb, hg, Int.gcd_comm b t]
    have e1 : b.natAbs = (b.natAbs / Int.gcd t b) * Int.gcd t b := (Nat.div_mul_cancel (Int.gcd_dvd_natAbs_right t b)).symm
    have e2 : b = b.sign * (b.natAbs : Int) := (Int.sign_mul_natAbs b).symm
    have e3 : (b.natAbs : Int) = ((b.natAbs / Int.gcd t b : Nat) : Int) * (Int.gcd t b : Int) := by
      rw [← Int.natCast_mul, ← e1]
    conv => lhs; rw [e2, e3]
    simp only [Int.mul_comm, Int.mul_left_comm, Int.mul_assoc]
theorem fdiv_exact {x g : Int} (h : g ≠ 0) : (x * g).fdiv g = x := Int.mul_fdiv_cancel _ h
theorem gcd_mod (a b : Int) (h : b ≠ 0) : Int.gcd b (a.fmod b) = Int.gcd a b := by
  have e : a.fmod b = a + b * (-(a.fdiv b)) := by
    have := Int.fmod_add_mul_fdiv a b
    have : b * -(a.fdiv b) = -(b * a.fdiv b) := by rw [Int.mul_neg]
    omega
  rw [e, Int.gcd_add_mul_left_right, Int.gcd_comm]
end CW

end
section
set_option maxRecDepth 100000
set_option maxHeartbeats 2000000
namespace CW
open PySem PySem.Spec PyProof.Rows L2
/-- how many bits a fraction needs -/
def hz (q : Rat) : Nat := max q.num.natAbs.log2 q.den.log2 + 1
theorem lt_log (n : Nat) : n < 2 ^ (n.log2 + 1) := by
  by_cases h : n = 0
  · subst h; decide
  · exact (Nat.log2_lt h).mp (Nat.lt_succ_self _)
theorem hz_sz (q : Rat) : sz q (hz q) := by
  constructor
  · exact Nat.lt_of_lt_of_le (lt_log _) (Nat.pow_le_pow_right (by decide) (by unfold hz; omega))
  · exact Nat.lt_of_lt_of_le (lt_log _) (Nat.pow_le_pow_right (by decide) (by unfold hz; omega))
theorem hz_pos (q : Rat) : 0 < hz q := Nat.succ_pos _
theorem hz_le {q : Rat} {b : Nat} (hb : 0 < b) (h : sz q b) : hz q ≤ b := by
  unfold hz
  have h1 : q.num.natAbs.log2 < b := by
    by_cases h0 : q.num.natAbs = 0
    · rw [h0]; exact hb
    · exact (Nat.log2_lt h0).mpr h.1
  have h2 : q.den.log2 < b := (Nat.log2_lt q.den_nz).mpr h.2
  omega
theorem hz_num (q : Rat) : szi q.num (hz q) := (hz_sz q).1
theorem hz_den (q : Rat) : szi (q.den : Int) (hz q) := by
  unfold szi
  rw [Int.natAbs_natCast]
  exact (hz_sz q).2
theorem sz_divInt {t b : Int} {n : Nat} (ht : szi t n) (hb : szi b n) (hn : 0 < n) : sz (Rat.divInt t b) n := by
  by_cases h0 : b = 0
  · subst h0
    rw [Rat.divInt_zero]
    exact ⟨Nat.pow_pos (by decide), Nat.one_lt_pow (by omega) (by decide)⟩
  · obtain ⟨hg, e1, e2⟩ := low_eq (t := t) (b := b) h0 rfl
    have hg1 : 1 ≤ (b.sign * (Int.gcd t b : Nat)).natAbs := by omega
    constructor
    · refine Nat.lt_of_le_of_lt ?_ ht
      conv => rhs; rw [e1, Int.natAbs_mul]
      exact Nat.le_mul_of_pos_right _ hg1
    · refine Nat.lt_of_le_of_lt ?_ hb
      conv => rhs; rw [e2, Int.natAbs_mul]
      exact Nat.le_mul_of_pos_right _ hg1
theorem hz_add (a b : Rat) : hz (a + b) ≤ hz a + hz b + 1 := by
  refine hz_le (by omega) ?_
  rw [Rat.add_def', ← Rat.divInt_ofNat]
  refine sz_divInt ?_ ?_ (by omega)
  · exact ((hz_num a).mul (hz_den b)).add (((hz_num b).mul (hz_den a)).mono (by omega))
  · rw [Int.natCast_mul]
    exact ((hz_den a).mul (hz_den b)).mono (by omega)
theorem hz_mul (a b : Rat) : hz (a * b) ≤ hz a + hz b := by
  have := hz_pos a
  refine hz_le (by omega) ?_
  rw [Rat.mul_def', ← Rat.divInt_ofNat]
  refine sz_divInt ?_ ?_ (by omega)
  · exact (hz_num a).mul (hz_num b)
  · rw [Int.natCast_mul]
    exact (hz_den a).mul (hz_den b)
theorem hz_neg (a : Rat) : hz (-a) = hz a := by
  unfold hz
  rw [Rat.neg_num, Rat.neg_den, Int.natAbs_neg]
theorem hz_sub (a b : Rat) : hz (a - b) ≤ hz a + hz b + 1 := by
  rw [Rat.sub_eq_add_neg]
  have := hz_add a (-b)
  rwa [hz_neg] at this
theorem hz_inv (a : Rat) : hz a⁻¹ ≤ hz a := by
  refine hz_le (hz_pos a) ?_
  rw [Rat.inv_def]
  exact sz_divInt (hz_den a) (hz_num a) (hz_pos a)
theorem hz_div (a b : Rat) : hz (a / b) ≤ hz a + hz b := by
  rw [Rat.div_def]
  have := hz_mul a b⁻¹
  have := hz_inv b
  omega
theorem hz_int (n : Int) : hz (n : Rat) = n.natAbs.log2 + 1 := by
  have h : ((1 : Nat)).log2 = 0 := by decide
  show max n.natAbs.log2 (1 : Nat).log2 + 1 = _
  rw [h]
  omega
theorem fq_int (n : Int) : fq (n : Rat) = .int n := rfl
theorem fq_0 : fq 0 = .int 0 := rfl
theorem fq_1 : fq 1 = .int 1 := rfl
theorem fq_inj {a b : Rat} (h : fq a = fq b) : a = b := by
  unfold fq at h
  split at h <;> split at h
  · rename_i h1 h2
    injection h with h
    exact Rat.ext h (h1.trans h2.symm)
  · cases h
  · cases h
  · injection h with h
    injection h with h h3
    injection h with h
    injection h3 with h3
    injection h3 with h3
    exact Rat.ext h (by omega)
theorem mulOk_szi {i j : Int} {a b : Nat} (hi : szi i a) (hj : szi j b) (h : a + b ≤ 100000) (ha : 0 < a) (hb : 0 < b) : mulOk i j := hi.mulOk hj (by omega) ha hb
end CW

end
section
set_option maxRecDepth 100000
set_option maxHeartbeats 2000000
namespace CW
open PySem PySem.Spec PyProof.Rows L2
theorem fmod_less (a : Int) {b : Int} (h : b ≠ 0) : (a.fmod b).natAbs < b.natAbs := by
  rcases Int.lt_or_gt_of_ne h with hb | hb
  · have e := Int.neg_fmod_neg (-a) (-b)
    rw [Int.neg_neg, Int.neg_neg] at e
    have h1 := Int.fmod_nonneg_of_pos (-a) (b := -b) (by omega)
    have h2 := Int.fmod_lt_of_pos (-a) (b := -b) (by omega)
    omega
  · have h1 := Int.fmod_nonneg_of_pos a hb
    have h2 := Int.fmod_lt_of_pos a hb
    omega
def fqPy (q : Rat) : PyData := if q.den = 1 then .int q.num else .tuple [.int q.num, .int q.den]
theorem toPy_fq (q : Rat) : toPy (fq q) = some (fqPy q) := by
  unfold fq fqPy
  split <;> rfl
theorem shaped_fq (q : Rat) : SeqAt.shaped (fqPy q) = true := by
  unfold fqPy
  split
  · rfl
  · rfl
theorem eqv_fq (a b : Rat) : PyData.eqv (fqPy a) (fqPy b) = decide (a = b) := by
  unfold fqPy
  split <;> split
  · rename_i h1 h2
    rw [eqv_int]
    exact decide_eq_decide.mpr ⟨fun h => Rat.ext h (h1.trans h2.symm), fun h => by rw [h]⟩
  · rename_i h1 h2
    rw [show PyData.eqv (.int a.num) (.tuple [.int b.num, .int b.den]) = false from by unfold PyData.eqv; rfl]
    exact (decide_eq_false fun h => h2 (by rw [← h]; exact h1)).symm
  · rename_i h1 h2
    rw [show PyData.eqv (.tuple [.int a.num, .int a.den]) (.int b.num) = false from by unfold PyData.eqv; rfl]
    exact (decide_eq_false fun h => h1 (by rw [h]; exact h2)).symm
  · rename_i h1 h2
    have e : PyData.eqv (.tuple [.int a.num, .int a.den]) (.tuple [.int b.num, .int b.den]) = (decide (a.num = b.num) && (decide ((a.den : Int) = b.den) && true)) := by
      show PyData.eqvAll _ _ = _
      unfold PyData.eqvAll
      rw [eqv_int]
      unfold PyData.eqvAll
      rw [eqv_int]
      unfold PyData.eqvAll
      rfl
    rw [e]
    by_cases h : a = b
    · subst h; simp
    · rw [decide_eq_false h]
      by_cases hn : a.num = b.num
      · have hd : ¬ (a.den : Int) = b.den := fun hd => h (Rat.ext hn (by omega))
        simp [hd]
      · simp [hn]
theorem eq_fq (neg : Bool) (a b : Rat) (s : S) : eqD neg (.p (fq a)) (.p (fq b)) s = .ok (.p (.bl (if neg = true then !decide (a = b) else decide (a = b)))) s := by
  rw [eq_dat neg (d := fqPy a) (e := fqPy b) (by exact toPy_fq a) (by exact toPy_fq b) ⟨shaped_fq a, shaped_fq b⟩, eqv_fq]
theorem eq_fq0 (a : Rat) (s : S) : eqD false (.p (fq a)) (.p (.int 0)) s = .ok (.p (.bl (decide (a = 0)))) s := eq_fq false a 0 s
theorem ne_fq0 (a : Rat) (s : S) : eqD true (.p (fq a)) (.p (.int 0)) s = .ok (.p (.bl (!decide (a = 0)))) s := eq_fq true a 0 s
end CW

end
section
set_option maxRecDepth 100000
set_option maxHeartbeats 2000000
namespace CW
open PySem PySem.Spec PyProof.Rows L2
theorem showable_fq {q : Rat} (h : hz q ≤ 1900) : (fqPy q).showable = true := by
  have h1 : q.num.natAbs.log2 < 1920 := by unfold hz at h; omega
  have h2 : q.den.log2 < 1920 := by unfold hz at h; omega
  unfold fqPy
  split
  · simp only [PyData.showable]
    exact decide_eq_true h1
  · simp [PyData.showable, PyData.showableAll, h1, h2]
theorem noDict_fq (q : Rat) : (fqPy q).hasDict = false := by
  unfold fqPy
  split <;> simp [PyData.hasDict, PyData.hasDictAll]
theorem depth_fq (q : Rat) : (fqPy q).depth ≤ 60 := by
  unfold fqPy
  split <;> simp [PyData.depth, PyData.depthAll]
theorem toS_len {i : Int} (h : i.natAbs.log2 < 1920) : (Str.ofString (toString i)).length ≤ 1921 := by
  rw [PySem.ofString_length]
  exact int_text_length_le (k := 1920) (by decide) h
theorem tupleText2_len (a b : Str) : (tupleText [a, b]).length = a.length + b.length + 4 := by
  have e : tupleText [a, b] = ("(" : Str) ++ (a ++ ", " ++ b) ++ ((if 2 == 1 then ",)" else ")" : String) : Str) := rfl
  rw [e, strLen_append, strLen_append, strLen_append, strLen_append]
  have e1 : ((", " : String) : Str).length = 2 := rfl
  have e2 : ((if 2 == 1 then ",)" else ")" : String) : Str).length = 1 := rfl
  have e3 : ("(" : Str).length = 1 := rfl
  omega
theorem shown_fq_len {q : Rat} (h : hz q ≤ 1900) : (fqPy q).shown.length ≤ sizeLine := by
  have h1 : q.num.natAbs.log2 < 1920 := by unfold hz at h; omega
  have h2 : (q.den : Int).natAbs.log2 < 1920 := by rw [Int.natAbs_natCast]; unfold hz at h; omega
  have l1 := toS_len h1
  have l2 := toS_len h2
  have hs : 4000 ≤ sizeLine := by decide
  unfold fqPy
  split
  · show (Str.ofString (toString q.num)).length ≤ sizeLine
    omega
  · show (tupleText [Str.ofString (toString q.num), Str.ofString (toString (q.den : Int))]).length ≤ sizeLine
    rw [tupleText2_len]
    omega
theorem shw_fq (q : Rat) (s : S) (h : hz q ≤ 1900) : shwD [.p (fq q)] s = .ok (.p (.str (fqPy q).shown)) s := by
  have e : toPyD (.p (fq q)) s = some (fqPy q) := toPy_fq q
  unfold shwD
  dsimp only
  rw [e]
  exact if_pos ⟨showable_fq h, noDict_fq q, depth_fq q, shown_fq_len h⟩
theorem strOk_app {x y : Str} (hx : PyData.strOk x = true) (hy : PyData.strOk y = true) : PyData.strOk (x ++ y) = true := by
  show (x.cps ++ y.cps).all _ = true
  rw [Array.all_append]
  exact Bool.and_eq_true_iff.mpr ⟨hx, hy⟩
theorem strOk_of (s : String) : PyData.strOk (Str.ofString s) = true := by
  unfold PyData.strOk
  rw [Str.ofString_eq_toList]
  simp only [List.all_toArray, List.all_map, List.all_eq_true, Function.comp_apply, decide_eq_true_eq]
  intro c _
  have := c.valid
  rcases this with h | h
  · exact Nat.lt_trans h (by decide)
  · exact h.2
theorem strOk_fq (q : Rat) : PyData.strOk (fqPy q).shown = true := by
  unfold fqPy
  split
  · exact strOk_of _
  · show PyData.strOk (("(" : Str) ++ (Str.ofString (toString q.num) ++ ", " ++ Str.ofString (toString (q.den : Int))) ++ ((if 2 == 1 then ",)" else ")" : String) : Str)) = true
    exact strOk_app (strOk_app (strOk_of _) (strOk_app (strOk_app (strOk_of _) (strOk_of _)) (strOk_of _))) (strOk_of _)
theorem shaped_str {x : Str} (h : PyData.strOk x = true) : SeqAt.shaped (.str x) = true := by
  unfold SeqAt.shaped PyData.canLay0 PyData.depth
  simp [h]
theorem eq_str (neg : Bool) (a b : Str) (s : S) (ha : PyData.strOk a = true) (hb : PyData.strOk b = true) : eqD neg (.p (.str a)) (.p (.str b)) s = .ok (.p (.bl (if neg = true then !(a == b) else (a == b)))) s := by
  rw [eq_dat neg (d := .str a) (e := .str b) rfl rfl ⟨shaped_str ha, shaped_str hb⟩]
  unfold PyData.eqv
  rfl
theorem eq_shown (q : Rat) (s : S) : eqD false (.p (.str (fqPy q).shown)) (.p (.str (fqPy q).shown)) s = .ok (.p (.bl true)) s := by
  rw [eq_str _ _ _ _ (strOk_fq q) (strOk_fq q)]
  simp
theorem ne_shown (q : Rat) (s : S) : eqD true (.p (.str (fqPy q).shown)) (.p (.str (fqPy q).shown)) s = .ok (.p (.bl false)) s := by
  rw [eq_str _ _ _ _ (strOk_fq q) (strOk_fq q)]
  simp
end CW

end
section
set_option maxRecDepth 100000
set_option maxHeartbeats 2000000
/-! plain: how great fractions over one bottom are -/
namespace CW
open PySem PySem.Spec PyProof.Rows L2
/-- q is a whole number of at most n bits over the k-th power of W -/
def Wn (W : Int) (n k : Nat) (q : Rat) : Prop := ∃ N : Int, q * (W : Rat) ^ k = N ∧ szi N n
section
variable {W : Int} {w n m k l : Nat} {a b : Rat}
theorem rc_mul (a b : Int) : ((a * b : Int) : Rat) = (a : Rat) * b := Rat.intCast_mul a b
theorem rc_add (a b : Int) : ((a + b : Int) : Rat) = (a : Rat) + b := Rat.intCast_add a b
theorem rc_neg (a : Int) : ((-a : Int) : Rat) = -(a : Rat) := Rat.intCast_neg a
theorem rc_pow (a : Int) (k : Nat) : ((a ^ k : Int) : Rat) = (a : Rat) ^ k := by
  induction k with
  | zero => rfl
  | succ k ih => rw [Int.pow_succ, rc_mul, ih, Rat.pow_succ]
theorem rpow_add (x : Rat) (k l : Nat) : x ^ (k + l) = x ^ k * x ^ l := by
  induction l with
  | zero => rw [Nat.add_zero, Rat.pow_zero, Rat.mul_one]
  | succ l ih => rw [← Nat.add_assoc, Rat.pow_succ, ih, Rat.pow_succ, Rat.mul_assoc]
theorem szi_pow {i : Int} (h : szi i w) : ∀ k, szi (i ^ k) (w * k + 1)
  | 0 => by rw [Int.pow_zero]; show 1 < 2 ^ 1; decide
  | k + 1 => by
    rw [Int.pow_succ]
    exact ((szi_pow h k).mul h).mono (by rw [Nat.mul_succ]; omega)
theorem Wn.mul (ha : Wn W n k a) (hb : Wn W m l b) : Wn W (n + m) (k + l) (a * b) := by
  obtain ⟨A, a1, a2⟩ := ha
  obtain ⟨B, b1, b2⟩ := hb
  refine ⟨A * B, ?_, a2.mul b2⟩
  rw [rpow_add, rc_mul, ← a1, ← b1]
  grind
theorem Wn.add (ha : Wn W n k a) (hb : Wn W n k b) : Wn W (n + 1) k (a + b) := by
  obtain ⟨A, a1, a2⟩ := ha
  obtain ⟨B, b1, b2⟩ := hb
  refine ⟨A + B, ?_, a2.add b2⟩
  rw [rc_add, ← a1, ← b1]
  grind
theorem Wn.neg (ha : Wn W n k a) : Wn W n k (-a) := by
  obtain ⟨A, a1, a2⟩ := ha
  refine ⟨-A, ?_, a2.neg⟩
  rw [rc_neg, ← a1]
  grind
theorem Wn.mono (ha : Wn W n k a) (h : n ≤ m) : Wn W m k a := by
  obtain ⟨A, a1, a2⟩ := ha
  exact ⟨A, a1, a2.mono h⟩
theorem Wn.up (hw : szi W w) (ha : Wn W n k a) (j : Nat) : Wn W (n + (w * j + 1)) (k + j) a := by
  obtain ⟨A, a1, a2⟩ := ha
  refine ⟨A * W ^ j, ?_, a2.mul (szi_pow hw j)⟩
  rw [rpow_add, rc_mul, rc_pow, ← a1]
  grind
/-- raised to what is asked -/
theorem Wn.to (hw : szi W w) (ha : Wn W n k a) (h : k ≤ l) (h2 : n + (w * (l - k) + 1) ≤ m) : Wn W m l a := by
  have := (ha.up hw (l - k)).mono h2
  rwa [show k + (l - k) = l by omega] at this
theorem Wn.int {c : Int} (h : szi c n) : Wn W n 0 (c : Rat) := ⟨c, by rw [Rat.pow_zero, Rat.mul_one], h⟩
theorem Wn.hz (h0 : W ≠ 0) (hw : szi W w) (ha : Wn W n k a) (h1 : n ≤ m) (h2 : w * k + 1 ≤ m) : hz a ≤ m := by
  obtain ⟨A, a1, a2⟩ := ha
  have hp : (W : Rat) ^ k ≠ 0 := by
    rw [← rc_pow]
    intro h
    have h' : (W ^ k : Int) = 0 := by exact_mod_cast h
    exact Int.pow_ne_zero h0 h'
  have e : a = Rat.divInt A (W ^ k) := by
    rw [Rat.divInt_eq_div, rc_pow, ← a1]
    grind
  refine hz_le (by omega) ?_
  rw [e]
  exact sz_divInt (a2.mono h1) ((szi_pow hw k).mono h2) (by omega)
/-- of the sizes of a fraction -/
theorem Wn.of_den (h : (a.den : Int) ∣ W) (h0 : W ≠ 0) (hn : szi a.num n) (hw : szi W w) : Wn W (n + w) 1 a := by
  obtain ⟨c, hc⟩ := h
  refine ⟨a.num * c, ?_, hn.mul ?_⟩
  · rw [show (W : Rat) ^ 1 = W from Rat.pow_one _, hc, rc_mul, rc_mul]
    have : a * ((a.den : Int) : Rat) = a.num := by
      have e := Rat.num_divInt_den a
      rw [Rat.divInt_eq_div] at e
      have hd : ((a.den : Int) : Rat) ≠ 0 := by
        intro h
        have h' : (a.den : Int) = 0 := by exact_mod_cast h
        have := a.den_nz
        omega
      have e2 : (a.num : Rat) / ((a.den : Int) : Rat) * ((a.den : Int) : Rat) = a * ((a.den : Int) : Rat) := by rw [e]
      rw [Rat.div_mul_cancel hd] at e2
      exact e2.symm
    rw [← Rat.mul_assoc, this]
  · refine Nat.lt_of_le_of_lt ?_ hw
    have hd : (a.den : Int) ≠ 0 := by have := a.den_nz; omega
    rw [hc, Int.natAbs_mul]
    exact Nat.le_mul_of_pos_left _ (by have := a.den_nz; omega)
end
end CW

end
section
set_option maxRecDepth 100000
set_option maxHeartbeats 2000000
/-! plain: sums of products -/
namespace CW
open PySem PySem.Spec PyProof.Rows L2
def prodR (acc : Rat) (r : List Rat) : Rat := r.foldl (· * ·) acc
def sumR (acc : Rat) (rows : List (List Rat)) : Rat := rows.foldl (fun a r => a + prodR 1 r) acc
def totR : List Rat → Nat
  | [] => 0
  | q :: r => hz q + totR r
def totZ : List (List Rat) → Nat
  | [] => 0
  | r :: rows => totR r + 2 + totZ rows
theorem prodR_hz : ∀ (r : List Rat) (acc : Rat), hz (prodR acc r) ≤ hz acc + totR r
  | [], acc => Nat.le_refl _
  | q :: r, acc => by
    have h := prodR_hz r (acc * q)
    have := hz_mul acc q
    show hz (prodR (acc * q) r) ≤ hz acc + (hz q + totR r)
    omega
noncomputable def sumB (pr su : List D → M D) : SF := seqF (asgF (cE (.int 0)) (setG 1)) (seqF (forF (rowI (vE 0)) (setG 2) (seqF (asgF (cE (.int 1)) (setG 3)) (seqF (forF (rowI (vE 2)) (setG 4) (asgF (calE pr [vE 3, vE 4]) (setG 3))) (asgF (calE su [vE 1, vE 3]) (setG 1))))) (retF (vE 1)))
section
variable {pr su : List D → M D} (hp : ∀ a b s, hz a + hz b ≤ 8800 → pr [.p (fq a), .p (fq b)] s = .ok (.p (fq (a * b))) s) (hs : ∀ a b s, hz a + hz b ≤ 8800 → su [.p (fq a), .p (fq b)] s = .ok (.p (fq (a + b))) s)
include hp in
theorem sum_inner (x0 x1 x2 : Option D) (s : S) : ∀ (r : List Rat) (acc : Rat) (y : Option D), hz acc + totR r ≤ 8800 →
    ∃ y', forL [] (setG 4) (asgF (calE pr [vE 3, vE 4]) (setG 3)) (r.map fq) [x0, x1, x2, some (.p (fq acc)), y] s = .ok (.nx [x0, x1, x2, some (.p (fq (prodR acc r))), y']) s
  | [], acc, y, _ => ⟨y, forL_nil⟩
  | q :: r, acc, y, h => by
    have h' : hz acc + (hz q + totR r) ≤ 8800 := h
    have := hz_mul acc q
    obtain ⟨y', h1⟩ := sum_inner x0 x1 x2 s r (acc * q) (some (.p (fq q))) (by omega)
    refine ⟨y', ?_⟩
    have h2 := hp acc q s (by omega)
    rw [List.map_cons, forL_cons]
    simp [h2]
    exact h1
include hp hs in
theorem sum_outer (x0 : Option D) (s : S) (mkr : List P → P) (hm : ∀ (ρ : En) (xs : List P), ρ[2]? = some (some (.p (mkr xs))) → rowI (vE 2) ρ s = .ok (xs, []) s) : ∀ (rows : List (List Rat)) (acc : Rat) (y2 y3 y4 : Option D), hz acc + totZ rows ≤ 8800 →
    ∃ y2' y3' y4', forL [] (setG 2) (seqF (asgF (cE (.int 1)) (setG 3)) (seqF (forF (rowI (vE 2)) (setG 4) (asgF (calE pr [vE 3, vE 4]) (setG 3))) (asgF (calE su [vE 1, vE 3]) (setG 1)))) (rows.map fun r => mkr (r.map fq)) [x0, some (.p (fq acc)), y2, y3, y4] s = .ok (.nx [x0, some (.p (fq (sumR acc rows))), y2', y3', y4']) s
  | [], acc, y2, y3, y4, _ => ⟨y2, y3, y4, forL_nil⟩
  | r :: rows, acc, y2, y3, y4, h => by
    have h' : hz acc + (totR r + 2 + totZ rows) ≤ 8800 := h
    have h1 : hz 1 = 1 := by decide
    have hpz := prodR_hz r 1
    have haz := hz_add acc (prodR 1 r)
    obtain ⟨y', e1⟩ := sum_inner hp x0 (some (.p (fq acc))) (some (.p (mkr (r.map fq)))) s r 1 y4 (by omega)
    obtain ⟨y2', y3', y4', e2⟩ := sum_outer x0 s mkr hm rows (acc + prodR 1 r) (some (.p (mkr (r.map fq)))) (some (.p (fq (prodR 1 r)))) y' (by omega)
    refine ⟨y2', y3', y4', ?_⟩
    have h2 := hs acc (prodR 1 r) s (by omega)
    have hf : forF (rowI (vE 2)) (setG 4) (asgF (calE pr [vE 3, vE 4]) (setG 3)) [x0, some (.p (fq acc)), some (.p (mkr (r.map fq))), some (.p (.int 1)), y4] s = .ok (.nx [x0, some (.p (fq acc)), some (.p (mkr (r.map fq))), some (.p (fq (prodR 1 r))), y']) s := by
      rw [forF_ev, hm _ (r.map fq) rfl, R.bind_ok]
      exact e1
    rw [List.map_cons, forL_cons]
    simp [hf, h2]
    exact e2
include hp hs in
theorem sumB_ok (s : S) (mkr : List P → P) (hm : ∀ (ρ : En) (xs : List P), ρ[2]? = some (some (.p (mkr xs))) → rowI (vE 2) ρ s = .ok (xs, []) s) (rows : List (List Rat)) (v : Rat) (hv : sumR 0 rows = v) (h : totZ rows ≤ 8700) :
    defM 1 5 (sumB pr su) [.p (.lst (rows.map fun r => mkr (r.map fq)))] s = .ok (.p (fq v)) s := by
  have h0 : hz 0 = 1 := by decide
  obtain ⟨y2', y3', y4', e1⟩ := sum_outer hp hs (some (.p (.lst (rows.map fun r => mkr (r.map fq))))) s mkr hm rows 0 none none none (by omega)
  subst hv
  have hf : forF (rowI (vE 0)) (setG 2) (seqF (asgF (cE (.int 1)) (setG 3)) (seqF (forF (rowI (vE 2)) (setG 4) (asgF (calE pr [vE 3, vE 4]) (setG 3))) (asgF (calE su [vE 1, vE 3]) (setG 1)))) [some (.p (.lst (rows.map fun r => mkr (r.map fq)))), some (.p (.int 0)), none, none, none] s = .ok (.nx [some (.p (.lst (rows.map fun r => mkr (r.map fq)))), some (.p (fq (sumR 0 rows))), y2', y3', y4']) s := by
    rw [forF_ev, rowI_lst (xs := rows.map fun r => mkr (r.map fq)) (s' := s) rfl, R.bind_ok]
    exact e1
  simp [defM_if, sumB, hf]
end
theorem vE_of {ρ : En} {i : Nat} {d : D} {s : S} (h : ρ[i]? = some (some d)) : vE i ρ s = .ok d s := by
  unfold vE
  rw [h]
theorem hm_tup (s : S) (ρ : En) (xs : List P) (h : ρ[2]? = some (some (.p (.tup xs)))) : rowI (vE 2) ρ s = .ok (xs, []) s := rowI_ev (vE_of h)
theorem hm_lst (s : S) (ρ : En) (xs : List P) (h : ρ[2]? = some (some (.p (.lst xs)))) : rowI (vE 2) ρ s = .ok (xs, []) s := rowI_lst (vE_of h)
/-! ### curves -/
def b2 (a1 a2 a3 a4 a6 : Rat) : Rat := a1 * a1 + 4 * a2
def b4 (a1 a2 a3 a4 a6 : Rat) : Rat := 2 * a4 + a1 * a3
def b6 (a1 a2 a3 a4 a6 : Rat) : Rat := a3 * a3 + 4 * a6
def b8 (a1 a2 a3 a4 a6 : Rat) : Rat := a1 * a1 * a6 + 4 * a2 * a6 - a1 * a3 * a4 + a2 * a3 * a3 - a4 * a4
def dD (p q r t : Rat) : Rat := 9 * p * q * r - p * p * t - 8 * q * q * q - 27 * r * r
def dd (a1 a2 a3 a4 a6 : Rat) : Rat := dD (b2 a1 a2 a3 a4 a6) (b4 a1 a2 a3 a4 a6) (b6 a1 a2 a3 a4 a6) (b8 a1 a2 a3 a4 a6)
def c4 (a1 a2 a3 a4 a6 : Rat) : Rat := b2 a1 a2 a3 a4 a6 * b2 a1 a2 a3 a4 a6 - 24 * b4 a1 a2 a3 a4 a6
def c6 (a1 a2 a3 a4 a6 : Rat) : Rat := 36 * b2 a1 a2 a3 a4 a6 * b4 a1 a2 a3 a4 a6 - b2 a1 a2 a3 a4 a6 * b2 a1 a2 a3 a4 a6 * b2 a1 a2 a3 a4 a6 - 216 * b6 a1 a2 a3 a4 a6
/-- degree k over W, c bits more than n a degree -/
def Dg (W : Int) (n k c : Nat) (q : Rat) : Prop := Wn W (n * k + c) k q
section
variable {W : Int} {n k l c d : Nat} {a b : Rat}
theorem Dg.mono (h : Dg W n k c a) (hc : c ≤ d := by omega) : Dg W n k d a := Wn.mono h (by omega)
theorem Dg.mul (ha : Dg W n k c a) (hb : Dg W n l d b) : Dg W n (k + l) (c + d) (a * b) := Wn.mono (Wn.mul ha hb) (by rw [Nat.mul_add]; omega)
theorem Dg.add (ha : Dg W n k c a) (hb : Dg W n k c b) : Dg W n k (c + 1) (a + b) := Wn.mono (Wn.add ha hb) (by omega)
theorem Dg.neg (ha : Dg W n k c a) : Dg W n k c (-a) := Wn.neg ha
theorem Dg.sub (ha : Dg W n k c a) (hb : Dg W n k c b) : Dg W n k (c + 1) (a - b) := by
  rw [Rat.sub_eq_add_neg]
  exact ha.add hb.neg
theorem Dg.up (hw : szi W n) (ha : Dg W n k c a) (hkl : k ≤ l := by omega) (hc : c + 1 ≤ d := by omega) : Dg W n l d a := by
  refine Wn.to hw ha hkl ?_
  have : n * l = n * k + n * (l - k) := by rw [← Nat.mul_add]; congr 1; omega
  omega
theorem Dg.int {i : Int} (h : szi i c) : Dg W n 0 c (i : Rat) := Wn.mono (Wn.int h) (by omega)
theorem Dg.hz (h0 : W ≠ 0) (hw : szi W n) (h : Dg W n k c a) : hz a ≤ n * k + c + 1 := Wn.hz h0 hw h (by omega) (by omega)
end
/-- the sizes of a curve: over one bottom W, both of n bits -/
structure Cv (W : Int) (n : Nat) (a1 a2 a3 a4 a6 : Rat) : Prop where
  W0 : W ≠ 0
  hw : szi W n
  h1 : Dg W n 1 0 a1
  h2 : Dg W n 1 0 a2
  h3 : Dg W n 1 0 a3
  h4 : Dg W n 1 0 a4
  h6 : Dg W n 1 0 a6
section
variable {W : Int} {n : Nat} {a1 a2 a3 a4 a6 : Rat}
theorem Cv.b2 (c : Cv W n a1 a2 a3 a4 a6) : Dg W n 2 5 (b2 a1 a2 a3 a4 a6) :=
  ((c.h1.mul c.h1).mono (d := 4)).add (((Dg.int (i := 4) (c := 3) (by decide)).mul c.h2).up (l := 2) c.hw)
theorem Cv.b4 (c : Cv W n a1 a2 a3 a4 a6) : Dg W n 2 4 (b4 a1 a2 a3 a4 a6) :=
  (((Dg.int (i := 2) (c := 2) (by decide)).mul c.h4).up (l := 2) c.hw).add ((c.h1.mul c.h3).mono (d := 3))
theorem Cv.b6 (c : Cv W n a1 a2 a3 a4 a6) : Dg W n 2 5 (b6 a1 a2 a3 a4 a6) :=
  ((c.h3.mul c.h3).mono (d := 4)).add (((Dg.int (i := 4) (c := 3) (by decide)).mul c.h6).up (l := 2) c.hw)
theorem Cv.b8 (c : Cv W n a1 a2 a3 a4 a6) : Dg W n 3 8 (b8 a1 a2 a3 a4 a6) :=
  (((((c.h1.mul c.h1).mul c.h6).mono (d := 4)).add ((((Dg.int (i := 4) (c := 3) (by decide)).mul c.h2).mul c.h6).up (l := 3) c.hw (d := 4))).sub (((c.h1.mul c.h3).mul c.h4).mono (d := 5))).add (((c.h2.mul c.h3).mul c.h3).mono (d := 6)) |>.sub ((c.h4.mul c.h4).up (l := 3) c.hw (d := 7))
theorem Cv.dd (c : Cv W n a1 a2 a3 a4 a6) : Dg W n 7 22 (dd a1 a2 a3 a4 a6) :=
  ((((((((Dg.int (i := 9) (c := 4) (by decide)).mul c.b2).mul c.b4).mul c.b6).up (l := 7) c.hw (d := 19)).sub (((c.b2.mul c.b2).mul c.b8).mono (d := 19))).sub (((((Dg.int (i := 8) (c := 4) (by decide)).mul c.b4).mul c.b4).mul c.b4).up (l := 7) c.hw (d := 20))).sub ((((Dg.int (i := 27) (c := 5) (by decide)).mul c.b6).mul c.b6).up (l := 7) c.hw (d := 21)))
theorem Cv.c4 (c : Cv W n a1 a2 a3 a4 a6) : Dg W n 4 11 (c4 a1 a2 a3 a4 a6) :=
  ((c.b2.mul c.b2).mono (d := 10)).sub (((Dg.int (i := 24) (c := 5) (by decide)).mul c.b4).up (l := 4) c.hw (d := 10))
theorem Cv.c6 (c : Cv W n a1 a2 a3 a4 a6) : Dg W n 6 18 (c6 a1 a2 a3 a4 a6) :=
  (((((Dg.int (i := 36) (c := 6) (by decide)).mul c.b2).mul c.b4).up (l := 6) c.hw (d := 16)).sub (((c.b2.mul c.b2).mul c.b2).mono (d := 16))).sub (((Dg.int (i := 216) (c := 8) (by decide)).mul c.b6).up (l := 6) c.hw (d := 17))
end
end CW

end
section
set_option maxRecDepth 100000
set_option maxHeartbeats 2000000
/-! the second kind of draws' state -/
namespace CW
open PySem PySem.Spec PyProof.Rows L2
section
variable {ρ : En} {s s' : S} {m ma mb mc : EF}
theorem fin_dl (a b : Option O) (kvs : List (Key × D)) (l : List P) (rest r : S) (x : P) (hk : ∀ kv ∈ kvs, ∀ m, kv.2 = .obj m → m < 2) : fin (a :: b :: rest) (.p x) (some (.dic kvs) :: some (.lst l) :: (rest ++ r)) = .ok (.p x) (some (.dic kvs) :: some (.lst l) :: rest) := by
  unfold fin
  dsimp only
  rw [if_pos]
  · show R.ok _ (_ :: _ :: List.take rest.length (rest ++ r)) = _
    rw [List.take_left]
  · refine ⟨by simp, fun i kvs' hi hd => ?_⟩
    match i with
    | 0 =>
      right
      have := Option.some.inj hd
      have := Option.some.inj this
      injection this with this
      subst this
      intro kv hkv m hm
      have := hk kv hkv m hm
      simp
      omega
    | 1 =>
      have := Option.some.inj hd
      cases this
    | i + 2 =>
      left
      have hi' : i < rest.length := by
        simp at hi
        omega
      show rest[i]? = (rest ++ r)[i]?
      rw [List.getElem?_append_left hi']
def mk2 (rn tn : Int) (cells : List Int) (rest : S) : S := some (.dic [(.inr "run", .p (.int rn)), (.inr "great", .obj 1), (.inr "turn", .p (.int tn))]) :: some (.lst (cells.map .int)) :: rest
variable (rn tn : Int) (cells : List Int) (rest : S)
@[simp] theorem mk2_great : dgetD (.obj 0) (.p (.str "great")) (mk2 rn tn cells rest) = .ok (.obj 1) (mk2 rn tn cells rest) := rfl
@[simp] theorem mk2_run : dgetD (.obj 0) (.p (.str "run")) (mk2 rn tn cells rest) = .ok (.p (.int rn)) (mk2 rn tn cells rest) := rfl
@[simp] theorem mk2_turn : dgetD (.obj 0) (.p (.str "turn")) (mk2 rn tn cells rest) = .ok (.p (.int tn)) (mk2 rn tn cells rest) := rfl
@[simp] theorem mk2_put_run (i : Int) : dputk ρ (.p (.int i)) (.obj 0) (.p (.str "run")) (mk2 rn tn cells rest) = .ok (.nx ρ) (mk2 i tn cells rest) := rfl
@[simp] theorem mk2_put_turn (i : Int) : dputk ρ (.p (.int i)) (.obj 0) (.p (.str "turn")) (mk2 rn tn cells rest) = .ok (.nx ρ) (mk2 rn i cells rest) := rfl
theorem mk2_put_1 (i z : Int) (h0 : 0 ≤ z) (h : z < cells.length) : lputk ρ (.p (.int i)) (.obj 1) (.p (.int z)) (mk2 rn tn cells rest) = .ok (.nx ρ) (mk2 rn tn (cells.set z.toNat i) rest) := by
  show (match ixN (cells.map P.int).length z with
      | some j => R.ok (Fl.nx ρ) ((mk2 rn tn cells rest).set 1 (some (.lst ((cells.map P.int).set j (.int i)))))
      | none => .bad) = _
  rw [ixN_ok h0 (by rw [List.length_map]; exact h)]
  show R.ok (Fl.nx ρ) _ = _
  rw [← List.map_set]
  rfl
theorem mk2_ne_nil : eqD true (.obj 1) (.p (.lst [])) (mk2 rn tn cells rest) = .ok (.p (.bl (!cells.isEmpty))) (mk2 rn tn cells rest) := by
  rw [eq_dat true (d := .list (cells.map .int)) (e := .list []) (by show (toPys (cells.map P.int)).map PyData.list = _; rw [toPys_int]; rfl) rfl ⟨shapedAll_int _, rfl⟩]
  cases cells with
  | nil => rfl
  | cons x xs =>
    have : PyData.eqv (.list (List.map PyData.int (x :: xs))) (.list []) = false := by
      simp [PyData.eqv, PyData.eqvAll]
    rw [this]
    rfl
@[simp] theorem mk2_len : lenD [.obj 1] (mk2 rn tn cells rest) = .ok (.p (.int cells.length)) (mk2 rn tn cells rest) := by
  show R.ok (D.p (.int ((cells.map P.int).length : Nat))) _ = _
  rw [List.length_map]
theorem mk2_ix (z : Int) (h0 : 0 ≤ z) (h : z < cells.length) : ixD (.obj 1) (.p (.int z)) (mk2 rn tn cells rest) = .ok (.p (.int (cells[z.toNat]'(by omega)))) (mk2 rn tn cells rest) := by
  show (match L2.atI (cells.map P.int) z with
        | some z => R.ok (D.p z) (mk2 rn tn cells rest)
        | none => .bad) = _
  have e : L2.atI (cells.map P.int) z = some (.int (cells[z.toNat]'(by omega))) := by
    unfold L2.atI
    rw [ixN_ok h0 (by rw [List.length_map]; exact h), Option.bind_some, List.getElem?_map, List.getElem?_eq_getElem (by omega)]
    rfl
  rw [e]
theorem fin_mk2 (rn' tn' : Int) (cells' : List Int) (r : S) (x : P) : fin (mk2 rn tn cells rest) (.p x) (mk2 rn' tn' cells' (rest ++ r)) = .ok (.p x) (mk2 rn' tn' cells' rest) :=
  fin_dl _ _ _ _ rest r x (fun kv hkv m hm => by
    simp at hkv
    rcases hkv with rfl | rfl | rfl
    · cases hm
    · cases hm; decide
    · cases hm)
@[simp] theorem fin_mk20 (rn' tn' : Int) (cells' : List Int) (x : P) : fin (mk2 rn tn cells rest) (.p x) (mk2 rn' tn' cells' rest) = .ok (.p x) (mk2 rn' tn' cells' rest) := by
  have := fin_mk2 rn tn cells rest rn' tn' cells' [] x
  rwa [List.append_nil] at this
/-- a comprehension whose parts go on with the state -/
theorem lcL_inv {own : List Nat} {tg : GF} {m : EF} {ρ : En} (I : S → Prop) (Q : P → Prop) : ∀ {xs : List P} {s : S}, I s → (∀ x ∈ xs, ∀ s, I s → ∃ ρ1 y s2, tg (.p x) (wipE ρ own) s = .ok ρ1 s ∧ m ρ1 s = .ok (.p y) s2 ∧ Q y ∧ I s2) →
    ∃ ys s', lcL own [] tg yesT m ρ xs s = .ok ys s' ∧ I s' ∧ ys.length = xs.length ∧ ∀ y ∈ ys, Q y
  | [], s, h, _ => ⟨[], s, lcL_nil, h, rfl, fun _ h => nomatch h⟩
  | x :: xs, s, h, k => by
    obtain ⟨ρ1, y, s2, e1, e2, q, i2⟩ := k x List.mem_cons_self s h
    obtain ⟨ys, s', e3, i3, q3, q4⟩ := lcL_inv (tg := tg) (m := m) (ρ := ρ) (own := own) I Q i2 (fun z hz => k z (List.mem_cons_of_mem _ hz))
    refine ⟨y :: ys, s', ?_, i3, by simp [q3], fun z hz => ?_⟩
    · unfold lcL
      rw [gok_tru, if_pos trivial, bnd_ev, e1, R.bind_ok, bnd_ev]
      show R.bind (R.ok true s) _ = _
      rw [R.bind_ok, if_pos rfl, bnd_ev, e2, R.bind_ok]
      show bnd _ _ _ = _
      rw [bnd_ev, e3, R.bind_ok]
      rfl
    · rcases List.mem_cons.mp hz with rfl | hz
      · exact q
      · exact q4 z hz
end
end CW

end
section
set_option maxRecDepth 100000
set_option maxHeartbeats 2000000
/-! what is shown of plain data -/
namespace CW
open PySem PySem.Spec PyProof.Rows L2
/-- may be shown: at most n deep, at most l long -/
structure Rp (d : PyData) (n l : Nat) : Prop where
  sh : d.showable = true
  nd : d.hasDict = false
  de : d.depth ≤ n
  ln : d.shown.length ≤ l
  ok : PyData.strOk d.shown = true
theorem Rp.mono {d : PyData} {n l n' l' : Nat} (h : Rp d n l) (hn : n ≤ n') (hl : l ≤ l') : Rp d n' l' := ⟨h.sh, h.nd, Nat.le_trans h.de hn, Nat.le_trans h.ln hl, h.ok⟩
theorem Rp.fq {q : Rat} (h : hz q ≤ 1900) : Rp (fqPy q) 1 4000 := by
  refine ⟨showable_fq h, noDict_fq q, ?_, ?_, strOk_fq q⟩
  · unfold fqPy
    split <;> simp [PyData.depth, PyData.depthAll]
  · have h1 : q.num.natAbs.log2 < 1920 := by unfold hz at h; omega
    have h2 : (q.den : Int).natAbs.log2 < 1920 := by rw [Int.natAbs_natCast]; unfold hz at h; omega
    have l1 := toS_len h1
    have l2 := toS_len h2
    unfold fqPy
    split
    · show (Str.ofString (toString q.num)).length ≤ 4000
      omega
    · show (tupleText [Str.ofString (toString q.num), Str.ofString (toString (q.den : Int))]).length ≤ 4000
      rw [tupleText2_len]
      omega
theorem Rp.int {i : Int} (h : i.natAbs.log2 < 1920) : Rp (.int i) 0 2000 := by
  refine ⟨by simp [PyData.showable, h], rfl, Nat.le_refl _, ?_, ?_⟩
  · have := toS_len h
    show (Str.ofString (toString i)).length ≤ 2000
    omega
  · exact strOk_of _
theorem Rp.non : Rp .none 0 4 := ⟨rfl, rfl, Nat.le_refl _, by decide, strOk_of "None"⟩
theorem Rp.bl (b : Bool) : Rp (.bool b) 0 5 := by
  cases b
  · exact ⟨rfl, rfl, Nat.le_refl _, by decide, strOk_of "False"⟩
  · exact ⟨rfl, rfl, Nat.le_refl _, by decide, strOk_of "True"⟩
theorem join_le (L : Nat) : ∀ ts : List Str, (∀ t ∈ ts, t.length ≤ L) → (Str.join ", " ts).length ≤ (L + 2) * ts.length
  | [], _ => Nat.zero_le _
  | [x], h => by
    have := h x (List.mem_cons_self)
    show x.length ≤ (L + 2) * 1
    omega
  | x :: y :: r, h => by
    have ih := join_le L (y :: r) fun t ht => h t (List.mem_cons_of_mem _ ht)
    have := h x (List.mem_cons_self)
    show (x ++ ", " ++ Str.join ", " (y :: r)).length ≤ (L + 2) * ((y :: r).length + 1)
    have e2 : ((", " : String) : Str).length = 2 := rfl
    rw [strLen_append, strLen_append, e2, Nat.mul_succ]
    omega
theorem join_ok : ∀ ts : List Str, (∀ t ∈ ts, PyData.strOk t = true) → PyData.strOk (Str.join ", " ts) = true
  | [], _ => by
    unfold Str.join PyData.strOk Str.empty
    simp
  | [x], h => h x (List.mem_cons_self)
  | x :: y :: r, h => strOk_app (strOk_app (h x (List.mem_cons_self)) (strOk_of _)) (join_ok (y :: r) fun t ht => h t (List.mem_cons_of_mem _ ht))
theorem textFrom_le (L : Nat) : ∀ (ts : List Str) (k : Nat) (acc : Str), (∀ t ∈ ts, t.length ≤ L) → (textFrom k acc ts).length ≤ acc.length + (L + 2) * ts.length
  | [], k, acc, _ => Nat.le_add_right _ _
  | t :: r, k, acc, h => by
    have ih := textFrom_le L r (k + 1) (acc ++ (if k > 0 then ", " else "" : String) ++ t) fun u hu => h u (List.mem_cons_of_mem _ hu)
    have := h t (List.mem_cons_self)
    have e : (acc ++ (if k > 0 then ", " else "" : String) ++ t).length ≤ acc.length + 2 + t.length := by
      rw [strLen_append, strLen_append]
      have : ((if k > 0 then ", " else "" : String) : Str).length ≤ 2 := by split <;> decide
      omega
    show (textFrom (k + 1) (acc ++ (if k > 0 then ", " else "" : String) ++ t) r).length ≤ acc.length + (L + 2) * (r.length + 1)
    rw [Nat.mul_succ]
    omega
theorem textFrom_ok : ∀ (ts : List Str) (k : Nat) (acc : Str), PyData.strOk acc = true → (∀ t ∈ ts, PyData.strOk t = true) → PyData.strOk (textFrom k acc ts) = true
  | [], k, acc, h, _ => h
  | t :: r, k, acc, h, ht => textFrom_ok r (k + 1) (acc ++ (if k > 0 then ", " else "" : String) ++ t) (strOk_app (strOk_app h (strOk_of _)) (ht t (List.mem_cons_self))) fun u hu => ht u (List.mem_cons_of_mem _ hu)
theorem shownAll_eq : ∀ ds : List PyData, PyData.shownAll ds = ds.map PyData.shown
  | [] => by simp [PyData.shownAll]
  | d :: ds => by simp [PyData.shownAll, shownAll_eq ds]
theorem showableAll_eq : ∀ ds : List PyData, (∀ d ∈ ds, d.showable = true) → PyData.showableAll ds = true
  | [], _ => by simp [PyData.showableAll]
  | d :: ds, h => by simp [PyData.showableAll, h d List.mem_cons_self, showableAll_eq ds fun x hx => h x (List.mem_cons_of_mem _ hx)]
theorem hasDictAll_eq : ∀ ds : List PyData, (∀ d ∈ ds, d.hasDict = false) → PyData.hasDictAll ds = false
  | [], _ => by simp [PyData.hasDictAll]
  | d :: ds, h => by simp [PyData.hasDictAll, h d List.mem_cons_self, hasDictAll_eq ds fun x hx => h x (List.mem_cons_of_mem _ hx)]
theorem depthAll_le (n : Nat) : ∀ ds : List PyData, (∀ d ∈ ds, d.depth ≤ n) → PyData.depthAll ds ≤ n
  | [], _ => by simp [PyData.depthAll]
  | d :: ds, h => by
    have h1 := h d List.mem_cons_self
    have h2 := depthAll_le n ds fun x hx => h x (List.mem_cons_of_mem _ hx)
    simp only [PyData.depthAll]
    omega
theorem Rp.tup {ds : List PyData} {n L : Nat} (h : ∀ d ∈ ds, Rp d n L) : Rp (.tuple ds) (n + 1) ((L + 2) * ds.length + 3) := by
  refine ⟨by simp only [PyData.showable]; exact showableAll_eq ds fun d hd => (h d hd).sh, by simp only [PyData.hasDict]; exact hasDictAll_eq ds fun d hd => (h d hd).nd, ?_, ?_, ?_⟩
  · have := depthAll_le n ds fun d hd => (h d hd).de
    simp only [PyData.depth]
    omega
  · simp only [PyData.shown]
    rw [shownAll_eq]
    unfold tupleText
    rw [strLen_append, strLen_append]
    have h1 := join_le L (ds.map PyData.shown) fun t ht => by
      obtain ⟨d, hd, rfl⟩ := List.mem_map.mp ht
      exact (h d hd).ln
    rw [List.length_map] at h1
    have e1 : ((("(" : String) : Str)).length = 1 := rfl
    have e3 : (((if (ds.map PyData.shown).length == 1 then ",)" else ")" : String) : Str)).length ≤ 2 := by split <;> decide
    omega
  · simp only [PyData.shown]
    rw [shownAll_eq]
    unfold tupleText
    refine strOk_app (strOk_app (strOk_of _) (join_ok _ fun t ht => ?_)) (strOk_of _)
    obtain ⟨d, hd, rfl⟩ := List.mem_map.mp ht
    exact (h d hd).ok
theorem Rp.lst {ds : List PyData} {n L : Nat} (h : ∀ d ∈ ds, Rp d n L) : Rp (.list ds) (n + 1) ((L + 2) * ds.length + 3) := by
  refine ⟨by simp only [PyData.showable]; exact showableAll_eq ds fun d hd => (h d hd).sh, by simp only [PyData.hasDict]; exact hasDictAll_eq ds fun d hd => (h d hd).nd, ?_, ?_, ?_⟩
  · have := depthAll_le n ds fun d hd => (h d hd).de
    simp only [PyData.depth]
    omega
  · simp only [PyData.shown]
    rw [shownAll_eq]
    unfold listText
    rw [strLen_append]
    have h1 := textFrom_le L (ds.map PyData.shown) 0 "[" fun t ht => by
      obtain ⟨d, hd, rfl⟩ := List.mem_map.mp ht
      exact (h d hd).ln
    rw [List.length_map] at h1
    have e1 : ((("[" : String) : Str)).length = 1 := rfl
    have e3 : ((("]" : String) : Str)).length = 1 := rfl
    omega
  · simp only [PyData.shown]
    rw [shownAll_eq]
    unfold listText
    refine strOk_app (textFrom_ok _ _ _ (strOk_of _) fun t ht => ?_) (strOk_of _)
    obtain ⟨d, hd, rfl⟩ := List.mem_map.mp ht
    exact (h d hd).ok
theorem shw_rp {x : D} {d : PyData} {n l : Nat} {s : S} (hx : toPyD x s = some d) (h : Rp d n l) (hn : n ≤ 60) (hl : l ≤ sizeLine) : shwD [x] s = .ok (.p (.str d.shown)) s := by
  unfold shwD
  dsimp only
  rw [hx]
  exact if_pos ⟨h.sh, h.nd, Nat.le_trans h.de hn, Nat.le_trans h.ln hl⟩
theorem toPys_fq : ∀ qs : List Rat, toPys (qs.map fq) = some (qs.map fqPy)
  | [] => rfl
  | q :: qs => by
    show (match toPy (fq q), toPys (qs.map fq) with
      | some d, some ds => some (d :: ds)
      | _, _ => none) = _
    rw [toPys_fq qs, toPy_fq]
    rfl
theorem toPy_tup {xs : List P} {ds : List PyData} (h : toPys xs = some ds) : toPy (.tup xs) = some (.tuple ds) := by
  show (toPys xs).map PyData.tuple = _
  rw [h]; rfl
theorem toPy_lst {xs : List P} {ds : List PyData} (h : toPys xs = some ds) : toPy (.lst xs) = some (.list ds) := by
  show (toPys xs).map PyData.list = _
  rw [h]; rfl
theorem toPys_nil : toPys [] = some [] := rfl
theorem toPys_cons {x : P} {xs : List P} {d : PyData} {ds : List PyData} (h : toPy x = some d) (h2 : toPys xs = some ds) : toPys (x :: xs) = some (d :: ds) := by
  show (match toPy x, toPys xs with
      | some d, some ds => some (d :: ds)
      | _, _ => none) = _
  rw [h, h2]
/-- a tuple of fractions shown -/
def shT (qs : List Rat) : Str := (PyData.tuple (qs.map fqPy)).shown
theorem Rp.tfq {qs : List Rat} (h : ∀ q ∈ qs, hz q ≤ 1900) : Rp (.tuple (qs.map fqPy)) 2 (4002 * qs.length + 3) := by
  have := Rp.tup (ds := qs.map fqPy) (n := 1) (L := 4000) fun d hd => by
    obtain ⟨q, hq, rfl⟩ := List.mem_map.mp hd
    exact Rp.fq (h q hq)
  rwa [List.length_map] at this
theorem shw_tfq {qs : List Rat} {s : S} (h : ∀ q ∈ qs, hz q ≤ 1900) (hl : qs.length ≤ 1000) : shwD [.p (.tup (qs.map fq))] s = .ok (.p (.str (shT qs))) s :=
  shw_rp (d := .tuple (qs.map fqPy)) (toPy_tup (toPys_fq qs)) (Rp.tfq h) (by decide) (by rw [sizeLine_eq]; omega)
theorem eq_str_same {x : Str} {s : S} (h : PyData.strOk x = true) : eqD false (.p (.str x)) (.p (.str x)) s = .ok (.p (.bl true)) s := by
  rw [eq_str _ _ _ _ h h]
  simp
theorem ne_str_same {x : Str} {s : S} (h : PyData.strOk x = true) : eqD true (.p (.str x)) (.p (.str x)) s = .ok (.p (.bl false)) s := by
  rw [eq_str _ _ _ _ h h]
  simp
end CW

end
section
set_option maxRecDepth 100000
set_option maxHeartbeats 2000000
namespace CW
open PySem PySem.Spec PyProof.Rows L2
/-- a loop that goes on or returns -/
theorem forL_or {tg : GF} {f : SF} (I : En → S → Prop) (T : D → S → Prop) : ∀ {xs : List P} {ρ : En} {s : S}, I ρ s → (∀ x ∈ xs, ∀ ρ s, I ρ s → ∃ ρ1 s1, tg (.p x) ρ s = .ok ρ1 s1 ∧ ((∃ ρ2 s2, f ρ1 s1 = .ok (.nx ρ2) s2 ∧ I ρ2 s2) ∨ ∃ d s2, f ρ1 s1 = .ok (.rt d) s2 ∧ T d s2)) →
    (∃ ρ' s', forL [] tg f xs ρ s = .ok (.nx ρ') s' ∧ I ρ' s') ∨ ∃ d s', forL [] tg f xs ρ s = .ok (.rt d) s' ∧ T d s'
  | [], ρ, s, h, _ => .inl ⟨ρ, s, forL_nil, h⟩
  | x :: xs, ρ, s, h, k => by
    obtain ⟨ρ1, s1, e1, ⟨ρ2, s2, e2, i2⟩ | ⟨d, s2, e2, t2⟩⟩ := k x List.mem_cons_self ρ s h
    · rcases forL_or I T i2 (fun y hy => k y (List.mem_cons_of_mem _ hy)) with ⟨ρ', s', e3, i3⟩ | ⟨d, s', e3, t3⟩
      · exact .inl ⟨ρ', s', by rw [forL_cons, e1, R.bind_ok, e2, R.bind_ok, fork_nx, e3], i3⟩
      · exact .inr ⟨d, s', by rw [forL_cons, e1, R.bind_ok, e2, R.bind_ok, fork_nx, e3], t3⟩
    · exact .inr ⟨d, s2, by rw [forL_cons, e1, R.bind_ok, e2, R.bind_ok, fork_rt], t2⟩
/-- a whole number over 60, at most 420 -/
def Sn (q : Rat) : Prop := ∃ N : Int, q * 60 = N ∧ N.natAbs ≤ 420
/-- left side less right side without a4, a6 -/
def vs (a b c x y : Rat) : Rat := y * y + a * x * y + c * y - x * x * x - b * x * x
def ev (a1 a2 a3 a4 a6 x y : Rat) : Rat := y * y + a1 * x * y + a3 * y - x * x * x - a2 * x * x - a4 * x - a6
theorem Sn.dg {q : Rat} (h : Sn q) : Dg 60 9 1 0 q := by
  obtain ⟨N, h1, h2⟩ := h
  exact ⟨N, by rw [Rat.pow_one]; exact h1, Nat.lt_of_le_of_lt h2 (by decide)⟩
theorem Sn.hz {q : Rat} (h : Sn q) : hz q ≤ 10 := h.dg.hz (by decide) (by decide)
theorem vs_dg {a b c x y : Rat} (ha : Sn a) (hb : Sn b) (hc : Sn c) (hx : Sn x) (hy : Sn y) : Dg 60 9 3 5 (vs a b c x y) :=
  (((((hy.dg.mul hy.dg).up (l := 3) (by decide) (d := 1)).add (((ha.dg.mul hx.dg).mul hy.dg).mono (d := 1))).add ((hc.dg.mul hy.dg).up (l := 3) (by decide) (d := 2))).sub (((hx.dg.mul hx.dg).mul hx.dg).mono (d := 3))).sub (((hb.dg.mul hx.dg).mul hx.dg).mono (d := 4))
/-- a curve through two points -/
structure Th (a1 a2 a3 a4 a6 x y f u : Rat) : Prop where
  cv : ∃ W, Cv W 44 a1 a2 a3 a4 a6
  ne : x ≠ f
  p1 : ev a1 a2 a3 a4 a6 x y = 0
  p2 : ev a1 a2 a3 a4 a6 f u = 0
  sx : Sn x
  sy : Sn y
  sf : Sn f
  su : Sn u
theorem th_ok {a b c x y f u : Rat} (ha : Sn a) (hb : Sn b) (hc : Sn c) (hx : Sn x) (hy : Sn y) (hf : Sn f) (hu : Sn u) (hne : x ≠ f) :
    Th a b c ((vs a b c x y - vs a b c f u) / (x - f)) (vs a b c x y - (vs a b c x y - vs a b c f u) / (x - f) * x) x y f u := by
  have hxf : x - f ≠ 0 := by grind
  refine ⟨?_, hne, ?_, ?_, hx, hy, hf, hu⟩
  · obtain ⟨O, o1, o2⟩ := vs_dg ha hb hc hx hy
    obtain ⟨E, e1, e2⟩ := (vs_dg ha hb hc hx hy).sub (vs_dg ha hb hc hf hu)
    obtain ⟨A, a1, a2⟩ := ha
    obtain ⟨B, b1, b2⟩ := hb
    obtain ⟨C, c1, c2⟩ := hc
    obtain ⟨X, x1, x2⟩ := hx
    obtain ⟨F, f1, f2⟩ := hf
    have hM : ((X - F : Int) : Rat) = (x - f) * 60 := by
      rw [show X - F = X + -F by omega, rc_add, rc_neg, ← x1, ← f1]; grind
    have hM0 : X - F ≠ 0 := fun h => by
      rw [h] at hM
      have : (x - f) * 60 = 0 := by rw [← hM]; rfl
      grind
    have hMs : szi (X - F) 10 := Nat.lt_of_le_of_lt (show (X - F).natAbs ≤ 840 by omega) (by decide)
    have hWc : ((216000 * (X - F) : Int) : Rat) = 216000 * ((x - f) * 60) := by rw [rc_mul, hM]; rfl
    have e60 : (60 : Int) = ((60 : Int)) := rfl
    have p3 : ((60 : Int) : Rat) ^ 3 = 216000 := by
      have : ((60 : Int) : Rat) = 60 := rfl
      rw [this]; decide
    rw [p3] at o1 e1
    refine ⟨216000 * (X - F), Int.mul_ne_zero (by decide) hM0, ((show szi 216000 18 by decide).mul hMs).mono (by decide), ?_, ?_, ?_, ?_, ?_⟩
    · refine ⟨A * (3600 * (X - F)), ?_, (((show szi A 9 from Nat.lt_of_le_of_lt a2 (by decide))).mul ((show szi 3600 12 by decide).mul hMs)).mono (by decide)⟩
      rw [Rat.pow_one, hWc, rc_mul, rc_mul, hM, ← a1, show ((3600 : Int) : Rat) = 3600 from rfl]; grind
    · refine ⟨B * (3600 * (X - F)), ?_, (((show szi B 9 from Nat.lt_of_le_of_lt b2 (by decide))).mul ((show szi 3600 12 by decide).mul hMs)).mono (by decide)⟩
      rw [Rat.pow_one, hWc, rc_mul, rc_mul, hM, ← b1, show ((3600 : Int) : Rat) = 3600 from rfl]; grind
    · refine ⟨C * (3600 * (X - F)), ?_, (((show szi C 9 from Nat.lt_of_le_of_lt c2 (by decide))).mul ((show szi 3600 12 by decide).mul hMs)).mono (by decide)⟩
      rw [Rat.pow_one, hWc, rc_mul, rc_mul, hM, ← c1, show ((3600 : Int) : Rat) = 3600 from rfl]; grind
    · refine ⟨60 * E, ?_, ((show szi 60 6 by decide).mul e2).mono (by decide)⟩
      rw [Rat.pow_one, hWc, rc_mul, ← e1, show ((60 : Int) : Rat) = 60 from rfl]; grind
    · refine ⟨O * (X - F) - E * X, ?_, ((o2.mul hMs).sub ((e2.mul (show szi X 9 from Nat.lt_of_le_of_lt x2 (by decide))))).mono (by decide)⟩
      rw [Rat.pow_one, hWc, show O * (X - F) - E * X = O * (X - F) + -(E * X) by omega, rc_add, rc_neg, rc_mul, rc_mul, hM, ← o1, ← e1, ← x1]; grind
  · unfold ev vs; grind
  · have hd : (vs a b c x y - vs a b c f u) / (x - f) * (x - f) = vs a b c x y - vs a b c f u := Rat.div_mul_cancel hxf
    generalize (vs a b c x y - vs a b c f u) / (x - f) = d at *
    unfold vs at hd
    unfold ev vs
    grind
theorem th_0 : Th 0 0 1 (-1) 0 0 0 1 0 := by
  refine ⟨⟨1, by decide +kernel, by decide +kernel, ?_, ?_, ?_, ?_, ?_⟩, by decide +kernel, by decide +kernel, by decide +kernel, ⟨0, by decide +kernel, by decide +kernel⟩, ⟨0, by decide +kernel, by decide +kernel⟩, ⟨60, by decide +kernel, by decide +kernel⟩, ⟨0, by decide +kernel, by decide +kernel⟩⟩
  · exact ⟨0, by decide +kernel, by decide +kernel⟩
  · exact ⟨0, by decide +kernel, by decide +kernel⟩
  · exact ⟨1, by decide +kernel, by decide +kernel⟩
  · exact ⟨-1, by decide +kernel, by decide +kernel⟩
  · exact ⟨0, by decide +kernel, by decide +kernel⟩
end CW

end
section
set_option maxRecDepth 100000
set_option maxHeartbeats 2000000
namespace CW
open PySem PySem.Spec PyProof.Rows L2
def isIn : P → Bool
  | .int _ => true
  | _ => false
def isTu : P → Bool
  | .tup _ => true
  | _ => false
theorem isi_fq_int (q : Rat) (s : S) : isiD [.p (fq q), .p (.ty "int")] s = .ok (.p (.bl (isIn (fq q)))) s := by
  unfold fq
  split <;> simp [isIn]
theorem isi_fq_tup (q : Rat) (s : S) : isiD [.p (fq q), .p (.ty "tuple")] s = .ok (.p (.bl (isTu (fq q)))) s := by
  unfold fq
  split <;> simp [isTu]
theorem isTu_fq (q : Rat) : isTu (fq q) = !isIn (fq q) := by
  unfold fq
  split <;> rfl
theorem canLay_fq (q : Rat) : (fqPy q).canLay0 = true := (Bool.and_eq_true_iff.mp (shaped_fq q)).1
theorem canLayAll_eq : ∀ ds : List PyData, (∀ d ∈ ds, d.canLay0 = true) → PyData.canLayAll0 ds = true
  | [], _ => by simp [PyData.canLayAll0]
  | d :: ds, h => by simp [PyData.canLayAll0, h d List.mem_cons_self, canLayAll_eq ds fun x hx => h x (List.mem_cons_of_mem _ hx)]
theorem shaped_fl (qs : List Rat) : SeqAt.shaped (.list (qs.map fqPy)) = true := by
  unfold SeqAt.shaped
  have h1 : PyData.canLayAll0 (qs.map fqPy) = true := canLayAll_eq _ fun d hd => by
    obtain ⟨q, _, rfl⟩ := List.mem_map.mp hd
    exact canLay_fq q
  have h2 := depthAll_le 60 (qs.map fqPy) fun d hd => by
    obtain ⟨q, _, rfl⟩ := List.mem_map.mp hd
    exact depth_fq q
  have h3 : (PyData.list (qs.map fqPy)).canLay0 = true := by simp only [PyData.canLay0]; exact h1
  have h4 : (PyData.list (qs.map fqPy)).depth ≤ 64 := by simp only [PyData.depth]; exact Nat.le_trans (Nat.succ_le_succ h2) (by decide)
  rw [h3]
  exact decide_eq_true h4
theorem eq_fl_nil (qs : List Rat) (s : S) : eqD false (.p (.lst (qs.map fq))) (.p (.lst [])) s = .ok (.p (.bl qs.isEmpty)) s := by
  rw [eq_dat false (d := .list (qs.map fqPy)) (e := .list []) (by exact toPy_lst (toPys_fq qs)) rfl ⟨shaped_fl qs, rfl⟩]
  cases qs with
  | nil => rfl
  | cons q qs =>
    have : PyData.eqv (.list ((q :: qs).map fqPy)) (.list []) = false := by simp [PyData.eqv, PyData.eqvAll]
    rw [this]; rfl
def shB (b : Bool) : Str := (PyData.bool b).shown
theorem shw_bl (b : Bool) (s : S) : shwD [.p (.bl b)] s = .ok (.p (.str (shB b))) s := shw_rp (d := .bool b) rfl (Rp.bl b) (by decide) (by decide)
theorem strOk_shB (b : Bool) : PyData.strOk (shB b) = true := (Rp.bl b).ok
end CW

end
section
set_option maxRecDepth 100000
set_option maxHeartbeats 2000000
/-! changes, plain -/
namespace CW
open PySem PySem.Spec PyProof.Rows L2
section
variable (a1 a2 a3 a4 a6 v r s t : Rat)
def l1 : Rat := (a1 + 2 * s) * v
def l2 : Rat := (a2 - s * a1 + 3 * r - s * s) * v * v
def l3 : Rat := (a3 + r * a1 + 2 * t) * v * v * v
def l4 : Rat := (a4 - s * a3 + 2 * r * a2 - t * a1 - r * s * a1 + 3 * r * r - 2 * s * t) * v * v * v * v
def l6 : Rat := (a6 + r * a4 + r * r * a2 + r * r * r - t * a3 - t * t - r * t * a1) * v * v * v * v * v * v
end
section
variable {a1 a2 a3 a4 a6 v r s t : Rat}
theorem b2_led : b2 (l1 a1 v s) (l2 a1 a2 v r s) (l3 a1 a3 v r t) (l4 a1 a2 a3 a4 v r s t) (l6 a1 a2 a3 a4 a6 v r t) = (b2 a1 a2 a3 a4 a6 + 12 * r) * v ^ 2 := by unfold b2 l1 l2; grind
theorem b4_led : b4 (l1 a1 v s) (l2 a1 a2 v r s) (l3 a1 a3 v r t) (l4 a1 a2 a3 a4 v r s t) (l6 a1 a2 a3 a4 a6 v r t) = (b4 a1 a2 a3 a4 a6 + r * b2 a1 a2 a3 a4 a6 + 6 * r ^ 2) * v ^ 4 := by unfold b4 b2 l1 l3 l4; grind
theorem b6_led : b6 (l1 a1 v s) (l2 a1 a2 v r s) (l3 a1 a3 v r t) (l4 a1 a2 a3 a4 v r s t) (l6 a1 a2 a3 a4 a6 v r t) = (b6 a1 a2 a3 a4 a6 + 2 * r * b4 a1 a2 a3 a4 a6 + r ^ 2 * b2 a1 a2 a3 a4 a6 + 4 * r ^ 3) * v ^ 6 := by unfold b6 b4 b2 l3 l6; grind
theorem b8_rel : b2 a1 a2 a3 a4 a6 * b6 a1 a2 a3 a4 a6 - b4 a1 a2 a3 a4 a6 * b4 a1 a2 a3 a4 a6 = 4 * b8 a1 a2 a3 a4 a6 := by unfold b2 b4 b6 b8; grind
theorem b8_is : b8 a1 a2 a3 a4 a6 = (b2 a1 a2 a3 a4 a6 * b6 a1 a2 a3 a4 a6 - b4 a1 a2 a3 a4 a6 * b4 a1 a2 a3 a4 a6) / 4 := by rw [b8_rel]; grind
theorem dd_led : dd (l1 a1 v s) (l2 a1 a2 v r s) (l3 a1 a3 v r t) (l4 a1 a2 a3 a4 v r s t) (l6 a1 a2 a3 a4 a6 v r t) = dd a1 a2 a3 a4 a6 * v ^ 12 := by
  unfold dd dD
  rw [b8_is, b8_is, b2_led, b4_led, b6_led]
  generalize b2 a1 a2 a3 a4 a6 = p
  generalize b4 a1 a2 a3 a4 a6 = q
  generalize b6 a1 a2 a3 a4 a6 = w
  grind
theorem c4_led : c4 (l1 a1 v s) (l2 a1 a2 v r s) (l3 a1 a3 v r t) (l4 a1 a2 a3 a4 v r s t) (l6 a1 a2 a3 a4 a6 v r t) = c4 a1 a2 a3 a4 a6 * v ^ 4 := by
  unfold c4
  rw [b2_led, b4_led]
  grind
theorem c6_led : c6 (l1 a1 v s) (l2 a1 a2 v r s) (l3 a1 a3 v r t) (l4 a1 a2 a3 a4 v r s t) (l6 a1 a2 a3 a4 a6 v r t) = c6 a1 a2 a3 a4 a6 * v ^ 6 := by
  unfold c6
  rw [b2_led, b4_led, b6_led]
  grind
end
section
variable {a1 a2 a3 a4 a6 u v r s t v' r' s' t' : Rat} (h : u * v = 1)
include h
theorem l1_both : l1 (l1 a1 v s) v' s' = l1 a1 (v * v') (u * s' + s) := by unfold l1; grind
theorem l2_both : l2 (l1 a1 v s) (l2 a1 a2 v r s) v' r' s' = l2 a1 a2 (v * v') (u * u * r' + r) (u * s' + s) := by unfold l2 l1; grind
theorem l3_both : l3 (l1 a1 v s) (l3 a1 a3 v r t) v' r' t' = l3 a1 a3 (v * v') (u * u * r' + r) (u * u * u * t' + s * u * u * r' + t) := by unfold l3 l1; grind
theorem l4_both : l4 (l1 a1 v s) (l2 a1 a2 v r s) (l3 a1 a3 v r t) (l4 a1 a2 a3 a4 v r s t) v' r' s' t' = l4 a1 a2 a3 a4 (v * v') (u * u * r' + r) (u * s' + s) (u * u * u * t' + s * u * u * r' + t) := by unfold l4 l3 l2 l1; grind
theorem l6_both : l6 (l1 a1 v s) (l2 a1 a2 v r s) (l3 a1 a3 v r t) (l4 a1 a2 a3 a4 v r s t) (l6 a1 a2 a3 a4 a6 v r t) v' r' t' = l6 a1 a2 a3 a4 a6 (v * v') (u * u * r' + r) (u * u * u * t' + s * u * u * r' + t) := by unfold l6 l4 l3 l2 l1; grind
end
end CW

end
section
set_option maxRecDepth 100000
set_option maxHeartbeats 2000000
/-! changes: sizes -/
namespace CW
open PySem PySem.Spec PyProof.Rows L2
theorem rc_sub (a b : Int) : ((a - b : Int) : Rat) = (a : Rat) - b := Rat.intCast_sub a b
/-- the sizes of a change: r, s, t over V of m bits, 1 / u over U of p bits -/
structure Cg (V U : Int) (m p : Nat) (v r s t : Rat) : Prop where
  V0 : V ≠ 0
  U0 : U ≠ 0
  hV : szi V m
  hU : szi U p
  hv : Dg U p 1 0 v
  hr : Dg V m 1 0 r
  hs : Dg V m 1 0 s
  ht : Dg V m 1 0 t
theorem szi.sum {i j : Int} {a b c : Nat} (hi : szi i a) (hj : szi j b) (ha : a + 1 ≤ c := by omega) (hb : b + 1 ≤ c := by omega) : szi (i + j) c := by
  have h1 := hi.mono (show a ≤ c - 1 by omega)
  have h2 := hj.mono (show b ≤ c - 1 by omega)
  have := h1.add h2
  rwa [show c - 1 + 1 = c by omega] at this
theorem szi.dif {i j : Int} {a b c : Nat} (hi : szi i a) (hj : szi j b) (ha : a + 1 ≤ c := by omega) (hb : b + 1 ≤ c := by omega) : szi (i - j) c := by
  rw [Int.sub_eq_add_neg]
  exact hi.sum hj.neg
theorem Cv.led {W V U : Int} {n m p : Nat} {a1 a2 a3 a4 a6 v r s t : Rat} (c : Cv W n a1 a2 a3 a4 a6) (g : Cg V U m p v r s t) (hm : 1 ≤ m) (hp : 1 ≤ p) :
    Cv (W * (V * V * V) * (U * U * U * U * U * U)) (n + 3 * m + 6 * p + 4) (l1 a1 v s) (l2 a1 a2 v r s) (l3 a1 a3 v r t) (l4 a1 a2 a3 a4 v r s t) (l6 a1 a2 a3 a4 a6 v r t) := by
  obtain ⟨A1, e1, k1⟩ := c.h1
  obtain ⟨A2, e2, k2⟩ := c.h2
  obtain ⟨A3, e3, k3⟩ := c.h3
  obtain ⟨A4, e4, k4⟩ := c.h4
  obtain ⟨A6, e6, k6⟩ := c.h6
  obtain ⟨X, ev, kv⟩ := g.hv
  obtain ⟨R, er, kr⟩ := g.hr
  obtain ⟨S, es, ks⟩ := g.hs
  obtain ⟨T, et, kt⟩ := g.ht
  have hW := c.hw
  have hV := g.hV
  have hU := g.hU
  rw [Rat.pow_one] at e1 e2 e3 e4 e6 ev er es et
  have k1 : szi A1 n := k1.mono (by omega)
  have k2 : szi A2 n := k2.mono (by omega)
  have k3 : szi A3 n := k3.mono (by omega)
  have k4 : szi A4 n := k4.mono (by omega)
  have k6 : szi A6 n := k6.mono (by omega)
  have kv : szi X p := kv.mono (by omega)
  have kr : szi R m := kr.mono (by omega)
  have ks : szi S m := ks.mono (by omega)
  have kt : szi T m := kt.mono (by omega)
  have two : szi 2 2 := by decide
  have three : szi 3 2 := by decide
  refine ⟨Int.mul_ne_zero (Int.mul_ne_zero c.W0 (Int.mul_ne_zero (Int.mul_ne_zero g.V0 g.V0) g.V0)) (Int.mul_ne_zero (Int.mul_ne_zero (Int.mul_ne_zero (Int.mul_ne_zero (Int.mul_ne_zero g.U0 g.U0) g.U0) g.U0) g.U0) g.U0), ?_, ?_, ?_, ?_, ?_, ?_⟩
  · exact ((hW.mul ((hV.mul hV).mul hV)).mul (((((hU.mul hU).mul hU).mul hU).mul hU).mul hU)).mono (by omega)
  · refine ⟨(A1 * V + 2 * S * W) * X * (V * V) * (U * U * U * U * U), ?_, ?_⟩
    · rw [Rat.pow_one]
      simp only [rc_mul, rc_add, rc_sub, ← e1, ← e2, ← e3, ← e4, ← e6, ← ev, ← er, ← es, ← et]
      unfold l1; grind
    · exact (((((k1.mul hV).sum ((two.mul ks).mul hW) (c := n + m + 3)).mul kv).mul (hV.mul hV)).mul ((((hU.mul hU).mul hU).mul hU).mul hU)).mono (by omega)
  · refine ⟨(A2 * V * V - S * A1 * V + 3 * R * V * W - S * S * W) * (X * X) * V * (U * U * U * U), ?_, ?_⟩
    · rw [Rat.pow_one]
      simp only [rc_mul, rc_add, rc_sub, ← e1, ← e2, ← e3, ← e4, ← e6, ← ev, ← er, ← es, ← et]
      unfold l2; grind
    · exact (((((((k2.mul hV).mul hV).dif ((ks.mul k1).mul hV) (c := n + 2 * m + 1)).sum (((three.mul kr).mul hV).mul hW) (c := n + 2 * m + 3)).dif ((ks.mul ks).mul hW) (c := n + 2 * m + 4)).mul (kv.mul kv)).mul hV |>.mul (((hU.mul hU).mul hU).mul hU)).mono (by omega)
  · refine ⟨(A3 * V + R * A1 + 2 * T * W) * (X * X * X) * (V * V) * (U * U * U), ?_, ?_⟩
    · rw [Rat.pow_one]
      simp only [rc_mul, rc_add, rc_sub, ← e1, ← e2, ← e3, ← e4, ← e6, ← ev, ← er, ← es, ← et]
      unfold l3; grind
    · exact ((((((k3.mul hV).sum (kr.mul k1) (c := n + m + 1)).sum ((two.mul kt).mul hW) (c := n + m + 3)).mul ((kv.mul kv).mul kv)).mul (hV.mul hV)).mul ((hU.mul hU).mul hU)).mono (by omega)
  · refine ⟨(A4 * V * V - S * A3 * V + 2 * R * A2 * V - T * A1 * V - R * S * A1 + 3 * R * R * W - 2 * S * T * W) * (X * X * X * X) * V * (U * U), ?_, ?_⟩
    · rw [Rat.pow_one]
      simp only [rc_mul, rc_add, rc_sub, ← e1, ← e2, ← e3, ← e4, ← e6, ← ev, ← er, ← es, ← et]
      unfold l4; grind
    · have q1 : szi (A4 * V * V - S * A3 * V) (n + 2 * m + 1) := ((k4.mul hV).mul hV).dif ((ks.mul k3).mul hV)
      have q2 : szi (- T * A1 * V - R * S * A1) (n + 2 * m + 1) := ((kt.neg.mul k1).mul hV).dif ((kr.mul ks).mul k1)
      have two1 : ∀ {x : Int} {b : Nat}, szi x b → szi (2 * x) (b + 1) := fun {x b} h => by
        unfold szi at *
        rw [Int.natAbs_mul, Nat.pow_succ, show Int.natAbs 2 = 2 from rfl]
        omega
      have q3 : szi (2 * (R * A2 * V - S * T * W)) (n + 2 * m + 2) := two1 (((kr.mul k2).mul hV).dif ((ks.mul kt).mul hW) (c := n + 2 * m + 1) (by omega) (by omega))
      have q4 : szi (3 * R * R * W) (n + 2 * m + 2) := (((three.mul kr).mul kr).mul hW).mono (by omega)
      have q5 : szi (A4 * V * V - S * A3 * V + 2 * R * A2 * V - T * A1 * V - R * S * A1 + 3 * R * R * W - 2 * S * T * W) (n + 2 * m + 4) := by
        have e : A4 * V * V - S * A3 * V + 2 * R * A2 * V - T * A1 * V - R * S * A1 + 3 * R * R * W - 2 * S * T * W = ((A4 * V * V - S * A3 * V) + (- T * A1 * V - R * S * A1)) + 2 * (R * A2 * V - S * T * W) + 3 * R * R * W := by grind
        rw [e]
        exact ((q1.sum q2 (c := n + 2 * m + 2)).sum q3 (c := n + 2 * m + 3)).sum q4
      exact (((q5.mul (((kv.mul kv).mul kv).mul kv)).mul hV).mul (hU.mul hU)).mono (by omega)
  · refine ⟨(A6 * V * V * V + R * A4 * V * V + R * R * A2 * V + R * R * R * W - T * A3 * V * V - T * T * V * W - R * T * A1 * V) * (X * X * X * X * X * X), ?_, ?_⟩
    · rw [Rat.pow_one]
      simp only [rc_mul, rc_add, rc_sub, ← e1, ← e2, ← e3, ← e4, ← e6, ← ev, ← er, ← es, ← et]
      unfold l6; grind
    · have q1 : szi (A6 * V * V * V + R * A4 * V * V) (n + 3 * m + 1) := (((k6.mul hV).mul hV).mul hV).sum (((kr.mul k4).mul hV).mul hV)
      have q2 : szi (R * R * A2 * V + R * R * R * W) (n + 3 * m + 1) := (((kr.mul kr).mul k2).mul hV).sum (((kr.mul kr).mul kr).mul hW)
      have q3 : szi (T * A3 * V * V + T * T * V * W) (n + 3 * m + 1) := (((kt.mul k3).mul hV).mul hV).sum (((kt.mul kt).mul hV).mul hW)
      have q4 : szi (R * T * A1 * V) (n + 3 * m) := (((kr.mul kt).mul k1).mul hV).mono (by omega)
      have q5 : szi (A6 * V * V * V + R * A4 * V * V + R * R * A2 * V + R * R * R * W - T * A3 * V * V - T * T * V * W - R * T * A1 * V) (n + 3 * m + 3) := by
        have e : A6 * V * V * V + R * A4 * V * V + R * R * A2 * V + R * R * R * W - T * A3 * V * V - T * T * V * W - R * T * A1 * V = ((A6 * V * V * V + R * A4 * V * V) + (R * R * A2 * V + R * R * R * W)) - ((T * A3 * V * V + T * T * V * W) + R * T * A1 * V) := by grind
        rw [e]
        exact (q1.sum q2 (c := n + 3 * m + 2)).dif (q3.sum q4 (c := n + 3 * m + 2))
      exact (q5.mul (((((kv.mul kv).mul kv).mul kv).mul kv).mul kv)).mono (by omega)
/-- the powers that by_power goes through -/
theorem hz_pow (v : Rat) : ∀ k, hz (v ^ k) ≤ 1 + k * hz v
  | 0 => by
    rw [Rat.pow_zero]
    have : hz 1 = 1 := by decide
    omega
  | k + 1 => by
    have h := hz_pow v k
    have := hz_mul (v ^ k) v
    rw [Rat.pow_succ, Nat.succ_mul]
    omega
end CW

end
section
set_option maxRecDepth 100000
set_option maxHeartbeats 2000000
namespace CW
open PySem PySem.Spec PyProof.Rows L2
section
variable {ρ : En} {s : S} {xs : List P} {m ma mb : EF}
theorem r1_ev (ms : List EF) (ρ : En) (s : S) (j : Int) (s1 : S) (h : evA ms ρ s = .ok [.p (.int j)] s1) (h1 : -4611686018427387904 ≤ j) (h2 : j < 4611686018427387904) : r1I ms ρ s = .ok (ranP 0 j.toNat, []) s1 := by
  unfold r1I
  rw [bnd_ev, h, R.bind_ok]
  exact if_pos ⟨h1, h2⟩
@[simp] theorem tupk_7 (f : List P → P) (a b c d e e1 e2 : P) : tupk f [.p a, .p b, .p c, .p d, .p e, .p e1, .p e2] s = .ok (.p (f [a, b, c, d, e, e1, e2])) s := rfl
@[simp] theorem tupk_9 (f : List P → P) (a b c d e e1 e2 e3 e4 : P) : tupk f [.p a, .p b, .p c, .p d, .p e, .p e1, .p e2, .p e3, .p e4] s = .ok (.p (f [a, b, c, d, e, e1, e2, e3, e4])) s := rfl
@[simp] theorem tupk_10 (f : List P → P) (a b c d e e1 e2 e3 e4 e5 : P) : tupk f [.p a, .p b, .p c, .p d, .p e, .p e1, .p e2, .p e3, .p e4, .p e5] s = .ok (.p (f [a, b, c, d, e, e1, e2, e3, e4, e5])) s := rfl
def lck (k : M (List P)) : D → M (List P) := fun d s => match d with
  | .p y => R.bind (k s) fun r s' => .ok (y :: r) s'
  | .obj _ => .bad
@[simp] theorem lck_p (k : M (List P)) (y : P) : lck k (.p y) s = R.bind (k s) fun r s' => .ok (y :: r) s' := rfl
theorem lcL_cons {own : List Nat} {tg : GF} (x : P) : lcL own [] tg yesT m ρ (x :: xs) s = R.bind (tg (.p x) (wipE ρ own) s) fun ρ1 s1 => R.bind (m ρ1 s1) (lck (lcL own [] tg yesT m ρ xs)) := by
  conv => lhs; unfold lcL
  rw [gok_tru, if_pos trivial, bnd_ev]
  congr
  funext ρ1 s1
  rw [bnd_ev]
  show R.bind (R.ok true s1) _ = _
  rw [R.bind_ok, if_pos rfl, bnd_ev]
  congr
  funext d s2
  cases d with
  | obj n => rfl
  | p y =>
    show bnd _ _ _ = _
    rw [bnd_ev]
    rfl
@[simp] theorem tup_lst (xs : List P) : tupD [.p (.lst xs)] s = .ok (.p (.tup xs)) s := rfl
theorem zimI_ev {xs ys : List P} {s1 s2 : S} (h1 : ma ρ s = .ok (.p (.lst xs)) s1) (h2 : mb ρ s1 = .ok (.p (.tup ys)) s2) : zimI ma mb ρ s = .ok (zipP xs ys, []) s2 := by
  unfold zimI
  rw [bnd_ev, h1, R.bind_ok, bnd_ev, h2]
  rfl
end
end CW

end
section
set_option maxRecDepth 100000
set_option maxHeartbeats 2000000
namespace CW
open PySem PySem.Spec PyProof.Rows L2
mutual
theorem eqv_refl : ∀ d : PyData, d.hasDict = false → PyData.eqv d d = true
  | .none, _ => by unfold PyData.eqv; rfl
  | .bool b, _ => by unfold PyData.eqv; simp
  | .int i, _ => by unfold PyData.eqv; simp
  | .str x, _ => by unfold PyData.eqv; simp
  | .list xs, h => by
    unfold PyData.eqv
    exact eqvAll_refl xs (by simpa only [PyData.hasDict] using h)
  | .tuple xs, h => by
    unfold PyData.eqv
    exact eqvAll_refl xs (by simpa only [PyData.hasDict] using h)
  | .dict kvs, h => by simp [PyData.hasDict] at h
theorem eqvAll_refl : ∀ ds : List PyData, PyData.hasDictAll ds = false → PyData.eqvAll ds ds = true
  | [], _ => by unfold PyData.eqvAll; rfl
  | d :: ds, h => by
    simp only [PyData.hasDictAll, Bool.or_eq_false_iff] at h
    unfold PyData.eqvAll
    rw [eqv_refl d h.1, eqvAll_refl ds h.2]
    rfl
end
/-- data that may be compared: at most n deep -/
structure Cp (d : PyData) (n : Nat) : Prop where
  lay : d.canLay0 = true
  nd : d.hasDict = false
  de : d.depth ≤ n
theorem Cp.fq (q : Rat) : Cp (fqPy q) 60 := ⟨canLay_fq q, noDict_fq q, depth_fq q⟩
theorem Cp.fq1 (q : Rat) : Cp (fqPy q) 1 := by
  refine ⟨canLay_fq q, noDict_fq q, ?_⟩
  unfold fqPy
  split <;> simp [PyData.depth, PyData.depthAll]
theorem Cp.tup {ds : List PyData} {n : Nat} (h : ∀ d ∈ ds, Cp d n) : Cp (.tuple ds) (n + 1) := by
  refine ⟨by simp only [PyData.canLay0]; exact canLayAll_eq ds fun d hd => (h d hd).lay, by simp only [PyData.hasDict]; exact hasDictAll_eq ds fun d hd => (h d hd).nd, ?_⟩
  have := depthAll_le n ds fun d hd => (h d hd).de
  simp only [PyData.depth]
  omega
theorem Cp.lst {ds : List PyData} {n : Nat} (h : ∀ d ∈ ds, Cp d n) : Cp (.list ds) (n + 1) := by
  refine ⟨by simp only [PyData.canLay0]; exact canLayAll_eq ds fun d hd => (h d hd).lay, by simp only [PyData.hasDict]; exact hasDictAll_eq ds fun d hd => (h d hd).nd, ?_⟩
  have := depthAll_le n ds fun d hd => (h d hd).de
  simp only [PyData.depth]
  omega
theorem Cp.shaped {d : PyData} {n : Nat} (h : Cp d n) (hn : n ≤ 64) : SeqAt.shaped d = true := by
  unfold SeqAt.shaped
  rw [h.lay]
  exact decide_eq_true (Nat.le_trans h.de hn)
theorem eq_same {x y : D} {d : PyData} {n : Nat} {s : S} (neg : Bool) (hx : toPyD x s = some d) (hy : toPyD y s = some d) (h : Cp d n) (hn : n ≤ 64) : eqD neg x y s = .ok (.p (.bl (!neg))) s := by
  rw [eq_dat neg hx hy ⟨h.shaped hn, h.shaped hn⟩, eqv_refl d h.nd]
  cases neg <;> rfl
theorem Cp.tfq (qs : List Rat) : Cp (.tuple (qs.map fqPy)) 2 := Cp.tup fun d hd => by
  obtain ⟨q, _, rfl⟩ := List.mem_map.mp hd
  exact Cp.fq1 q
theorem ne_tfq (qs : List Rat) (s : S) : eqD true (.p (.tup (qs.map fq))) (.p (.tup (qs.map fq))) s = .ok (.p (.bl false)) s :=
  eq_same true (toPy_tup (toPys_fq qs)) (toPy_tup (toPys_fq qs)) (Cp.tfq qs) (by decide)
theorem ne_tfq2 (qs ps : List Rat) (s : S) : eqD true (.p (.lst [.tup (qs.map fq), .tup (ps.map fq)])) (.p (.lst [.tup (qs.map fq), .tup (ps.map fq)])) s = .ok (.p (.bl false)) s := by
  have h : toPyD (.p (.lst [.tup (qs.map fq), .tup (ps.map fq)])) s = some (.list [.tuple (qs.map fqPy), .tuple (ps.map fqPy)]) :=
    toPy_lst (toPys_cons (toPy_tup (toPys_fq qs)) (toPys_cons (toPy_tup (toPys_fq ps)) toPys_nil))
  refine eq_same true h h (n := 3) (Cp.lst fun d hd => ?_) (by decide)
  simp at hd
  rcases hd with rfl | rfl
  · exact Cp.tfq qs
  · exact Cp.tfq ps
end CW

end
section
set_option maxRecDepth 100000
set_option maxHeartbeats 2000000
open PySem PySem.Spec PyProof.Rows L2 CW
namespace CWL
/-! ### the text -/
def topS (i : Nat) : Stmt := PySem.Challenge.pw_cubicway_k17_whole_rows_of_changes.main.body.getD i (.Pass ⟨0, 0, 0, 0⟩)
abbrev st_is_number : Stmt := topS 7
abbrev N_is_number : List Str := ["thing"]
theorem sc_is_number : FnScope N_is_number ["thing"] (defScope st_is_number) := ⟨rfl, rfl, rfl, by decide +kernel, rfl, by decide +kernel, by decide +kernel⟩
abbrev st_common : Stmt := topS 8
abbrev N_common : List Str := ["one", "other"]
theorem sc_common : FnScope N_common ["one", "other"] (defScope st_common) := ⟨rfl, rfl, rfl, by decide +kernel, rfl, by decide +kernel, by decide +kernel⟩
abbrev st_is_fraction : Stmt := topS 9
abbrev N_is_fraction : List Str := ["thing"]
theorem sc_is_fraction : FnScope N_is_fraction ["thing"] (defScope st_is_fraction) := ⟨rfl, rfl, rfl, by decide +kernel, rfl, by decide +kernel, by decide +kernel⟩
abbrev st_pair_of : Stmt := topS 10
abbrev N_pair_of : List Str := ["a"]
theorem sc_pair_of : FnScope N_pair_of ["a"] (defScope st_pair_of) := ⟨rfl, rfl, rfl, by decide +kernel, rfl, by decide +kernel, by decide +kernel⟩
abbrev st_lowest : Stmt := topS 11
abbrev N_lowest : List Str := ["top", "bottom", "by"]
theorem sc_lowest : FnScope N_lowest ["top", "bottom"] (defScope st_lowest) := ⟨rfl, rfl, rfl, by decide +kernel, rfl, by decide +kernel, by decide +kernel⟩
abbrev st_sum_of_two : Stmt := topS 12
abbrev N_sum_of_two : List Str := ["a", "b", "top", "bottom", "other", "under"]
theorem sc_sum_of_two : FnScope N_sum_of_two ["a", "b"] (defScope st_sum_of_two) := ⟨rfl, rfl, rfl, by decide +kernel, rfl, by decide +kernel, by decide +kernel⟩
abbrev st_product : Stmt := topS 13
abbrev N_product : List Str := ["a", "b", "top", "bottom", "other", "under"]
theorem sc_product : FnScope N_product ["a", "b"] (defScope st_product) := ⟨rfl, rfl, rfl, by decide +kernel, rfl, by decide +kernel, by decide +kernel⟩
abbrev st_quotient : Stmt := topS 14
abbrev N_quotient : List Str := ["a", "b", "top", "bottom"]
theorem sc_quotient : FnScope N_quotient ["a", "b"] (defScope st_quotient) := ⟨rfl, rfl, rfl, by decide +kernel, rfl, by decide +kernel, by decide +kernel⟩
abbrev st_summed : Stmt := topS 16
abbrev N_summed : List Str := ["rows", "found", "row", "much", "one"]
theorem sc_summed : FnScope N_summed ["rows"] (defScope st_summed) := ⟨rfl, rfl, rfl, by decide +kernel, rfl, by decide +kernel, by decide +kernel⟩
abbrev st_halves_of : Stmt := topS 17
abbrev N_halves_of : List Str := ["five", "a1", "a2", "a3", "a4", "a6", "b2", "b4", "b8"]
theorem sc_halves_of : FnScope N_halves_of ["five"] (defScope st_halves_of) := ⟨rfl, rfl, rfl, by decide +kernel, rfl, by decide +kernel, by decide +kernel⟩
abbrev st_d_of : Stmt := topS 18
abbrev N_d_of : List Str := ["five", "b2", "b4", "b6", "b8"]
theorem sc_d_of : FnScope N_d_of ["five"] (defScope st_d_of) := ⟨rfl, rfl, rfl, by decide +kernel, rfl, by decide +kernel, by decide +kernel⟩
abbrev st_is_curve : Stmt := topS 19
abbrev N_is_curve : List Str := ["thing", "one"]
theorem sc_is_curve : FnScope N_is_curve ["thing"] (defScope st_is_curve) := ⟨rfl, rfl, rfl, by decide +kernel, rfl, by decide +kernel, by decide +kernel⟩
abbrev st_need_curve : Stmt := topS 20
abbrev N_need_curve : List Str := ["curve"]
theorem sc_need_curve : FnScope N_need_curve ["curve"] (defScope st_need_curve) := ⟨rfl, rfl, rfl, by decide +kernel, rfl, by decide +kernel, by decide +kernel⟩
abbrev st_own_invariants : Stmt := topS 21
abbrev N_own_invariants : List Str := ["curve", "b2", "b4", "b6", "b8", "c4", "c6"]
theorem sc_own_invariants : FnScope N_own_invariants ["curve"] (defScope st_own_invariants) := ⟨rfl, rfl, rfl, by decide +kernel, rfl, by decide +kernel, by decide +kernel⟩
abbrev st_invariants : Stmt := topS 22
abbrev N_invariants : List Str := ["curve"]
theorem sc_invariants : FnScope N_invariants ["curve"] (defScope st_invariants) := ⟨rfl, rfl, rfl, by decide +kernel, rfl, by decide +kernel, by decide +kernel⟩
abbrev st_own_is_whole : Stmt := topS 23
abbrev N_own_is_whole : List Str := ["curve", "one"]
theorem sc_own_is_whole : FnScope N_own_is_whole ["curve"] (defScope st_own_is_whole) := ⟨rfl, rfl, rfl, by decide +kernel, rfl, by decide +kernel, by decide +kernel⟩
abbrev st_is_whole : Stmt := topS 24
abbrev N_is_whole : List Str := ["curve"]
theorem sc_is_whole : FnScope N_is_whole ["curve"] (defScope st_is_whole) := ⟨rfl, rfl, rfl, by decide +kernel, rfl, by decide +kernel, by decide +kernel⟩
abbrev st_off_by : Stmt := topS 25
abbrev N_off_by : List Str := ["five", "x", "y", "a1", "a2", "a3", "a4", "a6", "left"]
theorem sc_off_by : FnScope N_off_by ["five", "x", "y"] (defScope st_off_by) := ⟨rfl, rfl, rfl, by decide +kernel, rfl, by decide +kernel, by decide +kernel⟩
abbrev st_is_pair : Stmt := topS 26
abbrev N_is_pair : List Str := ["thing"]
theorem sc_is_pair : FnScope N_is_pair ["thing"] (defScope st_is_pair) := ⟨rfl, rfl, rfl, by decide +kernel, rfl, by decide +kernel, by decide +kernel⟩
abbrev st_lies_on : Stmt := topS 27
abbrev N_lies_on : List Str := ["curve", "thing"]
theorem sc_lies_on : FnScope N_lies_on ["curve", "thing"] (defScope st_lies_on) := ⟨rfl, rfl, rfl, by decide +kernel, rfl, by decide +kernel, by decide +kernel⟩
abbrev st_through : Stmt := topS 28
abbrev N_through : List Str := ["a1", "a2", "a3", "one", "other", "a", "near", "far", "a4", "found"]
theorem sc_through : FnScope N_through ["a1", "a2", "a3", "one", "other"] (defScope st_through) := ⟨rfl, rfl, rfl, by decide +kernel, rfl, by decide +kernel, by decide +kernel⟩
abbrev st_is_change : Stmt := topS 30
abbrev N_is_change : List Str := ["thing", "one"]
theorem sc_is_change : FnScope N_is_change ["thing"] (defScope st_is_change) := ⟨rfl, rfl, rfl, by decide +kernel, rfl, by decide +kernel, by decide +kernel⟩
abbrev st_need_change : Stmt := topS 31
abbrev N_need_change : List Str := ["change"]
theorem sc_need_change : FnScope N_need_change ["change"] (defScope st_need_change) := ⟨rfl, rfl, rfl, by decide +kernel, rfl, by decide +kernel, by decide +kernel⟩
abbrev st_by_power : Stmt := topS 32
abbrev N_by_power : List Str := ["a", "u", "many", "turn"]
theorem sc_by_power : FnScope N_by_power ["a", "u", "many"] (defScope st_by_power) := ⟨rfl, rfl, rfl, by decide +kernel, rfl, by decide +kernel, by decide +kernel⟩
abbrev st_own_led : Stmt := topS 33
abbrev N_own_led : List Str := ["curve", "change", "a1", "a2", "a3", "a4", "a6", "u", "r", "s", "t", "second", "fourth", "sixth", "some", "one", "many"]
theorem sc_own_led : FnScope N_own_led ["curve", "change"] (defScope st_own_led) := ⟨rfl, rfl, rfl, by decide +kernel, rfl, by decide +kernel, by decide +kernel⟩
abbrev st_led : Stmt := topS 34
abbrev N_led : List Str := ["curve", "change"]
theorem sc_led : FnScope N_led ["curve", "change"] (defScope st_led) := ⟨rfl, rfl, rfl, by decide +kernel, rfl, by decide +kernel, by decide +kernel⟩
abbrev st_own_joined : Stmt := topS 35
abbrev N_own_joined : List Str := ["one", "other", "u", "r", "s", "t", "v", "more", "slope", "tall", "last"]
theorem sc_own_joined : FnScope N_own_joined ["one", "other"] (defScope st_own_joined) := ⟨rfl, rfl, rfl, by decide +kernel, rfl, by decide +kernel, by decide +kernel⟩
abbrev st_joined : Stmt := topS 36
abbrev N_joined : List Str := ["one", "other"]
theorem sc_joined : FnScope N_joined ["one", "other"] (defScope st_joined) := ⟨rfl, rfl, rfl, by decide +kernel, rfl, by decide +kernel, by decide +kernel⟩
abbrev st_own_undone : Stmt := topS 37
abbrev N_own_undone : List Str := ["change", "u", "r", "s", "t", "back"]
theorem sc_own_undone : FnScope N_own_undone ["change"] (defScope st_own_undone) := ⟨rfl, rfl, rfl, by decide +kernel, rfl, by decide +kernel, by decide +kernel⟩
abbrev st_undone : Stmt := topS 38
abbrev N_undone : List Str := ["change"]
theorem sc_undone : FnScope N_undone ["change"] (defScope st_undone) := ⟨rfl, rfl, rfl, by decide +kernel, rfl, by decide +kernel, by decide +kernel⟩
abbrev st_own_led_point : Stmt := topS 39
abbrev N_own_led_point : List Str := ["point", "change", "x", "y", "u", "r", "s", "t", "tall"]
theorem sc_own_led_point : FnScope N_own_led_point ["point", "change"] (defScope st_own_led_point) := ⟨rfl, rfl, rfl, by decide +kernel, rfl, by decide +kernel, by decide +kernel⟩
abbrev st_led_point : Stmt := topS 40
abbrev N_led_point : List Str := ["curve", "point", "change"]
theorem sc_led_point : FnScope N_led_point ["curve", "point", "change"] (defScope st_led_point) := ⟨rfl, rfl, rfl, by decide +kernel, rfl, by decide +kernel, by decide +kernel⟩
abbrev st_Lbegun : Stmt := topS 42
abbrev N_Lbegun : List Str := ["_law_script", "_law_run", "_law_k", "_law_cell"]
theorem sc_Lbegun : FnScope N_Lbegun ["_law_script"] (defScope st_Lbegun) := ⟨rfl, rfl, rfl, by decide +kernel, rfl, by decide +kernel, by decide +kernel⟩
abbrev st_Ldraw : Stmt := topS 43
abbrev N_Ldraw : List Str := ["_law_m", "_law_top", "_law_great", "_law_at", "_law_found"]
theorem sc_Ldraw : FnScope N_Ldraw ["_law_m", "_law_top"] (defScope st_Ldraw) := ⟨rfl, rfl, rfl, by decide +kernel, rfl, by decide +kernel, by decide +kernel⟩
abbrev st_Lof : Stmt := topS 44
abbrev N_Lof : List Str := ["_law_m", "_law_some_here"]
theorem sc_Lof : FnScope N_Lof ["_law_m", "_law_some_here"] (defScope st_Lof) := ⟨rfl, rfl, rfl, by decide +kernel, rfl, by decide +kernel, by decide +kernel⟩
abbrev st_Llow : Stmt := topS 45
abbrev N_Llow : List Str := ["_law_top", "_law_bottom", "_law_one", "_law_other"]
theorem sc_Llow : FnScope N_Llow ["_law_top", "_law_bottom"] (defScope st_Llow) := ⟨rfl, rfl, rfl, by decide +kernel, rfl, by decide +kernel, by decide +kernel⟩
abbrev st_Ltwo : Stmt := topS 46
abbrev N_Ltwo : List Str := ["_law_a"]
theorem sc_Ltwo : FnScope N_Ltwo ["_law_a"] (defScope st_Ltwo) := ⟨rfl, rfl, rfl, by decide +kernel, rfl, by decide +kernel, by decide +kernel⟩
abbrev st_Lplus : Stmt := topS 47
abbrev N_Lplus : List Str := ["_law_a", "_law_b_here", "_law_one", "_law_two_here", "_law_three", "_law_four"]
theorem sc_Lplus : FnScope N_Lplus ["_law_a", "_law_b_here"] (defScope st_Lplus) := ⟨rfl, rfl, rfl, by decide +kernel, rfl, by decide +kernel, by decide +kernel⟩
abbrev st_Lby : Stmt := topS 48
abbrev N_Lby : List Str := ["_law_a", "_law_b_here", "_law_one", "_law_two_here", "_law_three", "_law_four"]
theorem sc_Lby : FnScope N_Lby ["_law_a", "_law_b_here"] (defScope st_Lby) := ⟨rfl, rfl, rfl, by decide +kernel, rfl, by decide +kernel, by decide +kernel⟩
abbrev st_Lover : Stmt := topS 49
abbrev N_Lover : List Str := ["_law_a", "_law_b_here", "_law_one", "_law_two_here", "_law_three", "_law_four"]
theorem sc_Lover : FnScope N_Lover ["_law_a", "_law_b_here"] (defScope st_Lover) := ⟨rfl, rfl, rfl, by decide +kernel, rfl, by decide +kernel, by decide +kernel⟩
abbrev st_Lall : Stmt := topS 50
abbrev N_Lall : List Str := ["_law_rows", "_law_found", "_law_row", "_law_much", "_law_one"]
theorem sc_Lall : FnScope N_Lall ["_law_rows"] (defScope st_Lall) := ⟨rfl, rfl, rfl, by decide +kernel, rfl, by decide +kernel, by decide +kernel⟩
abbrev st_Lb : Stmt := topS 51
abbrev N_Lb : List Str := ["_law_curve", "_law_a", "_law_b_here", "_law_c", "_law_d_here", "_law_e", "_law_two_here", "_law_four", "_law_six"]
theorem sc_Lb : FnScope N_Lb ["_law_curve"] (defScope st_Lb) := ⟨rfl, rfl, rfl, by decide +kernel, rfl, by decide +kernel, by decide +kernel⟩
abbrev st_Ld : Stmt := topS 52
abbrev N_Ld : List Str := ["_law_curve", "_law_two_here", "_law_four", "_law_six", "_law_eight", "_law_rows"]
theorem sc_Ld : FnScope N_Ld ["_law_curve"] (defScope st_Ld) := ⟨rfl, rfl, rfl, by decide +kernel, rfl, by decide +kernel, by decide +kernel⟩
abbrev st_Lsome : Stmt := topS 53
abbrev N_Lsome : List Str := ["_law_m", "_law_top"]
theorem sc_Lsome : FnScope N_Lsome ["_law_m"] (defScope st_Lsome) := ⟨rfl, rfl, rfl, by decide +kernel, rfl, by decide +kernel, by decide +kernel⟩
abbrev st_Lthrough : Stmt := topS 54
abbrev N_Lthrough : List Str := ["_law_m", "_law_whole", "_law_turn", "_law_pool", "_law_k", "_law_a", "_law_b_here", "_law_c", "_law_x", "_law_y", "_law_far", "_law_up", "_law_one", "_law_other", "_law_d_here", "_law_curve"]
theorem sc_Lthrough : FnScope N_Lthrough ["_law_m", "_law_whole"] (defScope st_Lthrough) := ⟨rfl, rfl, rfl, by decide +kernel, rfl, by decide +kernel, by decide +kernel⟩
abbrev st_Lchange : Stmt := topS 55
abbrev N_Lchange : List Str := ["_law_m", "_law_u"]
theorem sc_Lchange : FnScope N_Lchange ["_law_m"] (defScope st_Lchange) := ⟨rfl, rfl, rfl, by decide +kernel, rfl, by decide +kernel, by decide +kernel⟩
abbrev st_law : Stmt := topS 56
abbrev N_law : List Str := ["_law_script", "_law_m", "_law_turn", "_law_curve", "_law_spots", "_law_now", "_law_seen", "_law_all_so", "_law_rows", "_law_k", "_law_change_here", "_law_spot", "_law_near", "_law_far", "_law_squares", "_law_one"]
theorem sc_law : FnScope N_law ["_law_script"] (defScope st_law) := ⟨rfl, rfl, rfl, by decide +kernel, rfl, by decide +kernel, by decide +kernel⟩
/-! ### what each def does -/
noncomputable def B_is_number : SF := (retF ((andE ((calE isiD [vE 0, cE (.ty "int")])) (notE ((calE isiD [vE 0, cE (.ty "bool")]))))))
noncomputable def m_is_number : List D → M D := defM 1 1 B_is_number
noncomputable def B_common : SF := (seqF (whF (tB (op2 (eqD true) (vE 1) (cE (.int 0)))) (parF 0 1 [vE 1, (op2 (modD) (vE 0) (vE 1))])) (retF ((calE absD [vE 0]))))
noncomputable def m_common : List D → M D := defM 2 2 B_common
noncomputable def B_is_fraction : SF := (seqF (iffF (notT (tT ((calE isiD [vE 0, cE (.ty "tuple")])))) (retF ((calE m_is_number [vE 0]))) nopF) (seqF (iffF (orT (tB (op2 (eqD true) ((calE lenD [vE 0])) (cE (.int 2)))) (orT (notT (tT ((calE m_is_number [(op2 ixD (vE 0) (cE (.int 0)))])))) (notT (tT ((calE m_is_number [(op2 ixD (vE 0) (cE (.int 1)))])))))) (retF (cE (.bl false))) nopF) (retF ((andE ((op2 (gtD) ((op2 ixD (vE 0) (cE (.int 1)))) (cE (.int 1)))) (op2 (eqD false) ((calE m_common [(op2 ixD (vE 0) (cE (.int 0))), (op2 ixD (vE 0) (cE (.int 1)))])) (cE (.int 1))))))))
noncomputable def m_is_fraction : List D → M D := defM 1 1 B_is_fraction
noncomputable def B_pair_of : SF := (retF ((ifE ((tT ((calE isiD [vE 0, cE (.ty "tuple")])))) (vE 0) ((tupE [vE 0, cE (.int 1)])))))
noncomputable def m_pair_of : List D → M D := defM 1 1 B_pair_of
noncomputable def B_lowest : SF := (seqF (asgF ((ifE ((tB (op2 (gtD) (vE 1) (cE (.int 0))))) ((calE m_common [vE 0, vE 1])) ((op1 negD ((calE m_common [vE 0, vE 1])))))) (setG 2)) (retF ((ifE ((tB (op2 (eqD false) ((op2 (divD) (vE 1) (vE 2))) (cE (.int 1))))) ((op2 (divD) (vE 0) (vE 2))) ((tupE [(op2 (divD) (vE 0) (vE 2)), (op2 (divD) (vE 1) (vE 2))]))))))
noncomputable def m_lowest : List D → M D := defM 2 3 B_lowest
noncomputable def B_sum_of_two : SF := (seqF (tasF [(calE m_pair_of [vE 0]), (calE m_pair_of [vE 1])] (consT (tupG 2 (consG (setG 2) (consG (setG 3) nilG))) (consT (tupG 2 (consG (setG 4) (consG (setG 5) nilG))) nilT))) (retF ((calE m_lowest [(op2 (addD true) ((op2 (mulD true) (vE 2) (vE 5))) ((op2 (mulD true) (vE 4) (vE 3)))), (op2 (mulD true) (vE 3) (vE 5))]))))
noncomputable def m_sum_of_two : List D → M D := defM 2 6 B_sum_of_two
noncomputable def B_product : SF := (seqF (tasF [(calE m_pair_of [vE 0]), (calE m_pair_of [vE 1])] (consT (tupG 2 (consG (setG 2) (consG (setG 3) nilG))) (consT (tupG 2 (consG (setG 4) (consG (setG 5) nilG))) nilT))) (retF ((calE m_lowest [(op2 (mulD true) (vE 2) (vE 4)), (op2 (mulD true) (vE 3) (vE 5))]))))
noncomputable def m_product : List D → M D := defM 2 6 B_product
noncomputable def B_quotient : SF := (seqF (asgF ((calE m_pair_of [vE 1])) (tupG 2 (consG (setG 2) (consG (setG 3) nilG)))) (retF ((calE m_product [vE 0, (calE m_lowest [vE 3, vE 2])]))))
noncomputable def m_quotient : List D → M D := defM 2 4 B_quotient
noncomputable def B_summed : SF := (seqF (asgF (cE (.int 0)) (setG 1)) (seqF (forF (rowI (vE 0)) (setG 2) (seqF (asgF (cE (.int 1)) (setG 3)) (seqF (forF (rowI (vE 2)) (setG 4) (asgF ((calE m_product [vE 3, vE 4])) (setG 3))) (asgF ((calE m_sum_of_two [vE 1, vE 3])) (setG 1))))) (retF (vE 1))))
noncomputable def m_summed : List D → M D := defM 1 5 B_summed
noncomputable def B_halves_of : SF := (seqF (asgF (vE 0) (tupG 5 (consG (setG 1) (consG (setG 2) (consG (setG 3) (consG (setG 4) (consG (setG 5) nilG))))))) (seqF (parF 6 7 [(calE m_summed [(lstE [(tupE [vE 1, vE 1]), (tupE [cE (.int 4), vE 2])])]), (calE m_summed [(lstE [(tupE [cE (.int 2), vE 4]), (tupE [vE 1, vE 3])])])]) (seqF (asgF ((calE m_summed [(lstE [(tupE [vE 1, vE 1, vE 5]), (tupE [cE (.int 4), vE 2, vE 5]), (tupE [(op1 negD (cE (.int 1))), vE 1, vE 3, vE 4]), (tupE [vE 2, vE 3, vE 3]), (tupE [(op1 negD (cE (.int 1))), vE 4, vE 4])])])) (setG 8)) (retF ((tupE [vE 6, vE 7, (calE m_summed [(lstE [(tupE [vE 3, vE 3]), (tupE [cE (.int 4), vE 5])])]), vE 8]))))))
noncomputable def m_halves_of : List D → M D := defM 1 9 B_halves_of
noncomputable def B_d_of : SF := (seqF (asgF ((calE m_halves_of [vE 0])) (tupG 4 (consG (setG 1) (consG (setG 2) (consG (setG 3) (consG (setG 4) nilG)))))) (retF ((calE m_summed [(lstE [(tupE [cE (.int 9), vE 1, vE 2, vE 3]), (tupE [(op1 negD (cE (.int 1))), vE 1, vE 1, vE 4]), (tupE [(op1 negD (cE (.int 8))), vE 2, vE 2, vE 2]), (tupE [(op1 negD (cE (.int 27))), vE 3, vE 3])])]))))
noncomputable def m_d_of : List D → M D := defM 1 5 B_d_of
noncomputable def B_is_curve : SF := (seqF (iffF (orT (notT (tT ((calE isiD [vE 0, cE (.ty "tuple")])))) (orT (tB (op2 (eqD true) ((calE lenD [vE 0])) (cE (.int 5)))) (notT (tT ((calE allD [(lcE true (rowI (vE 0)) [1] (setG 1) yesT ((calE m_is_fraction [vE 1])))])))))) (retF (cE (.bl false))) nopF) (retF ((op2 (eqD true) ((calE m_d_of [vE 0])) (cE (.int 0))))))
noncomputable def m_is_curve : List D → M D := defM 1 2 B_is_curve
noncomputable def B_need_curve : SF := (iffF (notT (tT ((calE m_is_curve [vE 0])))) noF nopF)
noncomputable def m_need_curve : List D → M D := defM 1 1 B_need_curve
noncomputable def B_own_invariants : SF := (seqF (asgF ((calE m_halves_of [vE 0])) (tupG 4 (consG (setG 1) (consG (setG 2) (consG (setG 3) (consG (setG 4) nilG)))))) (seqF (asgF ((calE m_summed [(lstE [(tupE [vE 1, vE 1]), (tupE [(op1 negD (cE (.int 24))), vE 2])])])) (setG 5)) (seqF (asgF ((calE m_summed [(lstE [(tupE [cE (.int 36), vE 1, vE 2]), (tupE [(op1 negD (cE (.int 1))), vE 1, vE 1, vE 1]), (tupE [(op1 negD (cE (.int 216))), vE 3])])])) (setG 6)) (retF ((tupE [vE 1, vE 2, vE 3, vE 4, vE 5, vE 6, (calE m_d_of [vE 0]), (calE m_quotient [(calE m_summed [(lstE [(tupE [vE 5, vE 5, vE 5])])]), (calE m_d_of [vE 0])])]))))))
noncomputable def m_own_invariants : List D → M D := defM 1 7 B_own_invariants
noncomputable def B_invariants : SF := (seqF (expF ((calE m_need_curve [vE 0]))) (retF ((calE m_own_invariants [vE 0]))))
noncomputable def m_invariants : List D → M D := defM 1 1 B_invariants
noncomputable def B_own_is_whole : SF := (retF ((calE allD [(lcE true (rowI (vE 0)) [1] (setG 1) yesT ((calE isiD [vE 1, cE (.ty "int")])))])))
noncomputable def m_own_is_whole : List D → M D := defM 1 2 B_own_is_whole
noncomputable def B_is_whole : SF := (seqF (expF ((calE m_need_curve [vE 0]))) (retF ((calE m_own_is_whole [vE 0]))))
noncomputable def m_is_whole : List D → M D := defM 1 1 B_is_whole
noncomputable def B_off_by : SF := (seqF (asgF (vE 0) (tupG 5 (consG (setG 3) (consG (setG 4) (consG (setG 5) (consG (setG 6) (consG (setG 7) nilG))))))) (seqF (asgF ((calE m_summed [(lstE [(tupE [vE 2, vE 2]), (tupE [vE 3, vE 1, vE 2]), (tupE [vE 5, vE 2])])])) (setG 8)) (retF ((calE m_sum_of_two [vE 8, (calE m_summed [(lstE [(tupE [(op1 negD (cE (.int 1))), vE 1, vE 1, vE 1]), (tupE [(op1 negD (cE (.int 1))), vE 4, vE 1, vE 1]), (tupE [(op1 negD (cE (.int 1))), vE 6, vE 1]), (tupE [(op1 negD (cE (.int 1))), vE 7])])])])))))
noncomputable def m_off_by : List D → M D := defM 3 9 B_off_by
noncomputable def B_is_pair : SF := (retF ((andE ((calE isiD [vE 0, cE (.ty "tuple")])) (andE ((op2 (eqD false) ((calE lenD [vE 0])) (cE (.int 2)))) (andE ((calE m_is_fraction [(op2 ixD (vE 0) (cE (.int 0)))])) (calE m_is_fraction [(op2 ixD (vE 0) (cE (.int 1)))]))))))
noncomputable def m_is_pair : List D → M D := defM 1 1 B_is_pair
noncomputable def B_lies_on : SF := (retF ((orE ((op2 (isN false) (vE 1) (cE .non))) (andE ((calE m_is_pair [vE 1])) (op2 (eqD false) ((calE m_off_by [vE 0, (op2 ixD (vE 1) (cE (.int 0))), (op2 ixD (vE 1) (cE (.int 1)))])) (cE (.int 0)))))))
noncomputable def m_lies_on : List D → M D := defM 2 2 B_lies_on
noncomputable def B_through : SF := (seqF (iffF (notT (tT ((calE allD [(lcE true (tupI ((tupE [vE 0, vE 1, vE 2]))) [5] (setG 5) yesT ((calE m_is_fraction [vE 5])))])))) noF nopF) (seqF (iffF (orT (notT (tT ((calE m_is_pair [vE 3])))) (orT (notT (tT ((calE m_is_pair [vE 4])))) (tB (op2 (eqD false) ((op2 ixD (vE 3) (cE (.int 0)))) ((op2 ixD (vE 4) (cE (.int 0)))))))) noF nopF) (seqF (parF 6 7 [(calE m_off_by [(tupE [vE 0, vE 1, vE 2, cE (.int 0), cE (.int 0)]), (op2 ixD (vE 3) (cE (.int 0))), (op2 ixD (vE 3) (cE (.int 1)))]), (calE m_off_by [(tupE [vE 0, vE 1, vE 2, cE (.int 0), cE (.int 0)]), (op2 ixD (vE 4) (cE (.int 0))), (op2 ixD (vE 4) (cE (.int 1)))])]) (seqF (asgF ((calE m_quotient [(calE m_summed [(lstE [(tupE [vE 6]), (tupE [(op1 negD (cE (.int 1))), vE 7])])]), (calE m_summed [(lstE [(tupE [(op2 ixD (vE 3) (cE (.int 0)))]), (tupE [(op1 negD (cE (.int 1))), (op2 ixD (vE 4) (cE (.int 0)))])])])])) (setG 8)) (seqF (asgF ((tupE [vE 0, vE 1, vE 2, vE 8, (calE m_summed [(lstE [(tupE [vE 6]), (tupE [(op1 negD (cE (.int 1))), vE 8, (op2 ixD (vE 3) (cE (.int 0)))])])])])) (setG 9)) (retF ((ifE ((tB (op2 (eqD true) ((calE m_d_of [vE 9])) (cE (.int 0))))) (vE 9) (cE .non)))))))))
noncomputable def m_through : List D → M D := defM 5 10 B_through
noncomputable def B_is_change : SF := (seqF (iffF (orT (notT (tT ((calE isiD [vE 0, cE (.ty "tuple")])))) (orT (tB (op2 (eqD true) ((calE lenD [vE 0])) (cE (.int 4)))) (notT (tT ((calE allD [(lcE true (rowI (vE 0)) [1] (setG 1) yesT ((calE m_is_fraction [vE 1])))])))))) (retF (cE (.bl false))) nopF) (retF ((op2 (eqD true) ((op2 ixD (vE 0) (cE (.int 0)))) (cE (.int 0))))))
noncomputable def m_is_change : List D → M D := defM 1 2 B_is_change
noncomputable def B_need_change : SF := (iffF (notT (tT ((calE m_is_change [vE 0])))) noF nopF)
noncomputable def m_need_change : List D → M D := defM 1 1 B_need_change
noncomputable def B_by_power : SF := (seqF (forF (r1I [vE 2]) (setG 3) (asgF ((calE m_quotient [vE 0, vE 1])) (setG 0))) (retF (vE 0)))
noncomputable def m_by_power : List D → M D := defM 3 4 B_by_power
noncomputable def B_own_led : SF := (seqF (asgF (vE 0) (tupG 5 (consG (setG 2) (consG (setG 3) (consG (setG 4) (consG (setG 5) (consG (setG 6) nilG))))))) (seqF (asgF (vE 1) (tupG 4 (consG (setG 7) (consG (setG 8) (consG (setG 9) (consG (setG 10) nilG)))))) (seqF (asgF ((calE m_summed [(lstE [(tupE [vE 3]), (tupE [(op1 negD (cE (.int 1))), vE 9, vE 2]), (tupE [cE (.int 3), vE 8]), (tupE [(op1 negD (cE (.int 1))), vE 9, vE 9])])])) (setG 11)) (seqF (asgF ((calE m_summed [(lstE [(tupE [vE 5]), (tupE [(op1 negD (cE (.int 1))), vE 9, vE 4]), (tupE [cE (.int 2), vE 8, vE 3]), (tupE [(op1 negD (cE (.int 1))), vE 10, vE 2]), (tupE [(op1 negD (cE (.int 1))), vE 8, vE 9, vE 2]), (tupE [cE (.int 3), vE 8, vE 8]), (tupE [(op1 negD (cE (.int 2))), vE 9, vE 10])])])) (setG 12)) (seqF (asgF ((calE m_summed [(lstE [(tupE [vE 6]), (tupE [vE 8, vE 5]), (tupE [vE 8, vE 8, vE 3]), (tupE [vE 8, vE 8, vE 8]), (tupE [(op1 negD (cE (.int 1))), vE 10, vE 4]), (tupE [(op1 negD (cE (.int 1))), vE 10, vE 10]), (tupE [(op1 negD (cE (.int 1))), vE 8, vE 10, vE 2])])])) (setG 13)) (seqF (asgF ((lstE [(calE m_summed [(lstE [(tupE [vE 2]), (tupE [cE (.int 2), vE 9])])]), vE 11, (calE m_summed [(lstE [(tupE [vE 4]), (tupE [vE 8, vE 2]), (tupE [cE (.int 2), vE 10])])]), vE 12, vE 13])) (setG 14)) (retF ((calE tupD [(lcE true (zimI (vE 14) ((tupE [cE (.int 1), cE (.int 2), cE (.int 3), cE (.int 4), cE (.int 6)]))) [15, 16] (tupG 2 (consG (setG 15) (consG (setG 16) nilG))) yesT ((calE m_by_power [vE 15, vE 7, vE 16])))])))))))))
noncomputable def m_own_led : List D → M D := defM 2 17 B_own_led
noncomputable def B_led : SF := (seqF (expF ((calE m_need_curve [vE 0]))) (seqF (expF ((calE m_need_change [vE 1]))) (retF ((calE m_own_led [vE 0, vE 1])))))
noncomputable def m_led : List D → M D := defM 2 2 B_led
noncomputable def B_own_joined : SF := (seqF (asgF (vE 0) (tupG 4 (consG (setG 2) (consG (setG 3) (consG (setG 4) (consG (setG 5) nilG)))))) (seqF (asgF (vE 1) (tupG 4 (consG (setG 6) (consG (setG 7) (consG (setG 8) (consG (setG 9) nilG)))))) (seqF (asgF ((calE m_summed [(lstE [(tupE [vE 2, vE 2, vE 2, vE 9]), (tupE [vE 4, vE 2, vE 2, vE 7]), (tupE [vE 5])])])) (setG 10)) (retF ((tupE [(calE m_product [vE 2, vE 6]), (calE m_summed [(lstE [(tupE [vE 2, vE 2, vE 7]), (tupE [vE 3])])]), (calE m_summed [(lstE [(tupE [vE 2, vE 8]), (tupE [vE 4])])]), vE 10]))))))
noncomputable def m_own_joined : List D → M D := defM 2 11 B_own_joined
noncomputable def B_joined : SF := (seqF (expF ((calE m_need_change [vE 0]))) (seqF (expF ((calE m_need_change [vE 1]))) (retF ((calE m_own_joined [vE 0, vE 1])))))
noncomputable def m_joined : List D → M D := defM 2 2 B_joined
noncomputable def B_own_undone : SF := (seqF (asgF (vE 0) (tupG 4 (consG (setG 1) (consG (setG 2) (consG (setG 3) (consG (setG 4) nilG)))))) (seqF (asgF ((calE m_summed [(lstE [(tupE [vE 2, vE 3]), (tupE [(op1 negD (cE (.int 1))), vE 4])])])) (setG 5)) (retF ((tupE [(calE m_quotient [cE (.int 1), vE 1]), (calE m_by_power [(calE m_product [(op1 negD (cE (.int 1))), vE 2]), vE 1, cE (.int 2)]), (calE m_by_power [(calE m_product [(op1 negD (cE (.int 1))), vE 3]), vE 1, cE (.int 1)]), (calE m_by_power [vE 5, vE 1, cE (.int 3)])])))))
noncomputable def m_own_undone : List D → M D := defM 1 6 B_own_undone
noncomputable def B_undone : SF := (seqF (expF ((calE m_need_change [vE 0]))) (retF ((calE m_own_undone [vE 0]))))
noncomputable def m_undone : List D → M D := defM 1 1 B_undone
noncomputable def B_own_led_point : SF := (seqF (iffF (tB (op2 (isN false) (vE 0) (cE .non))) (retF (cE .non)) nopF) (seqF (tasF [vE 0, vE 1] (consT (tupG 2 (consG (setG 2) (consG (setG 3) nilG))) (consT (tupG 4 (consG (setG 4) (consG (setG 5) (consG (setG 6) (consG (setG 7) nilG))))) nilT))) (seqF (asgF ((calE m_summed [(lstE [(tupE [vE 3]), (tupE [(op1 negD (cE (.int 1))), vE 6, vE 2]), (tupE [vE 6, vE 5]), (tupE [(op1 negD (cE (.int 1))), vE 7])])])) (setG 8)) (retF ((tupE [(calE m_by_power [(calE m_summed [(lstE [(tupE [vE 2]), (tupE [(op1 negD (cE (.int 1))), vE 5])])]), vE 4, cE (.int 2)]), (calE m_by_power [vE 8, vE 4, cE (.int 3)])]))))))
noncomputable def m_own_led_point : List D → M D := defM 2 9 B_own_led_point
noncomputable def B_led_point : SF := (seqF (expF ((calE m_need_curve [vE 0]))) (seqF (iffF (notT (tT ((calE m_lies_on [vE 0, vE 1])))) noF nopF) (seqF (expF ((calE m_need_change [vE 2]))) (retF ((calE m_own_led_point [vE 1, vE 2]))))))
noncomputable def m_led_point : List D → M D := defM 3 3 B_led_point
noncomputable def B_Lbegun : SF := (seqF (asgF ((op2 (addD true) (cE (.int 15485863)) ((op2 (mulD true) (cE (.int 37)) ((calE lenD [vE 0])))))) (setG 1)) (seqF (forF (enuI (vE 0)) (tupG 2 (consG (setG 2) (consG (setG 3) nilG))) (asgF ((op2 (modD) ((op2 (addD true) ((op2 (addD true) ((op2 (mulD true) (vE 1) (cE (.int 998244353)))) (vE 3))) ((op2 (mulD true) (cE (.int 104723)) (vE 2))))) (cE (.int 2305843009213693951)))) (setG 1))) (retF ((dicE ["run", "great", "turn"] [vE 1, (lcE false (rowI (vE 0)) [3] (setG 3) (tB (op2 (geD) (vE 3) ((op2 (powD) (cE (.int 10)) (cE (.int 18)))))) (vE 3)), cE (.int 0)])))))
noncomputable def m_Lbegun : List D → M D := defM 1 4 B_Lbegun
noncomputable def B_Ldraw : SF := (seqF (tasF [(op2 (addD true) ((op2 dgetD (vE 0) (cE (.str "turn")))) (cE (.int 1))), (op2 dgetD (vE 0) (cE (.str "great")))] (consT (dputG (vE 0) (cE (.str "turn"))) (consT (setG 2) nilT))) (seqF (asgF ((op2 (modD) ((op2 dgetD (vE 0) (cE (.str "turn")))) ((calE maxD [cE (.int 1), (calE lenD [vE 2])])))) (setG 3)) (seqF (iffF (andT (tB (op2 (eqD true) (vE 2) ((lstE [])))) (tB (op2 (gtD) ((op2 ixD (vE 2) (vE 3))) (cE (.int 0))))) (seqF (asgF ((op2 (modD) ((op2 ixD (vE 2) (vE 3))) (vE 1))) (setG 4)) (seqF (lputF (vE 2) (vE 3) ((op2 (divD) ((op2 ixD (vE 2) (vE 3))) (vE 1)))) (retF (vE 4)))) nopF) (seqF (dputF (vE 0) (cE (.str "run")) ((op2 (modD) ((op2 (addD true) ((op2 (addD true) ((op2 (mulD true) ((op2 dgetD (vE 0) (cE (.str "run")))) (cE (.int 6364136223846793)))) ((op2 (mulD true) (cE (.int 1442695040888963)) ((op2 dgetD (vE 0) (cE (.str "turn")))))))) (cE (.int 11)))) (cE (.int 2305843009213693951))))) (retF ((op2 (modD) ((op2 (divD) ((op2 dgetD (vE 0) (cE (.str "run")))) (cE (.int 32749)))) (vE 1))))))))
noncomputable def m_Ldraw : List D → M D := defM 2 5 B_Ldraw
noncomputable def B_Lof : SF := (retF ((op2 ixD (vE 1) ((calE m_Ldraw [vE 0, (calE lenD [vE 1])])))))
noncomputable def m_Lof : List D → M D := defM 2 2 B_Lof
noncomputable def B_Llow : SF := (seqF (parF 2 3 [(calE absD [vE 0]), (calE absD [vE 1])]) (seqF (whF (tB (op2 (eqD true) (vE 3) (cE (.int 0)))) (parF 2 3 [vE 3, (op2 (modD) (vE 2) (vE 3))])) (seqF (asgF ((ifE ((tB (op2 (gtD) (vE 1) (cE (.int 0))))) (vE 2) ((op2 (subD) (cE (.int 0)) (vE 2))))) (setG 2)) (retF ((ifE ((tB (op2 (eqD false) (vE 1) (vE 2)))) ((op2 (divD) (vE 0) (vE 2))) ((tupE [(op2 (divD) (vE 0) (vE 2)), (op2 (divD) (vE 1) (vE 2))]))))))))
noncomputable def m_Llow : List D → M D := defM 2 4 B_Llow
noncomputable def B_Ltwo : SF := (retF ((ifE ((tT ((calE isiD [vE 0, cE (.ty "int")])))) ((tupE [vE 0, cE (.int 1)])) (vE 0))))
noncomputable def m_Ltwo : List D → M D := defM 1 1 B_Ltwo
noncomputable def B_Lplus : SF := (seqF (tasF [(calE m_Ltwo [vE 0]), (calE m_Ltwo [vE 1])] (consT (tupG 2 (consG (setG 2) (consG (setG 3) nilG))) (consT (tupG 2 (consG (setG 4) (consG (setG 5) nilG))) nilT))) (retF ((calE m_Llow [(op2 (addD true) ((op2 (mulD true) (vE 2) (vE 5))) ((op2 (mulD true) (vE 4) (vE 3)))), (op2 (mulD true) (vE 3) (vE 5))]))))
noncomputable def m_Lplus : List D → M D := defM 2 6 B_Lplus
noncomputable def B_Lby : SF := (seqF (tasF [(calE m_Ltwo [vE 0]), (calE m_Ltwo [vE 1])] (consT (tupG 2 (consG (setG 2) (consG (setG 3) nilG))) (consT (tupG 2 (consG (setG 4) (consG (setG 5) nilG))) nilT))) (retF ((calE m_Llow [(op2 (mulD true) (vE 2) (vE 4)), (op2 (mulD true) (vE 3) (vE 5))]))))
noncomputable def m_Lby : List D → M D := defM 2 6 B_Lby
noncomputable def B_Lover : SF := (seqF (tasF [(calE m_Ltwo [vE 0]), (calE m_Ltwo [vE 1])] (consT (tupG 2 (consG (setG 2) (consG (setG 3) nilG))) (consT (tupG 2 (consG (setG 4) (consG (setG 5) nilG))) nilT))) (retF ((calE m_Llow [(op2 (mulD true) (vE 2) (vE 5)), (op2 (mulD true) (vE 3) (vE 4))]))))
noncomputable def m_Lover : List D → M D := defM 2 6 B_Lover
noncomputable def B_Lall : SF := (seqF (asgF (cE (.int 0)) (setG 1)) (seqF (forF (rowI (vE 0)) (setG 2) (seqF (asgF (cE (.int 1)) (setG 3)) (seqF (forF (rowI (vE 2)) (setG 4) (asgF ((calE m_Lby [vE 3, vE 4])) (setG 3))) (asgF ((calE m_Lplus [vE 1, vE 3])) (setG 1))))) (retF (vE 1))))
noncomputable def m_Lall : List D → M D := defM 1 5 B_Lall
noncomputable def B_Lb : SF := (seqF (asgF (vE 0) (tupG 5 (consG (setG 1) (consG (setG 2) (consG (setG 3) (consG (setG 4) (consG (setG 5) nilG))))))) (seqF (par3F 6 7 8 [(calE m_Lall [(lstE [(lstE [vE 1, vE 1]), (lstE [cE (.int 4), vE 2])])]), (calE m_Lall [(lstE [(lstE [cE (.int 2), vE 4]), (lstE [vE 1, vE 3])])]), (calE m_Lall [(lstE [(lstE [vE 3, vE 3]), (lstE [cE (.int 4), vE 5])])])]) (retF ((tupE [vE 6, vE 7, vE 8, (calE m_Lall [(lstE [(lstE [vE 1, vE 1, vE 5]), (lstE [cE (.int 4), vE 2, vE 5]), (lstE [(op2 (subD) (cE (.int 0)) (cE (.int 1))), vE 1, vE 3, vE 4]), (lstE [vE 2, vE 3, vE 3]), (lstE [(op2 (subD) (cE (.int 0)) (cE (.int 1))), vE 4, vE 4])])])])))))
noncomputable def m_Lb : List D → M D := defM 1 9 B_Lb
noncomputable def B_Ld : SF := (seqF (asgF ((calE m_Lb [vE 0])) (tupG 4 (consG (setG 1) (consG (setG 2) (consG (setG 3) (consG (setG 4) nilG)))))) (seqF (asgF ((lstE [(lstE [cE (.int 9), vE 1, vE 2, vE 3]), (lstE [(op2 (subD) (cE (.int 0)) (cE (.int 1))), vE 1, vE 1, vE 4]), (lstE [(op2 (subD) (cE (.int 0)) (cE (.int 8))), vE 2, vE 2, vE 2]), (lstE [(op2 (subD) (cE (.int 0)) (cE (.int 27))), vE 3, vE 3])])) (setG 5)) (retF ((calE m_Lall [vE 5])))))
noncomputable def m_Ld : List D → M D := defM 1 6 B_Ld
noncomputable def B_Lsome : SF := (seqF (asgF ((op2 (subD) ((calE m_Ldraw [vE 0, cE (.int 13)])) (cE (.int 6)))) (setG 1)) (retF ((ifE ((tB (op2 (eqD false) ((calE m_Ldraw [vE 0, cE (.int 4)])) (cE (.int 0))))) ((calE m_Llow [vE 1, (op2 (addD true) (cE (.int 2)) ((calE m_Ldraw [vE 0, cE (.int 4)])))])) (vE 1)))))
noncomputable def m_Lsome : List D → M D := defM 1 2 B_Lsome
noncomputable def B_Lthrough : SF := (seqF (forF (r1I [cE (.int 9)]) (setG 2) (seqF (asgF (lcE true (r1I [cE (.int 7)]) [4] (setG 4) yesT ((ifE ((tT (vE 1))) ((op2 (subD) ((calE m_Ldraw [vE 0, cE (.int 9)])) (cE (.int 4)))) ((calE m_Lsome [vE 0]))))) (setG 3)) (seqF (asgF (vE 3) (tupG 7 (consG (setG 5) (consG (setG 6) (consG (setG 7) (consG (setG 8) (consG (setG 9) (consG (setG 10) (consG (setG 11) nilG))))))))) (seqF (asgF ((ifE ((tB (op2 (eqD false) (vE 10) (vE 8)))) ((calE m_Lplus [vE 10, cE (.int 1)])) (vE 10))) (setG 10)) (seqF (iffF (tT (vE 1)) (asgF ((op2 (addD true) (vE 8) ((calE m_Lof [vE 0, (lstE [cE (.int 1), (op2 (subD) (cE (.int 0)) (cE (.int 1)))])])))) (setG 10)) nopF) (seqF (asgF ((calE m_Lall [(lstE [(lstE [vE 9, vE 9]), (lstE [vE 5, vE 8, vE 9]), (lstE [vE 7, vE 9]), (lstE [(op2 (subD) (cE (.int 0)) (cE (.int 1))), vE 8, vE 8, vE 8]), (lstE [(op2 (subD) (cE (.int 0)) (cE (.int 1))), vE 6, vE 8, vE 8])])])) (setG 12)) (seqF (asgF ((calE m_Lall [(lstE [(lstE [vE 11, vE 11]), (lstE [vE 5, vE 10, vE 11]), (lstE [vE 7, vE 11]), (lstE [(op2 (subD) (cE (.int 0)) (cE (.int 1))), vE 10, vE 10, vE 10]), (lstE [(op2 (subD) (cE (.int 0)) (cE (.int 1))), vE 6, vE 10, vE 10])])])) (setG 13)) (seqF (asgF ((calE m_Lover [(calE m_Lplus [vE 12, (calE m_Lby [(op2 (subD) (cE (.int 0)) (cE (.int 1))), vE 13])]), (calE m_Lplus [vE 8, (calE m_Lby [(op2 (subD) (cE (.int 0)) (cE (.int 1))), vE 10])])])) (setG 14)) (seqF (asgF ((tupE [vE 5, vE 6, vE 7, vE 14, (calE m_Lplus [vE 12, (calE m_Lall [(lstE [(lstE [(op2 (subD) (cE (.int 0)) (cE (.int 1))), vE 14, vE 8])])])])])) (setG 15)) (iffF (tB (op2 (eqD true) ((calE m_Ld [vE 15])) (cE (.int 0)))) (retF ((tupE [vE 15, (lstE [(tupE [vE 8, vE 9]), (tupE [vE 10, vE 11])])]))) nopF)))))))))) (retF ((tupE [(tupE [cE (.int 0), cE (.int 0), cE (.int 1), (op2 (subD) (cE (.int 0)) (cE (.int 1))), cE (.int 0)]), (lstE [(tupE [cE (.int 0), cE (.int 0)]), (tupE [cE (.int 1), cE (.int 0)])])]))))
noncomputable def m_Lthrough : List D → M D := defM 2 16 B_Lthrough
noncomputable def B_Lchange : SF := (seqF (asgF ((calE m_Lof [vE 0, (lstE [cE (.int 1), cE (.int 1), (op2 (subD) (cE (.int 0)) (cE (.int 1))), cE (.int 2), cE (.int 3), (op2 (subD) (cE (.int 0)) (cE (.int 2))), (tupE [cE (.int 1), cE (.int 2)]), (tupE [cE (.int 1), cE (.int 3)]), (tupE [cE (.int 2), cE (.int 3)]), (tupE [(op2 (subD) (cE (.int 0)) (cE (.int 3))), cE (.int 2)])])])) (setG 1)) (retF ((tupE [vE 1, (calE m_Lsome [vE 0]), (calE m_Lsome [vE 0]), (calE m_Lsome [vE 0])]))))
noncomputable def m_Lchange : List D → M D := defM 1 2 B_Lchange
noncomputable def B_law : SF := (seqF (asgF ((calE m_Lbegun [vE 0])) (setG 1)) (seqF (forF (r1I [(op2 (addD true) (cE (.int 2)) ((calE minD [cE (.int 3), (op2 (divD) ((calE lenD [vE 0])) (cE (.int 10)))])))]) (setG 2) (seqF (asgF ((calE m_Lthrough [vE 1, (op2 (eqD false) ((op2 (modD) (vE 2) (cE (.int 2)))) (cE (.int 0)))])) (tupG 2 (consG (setG 3) (consG (setG 4) nilG)))) (seqF (tasF [vE 3, (calE (lisD true) [vE 4]), (tupE [cE (.int 1), cE (.int 0), cE (.int 0), cE (.int 0)]), (lsoE [])] (consT (setG 5) (consT (setG 6) (consT (setG 7) (consT (setG 8) nilT))))) (seqF (forF (r1I [(op2 (addD true) (cE (.int 1)) ((calE m_Ldraw [vE 1, cE (.int 5)])))]) (setG 9) (seqF (asgF ((calE m_Lchange [vE 1])) (setG 10)) (seqF (iffF (andT (tB (op2 (eqD true) (vE 8) ((lstE [])))) (tB (op2 (eqD false) ((calE m_Ldraw [vE 1, cE (.int 3)])) (cE (.int 0))))) (asgF ((calE m_undone [(metE popD (vE 8) [])])) (setG 10)) (expF ((metE appD (vE 8) [vE 10])))) (seqF (asgF (lcE true (rowI (vE 6)) [11] (setG 11) yesT ((calE m_led_point [vE 5, vE 11, vE 10]))) (setG 6)) (tasF [(calE m_led [vE 5, vE 10]), (calE m_joined [vE 7, vE 10])] (consT (setG 5) (consT (setG 7) nilT))))))) (seqF (iffF (orT (tB (op2 (eqD true) ((calE shwD [vE 5])) ((calE shwD [(calE m_led [vE 3, vE 7])])))) (tB (op2 (eqD true) ((calE shwD [(calE m_led [vE 5, (calE m_undone [vE 7])])])) ((calE shwD [vE 3]))))) (retF (cE (.bl false))) nopF) (seqF (iffF (tB (op2 (eqD true) ((calE shwD [vE 6])) ((calE shwD [(lcE true (rowI (vE 4)) [11] (setG 11) yesT ((calE m_led_point [vE 3, vE 11, vE 7])))])))) (retF (cE (.bl false))) nopF) (seqF (iffF (tB (op2 (eqD true) ((calE shwD [(lcE true (rowI (vE 6)) [11] (setG 11) yesT ((calE m_led_point [vE 5, vE 11, (calE m_undone [vE 7])])))])) ((calE shwD [vE 4])))) (retF (cE (.bl false))) nopF) (seqF (parF 12 13 [(calE m_invariants [vE 3]), (calE m_invariants [vE 5])]) (seqF (asgF ((lstE [(calE m_Lall [(lstE [(lstE [(op2 ixD (vE 12) (cE (.int 5))), (op2 ixD (vE 12) (cE (.int 5))), (op2 ixD (vE 13) (cE (.int 6)))])])]), (calE m_Lall [(lstE [(lstE [(op2 ixD (vE 13) (cE (.int 5))), (op2 ixD (vE 13) (cE (.int 5))), (op2 ixD (vE 12) (cE (.int 6)))])])])])) (setG 14)) (seqF (iffF (orT (tB (op2 (eqD true) ((calE shwD [(op2 ixD (vE 13) (cE (.int 7)))])) ((calE shwD [(op2 ixD (vE 12) (cE (.int 7)))])))) (tB (op2 (eqD true) ((op2 ixD (vE 14) (cE (.int 0)))) ((op2 ixD (vE 14) (cE (.int 1))))))) (retF (cE (.bl false))) nopF) (seqF (iffF (tB (op2 (eqD true) ((calE shwD [(calE m_through [(op2 ixD (vE 5) (cE (.int 0))), (op2 ixD (vE 5) (cE (.int 1))), (op2 ixD (vE 5) (cE (.int 2))), (op2 ixD (vE 6) (cE (.int 0))), (op2 ixD (vE 6) (cE (.int 1)))])])) ((calE shwD [vE 5])))) (retF (cE (.bl false))) nopF) (iffF (tB (op2 (eqD true) ((calE m_is_whole [vE 5])) ((op2 (eqD false) ((lcE true (rowI (vE 5)) [15] (setG 15) (tT ((calE isiD [vE 15, cE (.ty "tuple")]))) (vE 15))) ((lstE [])))))) (retF (cE (.bl false))) nopF)))))))))))) (retF (cE (.bl true)))))
noncomputable def m_law : List D → M D := defM 1 16 B_law
/-! ### what the top has left -/
structure Txt (K : PySem.W.Frag) (mg : Str → Option Value) where
  f_is_number : Addr
  d_is_number : FuncData
  F_is_number : Fun K "is_number" "is_number" st_is_number f_is_number d_is_number
  b_is_number : Binds K d_is_number ["thing"] []
  f_common : Addr
  d_common : FuncData
  F_common : Fun K "common" "common" st_common f_common d_common
  b_common : Binds K d_common ["one", "other"] []
  f_is_fraction : Addr
  d_is_fraction : FuncData
  F_is_fraction : Fun K "is_fraction" "is_fraction" st_is_fraction f_is_fraction d_is_fraction
  b_is_fraction : Binds K d_is_fraction ["thing"] []
  f_pair_of : Addr
  d_pair_of : FuncData
  F_pair_of : Fun K "pair_of" "pair_of" st_pair_of f_pair_of d_pair_of
  b_pair_of : Binds K d_pair_of ["a"] []
  f_lowest : Addr
  d_lowest : FuncData
  F_lowest : Fun K "lowest" "lowest" st_lowest f_lowest d_lowest
  b_lowest : Binds K d_lowest ["top", "bottom"] []
  f_sum_of_two : Addr
  d_sum_of_two : FuncData
  F_sum_of_two : Fun K "sum_of_two" "sum_of_two" st_sum_of_two f_sum_of_two d_sum_of_two
  b_sum_of_two : Binds K d_sum_of_two ["a", "b"] []
  f_product : Addr
  d_product : FuncData
  F_product : Fun K "product" "product" st_product f_product d_product
  b_product : Binds K d_product ["a", "b"] []
  f_quotient : Addr
  d_quotient : FuncData
  F_quotient : Fun K "quotient" "quotient" st_quotient f_quotient d_quotient
  b_quotient : Binds K d_quotient ["a", "b"] []
  f_summed : Addr
  d_summed : FuncData
  F_summed : Fun K "summed" "summed" st_summed f_summed d_summed
  b_summed : Binds K d_summed ["rows"] []
  f_halves_of : Addr
  d_halves_of : FuncData
  F_halves_of : Fun K "halves_of" "halves_of" st_halves_of f_halves_of d_halves_of
  b_halves_of : Binds K d_halves_of ["five"] []
  f_d_of : Addr
  d_d_of : FuncData
  F_d_of : Fun K "d_of" "d_of" st_d_of f_d_of d_d_of
  b_d_of : Binds K d_d_of ["five"] []
  f_is_curve : Addr
  d_is_curve : FuncData
  F_is_curve : Fun K "is_curve" "is_curve" st_is_curve f_is_curve d_is_curve
  b_is_curve : Binds K d_is_curve ["thing"] []
  f_need_curve : Addr
  d_need_curve : FuncData
  F_need_curve : Fun K "need_curve" "need_curve" st_need_curve f_need_curve d_need_curve
  b_need_curve : Binds K d_need_curve ["curve"] []
  f_own_invariants : Addr
  d_own_invariants : FuncData
  F_own_invariants : Fun K "own_invariants" "own_invariants" st_own_invariants f_own_invariants d_own_invariants
  b_own_invariants : Binds K d_own_invariants ["curve"] []
  f_invariants : Addr
  d_invariants : FuncData
  F_invariants : Fun K "invariants" "invariants" st_invariants f_invariants d_invariants
  b_invariants : Binds K d_invariants ["curve"] []
  f_own_is_whole : Addr
  d_own_is_whole : FuncData
  F_own_is_whole : Fun K "own_is_whole" "own_is_whole" st_own_is_whole f_own_is_whole d_own_is_whole
  b_own_is_whole : Binds K d_own_is_whole ["curve"] []
  f_is_whole : Addr
  d_is_whole : FuncData
  F_is_whole : Fun K "is_whole" "is_whole" st_is_whole f_is_whole d_is_whole
  b_is_whole : Binds K d_is_whole ["curve"] []
  f_off_by : Addr
  d_off_by : FuncData
  F_off_by : Fun K "off_by" "off_by" st_off_by f_off_by d_off_by
  b_off_by : Binds K d_off_by ["five", "x", "y"] []
  f_is_pair : Addr
  d_is_pair : FuncData
  F_is_pair : Fun K "is_pair" "is_pair" st_is_pair f_is_pair d_is_pair
  b_is_pair : Binds K d_is_pair ["thing"] []
  f_lies_on : Addr
  d_lies_on : FuncData
  F_lies_on : Fun K "lies_on" "lies_on" st_lies_on f_lies_on d_lies_on
  b_lies_on : Binds K d_lies_on ["curve", "thing"] []
  f_through : Addr
  d_through : FuncData
  F_through : Fun K "through" "through" st_through f_through d_through
  b_through : Binds K d_through ["a1", "a2", "a3", "one", "other"] []
  f_is_change : Addr
  d_is_change : FuncData
  F_is_change : Fun K "is_change" "is_change" st_is_change f_is_change d_is_change
  b_is_change : Binds K d_is_change ["thing"] []
  f_need_change : Addr
  d_need_change : FuncData
  F_need_change : Fun K "need_change" "need_change" st_need_change f_need_change d_need_change
  b_need_change : Binds K d_need_change ["change"] []
  f_by_power : Addr
  d_by_power : FuncData
  F_by_power : Fun K "by_power" "by_power" st_by_power f_by_power d_by_power
  b_by_power : Binds K d_by_power ["a", "u", "many"] []
  f_own_led : Addr
  d_own_led : FuncData
  F_own_led : Fun K "own_led" "own_led" st_own_led f_own_led d_own_led
  b_own_led : Binds K d_own_led ["curve", "change"] []
  f_led : Addr
  d_led : FuncData
  F_led : Fun K "led" "led" st_led f_led d_led
  b_led : Binds K d_led ["curve", "change"] []
  f_own_joined : Addr
  d_own_joined : FuncData
  F_own_joined : Fun K "own_joined" "own_joined" st_own_joined f_own_joined d_own_joined
  b_own_joined : Binds K d_own_joined ["one", "other"] []
  f_joined : Addr
  d_joined : FuncData
  F_joined : Fun K "joined" "joined" st_joined f_joined d_joined
  b_joined : Binds K d_joined ["one", "other"] []
  f_own_undone : Addr
  d_own_undone : FuncData
  F_own_undone : Fun K "own_undone" "own_undone" st_own_undone f_own_undone d_own_undone
  b_own_undone : Binds K d_own_undone ["change"] []
  f_undone : Addr
  d_undone : FuncData
  F_undone : Fun K "undone" "undone" st_undone f_undone d_undone
  b_undone : Binds K d_undone ["change"] []
  f_own_led_point : Addr
  d_own_led_point : FuncData
  F_own_led_point : Fun K "own_led_point" "own_led_point" st_own_led_point f_own_led_point d_own_led_point
  b_own_led_point : Binds K d_own_led_point ["point", "change"] []
  f_led_point : Addr
  d_led_point : FuncData
  F_led_point : Fun K "led_point" "led_point" st_led_point f_led_point d_led_point
  b_led_point : Binds K d_led_point ["curve", "point", "change"] []
  f_Lbegun : Addr
  d_Lbegun : FuncData
  F_Lbegun : Fun K "_law_begun" "_law_begun" st_Lbegun f_Lbegun d_Lbegun
  b_Lbegun : Binds K d_Lbegun ["_law_script"] []
  f_Ldraw : Addr
  d_Ldraw : FuncData
  F_Ldraw : Fun K "_law_draw" "_law_draw" st_Ldraw f_Ldraw d_Ldraw
  b_Ldraw : Binds K d_Ldraw ["_law_m", "_law_top"] []
  f_Lof : Addr
  d_Lof : FuncData
  F_Lof : Fun K "_law_of" "_law_of" st_Lof f_Lof d_Lof
  b_Lof : Binds K d_Lof ["_law_m", "_law_some_here"] []
  f_Llow : Addr
  d_Llow : FuncData
  F_Llow : Fun K "_law_low" "_law_low" st_Llow f_Llow d_Llow
  b_Llow : Binds K d_Llow ["_law_top", "_law_bottom"] []
  f_Ltwo : Addr
  d_Ltwo : FuncData
  F_Ltwo : Fun K "_law_two" "_law_two" st_Ltwo f_Ltwo d_Ltwo
  b_Ltwo : Binds K d_Ltwo ["_law_a"] []
  f_Lplus : Addr
  d_Lplus : FuncData
  F_Lplus : Fun K "_law_plus" "_law_plus" st_Lplus f_Lplus d_Lplus
  b_Lplus : Binds K d_Lplus ["_law_a", "_law_b_here"] []
  f_Lby : Addr
  d_Lby : FuncData
  F_Lby : Fun K "_law_by" "_law_by" st_Lby f_Lby d_Lby
  b_Lby : Binds K d_Lby ["_law_a", "_law_b_here"] []
  f_Lover : Addr
  d_Lover : FuncData
  F_Lover : Fun K "_law_over" "_law_over" st_Lover f_Lover d_Lover
  b_Lover : Binds K d_Lover ["_law_a", "_law_b_here"] []
  f_Lall : Addr
  d_Lall : FuncData
  F_Lall : Fun K "_law_all" "_law_all" st_Lall f_Lall d_Lall
  b_Lall : Binds K d_Lall ["_law_rows"] []
  f_Lb : Addr
  d_Lb : FuncData
  F_Lb : Fun K "_law_b" "_law_b" st_Lb f_Lb d_Lb
  b_Lb : Binds K d_Lb ["_law_curve"] []
  f_Ld : Addr
  d_Ld : FuncData
  F_Ld : Fun K "_law_d" "_law_d" st_Ld f_Ld d_Ld
  b_Ld : Binds K d_Ld ["_law_curve"] []
  f_Lsome : Addr
  d_Lsome : FuncData
  F_Lsome : Fun K "_law_some" "_law_some" st_Lsome f_Lsome d_Lsome
  b_Lsome : Binds K d_Lsome ["_law_m"] []
  f_Lthrough : Addr
  d_Lthrough : FuncData
  F_Lthrough : Fun K "_law_through" "_law_through" st_Lthrough f_Lthrough d_Lthrough
  b_Lthrough : Binds K d_Lthrough ["_law_m", "_law_whole"] []
  f_Lchange : Addr
  d_Lchange : FuncData
  F_Lchange : Fun K "_law_change" "_law_change" st_Lchange f_Lchange d_Lchange
  b_Lchange : Binds K d_Lchange ["_law_m"] []
  f_law : Addr
  d_law : FuncData
  F_law : Fun K "law" "law" st_law f_law d_law
  b_law : Binds K d_law ["_law_script"] []
  g_is_number : mg "is_number" = some (.ref f_is_number)
  g_common : mg "common" = some (.ref f_common)
  g_pair_of : mg "pair_of" = some (.ref f_pair_of)
  g_lowest : mg "lowest" = some (.ref f_lowest)
  g_product : mg "product" = some (.ref f_product)
  g_sum_of_two : mg "sum_of_two" = some (.ref f_sum_of_two)
  g_summed : mg "summed" = some (.ref f_summed)
  g_halves_of : mg "halves_of" = some (.ref f_halves_of)
  g_is_fraction : mg "is_fraction" = some (.ref f_is_fraction)
  g_d_of : mg "d_of" = some (.ref f_d_of)
  g_is_curve : mg "is_curve" = some (.ref f_is_curve)
  g_quotient : mg "quotient" = some (.ref f_quotient)
  g_need_curve : mg "need_curve" = some (.ref f_need_curve)
  g_own_invariants : mg "own_invariants" = some (.ref f_own_invariants)
  g_own_is_whole : mg "own_is_whole" = some (.ref f_own_is_whole)
  g_is_pair : mg "is_pair" = some (.ref f_is_pair)
  g_off_by : mg "off_by" = some (.ref f_off_by)
  g_is_change : mg "is_change" = some (.ref f_is_change)
  g_by_power : mg "by_power" = some (.ref f_by_power)
  g_need_change : mg "need_change" = some (.ref f_need_change)
  g_own_led : mg "own_led" = some (.ref f_own_led)
  g_own_joined : mg "own_joined" = some (.ref f_own_joined)
  g_own_undone : mg "own_undone" = some (.ref f_own_undone)
  g_lies_on : mg "lies_on" = some (.ref f_lies_on)
  g_own_led_point : mg "own_led_point" = some (.ref f_own_led_point)
  g_Ldraw : mg "_law_draw" = some (.ref f_Ldraw)
  g_Ltwo : mg "_law_two" = some (.ref f_Ltwo)
  g_Llow : mg "_law_low" = some (.ref f_Llow)
  g_Lby : mg "_law_by" = some (.ref f_Lby)
  g_Lplus : mg "_law_plus" = some (.ref f_Lplus)
  g_Lall : mg "_law_all" = some (.ref f_Lall)
  g_Lb : mg "_law_b" = some (.ref f_Lb)
  g_Lsome : mg "_law_some" = some (.ref f_Lsome)
  g_Lof : mg "_law_of" = some (.ref f_Lof)
  g_Lover : mg "_law_over" = some (.ref f_Lover)
  g_Ld : mg "_law_d" = some (.ref f_Ld)
  g_Lbegun : mg "_law_begun" = some (.ref f_Lbegun)
  g_Lthrough : mg "_law_through" = some (.ref f_Lthrough)
  g_Lchange : mg "_law_change" = some (.ref f_Lchange)
  g_undone : mg "undone" = some (.ref f_undone)
  g_led_point : mg "led_point" = some (.ref f_led_point)
  g_joined : mg "joined" = some (.ref f_joined)
  g_led : mg "led" = some (.ref f_led)
  g_invariants : mg "invariants" = some (.ref f_invariants)
  g_through : mg "through" = some (.ref f_through)
  g_is_whole : mg "is_whole" = some (.ref f_is_whole)
  g_law : mg "law" = some (.ref f_law)
  n_int : mg "int" = none
  n_isinstance : mg "isinstance" = none
  n_bool : mg "bool" = none
  n_abs : mg "abs" = none
  n_tuple : mg "tuple" = none
  n_len : mg "len" = none
  n_all : mg "all" = none
  n_range : mg "range" = none
  n_zip : mg "zip" = none
  n_enumerate : mg "enumerate" = none
  n_max : mg "max" = none
  n_min : mg "min" = none
  n_list : mg "list" = none
  n_repr : mg "repr" = none
theorem bt_int : bootBuiltins "int" = some (.type "int") := by decide +kernel
theorem bt_isinstance : bootBuiltins "isinstance" = some (.builtin "isinstance") := by decide +kernel
theorem bt_bool : bootBuiltins "bool" = some (.type "bool") := by decide +kernel
theorem bt_abs : bootBuiltins "abs" = some (.builtin "abs") := by decide +kernel
theorem bt_tuple : bootBuiltins "tuple" = some (.type "tuple") := by decide +kernel
theorem bt_len : bootBuiltins "len" = some (.builtin "len") := by decide +kernel
theorem bt_all : bootBuiltins "all" = some (.builtin "all") := by decide +kernel
theorem bt_max : bootBuiltins "max" = some (.builtin "max") := by decide +kernel
theorem bt_min : bootBuiltins "min" = some (.builtin "min") := by decide +kernel
theorem bt_list : bootBuiltins "list" = some (.type "list") := by decide +kernel
theorem bt_repr : bootBuiltins "repr" = some (.builtin "repr") := by decide +kernel
/-! ### each def does it -/
section
variable {C : Cf}
theorem ok_is_number (T : Txt C.K C.mg) : Fn C 1 T.f_is_number T.d_is_number ["thing"] (spM C.K 1 m_is_number) :=
  fn_body (k := 0) T.F_is_number sc_is_number (show SB C (defScope st_is_number) N_is_number 0 (defBody st_is_number) B_is_number from
    (b_one (x_ret ((s_and ((s_bf c_isi T.n_isinstance bt_isinstance (a_cons (s_v 0) (a_cons ((s_bty T.n_int bt_int)) (a_nil))))) (s_one ((s_not ((s_bf c_isi T.n_isinstance bt_isinstance (a_cons (s_v 0) (a_cons ((s_bty T.n_bool bt_bool)) (a_nil)))))))))))))
theorem ok_common (T : Txt C.K C.mg) : Fn C 1 T.f_common T.d_common ["one", "other"] (spM C.K 2 m_common) :=
  fn_body (k := 0) T.F_common sc_common (show SB C (defScope st_common) N_common 0 (defBody st_common) B_common from
    (b_cons (x_while (t_cmp (o_ne) (s_v 1) (s_int)) (b_one (x_par 0 1 (a_cons (s_v 1) (a_cons ((s_bin (o_mod) (s_v 0) (s_v 1))) (a_nil))) (hw := by intro env h; cases env; cases h; rfl)))) (b_one (x_ret ((s_bf c_abs T.n_abs bt_abs (a_cons (s_v 0) (a_nil))))))))
theorem ok_is_fraction (T : Txt C.K C.mg) : Fn C 2 T.f_is_fraction T.d_is_fraction ["thing"] (spM C.K 1 m_is_fraction) :=
  fn_body (k := 1) T.F_is_fraction sc_is_fraction (show SB C (defScope st_is_fraction) N_is_fraction 1 (defBody st_is_fraction) B_is_fraction from
    (b_cons (x_if (t_not (t_val ((s_bf c_isi T.n_isinstance bt_isinstance (a_cons (s_v 0) (a_cons ((s_bty T.n_tuple bt_tuple)) (a_nil))))))) (b_one (x_ret ((s_call (ok_is_number T) (by decide) T.g_is_number T.F_is_number.kp T.b_is_number (a_cons (s_v 0) (a_nil)))))) b_nil) (b_cons (x_if (t_w (w_or ((t_cmp (o_ne) ((s_bf c_len T.n_len bt_len (a_cons (s_v 0) (a_nil)))) (s_int))) (w_or ((t_not (t_val ((s_call (ok_is_number T) (by decide) T.g_is_number T.F_is_number.kp T.b_is_number (a_cons ((s_ix (s_v 0) (s_int))) (a_nil))))))) (w_or1 ((t_not (t_val ((s_call (ok_is_number T) (by decide) T.g_is_number T.F_is_number.kp T.b_is_number (a_cons ((s_ix (s_v 0) (s_int))) (a_nil))))))))))) (b_one (x_ret (s_bl))) b_nil) (b_one (x_ret ((s_and ((s_cmp (o_gt) ((s_ix (s_v 0) (s_int))) (s_int))) (s_one ((s_cmp (o_eq) ((s_call (ok_common T) (by decide) T.g_common T.F_common.kp T.b_common (a_cons ((s_ix (s_v 0) (s_int))) (a_cons ((s_ix (s_v 0) (s_int))) (a_nil))))) (s_int)))))))))))
theorem ok_pair_of (T : Txt C.K C.mg) : Fn C 1 T.f_pair_of T.d_pair_of ["a"] (spM C.K 1 m_pair_of) :=
  fn_body (k := 0) T.F_pair_of sc_pair_of (show SB C (defScope st_pair_of) N_pair_of 0 (defBody st_pair_of) B_pair_of from
    (b_one (x_ret ((s_if ((t_val ((s_bf c_isi T.n_isinstance bt_isinstance (a_cons (s_v 0) (a_cons ((s_bty T.n_tuple bt_tuple)) (a_nil))))))) (s_v 0) ((s_tup (a_cons (s_v 0) (a_cons (s_int) (a_nil))))))))))
theorem ok_lowest (T : Txt C.K C.mg) : Fn C 2 T.f_lowest T.d_lowest ["top", "bottom"] (spM C.K 2 m_lowest) :=
  fn_body (k := 1) T.F_lowest sc_lowest (show SB C (defScope st_lowest) N_lowest 1 (defBody st_lowest) B_lowest from
    (b_cons (x_asg ((s_if ((t_cmp (o_gt) (s_v 1) (s_int))) ((s_call (ok_common T) (by decide) T.g_common T.F_common.kp T.b_common (a_cons (s_v 0) (a_cons (s_v 1) (a_nil))))) ((s_neg ((s_call (ok_common T) (by decide) T.g_common T.F_common.kp T.b_common (a_cons (s_v 0) (a_cons (s_v 1) (a_nil))))))))) (g_name 2)) (b_one (x_ret ((s_if ((t_cmp (o_eq) ((s_bin (o_div) (s_v 1) (s_v 2))) (s_int))) ((s_bin (o_div) (s_v 0) (s_v 2))) ((s_tup (a_cons ((s_bin (o_div) (s_v 0) (s_v 2))) (a_cons ((s_bin (o_div) (s_v 1) (s_v 2))) (a_nil)))))))))))
theorem ok_sum_of_two (T : Txt C.K C.mg) : Fn C 3 T.f_sum_of_two T.d_sum_of_two ["a", "b"] (spM C.K 2 m_sum_of_two) :=
  fn_body (k := 2) T.F_sum_of_two sc_sum_of_two (show SB C (defScope st_sum_of_two) N_sum_of_two 2 (defBody st_sum_of_two) B_sum_of_two from
    (b_cons (x_tas (a_cons ((s_call (ok_pair_of T) (by decide) T.g_pair_of T.F_pair_of.kp T.b_pair_of (a_cons (s_v 0) (a_nil)))) (a_cons ((s_call (ok_pair_of T) (by decide) T.g_pair_of T.F_pair_of.kp T.b_pair_of (a_cons (s_v 1) (a_nil)))) (a_nil))) (gd_cons (g_tup (n := 2) (gs_cons (g_name 2) (gs_cons (g_name 3) gs_nil))) (gd_cons (g_tup (n := 2) (gs_cons (g_name 4) (gs_cons (g_name 5) gs_nil))) gd_nil))) (b_one (x_ret ((s_call (ok_lowest T) (by decide) T.g_lowest T.F_lowest.kp T.b_lowest (a_cons ((s_bin (o_add true) ((s_bin (o_mul true) (s_v 2) (s_v 5))) ((s_bin (o_mul true) (s_v 4) (s_v 3))))) (a_cons ((s_bin (o_mul true) (s_v 3) (s_v 5))) (a_nil)))))))))
theorem ok_product (T : Txt C.K C.mg) : Fn C 3 T.f_product T.d_product ["a", "b"] (spM C.K 2 m_product) :=
  fn_body (k := 2) T.F_product sc_product (show SB C (defScope st_product) N_product 2 (defBody st_product) B_product from
    (b_cons (x_tas (a_cons ((s_call (ok_pair_of T) (by decide) T.g_pair_of T.F_pair_of.kp T.b_pair_of (a_cons (s_v 0) (a_nil)))) (a_cons ((s_call (ok_pair_of T) (by decide) T.g_pair_of T.F_pair_of.kp T.b_pair_of (a_cons (s_v 1) (a_nil)))) (a_nil))) (gd_cons (g_tup (n := 2) (gs_cons (g_name 2) (gs_cons (g_name 3) gs_nil))) (gd_cons (g_tup (n := 2) (gs_cons (g_name 4) (gs_cons (g_name 5) gs_nil))) gd_nil))) (b_one (x_ret ((s_call (ok_lowest T) (by decide) T.g_lowest T.F_lowest.kp T.b_lowest (a_cons ((s_bin (o_mul true) (s_v 2) (s_v 4))) (a_cons ((s_bin (o_mul true) (s_v 3) (s_v 5))) (a_nil)))))))))
theorem ok_quotient (T : Txt C.K C.mg) : Fn C 4 T.f_quotient T.d_quotient ["a", "b"] (spM C.K 2 m_quotient) :=
  fn_body (k := 3) T.F_quotient sc_quotient (show SB C (defScope st_quotient) N_quotient 3 (defBody st_quotient) B_quotient from
    (b_cons (x_asg ((s_call (ok_pair_of T) (by decide) T.g_pair_of T.F_pair_of.kp T.b_pair_of (a_cons (s_v 1) (a_nil)))) (g_tup (n := 2) (gs_cons (g_name 2) (gs_cons (g_name 3) gs_nil)))) (b_one (x_ret ((s_call (ok_product T) (by decide) T.g_product T.F_product.kp T.b_product (a_cons (s_v 0) (a_cons ((s_call (ok_lowest T) (by decide) T.g_lowest T.F_lowest.kp T.b_lowest (a_cons (s_v 3) (a_cons (s_v 2) (a_nil))))) (a_nil)))))))))
theorem ok_summed (T : Txt C.K C.mg) : Fn C 4 T.f_summed T.d_summed ["rows"] (spM C.K 1 m_summed) :=
  fn_body (k := 3) T.F_summed sc_summed (show SB C (defScope st_summed) N_summed 3 (defBody st_summed) B_summed from
    (b_cons (x_asg (s_int) (g_name 1)) (b_cons (x_for (i_row (s_v 0)) (g_name 2) (b_cons (x_asg (s_int) (g_name 3)) (b_cons (x_for (i_row (s_v 2)) (g_name 4) (b_one (x_asg ((s_call (ok_product T) (by decide) T.g_product T.F_product.kp T.b_product (a_cons (s_v 3) (a_cons (s_v 4) (a_nil))))) (g_name 3)))) (b_one (x_asg ((s_call (ok_sum_of_two T) (by decide) T.g_sum_of_two T.F_sum_of_two.kp T.b_sum_of_two (a_cons (s_v 1) (a_cons (s_v 3) (a_nil))))) (g_name 1)))))) (b_one (x_ret (s_v 1))))))
theorem ok_halves_of (T : Txt C.K C.mg) : Fn C 5 T.f_halves_of T.d_halves_of ["five"] (spM C.K 1 m_halves_of) :=
  fn_body (k := 4) T.F_halves_of sc_halves_of (show SB C (defScope st_halves_of) N_halves_of 4 (defBody st_halves_of) B_halves_of from
    (b_cons (x_asg (s_v 0) (g_tup (n := 5) (gs_cons (g_name 1) (gs_cons (g_name 2) (gs_cons (g_name 3) (gs_cons (g_name 4) (gs_cons (g_name 5) gs_nil))))))) (b_cons (x_par 6 7 (a_cons ((s_call (ok_summed T) (by decide) T.g_summed T.F_summed.kp T.b_summed (a_cons ((s_lst (a_cons ((s_tup (a_cons (s_v 1) (a_cons (s_v 1) (a_nil))))) (a_cons ((s_tup (a_cons (s_int) (a_cons (s_v 2) (a_nil))))) (a_nil))))) (a_nil)))) (a_cons ((s_call (ok_summed T) (by decide) T.g_summed T.F_summed.kp T.b_summed (a_cons ((s_lst (a_cons ((s_tup (a_cons (s_int) (a_cons (s_v 4) (a_nil))))) (a_cons ((s_tup (a_cons (s_v 1) (a_cons (s_v 3) (a_nil))))) (a_nil))))) (a_nil)))) (a_nil))) (hw := by intro env h; cases env; cases h; rfl)) (b_cons (x_asg ((s_call (ok_summed T) (by decide) T.g_summed T.F_summed.kp T.b_summed (a_cons ((s_lst (a_cons ((s_tup (a_cons (s_v 1) (a_cons (s_v 1) (a_cons (s_v 5) (a_nil)))))) (a_cons ((s_tup (a_cons (s_int) (a_cons (s_v 2) (a_cons (s_v 5) (a_nil)))))) (a_cons ((s_tup (a_cons ((s_neg (s_int))) (a_cons (s_v 1) (a_cons (s_v 3) (a_cons (s_v 4) (a_nil))))))) (a_cons ((s_tup (a_cons (s_v 2) (a_cons (s_v 3) (a_cons (s_v 3) (a_nil)))))) (a_cons ((s_tup (a_cons ((s_neg (s_int))) (a_cons (s_v 4) (a_cons (s_v 4) (a_nil)))))) (a_nil)))))))) (a_nil)))) (g_name 8)) (b_one (x_ret ((s_tup (a_cons (s_v 6) (a_cons (s_v 7) (a_cons ((s_call (ok_summed T) (by decide) T.g_summed T.F_summed.kp T.b_summed (a_cons ((s_lst (a_cons ((s_tup (a_cons (s_v 3) (a_cons (s_v 3) (a_nil))))) (a_cons ((s_tup (a_cons (s_int) (a_cons (s_v 5) (a_nil))))) (a_nil))))) (a_nil)))) (a_cons (s_v 8) (a_nil)))))))))))))
theorem ok_d_of (T : Txt C.K C.mg) : Fn C 6 T.f_d_of T.d_d_of ["five"] (spM C.K 1 m_d_of) :=
  fn_body (k := 5) T.F_d_of sc_d_of (show SB C (defScope st_d_of) N_d_of 5 (defBody st_d_of) B_d_of from
    (b_cons (x_asg ((s_call (ok_halves_of T) (by decide) T.g_halves_of T.F_halves_of.kp T.b_halves_of (a_cons (s_v 0) (a_nil)))) (g_tup (n := 4) (gs_cons (g_name 1) (gs_cons (g_name 2) (gs_cons (g_name 3) (gs_cons (g_name 4) gs_nil)))))) (b_one (x_ret ((s_call (ok_summed T) (by decide) T.g_summed T.F_summed.kp T.b_summed (a_cons ((s_lst (a_cons ((s_tup (a_cons (s_int) (a_cons (s_v 1) (a_cons (s_v 2) (a_cons (s_v 3) (a_nil))))))) (a_cons ((s_tup (a_cons ((s_neg (s_int))) (a_cons (s_v 1) (a_cons (s_v 1) (a_cons (s_v 4) (a_nil))))))) (a_cons ((s_tup (a_cons ((s_neg (s_int))) (a_cons (s_v 2) (a_cons (s_v 2) (a_cons (s_v 2) (a_nil))))))) (a_cons ((s_tup (a_cons ((s_neg (s_int))) (a_cons (s_v 3) (a_cons (s_v 3) (a_nil)))))) (a_nil))))))) (a_nil))))))))
theorem ok_is_curve (T : Txt C.K C.mg) : Fn C 7 T.f_is_curve T.d_is_curve ["thing"] (spM C.K 1 m_is_curve) :=
  fn_body (k := 6) T.F_is_curve sc_is_curve (show SB C (defScope st_is_curve) N_is_curve 6 (defBody st_is_curve) B_is_curve from
    (b_cons (x_if (t_w (w_or ((t_not (t_val ((s_bf c_isi T.n_isinstance bt_isinstance (a_cons (s_v 0) (a_cons ((s_bty T.n_tuple bt_tuple)) (a_nil)))))))) (w_or ((t_cmp (o_ne) ((s_bf c_len T.n_len bt_len (a_cons (s_v 0) (a_nil)))) (s_int))) (w_or1 ((t_not (t_val ((s_bf c_all T.n_all bt_all (a_cons ((s_lc true [("one", 1)] (i_row (s_v 0)) (g_name 1) c_yes ((s_call (ok_is_fraction T) (by decide) T.g_is_fraction T.F_is_fraction.kp T.b_is_fraction (a_cons (s_v 1) (a_nil)))))) (a_nil))))))))))) (b_one (x_ret (s_bl))) b_nil) (b_one (x_ret ((s_cmp (o_ne) ((s_call (ok_d_of T) (by decide) T.g_d_of T.F_d_of.kp T.b_d_of (a_cons (s_v 0) (a_nil)))) (s_int)))))))
theorem ok_need_curve (T : Txt C.K C.mg) : Fn C 8 T.f_need_curve T.d_need_curve ["curve"] (spM C.K 1 m_need_curve) :=
  fn_body (k := 7) T.F_need_curve sc_need_curve (show SB C (defScope st_need_curve) N_need_curve 7 (defBody st_need_curve) B_need_curve from
    (b_one (x_if (t_not (t_val ((s_call (ok_is_curve T) (by decide) T.g_is_curve T.F_is_curve.kp T.b_is_curve (a_cons (s_v 0) (a_nil)))))) (b_one x_never) b_nil)))
theorem ok_own_invariants (T : Txt C.K C.mg) : Fn C 7 T.f_own_invariants T.d_own_invariants ["curve"] (spM C.K 1 m_own_invariants) :=
  fn_body (k := 6) T.F_own_invariants sc_own_invariants (show SB C (defScope st_own_invariants) N_own_invariants 6 (defBody st_own_invariants) B_own_invariants from
    (b_cons (x_asg ((s_call (ok_halves_of T) (by decide) T.g_halves_of T.F_halves_of.kp T.b_halves_of (a_cons (s_v 0) (a_nil)))) (g_tup (n := 4) (gs_cons (g_name 1) (gs_cons (g_name 2) (gs_cons (g_name 3) (gs_cons (g_name 4) gs_nil)))))) (b_cons (x_asg ((s_call (ok_summed T) (by decide) T.g_summed T.F_summed.kp T.b_summed (a_cons ((s_lst (a_cons ((s_tup (a_cons (s_v 1) (a_cons (s_v 1) (a_nil))))) (a_cons ((s_tup (a_cons ((s_neg (s_int))) (a_cons (s_v 2) (a_nil))))) (a_nil))))) (a_nil)))) (g_name 5)) (b_cons (x_asg ((s_call (ok_summed T) (by decide) T.g_summed T.F_summed.kp T.b_summed (a_cons ((s_lst (a_cons ((s_tup (a_cons (s_int) (a_cons (s_v 1) (a_cons (s_v 2) (a_nil)))))) (a_cons ((s_tup (a_cons ((s_neg (s_int))) (a_cons (s_v 1) (a_cons (s_v 1) (a_cons (s_v 1) (a_nil))))))) (a_cons ((s_tup (a_cons ((s_neg (s_int))) (a_cons (s_v 3) (a_nil))))) (a_nil)))))) (a_nil)))) (g_name 6)) (b_one (x_ret ((s_tup (a_cons (s_v 1) (a_cons (s_v 2) (a_cons (s_v 3) (a_cons (s_v 4) (a_cons (s_v 5) (a_cons (s_v 6) (a_cons ((s_call (ok_d_of T) (by decide) T.g_d_of T.F_d_of.kp T.b_d_of (a_cons (s_v 0) (a_nil)))) (a_cons ((s_call (ok_quotient T) (by decide) T.g_quotient T.F_quotient.kp T.b_quotient (a_cons ((s_call (ok_summed T) (by decide) T.g_summed T.F_summed.kp T.b_summed (a_cons ((s_lst (a_cons ((s_tup (a_cons (s_v 5) (a_cons (s_v 5) (a_cons (s_v 5) (a_nil)))))) (a_nil)))) (a_nil)))) (a_cons ((s_call (ok_d_of T) (by decide) T.g_d_of T.F_d_of.kp T.b_d_of (a_cons (s_v 0) (a_nil)))) (a_nil))))) (a_nil)))))))))))))))))
theorem ok_invariants (T : Txt C.K C.mg) : Fn C 9 T.f_invariants T.d_invariants ["curve"] (spM C.K 1 m_invariants) :=
  fn_body (k := 8) T.F_invariants sc_invariants (show SB C (defScope st_invariants) N_invariants 8 (defBody st_invariants) B_invariants from
    (b_cons (x_exp ((s_call (ok_need_curve T) (by decide) T.g_need_curve T.F_need_curve.kp T.b_need_curve (a_cons (s_v 0) (a_nil))))) (b_one (x_ret ((s_call (ok_own_invariants T) (by decide) T.g_own_invariants T.F_own_invariants.kp T.b_own_invariants (a_cons (s_v 0) (a_nil))))))))
theorem ok_own_is_whole (T : Txt C.K C.mg) : Fn C 1 T.f_own_is_whole T.d_own_is_whole ["curve"] (spM C.K 1 m_own_is_whole) :=
  fn_body (k := 0) T.F_own_is_whole sc_own_is_whole (show SB C (defScope st_own_is_whole) N_own_is_whole 0 (defBody st_own_is_whole) B_own_is_whole from
    (b_one (x_ret ((s_bf c_all T.n_all bt_all (a_cons ((s_lc true [("one", 1)] (i_row (s_v 0)) (g_name 1) c_yes ((s_bf c_isi T.n_isinstance bt_isinstance (a_cons (s_v 1) (a_cons ((s_bty T.n_int bt_int)) (a_nil))))))) (a_nil)))))))
theorem ok_is_whole (T : Txt C.K C.mg) : Fn C 9 T.f_is_whole T.d_is_whole ["curve"] (spM C.K 1 m_is_whole) :=
  fn_body (k := 8) T.F_is_whole sc_is_whole (show SB C (defScope st_is_whole) N_is_whole 8 (defBody st_is_whole) B_is_whole from
    (b_cons (x_exp ((s_call (ok_need_curve T) (by decide) T.g_need_curve T.F_need_curve.kp T.b_need_curve (a_cons (s_v 0) (a_nil))))) (b_one (x_ret ((s_call (ok_own_is_whole T) (by decide) T.g_own_is_whole T.F_own_is_whole.kp T.b_own_is_whole (a_cons (s_v 0) (a_nil))))))))
theorem ok_off_by (T : Txt C.K C.mg) : Fn C 5 T.f_off_by T.d_off_by ["five", "x", "y"] (spM C.K 3 m_off_by) :=
  fn_body (k := 4) T.F_off_by sc_off_by (show SB C (defScope st_off_by) N_off_by 4 (defBody st_off_by) B_off_by from
    (b_cons (x_asg (s_v 0) (g_tup (n := 5) (gs_cons (g_name 3) (gs_cons (g_name 4) (gs_cons (g_name 5) (gs_cons (g_name 6) (gs_cons (g_name 7) gs_nil))))))) (b_cons (x_asg ((s_call (ok_summed T) (by decide) T.g_summed T.F_summed.kp T.b_summed (a_cons ((s_lst (a_cons ((s_tup (a_cons (s_v 2) (a_cons (s_v 2) (a_nil))))) (a_cons ((s_tup (a_cons (s_v 3) (a_cons (s_v 1) (a_cons (s_v 2) (a_nil)))))) (a_cons ((s_tup (a_cons (s_v 5) (a_cons (s_v 2) (a_nil))))) (a_nil)))))) (a_nil)))) (g_name 8)) (b_one (x_ret ((s_call (ok_sum_of_two T) (by decide) T.g_sum_of_two T.F_sum_of_two.kp T.b_sum_of_two (a_cons (s_v 8) (a_cons ((s_call (ok_summed T) (by decide) T.g_summed T.F_summed.kp T.b_summed (a_cons ((s_lst (a_cons ((s_tup (a_cons ((s_neg (s_int))) (a_cons (s_v 1) (a_cons (s_v 1) (a_cons (s_v 1) (a_nil))))))) (a_cons ((s_tup (a_cons ((s_neg (s_int))) (a_cons (s_v 4) (a_cons (s_v 1) (a_cons (s_v 1) (a_nil))))))) (a_cons ((s_tup (a_cons ((s_neg (s_int))) (a_cons (s_v 6) (a_cons (s_v 1) (a_nil)))))) (a_cons ((s_tup (a_cons ((s_neg (s_int))) (a_cons (s_v 7) (a_nil))))) (a_nil))))))) (a_nil)))) (a_nil))))))))))
theorem ok_is_pair (T : Txt C.K C.mg) : Fn C 3 T.f_is_pair T.d_is_pair ["thing"] (spM C.K 1 m_is_pair) :=
  fn_body (k := 2) T.F_is_pair sc_is_pair (show SB C (defScope st_is_pair) N_is_pair 2 (defBody st_is_pair) B_is_pair from
    (b_one (x_ret ((s_and ((s_bf c_isi T.n_isinstance bt_isinstance (a_cons (s_v 0) (a_cons ((s_bty T.n_tuple bt_tuple)) (a_nil))))) (s_and ((s_cmp (o_eq) ((s_bf c_len T.n_len bt_len (a_cons (s_v 0) (a_nil)))) (s_int))) (s_and ((s_call (ok_is_fraction T) (by decide) T.g_is_fraction T.F_is_fraction.kp T.b_is_fraction (a_cons ((s_ix (s_v 0) (s_int))) (a_nil)))) (s_one ((s_call (ok_is_fraction T) (by decide) T.g_is_fraction T.F_is_fraction.kp T.b_is_fraction (a_cons ((s_ix (s_v 0) (s_int))) (a_nil))))))))))))
theorem ok_lies_on (T : Txt C.K C.mg) : Fn C 6 T.f_lies_on T.d_lies_on ["curve", "thing"] (spM C.K 2 m_lies_on) :=
  fn_body (k := 5) T.F_lies_on sc_lies_on (show SB C (defScope st_lies_on) N_lies_on 5 (defBody st_lies_on) B_lies_on from
    (b_one (x_ret ((s_or ((s_cmp (o_is) (s_v 1) (s_non))) (s_one ((s_and ((s_call (ok_is_pair T) (by decide) T.g_is_pair T.F_is_pair.kp T.b_is_pair (a_cons (s_v 1) (a_nil)))) (s_one ((s_cmp (o_eq) ((s_call (ok_off_by T) (by decide) T.g_off_by T.F_off_by.kp T.b_off_by (a_cons (s_v 0) (a_cons ((s_ix (s_v 1) (s_int))) (a_cons ((s_ix (s_v 1) (s_int))) (a_nil)))))) (s_int))))))))))))
theorem ok_through (T : Txt C.K C.mg) : Fn C 7 T.f_through T.d_through ["a1", "a2", "a3", "one", "other"] (spM C.K 5 m_through) :=
  fn_body (k := 6) T.F_through sc_through (show SB C (defScope st_through) N_through 6 (defBody st_through) B_through from
    (b_cons (x_if (t_not (t_val ((s_bf c_all T.n_all bt_all (a_cons ((s_lc true [("a", 5)] (i_tup ((s_tup (a_cons (s_v 0) (a_cons (s_v 1) (a_cons (s_v 2) (a_nil))))))) (g_name 5) c_yes ((s_call (ok_is_fraction T) (by decide) T.g_is_fraction T.F_is_fraction.kp T.b_is_fraction (a_cons (s_v 5) (a_nil)))))) (a_nil)))))) (b_one x_never) b_nil) (b_cons (x_if (t_w (w_or ((t_not (t_val ((s_call (ok_is_pair T) (by decide) T.g_is_pair T.F_is_pair.kp T.b_is_pair (a_cons (s_v 3) (a_nil))))))) (w_or ((t_not (t_val ((s_call (ok_is_pair T) (by decide) T.g_is_pair T.F_is_pair.kp T.b_is_pair (a_cons (s_v 4) (a_nil))))))) (w_or1 ((t_cmp (o_eq) ((s_ix (s_v 3) (s_int))) ((s_ix (s_v 4) (s_int))))))))) (b_one x_never) b_nil) (b_cons (x_par 6 7 (a_cons ((s_call (ok_off_by T) (by decide) T.g_off_by T.F_off_by.kp T.b_off_by (a_cons ((s_tup (a_cons (s_v 0) (a_cons (s_v 1) (a_cons (s_v 2) (a_cons (s_int) (a_cons (s_int) (a_nil)))))))) (a_cons ((s_ix (s_v 3) (s_int))) (a_cons ((s_ix (s_v 3) (s_int))) (a_nil)))))) (a_cons ((s_call (ok_off_by T) (by decide) T.g_off_by T.F_off_by.kp T.b_off_by (a_cons ((s_tup (a_cons (s_v 0) (a_cons (s_v 1) (a_cons (s_v 2) (a_cons (s_int) (a_cons (s_int) (a_nil)))))))) (a_cons ((s_ix (s_v 4) (s_int))) (a_cons ((s_ix (s_v 4) (s_int))) (a_nil)))))) (a_nil))) (hw := by intro env h; cases env; cases h; rfl)) (b_cons (x_asg ((s_call (ok_quotient T) (by decide) T.g_quotient T.F_quotient.kp T.b_quotient (a_cons ((s_call (ok_summed T) (by decide) T.g_summed T.F_summed.kp T.b_summed (a_cons ((s_lst (a_cons ((s_tup (a_cons (s_v 6) (a_nil)))) (a_cons ((s_tup (a_cons ((s_neg (s_int))) (a_cons (s_v 7) (a_nil))))) (a_nil))))) (a_nil)))) (a_cons ((s_call (ok_summed T) (by decide) T.g_summed T.F_summed.kp T.b_summed (a_cons ((s_lst (a_cons ((s_tup (a_cons ((s_ix (s_v 3) (s_int))) (a_nil)))) (a_cons ((s_tup (a_cons ((s_neg (s_int))) (a_cons ((s_ix (s_v 4) (s_int))) (a_nil))))) (a_nil))))) (a_nil)))) (a_nil))))) (g_name 8)) (b_cons (x_asg ((s_tup (a_cons (s_v 0) (a_cons (s_v 1) (a_cons (s_v 2) (a_cons (s_v 8) (a_cons ((s_call (ok_summed T) (by decide) T.g_summed T.F_summed.kp T.b_summed (a_cons ((s_lst (a_cons ((s_tup (a_cons (s_v 6) (a_nil)))) (a_cons ((s_tup (a_cons ((s_neg (s_int))) (a_cons (s_v 8) (a_cons ((s_ix (s_v 3) (s_int))) (a_nil)))))) (a_nil))))) (a_nil)))) (a_nil)))))))) (g_name 9)) (b_one (x_ret ((s_if ((t_cmp (o_ne) ((s_call (ok_d_of T) (by decide) T.g_d_of T.F_d_of.kp T.b_d_of (a_cons (s_v 9) (a_nil)))) (s_int))) (s_v 9) (s_non)))))))))))
theorem ok_is_change (T : Txt C.K C.mg) : Fn C 3 T.f_is_change T.d_is_change ["thing"] (spM C.K 1 m_is_change) :=
  fn_body (k := 2) T.F_is_change sc_is_change (show SB C (defScope st_is_change) N_is_change 2 (defBody st_is_change) B_is_change from
    (b_cons (x_if (t_w (w_or ((t_not (t_val ((s_bf c_isi T.n_isinstance bt_isinstance (a_cons (s_v 0) (a_cons ((s_bty T.n_tuple bt_tuple)) (a_nil)))))))) (w_or ((t_cmp (o_ne) ((s_bf c_len T.n_len bt_len (a_cons (s_v 0) (a_nil)))) (s_int))) (w_or1 ((t_not (t_val ((s_bf c_all T.n_all bt_all (a_cons ((s_lc true [("one", 1)] (i_row (s_v 0)) (g_name 1) c_yes ((s_call (ok_is_fraction T) (by decide) T.g_is_fraction T.F_is_fraction.kp T.b_is_fraction (a_cons (s_v 1) (a_nil)))))) (a_nil))))))))))) (b_one (x_ret (s_bl))) b_nil) (b_one (x_ret ((s_cmp (o_ne) ((s_ix (s_v 0) (s_int))) (s_int)))))))
theorem ok_need_change (T : Txt C.K C.mg) : Fn C 4 T.f_need_change T.d_need_change ["change"] (spM C.K 1 m_need_change) :=
  fn_body (k := 3) T.F_need_change sc_need_change (show SB C (defScope st_need_change) N_need_change 3 (defBody st_need_change) B_need_change from
    (b_one (x_if (t_not (t_val ((s_call (ok_is_change T) (by decide) T.g_is_change T.F_is_change.kp T.b_is_change (a_cons (s_v 0) (a_nil)))))) (b_one x_never) b_nil)))
theorem ok_by_power (T : Txt C.K C.mg) : Fn C 5 T.f_by_power T.d_by_power ["a", "u", "many"] (spM C.K 3 m_by_power) :=
  fn_body (k := 4) T.F_by_power sc_by_power (show SB C (defScope st_by_power) N_by_power 4 (defBody st_by_power) B_by_power from
    (b_cons (x_for (i_r1 (a_cons (s_v 2) (a_nil)) T.n_range) (g_name 3) (b_one (x_asg ((s_call (ok_quotient T) (by decide) T.g_quotient T.F_quotient.kp T.b_quotient (a_cons (s_v 0) (a_cons (s_v 1) (a_nil))))) (g_name 0)))) (b_one (x_ret (s_v 0)))))
theorem ok_own_led (T : Txt C.K C.mg) : Fn C 6 T.f_own_led T.d_own_led ["curve", "change"] (spM C.K 2 m_own_led) :=
  fn_body (k := 5) T.F_own_led sc_own_led (show SB C (defScope st_own_led) N_own_led 5 (defBody st_own_led) B_own_led from
    (b_cons (x_asg (s_v 0) (g_tup (n := 5) (gs_cons (g_name 2) (gs_cons (g_name 3) (gs_cons (g_name 4) (gs_cons (g_name 5) (gs_cons (g_name 6) gs_nil))))))) (b_cons (x_asg (s_v 1) (g_tup (n := 4) (gs_cons (g_name 7) (gs_cons (g_name 8) (gs_cons (g_name 9) (gs_cons (g_name 10) gs_nil)))))) (b_cons (x_asg ((s_call (ok_summed T) (by decide) T.g_summed T.F_summed.kp T.b_summed (a_cons ((s_lst (a_cons ((s_tup (a_cons (s_v 3) (a_nil)))) (a_cons ((s_tup (a_cons ((s_neg (s_int))) (a_cons (s_v 9) (a_cons (s_v 2) (a_nil)))))) (a_cons ((s_tup (a_cons (s_int) (a_cons (s_v 8) (a_nil))))) (a_cons ((s_tup (a_cons ((s_neg (s_int))) (a_cons (s_v 9) (a_cons (s_v 9) (a_nil)))))) (a_nil))))))) (a_nil)))) (g_name 11)) (b_cons (x_asg ((s_call (ok_summed T) (by decide) T.g_summed T.F_summed.kp T.b_summed (a_cons ((s_lst (a_cons ((s_tup (a_cons (s_v 5) (a_nil)))) (a_cons ((s_tup (a_cons ((s_neg (s_int))) (a_cons (s_v 9) (a_cons (s_v 4) (a_nil)))))) (a_cons ((s_tup (a_cons (s_int) (a_cons (s_v 8) (a_cons (s_v 3) (a_nil)))))) (a_cons ((s_tup (a_cons ((s_neg (s_int))) (a_cons (s_v 10) (a_cons (s_v 2) (a_nil)))))) (a_cons ((s_tup (a_cons ((s_neg (s_int))) (a_cons (s_v 8) (a_cons (s_v 9) (a_cons (s_v 2) (a_nil))))))) (a_cons ((s_tup (a_cons (s_int) (a_cons (s_v 8) (a_cons (s_v 8) (a_nil)))))) (a_cons ((s_tup (a_cons ((s_neg (s_int))) (a_cons (s_v 9) (a_cons (s_v 10) (a_nil)))))) (a_nil)))))))))) (a_nil)))) (g_name 12)) (b_cons (x_asg ((s_call (ok_summed T) (by decide) T.g_summed T.F_summed.kp T.b_summed (a_cons ((s_lst (a_cons ((s_tup (a_cons (s_v 6) (a_nil)))) (a_cons ((s_tup (a_cons (s_v 8) (a_cons (s_v 5) (a_nil))))) (a_cons ((s_tup (a_cons (s_v 8) (a_cons (s_v 8) (a_cons (s_v 3) (a_nil)))))) (a_cons ((s_tup (a_cons (s_v 8) (a_cons (s_v 8) (a_cons (s_v 8) (a_nil)))))) (a_cons ((s_tup (a_cons ((s_neg (s_int))) (a_cons (s_v 10) (a_cons (s_v 4) (a_nil)))))) (a_cons ((s_tup (a_cons ((s_neg (s_int))) (a_cons (s_v 10) (a_cons (s_v 10) (a_nil)))))) (a_cons ((s_tup (a_cons ((s_neg (s_int))) (a_cons (s_v 8) (a_cons (s_v 10) (a_cons (s_v 2) (a_nil))))))) (a_nil)))))))))) (a_nil)))) (g_name 13)) (b_cons (x_asg ((s_lst (a_cons ((s_call (ok_summed T) (by decide) T.g_summed T.F_summed.kp T.b_summed (a_cons ((s_lst (a_cons ((s_tup (a_cons (s_v 2) (a_nil)))) (a_cons ((s_tup (a_cons (s_int) (a_cons (s_v 9) (a_nil))))) (a_nil))))) (a_nil)))) (a_cons (s_v 11) (a_cons ((s_call (ok_summed T) (by decide) T.g_summed T.F_summed.kp T.b_summed (a_cons ((s_lst (a_cons ((s_tup (a_cons (s_v 4) (a_nil)))) (a_cons ((s_tup (a_cons (s_v 8) (a_cons (s_v 2) (a_nil))))) (a_cons ((s_tup (a_cons (s_int) (a_cons (s_v 10) (a_nil))))) (a_nil)))))) (a_nil)))) (a_cons (s_v 12) (a_cons (s_v 13) (a_nil)))))))) (g_name 14)) (b_one (x_ret ((s_bt c_tup T.n_tuple bt_tuple (a_cons ((s_lc true [("one", 15), ("many", 16)] (i_zim (s_v 14) ((s_tup (a_cons (s_int) (a_cons (s_int) (a_cons (s_int) (a_cons (s_int) (a_cons (s_int) (a_nil)))))))) T.n_zip) (g_tup (n := 2) (gs_cons (g_name 15) (gs_cons (g_name 16) gs_nil))) c_yes ((s_call (ok_by_power T) (by decide) T.g_by_power T.F_by_power.kp T.b_by_power (a_cons (s_v 15) (a_cons (s_v 7) (a_cons (s_v 16) (a_nil)))))))) (a_nil)))))))))))))
theorem ok_led (T : Txt C.K C.mg) : Fn C 9 T.f_led T.d_led ["curve", "change"] (spM C.K 2 m_led) :=
  fn_body (k := 8) T.F_led sc_led (show SB C (defScope st_led) N_led 8 (defBody st_led) B_led from
    (b_cons (x_exp ((s_call (ok_need_curve T) (by decide) T.g_need_curve T.F_need_curve.kp T.b_need_curve (a_cons (s_v 0) (a_nil))))) (b_cons (x_exp ((s_call (ok_need_change T) (by decide) T.g_need_change T.F_need_change.kp T.b_need_change (a_cons (s_v 1) (a_nil))))) (b_one (x_ret ((s_call (ok_own_led T) (by decide) T.g_own_led T.F_own_led.kp T.b_own_led (a_cons (s_v 0) (a_cons (s_v 1) (a_nil))))))))))
theorem ok_own_joined (T : Txt C.K C.mg) : Fn C 5 T.f_own_joined T.d_own_joined ["one", "other"] (spM C.K 2 m_own_joined) :=
  fn_body (k := 4) T.F_own_joined sc_own_joined (show SB C (defScope st_own_joined) N_own_joined 4 (defBody st_own_joined) B_own_joined from
    (b_cons (x_asg (s_v 0) (g_tup (n := 4) (gs_cons (g_name 2) (gs_cons (g_name 3) (gs_cons (g_name 4) (gs_cons (g_name 5) gs_nil)))))) (b_cons (x_asg (s_v 1) (g_tup (n := 4) (gs_cons (g_name 6) (gs_cons (g_name 7) (gs_cons (g_name 8) (gs_cons (g_name 9) gs_nil)))))) (b_cons (x_asg ((s_call (ok_summed T) (by decide) T.g_summed T.F_summed.kp T.b_summed (a_cons ((s_lst (a_cons ((s_tup (a_cons (s_v 2) (a_cons (s_v 2) (a_cons (s_v 2) (a_cons (s_v 9) (a_nil))))))) (a_cons ((s_tup (a_cons (s_v 4) (a_cons (s_v 2) (a_cons (s_v 2) (a_cons (s_v 7) (a_nil))))))) (a_cons ((s_tup (a_cons (s_v 5) (a_nil)))) (a_nil)))))) (a_nil)))) (g_name 10)) (b_one (x_ret ((s_tup (a_cons ((s_call (ok_product T) (by decide) T.g_product T.F_product.kp T.b_product (a_cons (s_v 2) (a_cons (s_v 6) (a_nil))))) (a_cons ((s_call (ok_summed T) (by decide) T.g_summed T.F_summed.kp T.b_summed (a_cons ((s_lst (a_cons ((s_tup (a_cons (s_v 2) (a_cons (s_v 2) (a_cons (s_v 7) (a_nil)))))) (a_cons ((s_tup (a_cons (s_v 3) (a_nil)))) (a_nil))))) (a_nil)))) (a_cons ((s_call (ok_summed T) (by decide) T.g_summed T.F_summed.kp T.b_summed (a_cons ((s_lst (a_cons ((s_tup (a_cons (s_v 2) (a_cons (s_v 8) (a_nil))))) (a_cons ((s_tup (a_cons (s_v 4) (a_nil)))) (a_nil))))) (a_nil)))) (a_cons (s_v 10) (a_nil)))))))))))))
theorem ok_joined (T : Txt C.K C.mg) : Fn C 6 T.f_joined T.d_joined ["one", "other"] (spM C.K 2 m_joined) :=
  fn_body (k := 5) T.F_joined sc_joined (show SB C (defScope st_joined) N_joined 5 (defBody st_joined) B_joined from
    (b_cons (x_exp ((s_call (ok_need_change T) (by decide) T.g_need_change T.F_need_change.kp T.b_need_change (a_cons (s_v 0) (a_nil))))) (b_cons (x_exp ((s_call (ok_need_change T) (by decide) T.g_need_change T.F_need_change.kp T.b_need_change (a_cons (s_v 1) (a_nil))))) (b_one (x_ret ((s_call (ok_own_joined T) (by decide) T.g_own_joined T.F_own_joined.kp T.b_own_joined (a_cons (s_v 0) (a_cons (s_v 1) (a_nil))))))))))
theorem ok_own_undone (T : Txt C.K C.mg) : Fn C 6 T.f_own_undone T.d_own_undone ["change"] (spM C.K 1 m_own_undone) :=
  fn_body (k := 5) T.F_own_undone sc_own_undone (show SB C (defScope st_own_undone) N_own_undone 5 (defBody st_own_undone) B_own_undone from
    (b_cons (x_asg (s_v 0) (g_tup (n := 4) (gs_cons (g_name 1) (gs_cons (g_name 2) (gs_cons (g_name 3) (gs_cons (g_name 4) gs_nil)))))) (b_cons (x_asg ((s_call (ok_summed T) (by decide) T.g_summed T.F_summed.kp T.b_summed (a_cons ((s_lst (a_cons ((s_tup (a_cons (s_v 2) (a_cons (s_v 3) (a_nil))))) (a_cons ((s_tup (a_cons ((s_neg (s_int))) (a_cons (s_v 4) (a_nil))))) (a_nil))))) (a_nil)))) (g_name 5)) (b_one (x_ret ((s_tup (a_cons ((s_call (ok_quotient T) (by decide) T.g_quotient T.F_quotient.kp T.b_quotient (a_cons (s_int) (a_cons (s_v 1) (a_nil))))) (a_cons ((s_call (ok_by_power T) (by decide) T.g_by_power T.F_by_power.kp T.b_by_power (a_cons ((s_call (ok_product T) (by decide) T.g_product T.F_product.kp T.b_product (a_cons ((s_neg (s_int))) (a_cons (s_v 2) (a_nil))))) (a_cons (s_v 1) (a_cons (s_int) (a_nil)))))) (a_cons ((s_call (ok_by_power T) (by decide) T.g_by_power T.F_by_power.kp T.b_by_power (a_cons ((s_call (ok_product T) (by decide) T.g_product T.F_product.kp T.b_product (a_cons ((s_neg (s_int))) (a_cons (s_v 3) (a_nil))))) (a_cons (s_v 1) (a_cons (s_int) (a_nil)))))) (a_cons ((s_call (ok_by_power T) (by decide) T.g_by_power T.F_by_power.kp T.b_by_power (a_cons (s_v 5) (a_cons (s_v 1) (a_cons (s_int) (a_nil)))))) (a_nil))))))))))))
theorem ok_undone (T : Txt C.K C.mg) : Fn C 7 T.f_undone T.d_undone ["change"] (spM C.K 1 m_undone) :=
  fn_body (k := 6) T.F_undone sc_undone (show SB C (defScope st_undone) N_undone 6 (defBody st_undone) B_undone from
    (b_cons (x_exp ((s_call (ok_need_change T) (by decide) T.g_need_change T.F_need_change.kp T.b_need_change (a_cons (s_v 0) (a_nil))))) (b_one (x_ret ((s_call (ok_own_undone T) (by decide) T.g_own_undone T.F_own_undone.kp T.b_own_undone (a_cons (s_v 0) (a_nil))))))))
theorem ok_own_led_point (T : Txt C.K C.mg) : Fn C 6 T.f_own_led_point T.d_own_led_point ["point", "change"] (spM C.K 2 m_own_led_point) :=
  fn_body (k := 5) T.F_own_led_point sc_own_led_point (show SB C (defScope st_own_led_point) N_own_led_point 5 (defBody st_own_led_point) B_own_led_point from
    (b_cons (x_if (t_cmp (o_is) (s_v 0) (s_non)) (b_one (x_ret (s_non))) b_nil) (b_cons (x_tas (a_cons (s_v 0) (a_cons (s_v 1) (a_nil))) (gd_cons (g_tup (n := 2) (gs_cons (g_name 2) (gs_cons (g_name 3) gs_nil))) (gd_cons (g_tup (n := 4) (gs_cons (g_name 4) (gs_cons (g_name 5) (gs_cons (g_name 6) (gs_cons (g_name 7) gs_nil))))) gd_nil))) (b_cons (x_asg ((s_call (ok_summed T) (by decide) T.g_summed T.F_summed.kp T.b_summed (a_cons ((s_lst (a_cons ((s_tup (a_cons (s_v 3) (a_nil)))) (a_cons ((s_tup (a_cons ((s_neg (s_int))) (a_cons (s_v 6) (a_cons (s_v 2) (a_nil)))))) (a_cons ((s_tup (a_cons (s_v 6) (a_cons (s_v 5) (a_nil))))) (a_cons ((s_tup (a_cons ((s_neg (s_int))) (a_cons (s_v 7) (a_nil))))) (a_nil))))))) (a_nil)))) (g_name 8)) (b_one (x_ret ((s_tup (a_cons ((s_call (ok_by_power T) (by decide) T.g_by_power T.F_by_power.kp T.b_by_power (a_cons ((s_call (ok_summed T) (by decide) T.g_summed T.F_summed.kp T.b_summed (a_cons ((s_lst (a_cons ((s_tup (a_cons (s_v 2) (a_nil)))) (a_cons ((s_tup (a_cons ((s_neg (s_int))) (a_cons (s_v 5) (a_nil))))) (a_nil))))) (a_nil)))) (a_cons (s_v 4) (a_cons (s_int) (a_nil)))))) (a_cons ((s_call (ok_by_power T) (by decide) T.g_by_power T.F_by_power.kp T.b_by_power (a_cons (s_v 8) (a_cons (s_v 4) (a_cons (s_int) (a_nil)))))) (a_nil)))))))))))
theorem ok_led_point (T : Txt C.K C.mg) : Fn C 9 T.f_led_point T.d_led_point ["curve", "point", "change"] (spM C.K 3 m_led_point) :=
  fn_body (k := 8) T.F_led_point sc_led_point (show SB C (defScope st_led_point) N_led_point 8 (defBody st_led_point) B_led_point from
    (b_cons (x_exp ((s_call (ok_need_curve T) (by decide) T.g_need_curve T.F_need_curve.kp T.b_need_curve (a_cons (s_v 0) (a_nil))))) (b_cons (x_if (t_not (t_val ((s_call (ok_lies_on T) (by decide) T.g_lies_on T.F_lies_on.kp T.b_lies_on (a_cons (s_v 0) (a_cons (s_v 1) (a_nil))))))) (b_one x_never) b_nil) (b_cons (x_exp ((s_call (ok_need_change T) (by decide) T.g_need_change T.F_need_change.kp T.b_need_change (a_cons (s_v 2) (a_nil))))) (b_one (x_ret ((s_call (ok_own_led_point T) (by decide) T.g_own_led_point T.F_own_led_point.kp T.b_own_led_point (a_cons (s_v 1) (a_cons (s_v 2) (a_nil)))))))))))
theorem ok_Lbegun (T : Txt C.K C.mg) : Fn C 1 T.f_Lbegun T.d_Lbegun ["_law_script"] (spM C.K 1 m_Lbegun) :=
  fn_body (k := 0) T.F_Lbegun sc_Lbegun (show SB C (defScope st_Lbegun) N_Lbegun 0 (defBody st_Lbegun) B_Lbegun from
    (b_cons (x_asg ((s_bin (o_add true) (s_int) ((s_bin (o_mul true) (s_int) ((s_bf c_len T.n_len bt_len (a_cons (s_v 0) (a_nil)))))))) (g_name 1)) (b_cons (x_for (i_enu (s_v 0) T.n_enumerate) (g_tup (n := 2) (gs_cons (g_name 2) (gs_cons (g_name 3) gs_nil))) (b_one (x_asg ((s_bin (o_mod) ((s_bin (o_add true) ((s_bin (o_add true) ((s_bin (o_mul true) (s_v 1) (s_int))) (s_v 3))) ((s_bin (o_mul true) (s_int) (s_v 2))))) (s_int))) (g_name 1)))) (b_one (x_ret ((s_dic (p_cons (s_v 1) (p_cons ((s_lc false [("_law_cell", 3)] (i_row (s_v 0)) (g_name 3) (c_if (t_cmp (o_ge) (s_v 3) ((s_bin (o_pow) (s_int) (s_int))))) (s_v 3))) (p_cons (s_int) p_nil))))))))))
theorem ok_Ldraw (T : Txt C.K C.mg) : Fn C 1 T.f_Ldraw T.d_Ldraw ["_law_m", "_law_top"] (spM C.K 2 m_Ldraw) :=
  fn_body (k := 0) T.F_Ldraw sc_Ldraw (show SB C (defScope st_Ldraw) N_Ldraw 0 (defBody st_Ldraw) B_Ldraw from
    (b_cons (x_tas (a_cons ((s_bin (o_add true) ((s_dget (s_v 0) (s_str))) (s_int))) (a_cons ((s_dget (s_v 0) (s_str))) (a_nil))) (gd_cons (g_dput (s_v 0) (s_str)) (gd_cons (g_name 2) gd_nil))) (b_cons (x_asg ((s_bin (o_mod) ((s_dget (s_v 0) (s_str))) ((s_bf c_max T.n_max bt_max (a_cons (s_int) (a_cons ((s_bf c_len T.n_len bt_len (a_cons (s_v 2) (a_nil)))) (a_nil))))))) (g_name 3)) (b_cons (x_if (t_w (w_and ((t_cmp (o_ne) (s_v 2) ((s_lst (a_nil))))) (w_and1 ((t_cmp (o_gt) ((s_ix (s_v 2) (s_v 3))) (s_int)))))) (b_cons (x_asg ((s_bin (o_mod) ((s_ix (s_v 2) (s_v 3))) (s_v 1))) (g_name 4)) (b_cons (x_lput (s_v 2) (s_v 3) ((s_bin (o_div) ((s_ix (s_v 2) (s_v 3))) (s_v 1)))) (b_one (x_ret (s_v 4))))) b_nil) (b_cons (x_dput (s_v 0) (s_str) ((s_bin (o_mod) ((s_bin (o_add true) ((s_bin (o_add true) ((s_bin (o_mul true) ((s_dget (s_v 0) (s_str))) (s_int))) ((s_bin (o_mul true) (s_int) ((s_dget (s_v 0) (s_str))))))) (s_int))) (s_int)))) (b_one (x_ret ((s_bin (o_mod) ((s_bin (o_div) ((s_dget (s_v 0) (s_str))) (s_int))) (s_v 1))))))))))
theorem ok_Lof (T : Txt C.K C.mg) : Fn C 2 T.f_Lof T.d_Lof ["_law_m", "_law_some_here"] (spM C.K 2 m_Lof) :=
  fn_body (k := 1) T.F_Lof sc_Lof (show SB C (defScope st_Lof) N_Lof 1 (defBody st_Lof) B_Lof from
    (b_one (x_ret ((s_ix (s_v 1) ((s_call (ok_Ldraw T) (by decide) T.g_Ldraw T.F_Ldraw.kp T.b_Ldraw (a_cons (s_v 0) (a_cons ((s_bf c_len T.n_len bt_len (a_cons (s_v 1) (a_nil)))) (a_nil))))))))))
theorem ok_Llow (T : Txt C.K C.mg) : Fn C 1 T.f_Llow T.d_Llow ["_law_top", "_law_bottom"] (spM C.K 2 m_Llow) :=
  fn_body (k := 0) T.F_Llow sc_Llow (show SB C (defScope st_Llow) N_Llow 0 (defBody st_Llow) B_Llow from
    (b_cons (x_par 2 3 (a_cons ((s_bf c_abs T.n_abs bt_abs (a_cons (s_v 0) (a_nil)))) (a_cons ((s_bf c_abs T.n_abs bt_abs (a_cons (s_v 1) (a_nil)))) (a_nil))) (hw := by intro env h; cases env; cases h; rfl)) (b_cons (x_while (t_cmp (o_ne) (s_v 3) (s_int)) (b_one (x_par 2 3 (a_cons (s_v 3) (a_cons ((s_bin (o_mod) (s_v 2) (s_v 3))) (a_nil))) (hw := by intro env h; cases env; cases h; rfl)))) (b_cons (x_asg ((s_if ((t_cmp (o_gt) (s_v 1) (s_int))) (s_v 2) ((s_bin (o_sub) (s_int) (s_v 2))))) (g_name 2)) (b_one (x_ret ((s_if ((t_cmp (o_eq) (s_v 1) (s_v 2))) ((s_bin (o_div) (s_v 0) (s_v 2))) ((s_tup (a_cons ((s_bin (o_div) (s_v 0) (s_v 2))) (a_cons ((s_bin (o_div) (s_v 1) (s_v 2))) (a_nil)))))))))))))
theorem ok_Ltwo (T : Txt C.K C.mg) : Fn C 1 T.f_Ltwo T.d_Ltwo ["_law_a"] (spM C.K 1 m_Ltwo) :=
  fn_body (k := 0) T.F_Ltwo sc_Ltwo (show SB C (defScope st_Ltwo) N_Ltwo 0 (defBody st_Ltwo) B_Ltwo from
    (b_one (x_ret ((s_if ((t_val ((s_bf c_isi T.n_isinstance bt_isinstance (a_cons (s_v 0) (a_cons ((s_bty T.n_int bt_int)) (a_nil))))))) ((s_tup (a_cons (s_v 0) (a_cons (s_int) (a_nil))))) (s_v 0))))))
theorem ok_Lplus (T : Txt C.K C.mg) : Fn C 2 T.f_Lplus T.d_Lplus ["_law_a", "_law_b_here"] (spM C.K 2 m_Lplus) :=
  fn_body (k := 1) T.F_Lplus sc_Lplus (show SB C (defScope st_Lplus) N_Lplus 1 (defBody st_Lplus) B_Lplus from
    (b_cons (x_tas (a_cons ((s_call (ok_Ltwo T) (by decide) T.g_Ltwo T.F_Ltwo.kp T.b_Ltwo (a_cons (s_v 0) (a_nil)))) (a_cons ((s_call (ok_Ltwo T) (by decide) T.g_Ltwo T.F_Ltwo.kp T.b_Ltwo (a_cons (s_v 1) (a_nil)))) (a_nil))) (gd_cons (g_tup (n := 2) (gs_cons (g_name 2) (gs_cons (g_name 3) gs_nil))) (gd_cons (g_tup (n := 2) (gs_cons (g_name 4) (gs_cons (g_name 5) gs_nil))) gd_nil))) (b_one (x_ret ((s_call (ok_Llow T) (by decide) T.g_Llow T.F_Llow.kp T.b_Llow (a_cons ((s_bin (o_add true) ((s_bin (o_mul true) (s_v 2) (s_v 5))) ((s_bin (o_mul true) (s_v 4) (s_v 3))))) (a_cons ((s_bin (o_mul true) (s_v 3) (s_v 5))) (a_nil)))))))))
theorem ok_Lby (T : Txt C.K C.mg) : Fn C 2 T.f_Lby T.d_Lby ["_law_a", "_law_b_here"] (spM C.K 2 m_Lby) :=
  fn_body (k := 1) T.F_Lby sc_Lby (show SB C (defScope st_Lby) N_Lby 1 (defBody st_Lby) B_Lby from
    (b_cons (x_tas (a_cons ((s_call (ok_Ltwo T) (by decide) T.g_Ltwo T.F_Ltwo.kp T.b_Ltwo (a_cons (s_v 0) (a_nil)))) (a_cons ((s_call (ok_Ltwo T) (by decide) T.g_Ltwo T.F_Ltwo.kp T.b_Ltwo (a_cons (s_v 1) (a_nil)))) (a_nil))) (gd_cons (g_tup (n := 2) (gs_cons (g_name 2) (gs_cons (g_name 3) gs_nil))) (gd_cons (g_tup (n := 2) (gs_cons (g_name 4) (gs_cons (g_name 5) gs_nil))) gd_nil))) (b_one (x_ret ((s_call (ok_Llow T) (by decide) T.g_Llow T.F_Llow.kp T.b_Llow (a_cons ((s_bin (o_mul true) (s_v 2) (s_v 4))) (a_cons ((s_bin (o_mul true) (s_v 3) (s_v 5))) (a_nil)))))))))
theorem ok_Lover (T : Txt C.K C.mg) : Fn C 2 T.f_Lover T.d_Lover ["_law_a", "_law_b_here"] (spM C.K 2 m_Lover) :=
  fn_body (k := 1) T.F_Lover sc_Lover (show SB C (defScope st_Lover) N_Lover 1 (defBody st_Lover) B_Lover from
    (b_cons (x_tas (a_cons ((s_call (ok_Ltwo T) (by decide) T.g_Ltwo T.F_Ltwo.kp T.b_Ltwo (a_cons (s_v 0) (a_nil)))) (a_cons ((s_call (ok_Ltwo T) (by decide) T.g_Ltwo T.F_Ltwo.kp T.b_Ltwo (a_cons (s_v 1) (a_nil)))) (a_nil))) (gd_cons (g_tup (n := 2) (gs_cons (g_name 2) (gs_cons (g_name 3) gs_nil))) (gd_cons (g_tup (n := 2) (gs_cons (g_name 4) (gs_cons (g_name 5) gs_nil))) gd_nil))) (b_one (x_ret ((s_call (ok_Llow T) (by decide) T.g_Llow T.F_Llow.kp T.b_Llow (a_cons ((s_bin (o_mul true) (s_v 2) (s_v 5))) (a_cons ((s_bin (o_mul true) (s_v 3) (s_v 4))) (a_nil)))))))))
theorem ok_Lall (T : Txt C.K C.mg) : Fn C 3 T.f_Lall T.d_Lall ["_law_rows"] (spM C.K 1 m_Lall) :=
  fn_body (k := 2) T.F_Lall sc_Lall (show SB C (defScope st_Lall) N_Lall 2 (defBody st_Lall) B_Lall from
    (b_cons (x_asg (s_int) (g_name 1)) (b_cons (x_for (i_row (s_v 0)) (g_name 2) (b_cons (x_asg (s_int) (g_name 3)) (b_cons (x_for (i_row (s_v 2)) (g_name 4) (b_one (x_asg ((s_call (ok_Lby T) (by decide) T.g_Lby T.F_Lby.kp T.b_Lby (a_cons (s_v 3) (a_cons (s_v 4) (a_nil))))) (g_name 3)))) (b_one (x_asg ((s_call (ok_Lplus T) (by decide) T.g_Lplus T.F_Lplus.kp T.b_Lplus (a_cons (s_v 1) (a_cons (s_v 3) (a_nil))))) (g_name 1)))))) (b_one (x_ret (s_v 1))))))
theorem ok_Lb (T : Txt C.K C.mg) : Fn C 4 T.f_Lb T.d_Lb ["_law_curve"] (spM C.K 1 m_Lb) :=
  fn_body (k := 3) T.F_Lb sc_Lb (show SB C (defScope st_Lb) N_Lb 3 (defBody st_Lb) B_Lb from
    (b_cons (x_asg (s_v 0) (g_tup (n := 5) (gs_cons (g_name 1) (gs_cons (g_name 2) (gs_cons (g_name 3) (gs_cons (g_name 4) (gs_cons (g_name 5) gs_nil))))))) (b_cons (x_par3 6 7 8 (a_cons ((s_call (ok_Lall T) (by decide) T.g_Lall T.F_Lall.kp T.b_Lall (a_cons ((s_lst (a_cons ((s_lst (a_cons (s_v 1) (a_cons (s_v 1) (a_nil))))) (a_cons ((s_lst (a_cons (s_int) (a_cons (s_v 2) (a_nil))))) (a_nil))))) (a_nil)))) (a_cons ((s_call (ok_Lall T) (by decide) T.g_Lall T.F_Lall.kp T.b_Lall (a_cons ((s_lst (a_cons ((s_lst (a_cons (s_int) (a_cons (s_v 4) (a_nil))))) (a_cons ((s_lst (a_cons (s_v 1) (a_cons (s_v 3) (a_nil))))) (a_nil))))) (a_nil)))) (a_cons ((s_call (ok_Lall T) (by decide) T.g_Lall T.F_Lall.kp T.b_Lall (a_cons ((s_lst (a_cons ((s_lst (a_cons (s_v 3) (a_cons (s_v 3) (a_nil))))) (a_cons ((s_lst (a_cons (s_int) (a_cons (s_v 5) (a_nil))))) (a_nil))))) (a_nil)))) (a_nil)))) (hw := by intro env h; cases env; cases h; rfl)) (b_one (x_ret ((s_tup (a_cons (s_v 6) (a_cons (s_v 7) (a_cons (s_v 8) (a_cons ((s_call (ok_Lall T) (by decide) T.g_Lall T.F_Lall.kp T.b_Lall (a_cons ((s_lst (a_cons ((s_lst (a_cons (s_v 1) (a_cons (s_v 1) (a_cons (s_v 5) (a_nil)))))) (a_cons ((s_lst (a_cons (s_int) (a_cons (s_v 2) (a_cons (s_v 5) (a_nil)))))) (a_cons ((s_lst (a_cons ((s_bin (o_sub) (s_int) (s_int))) (a_cons (s_v 1) (a_cons (s_v 3) (a_cons (s_v 4) (a_nil))))))) (a_cons ((s_lst (a_cons (s_v 2) (a_cons (s_v 3) (a_cons (s_v 3) (a_nil)))))) (a_cons ((s_lst (a_cons ((s_bin (o_sub) (s_int) (s_int))) (a_cons (s_v 4) (a_cons (s_v 4) (a_nil)))))) (a_nil)))))))) (a_nil)))) (a_nil))))))))))))
theorem ok_Ld (T : Txt C.K C.mg) : Fn C 5 T.f_Ld T.d_Ld ["_law_curve"] (spM C.K 1 m_Ld) :=
  fn_body (k := 4) T.F_Ld sc_Ld (show SB C (defScope st_Ld) N_Ld 4 (defBody st_Ld) B_Ld from
    (b_cons (x_asg ((s_call (ok_Lb T) (by decide) T.g_Lb T.F_Lb.kp T.b_Lb (a_cons (s_v 0) (a_nil)))) (g_tup (n := 4) (gs_cons (g_name 1) (gs_cons (g_name 2) (gs_cons (g_name 3) (gs_cons (g_name 4) gs_nil)))))) (b_cons (x_asg ((s_lst (a_cons ((s_lst (a_cons (s_int) (a_cons (s_v 1) (a_cons (s_v 2) (a_cons (s_v 3) (a_nil))))))) (a_cons ((s_lst (a_cons ((s_bin (o_sub) (s_int) (s_int))) (a_cons (s_v 1) (a_cons (s_v 1) (a_cons (s_v 4) (a_nil))))))) (a_cons ((s_lst (a_cons ((s_bin (o_sub) (s_int) (s_int))) (a_cons (s_v 2) (a_cons (s_v 2) (a_cons (s_v 2) (a_nil))))))) (a_cons ((s_lst (a_cons ((s_bin (o_sub) (s_int) (s_int))) (a_cons (s_v 3) (a_cons (s_v 3) (a_nil)))))) (a_nil))))))) (g_name 5)) (b_one (x_ret ((s_call (ok_Lall T) (by decide) T.g_Lall T.F_Lall.kp T.b_Lall (a_cons (s_v 5) (a_nil)))))))))
theorem ok_Lsome (T : Txt C.K C.mg) : Fn C 2 T.f_Lsome T.d_Lsome ["_law_m"] (spM C.K 1 m_Lsome) :=
  fn_body (k := 1) T.F_Lsome sc_Lsome (show SB C (defScope st_Lsome) N_Lsome 1 (defBody st_Lsome) B_Lsome from
    (b_cons (x_asg ((s_bin (o_sub) ((s_call (ok_Ldraw T) (by decide) T.g_Ldraw T.F_Ldraw.kp T.b_Ldraw (a_cons (s_v 0) (a_cons (s_int) (a_nil))))) (s_int))) (g_name 1)) (b_one (x_ret ((s_if ((t_cmp (o_eq) ((s_call (ok_Ldraw T) (by decide) T.g_Ldraw T.F_Ldraw.kp T.b_Ldraw (a_cons (s_v 0) (a_cons (s_int) (a_nil))))) (s_int))) ((s_call (ok_Llow T) (by decide) T.g_Llow T.F_Llow.kp T.b_Llow (a_cons (s_v 1) (a_cons ((s_bin (o_add true) (s_int) ((s_call (ok_Ldraw T) (by decide) T.g_Ldraw T.F_Ldraw.kp T.b_Ldraw (a_cons (s_v 0) (a_cons (s_int) (a_nil))))))) (a_nil))))) (s_v 1)))))))
theorem ok_Lthrough (T : Txt C.K C.mg) : Fn C 6 T.f_Lthrough T.d_Lthrough ["_law_m", "_law_whole"] (spM C.K 2 m_Lthrough) :=
  fn_body (k := 5) T.F_Lthrough sc_Lthrough (show SB C (defScope st_Lthrough) N_Lthrough 5 (defBody st_Lthrough) B_Lthrough from
    (b_cons (x_for (i_r1 (a_cons (s_int) (a_nil)) T.n_range) (g_name 2) (b_cons (x_lc 3 true [("_law_k", 4)] (i_r1 (a_cons (s_int) (a_nil)) T.n_range) (g_name 4) c_yes ((s_if ((t_val (s_v 1))) ((s_bin (o_sub) ((s_call (ok_Ldraw T) (by decide) T.g_Ldraw T.F_Ldraw.kp T.b_Ldraw (a_cons (s_v 0) (a_cons (s_int) (a_nil))))) (s_int))) ((s_call (ok_Lsome T) (by decide) T.g_Lsome T.F_Lsome.kp T.b_Lsome (a_cons (s_v 0) (a_nil))))))) (b_cons (x_asg (s_v 3) (g_tup (n := 7) (gs_cons (g_name 5) (gs_cons (g_name 6) (gs_cons (g_name 7) (gs_cons (g_name 8) (gs_cons (g_name 9) (gs_cons (g_name 10) (gs_cons (g_name 11) gs_nil))))))))) (b_cons (x_asg ((s_if ((t_cmp (o_eq) (s_v 10) (s_v 8))) ((s_call (ok_Lplus T) (by decide) T.g_Lplus T.F_Lplus.kp T.b_Lplus (a_cons (s_v 10) (a_cons (s_int) (a_nil))))) (s_v 10))) (g_name 10)) (b_cons (x_if (t_val (s_v 1)) (b_one (x_asg ((s_bin (o_add true) (s_v 8) ((s_call (ok_Lof T) (by decide) T.g_Lof T.F_Lof.kp T.b_Lof (a_cons (s_v 0) (a_cons ((s_lst (a_cons (s_int) (a_cons ((s_bin (o_sub) (s_int) (s_int))) (a_nil))))) (a_nil))))))) (g_name 10))) b_nil) (b_cons (x_asg ((s_call (ok_Lall T) (by decide) T.g_Lall T.F_Lall.kp T.b_Lall (a_cons ((s_lst (a_cons ((s_lst (a_cons (s_v 9) (a_cons (s_v 9) (a_nil))))) (a_cons ((s_lst (a_cons (s_v 5) (a_cons (s_v 8) (a_cons (s_v 9) (a_nil)))))) (a_cons ((s_lst (a_cons (s_v 7) (a_cons (s_v 9) (a_nil))))) (a_cons ((s_lst (a_cons ((s_bin (o_sub) (s_int) (s_int))) (a_cons (s_v 8) (a_cons (s_v 8) (a_cons (s_v 8) (a_nil))))))) (a_cons ((s_lst (a_cons ((s_bin (o_sub) (s_int) (s_int))) (a_cons (s_v 6) (a_cons (s_v 8) (a_cons (s_v 8) (a_nil))))))) (a_nil)))))))) (a_nil)))) (g_name 12)) (b_cons (x_asg ((s_call (ok_Lall T) (by decide) T.g_Lall T.F_Lall.kp T.b_Lall (a_cons ((s_lst (a_cons ((s_lst (a_cons (s_v 11) (a_cons (s_v 11) (a_nil))))) (a_cons ((s_lst (a_cons (s_v 5) (a_cons (s_v 10) (a_cons (s_v 11) (a_nil)))))) (a_cons ((s_lst (a_cons (s_v 7) (a_cons (s_v 11) (a_nil))))) (a_cons ((s_lst (a_cons ((s_bin (o_sub) (s_int) (s_int))) (a_cons (s_v 10) (a_cons (s_v 10) (a_cons (s_v 10) (a_nil))))))) (a_cons ((s_lst (a_cons ((s_bin (o_sub) (s_int) (s_int))) (a_cons (s_v 6) (a_cons (s_v 10) (a_cons (s_v 10) (a_nil))))))) (a_nil)))))))) (a_nil)))) (g_name 13)) (b_cons (x_asg ((s_call (ok_Lover T) (by decide) T.g_Lover T.F_Lover.kp T.b_Lover (a_cons ((s_call (ok_Lplus T) (by decide) T.g_Lplus T.F_Lplus.kp T.b_Lplus (a_cons (s_v 12) (a_cons ((s_call (ok_Lby T) (by decide) T.g_Lby T.F_Lby.kp T.b_Lby (a_cons ((s_bin (o_sub) (s_int) (s_int))) (a_cons (s_v 13) (a_nil))))) (a_nil))))) (a_cons ((s_call (ok_Lplus T) (by decide) T.g_Lplus T.F_Lplus.kp T.b_Lplus (a_cons (s_v 8) (a_cons ((s_call (ok_Lby T) (by decide) T.g_Lby T.F_Lby.kp T.b_Lby (a_cons ((s_bin (o_sub) (s_int) (s_int))) (a_cons (s_v 10) (a_nil))))) (a_nil))))) (a_nil))))) (g_name 14)) (b_cons (x_asg ((s_tup (a_cons (s_v 5) (a_cons (s_v 6) (a_cons (s_v 7) (a_cons (s_v 14) (a_cons ((s_call (ok_Lplus T) (by decide) T.g_Lplus T.F_Lplus.kp T.b_Lplus (a_cons (s_v 12) (a_cons ((s_call (ok_Lall T) (by decide) T.g_Lall T.F_Lall.kp T.b_Lall (a_cons ((s_lst (a_cons ((s_lst (a_cons ((s_bin (o_sub) (s_int) (s_int))) (a_cons (s_v 14) (a_cons (s_v 8) (a_nil)))))) (a_nil)))) (a_nil)))) (a_nil))))) (a_nil)))))))) (g_name 15)) (b_one (x_if (t_cmp (o_ne) ((s_call (ok_Ld T) (by decide) T.g_Ld T.F_Ld.kp T.b_Ld (a_cons (s_v 15) (a_nil)))) (s_int)) (b_one (x_ret ((s_tup (a_cons (s_v 15) (a_cons ((s_lst (a_cons ((s_tup (a_cons (s_v 8) (a_cons (s_v 9) (a_nil))))) (a_cons ((s_tup (a_cons (s_v 10) (a_cons (s_v 11) (a_nil))))) (a_nil))))) (a_nil))))))) b_nil))))))))))) (b_one (x_ret ((s_tup (a_cons ((s_tup (a_cons (s_int) (a_cons (s_int) (a_cons (s_int) (a_cons ((s_bin (o_sub) (s_int) (s_int))) (a_cons (s_int) (a_nil)))))))) (a_cons ((s_lst (a_cons ((s_tup (a_cons (s_int) (a_cons (s_int) (a_nil))))) (a_cons ((s_tup (a_cons (s_int) (a_cons (s_int) (a_nil))))) (a_nil))))) (a_nil)))))))))
theorem ok_Lchange (T : Txt C.K C.mg) : Fn C 3 T.f_Lchange T.d_Lchange ["_law_m"] (spM C.K 1 m_Lchange) :=
  fn_body (k := 2) T.F_Lchange sc_Lchange (show SB C (defScope st_Lchange) N_Lchange 2 (defBody st_Lchange) B_Lchange from
    (b_cons (x_asg ((s_call (ok_Lof T) (by decide) T.g_Lof T.F_Lof.kp T.b_Lof (a_cons (s_v 0) (a_cons ((s_lst (a_cons (s_int) (a_cons (s_int) (a_cons ((s_bin (o_sub) (s_int) (s_int))) (a_cons (s_int) (a_cons (s_int) (a_cons ((s_bin (o_sub) (s_int) (s_int))) (a_cons ((s_tup (a_cons (s_int) (a_cons (s_int) (a_nil))))) (a_cons ((s_tup (a_cons (s_int) (a_cons (s_int) (a_nil))))) (a_cons ((s_tup (a_cons (s_int) (a_cons (s_int) (a_nil))))) (a_cons ((s_tup (a_cons ((s_bin (o_sub) (s_int) (s_int))) (a_cons (s_int) (a_nil))))) (a_nil))))))))))))) (a_nil))))) (g_name 1)) (b_one (x_ret ((s_tup (a_cons (s_v 1) (a_cons ((s_call (ok_Lsome T) (by decide) T.g_Lsome T.F_Lsome.kp T.b_Lsome (a_cons (s_v 0) (a_nil)))) (a_cons ((s_call (ok_Lsome T) (by decide) T.g_Lsome T.F_Lsome.kp T.b_Lsome (a_cons (s_v 0) (a_nil)))) (a_cons ((s_call (ok_Lsome T) (by decide) T.g_Lsome T.F_Lsome.kp T.b_Lsome (a_cons (s_v 0) (a_nil)))) (a_nil)))))))))))
theorem ok_law (T : Txt C.K C.mg) : Fn C 10 T.f_law T.d_law ["_law_script"] (spM C.K 1 m_law) :=
  fn_body (k := 9) T.F_law sc_law (show SB C (defScope st_law) N_law 9 (defBody st_law) B_law from
    (b_cons (x_asg ((s_call (ok_Lbegun T) (by decide) T.g_Lbegun T.F_Lbegun.kp T.b_Lbegun (a_cons (s_v 0) (a_nil)))) (g_name 1)) (b_cons (x_for (i_r1 (a_cons ((s_bin (o_add true) (s_int) ((s_bf c_min T.n_min bt_min (a_cons (s_int) (a_cons ((s_bin (o_div) ((s_bf c_len T.n_len bt_len (a_cons (s_v 0) (a_nil)))) (s_int))) (a_nil))))))) (a_nil)) T.n_range) (g_name 2) (b_cons (x_asg ((s_call (ok_Lthrough T) (by decide) T.g_Lthrough T.F_Lthrough.kp T.b_Lthrough (a_cons (s_v 1) (a_cons ((s_cmp (o_eq) ((s_bin (o_mod) (s_v 2) (s_int))) (s_int))) (a_nil))))) (g_tup (n := 2) (gs_cons (g_name 3) (gs_cons (g_name 4) gs_nil)))) (b_cons (x_tas (a_cons (s_v 3) (a_cons ((s_bt (c_lis true) T.n_list bt_list (a_cons (s_v 4) (a_nil)))) (a_cons ((s_tup (a_cons (s_int) (a_cons (s_int) (a_cons (s_int) (a_cons (s_int) (a_nil))))))) (a_cons ((s_lso (a_nil))) (a_nil))))) (gd_cons (g_name 5) (gd_cons (g_name 6) (gd_cons (g_name 7) (gd_cons (g_name 8) gd_nil))))) (b_cons (x_for (i_r1 (a_cons ((s_bin (o_add true) (s_int) ((s_call (ok_Ldraw T) (by decide) T.g_Ldraw T.F_Ldraw.kp T.b_Ldraw (a_cons (s_v 1) (a_cons (s_int) (a_nil))))))) (a_nil)) T.n_range) (g_name 9) (b_cons (x_asg ((s_call (ok_Lchange T) (by decide) T.g_Lchange T.F_Lchange.kp T.b_Lchange (a_cons (s_v 1) (a_nil)))) (g_name 10)) (b_cons (x_if (t_w (w_and ((t_cmp (o_ne) (s_v 8) ((s_lst (a_nil))))) (w_and1 ((t_cmp (o_eq) ((s_call (ok_Ldraw T) (by decide) T.g_Ldraw T.F_Ldraw.kp T.b_Ldraw (a_cons (s_v 1) (a_cons (s_int) (a_nil))))) (s_int)))))) (b_one (x_asg ((s_call (ok_undone T) (by decide) T.g_undone T.F_undone.kp T.b_undone (a_cons ((s_met0 PySem.F.plainAttrs_list PySem.F.slot_list_pop PySem.F.type_list_pop m_pop (s_v 8))) (a_nil)))) (g_name 10))) (b_one (x_exp ((s_met PySem.F.plainAttrs_list PySem.F.slot_list_append PySem.F.type_list_append m_app (s_v 8) (a_cons (s_v 10) (a_nil))))))) (b_cons (x_lc 6 true [("_law_spot", 11)] (i_row (s_v 6)) (g_name 11) c_yes ((s_call (ok_led_point T) (by decide) T.g_led_point T.F_led_point.kp T.b_led_point (a_cons (s_v 5) (a_cons (s_v 11) (a_cons (s_v 10) (a_nil))))))) (b_one (x_tas (a_cons ((s_call (ok_led T) (by decide) T.g_led T.F_led.kp T.b_led (a_cons (s_v 5) (a_cons (s_v 10) (a_nil))))) (a_cons ((s_call (ok_joined T) (by decide) T.g_joined T.F_joined.kp T.b_joined (a_cons (s_v 7) (a_cons (s_v 10) (a_nil))))) (a_nil))) (gd_cons (g_name 5) (gd_cons (g_name 7) gd_nil)))))))) (b_cons (x_if (t_w (w_or ((t_cmp (o_ne) ((s_bf c_shw T.n_repr bt_repr (a_cons (s_v 5) (a_nil)))) ((s_bf c_shw T.n_repr bt_repr (a_cons ((s_call (ok_led T) (by decide) T.g_led T.F_led.kp T.b_led (a_cons (s_v 3) (a_cons (s_v 7) (a_nil))))) (a_nil)))))) (w_or1 ((t_cmp (o_ne) ((s_bf c_shw T.n_repr bt_repr (a_cons ((s_call (ok_led T) (by decide) T.g_led T.F_led.kp T.b_led (a_cons (s_v 5) (a_cons ((s_call (ok_undone T) (by decide) T.g_undone T.F_undone.kp T.b_undone (a_cons (s_v 7) (a_nil)))) (a_nil))))) (a_nil)))) ((s_bf c_shw T.n_repr bt_repr (a_cons (s_v 3) (a_nil))))))))) (b_one (x_ret (s_bl))) b_nil) (b_cons (x_if (t_cmp (o_ne) ((s_bf c_shw T.n_repr bt_repr (a_cons (s_v 6) (a_nil)))) ((s_bf c_shw T.n_repr bt_repr (a_cons ((s_lc true [("_law_spot", 11)] (i_row (s_v 4)) (g_name 11) c_yes ((s_call (ok_led_point T) (by decide) T.g_led_point T.F_led_point.kp T.b_led_point (a_cons (s_v 3) (a_cons (s_v 11) (a_cons (s_v 7) (a_nil)))))))) (a_nil))))) (b_one (x_ret (s_bl))) b_nil) (b_cons (x_if (t_cmp (o_ne) ((s_bf c_shw T.n_repr bt_repr (a_cons ((s_lc true [("_law_spot", 11)] (i_row (s_v 6)) (g_name 11) c_yes ((s_call (ok_led_point T) (by decide) T.g_led_point T.F_led_point.kp T.b_led_point (a_cons (s_v 5) (a_cons (s_v 11) (a_cons ((s_call (ok_undone T) (by decide) T.g_undone T.F_undone.kp T.b_undone (a_cons (s_v 7) (a_nil)))) (a_nil)))))))) (a_nil)))) ((s_bf c_shw T.n_repr bt_repr (a_cons (s_v 4) (a_nil))))) (b_one (x_ret (s_bl))) b_nil) (b_cons (x_par 12 13 (a_cons ((s_call (ok_invariants T) (by decide) T.g_invariants T.F_invariants.kp T.b_invariants (a_cons (s_v 3) (a_nil)))) (a_cons ((s_call (ok_invariants T) (by decide) T.g_invariants T.F_invariants.kp T.b_invariants (a_cons (s_v 5) (a_nil)))) (a_nil))) (hw := by intro env h; cases env; cases h; rfl)) (b_cons (x_asg ((s_lst (a_cons ((s_call (ok_Lall T) (by decide) T.g_Lall T.F_Lall.kp T.b_Lall (a_cons ((s_lst (a_cons ((s_lst (a_cons ((s_ix (s_v 12) (s_int))) (a_cons ((s_ix (s_v 12) (s_int))) (a_cons ((s_ix (s_v 13) (s_int))) (a_nil)))))) (a_nil)))) (a_nil)))) (a_cons ((s_call (ok_Lall T) (by decide) T.g_Lall T.F_Lall.kp T.b_Lall (a_cons ((s_lst (a_cons ((s_lst (a_cons ((s_ix (s_v 13) (s_int))) (a_cons ((s_ix (s_v 13) (s_int))) (a_cons ((s_ix (s_v 12) (s_int))) (a_nil)))))) (a_nil)))) (a_nil)))) (a_nil))))) (g_name 14)) (b_cons (x_if (t_w (w_or ((t_cmp (o_ne) ((s_bf c_shw T.n_repr bt_repr (a_cons ((s_ix (s_v 13) (s_int))) (a_nil)))) ((s_bf c_shw T.n_repr bt_repr (a_cons ((s_ix (s_v 12) (s_int))) (a_nil)))))) (w_or1 ((t_cmp (o_ne) ((s_ix (s_v 14) (s_int))) ((s_ix (s_v 14) (s_int)))))))) (b_one (x_ret (s_bl))) b_nil) (b_cons (x_if (t_cmp (o_ne) ((s_bf c_shw T.n_repr bt_repr (a_cons ((s_call (ok_through T) (by decide) T.g_through T.F_through.kp T.b_through (a_cons ((s_ix (s_v 5) (s_int))) (a_cons ((s_ix (s_v 5) (s_int))) (a_cons ((s_ix (s_v 5) (s_int))) (a_cons ((s_ix (s_v 6) (s_int))) (a_cons ((s_ix (s_v 6) (s_int))) (a_nil)))))))) (a_nil)))) ((s_bf c_shw T.n_repr bt_repr (a_cons (s_v 5) (a_nil))))) (b_one (x_ret (s_bl))) b_nil) (b_one (x_if (t_cmp (o_ne) ((s_call (ok_is_whole T) (by decide) T.g_is_whole T.F_is_whole.kp T.b_is_whole (a_cons (s_v 5) (a_nil)))) ((s_cmp (o_eq) ((s_lc true [("_law_one", 15)] (i_row (s_v 5)) (g_name 15) (c_if (t_val ((s_bf c_isi T.n_isinstance bt_isinstance (a_cons (s_v 15) (a_cons ((s_bty T.n_tuple bt_tuple)) (a_nil))))))) (s_v 15))) ((s_lst (a_nil)))))) (b_one (x_ret (s_bl))) b_nil))))))))))))) (b_one (x_ret (s_bl))))))
end
/-! ### the top in the heap -/
def mkT {K : PySem.W.Frag} {h : Heap} {mg : Str → Option Value} (X : K.In h) (G : h.Ns mainGlobals mg)
    {f_is_number f_common f_is_fraction f_pair_of f_lowest f_sum_of_two f_product f_quotient f_summed f_halves_of f_d_of f_is_curve f_need_curve f_own_invariants f_invariants f_own_is_whole f_is_whole f_off_by f_is_pair f_lies_on f_through f_is_change f_need_change f_by_power f_own_led f_led f_own_joined f_joined f_own_undone f_undone f_own_led_point f_led_point f_Lbegun f_Ldraw f_Lof f_Llow f_Ltwo f_Lplus f_Lby f_Lover f_Lall f_Lb f_Ld f_Lsome f_Lthrough f_Lchange f_law : Addr}
    {od0 an0 : Option Addr} {sl0 : Array (Option Value)} {oc0 kV0 dc0 pm0 cd0 ct0 : Value}
    (a0 : PySem.W.nsIn K mainGlobals "is_number" = some (some (.ref f_is_number))) (l0 : K.lookup f_is_number = some ⟨oc0, od0, .func (PySem.W.fnOf "is_number" "is_number" (defArgs st_is_number) (defBody st_is_number) (defScope st_is_number) .none kV0 dc0 pm0 an0 cd0 ct0), sl0⟩) (c0 : PySem.W.codeIn K cd0 "is_number" = true) (k0 : PySem.W.keepIn K (.ref f_is_number) = true)
    {od1 an1 : Option Addr} {sl1 : Array (Option Value)} {oc1 kV1 dc1 pm1 cd1 ct1 : Value}
    (a1 : PySem.W.nsIn K mainGlobals "common" = some (some (.ref f_common))) (l1 : K.lookup f_common = some ⟨oc1, od1, .func (PySem.W.fnOf "common" "common" (defArgs st_common) (defBody st_common) (defScope st_common) .none kV1 dc1 pm1 an1 cd1 ct1), sl1⟩) (c1 : PySem.W.codeIn K cd1 "common" = true) (k1 : PySem.W.keepIn K (.ref f_common) = true)
    {od2 an2 : Option Addr} {sl2 : Array (Option Value)} {oc2 kV2 dc2 pm2 cd2 ct2 : Value}
    (a2 : PySem.W.nsIn K mainGlobals "is_fraction" = some (some (.ref f_is_fraction))) (l2 : K.lookup f_is_fraction = some ⟨oc2, od2, .func (PySem.W.fnOf "is_fraction" "is_fraction" (defArgs st_is_fraction) (defBody st_is_fraction) (defScope st_is_fraction) .none kV2 dc2 pm2 an2 cd2 ct2), sl2⟩) (c2 : PySem.W.codeIn K cd2 "is_fraction" = true) (k2 : PySem.W.keepIn K (.ref f_is_fraction) = true)
    {od3 an3 : Option Addr} {sl3 : Array (Option Value)} {oc3 kV3 dc3 pm3 cd3 ct3 : Value}
    (a3 : PySem.W.nsIn K mainGlobals "pair_of" = some (some (.ref f_pair_of))) (l3 : K.lookup f_pair_of = some ⟨oc3, od3, .func (PySem.W.fnOf "pair_of" "pair_of" (defArgs st_pair_of) (defBody st_pair_of) (defScope st_pair_of) .none kV3 dc3 pm3 an3 cd3 ct3), sl3⟩) (c3 : PySem.W.codeIn K cd3 "pair_of" = true) (k3 : PySem.W.keepIn K (.ref f_pair_of) = true)
    {od4 an4 : Option Addr} {sl4 : Array (Option Value)} {oc4 kV4 dc4 pm4 cd4 ct4 : Value}
    (a4 : PySem.W.nsIn K mainGlobals "lowest" = some (some (.ref f_lowest))) (l4 : K.lookup f_lowest = some ⟨oc4, od4, .func (PySem.W.fnOf "lowest" "lowest" (defArgs st_lowest) (defBody st_lowest) (defScope st_lowest) .none kV4 dc4 pm4 an4 cd4 ct4), sl4⟩) (c4 : PySem.W.codeIn K cd4 "lowest" = true) (k4 : PySem.W.keepIn K (.ref f_lowest) = true)
    {od5 an5 : Option Addr} {sl5 : Array (Option Value)} {oc5 kV5 dc5 pm5 cd5 ct5 : Value}
    (a5 : PySem.W.nsIn K mainGlobals "sum_of_two" = some (some (.ref f_sum_of_two))) (l5 : K.lookup f_sum_of_two = some ⟨oc5, od5, .func (PySem.W.fnOf "sum_of_two" "sum_of_two" (defArgs st_sum_of_two) (defBody st_sum_of_two) (defScope st_sum_of_two) .none kV5 dc5 pm5 an5 cd5 ct5), sl5⟩) (c5 : PySem.W.codeIn K cd5 "sum_of_two" = true) (k5 : PySem.W.keepIn K (.ref f_sum_of_two) = true)
    {od6 an6 : Option Addr} {sl6 : Array (Option Value)} {oc6 kV6 dc6 pm6 cd6 ct6 : Value}
    (a6 : PySem.W.nsIn K mainGlobals "product" = some (some (.ref f_product))) (l6 : K.lookup f_product = some ⟨oc6, od6, .func (PySem.W.fnOf "product" "product" (defArgs st_product) (defBody st_product) (defScope st_product) .none kV6 dc6 pm6 an6 cd6 ct6), sl6⟩) (c6 : PySem.W.codeIn K cd6 "product" = true) (k6 : PySem.W.keepIn K (.ref f_product) = true)
    {od7 an7 : Option Addr} {sl7 : Array (Option Value)} {oc7 kV7 dc7 pm7 cd7 ct7 : Value}
    (a7 : PySem.W.nsIn K mainGlobals "quotient" = some (some (.ref f_quotient))) (l7 : K.lookup f_quotient = some ⟨oc7, od7, .func (PySem.W.fnOf "quotient" "quotient" (defArgs st_quotient) (defBody st_quotient) (defScope st_quotient) .none kV7 dc7 pm7 an7 cd7 ct7), sl7⟩) (c7 : PySem.W.codeIn K cd7 "quotient" = true) (k7 : PySem.W.keepIn K (.ref f_quotient) = true)
    {od8 an8 : Option Addr} {sl8 : Array (Option Value)} {oc8 kV8 dc8 pm8 cd8 ct8 : Value}
    (a8 : PySem.W.nsIn K mainGlobals "summed" = some (some (.ref f_summed))) (l8 : K.lookup f_summed = some ⟨oc8, od8, .func (PySem.W.fnOf "summed" "summed" (defArgs st_summed) (defBody st_summed) (defScope st_summed) .none kV8 dc8 pm8 an8 cd8 ct8), sl8⟩) (c8 : PySem.W.codeIn K cd8 "summed" = true) (k8 : PySem.W.keepIn K (.ref f_summed) = true)
    {od9 an9 : Option Addr} {sl9 : Array (Option Value)} {oc9 kV9 dc9 pm9 cd9 ct9 : Value}
    (a9 : PySem.W.nsIn K mainGlobals "halves_of" = some (some (.ref f_halves_of))) (l9 : K.lookup f_halves_of = some ⟨oc9, od9, .func (PySem.W.fnOf "halves_of" "halves_of" (defArgs st_halves_of) (defBody st_halves_of) (defScope st_halves_of) .none kV9 dc9 pm9 an9 cd9 ct9), sl9⟩) (c9 : PySem.W.codeIn K cd9 "halves_of" = true) (k9 : PySem.W.keepIn K (.ref f_halves_of) = true)
    {od10 an10 : Option Addr} {sl10 : Array (Option Value)} {oc10 kV10 dc10 pm10 cd10 ct10 : Value}
    (a10 : PySem.W.nsIn K mainGlobals "d_of" = some (some (.ref f_d_of))) (l10 : K.lookup f_d_of = some ⟨oc10, od10, .func (PySem.W.fnOf "d_of" "d_of" (defArgs st_d_of) (defBody st_d_of) (defScope st_d_of) .none kV10 dc10 pm10 an10 cd10 ct10), sl10⟩) (c10 : PySem.W.codeIn K cd10 "d_of" = true) (k10 : PySem.W.keepIn K (.ref f_d_of) = true)
    {od11 an11 : Option Addr} {sl11 : Array (Option Value)} {oc11 kV11 dc11 pm11 cd11 ct11 : Value}
    (a11 : PySem.W.nsIn K mainGlobals "is_curve" = some (some (.ref f_is_curve))) (l11 : K.lookup f_is_curve = some ⟨oc11, od11, .func (PySem.W.fnOf "is_curve" "is_curve" (defArgs st_is_curve) (defBody st_is_curve) (defScope st_is_curve) .none kV11 dc11 pm11 an11 cd11 ct11), sl11⟩) (c11 : PySem.W.codeIn K cd11 "is_curve" = true) (k11 : PySem.W.keepIn K (.ref f_is_curve) = true)
    {od12 an12 : Option Addr} {sl12 : Array (Option Value)} {oc12 kV12 dc12 pm12 cd12 ct12 : Value}
    (a12 : PySem.W.nsIn K mainGlobals "need_curve" = some (some (.ref f_need_curve))) (l12 : K.lookup f_need_curve = some ⟨oc12, od12, .func (PySem.W.fnOf "need_curve" "need_curve" (defArgs st_need_curve) (defBody st_need_curve) (defScope st_need_curve) .none kV12 dc12 pm12 an12 cd12 ct12), sl12⟩) (c12 : PySem.W.codeIn K cd12 "need_curve" = true) (k12 : PySem.W.keepIn K (.ref f_need_curve) = true)
    {od13 an13 : Option Addr} {sl13 : Array (Option Value)} {oc13 kV13 dc13 pm13 cd13 ct13 : Value}
    (a13 : PySem.W.nsIn K mainGlobals "own_invariants" = some (some (.ref f_own_invariants))) (l13 : K.lookup f_own_invariants = some ⟨oc13, od13, .func (PySem.W.fnOf "own_invariants" "own_invariants" (defArgs st_own_invariants) (defBody st_own_invariants) (defScope st_own_invariants) .none kV13 dc13 pm13 an13 cd13 ct13), sl13⟩) (c13 : PySem.W.codeIn K cd13 "own_invariants" = true) (k13 : PySem.W.keepIn K (.ref f_own_invariants) = true)
    {od14 an14 : Option Addr} {sl14 : Array (Option Value)} {oc14 kV14 dc14 pm14 cd14 ct14 : Value}
    (a14 : PySem.W.nsIn K mainGlobals "invariants" = some (some (.ref f_invariants))) (l14 : K.lookup f_invariants = some ⟨oc14, od14, .func (PySem.W.fnOf "invariants" "invariants" (defArgs st_invariants) (defBody st_invariants) (defScope st_invariants) .none kV14 dc14 pm14 an14 cd14 ct14), sl14⟩) (c14 : PySem.W.codeIn K cd14 "invariants" = true) (k14 : PySem.W.keepIn K (.ref f_invariants) = true)
    {od15 an15 : Option Addr} {sl15 : Array (Option Value)} {oc15 kV15 dc15 pm15 cd15 ct15 : Value}
    (a15 : PySem.W.nsIn K mainGlobals "own_is_whole" = some (some (.ref f_own_is_whole))) (l15 : K.lookup f_own_is_whole = some ⟨oc15, od15, .func (PySem.W.fnOf "own_is_whole" "own_is_whole" (defArgs st_own_is_whole) (defBody st_own_is_whole) (defScope st_own_is_whole) .none kV15 dc15 pm15 an15 cd15 ct15), sl15⟩) (c15 : PySem.W.codeIn K cd15 "own_is_whole" = true) (k15 : PySem.W.keepIn K (.ref f_own_is_whole) = true)
    {od16 an16 : Option Addr} {sl16 : Array (Option Value)} {oc16 kV16 dc16 pm16 cd16 ct16 : Value}
    (a16 : PySem.W.nsIn K mainGlobals "is_whole" = some (some (.ref f_is_whole))) (l16 : K.lookup f_is_whole = some ⟨oc16, od16, .func (PySem.W.fnOf "is_whole" "is_whole" (defArgs st_is_whole) (defBody st_is_whole) (defScope st_is_whole) .none kV16 dc16 pm16 an16 cd16 ct16), sl16⟩) (c16 : PySem.W.codeIn K cd16 "is_whole" = true) (k16 : PySem.W.keepIn K (.ref f_is_whole) = true)
    {od17 an17 : Option Addr} {sl17 : Array (Option Value)} {oc17 kV17 dc17 pm17 cd17 ct17 : Value}
    (a17 : PySem.W.nsIn K mainGlobals "off_by" = some (some (.ref f_off_by))) (l17 : K.lookup f_off_by = some ⟨oc17, od17, .func (PySem.W.fnOf "off_by" "off_by" (defArgs st_off_by) (defBody st_off_by) (defScope st_off_by) .none kV17 dc17 pm17 an17 cd17 ct17), sl17⟩) (c17 : PySem.W.codeIn K cd17 "off_by" = true) (k17 : PySem.W.keepIn K (.ref f_off_by) = true)
    {od18 an18 : Option Addr} {sl18 : Array (Option Value)} {oc18 kV18 dc18 pm18 cd18 ct18 : Value}
    (a18 : PySem.W.nsIn K mainGlobals "is_pair" = some (some (.ref f_is_pair))) (l18 : K.lookup f_is_pair = some ⟨oc18, od18, .func (PySem.W.fnOf "is_pair" "is_pair" (defArgs st_is_pair) (defBody st_is_pair) (defScope st_is_pair) .none kV18 dc18 pm18 an18 cd18 ct18), sl18⟩) (c18 : PySem.W.codeIn K cd18 "is_pair" = true) (k18 : PySem.W.keepIn K (.ref f_is_pair) = true)
    {od19 an19 : Option Addr} {sl19 : Array (Option Value)} {oc19 kV19 dc19 pm19 cd19 ct19 : Value}
    (a19 : PySem.W.nsIn K mainGlobals "lies_on" = some (some (.ref f_lies_on))) (l19 : K.lookup f_lies_on = some ⟨oc19, od19, .func (PySem.W.fnOf "lies_on" "lies_on" (defArgs st_lies_on) (defBody st_lies_on) (defScope st_lies_on) .none kV19 dc19 pm19 an19 cd19 ct19), sl19⟩) (c19 : PySem.W.codeIn K cd19 "lies_on" = true) (k19 : PySem.W.keepIn K (.ref f_lies_on) = true)
    {od20 an20 : Option Addr} {sl20 : Array (Option Value)} {oc20 kV20 dc20 pm20 cd20 ct20 : Value}
    (a20 : PySem.W.nsIn K mainGlobals "through" = some (some (.ref f_through))) (l20 : K.lookup f_through = some ⟨oc20, od20, .func (PySem.W.fnOf "through" "through" (defArgs st_through) (defBody st_through) (defScope st_through) .none kV20 dc20 pm20 an20 cd20 ct20), sl20⟩) (c20 : PySem.W.codeIn K cd20 "through" = true) (k20 : PySem.W.keepIn K (.ref f_through) = true)
    {od21 an21 : Option Addr} {sl21 : Array (Option Value)} {oc21 kV21 dc21 pm21 cd21 ct21 : Value}
    (a21 : PySem.W.nsIn K mainGlobals "is_change" = some (some (.ref f_is_change))) (l21 : K.lookup f_is_change = some ⟨oc21, od21, .func (PySem.W.fnOf "is_change" "is_change" (defArgs st_is_change) (defBody st_is_change) (defScope st_is_change) .none kV21 dc21 pm21 an21 cd21 ct21), sl21⟩) (c21 : PySem.W.codeIn K cd21 "is_change" = true) (k21 : PySem.W.keepIn K (.ref f_is_change) = true)
    {od22 an22 : Option Addr} {sl22 : Array (Option Value)} {oc22 kV22 dc22 pm22 cd22 ct22 : Value}
    (a22 : PySem.W.nsIn K mainGlobals "need_change" = some (some (.ref f_need_change))) (l22 : K.lookup f_need_change = some ⟨oc22, od22, .func (PySem.W.fnOf "need_change" "need_change" (defArgs st_need_change) (defBody st_need_change) (defScope st_need_change) .none kV22 dc22 pm22 an22 cd22 ct22), sl22⟩) (c22 : PySem.W.codeIn K cd22 "need_change" = true) (k22 : PySem.W.keepIn K (.ref f_need_change) = true)
    {od23 an23 : Option Addr} {sl23 : Array (Option Value)} {oc23 kV23 dc23 pm23 cd23 ct23 : Value}
    (a23 : PySem.W.nsIn K mainGlobals "by_power" = some (some (.ref f_by_power))) (l23 : K.lookup f_by_power = some ⟨oc23, od23, .func (PySem.W.fnOf "by_power" "by_power" (defArgs st_by_power) (defBody st_by_power) (defScope st_by_power) .none kV23 dc23 pm23 an23 cd23 ct23), sl23⟩) (c23 : PySem.W.codeIn K cd23 "by_power" = true) (k23 : PySem.W.keepIn K (.ref f_by_power) = true)
    {od24 an24 : Option Addr} {sl24 : Array (Option Value)} {oc24 kV24 dc24 pm24 cd24 ct24 : Value}
    (a24 : PySem.W.nsIn K mainGlobals "own_led" = some (some (.ref f_own_led))) (l24 : K.lookup f_own_led = some ⟨oc24, od24, .func (PySem.W.fnOf "own_led" "own_led" (defArgs st_own_led) (defBody st_own_led) (defScope st_own_led) .none kV24 dc24 pm24 an24 cd24 ct24), sl24⟩) (c24 : PySem.W.codeIn K cd24 "own_led" = true) (k24 : PySem.W.keepIn K (.ref f_own_led) = true)
    {od25 an25 : Option Addr} {sl25 : Array (Option Value)} {oc25 kV25 dc25 pm25 cd25 ct25 : Value}
    (a25 : PySem.W.nsIn K mainGlobals "led" = some (some (.ref f_led))) (l25 : K.lookup f_led = some ⟨oc25, od25, .func (PySem.W.fnOf "led" "led" (defArgs st_led) (defBody st_led) (defScope st_led) .none kV25 dc25 pm25 an25 cd25 ct25), sl25⟩) (c25 : PySem.W.codeIn K cd25 "led" = true) (k25 : PySem.W.keepIn K (.ref f_led) = true)
    {od26 an26 : Option Addr} {sl26 : Array (Option Value)} {oc26 kV26 dc26 pm26 cd26 ct26 : Value}
    (a26 : PySem.W.nsIn K mainGlobals "own_joined" = some (some (.ref f_own_joined))) (l26 : K.lookup f_own_joined = some ⟨oc26, od26, .func (PySem.W.fnOf "own_joined" "own_joined" (defArgs st_own_joined) (defBody st_own_joined) (defScope st_own_joined) .none kV26 dc26 pm26 an26 cd26 ct26), sl26⟩) (c26 : PySem.W.codeIn K cd26 "own_joined" = true) (k26 : PySem.W.keepIn K (.ref f_own_joined) = true)
    {od27 an27 : Option Addr} {sl27 : Array (Option Value)} {oc27 kV27 dc27 pm27 cd27 ct27 : Value}
    (a27 : PySem.W.nsIn K mainGlobals "joined" = some (some (.ref f_joined))) (l27 : K.lookup f_joined = some ⟨oc27, od27, .func (PySem.W.fnOf "joined" "joined" (defArgs st_joined) (defBody st_joined) (defScope st_joined) .none kV27 dc27 pm27 an27 cd27 ct27), sl27⟩) (c27 : PySem.W.codeIn K cd27 "joined" = true) (k27 : PySem.W.keepIn K (.ref f_joined) = true)
    {od28 an28 : Option Addr} {sl28 : Array (Option Value)} {oc28 kV28 dc28 pm28 cd28 ct28 : Value}
    (a28 : PySem.W.nsIn K mainGlobals "own_undone" = some (some (.ref f_own_undone))) (l28 : K.lookup f_own_undone = some ⟨oc28, od28, .func (PySem.W.fnOf "own_undone" "own_undone" (defArgs st_own_undone) (defBody st_own_undone) (defScope st_own_undone) .none kV28 dc28 pm28 an28 cd28 ct28), sl28⟩) (c28 : PySem.W.codeIn K cd28 "own_undone" = true) (k28 : PySem.W.keepIn K (.ref f_own_undone) = true)
    {od29 an29 : Option Addr} {sl29 : Array (Option Value)} {oc29 kV29 dc29 pm29 cd29 ct29 : Value}
    (a29 : PySem.W.nsIn K mainGlobals "undone" = some (some (.ref f_undone))) (l29 : K.lookup f_undone = some ⟨oc29, od29, .func (PySem.W.fnOf "undone" "undone" (defArgs st_undone) (defBody st_undone) (defScope st_undone) .none kV29 dc29 pm29 an29 cd29 ct29), sl29⟩) (c29 : PySem.W.codeIn K cd29 "undone" = true) (k29 : PySem.W.keepIn K (.ref f_undone) = true)
    {od30 an30 : Option Addr} {sl30 : Array (Option Value)} {oc30 kV30 dc30 pm30 cd30 ct30 : Value}
    (a30 : PySem.W.nsIn K mainGlobals "own_led_point" = some (some (.ref f_own_led_point))) (l30 : K.lookup f_own_led_point = some ⟨oc30, od30, .func (PySem.W.fnOf "own_led_point" "own_led_point" (defArgs st_own_led_point) (defBody st_own_led_point) (defScope st_own_led_point) .none kV30 dc30 pm30 an30 cd30 ct30), sl30⟩) (c30 : PySem.W.codeIn K cd30 "own_led_point" = true) (k30 : PySem.W.keepIn K (.ref f_own_led_point) = true)
    {od31 an31 : Option Addr} {sl31 : Array (Option Value)} {oc31 kV31 dc31 pm31 cd31 ct31 : Value}
    (a31 : PySem.W.nsIn K mainGlobals "led_point" = some (some (.ref f_led_point))) (l31 : K.lookup f_led_point = some ⟨oc31, od31, .func (PySem.W.fnOf "led_point" "led_point" (defArgs st_led_point) (defBody st_led_point) (defScope st_led_point) .none kV31 dc31 pm31 an31 cd31 ct31), sl31⟩) (c31 : PySem.W.codeIn K cd31 "led_point" = true) (k31 : PySem.W.keepIn K (.ref f_led_point) = true)
    {od32 an32 : Option Addr} {sl32 : Array (Option Value)} {oc32 kV32 dc32 pm32 cd32 ct32 : Value}
    (a32 : PySem.W.nsIn K mainGlobals "_law_begun" = some (some (.ref f_Lbegun))) (l32 : K.lookup f_Lbegun = some ⟨oc32, od32, .func (PySem.W.fnOf "_law_begun" "_law_begun" (defArgs st_Lbegun) (defBody st_Lbegun) (defScope st_Lbegun) .none kV32 dc32 pm32 an32 cd32 ct32), sl32⟩) (c32 : PySem.W.codeIn K cd32 "_law_begun" = true) (k32 : PySem.W.keepIn K (.ref f_Lbegun) = true)
    {od33 an33 : Option Addr} {sl33 : Array (Option Value)} {oc33 kV33 dc33 pm33 cd33 ct33 : Value}
    (a33 : PySem.W.nsIn K mainGlobals "_law_draw" = some (some (.ref f_Ldraw))) (l33 : K.lookup f_Ldraw = some ⟨oc33, od33, .func (PySem.W.fnOf "_law_draw" "_law_draw" (defArgs st_Ldraw) (defBody st_Ldraw) (defScope st_Ldraw) .none kV33 dc33 pm33 an33 cd33 ct33), sl33⟩) (c33 : PySem.W.codeIn K cd33 "_law_draw" = true) (k33 : PySem.W.keepIn K (.ref f_Ldraw) = true)
    {od34 an34 : Option Addr} {sl34 : Array (Option Value)} {oc34 kV34 dc34 pm34 cd34 ct34 : Value}
    (a34 : PySem.W.nsIn K mainGlobals "_law_of" = some (some (.ref f_Lof))) (l34 : K.lookup f_Lof = some ⟨oc34, od34, .func (PySem.W.fnOf "_law_of" "_law_of" (defArgs st_Lof) (defBody st_Lof) (defScope st_Lof) .none kV34 dc34 pm34 an34 cd34 ct34), sl34⟩) (c34 : PySem.W.codeIn K cd34 "_law_of" = true) (k34 : PySem.W.keepIn K (.ref f_Lof) = true)
    {od35 an35 : Option Addr} {sl35 : Array (Option Value)} {oc35 kV35 dc35 pm35 cd35 ct35 : Value}
    (a35 : PySem.W.nsIn K mainGlobals "_law_low" = some (some (.ref f_Llow))) (l35 : K.lookup f_Llow = some ⟨oc35, od35, .func (PySem.W.fnOf "_law_low" "_law_low" (defArgs st_Llow) (defBody st_Llow) (defScope st_Llow) .none kV35 dc35 pm35 an35 cd35 ct35), sl35⟩) (c35 : PySem.W.codeIn K cd35 "_law_low" = true) (k35 : PySem.W.keepIn K (.ref f_Llow) = true)
    {od36 an36 : Option Addr} {sl36 : Array (Option Value)} {oc36 kV36 dc36 pm36 cd36 ct36 : Value}
    (a36 : PySem.W.nsIn K mainGlobals "_law_two" = some (some (.ref f_Ltwo))) (l36 : K.lookup f_Ltwo = some ⟨oc36, od36, .func (PySem.W.fnOf "_law_two" "_law_two" (defArgs st_Ltwo) (defBody st_Ltwo) (defScope st_Ltwo) .none kV36 dc36 pm36 an36 cd36 ct36), sl36⟩) (c36 : PySem.W.codeIn K cd36 "_law_two" = true) (k36 : PySem.W.keepIn K (.ref f_Ltwo) = true)
    {od37 an37 : Option Addr} {sl37 : Array (Option Value)} {oc37 kV37 dc37 pm37 cd37 ct37 : Value}
    (a37 : PySem.W.nsIn K mainGlobals "_law_plus" = some (some (.ref f_Lplus))) (l37 : K.lookup f_Lplus = some ⟨oc37, od37, .func (PySem.W.fnOf "_law_plus" "_law_plus" (defArgs st_Lplus) (defBody st_Lplus) (defScope st_Lplus) .none kV37 dc37 pm37 an37 cd37 ct37), sl37⟩) (c37 : PySem.W.codeIn K cd37 "_law_plus" = true) (k37 : PySem.W.keepIn K (.ref f_Lplus) = true)
    {od38 an38 : Option Addr} {sl38 : Array (Option Value)} {oc38 kV38 dc38 pm38 cd38 ct38 : Value}
    (a38 : PySem.W.nsIn K mainGlobals "_law_by" = some (some (.ref f_Lby))) (l38 : K.lookup f_Lby = some ⟨oc38, od38, .func (PySem.W.fnOf "_law_by" "_law_by" (defArgs st_Lby) (defBody st_Lby) (defScope st_Lby) .none kV38 dc38 pm38 an38 cd38 ct38), sl38⟩) (c38 : PySem.W.codeIn K cd38 "_law_by" = true) (k38 : PySem.W.keepIn K (.ref f_Lby) = true)
    {od39 an39 : Option Addr} {sl39 : Array (Option Value)} {oc39 kV39 dc39 pm39 cd39 ct39 : Value}
    (a39 : PySem.W.nsIn K mainGlobals "_law_over" = some (some (.ref f_Lover))) (l39 : K.lookup f_Lover = some ⟨oc39, od39, .func (PySem.W.fnOf "_law_over" "_law_over" (defArgs st_Lover) (defBody st_Lover) (defScope st_Lover) .none kV39 dc39 pm39 an39 cd39 ct39), sl39⟩) (c39 : PySem.W.codeIn K cd39 "_law_over" = true) (k39 : PySem.W.keepIn K (.ref f_Lover) = true)
    {od40 an40 : Option Addr} {sl40 : Array (Option Value)} {oc40 kV40 dc40 pm40 cd40 ct40 : Value}
    (a40 : PySem.W.nsIn K mainGlobals "_law_all" = some (some (.ref f_Lall))) (l40 : K.lookup f_Lall = some ⟨oc40, od40, .func (PySem.W.fnOf "_law_all" "_law_all" (defArgs st_Lall) (defBody st_Lall) (defScope st_Lall) .none kV40 dc40 pm40 an40 cd40 ct40), sl40⟩) (c40 : PySem.W.codeIn K cd40 "_law_all" = true) (k40 : PySem.W.keepIn K (.ref f_Lall) = true)
    {od41 an41 : Option Addr} {sl41 : Array (Option Value)} {oc41 kV41 dc41 pm41 cd41 ct41 : Value}
    (a41 : PySem.W.nsIn K mainGlobals "_law_b" = some (some (.ref f_Lb))) (l41 : K.lookup f_Lb = some ⟨oc41, od41, .func (PySem.W.fnOf "_law_b" "_law_b" (defArgs st_Lb) (defBody st_Lb) (defScope st_Lb) .none kV41 dc41 pm41 an41 cd41 ct41), sl41⟩) (c41 : PySem.W.codeIn K cd41 "_law_b" = true) (k41 : PySem.W.keepIn K (.ref f_Lb) = true)
    {od42 an42 : Option Addr} {sl42 : Array (Option Value)} {oc42 kV42 dc42 pm42 cd42 ct42 : Value}
    (a42 : PySem.W.nsIn K mainGlobals "_law_d" = some (some (.ref f_Ld))) (l42 : K.lookup f_Ld = some ⟨oc42, od42, .func (PySem.W.fnOf "_law_d" "_law_d" (defArgs st_Ld) (defBody st_Ld) (defScope st_Ld) .none kV42 dc42 pm42 an42 cd42 ct42), sl42⟩) (c42 : PySem.W.codeIn K cd42 "_law_d" = true) (k42 : PySem.W.keepIn K (.ref f_Ld) = true)
    {od43 an43 : Option Addr} {sl43 : Array (Option Value)} {oc43 kV43 dc43 pm43 cd43 ct43 : Value}
    (a43 : PySem.W.nsIn K mainGlobals "_law_some" = some (some (.ref f_Lsome))) (l43 : K.lookup f_Lsome = some ⟨oc43, od43, .func (PySem.W.fnOf "_law_some" "_law_some" (defArgs st_Lsome) (defBody st_Lsome) (defScope st_Lsome) .none kV43 dc43 pm43 an43 cd43 ct43), sl43⟩) (c43 : PySem.W.codeIn K cd43 "_law_some" = true) (k43 : PySem.W.keepIn K (.ref f_Lsome) = true)
    {od44 an44 : Option Addr} {sl44 : Array (Option Value)} {oc44 kV44 dc44 pm44 cd44 ct44 : Value}
    (a44 : PySem.W.nsIn K mainGlobals "_law_through" = some (some (.ref f_Lthrough))) (l44 : K.lookup f_Lthrough = some ⟨oc44, od44, .func (PySem.W.fnOf "_law_through" "_law_through" (defArgs st_Lthrough) (defBody st_Lthrough) (defScope st_Lthrough) .none kV44 dc44 pm44 an44 cd44 ct44), sl44⟩) (c44 : PySem.W.codeIn K cd44 "_law_through" = true) (k44 : PySem.W.keepIn K (.ref f_Lthrough) = true)
    {od45 an45 : Option Addr} {sl45 : Array (Option Value)} {oc45 kV45 dc45 pm45 cd45 ct45 : Value}
    (a45 : PySem.W.nsIn K mainGlobals "_law_change" = some (some (.ref f_Lchange))) (l45 : K.lookup f_Lchange = some ⟨oc45, od45, .func (PySem.W.fnOf "_law_change" "_law_change" (defArgs st_Lchange) (defBody st_Lchange) (defScope st_Lchange) .none kV45 dc45 pm45 an45 cd45 ct45), sl45⟩) (c45 : PySem.W.codeIn K cd45 "_law_change" = true) (k45 : PySem.W.keepIn K (.ref f_Lchange) = true)
    {od46 an46 : Option Addr} {sl46 : Array (Option Value)} {oc46 kV46 dc46 pm46 cd46 ct46 : Value}
    (a46 : PySem.W.nsIn K mainGlobals "law" = some (some (.ref f_law))) (l46 : K.lookup f_law = some ⟨oc46, od46, .func (PySem.W.fnOf "law" "law" (defArgs st_law) (defBody st_law) (defScope st_law) .none kV46 dc46 pm46 an46 cd46 ct46), sl46⟩) (c46 : PySem.W.codeIn K cd46 "law" = true) (k46 : PySem.W.keepIn K (.ref f_law) = true)
    (n0 : PySem.W.nsIn K mainGlobals "int" = some none)
    (n1 : PySem.W.nsIn K mainGlobals "isinstance" = some none)
    (n2 : PySem.W.nsIn K mainGlobals "bool" = some none)
    (n3 : PySem.W.nsIn K mainGlobals "abs" = some none)
    (n4 : PySem.W.nsIn K mainGlobals "tuple" = some none)
    (n5 : PySem.W.nsIn K mainGlobals "len" = some none)
    (n6 : PySem.W.nsIn K mainGlobals "all" = some none)
    (n7 : PySem.W.nsIn K mainGlobals "range" = some none)
    (n8 : PySem.W.nsIn K mainGlobals "zip" = some none)
    (n9 : PySem.W.nsIn K mainGlobals "enumerate" = some none)
    (n10 : PySem.W.nsIn K mainGlobals "max" = some none)
    (n11 : PySem.W.nsIn K mainGlobals "min" = some none)
    (n12 : PySem.W.nsIn K mainGlobals "list" = some none)
    (n13 : PySem.W.nsIn K mainGlobals "repr" = some none) : Txt K mg :=
  { f_is_number := f_is_number, d_is_number := _, F_is_number := fun_mk (st := st_is_number) l0 c0 k0, b_is_number := (fun_mk (st := st_is_number) l0 c0 k0).binds (ps := ["thing"]) fun _ _ _ _ _ _ us hl => match us, hl with | [_], _ => rfl,
    f_common := f_common, d_common := _, F_common := fun_mk (st := st_common) l1 c1 k1, b_common := (fun_mk (st := st_common) l1 c1 k1).binds (ps := ["one", "other"]) fun _ _ _ _ _ _ us hl => match us, hl with | [_, _], _ => rfl,
    f_is_fraction := f_is_fraction, d_is_fraction := _, F_is_fraction := fun_mk (st := st_is_fraction) l2 c2 k2, b_is_fraction := (fun_mk (st := st_is_fraction) l2 c2 k2).binds (ps := ["thing"]) fun _ _ _ _ _ _ us hl => match us, hl with | [_], _ => rfl,
    f_pair_of := f_pair_of, d_pair_of := _, F_pair_of := fun_mk (st := st_pair_of) l3 c3 k3, b_pair_of := (fun_mk (st := st_pair_of) l3 c3 k3).binds (ps := ["a"]) fun _ _ _ _ _ _ us hl => match us, hl with | [_], _ => rfl,
    f_lowest := f_lowest, d_lowest := _, F_lowest := fun_mk (st := st_lowest) l4 c4 k4, b_lowest := (fun_mk (st := st_lowest) l4 c4 k4).binds (ps := ["top", "bottom"]) fun _ _ _ _ _ _ us hl => match us, hl with | [_, _], _ => rfl,
    f_sum_of_two := f_sum_of_two, d_sum_of_two := _, F_sum_of_two := fun_mk (st := st_sum_of_two) l5 c5 k5, b_sum_of_two := (fun_mk (st := st_sum_of_two) l5 c5 k5).binds (ps := ["a", "b"]) fun _ _ _ _ _ _ us hl => match us, hl with | [_, _], _ => rfl,
    f_product := f_product, d_product := _, F_product := fun_mk (st := st_product) l6 c6 k6, b_product := (fun_mk (st := st_product) l6 c6 k6).binds (ps := ["a", "b"]) fun _ _ _ _ _ _ us hl => match us, hl with | [_, _], _ => rfl,
    f_quotient := f_quotient, d_quotient := _, F_quotient := fun_mk (st := st_quotient) l7 c7 k7, b_quotient := (fun_mk (st := st_quotient) l7 c7 k7).binds (ps := ["a", "b"]) fun _ _ _ _ _ _ us hl => match us, hl with | [_, _], _ => rfl,
    f_summed := f_summed, d_summed := _, F_summed := fun_mk (st := st_summed) l8 c8 k8, b_summed := (fun_mk (st := st_summed) l8 c8 k8).binds (ps := ["rows"]) fun _ _ _ _ _ _ us hl => match us, hl with | [_], _ => rfl,
    f_halves_of := f_halves_of, d_halves_of := _, F_halves_of := fun_mk (st := st_halves_of) l9 c9 k9, b_halves_of := (fun_mk (st := st_halves_of) l9 c9 k9).binds (ps := ["five"]) fun _ _ _ _ _ _ us hl => match us, hl with | [_], _ => rfl,
    f_d_of := f_d_of, d_d_of := _, F_d_of := fun_mk (st := st_d_of) l10 c10 k10, b_d_of := (fun_mk (st := st_d_of) l10 c10 k10).binds (ps := ["five"]) fun _ _ _ _ _ _ us hl => match us, hl with | [_], _ => rfl,
    f_is_curve := f_is_curve, d_is_curve := _, F_is_curve := fun_mk (st := st_is_curve) l11 c11 k11, b_is_curve := (fun_mk (st := st_is_curve) l11 c11 k11).binds (ps := ["thing"]) fun _ _ _ _ _ _ us hl => match us, hl with | [_], _ => rfl,
    f_need_curve := f_need_curve, d_need_curve := _, F_need_curve := fun_mk (st := st_need_curve) l12 c12 k12, b_need_curve := (fun_mk (st := st_need_curve) l12 c12 k12).binds (ps := ["curve"]) fun _ _ _ _ _ _ us hl => match us, hl with | [_], _ => rfl,
    f_own_invariants := f_own_invariants, d_own_invariants := _, F_own_invariants := fun_mk (st := st_own_invariants) l13 c13 k13, b_own_invariants := (fun_mk (st := st_own_invariants) l13 c13 k13).binds (ps := ["curve"]) fun _ _ _ _ _ _ us hl => match us, hl with | [_], _ => rfl,
    f_invariants := f_invariants, d_invariants := _, F_invariants := fun_mk (st := st_invariants) l14 c14 k14, b_invariants := (fun_mk (st := st_invariants) l14 c14 k14).binds (ps := ["curve"]) fun _ _ _ _ _ _ us hl => match us, hl with | [_], _ => rfl,
    f_own_is_whole := f_own_is_whole, d_own_is_whole := _, F_own_is_whole := fun_mk (st := st_own_is_whole) l15 c15 k15, b_own_is_whole := (fun_mk (st := st_own_is_whole) l15 c15 k15).binds (ps := ["curve"]) fun _ _ _ _ _ _ us hl => match us, hl with | [_], _ => rfl,
    f_is_whole := f_is_whole, d_is_whole := _, F_is_whole := fun_mk (st := st_is_whole) l16 c16 k16, b_is_whole := (fun_mk (st := st_is_whole) l16 c16 k16).binds (ps := ["curve"]) fun _ _ _ _ _ _ us hl => match us, hl with | [_], _ => rfl,
    f_off_by := f_off_by, d_off_by := _, F_off_by := fun_mk (st := st_off_by) l17 c17 k17, b_off_by := (fun_mk (st := st_off_by) l17 c17 k17).binds (ps := ["five", "x", "y"]) fun _ _ _ _ _ _ us hl => match us, hl with | [_, _, _], _ => rfl,
    f_is_pair := f_is_pair, d_is_pair := _, F_is_pair := fun_mk (st := st_is_pair) l18 c18 k18, b_is_pair := (fun_mk (st := st_is_pair) l18 c18 k18).binds (ps := ["thing"]) fun _ _ _ _ _ _ us hl => match us, hl with | [_], _ => rfl,
    f_lies_on := f_lies_on, d_lies_on := _, F_lies_on := fun_mk (st := st_lies_on) l19 c19 k19, b_lies_on := (fun_mk (st := st_lies_on) l19 c19 k19).binds (ps := ["curve", "thing"]) fun _ _ _ _ _ _ us hl => match us, hl with | [_, _], _ => rfl,
    f_through := f_through, d_through := _, F_through := fun_mk (st := st_through) l20 c20 k20, b_through := (fun_mk (st := st_through) l20 c20 k20).binds (ps := ["a1", "a2", "a3", "one", "other"]) fun _ _ _ _ _ _ us hl => match us, hl with | [_, _, _, _, _], _ => rfl,
    f_is_change := f_is_change, d_is_change := _, F_is_change := fun_mk (st := st_is_change) l21 c21 k21, b_is_change := (fun_mk (st := st_is_change) l21 c21 k21).binds (ps := ["thing"]) fun _ _ _ _ _ _ us hl => match us, hl with | [_], _ => rfl,
    f_need_change := f_need_change, d_need_change := _, F_need_change := fun_mk (st := st_need_change) l22 c22 k22, b_need_change := (fun_mk (st := st_need_change) l22 c22 k22).binds (ps := ["change"]) fun _ _ _ _ _ _ us hl => match us, hl with | [_], _ => rfl,
    f_by_power := f_by_power, d_by_power := _, F_by_power := fun_mk (st := st_by_power) l23 c23 k23, b_by_power := (fun_mk (st := st_by_power) l23 c23 k23).binds (ps := ["a", "u", "many"]) fun _ _ _ _ _ _ us hl => match us, hl with | [_, _, _], _ => rfl,
    f_own_led := f_own_led, d_own_led := _, F_own_led := fun_mk (st := st_own_led) l24 c24 k24, b_own_led := (fun_mk (st := st_own_led) l24 c24 k24).binds (ps := ["curve", "change"]) fun _ _ _ _ _ _ us hl => match us, hl with | [_, _], _ => rfl,
    f_led := f_led, d_led := _, F_led := fun_mk (st := st_led) l25 c25 k25, b_led := (fun_mk (st := st_led) l25 c25 k25).binds (ps := ["curve", "change"]) fun _ _ _ _ _ _ us hl => match us, hl with | [_, _], _ => rfl,
    f_own_joined := f_own_joined, d_own_joined := _, F_own_joined := fun_mk (st := st_own_joined) l26 c26 k26, b_own_joined := (fun_mk (st := st_own_joined) l26 c26 k26).binds (ps := ["one", "other"]) fun _ _ _ _ _ _ us hl => match us, hl with | [_, _], _ => rfl,
    f_joined := f_joined, d_joined := _, F_joined := fun_mk (st := st_joined) l27 c27 k27, b_joined := (fun_mk (st := st_joined) l27 c27 k27).binds (ps := ["one", "other"]) fun _ _ _ _ _ _ us hl => match us, hl with | [_, _], _ => rfl,
    f_own_undone := f_own_undone, d_own_undone := _, F_own_undone := fun_mk (st := st_own_undone) l28 c28 k28, b_own_undone := (fun_mk (st := st_own_undone) l28 c28 k28).binds (ps := ["change"]) fun _ _ _ _ _ _ us hl => match us, hl with | [_], _ => rfl,
    f_undone := f_undone, d_undone := _, F_undone := fun_mk (st := st_undone) l29 c29 k29, b_undone := (fun_mk (st := st_undone) l29 c29 k29).binds (ps := ["change"]) fun _ _ _ _ _ _ us hl => match us, hl with | [_], _ => rfl,
    f_own_led_point := f_own_led_point, d_own_led_point := _, F_own_led_point := fun_mk (st := st_own_led_point) l30 c30 k30, b_own_led_point := (fun_mk (st := st_own_led_point) l30 c30 k30).binds (ps := ["point", "change"]) fun _ _ _ _ _ _ us hl => match us, hl with | [_, _], _ => rfl,
    f_led_point := f_led_point, d_led_point := _, F_led_point := fun_mk (st := st_led_point) l31 c31 k31, b_led_point := (fun_mk (st := st_led_point) l31 c31 k31).binds (ps := ["curve", "point", "change"]) fun _ _ _ _ _ _ us hl => match us, hl with | [_, _, _], _ => rfl,
    f_Lbegun := f_Lbegun, d_Lbegun := _, F_Lbegun := fun_mk (st := st_Lbegun) l32 c32 k32, b_Lbegun := (fun_mk (st := st_Lbegun) l32 c32 k32).binds (ps := ["_law_script"]) fun _ _ _ _ _ _ us hl => match us, hl with | [_], _ => rfl,
    f_Ldraw := f_Ldraw, d_Ldraw := _, F_Ldraw := fun_mk (st := st_Ldraw) l33 c33 k33, b_Ldraw := (fun_mk (st := st_Ldraw) l33 c33 k33).binds (ps := ["_law_m", "_law_top"]) fun _ _ _ _ _ _ us hl => match us, hl with | [_, _], _ => rfl,
    f_Lof := f_Lof, d_Lof := _, F_Lof := fun_mk (st := st_Lof) l34 c34 k34, b_Lof := (fun_mk (st := st_Lof) l34 c34 k34).binds (ps := ["_law_m", "_law_some_here"]) fun _ _ _ _ _ _ us hl => match us, hl with | [_, _], _ => rfl,
    f_Llow := f_Llow, d_Llow := _, F_Llow := fun_mk (st := st_Llow) l35 c35 k35, b_Llow := (fun_mk (st := st_Llow) l35 c35 k35).binds (ps := ["_law_top", "_law_bottom"]) fun _ _ _ _ _ _ us hl => match us, hl with | [_, _], _ => rfl,
    f_Ltwo := f_Ltwo, d_Ltwo := _, F_Ltwo := fun_mk (st := st_Ltwo) l36 c36 k36, b_Ltwo := (fun_mk (st := st_Ltwo) l36 c36 k36).binds (ps := ["_law_a"]) fun _ _ _ _ _ _ us hl => match us, hl with | [_], _ => rfl,
    f_Lplus := f_Lplus, d_Lplus := _, F_Lplus := fun_mk (st := st_Lplus) l37 c37 k37, b_Lplus := (fun_mk (st := st_Lplus) l37 c37 k37).binds (ps := ["_law_a", "_law_b_here"]) fun _ _ _ _ _ _ us hl => match us, hl with | [_, _], _ => rfl,
    f_Lby := f_Lby, d_Lby := _, F_Lby := fun_mk (st := st_Lby) l38 c38 k38, b_Lby := (fun_mk (st := st_Lby) l38 c38 k38).binds (ps := ["_law_a", "_law_b_here"]) fun _ _ _ _ _ _ us hl => match us, hl with | [_, _], _ => rfl,
    f_Lover := f_Lover, d_Lover := _, F_Lover := fun_mk (st := st_Lover) l39 c39 k39, b_Lover := (fun_mk (st := st_Lover) l39 c39 k39).binds (ps := ["_law_a", "_law_b_here"]) fun _ _ _ _ _ _ us hl => match us, hl with | [_, _], _ => rfl,
    f_Lall := f_Lall, d_Lall := _, F_Lall := fun_mk (st := st_Lall) l40 c40 k40, b_Lall := (fun_mk (st := st_Lall) l40 c40 k40).binds (ps := ["_law_rows"]) fun _ _ _ _ _ _ us hl => match us, hl with | [_], _ => rfl,
    f_Lb := f_Lb, d_Lb := _, F_Lb := fun_mk (st := st_Lb) l41 c41 k41, b_Lb := (fun_mk (st := st_Lb) l41 c41 k41).binds (ps := ["_law_curve"]) fun _ _ _ _ _ _ us hl => match us, hl with | [_], _ => rfl,
    f_Ld := f_Ld, d_Ld := _, F_Ld := fun_mk (st := st_Ld) l42 c42 k42, b_Ld := (fun_mk (st := st_Ld) l42 c42 k42).binds (ps := ["_law_curve"]) fun _ _ _ _ _ _ us hl => match us, hl with | [_], _ => rfl,
    f_Lsome := f_Lsome, d_Lsome := _, F_Lsome := fun_mk (st := st_Lsome) l43 c43 k43, b_Lsome := (fun_mk (st := st_Lsome) l43 c43 k43).binds (ps := ["_law_m"]) fun _ _ _ _ _ _ us hl => match us, hl with | [_], _ => rfl,
    f_Lthrough := f_Lthrough, d_Lthrough := _, F_Lthrough := fun_mk (st := st_Lthrough) l44 c44 k44, b_Lthrough := (fun_mk (st := st_Lthrough) l44 c44 k44).binds (ps := ["_law_m", "_law_whole"]) fun _ _ _ _ _ _ us hl => match us, hl with | [_, _], _ => rfl,
    f_Lchange := f_Lchange, d_Lchange := _, F_Lchange := fun_mk (st := st_Lchange) l45 c45 k45, b_Lchange := (fun_mk (st := st_Lchange) l45 c45 k45).binds (ps := ["_law_m"]) fun _ _ _ _ _ _ us hl => match us, hl with | [_], _ => rfl,
    f_law := f_law, d_law := _, F_law := fun_mk (st := st_law) l46 c46 k46, b_law := (fun_mk (st := st_law) l46 c46 k46).binds (ps := ["_law_script"]) fun _ _ _ _ _ _ us hl => match us, hl with | [_], _ => rfl,
    g_is_number := PySem.W.mg_of X G a0,
    g_common := PySem.W.mg_of X G a1,
    g_pair_of := PySem.W.mg_of X G a3,
    g_lowest := PySem.W.mg_of X G a4,
    g_product := PySem.W.mg_of X G a6,
    g_sum_of_two := PySem.W.mg_of X G a5,
    g_summed := PySem.W.mg_of X G a8,
    g_halves_of := PySem.W.mg_of X G a9,
    g_is_fraction := PySem.W.mg_of X G a2,
    g_d_of := PySem.W.mg_of X G a10,
    g_is_curve := PySem.W.mg_of X G a11,
    g_quotient := PySem.W.mg_of X G a7,
    g_need_curve := PySem.W.mg_of X G a12,
    g_own_invariants := PySem.W.mg_of X G a13,
    g_own_is_whole := PySem.W.mg_of X G a15,
    g_is_pair := PySem.W.mg_of X G a18,
    g_off_by := PySem.W.mg_of X G a17,
    g_is_change := PySem.W.mg_of X G a21,
    g_by_power := PySem.W.mg_of X G a23,
    g_need_change := PySem.W.mg_of X G a22,
    g_own_led := PySem.W.mg_of X G a24,
    g_own_joined := PySem.W.mg_of X G a26,
    g_own_undone := PySem.W.mg_of X G a28,
    g_lies_on := PySem.W.mg_of X G a19,
    g_own_led_point := PySem.W.mg_of X G a30,
    g_Ldraw := PySem.W.mg_of X G a33,
    g_Ltwo := PySem.W.mg_of X G a36,
    g_Llow := PySem.W.mg_of X G a35,
    g_Lby := PySem.W.mg_of X G a38,
    g_Lplus := PySem.W.mg_of X G a37,
    g_Lall := PySem.W.mg_of X G a40,
    g_Lb := PySem.W.mg_of X G a41,
    g_Lsome := PySem.W.mg_of X G a43,
    g_Lof := PySem.W.mg_of X G a34,
    g_Lover := PySem.W.mg_of X G a39,
    g_Ld := PySem.W.mg_of X G a42,
    g_Lbegun := PySem.W.mg_of X G a32,
    g_Lthrough := PySem.W.mg_of X G a44,
    g_Lchange := PySem.W.mg_of X G a45,
    g_undone := PySem.W.mg_of X G a29,
    g_led_point := PySem.W.mg_of X G a31,
    g_joined := PySem.W.mg_of X G a27,
    g_led := PySem.W.mg_of X G a25,
    g_invariants := PySem.W.mg_of X G a14,
    g_through := PySem.W.mg_of X G a20,
    g_is_whole := PySem.W.mg_of X G a16,
    g_law := PySem.W.mg_of X G a46,
    n_int := PySem.W.mg_none_of X G n0,
    n_isinstance := PySem.W.mg_none_of X G n1,
    n_bool := PySem.W.mg_none_of X G n2,
    n_abs := PySem.W.mg_none_of X G n3,
    n_tuple := PySem.W.mg_none_of X G n4,
    n_len := PySem.W.mg_none_of X G n5,
    n_all := PySem.W.mg_none_of X G n6,
    n_range := PySem.W.mg_none_of X G n7,
    n_zip := PySem.W.mg_none_of X G n8,
    n_enumerate := PySem.W.mg_none_of X G n9,
    n_max := PySem.W.mg_none_of X G n10,
    n_min := PySem.W.mg_none_of X G n11,
    n_list := PySem.W.mg_none_of X G n12,
    n_repr := PySem.W.mg_none_of X G n13 }
theorem all_mk {l : PySem.W.OpenLaw} {w : World} {K : PySem.W.Frag} {h : Heap} {mg : Str → Option Value} {fa : Addr} (X : K.In h) (G : h.Ns mainGlobals mg) (hfa : mg "law" = some (.ref fa))
    {f_is_number f_common f_is_fraction f_pair_of f_lowest f_sum_of_two f_product f_quotient f_summed f_halves_of f_d_of f_is_curve f_need_curve f_own_invariants f_invariants f_own_is_whole f_is_whole f_off_by f_is_pair f_lies_on f_through f_is_change f_need_change f_by_power f_own_led f_led f_own_joined f_joined f_own_undone f_undone f_own_led_point f_led_point f_Lbegun f_Ldraw f_Lof f_Llow f_Ltwo f_Lplus f_Lby f_Lover f_Lall f_Lb f_Ld f_Lsome f_Lthrough f_Lchange f_law : Addr}
    {od0 an0 : Option Addr} {sl0 : Array (Option Value)} {oc0 kV0 dc0 pm0 cd0 ct0 : Value}
    (a0 : PySem.W.nsIn K mainGlobals "is_number" = some (some (.ref f_is_number))) (l0 : K.lookup f_is_number = some ⟨oc0, od0, .func (PySem.W.fnOf "is_number" "is_number" (defArgs st_is_number) (defBody st_is_number) (defScope st_is_number) .none kV0 dc0 pm0 an0 cd0 ct0), sl0⟩) (c0 : PySem.W.codeIn K cd0 "is_number" = true) (k0 : PySem.W.keepIn K (.ref f_is_number) = true)
    {od1 an1 : Option Addr} {sl1 : Array (Option Value)} {oc1 kV1 dc1 pm1 cd1 ct1 : Value}
    (a1 : PySem.W.nsIn K mainGlobals "common" = some (some (.ref f_common))) (l1 : K.lookup f_common = some ⟨oc1, od1, .func (PySem.W.fnOf "common" "common" (defArgs st_common) (defBody st_common) (defScope st_common) .none kV1 dc1 pm1 an1 cd1 ct1), sl1⟩) (c1 : PySem.W.codeIn K cd1 "common" = true) (k1 : PySem.W.keepIn K (.ref f_common) = true)
    {od2 an2 : Option Addr} {sl2 : Array (Option Value)} {oc2 kV2 dc2 pm2 cd2 ct2 : Value}
    (a2 : PySem.W.nsIn K mainGlobals "is_fraction" = some (some (.ref f_is_fraction))) (l2 : K.lookup f_is_fraction = some ⟨oc2, od2, .func (PySem.W.fnOf "is_fraction" "is_fraction" (defArgs st_is_fraction) (defBody st_is_fraction) (defScope st_is_fraction) .none kV2 dc2 pm2 an2 cd2 ct2), sl2⟩) (c2 : PySem.W.codeIn K cd2 "is_fraction" = true) (k2 : PySem.W.keepIn K (.ref f_is_fraction) = true)
    {od3 an3 : Option Addr} {sl3 : Array (Option Value)} {oc3 kV3 dc3 pm3 cd3 ct3 : Value}
    (a3 : PySem.W.nsIn K mainGlobals "pair_of" = some (some (.ref f_pair_of))) (l3 : K.lookup f_pair_of = some ⟨oc3, od3, .func (PySem.W.fnOf "pair_of" "pair_of" (defArgs st_pair_of) (defBody st_pair_of) (defScope st_pair_of) .none kV3 dc3 pm3 an3 cd3 ct3), sl3⟩) (c3 : PySem.W.codeIn K cd3 "pair_of" = true) (k3 : PySem.W.keepIn K (.ref f_pair_of) = true)
    {od4 an4 : Option Addr} {sl4 : Array (Option Value)} {oc4 kV4 dc4 pm4 cd4 ct4 : Value}
    (a4 : PySem.W.nsIn K mainGlobals "lowest" = some (some (.ref f_lowest))) (l4 : K.lookup f_lowest = some ⟨oc4, od4, .func (PySem.W.fnOf "lowest" "lowest" (defArgs st_lowest) (defBody st_lowest) (defScope st_lowest) .none kV4 dc4 pm4 an4 cd4 ct4), sl4⟩) (c4 : PySem.W.codeIn K cd4 "lowest" = true) (k4 : PySem.W.keepIn K (.ref f_lowest) = true)
    {od5 an5 : Option Addr} {sl5 : Array (Option Value)} {oc5 kV5 dc5 pm5 cd5 ct5 : Value}
    (a5 : PySem.W.nsIn K mainGlobals "sum_of_two" = some (some (.ref f_sum_of_two))) (l5 : K.lookup f_sum_of_two = some ⟨oc5, od5, .func (PySem.W.fnOf "sum_of_two" "sum_of_two" (defArgs st_sum_of_two) (defBody st_sum_of_two) (defScope st_sum_of_two) .none kV5 dc5 pm5 an5 cd5 ct5), sl5⟩) (c5 : PySem.W.codeIn K cd5 "sum_of_two" = true) (k5 : PySem.W.keepIn K (.ref f_sum_of_two) = true)
    {od6 an6 : Option Addr} {sl6 : Array (Option Value)} {oc6 kV6 dc6 pm6 cd6 ct6 : Value}
    (a6 : PySem.W.nsIn K mainGlobals "product" = some (some (.ref f_product))) (l6 : K.lookup f_product = some ⟨oc6, od6, .func (PySem.W.fnOf "product" "product" (defArgs st_product) (defBody st_product) (defScope st_product) .none kV6 dc6 pm6 an6 cd6 ct6), sl6⟩) (c6 : PySem.W.codeIn K cd6 "product" = true) (k6 : PySem.W.keepIn K (.ref f_product) = true)
    {od7 an7 : Option Addr} {sl7 : Array (Option Value)} {oc7 kV7 dc7 pm7 cd7 ct7 : Value}
    (a7 : PySem.W.nsIn K mainGlobals "quotient" = some (some (.ref f_quotient))) (l7 : K.lookup f_quotient = some ⟨oc7, od7, .func (PySem.W.fnOf "quotient" "quotient" (defArgs st_quotient) (defBody st_quotient) (defScope st_quotient) .none kV7 dc7 pm7 an7 cd7 ct7), sl7⟩) (c7 : PySem.W.codeIn K cd7 "quotient" = true) (k7 : PySem.W.keepIn K (.ref f_quotient) = true)
    {od8 an8 : Option Addr} {sl8 : Array (Option Value)} {oc8 kV8 dc8 pm8 cd8 ct8 : Value}
    (a8 : PySem.W.nsIn K mainGlobals "summed" = some (some (.ref f_summed))) (l8 : K.lookup f_summed = some ⟨oc8, od8, .func (PySem.W.fnOf "summed" "summed" (defArgs st_summed) (defBody st_summed) (defScope st_summed) .none kV8 dc8 pm8 an8 cd8 ct8), sl8⟩) (c8 : PySem.W.codeIn K cd8 "summed" = true) (k8 : PySem.W.keepIn K (.ref f_summed) = true)
    {od9 an9 : Option Addr} {sl9 : Array (Option Value)} {oc9 kV9 dc9 pm9 cd9 ct9 : Value}
    (a9 : PySem.W.nsIn K mainGlobals "halves_of" = some (some (.ref f_halves_of))) (l9 : K.lookup f_halves_of = some ⟨oc9, od9, .func (PySem.W.fnOf "halves_of" "halves_of" (defArgs st_halves_of) (defBody st_halves_of) (defScope st_halves_of) .none kV9 dc9 pm9 an9 cd9 ct9), sl9⟩) (c9 : PySem.W.codeIn K cd9 "halves_of" = true) (k9 : PySem.W.keepIn K (.ref f_halves_of) = true)
    {od10 an10 : Option Addr} {sl10 : Array (Option Value)} {oc10 kV10 dc10 pm10 cd10 ct10 : Value}
    (a10 : PySem.W.nsIn K mainGlobals "d_of" = some (some (.ref f_d_of))) (l10 : K.lookup f_d_of = some ⟨oc10, od10, .func (PySem.W.fnOf "d_of" "d_of" (defArgs st_d_of) (defBody st_d_of) (defScope st_d_of) .none kV10 dc10 pm10 an10 cd10 ct10), sl10⟩) (c10 : PySem.W.codeIn K cd10 "d_of" = true) (k10 : PySem.W.keepIn K (.ref f_d_of) = true)
    {od11 an11 : Option Addr} {sl11 : Array (Option Value)} {oc11 kV11 dc11 pm11 cd11 ct11 : Value}
    (a11 : PySem.W.nsIn K mainGlobals "is_curve" = some (some (.ref f_is_curve))) (l11 : K.lookup f_is_curve = some ⟨oc11, od11, .func (PySem.W.fnOf "is_curve" "is_curve" (defArgs st_is_curve) (defBody st_is_curve) (defScope st_is_curve) .none kV11 dc11 pm11 an11 cd11 ct11), sl11⟩) (c11 : PySem.W.codeIn K cd11 "is_curve" = true) (k11 : PySem.W.keepIn K (.ref f_is_curve) = true)
    {od12 an12 : Option Addr} {sl12 : Array (Option Value)} {oc12 kV12 dc12 pm12 cd12 ct12 : Value}
    (a12 : PySem.W.nsIn K mainGlobals "need_curve" = some (some (.ref f_need_curve))) (l12 : K.lookup f_need_curve = some ⟨oc12, od12, .func (PySem.W.fnOf "need_curve" "need_curve" (defArgs st_need_curve) (defBody st_need_curve) (defScope st_need_curve) .none kV12 dc12 pm12 an12 cd12 ct12), sl12⟩) (c12 : PySem.W.codeIn K cd12 "need_curve" = true) (k12 : PySem.W.keepIn K (.ref f_need_curve) = true)
    {od13 an13 : Option Addr} {sl13 : Array (Option Value)} {oc13 kV13 dc13 pm13 cd13 ct13 : Value}
    (a13 : PySem.W.nsIn K mainGlobals "own_invariants" = some (some (.ref f_own_invariants))) (l13 : K.lookup f_own_invariants = some ⟨oc13, od13, .func (PySem.W.fnOf "own_invariants" "own_invariants" (defArgs st_own_invariants) (defBody st_own_invariants) (defScope st_own_invariants) .none kV13 dc13 pm13 an13 cd13 ct13), sl13⟩) (c13 : PySem.W.codeIn K cd13 "own_invariants" = true) (k13 : PySem.W.keepIn K (.ref f_own_invariants) = true)
    {od14 an14 : Option Addr} {sl14 : Array (Option Value)} {oc14 kV14 dc14 pm14 cd14 ct14 : Value}
    (a14 : PySem.W.nsIn K mainGlobals "invariants" = some (some (.ref f_invariants))) (l14 : K.lookup f_invariants = some ⟨oc14, od14, .func (PySem.W.fnOf "invariants" "invariants" (defArgs st_invariants) (defBody st_invariants) (defScope st_invariants) .none kV14 dc14 pm14 an14 cd14 ct14), sl14⟩) (c14 : PySem.W.codeIn K cd14 "invariants" = true) (k14 : PySem.W.keepIn K (.ref f_invariants) = true)
    {od15 an15 : Option Addr} {sl15 : Array (Option Value)} {oc15 kV15 dc15 pm15 cd15 ct15 : Value}
    (a15 : PySem.W.nsIn K mainGlobals "own_is_whole" = some (some (.ref f_own_is_whole))) (l15 : K.lookup f_own_is_whole = some ⟨oc15, od15, .func (PySem.W.fnOf "own_is_whole" "own_is_whole" (defArgs st_own_is_whole) (defBody st_own_is_whole) (defScope st_own_is_whole) .none kV15 dc15 pm15 an15 cd15 ct15), sl15⟩) (c15 : PySem.W.codeIn K cd15 "own_is_whole" = true) (k15 : PySem.W.keepIn K (.ref f_own_is_whole) = true)
    {od16 an16 : Option Addr} {sl16 : Array (Option Value)} {oc16 kV16 dc16 pm16 cd16 ct16 : Value}
    (a16 : PySem.W.nsIn K mainGlobals "is_whole" = some (some (.ref f_is_whole))) (l16 : K.lookup f_is_whole = some ⟨oc16, od16, .func (PySem.W.fnOf "is_whole" "is_whole" (defArgs st_is_whole) (defBody st_is_whole) (defScope st_is_whole) .none kV16 dc16 pm16 an16 cd16 ct16), sl16⟩) (c16 : PySem.W.codeIn K cd16 "is_whole" = true) (k16 : PySem.W.keepIn K (.ref f_is_whole) = true)
    {od17 an17 : Option Addr} {sl17 : Array (Option Value)} {oc17 kV17 dc17 pm17 cd17 ct17 : Value}
    (a17 : PySem.W.nsIn K mainGlobals "off_by" = some (some (.ref f_off_by))) (l17 : K.lookup f_off_by = some ⟨oc17, od17, .func (PySem.W.fnOf "off_by" "off_by" (defArgs st_off_by) (defBody st_off_by) (defScope st_off_by) .none kV17 dc17 pm17 an17 cd17 ct17), sl17⟩) (c17 : PySem.W.codeIn K cd17 "off_by" = true) (k17 : PySem.W.keepIn K (.ref f_off_by) = true)
    {od18 an18 : Option Addr} {sl18 : Array (Option Value)} {oc18 kV18 dc18 pm18 cd18 ct18 : Value}
    (a18 : PySem.W.nsIn K mainGlobals "is_pair" = some (some (.ref f_is_pair))) (l18 : K.lookup f_is_pair = some ⟨oc18, od18, .func (PySem.W.fnOf "is_pair" "is_pair" (defArgs st_is_pair) (defBody st_is_pair) (defScope st_is_pair) .none kV18 dc18 pm18 an18 cd18 ct18), sl18⟩) (c18 : PySem.W.codeIn K cd18 "is_pair" = true) (k18 : PySem.W.keepIn K (.ref f_is_pair) = true)
    {od19 an19 : Option Addr} {sl19 : Array (Option Value)} {oc19 kV19 dc19 pm19 cd19 ct19 : Value}
    (a19 : PySem.W.nsIn K mainGlobals "lies_on" = some (some (.ref f_lies_on))) (l19 : K.lookup f_lies_on = some ⟨oc19, od19, .func (PySem.W.fnOf "lies_on" "lies_on" (defArgs st_lies_on) (defBody st_lies_on) (defScope st_lies_on) .none kV19 dc19 pm19 an19 cd19 ct19), sl19⟩) (c19 : PySem.W.codeIn K cd19 "lies_on" = true) (k19 : PySem.W.keepIn K (.ref f_lies_on) = true)
    {od20 an20 : Option Addr} {sl20 : Array (Option Value)} {oc20 kV20 dc20 pm20 cd20 ct20 : Value}
    (a20 : PySem.W.nsIn K mainGlobals "through" = some (some (.ref f_through))) (l20 : K.lookup f_through = some ⟨oc20, od20, .func (PySem.W.fnOf "through" "through" (defArgs st_through) (defBody st_through) (defScope st_through) .none kV20 dc20 pm20 an20 cd20 ct20), sl20⟩) (c20 : PySem.W.codeIn K cd20 "through" = true) (k20 : PySem.W.keepIn K (.ref f_through) = true)
    {od21 an21 : Option Addr} {sl21 : Array (Option Value)} {oc21 kV21 dc21 pm21 cd21 ct21 : Value}
    (a21 : PySem.W.nsIn K mainGlobals "is_change" = some (some (.ref f_is_change))) (l21 : K.lookup f_is_change = some ⟨oc21, od21, .func (PySem.W.fnOf "is_change" "is_change" (defArgs st_is_change) (defBody st_is_change) (defScope st_is_change) .none kV21 dc21 pm21 an21 cd21 ct21), sl21⟩) (c21 : PySem.W.codeIn K cd21 "is_change" = true) (k21 : PySem.W.keepIn K (.ref f_is_change) = true)
    {od22 an22 : Option Addr} {sl22 : Array (Option Value)} {oc22 kV22 dc22 pm22 cd22 ct22 : Value}
    (a22 : PySem.W.nsIn K mainGlobals "need_change" = some (some (.ref f_need_change))) (l22 : K.lookup f_need_change = some ⟨oc22, od22, .func (PySem.W.fnOf "need_change" "need_change" (defArgs st_need_change) (defBody st_need_change) (defScope st_need_change) .none kV22 dc22 pm22 an22 cd22 ct22), sl22⟩) (c22 : PySem.W.codeIn K cd22 "need_change" = true) (k22 : PySem.W.keepIn K (.ref f_need_change) = true)
    {od23 an23 : Option Addr} {sl23 : Array (Option Value)} {oc23 kV23 dc23 pm23 cd23 ct23 : Value}
    (a23 : PySem.W.nsIn K mainGlobals "by_power" = some (some (.ref f_by_power))) (l23 : K.lookup f_by_power = some ⟨oc23, od23, .func (PySem.W.fnOf "by_power" "by_power" (defArgs st_by_power) (defBody st_by_power) (defScope st_by_power) .none kV23 dc23 pm23 an23 cd23 ct23), sl23⟩) (c23 : PySem.W.codeIn K cd23 "by_power" = true) (k23 : PySem.W.keepIn K (.ref f_by_power) = true)
    {od24 an24 : Option Addr} {sl24 : Array (Option Value)} {oc24 kV24 dc24 pm24 cd24 ct24 : Value}
    (a24 : PySem.W.nsIn K mainGlobals "own_led" = some (some (.ref f_own_led))) (l24 : K.lookup f_own_led = some ⟨oc24, od24, .func (PySem.W.fnOf "own_led" "own_led" (defArgs st_own_led) (defBody st_own_led) (defScope st_own_led) .none kV24 dc24 pm24 an24 cd24 ct24), sl24⟩) (c24 : PySem.W.codeIn K cd24 "own_led" = true) (k24 : PySem.W.keepIn K (.ref f_own_led) = true)
    {od25 an25 : Option Addr} {sl25 : Array (Option Value)} {oc25 kV25 dc25 pm25 cd25 ct25 : Value}
    (a25 : PySem.W.nsIn K mainGlobals "led" = some (some (.ref f_led))) (l25 : K.lookup f_led = some ⟨oc25, od25, .func (PySem.W.fnOf "led" "led" (defArgs st_led) (defBody st_led) (defScope st_led) .none kV25 dc25 pm25 an25 cd25 ct25), sl25⟩) (c25 : PySem.W.codeIn K cd25 "led" = true) (k25 : PySem.W.keepIn K (.ref f_led) = true)
    {od26 an26 : Option Addr} {sl26 : Array (Option Value)} {oc26 kV26 dc26 pm26 cd26 ct26 : Value}
    (a26 : PySem.W.nsIn K mainGlobals "own_joined" = some (some (.ref f_own_joined))) (l26 : K.lookup f_own_joined = some ⟨oc26, od26, .func (PySem.W.fnOf "own_joined" "own_joined" (defArgs st_own_joined) (defBody st_own_joined) (defScope st_own_joined) .none kV26 dc26 pm26 an26 cd26 ct26), sl26⟩) (c26 : PySem.W.codeIn K cd26 "own_joined" = true) (k26 : PySem.W.keepIn K (.ref f_own_joined) = true)
    {od27 an27 : Option Addr} {sl27 : Array (Option Value)} {oc27 kV27 dc27 pm27 cd27 ct27 : Value}
    (a27 : PySem.W.nsIn K mainGlobals "joined" = some (some (.ref f_joined))) (l27 : K.lookup f_joined = some ⟨oc27, od27, .func (PySem.W.fnOf "joined" "joined" (defArgs st_joined) (defBody st_joined) (defScope st_joined) .none kV27 dc27 pm27 an27 cd27 ct27), sl27⟩) (c27 : PySem.W.codeIn K cd27 "joined" = true) (k27 : PySem.W.keepIn K (.ref f_joined) = true)
    {od28 an28 : Option Addr} {sl28 : Array (Option Value)} {oc28 kV28 dc28 pm28 cd28 ct28 : Value}
    (a28 : PySem.W.nsIn K mainGlobals "own_undone" = some (some (.ref f_own_undone))) (l28 : K.lookup f_own_undone = some ⟨oc28, od28, .func (PySem.W.fnOf "own_undone" "own_undone" (defArgs st_own_undone) (defBody st_own_undone) (defScope st_own_undone) .none kV28 dc28 pm28 an28 cd28 ct28), sl28⟩) (c28 : PySem.W.codeIn K cd28 "own_undone" = true) (k28 : PySem.W.keepIn K (.ref f_own_undone) = true)
    {od29 an29 : Option Addr} {sl29 : Array (Option Value)} {oc29 kV29 dc29 pm29 cd29 ct29 : Value}
    (a29 : PySem.W.nsIn K mainGlobals "undone" = some (some (.ref f_undone))) (l29 : K.lookup f_undone = some ⟨oc29, od29, .func (PySem.W.fnOf "undone" "undone" (defArgs st_undone) (defBody st_undone) (defScope st_undone) .none kV29 dc29 pm29 an29 cd29 ct29), sl29⟩) (c29 : PySem.W.codeIn K cd29 "undone" = true) (k29 : PySem.W.keepIn K (.ref f_undone) = true)
    {od30 an30 : Option Addr} {sl30 : Array (Option Value)} {oc30 kV30 dc30 pm30 cd30 ct30 : Value}
    (a30 : PySem.W.nsIn K mainGlobals "own_led_point" = some (some (.ref f_own_led_point))) (l30 : K.lookup f_own_led_point = some ⟨oc30, od30, .func (PySem.W.fnOf "own_led_point" "own_led_point" (defArgs st_own_led_point) (defBody st_own_led_point) (defScope st_own_led_point) .none kV30 dc30 pm30 an30 cd30 ct30), sl30⟩) (c30 : PySem.W.codeIn K cd30 "own_led_point" = true) (k30 : PySem.W.keepIn K (.ref f_own_led_point) = true)
    {od31 an31 : Option Addr} {sl31 : Array (Option Value)} {oc31 kV31 dc31 pm31 cd31 ct31 : Value}
    (a31 : PySem.W.nsIn K mainGlobals "led_point" = some (some (.ref f_led_point))) (l31 : K.lookup f_led_point = some ⟨oc31, od31, .func (PySem.W.fnOf "led_point" "led_point" (defArgs st_led_point) (defBody st_led_point) (defScope st_led_point) .none kV31 dc31 pm31 an31 cd31 ct31), sl31⟩) (c31 : PySem.W.codeIn K cd31 "led_point" = true) (k31 : PySem.W.keepIn K (.ref f_led_point) = true)
    {od32 an32 : Option Addr} {sl32 : Array (Option Value)} {oc32 kV32 dc32 pm32 cd32 ct32 : Value}
    (a32 : PySem.W.nsIn K mainGlobals "_law_begun" = some (some (.ref f_Lbegun))) (l32 : K.lookup f_Lbegun = some ⟨oc32, od32, .func (PySem.W.fnOf "_law_begun" "_law_begun" (defArgs st_Lbegun) (defBody st_Lbegun) (defScope st_Lbegun) .none kV32 dc32 pm32 an32 cd32 ct32), sl32⟩) (c32 : PySem.W.codeIn K cd32 "_law_begun" = true) (k32 : PySem.W.keepIn K (.ref f_Lbegun) = true)
    {od33 an33 : Option Addr} {sl33 : Array (Option Value)} {oc33 kV33 dc33 pm33 cd33 ct33 : Value}
    (a33 : PySem.W.nsIn K mainGlobals "_law_draw" = some (some (.ref f_Ldraw))) (l33 : K.lookup f_Ldraw = some ⟨oc33, od33, .func (PySem.W.fnOf "_law_draw" "_law_draw" (defArgs st_Ldraw) (defBody st_Ldraw) (defScope st_Ldraw) .none kV33 dc33 pm33 an33 cd33 ct33), sl33⟩) (c33 : PySem.W.codeIn K cd33 "_law_draw" = true) (k33 : PySem.W.keepIn K (.ref f_Ldraw) = true)
    {od34 an34 : Option Addr} {sl34 : Array (Option Value)} {oc34 kV34 dc34 pm34 cd34 ct34 : Value}
    (a34 : PySem.W.nsIn K mainGlobals "_law_of" = some (some (.ref f_Lof))) (l34 : K.lookup f_Lof = some ⟨oc34, od34, .func (PySem.W.fnOf "_law_of" "_law_of" (defArgs st_Lof) (defBody st_Lof) (defScope st_Lof) .none kV34 dc34 pm34 an34 cd34 ct34), sl34⟩) (c34 : PySem.W.codeIn K cd34 "_law_of" = true) (k34 : PySem.W.keepIn K (.ref f_Lof) = true)
    {od35 an35 : Option Addr} {sl35 : Array (Option Value)} {oc35 kV35 dc35 pm35 cd35 ct35 : Value}
    (a35 : PySem.W.nsIn K mainGlobals "_law_low" = some (some (.ref f_Llow))) (l35 : K.lookup f_Llow = some ⟨oc35, od35, .func (PySem.W.fnOf "_law_low" "_law_low" (defArgs st_Llow) (defBody st_Llow) (defScope st_Llow) .none kV35 dc35 pm35 an35 cd35 ct35), sl35⟩) (c35 : PySem.W.codeIn K cd35 "_law_low" = true) (k35 : PySem.W.keepIn K (.ref f_Llow) = true)
    {od36 an36 : Option Addr} {sl36 : Array (Option Value)} {oc36 kV36 dc36 pm36 cd36 ct36 : Value}
    (a36 : PySem.W.nsIn K mainGlobals "_law_two" = some (some (.ref f_Ltwo))) (l36 : K.lookup f_Ltwo = some ⟨oc36, od36, .func (PySem.W.fnOf "_law_two" "_law_two" (defArgs st_Ltwo) (defBody st_Ltwo) (defScope st_Ltwo) .none kV36 dc36 pm36 an36 cd36 ct36), sl36⟩) (c36 : PySem.W.codeIn K cd36 "_law_two" = true) (k36 : PySem.W.keepIn K (.ref f_Ltwo) = true)
    {od37 an37 : Option Addr} {sl37 : Array (Option Value)} {oc37 kV37 dc37 pm37 cd37 ct37 : Value}
    (a37 : PySem.W.nsIn K mainGlobals "_law_plus" = some (some (.ref f_Lplus))) (l37 : K.lookup f_Lplus = some ⟨oc37, od37, .func (PySem.W.fnOf "_law_plus" "_law_plus" (defArgs st_Lplus) (defBody st_Lplus) (defScope st_Lplus) .none kV37 dc37 pm37 an37 cd37 ct37), sl37⟩) (c37 : PySem.W.codeIn K cd37 "_law_plus" = true) (k37 : PySem.W.keepIn K (.ref f_Lplus) = true)
    {od38 an38 : Option Addr} {sl38 : Array (Option Value)} {oc38 kV38 dc38 pm38 cd38 ct38 : Value}
    (a38 : PySem.W.nsIn K mainGlobals "_law_by" = some (some (.ref f_Lby))) (l38 : K.lookup f_Lby = some ⟨oc38, od38, .func (PySem.W.fnOf "_law_by" "_law_by" (defArgs st_Lby) (defBody st_Lby) (defScope st_Lby) .none kV38 dc38 pm38 an38 cd38 ct38), sl38⟩) (c38 : PySem.W.codeIn K cd38 "_law_by" = true) (k38 : PySem.W.keepIn K (.ref f_Lby) = true)
    {od39 an39 : Option Addr} {sl39 : Array (Option Value)} {oc39 kV39 dc39 pm39 cd39 ct39 : Value}
    (a39 : PySem.W.nsIn K mainGlobals "_law_over" = some (some (.ref f_Lover))) (l39 : K.lookup f_Lover = some ⟨oc39, od39, .func (PySem.W.fnOf "_law_over" "_law_over" (defArgs st_Lover) (defBody st_Lover) (defScope st_Lover) .none kV39 dc39 pm39 an39 cd39 ct39), sl39⟩) (c39 : PySem.W.codeIn K cd39 "_law_over" = true) (k39 : PySem.W.keepIn K (.ref f_Lover) = true)
    {od40 an40 : Option Addr} {sl40 : Array (Option Value)} {oc40 kV40 dc40 pm40 cd40 ct40 : Value}
    (a40 : PySem.W.nsIn K mainGlobals "_law_all" = some (some (.ref f_Lall))) (l40 : K.lookup f_Lall = some ⟨oc40, od40, .func (PySem.W.fnOf "_law_all" "_law_all" (defArgs st_Lall) (defBody st_Lall) (defScope st_Lall) .none kV40 dc40 pm40 an40 cd40 ct40), sl40⟩) (c40 : PySem.W.codeIn K cd40 "_law_all" = true) (k40 : PySem.W.keepIn K (.ref f_Lall) = true)
    {od41 an41 : Option Addr} {sl41 : Array (Option Value)} {oc41 kV41 dc41 pm41 cd41 ct41 : Value}
    (a41 : PySem.W.nsIn K mainGlobals "_law_b" = some (some (.ref f_Lb))) (l41 : K.lookup f_Lb = some ⟨oc41, od41, .func (PySem.W.fnOf "_law_b" "_law_b" (defArgs st_Lb) (defBody st_Lb) (defScope st_Lb) .none kV41 dc41 pm41 an41 cd41 ct41), sl41⟩) (c41 : PySem.W.codeIn K cd41 "_law_b" = true) (k41 : PySem.W.keepIn K (.ref f_Lb) = true)
    {od42 an42 : Option Addr} {sl42 : Array (Option Value)} {oc42 kV42 dc42 pm42 cd42 ct42 : Value}
    (a42 : PySem.W.nsIn K mainGlobals "_law_d" = some (some (.ref f_Ld))) (l42 : K.lookup f_Ld = some ⟨oc42, od42, .func (PySem.W.fnOf "_law_d" "_law_d" (defArgs st_Ld) (defBody st_Ld) (defScope st_Ld) .none kV42 dc42 pm42 an42 cd42 ct42), sl42⟩) (c42 : PySem.W.codeIn K cd42 "_law_d" = true) (k42 : PySem.W.keepIn K (.ref f_Ld) = true)
    {od43 an43 : Option Addr} {sl43 : Array (Option Value)} {oc43 kV43 dc43 pm43 cd43 ct43 : Value}
    (a43 : PySem.W.nsIn K mainGlobals "_law_some" = some (some (.ref f_Lsome))) (l43 : K.lookup f_Lsome = some ⟨oc43, od43, .func (PySem.W.fnOf "_law_some" "_law_some" (defArgs st_Lsome) (defBody st_Lsome) (defScope st_Lsome) .none kV43 dc43 pm43 an43 cd43 ct43), sl43⟩) (c43 : PySem.W.codeIn K cd43 "_law_some" = true) (k43 : PySem.W.keepIn K (.ref f_Lsome) = true)
    {od44 an44 : Option Addr} {sl44 : Array (Option Value)} {oc44 kV44 dc44 pm44 cd44 ct44 : Value}
    (a44 : PySem.W.nsIn K mainGlobals "_law_through" = some (some (.ref f_Lthrough))) (l44 : K.lookup f_Lthrough = some ⟨oc44, od44, .func (PySem.W.fnOf "_law_through" "_law_through" (defArgs st_Lthrough) (defBody st_Lthrough) (defScope st_Lthrough) .none kV44 dc44 pm44 an44 cd44 ct44), sl44⟩) (c44 : PySem.W.codeIn K cd44 "_law_through" = true) (k44 : PySem.W.keepIn K (.ref f_Lthrough) = true)
    {od45 an45 : Option Addr} {sl45 : Array (Option Value)} {oc45 kV45 dc45 pm45 cd45 ct45 : Value}
    (a45 : PySem.W.nsIn K mainGlobals "_law_change" = some (some (.ref f_Lchange))) (l45 : K.lookup f_Lchange = some ⟨oc45, od45, .func (PySem.W.fnOf "_law_change" "_law_change" (defArgs st_Lchange) (defBody st_Lchange) (defScope st_Lchange) .none kV45 dc45 pm45 an45 cd45 ct45), sl45⟩) (c45 : PySem.W.codeIn K cd45 "_law_change" = true) (k45 : PySem.W.keepIn K (.ref f_Lchange) = true)
    {od46 an46 : Option Addr} {sl46 : Array (Option Value)} {oc46 kV46 dc46 pm46 cd46 ct46 : Value}
    (a46 : PySem.W.nsIn K mainGlobals "law" = some (some (.ref f_law))) (l46 : K.lookup f_law = some ⟨oc46, od46, .func (PySem.W.fnOf "law" "law" (defArgs st_law) (defBody st_law) (defScope st_law) .none kV46 dc46 pm46 an46 cd46 ct46), sl46⟩) (c46 : PySem.W.codeIn K cd46 "law" = true) (k46 : PySem.W.keepIn K (.ref f_law) = true)
    (n0 : PySem.W.nsIn K mainGlobals "int" = some none)
    (n1 : PySem.W.nsIn K mainGlobals "isinstance" = some none)
    (n2 : PySem.W.nsIn K mainGlobals "bool" = some none)
    (n3 : PySem.W.nsIn K mainGlobals "abs" = some none)
    (n4 : PySem.W.nsIn K mainGlobals "tuple" = some none)
    (n5 : PySem.W.nsIn K mainGlobals "len" = some none)
    (n6 : PySem.W.nsIn K mainGlobals "all" = some none)
    (n7 : PySem.W.nsIn K mainGlobals "range" = some none)
    (n8 : PySem.W.nsIn K mainGlobals "zip" = some none)
    (n9 : PySem.W.nsIn K mainGlobals "enumerate" = some none)
    (n10 : PySem.W.nsIn K mainGlobals "max" = some none)
    (n11 : PySem.W.nsIn K mainGlobals "min" = some none)
    (n12 : PySem.W.nsIn K mainGlobals "list" = some none)
    (n13 : PySem.W.nsIn K mainGlobals "repr" = some none) :
    ∃ fd : FuncData, (∀ (s : Shared) (u : Value), BindsTo s fd ⟨[u], []⟩ [("_law_script", u)]) ∧ ∀ base : Heap, Fn ⟨l.prog, w, K, mg, base⟩ 10 fa fd ["_law_script"] (spM K 1 m_law) := by
  have e := hfa.symm.trans (PySem.W.mg_of X G a46)
  cases e
  exact ⟨_, fun s v => .of_eq rfl, fun base => ok_law (C := ⟨l.prog, w, K, mg, base⟩) (mkT X G a0 l0 c0 k0 a1 l1 c1 k1 a2 l2 c2 k2 a3 l3 c3 k3 a4 l4 c4 k4 a5 l5 c5 k5 a6 l6 c6 k6 a7 l7 c7 k7 a8 l8 c8 k8 a9 l9 c9 k9 a10 l10 c10 k10 a11 l11 c11 k11 a12 l12 c12 k12 a13 l13 c13 k13 a14 l14 c14 k14 a15 l15 c15 k15 a16 l16 c16 k16 a17 l17 c17 k17 a18 l18 c18 k18 a19 l19 c19 k19 a20 l20 c20 k20 a21 l21 c21 k21 a22 l22 c22 k22 a23 l23 c23 k23 a24 l24 c24 k24 a25 l25 c25 k25 a26 l26 c26 k26 a27 l27 c27 k27 a28 l28 c28 k28 a29 l29 c29 k29 a30 l30 c30 k30 a31 l31 c31 k31 a32 l32 c32 k32 a33 l33 c33 k33 a34 l34 c34 k34 a35 l35 c35 k35 a36 l36 c36 k36 a37 l37 c37 k37 a38 l38 c38 k38 a39 l39 c39 k39 a40 l40 c40 k40 a41 l41 c41 k41 a42 l42 c42 k42 a43 l43 c43 k43 a44 l44 c44 k44 a45 l45 c45 k45 a46 l46 c46 k46 n0 n1 n2 n3 n4 n5 n6 n7 n8 n9 n10 n11 n12 n13)⟩

theorem is_number_int (i : Int) (s : S) : m_is_number [.p (.int i)] s = .ok (.p (.bl true)) s := by
  simp [m_is_number, defM_if, B_is_number]
theorem is_number_tup (xs : List P) (s : S) : m_is_number [.p (.tup xs)] s = .ok (.p (.bl false)) s := by
  simp [m_is_number, defM_if, B_is_number]

theorem common_wh (s : S) : ∀ (n : Nat) (a b : Int), b.natAbs < n →
   ∃ c, whF (tB (op2 (eqD true) (vE 1) (cE (.int 0)))) (parF 0 1 [vE 1, (op2 (modD) (vE 0) (vE 1))]) [some (.p (.int a)), some (.p (.int b))] s = .ok (.nx [some (.p (.int c)), some (.p (.int 0))]) s ∧ c.natAbs = Int.gcd a b := by
  intro n
  induction n with
  | zero => intro a b h; omega
  | succ n ih =>
    intro a b h
    rw [whF_eq]
    by_cases hb : b = 0
    · subst hb
      exact ⟨a, by simp [bnd_ev], by simp⟩
    · obtain ⟨c, h1, h2⟩ := ih b (a.fmod b) (Nat.lt_of_lt_of_le (fmod_less a hb) (Nat.le_of_lt_succ h))
      refine ⟨c, ?_, by rw [h2, gcd_mod a b hb]⟩
      simp [bnd_ev, hb]
      exact h1
theorem common_ok (a b : Int) (s : S) : m_common [.p (.int a), .p (.int b)] s = .ok (.p (.int (Int.gcd a b))) s := by
  obtain ⟨c, h1, h2⟩ := common_wh s _ a b (Nat.lt_succ_self _)
  simp [m_common, defM_if, B_common, h1, h2]

theorem is_fraction_ok (q : Rat) (s : S) : m_is_fraction [.p (fq q)] s = .ok (.p (.bl true)) s := by
  unfold fq
  split
  · simp [m_is_fraction, defM_if, B_is_fraction, is_number_int]
  · rename_i h
    have h1 : (1 : Int) < q.den := by have := q.den_nz; omega
    have h2 : Int.gcd q.num q.den = 1 := q.reduced
    simp [m_is_fraction, defM_if, B_is_fraction, is_number_int, common_ok, h1, h2]

theorem pair_of_ok (q : Rat) (s : S) : m_pair_of [.p (fq q)] s = .ok (.p (.tup [.int q.num, .int q.den])) s := by
  unfold fq
  split
  · rename_i h
    simp [m_pair_of, defM_if, B_pair_of, h]
  · simp [m_pair_of, defM_if, B_pair_of]

theorem lowest_ok (t b : Int) (s : S) (h0 : b ≠ 0) (hb : szi b 8900) : m_lowest [.p (.int t), .p (.int b)] s = .ok (.p (fq (Rat.divInt t b))) s := by
  obtain ⟨hg, e1, e2⟩ := low_eq (t := t) (b := b) h0 rfl
  have hgb : szi (b.sign * (Int.gcd t b : Nat)) 8900 := by
    refine Nat.lt_of_le_of_lt ?_ hb
    conv => rhs; rw [e2, Int.natAbs_mul]
    exact Nat.le_mul_of_pos_left _ (by have := (Rat.divInt t b).den_nz; omega)
  generalize hq : Rat.divInt t b = q at *
  generalize hgg : b.sign * (Int.gcd t b : Nat) = g at *
  have hgs : (if 0 < b then ((Int.gcd t b : Nat) : Int) else -((Int.gcd t b : Nat) : Int)) = g := by
    rw [← hgg]
    split
    · rename_i h; rw [Int.sign_eq_one_of_pos h, Int.one_mul]
    · rename_i h; rw [Int.sign_eq_neg_one_of_neg (by omega), Int.neg_one_mul]
  have d1 : divOk t g := hgb.divOk (by decide) (by decide) hg
  have d2 : divOk b g := hgb.divOk (by decide) (by decide) hg
  have q1 : t.fdiv g = q.num := by rw [e1]; exact fdiv_exact hg
  have q2 : b.fdiv g = q.den := by rw [e2]; exact fdiv_exact hg
  have hd : ((q.den : Int) = 1) = (q.den = 1) := propext (by omega)
  unfold fq
  by_cases hp : 0 < b
  · rw [if_pos hp] at hgs
    by_cases h1 : q.den = 1
    · simp [m_lowest, defM_if, B_lowest, common_ok, hp, hgs, d1, d2, q1, q2, h1]
    · simp [m_lowest, defM_if, B_lowest, common_ok, hp, hgs, d1, d2, q1, q2, h1, hd]
  · rw [if_neg hp] at hgs
    by_cases h1 : q.den = 1
    · simp [m_lowest, defM_if, B_lowest, common_ok, hp, hgs, d1, d2, q1, q2, h1]
    · simp [m_lowest, defM_if, B_lowest, common_ok, hp, hgs, d1, d2, q1, q2, h1, hd]

theorem sum_of_two_ok (a b : Rat) (s : S) (h : hz a + hz b ≤ 8800) : m_sum_of_two [.p (fq a), .p (fq b)] s = .ok (.p (fq (a + b))) s := by
  have o1 : mulOk a.num b.den := mulOk_szi (hz_num a) (hz_den b) (by omega) (hz_pos a) (hz_pos b)
  have o2 : mulOk b.num a.den := mulOk_szi (hz_num b) (hz_den a) (by omega) (hz_pos b) (hz_pos a)
  have o3 : mulOk a.den b.den := mulOk_szi (hz_den a) (hz_den b) (by omega) (hz_pos a) (hz_pos b)
  have hd : (a.den : Int) * b.den ≠ 0 := Int.mul_ne_zero (by have := a.den_nz; omega) (by have := b.den_nz; omega)
  have e : a + b = Rat.divInt (a.num * b.den + b.num * a.den) ((a.den : Int) * b.den) := by
    rw [Rat.add_def', ← Rat.divInt_ofNat, Int.natCast_mul]
  rw [e]
  have hl := lowest_ok (a.num * b.den + b.num * a.den) ((a.den : Int) * b.den) s hd (((hz_den a).mul (hz_den b)).mono (by omega))
  simp [m_sum_of_two, defM_if, B_sum_of_two, pair_of_ok, o1, o2, o3, hl]

theorem product_ok (a b : Rat) (s : S) (h : hz a + hz b ≤ 8800) : m_product [.p (fq a), .p (fq b)] s = .ok (.p (fq (a * b))) s := by
  have o1 : mulOk a.num b.num := mulOk_szi (hz_num a) (hz_num b) (by omega) (hz_pos a) (hz_pos b)
  have o3 : mulOk a.den b.den := mulOk_szi (hz_den a) (hz_den b) (by omega) (hz_pos a) (hz_pos b)
  have hd : (a.den : Int) * b.den ≠ 0 := Int.mul_ne_zero (by have := a.den_nz; omega) (by have := b.den_nz; omega)
  have e : a * b = Rat.divInt (a.num * b.num) ((a.den : Int) * b.den) := by
    rw [Rat.mul_def', ← Rat.divInt_ofNat, Int.natCast_mul]
  rw [e]
  have hl := lowest_ok (a.num * b.num) ((a.den : Int) * b.den) s hd (((hz_den a).mul (hz_den b)).mono (by omega))
  simp [m_product, defM_if, B_product, pair_of_ok, o1, o3, hl]

theorem quotient_ok (a b : Rat) (s : S) (hb : b ≠ 0) (h : hz a + hz b ≤ 8800) : m_quotient [.p (fq a), .p (fq b)] s = .ok (.p (fq (a / b))) s := by
  have h0 : b.num ≠ 0 := fun h => hb (Rat.num_eq_zero.mp h)
  have h1 := lowest_ok b.den b.num s h0 ((hz_num b).mono (by omega))
  rw [← Rat.inv_def] at h1
  have h2 := product_ok a b⁻¹ s (by have := hz_inv b; omega)
  rw [← Rat.div_def] at h2
  simp [m_quotient, defM_if, B_quotient, pair_of_ok, h1, h2]

/-! ### curves -/
theorem summed_ok (rows : List (List Rat)) (v : Rat) (s : S) (hv : sumR 0 rows = v) (h : totZ rows ≤ 8700) : m_summed [.p (.lst (rows.map fun r => .tup (r.map fq)))] s = .ok (.p (fq v)) s :=
  sumB_ok (pr := m_product) (su := m_sum_of_two) product_ok sum_of_two_ok s .tup (hm_tup s) rows v hv h
theorem z1 : hz 1 = 1 := by decide
theorem zm1 : hz (-1) = 1 := by decide
theorem z2 : hz 2 = 2 := by decide
theorem z4 : hz 4 = 3 := by decide
theorem z9 : hz 9 = 4 := by decide
theorem z8 : hz (-8) = 4 := by decide
theorem z27 : hz (-27) = 5 := by decide
theorem z24 : hz (-24) = 5 := by decide
theorem z36 : hz 36 = 6 := by decide
theorem z216 : hz (-216) = 8 := by decide
section
variable {W : Int} {n : Nat} {a1 a2 a3 a4 a6 : Rat}
theorem halves_of_ok (c : Cv W n a1 a2 a3 a4 a6) (hn : n ≤ 370) (s : S) : m_halves_of [.p (.tup [fq a1, fq a2, fq a3, fq a4, fq a6])] s =
    .ok (.p (.tup [fq (b2 a1 a2 a3 a4 a6), fq (b4 a1 a2 a3 a4 a6), fq (b6 a1 a2 a3 a4 a6), fq (b8 a1 a2 a3 a4 a6)])) s := by
  have e1 := c.h1.hz c.W0 c.hw
  have e2 := c.h2.hz c.W0 c.hw
  have e3 := c.h3.hz c.W0 c.hw
  have e4 := c.h4.hz c.W0 c.hw
  have e6 := c.h6.hz c.W0 c.hw
  have s1 : m_summed [.p (.lst [.tup [fq a1, fq a1], .tup [.int 4, fq a2]])] s = .ok (.p (fq (b2 a1 a2 a3 a4 a6))) s :=
    summed_ok [[a1, a1], [4, a2]] _ s (by simp [sumR, prodR, b2]; try grind) (by simp [totZ, totR, z4]; omega)
  have s2 : m_summed [.p (.lst [.tup [.int 2, fq a4], .tup [fq a1, fq a3]])] s = .ok (.p (fq (b4 a1 a2 a3 a4 a6))) s :=
    summed_ok [[2, a4], [a1, a3]] _ s (by simp [sumR, prodR, b4]; try grind) (by simp [totZ, totR, z2]; omega)
  have s3 : m_summed [.p (.lst [.tup [fq a3, fq a3], .tup [.int 4, fq a6]])] s = .ok (.p (fq (b6 a1 a2 a3 a4 a6))) s :=
    summed_ok [[a3, a3], [4, a6]] _ s (by simp [sumR, prodR, b6]; try grind) (by simp [totZ, totR, z4]; omega)
  have s4 : m_summed [.p (.lst [.tup [fq a1, fq a1, fq a6], .tup [.int 4, fq a2, fq a6], .tup [.int (-1), fq a1, fq a3, fq a4], .tup [fq a2, fq a3, fq a3], .tup [.int (-1), fq a4, fq a4]])] s = .ok (.p (fq (b8 a1 a2 a3 a4 a6))) s :=
    summed_ok [[a1, a1, a6], [4, a2, a6], [-1, a1, a3, a4], [a2, a3, a3], [-1, a4, a4]] _ s (by simp [sumR, prodR, b8]; try grind) (by simp [totZ, totR, z4, zm1]; omega)
  simp [m_halves_of, defM_if, B_halves_of, s1, s2, s3, s4]
theorem d_of_ok (c : Cv W n a1 a2 a3 a4 a6) (hn : n ≤ 370) (s : S) : m_d_of [.p (.tup [fq a1, fq a2, fq a3, fq a4, fq a6])] s = .ok (.p (fq (dd a1 a2 a3 a4 a6))) s := by
  have e2 := c.b2.hz c.W0 c.hw
  have e4 := c.b4.hz c.W0 c.hw
  have e6 := c.b6.hz c.W0 c.hw
  have e8 := c.b8.hz c.W0 c.hw
  have h := halves_of_ok c hn s
  have s1 : m_summed [.p (.lst [.tup [.int 9, fq (b2 a1 a2 a3 a4 a6), fq (b4 a1 a2 a3 a4 a6), fq (b6 a1 a2 a3 a4 a6)], .tup [.int (-1), fq (b2 a1 a2 a3 a4 a6), fq (b2 a1 a2 a3 a4 a6), fq (b8 a1 a2 a3 a4 a6)],
      .tup [.int (-8), fq (b4 a1 a2 a3 a4 a6), fq (b4 a1 a2 a3 a4 a6), fq (b4 a1 a2 a3 a4 a6)], .tup [.int (-27), fq (b6 a1 a2 a3 a4 a6), fq (b6 a1 a2 a3 a4 a6)]])] s = .ok (.p (fq (dd a1 a2 a3 a4 a6))) s :=
    summed_ok [[9, b2 a1 a2 a3 a4 a6, b4 a1 a2 a3 a4 a6, b6 a1 a2 a3 a4 a6], [-1, b2 a1 a2 a3 a4 a6, b2 a1 a2 a3 a4 a6, b8 a1 a2 a3 a4 a6], [-8, b4 a1 a2 a3 a4 a6, b4 a1 a2 a3 a4 a6, b4 a1 a2 a3 a4 a6], [-27, b6 a1 a2 a3 a4 a6, b6 a1 a2 a3 a4 a6]] _ s
      (by simp [sumR, prodR, dd, dD]; try grind) (by simp [totZ, totR, z9, z8, z27, zm1]; omega)
  simp [m_d_of, defM_if, B_d_of, h, s1]
theorem all_fr (qs : List Rat) (hl : qs.length ≤ 100) (s : S) : lcE true (rowI (vE 0)) [1] (setG 1) yesT (calE m_is_fraction [vE 1]) [some (.p (.tup (qs.map fq))), none] s = .ok (.p (.lst (qs.map fun _ => .bl true))) s := by
  rw [lcE_all (F := fun x => [some (.p (.tup (qs.map fq))), some (.p x)]) (f := fun _ => .bl true) (xs := qs.map fq) (s1 := s) (rowI_ev (by simp)) (by rw [List.length_map, sizeLine_eq]; omega)
    (fun x hx => by
      obtain ⟨q, _, rfl⟩ := List.mem_map.mp hx
      simp [is_fraction_ok])]
  simp [Function.comp_def]
theorem is_curve_ok (c : Cv W n a1 a2 a3 a4 a6) (hn : n ≤ 370) (s : S) : m_is_curve [.p (.tup [fq a1, fq a2, fq a3, fq a4, fq a6])] s = .ok (.p (.bl (!decide (dd a1 a2 a3 a4 a6 = 0)))) s := by
  have h1 := all_fr [a1, a2, a3, a4, a6] (by simp) s
  have h2 := all_trues (s := s) [a1, a2, a3, a4, a6]
  simp only [List.map_cons, List.map_nil] at h1 h2
  simp [m_is_curve, defM_if, B_is_curve, h1, h2, d_of_ok c hn s, ne_fq0]
theorem need_curve_ok (c : Cv W n a1 a2 a3 a4 a6) (hn : n ≤ 370) (hd : dd a1 a2 a3 a4 a6 ≠ 0) (s : S) : m_need_curve [.p (.tup [fq a1, fq a2, fq a3, fq a4, fq a6])] s = .ok (.p .non) s := by
  simp [m_need_curve, defM_if, B_need_curve, is_curve_ok c hn s, hd]
end

section
variable {W : Int} {n : Nat} {a1 a2 a3 a4 a6 : Rat}
def invP (a1 a2 a3 a4 a6 : Rat) : List Rat := [b2 a1 a2 a3 a4 a6, b4 a1 a2 a3 a4 a6, b6 a1 a2 a3 a4 a6, b8 a1 a2 a3 a4 a6, c4 a1 a2 a3 a4 a6, c6 a1 a2 a3 a4 a6, dd a1 a2 a3 a4 a6,
  c4 a1 a2 a3 a4 a6 * c4 a1 a2 a3 a4 a6 * c4 a1 a2 a3 a4 a6 / dd a1 a2 a3 a4 a6]
theorem own_invariants_ok (c : Cv W n a1 a2 a3 a4 a6) (hn : n ≤ 370) (hd : dd a1 a2 a3 a4 a6 ≠ 0) (s : S) : m_own_invariants [.p (.tup [fq a1, fq a2, fq a3, fq a4, fq a6])] s = .ok (.p (.tup ((invP a1 a2 a3 a4 a6).map fq))) s := by
  have e2 := c.b2.hz c.W0 c.hw
  have e4 := c.b4.hz c.W0 c.hw
  have e6 := c.b6.hz c.W0 c.hw
  have ed := c.dd.hz c.W0 c.hw
  have ec := c.c4.hz c.W0 c.hw
  have h := halves_of_ok c hn s
  have s1 : m_summed [.p (.lst [.tup [fq (b2 a1 a2 a3 a4 a6), fq (b2 a1 a2 a3 a4 a6)], .tup [.int (-24), fq (b4 a1 a2 a3 a4 a6)]])] s = .ok (.p (fq (c4 a1 a2 a3 a4 a6))) s :=
    summed_ok [[b2 a1 a2 a3 a4 a6, b2 a1 a2 a3 a4 a6], [-24, b4 a1 a2 a3 a4 a6]] _ s (by simp [sumR, prodR, c4]; try grind) (by simp [totZ, totR, z24]; omega)
  have s2 : m_summed [.p (.lst [.tup [.int 36, fq (b2 a1 a2 a3 a4 a6), fq (b4 a1 a2 a3 a4 a6)], .tup [.int (-1), fq (b2 a1 a2 a3 a4 a6), fq (b2 a1 a2 a3 a4 a6), fq (b2 a1 a2 a3 a4 a6)], .tup [.int (-216), fq (b6 a1 a2 a3 a4 a6)]])] s = .ok (.p (fq (c6 a1 a2 a3 a4 a6))) s :=
    summed_ok [[36, b2 a1 a2 a3 a4 a6, b4 a1 a2 a3 a4 a6], [-1, b2 a1 a2 a3 a4 a6, b2 a1 a2 a3 a4 a6, b2 a1 a2 a3 a4 a6], [-216, b6 a1 a2 a3 a4 a6]] _ s (by simp [sumR, prodR, c6]; try grind) (by simp [totZ, totR, z36, zm1, z216]; omega)
  have s3 : m_summed [.p (.lst [.tup [fq (c4 a1 a2 a3 a4 a6), fq (c4 a1 a2 a3 a4 a6), fq (c4 a1 a2 a3 a4 a6)]])] s = .ok (.p (fq (c4 a1 a2 a3 a4 a6 * c4 a1 a2 a3 a4 a6 * c4 a1 a2 a3 a4 a6))) s :=
    summed_ok [[c4 a1 a2 a3 a4 a6, c4 a1 a2 a3 a4 a6, c4 a1 a2 a3 a4 a6]] _ s (by simp [sumR, prodR]; try grind) (by simp [totZ, totR]; omega)
  have m1 := hz_mul (c4 a1 a2 a3 a4 a6) (c4 a1 a2 a3 a4 a6)
  have m2 := hz_mul (c4 a1 a2 a3 a4 a6 * c4 a1 a2 a3 a4 a6) (c4 a1 a2 a3 a4 a6)
  have q1 := quotient_ok (c4 a1 a2 a3 a4 a6 * c4 a1 a2 a3 a4 a6 * c4 a1 a2 a3 a4 a6) (dd a1 a2 a3 a4 a6) s hd (by omega)
  simp [m_own_invariants, defM_if, B_own_invariants, h, s1, s2, s3, d_of_ok c hn s, q1, invP]
theorem invariants_ok (c : Cv W n a1 a2 a3 a4 a6) (hn : n ≤ 370) (hd : dd a1 a2 a3 a4 a6 ≠ 0) (s : S) : m_invariants [.p (.tup [fq a1, fq a2, fq a3, fq a4, fq a6])] s = .ok (.p (.tup ((invP a1 a2 a3 a4 a6).map fq))) s := by
  simp [m_invariants, defM_if, B_invariants, need_curve_ok c hn hd, own_invariants_ok c hn hd]
end

theorem own_is_whole_ok (a b c d e : Rat) (s : S) : m_own_is_whole [.p (.tup [fq a, fq b, fq c, fq d, fq e])] s = .ok (.p (.bl ([a, b, c, d, e].all fun q => isIn (fq q)))) s := by
  have h1 : lcE true (rowI (vE 0)) [1] (setG 1) yesT (calE isiD [vE 1, cE (.ty "int")]) [some (.p (.tup ([a, b, c, d, e].map fq))), none] s = .ok (.p (.lst (([a, b, c, d, e].map fq).map fun x => .bl (isIn x)))) s := by
    rw [lcE_all (F := fun x => [some (.p (.tup ([a, b, c, d, e].map fq))), some (.p x)]) (f := fun x => .bl (isIn x)) (xs := [a, b, c, d, e].map fq) (s1 := s) (rowI_ev (by simp)) (show (5 : Nat) ≤ sizeLine by decide)
      (fun x hx => by
        obtain ⟨q, _, rfl⟩ := List.mem_map.mp hx
        simp [isi_fq_int])]
    rfl
  simp only [List.map_cons, List.map_nil] at h1
  have h2 : allD [.p (.lst [.bl (isIn (fq a)), .bl (isIn (fq b)), .bl (isIn (fq c)), .bl (isIn (fq d)), .bl (isIn (fq e))])] s = .ok (.p (.bl ([isIn (fq a), isIn (fq b), isIn (fq c), isIn (fq d), isIn (fq e)].all id))) s := all_lst rfl
  simp [m_own_is_whole, defM_if, B_own_is_whole, h1, h2]
theorem is_whole_ok {W : Int} {n : Nat} {a1 a2 a3 a4 a6 : Rat} (c : Cv W n a1 a2 a3 a4 a6) (hn : n ≤ 370) (hd : dd a1 a2 a3 a4 a6 ≠ 0) (s : S) : m_is_whole [.p (.tup [fq a1, fq a2, fq a3, fq a4, fq a6])] s = .ok (.p (.bl ([a1, a2, a3, a4, a6].all fun q => isIn (fq q)))) s := by
  simp [m_is_whole, defM_if, B_is_whole, need_curve_ok c hn hd, own_is_whole_ok]

/-! ### the draws, second kind -/
theorem e18 : powOk 10 18 := by decide
theorem Lbegun_ok (ns : List Int) (hl : ns.length ≤ 63) : ∃ rn cells, m_Lbegun [.p (.con (ns.map P.int))] [] = .ok (.obj 0) (mk2 rn 0 cells []) := by
  have hlc : ∀ r x y, lcE false (rowI (vE 0)) [3] (setG 3) (tB (op2 geD (vE 3) (op2 powD (cE (.int 10)) (cE (.int 18))))) (vE 3) [some (.p (.con (ns.map P.int))), r, x, y] [some (.dic [])] =
      .ok (.obj 1) [some (.dic []), some (.lst ((ns.filter fun z => decide (10 ^ 18 ≤ z)).map P.int))] := by
    intro r x y
    rw [lcE_pure (F := fun z => [some (.p (.con (ns.map P.int))), r, x, some (.p z)]) (keep := fun x => match x with
      | .int z => decide (10 ^ 18 ≤ z)
      | _ => false) (f := fun x => x) (xs := ns.map P.int) (s1 := [some (.dic [])]) (rowI_con (by simp)) (by rw [List.length_map]; exact Nat.le_trans hl (by decide)) (fun x hx => by
        obtain ⟨z, _, rfl⟩ := List.mem_map.mp hx
        simp [e18])]
    simp [List.filter_map, Function.comp_def]
  obtain ⟨ρ', s', h1, ⟨r, x, y, rfl, rfl⟩⟩ := forL_inv (tg := tupG 2 (consG (setG 2) (consG (setG 3) nilG))) (f := asgF (op2 modD (op2 (addD true) (op2 (addD true) (op2 (mulD true) (vE 1) (cE (.int 998244353))) (vE 3)) (op2 (mulD true) (cE (.int 104723)) (vE 2))) (cE (.int 2305843009213693951))) (setG 1))
    (fun ρ s => ∃ (r : Int) (x y : Option D), ρ = [some (.p (.con (ns.map P.int))), some (.p (.int r)), x, y] ∧ s = []) (xs := enuP (ns.map P.int)) (ρ := [some (.p (.con (ns.map P.int))), some (.p (.int (15485863 + 37 * ns.length))), none, none]) (s := []) ⟨_, _, _, rfl, rfl⟩ (fun x hx ρ s hi => by
      obtain ⟨r, u, v, rfl, rfl⟩ := hi
      obtain ⟨i, z, rfl⟩ : ∃ i z : Int, x = .tup [.int i, .int z] := by
        unfold enuP at hx
        obtain ⟨j, hj⟩ := List.mem_iff_getElem?.mp hx
        rw [List.getElem?_zipWith] at hj
        rw [List.getElem?_map] at hj
        cases h1 : (List.range (ns.map P.int).length)[j]? with
        | none => rw [h1] at hj; cases hj
        | some a =>
          cases h2 : ns[j]? with
          | none => rw [h1, h2] at hj; cases hj
          | some b =>
            rw [h1, h2] at hj
            cases hj
            exact ⟨_, _, rfl⟩
      have k1 : ∀ z, mulOk z 998244353 := fun z => Or.inr (Or.inr (by decide))
      have k2 : ∀ z, mulOk 104723 z := fun z => Or.inr (Or.inl (by decide))
      refine ⟨[some (.p (.con (ns.map P.int))), some (.p (.int r)), some (.p (.int i)), some (.p (.int z))], [], [some (.p (.con (ns.map P.int))), some (.p (.int ((r * 998244353 + z + 104723 * i).fmod 2305843009213693951))), some (.p (.int i)), some (.p (.int z))], [], ?_, ?_, ⟨_, _, _, rfl, rfl⟩⟩
      · simp
      · simp [k1, k2])
  refine ⟨r, ns.filter fun z => decide (10 ^ 18 ≤ z), ?_⟩
  have k3 : mulOk 37 ns.length := Or.inr (Or.inl (by decide))
  have hlen : lenD [.p (.con (ns.map P.int))] [] = .ok (.p (.int ns.length)) [] := by
    show R.ok (D.p (.int ((ns.map P.int).length : Nat))) [] = _
    rw [List.length_map]
  have hen : ∀ y z w, enuI (vE 0) [some (.p (.con (ns.map P.int))), y, z, w] [] = .ok (enuP (ns.map P.int), []) [] := fun _ _ _ => rfl
  have hf := forF_ev (i := enuI (vE 0)) (tg := tupG 2 (consG (setG 2) (consG (setG 3) nilG))) (f := asgF (op2 modD (op2 (addD true) (op2 (addD true) (op2 (mulD true) (vE 1) (cE (.int 998244353))) (vE 3)) (op2 (mulD true) (cE (.int 104723)) (vE 2))) (cE (.int 2305843009213693951))) (setG 1)) (ρ := [some (.p (.con (ns.map P.int))), some (.p (.int (15485863 + 37 * ns.length))), none, none]) (s := [])
  rw [hen, R.bind_ok, h1] at hf
  have hlc' := hlc (some (.p (.int r))) x y
  simp [m_Lbegun, defM_if, B_Lbegun, hlen, k3, hf, hlc']
  rfl
theorem Ldraw_ok (rn tn top : Int) (cells : List Int) (rest : S) (hm : 0 < top) (hs : szi top 8000) :
    ∃ d rn' cells', 0 ≤ d ∧ d < top ∧ m_Ldraw [.obj 0, .p (.int top)] (mk2 rn tn cells rest) = .ok (.p (.int d)) (mk2 rn' (tn + 1) cells' rest) := by
  have hm' : top ≠ 0 := by omega
  have k1 : ∀ z, mulOk z 6364136223846793 := fun z => Or.inr (Or.inr (by decide))
  have k2 : ∀ z, mulOk 1442695040888963 z := fun z => Or.inr (Or.inl (by decide))
  have k7 : ∀ z, divOk z 32749 := fun z => ⟨by decide, PyProof.noPylong_of_log2 (by decide)⟩
  have km : ∀ z, divOk z top := fun z => hs.divOk (by decide) (by decide) hm'
  have tail : ∀ z : Int, 0 ≤ z.fmod top ∧ z.fmod top < top := fun z => ⟨Int.fmod_nonneg_of_pos z hm, Int.fmod_lt_of_pos z hm⟩
  suffices hsu : ∃ z rn' cells', m_Ldraw [.obj 0, .p (.int top)] (mk2 rn tn cells rest) = .ok (.p (.int (Int.fmod z top))) (mk2 rn' (tn + 1) cells' rest) from by
    obtain ⟨z, rn', cells', h⟩ := hsu
    exact ⟨_, rn', cells', (tail z).1, (tail z).2, h⟩
  cases hc : cells with
  | nil =>
    refine ⟨((rn * 6364136223846793 + 1442695040888963 * (tn + 1) + 11).fmod 2305843009213693951).fdiv 32749, ((rn * 6364136223846793 + 1442695040888963 * (tn + 1) + 11).fmod 2305843009213693951), [], ?_⟩
    simp [m_Ldraw, defM_if, B_Ldraw, mk2_ne_nil, hm', k1, k2, k7, Int.max_def]
  | cons c cs =>
    rw [← hc]
    have hl : (0 : Int) < cells.length := by rw [hc]; simp
    have hl' : (cells.length : Int) ≠ 0 := by omega
    have hmax : max 1 (cells.length : Int) = cells.length := by omega
    have hn' : cells ≠ [] := by rw [hc]; simp
    have j0 := Int.fmod_nonneg_of_pos (tn + 1) hl
    have j1 := Int.fmod_lt_of_pos (tn + 1) hl
    have hix := mk2_ix rn (tn + 1) cells rest ((tn + 1).fmod cells.length) j0 j1
    generalize hx : cells[((tn + 1).fmod cells.length).toNat]'(by omega) = x at hix
    by_cases h0 : 0 < x
    · refine ⟨x, rn, ?cs, ?main⟩
      case main =>
        have hput := fun ρ => mk2_put_1 (ρ := ρ) rn (tn + 1) cells rest (x.fdiv top) ((tn + 1).fmod cells.length) j0 j1
        simp [m_Ldraw, defM_if, B_Ldraw, mk2_ne_nil, hn', hl', hmax, hix, h0, km, hput, hm']
        rfl
    · refine ⟨((rn * 6364136223846793 + 1442695040888963 * (tn + 1) + 11).fmod 2305843009213693951).fdiv 32749, ((rn * 6364136223846793 + 1442695040888963 * (tn + 1) + 11).fmod 2305843009213693951), cells, ?_⟩
      simp [m_Ldraw, defM_if, B_Ldraw, mk2_ne_nil, hn', hl', hmax, hix, h0, hm', k1, k2, k7]

/-! ### the law's own fractions -/
theorem Lof_ok (rn tn : Int) (cells : List Int) (rest : S) (xs : List P) (hx : xs ≠ []) (hl : xs.length ≤ 1000) : ∃ x rn' cells', x ∈ xs ∧ m_Lof [.obj 0, .p (.lst xs)] (mk2 rn tn cells rest) = .ok (.p x) (mk2 rn' (tn + 1) cells' rest) := by
  have hp : 0 < xs.length := List.length_pos_iff.mpr hx
  obtain ⟨d, rn', cells', d0, d1, e⟩ := Ldraw_ok rn tn xs.length cells rest (by omega) (by
    refine szi.mono (a := 64) ?_ (by decide)
    show ((xs.length : Nat) : Int).natAbs < 2 ^ 64
    omega)
  refine ⟨xs[d.toNat]'(by omega), rn', cells', List.getElem_mem _, ?_⟩
  have e2 : L2.atI xs d = some (xs[d.toNat]'(by omega)) := by
    unfold L2.atI
    rw [ixN_ok d0 d1, Option.bind_some, List.getElem?_eq_getElem (by omega)]
  simp [m_Lof, defM_if, B_Lof, e, e2]
theorem Llow_wh (s : S) (x y : Option D) : ∀ (n : Nat) (a b : Int), 0 ≤ a → 0 ≤ b → b.toNat < n →
   whF (tB (op2 (eqD true) (vE 3) (cE (.int 0)))) (parF 2 3 [vE 3, op2 modD (vE 2) (vE 3)]) [x, y, some (.p (.int a)), some (.p (.int b))] s = .ok (.nx [x, y, some (.p (.int (Int.gcd a b))), some (.p (.int 0))]) s := by
  intro n
  induction n with
  | zero => intro a b _ _ h; omega
  | succ n ih =>
    intro a b ha hb h
    rw [whF_ev]
    by_cases h0 : b = 0
    · subst h0
      have : (a.natAbs : Int) = a := by omega
      simp [this]
    · have hp : 0 < b := by omega
      have m0 := Int.fmod_nonneg_of_pos a hp
      have m1 := Int.fmod_lt_of_pos a hp
      have := ih b (a.fmod b) hb m0 (by omega)
      rw [gcd_mod a b h0] at this
      simp [h0]
      exact this
theorem Llow_ok (t b : Int) (s : S) (h0 : b ≠ 0) (hb : szi b 8900) : m_Llow [.p (.int t), .p (.int b)] s = .ok (.p (fq (Rat.divInt t b))) s := by
  obtain ⟨hg, e1, e2⟩ := low_eq (t := t) (b := b) h0 rfl
  have hgb : szi (b.sign * (Int.gcd t b : Nat)) 8900 := by
    refine Nat.lt_of_le_of_lt ?_ hb
    conv => rhs; rw [e2, Int.natAbs_mul]
    exact Nat.le_mul_of_pos_left _ (by have := (Rat.divInt t b).den_nz; omega)
  have w1 := Llow_wh s (some (.p (.int t))) (some (.p (.int b))) _ (t.natAbs) (b.natAbs) (by omega) (by omega) (Nat.lt_succ_self _)
  have w2 : Int.gcd (t.natAbs : Int) (b.natAbs : Int) = Int.gcd t b := by simp [Int.gcd]
  rw [w2] at w1
  generalize hq : Rat.divInt t b = q at *
  generalize hgg : b.sign * (Int.gcd t b : Nat) = g at *
  have d1 : divOk t g := hgb.divOk (by decide) (by decide) hg
  have d2 : divOk b g := hgb.divOk (by decide) (by decide) hg
  have q1 : t.fdiv g = q.num := by rw [e1]; exact fdiv_exact hg
  have q2 : b.fdiv g = q.den := by rw [e2]; exact fdiv_exact hg
  have hbg : (b = g) = (q.den = 1) := propext ⟨fun h => by
    have h3 : (1 : Int) * g = q.den * g := by rw [Int.one_mul]; exact h.symm.trans e2
    have := Int.eq_of_mul_eq_mul_right hg h3
    omega, fun h => by rw [e2, h]; simp⟩
  unfold fq
  by_cases hp : 0 < b
  · have hgs : (((Int.gcd t b : Nat) : Int)) = g := by rw [← hgg, Int.sign_eq_one_of_pos hp, Int.one_mul]
    rw [hgs] at w1
    by_cases h1 : q.den = 1
    · simp [m_Llow, defM_if, B_Llow, hp, w1, hbg, d1, d2, q1, q2, h1]
    · simp [m_Llow, defM_if, B_Llow, hp, w1, hbg, d1, d2, q1, q2, h1]
  · have hgs : -(((Int.gcd t b : Nat) : Int)) = g := by rw [← hgg, Int.sign_eq_neg_one_of_neg (by omega), Int.neg_one_mul]
    by_cases h1 : q.den = 1
    · simp [m_Llow, defM_if, B_Llow, hp, w1, hgs, hbg, d1, d2, q1, q2, h1]
    · simp [m_Llow, defM_if, B_Llow, hp, w1, hgs, hbg, d1, d2, q1, q2, h1]
theorem Ltwo_ok (q : Rat) (s : S) : m_Ltwo [.p (fq q)] s = .ok (.p (.tup [.int q.num, .int q.den])) s := by
  unfold fq
  split
  · rename_i h
    simp [m_Ltwo, defM_if, B_Ltwo, h]
  · simp [m_Ltwo, defM_if, B_Ltwo]
theorem Lplus_ok (a b : Rat) (s : S) (h : hz a + hz b ≤ 8800) : m_Lplus [.p (fq a), .p (fq b)] s = .ok (.p (fq (a + b))) s := by
  have o1 : mulOk a.num b.den := mulOk_szi (hz_num a) (hz_den b) (by omega) (hz_pos a) (hz_pos b)
  have o2 : mulOk b.num a.den := mulOk_szi (hz_num b) (hz_den a) (by omega) (hz_pos b) (hz_pos a)
  have o3 : mulOk a.den b.den := mulOk_szi (hz_den a) (hz_den b) (by omega) (hz_pos a) (hz_pos b)
  have hd : (a.den : Int) * b.den ≠ 0 := Int.mul_ne_zero (by have := a.den_nz; omega) (by have := b.den_nz; omega)
  have e : a + b = Rat.divInt (a.num * b.den + b.num * a.den) ((a.den : Int) * b.den) := by
    rw [Rat.add_def', ← Rat.divInt_ofNat, Int.natCast_mul]
  rw [e]
  have hl := Llow_ok (a.num * b.den + b.num * a.den) ((a.den : Int) * b.den) s hd (((hz_den a).mul (hz_den b)).mono (by omega))
  simp [m_Lplus, defM_if, B_Lplus, Ltwo_ok, o1, o2, o3, hl]
theorem Lby_ok (a b : Rat) (s : S) (h : hz a + hz b ≤ 8800) : m_Lby [.p (fq a), .p (fq b)] s = .ok (.p (fq (a * b))) s := by
  have o1 : mulOk a.num b.num := mulOk_szi (hz_num a) (hz_num b) (by omega) (hz_pos a) (hz_pos b)
  have o3 : mulOk a.den b.den := mulOk_szi (hz_den a) (hz_den b) (by omega) (hz_pos a) (hz_pos b)
  have hd : (a.den : Int) * b.den ≠ 0 := Int.mul_ne_zero (by have := a.den_nz; omega) (by have := b.den_nz; omega)
  have e : a * b = Rat.divInt (a.num * b.num) ((a.den : Int) * b.den) := by
    rw [Rat.mul_def', ← Rat.divInt_ofNat, Int.natCast_mul]
  rw [e]
  have hl := Llow_ok (a.num * b.num) ((a.den : Int) * b.den) s hd (((hz_den a).mul (hz_den b)).mono (by omega))
  simp [m_Lby, defM_if, B_Lby, Ltwo_ok, o1, o3, hl]
theorem Lover_ok (a b : Rat) (s : S) (hb : b ≠ 0) (h : hz a + hz b ≤ 8800) : m_Lover [.p (fq a), .p (fq b)] s = .ok (.p (fq (a / b))) s := by
  have hn : b.num ≠ 0 := fun h => hb (Rat.num_eq_zero.mp h)
  have o1 : mulOk a.num b.den := mulOk_szi (hz_num a) (hz_den b) (by omega) (hz_pos a) (hz_pos b)
  have o3 : mulOk a.den b.num := mulOk_szi (hz_den a) (hz_num b) (by omega) (hz_pos a) (hz_pos b)
  have hd : (a.den : Int) * b.num ≠ 0 := Int.mul_ne_zero (by have := a.den_nz; omega) hn
  have e : a / b = Rat.divInt (a.num * b.den) ((a.den : Int) * b.num) := by
    rw [Rat.div_def, Rat.inv_def]
    conv => lhs; rw [← Rat.num_divInt_den a]
    rw [Rat.divInt_mul_divInt]
  rw [e]
  have hl := Llow_ok (a.num * b.den) ((a.den : Int) * b.num) s hd (((hz_den a).mul (hz_num b)).mono (by omega))
  simp [m_Lover, defM_if, B_Lover, Ltwo_ok, o1, o3, hl]
theorem Lall_ok (rows : List (List Rat)) (v : Rat) (s : S) (hv : sumR 0 rows = v) (h : totZ rows ≤ 8700) : m_Lall [.p (.lst (rows.map fun r => .lst (r.map fq)))] s = .ok (.p (fq v)) s :=
  sumB_ok (pr := m_Lby) (su := m_Lplus) Lby_ok Lplus_ok s .lst (hm_lst s) rows v hv h
section
variable {W : Int} {n : Nat} {a1 a2 a3 a4 a6 : Rat}
theorem Lb_ok (c : Cv W n a1 a2 a3 a4 a6) (hn : n ≤ 370) (s : S) : m_Lb [.p (.tup [fq a1, fq a2, fq a3, fq a4, fq a6])] s =
    .ok (.p (.tup [fq (b2 a1 a2 a3 a4 a6), fq (b4 a1 a2 a3 a4 a6), fq (b6 a1 a2 a3 a4 a6), fq (b8 a1 a2 a3 a4 a6)])) s := by
  have e1 := c.h1.hz c.W0 c.hw
  have e2 := c.h2.hz c.W0 c.hw
  have e3 := c.h3.hz c.W0 c.hw
  have e4 := c.h4.hz c.W0 c.hw
  have e6 := c.h6.hz c.W0 c.hw
  have s1 : m_Lall [.p (.lst [.lst [fq a1, fq a1], .lst [.int 4, fq a2]])] s = .ok (.p (fq (b2 a1 a2 a3 a4 a6))) s :=
    Lall_ok [[a1, a1], [4, a2]] _ s (by simp [sumR, prodR, b2]; try grind) (by simp [totZ, totR, z4]; omega)
  have s2 : m_Lall [.p (.lst [.lst [.int 2, fq a4], .lst [fq a1, fq a3]])] s = .ok (.p (fq (b4 a1 a2 a3 a4 a6))) s :=
    Lall_ok [[2, a4], [a1, a3]] _ s (by simp [sumR, prodR, b4]; try grind) (by simp [totZ, totR, z2]; omega)
  have s3 : m_Lall [.p (.lst [.lst [fq a3, fq a3], .lst [.int 4, fq a6]])] s = .ok (.p (fq (b6 a1 a2 a3 a4 a6))) s :=
    Lall_ok [[a3, a3], [4, a6]] _ s (by simp [sumR, prodR, b6]; try grind) (by simp [totZ, totR, z4]; omega)
  have s4 : m_Lall [.p (.lst [.lst [fq a1, fq a1, fq a6], .lst [.int 4, fq a2, fq a6], .lst [.int (-1), fq a1, fq a3, fq a4], .lst [fq a2, fq a3, fq a3], .lst [.int (-1), fq a4, fq a4]])] s = .ok (.p (fq (b8 a1 a2 a3 a4 a6))) s :=
    Lall_ok [[a1, a1, a6], [4, a2, a6], [-1, a1, a3, a4], [a2, a3, a3], [-1, a4, a4]] _ s (by simp [sumR, prodR, b8]; try grind) (by simp [totZ, totR, z4, zm1]; omega)
  simp [m_Lb, defM_if, B_Lb, s1, s2, s3, s4]
theorem Ld_ok (c : Cv W n a1 a2 a3 a4 a6) (hn : n ≤ 370) (s : S) : m_Ld [.p (.tup [fq a1, fq a2, fq a3, fq a4, fq a6])] s = .ok (.p (fq (dd a1 a2 a3 a4 a6))) s := by
  have e2 := c.b2.hz c.W0 c.hw
  have e4 := c.b4.hz c.W0 c.hw
  have e6 := c.b6.hz c.W0 c.hw
  have e8 := c.b8.hz c.W0 c.hw
  have h := Lb_ok c hn s
  have s1 : m_Lall [.p (.lst [.lst [.int 9, fq (b2 a1 a2 a3 a4 a6), fq (b4 a1 a2 a3 a4 a6), fq (b6 a1 a2 a3 a4 a6)], .lst [.int (-1), fq (b2 a1 a2 a3 a4 a6), fq (b2 a1 a2 a3 a4 a6), fq (b8 a1 a2 a3 a4 a6)],
      .lst [.int (-8), fq (b4 a1 a2 a3 a4 a6), fq (b4 a1 a2 a3 a4 a6), fq (b4 a1 a2 a3 a4 a6)], .lst [.int (-27), fq (b6 a1 a2 a3 a4 a6), fq (b6 a1 a2 a3 a4 a6)]])] s = .ok (.p (fq (dd a1 a2 a3 a4 a6))) s :=
    Lall_ok [[9, b2 a1 a2 a3 a4 a6, b4 a1 a2 a3 a4 a6, b6 a1 a2 a3 a4 a6], [-1, b2 a1 a2 a3 a4 a6, b2 a1 a2 a3 a4 a6, b8 a1 a2 a3 a4 a6], [-8, b4 a1 a2 a3 a4 a6, b4 a1 a2 a3 a4 a6, b4 a1 a2 a3 a4 a6], [-27, b6 a1 a2 a3 a4 a6, b6 a1 a2 a3 a4 a6]] _ s
      (by simp [sumR, prodR, dd, dD]; try grind) (by simp [totZ, totR, z9, z8, z27, zm1]; omega)
  simp [m_Ld, defM_if, B_Ld, h, s1]
end
/-- a small drawn fraction: a whole number over 60 -/
def Sm (q : Rat) : Prop := ∃ N : Int, q * 60 = N ∧ N.natAbs ≤ 360
theorem Sm.int {i : Int} (h : i.natAbs ≤ 6) : Sm (i : Rat) := ⟨i * 60, by rw [rc_mul]; rfl, by omega⟩
theorem Sm.over {t b : Int} (ht : t.natAbs ≤ 6) (hb : b = 2 ∨ b = 3 ∨ b = 4 ∨ b = 5) : Sm (Rat.divInt t b) := by
  rw [Rat.divInt_eq_div]
  rcases hb with rfl | rfl | rfl | rfl
  · exact ⟨t * 30, by rw [rc_mul]; grind, by omega⟩
  · exact ⟨t * 20, by rw [rc_mul]; grind, by omega⟩
  · exact ⟨t * 15, by rw [rc_mul]; grind, by omega⟩
  · exact ⟨t * 12, by rw [rc_mul]; grind, by omega⟩
theorem Lsome_ok (rn tn : Int) (cells : List Int) (rest : S) : ∃ q rn' tn' cells', Sm q ∧ m_Lsome [.obj 0] (mk2 rn tn cells rest) = .ok (.p (fq q)) (mk2 rn' tn' cells' rest) := by
  obtain ⟨d1, r1, c1, a1, b1, e1⟩ := Ldraw_ok rn tn 13 cells rest (by decide) (szi.mono (a := 64) (by decide) (by decide))
  obtain ⟨d2, r2, c2, a2, b2, e2⟩ := Ldraw_ok r1 (tn + 1) 4 c1 rest (by decide) (szi.mono (a := 64) (by decide) (by decide))
  by_cases h : d2 = 0
  · obtain ⟨d3, r3, c3, a3, b3, e3⟩ := Ldraw_ok r2 (tn + 1 + 1) 4 c2 rest (by decide) (szi.mono (a := 64) (by decide) (by decide))
    have hl := Llow_ok (d1 - 6) (2 + d3) (mk2 r3 (tn + 1 + 1 + 1) c3 rest) (by omega) (szi.mono (a := 64) (Nat.lt_of_le_of_lt (show (2 + d3).natAbs ≤ 5 by omega) (by decide)) (by decide))
    refine ⟨Rat.divInt (d1 - 6) (2 + d3), r3, tn + 1 + 1 + 1, c3, Sm.over (by omega) (by omega), ?_⟩
    simp [m_Lsome, defM_if, B_Lsome, e1, e2, h, e3, hl]
  · refine ⟨((d1 - 6 : Int) : Rat), r2, tn + 1 + 1, c2, Sm.int (by omega), ?_⟩
    rw [fq_int]
    simp [m_Lsome, defM_if, B_Lsome, e1, e2, h]

/-! ### the drawn curve -/
theorem Sm.sn {q : Rat} (h : Sm q) : Sn q := by
  obtain ⟨N, h1, h2⟩ := h
  exact ⟨N, h1, by omega⟩
theorem Sm.sn1 {q : Rat} (h : Sm q) : Sn (q + 1) := by
  obtain ⟨N, h1, h2⟩ := h
  refine ⟨N + 60, ?_, by omega⟩
  rw [rc_add, ← h1, show ((60 : Int) : Rat) = 60 from rfl]
  grind
/-- a number of the pool -/
def Pq (w : Bool) (y : P) : Prop := ∃ q : Rat, y = fq q ∧ Sm q ∧ (w = true → ∃ i : Int, q = i ∧ i.natAbs ≤ 4)
theorem pool_ok (w : Bool) (rn tn : Int) (cells : List Int) (rest : S) (x2 x3 x4 x5 x6 x7 x8 x9 x10 x11 x12 x13 x14 x15 : Option D) :
    ∃ q0 q1 q2 q3 q4 q5 q6 rn' tn' cells', (∀ q ∈ [q0, q1, q2, q3, q4, q5, q6], Sm q ∧ (w = true → ∃ i : Int, q = i ∧ i.natAbs ≤ 4)) ∧
      lcE true (r1I [cE (.int 7)]) [4] (setG 4) yesT (ifE (tT (vE 1)) (op2 subD (calE m_Ldraw [vE 0, cE (.int 9)]) (cE (.int 4))) (calE m_Lsome [vE 0])) [some (.obj 0), some (.p (.bl w)), x2, x3, x4, x5, x6, x7, x8, x9, x10, x11, x12, x13, x14, x15] (mk2 rn tn cells rest) =
        .ok (.p (.lst [fq q0, fq q1, fq q2, fq q3, fq q4, fq q5, fq q6])) (mk2 rn' tn' cells' rest) := by
  obtain ⟨ys, s', e1, ⟨rn', tn', cells', rfl⟩, e3, e4⟩ := lcL_inv (own := [4]) (tg := setG 4) (m := ifE (tT (vE 1)) (op2 subD (calE m_Ldraw [vE 0, cE (.int 9)]) (cE (.int 4))) (calE m_Lsome [vE 0])) (ρ := [some (.obj 0), some (.p (.bl w)), x2, x3, x4, x5, x6, x7, x8, x9, x10, x11, x12, x13, x14, x15])
    (fun s => ∃ rn tn cells, s = mk2 rn tn cells rest) (Pq w) (xs := ranP 0 7) (s := mk2 rn tn cells rest) ⟨_, _, _, rfl⟩ (fun x hx s hs => by
      obtain ⟨rn, tn, cells, rfl⟩ := hs
      cases w with
      | true =>
        obtain ⟨d1, r1, c1, a1, b1, e1⟩ := Ldraw_ok rn tn 9 cells rest (by decide) (szi.mono (a := 64) (by decide) (by decide))
        refine ⟨_, .int (d1 - 4), mk2 r1 (tn + 1) c1 rest, rfl, ?_, ⟨((d1 - 4 : Int) : Rat), rfl, Sm.int (by omega), fun _ => ⟨_, rfl, by omega⟩⟩, _, _, _, rfl⟩
        simp [e1]
      | false =>
        obtain ⟨q, r1, t1, c1, a1, e1⟩ := Lsome_ok rn tn cells rest
        refine ⟨_, fq q, mk2 r1 t1 c1 rest, rfl, ?_, ⟨q, rfl, a1, fun h => by cases h⟩, _, _, _, rfl⟩
        simp [e1])
  match ys, e3, e4 with
  | [y0, y1, y2, y3, y4, y5, y6], _, e4 =>
    obtain ⟨q0, rfl, s0⟩ := e4 y0 (by simp)
    obtain ⟨q1, rfl, s1⟩ := e4 y1 (by simp)
    obtain ⟨q2, rfl, s2⟩ := e4 y2 (by simp)
    obtain ⟨q3, rfl, s3⟩ := e4 y3 (by simp)
    obtain ⟨q4, rfl, s4⟩ := e4 y4 (by simp)
    obtain ⟨q5, rfl, s5⟩ := e4 y5 (by simp)
    obtain ⟨q6, rfl, s6⟩ := e4 y6 (by simp)
    refine ⟨q0, q1, q2, q3, q4, q5, q6, rn', tn', cells', ?_, ?_⟩
    · intro q hq
      simp at hq
      rcases hq with rfl | rfl | rfl | rfl | rfl | rfl | rfl <;> assumption
    · rw [lcE_ev, show r1I [cE (.int 7)] [some (.obj 0), some (.p (.bl w)), x2, x3, x4, x5, x6, x7, x8, x9, x10, x11, x12, x13, x14, x15] (mk2 rn tn cells rest) = .ok (ranP 0 7, []) (mk2 rn tn cells rest) from rfl, R.bind_ok]
      show (if (ranP 0 7).length ≤ sizeLine then R.bind (lcL _ _ _ _ _ _ _ _) _ else _) = _
      rw [if_pos (show (ranP 0 7).length ≤ sizeLine from (show (7 : Nat) ≤ sizeLine by decide)), e1]
      rfl
def thP (a1 a2 a3 a4 a6 x y f u : Rat) : P := .tup [.tup [fq a1, fq a2, fq a3, fq a4, fq a6], .lst [.tup [fq x, fq y], .tup [fq f, fq u]]]
def thT (rest : S) (d : D) (s : S) : Prop := ∃ a1 a2 a3 a4 a6 x y f u rn tn cells, d = .p (thP a1 a2 a3 a4 a6 x y f u) ∧ Th a1 a2 a3 a4 a6 x y f u ∧ dd a1 a2 a3 a4 a6 ≠ 0 ∧ s = mk2 rn tn cells rest
noncomputable def thEnd : SF := (seqF (asgF ((calE m_Lall [(lstE [(lstE [vE 9, vE 9]), (lstE [vE 5, vE 8, vE 9]), (lstE [vE 7, vE 9]), (lstE [(op2 (subD) (cE (.int 0)) (cE (.int 1))), vE 8, vE 8, vE 8]), (lstE [(op2 (subD) (cE (.int 0)) (cE (.int 1))), vE 6, vE 8, vE 8])])])) (setG 12)) (seqF (asgF ((calE m_Lall [(lstE [(lstE [vE 11, vE 11]), (lstE [vE 5, vE 10, vE 11]), (lstE [vE 7, vE 11]), (lstE [(op2 (subD) (cE (.int 0)) (cE (.int 1))), vE 10, vE 10, vE 10]), (lstE [(op2 (subD) (cE (.int 0)) (cE (.int 1))), vE 6, vE 10, vE 10])])])) (setG 13)) (seqF (asgF ((calE m_Lover [(calE m_Lplus [vE 12, (calE m_Lby [(op2 (subD) (cE (.int 0)) (cE (.int 1))), vE 13])]), (calE m_Lplus [vE 8, (calE m_Lby [(op2 (subD) (cE (.int 0)) (cE (.int 1))), vE 10])])])) (setG 14)) (seqF (asgF ((tupE [vE 5, vE 6, vE 7, vE 14, (calE m_Lplus [vE 12, (calE m_Lall [(lstE [(lstE [(op2 (subD) (cE (.int 0)) (cE (.int 1))), vE 14, vE 8])])])])])) (setG 15)) (iffF (tB (op2 (eqD true) ((calE m_Ld [vE 15])) (cE (.int 0)))) (retF ((tupE [vE 15, (lstE [(tupE [vE 8, vE 9]), (tupE [vE 10, vE 11])])]))) nopF)))))
theorem vs_all {a b c x y : Rat} (ha : Sn a) (hb : Sn b) (hc : Sn c) (hx : Sn x) (hy : Sn y) (s : S) :
    m_Lall [.p (.lst [.lst [fq y, fq y], .lst [fq a, fq x, fq y], .lst [fq c, fq y], .lst [.int (-1), fq x, fq x, fq x], .lst [.int (-1), fq b, fq x, fq x]])] s = .ok (.p (fq (vs a b c x y))) s :=
  Lall_ok [[y, y], [a, x, y], [c, y], [-1, x, x, x], [-1, b, x, x]] _ s (by simp [sumR, prodR, vs]; try grind) (by
    have := ha.hz; have := hb.hz; have := hc.hz; have := hx.hz; have := hy.hz
    simp [totZ, totR, zm1]; omega)
theorem thEnd_ok {a b c x y f u : Rat} (ha : Sn a) (hb : Sn b) (hc : Sn c) (hx : Sn x) (hy : Sn y) (hf : Sn f) (hu : Sn u) (hne : x ≠ f) (w x2 x3 x4 x12 x13 x14 x15 : Option D) (rn tn : Int) (cells : List Int) (rest : S) :
    (∃ y12 y13 y14 y15, thEnd [some (.obj 0), w, x2, x3, x4, some (.p (fq a)), some (.p (fq b)), some (.p (fq c)), some (.p (fq x)), some (.p (fq y)), some (.p (fq f)), some (.p (fq u)), x12, x13, x14, x15] (mk2 rn tn cells rest) =
      .ok (.nx [some (.obj 0), w, x2, x3, x4, some (.p (fq a)), some (.p (fq b)), some (.p (fq c)), some (.p (fq x)), some (.p (fq y)), some (.p (fq f)), some (.p (fq u)), y12, y13, y14, y15]) (mk2 rn tn cells rest)) ∨
    ∃ d, thEnd [some (.obj 0), w, x2, x3, x4, some (.p (fq a)), some (.p (fq b)), some (.p (fq c)), some (.p (fq x)), some (.p (fq y)), some (.p (fq f)), some (.p (fq u)), x12, x13, x14, x15] (mk2 rn tn cells rest) = .ok (.rt d) (mk2 rn tn cells rest) ∧ thT rest d (mk2 rn tn cells rest) := by
  have T := th_ok ha hb hc hx hy hf hu hne
  obtain ⟨W, cv⟩ := T.cv
  have v1 := vs_all ha hb hc hx hy (mk2 rn tn cells rest)
  have v2 := vs_all ha hb hc hf hu (mk2 rn tn cells rest)
  have i1 := (vs_dg ha hb hc hx hy).hz (by decide) (by decide)
  have i2 := (vs_dg ha hb hc hf hu).hz (by decide) (by decide)
  have hxf : x - f ≠ 0 := by grind
  have hxz := hx.hz
  have hfz := hf.hz
  generalize hO : vs a b c x y = o at *
  generalize hP : vs a b c f u = p at *
  have j1 : m_Lby [.p (.int (-1)), .p (fq p)] (mk2 rn tn cells rest) = .ok (.p (fq (-p))) (mk2 rn tn cells rest) := by
    have := Lby_ok (-1) p (mk2 rn tn cells rest) (by rw [zm1]; omega)
    rwa [show -1 * p = -p by grind] at this
  have j2 : m_Lby [.p (.int (-1)), .p (fq f)] (mk2 rn tn cells rest) = .ok (.p (fq (-f))) (mk2 rn tn cells rest) := by
    have := Lby_ok (-1) f (mk2 rn tn cells rest) (by rw [zm1]; omega)
    rwa [show -1 * f = -f by grind] at this
  have n1 := hz_neg p
  have n2 := hz_neg f
  have n3 := hz_sub o p
  have n4 := hz_sub x f
  have j3 := Lplus_ok o (-p) (mk2 rn tn cells rest) (by omega)
  have j4 := Lplus_ok x (-f) (mk2 rn tn cells rest) (by omega)
  rw [← Rat.sub_eq_add_neg] at j3 j4
  have j5 := Lover_ok (o - p) (x - f) (mk2 rn tn cells rest) hxf (by omega)
  have n5 := hz_div (o - p) (x - f)
  generalize hD : (o - p) / (x - f) = d at *
  have n6 := hz_mul d x
  have j6 : m_Lall [.p (.lst [.lst [.int (-1), fq d, fq x]])] (mk2 rn tn cells rest) = .ok (.p (fq (-(d * x)))) (mk2 rn tn cells rest) :=
    Lall_ok [[-1, d, x]] _ _ (by simp [sumR, prodR]; try grind) (by simp [totZ, totR, zm1]; omega)
  have n7 := hz_neg (d * x)
  have j7 := Lplus_ok o (-(d * x)) (mk2 rn tn cells rest) (by omega)
  rw [← Rat.sub_eq_add_neg] at j7
  have j8 := Ld_ok cv (by decide) (mk2 rn tn cells rest)
  by_cases h0 : dd a b c d (o - d * x) = 0
  · left
    refine ⟨some (.p (fq o)), some (.p (fq p)), some (.p (fq d)), some (.p (.tup [fq a, fq b, fq c, fq d, fq (o - d * x)])), ?_⟩
    simp [thEnd, v1, v2, j1, j2, j3, j4, j5, j6, j7, j8, ne_fq0, h0]
  · right
    refine ⟨_, ?_, a, b, c, d, o - d * x, x, y, f, u, rn, tn, cells, rfl, T, h0, rfl⟩
    simp [thEnd, v1, v2, j1, j2, j3, j4, j5, j6, j7, j8, ne_fq0, h0, thP]

noncomputable def THBODY : SF := seqF (asgF (lcE true (r1I [cE (.int 7)]) [4] (setG 4) yesT ((ifE ((tT (vE 1))) ((op2 (subD) ((calE m_Ldraw [vE 0, cE (.int 9)])) (cE (.int 4)))) ((calE m_Lsome [vE 0]))))) (setG 3)) (seqF (asgF (vE 3) (tupG 7 (consG (setG 5) (consG (setG 6) (consG (setG 7) (consG (setG 8) (consG (setG 9) (consG (setG 10) (consG (setG 11) nilG))))))))) (seqF (asgF ((ifE ((tB (op2 (eqD false) (vE 10) (vE 8)))) ((calE m_Lplus [vE 10, cE (.int 1)])) (vE 10))) (setG 10)) (seqF (iffF (tT (vE 1)) (asgF ((op2 (addD true) (vE 8) ((calE m_Lof [vE 0, (lstE [cE (.int 1), (op2 (subD) (cE (.int 0)) (cE (.int 1)))])])))) (setG 10)) nopF) thEnd)))
theorem thStart_ok (w : Bool) (i : P) (x3 x4 x5 x6 x7 x8 x9 x10 x11 x12 x13 x14 x15 : Option D) (rn tn : Int) (cells : List Int) (rest : S) : ∃ (a b c x y f u : Rat) (r : Int) (t : Int) (cs : List Int) (l : Option D), (Sn a ∧ Sn b ∧ Sn c ∧ Sn x ∧ Sn y ∧ Sn f ∧ Sn u ∧ x ≠ f) ∧
    THBODY [some (.obj 0), some (.p (.bl w)), some (.p i), x3, x4, x5, x6, x7, x8, x9, x10, x11, x12, x13, x14, x15] (mk2 rn tn cells rest) =
      thEnd [some (.obj 0), some (.p (.bl w)), some (.p i), l, x4, some (.p (fq a)), some (.p (fq b)), some (.p (fq c)), some (.p (fq x)), some (.p (fq y)), some (.p (fq f)), some (.p (fq u)), x12, x13, x14, x15] (mk2 r t cs rest) := by
  obtain ⟨a, b, c, x, y, f, u, r1, t1, c1, hq, e1⟩ := pool_ok w rn tn cells rest (some (.p i)) x3 x4 x5 x6 x7 x8 x9 x10 x11 x12 x13 x14 x15
  have qa := hq a (by simp)
  have qb := hq b (by simp)
  have qc := hq c (by simp)
  have qx := hq x (by simp)
  have qy := hq y (by simp)
  have qf := hq f (by simp)
  have qu := hq u (by simp)
  obtain ⟨f', hf1, hf2, e2⟩ : ∃ f', Sn f' ∧ f' ≠ x ∧ ∀ (ρ : En) (s : S), ρ[8]? = some (some (.p (fq x))) → ρ[10]? = some (some (.p (fq f))) → ifE (tB (op2 (eqD false) (vE 10) (vE 8))) (calE m_Lplus [vE 10, cE (.int 1)]) (vE 10) ρ s = .ok (.p (fq f')) s := by
    by_cases h : f = x
    · refine ⟨f + 1, qf.1.sn1, by grind, fun ρ s h1 h2 => ?_⟩
      have := Lplus_ok f 1 s (by have := qf.1.sn.hz; rw [z1]; omega)
      have e : fq 1 = P.int 1 := rfl
      rw [e] at this
      simp [vE_of h1, vE_of h2, eq_fq, h]
      rw [h] at this
      exact this
    · refine ⟨f, qf.1.sn, h, fun ρ s h1 h2 => ?_⟩
      simp [vE_of h1, vE_of h2, eq_fq, h]
  have e2' := e2 [some (.obj 0), some (.p (.bl w)), some (.p i), some (.p (.lst [fq a, fq b, fq c, fq x, fq y, fq f, fq u])), x4, some (.p (fq a)), some (.p (fq b)), some (.p (fq c)), some (.p (fq x)), some (.p (fq y)), some (.p (fq f)), some (.p (fq u)), x12, x13, x14, x15] (mk2 r1 t1 c1 rest) rfl rfl
  cases w with
  | true =>
    obtain ⟨ix, rfl, bx⟩ := qx.2 rfl
    obtain ⟨z, r2, c2, hz, e3⟩ := Lof_ok r1 t1 c1 rest [.int 1, .int (-1)] (by simp) (by simp)
    obtain ⟨d, rfl, hd⟩ : ∃ d : Int, z = .int d ∧ (d = 1 ∨ d = -1) := by
      simp at hz
      rcases hz with rfl | rfl
      · exact ⟨1, rfl, .inl rfl⟩
      · exact ⟨-1, rfl, .inr rfl⟩
    have hsn : Sn ((ix + d : Int) : Rat) := ⟨(ix + d) * 60, by rw [rc_mul]; rfl, by omega⟩
    have hne : ((ix : Int) : Rat) ≠ ((ix + d : Int) : Rat) := fun h => by
      have h' : ix = ix + d := by exact_mod_cast h
      omega
    refine ⟨a, b, c, (ix : Rat), y, ((ix + d : Int) : Rat), u, r2, t1 + 1, c2, some (.p (.lst [fq a, fq b, fq c, fq (ix : Rat), fq y, fq f, fq u])), ⟨qa.1.sn, qb.1.sn, qc.1.sn, qx.1.sn, qy.1.sn, hsn, qu.1.sn, hne⟩, ?_⟩
    simp only [fq_int] at e1 e2' ⊢
    simp [-ifE_ev, THBODY, e1, e2', e3]
  | false =>
    refine ⟨a, b, c, x, y, f', u, r1, t1, c1, some (.p (.lst [fq a, fq b, fq c, fq x, fq y, fq f, fq u])), ⟨qa.1.sn, qb.1.sn, qc.1.sn, qx.1.sn, qy.1.sn, hf1, qu.1.sn, fun h => hf2 h.symm⟩, ?_⟩
    simp [-ifE_ev, THBODY, e1, e2']
theorem Lthrough_ok (w : Bool) (rn tn : Int) (cells : List Int) (rest : S) : ∃ a1 a2 a3 a4 a6 x y f u rn' tn' cells', Th a1 a2 a3 a4 a6 x y f u ∧ dd a1 a2 a3 a4 a6 ≠ 0 ∧
    m_Lthrough [.obj 0, .p (.bl w)] (mk2 rn tn cells rest) = .ok (.p (thP a1 a2 a3 a4 a6 x y f u)) (mk2 rn' tn' cells' rest) := by
  have key := forL_or (tg := setG 2) (f := THBODY) (fun ρ s => ∃ (x2 x3 x4 x5 x6 x7 x8 x9 x10 x11 x12 x13 x14 x15 : Option D) (rn tn : Int) (cells : List Int), ρ = [some (.obj 0), some (.p (.bl w)), x2, x3, x4, x5, x6, x7, x8, x9, x10, x11, x12, x13, x14, x15] ∧ s = mk2 rn tn cells rest)
    (thT rest) (xs := ranP 0 9) (ρ := [some (.obj 0), some (.p (.bl w)), none, none, none, none, none, none, none, none, none, none, none, none, none, none]) (s := mk2 rn tn cells rest) ⟨_, _, _, _, _, _, _, _, _, _, _, _, _, _, _, _, _, rfl, rfl⟩ (fun i hi ρ s hρ => by
      obtain ⟨x2, x3, x4, x5, x6, x7, x8, x9, x10, x11, x12, x13, x14, x15, rn, tn, cells, rfl, rfl⟩ := hρ
      refine ⟨_, _, rfl, ?_⟩
      obtain ⟨a, b, c, x, y, f, u, r, t, cs, l, ⟨ha, hb, hc, hx, hy, hf, hu, hne⟩, e1⟩ := thStart_ok w i x3 x4 x5 x6 x7 x8 x9 x10 x11 x12 x13 x14 x15 rn tn cells rest
      show (∃ ρ2 s2, THBODY [some (.obj 0), some (.p (.bl w)), some (.p i), x3, x4, x5, x6, x7, x8, x9, x10, x11, x12, x13, x14, x15] (mk2 rn tn cells rest) = _ ∧ _) ∨ ∃ d s2, THBODY [some (.obj 0), some (.p (.bl w)), some (.p i), x3, x4, x5, x6, x7, x8, x9, x10, x11, x12, x13, x14, x15] (mk2 rn tn cells rest) = _ ∧ _
      rw [e1]
      rcases thEnd_ok ha hb hc hx hy hf hu hne (some (.p (.bl w))) (some (.p i)) l x4 x12 x13 x14 x15 r t cs rest with ⟨y12, y13, y14, y15, e4⟩ | ⟨d, e4, hT⟩
      · exact .inl ⟨_, _, e4, _, _, _, _, _, _, _, _, _, _, _, _, _, _, _, _, _, rfl, rfl⟩
      · exact .inr ⟨_, _, e4, hT⟩)
  have hr : r1I [cE (.int 9)] [some (.obj 0), some (.p (.bl w)), none, none, none, none, none, none, none, none, none, none, none, none, none, none] (mk2 rn tn cells rest) = .ok (ranP 0 9, []) (mk2 rn tn cells rest) := rfl
  have hf := forF_ev (i := r1I [cE (.int 9)]) (tg := setG 2) (f := THBODY) (ρ := [some (.obj 0), some (.p (.bl w)), none, none, none, none, none, none, none, none, none, none, none, none, none, none]) (s := mk2 rn tn cells rest)
  rw [hr, R.bind_ok] at hf
  rcases key with ⟨ρ', s', e1, x2, x3, x4, x5, x6, x7, x8, x9, x10, x11, x12, x13, x14, x15, r, t, cs, rfl, rfl⟩ | ⟨d, s', e1, a1, a2, a3, a4, a6, x, y, f, u, r, t, cs, rfl, hT, h0, rfl⟩
  · rw [e1] at hf
    unfold THBODY thEnd at hf
    refine ⟨0, 0, 1, -1, 0, 0, 0, 1, 0, r, t, cs, th_0, by decide +kernel, ?_⟩
    simp [m_Lthrough, defM_if, B_Lthrough, hf, thP, fq_0, fq_1]
    rfl
  · rw [e1] at hf
    unfold THBODY thEnd at hf
    refine ⟨a1, a2, a3, a4, a6, x, y, f, u, r, t, cs, hT, h0, ?_⟩
    simp [m_Lthrough, defM_if, B_Lthrough, hf]

/-! ### changes -/
theorem by_power_fl (u : Rat) (hu : u ≠ 0) (s : S) (x1 : Option D) : ∀ (k : Nat) (a : Nat) (x : Rat) (y : Option D), hz x + (k + 1) * hz u ≤ 8800 →
    ∃ y', forL [] (setG 3) (asgF (calE m_quotient [vE 0, vE 1]) (setG 0)) ((List.range' a k).map fun i => .int (0 + ((i : Nat) : Int))) [some (.p (fq x)), some (.p (fq u)), x1, y] s = .ok (.nx [some (.p (fq (x * u⁻¹ ^ k))), some (.p (fq u)), x1, y']) s
  | 0, a, x, y, _ => ⟨y, by rw [Rat.pow_zero, Rat.mul_one]; exact forL_nil⟩
  | k + 1, a, x, y, h => by
    have h1 := hz_div x u
    rw [Nat.succ_mul, Nat.succ_mul] at h
    have h2 := quotient_ok x u s hu (by omega)
    obtain ⟨y', h3⟩ := by_power_fl u hu s x1 k (a + 1) (x / u) (some (.p (.int (0 + (a : Int))))) (by rw [Nat.succ_mul]; omega)
    refine ⟨y', ?_⟩
    rw [List.range'_succ, List.map_cons, forL_cons]
    simp [h2]
    have e : x * u⁻¹ ^ (k + 1) = x / u * u⁻¹ ^ k := by rw [Rat.pow_succ, Rat.div_def]; grind
    rw [e]
    simpa using h3
theorem by_power_ok (x u : Rat) (k : Nat) (hu : u ≠ 0) (s : S) (hk : k ≤ 12) (h : hz x + (k + 1) * hz u ≤ 8800) : m_by_power [.p (fq x), .p (fq u), .p (.int k)] s = .ok (.p (fq (x * u⁻¹ ^ k))) s := by
  have hh := by_power_fl u hu s (some (.p (.int k))) k 0 x none h
  rw [← List.range_eq_range'] at hh
  obtain ⟨y', h1⟩ := hh
  have hr : r1I [vE 2] [some (.p (fq x)), some (.p (fq u)), some (.p (.int k)), none] s = .ok (ranP 0 k, []) s := r1_ev _ _ _ (k : Int) _ rfl (by omega) (by omega)
  have hf : forF (r1I [vE 2]) (setG 3) (asgF (calE m_quotient [vE 0, vE 1]) (setG 0)) [some (.p (fq x)), some (.p (fq u)), some (.p (.int k)), none] s = .ok (.nx [some (.p (fq (x * u⁻¹ ^ k))), some (.p (fq u)), some (.p (.int k)), y']) s := by
    rw [forF_ev, hr, R.bind_ok]
    exact h1
  simp [m_by_power, defM_if, B_by_power, hf]
theorem is_change_ok (u r s t : Rat) (σ : S) : m_is_change [.p (.tup [fq u, fq r, fq s, fq t])] σ = .ok (.p (.bl (!decide (u = 0)))) σ := by
  have h1 := all_fr [u, r, s, t] (by simp) σ
  have h2 := all_trues (s := σ) [u, r, s, t]
  simp only [List.map_cons, List.map_nil] at h1 h2
  have h3 : L2.atI [fq u, fq r, fq s, fq t] 0 = some (fq u) := rfl
  simp [m_is_change, defM_if, B_is_change, h1, h2, h3, ne_fq0]
theorem need_change_ok (u r s t : Rat) (hu : u ≠ 0) (σ : S) : m_need_change [.p (.tup [fq u, fq r, fq s, fq t])] σ = .ok (.p .non) σ := by
  simp [m_need_change, defM_if, B_need_change, is_change_ok, hu]
theorem zm2 : hz (-2) = 2 := by decide
theorem z3 : hz 3 = 2 := by decide
theorem pw1 (v : Rat) : v ^ 1 = v := Rat.pow_one v
/-- what is bounded of a curve and a change -/
structure Bd (H K : Nat) (a1 a2 a3 a4 a6 u r s t : Rat) : Prop where
  k1 : hz a1 ≤ H
  k2 : hz a2 ≤ H
  k3 : hz a3 ≤ H
  k4 : hz a4 ≤ H
  k6 : hz a6 ≤ H
  ku : hz u ≤ K
  kr : hz r ≤ K
  ks : hz s ≤ K
  kt : hz t ≤ K
theorem own_led_ok {a1 a2 a3 a4 a6 u r s t : Rat} (b : Bd 400 300 a1 a2 a3 a4 a6 u r s t) (hu : u ≠ 0) (σ : S) : m_own_led [.p (.tup [fq a1, fq a2, fq a3, fq a4, fq a6]), .p (.tup [fq u, fq r, fq s, fq t])] σ =
    .ok (.p (.tup [fq (l1 a1 u⁻¹ s), fq (l2 a1 a2 u⁻¹ r s), fq (l3 a1 a3 u⁻¹ r t), fq (l4 a1 a2 a3 a4 u⁻¹ r s t), fq (l6 a1 a2 a3 a4 a6 u⁻¹ r t)])) σ := by
  obtain ⟨k1, k2, k3, k4, k6, ku, kr, ks, kt⟩ := b
  have s1 : m_summed [.p (.lst [.tup [fq a1], .tup [.int 2, fq s]])] σ = .ok (.p (fq (a1 + 2 * s))) σ := summed_ok [[a1], [2, s]] _ σ (by simp [sumR, prodR]; try grind) (by simp [totZ, totR, z2]; omega)
  have s2 : m_summed [.p (.lst [.tup [fq a2], .tup [.int (-1), fq s, fq a1], .tup [.int 3, fq r], .tup [.int (-1), fq s, fq s]])] σ = .ok (.p (fq (a2 - s * a1 + 3 * r - s * s))) σ := summed_ok [[a2], [-1, s, a1], [3, r], [-1, s, s]] _ σ (by simp [sumR, prodR]; try grind) (by simp [totZ, totR, zm1, z3]; omega)
  have s3 : m_summed [.p (.lst [.tup [fq a3], .tup [fq r, fq a1], .tup [.int 2, fq t]])] σ = .ok (.p (fq (a3 + r * a1 + 2 * t))) σ := summed_ok [[a3], [r, a1], [2, t]] _ σ (by simp [sumR, prodR]; try grind) (by simp [totZ, totR, z2]; omega)
  have s4 : m_summed [.p (.lst [.tup [fq a4], .tup [.int (-1), fq s, fq a3], .tup [.int 2, fq r, fq a2], .tup [.int (-1), fq t, fq a1], .tup [.int (-1), fq r, fq s, fq a1], .tup [.int 3, fq r, fq r], .tup [.int (-2), fq s, fq t]])] σ = .ok (.p (fq (a4 - s * a3 + 2 * r * a2 - t * a1 - r * s * a1 + 3 * r * r - 2 * s * t))) σ :=
    summed_ok [[a4], [-1, s, a3], [2, r, a2], [-1, t, a1], [-1, r, s, a1], [3, r, r], [-2, s, t]] _ σ (by simp [sumR, prodR]; try grind) (by simp [totZ, totR, zm1, zm2, z2, z3]; omega)
  have s6 : m_summed [.p (.lst [.tup [fq a6], .tup [fq r, fq a4], .tup [fq r, fq r, fq a2], .tup [fq r, fq r, fq r], .tup [.int (-1), fq t, fq a3], .tup [.int (-1), fq t, fq t], .tup [.int (-1), fq r, fq t, fq a1]])] σ = .ok (.p (fq (a6 + r * a4 + r * r * a2 + r * r * r - t * a3 - t * t - r * t * a1))) σ :=
    summed_ok [[a6], [r, a4], [r, r, a2], [r, r, r], [-1, t, a3], [-1, t, t], [-1, r, t, a1]] _ σ (by simp [sumR, prodR]; try grind) (by simp [totZ, totR, zm1]; omega)
  have q1 : hz (a1 + 2 * s) ≤ 6500 := by have := hz_add a1 (2 * s); have := hz_mul 2 s; rw [z2] at this; omega
  have q2 : hz (a2 - s * a1 + 3 * r - s * s) ≤ 6500 := by
    have := hz_sub (a2 - s * a1 + 3 * r) (s * s); have := hz_add (a2 - s * a1) (3 * r); have := hz_sub a2 (s * a1)
    have := hz_mul s s; have := hz_mul 3 r; have := hz_mul s a1; have := z3; omega
  have q3 : hz (a3 + r * a1 + 2 * t) ≤ 6500 := by
    have := hz_add (a3 + r * a1) (2 * t); have := hz_add a3 (r * a1); have := hz_mul r a1; have := hz_mul 2 t; have := z2; omega
  have q4 : hz (a4 - s * a3 + 2 * r * a2 - t * a1 - r * s * a1 + 3 * r * r - 2 * s * t) ≤ 6500 := by
    have := z2; have := z3
    have := hz_sub (a4 - s * a3 + 2 * r * a2 - t * a1 - r * s * a1 + 3 * r * r) (2 * s * t)
    have := hz_add (a4 - s * a3 + 2 * r * a2 - t * a1 - r * s * a1) (3 * r * r)
    have := hz_sub (a4 - s * a3 + 2 * r * a2 - t * a1) (r * s * a1)
    have := hz_sub (a4 - s * a3 + 2 * r * a2) (t * a1)
    have := hz_add (a4 - s * a3) (2 * r * a2)
    have := hz_sub a4 (s * a3)
    have := hz_mul (2 * s) t; have := hz_mul 2 s; have := hz_mul (3 * r) r; have := hz_mul 3 r; have := hz_mul (r * s) a1; have := hz_mul r s
    have := hz_mul t a1; have := hz_mul (2 * r) a2; have := hz_mul 2 r; have := hz_mul s a3
    omega
  have q6 : hz (a6 + r * a4 + r * r * a2 + r * r * r - t * a3 - t * t - r * t * a1) ≤ 6500 := by
    have := hz_sub (a6 + r * a4 + r * r * a2 + r * r * r - t * a3 - t * t) (r * t * a1)
    have := hz_sub (a6 + r * a4 + r * r * a2 + r * r * r - t * a3) (t * t)
    have := hz_sub (a6 + r * a4 + r * r * a2 + r * r * r) (t * a3)
    have := hz_add (a6 + r * a4 + r * r * a2) (r * r * r)
    have := hz_add (a6 + r * a4) (r * r * a2)
    have := hz_add a6 (r * a4)
    have := hz_mul (r * t) a1; have := hz_mul r t; have := hz_mul t t; have := hz_mul t a3; have := hz_mul (r * r) r; have := hz_mul r r; have := hz_mul (r * r) a2; have := hz_mul r a4
    omega
  have p1 := by_power_ok (a1 + 2 * s) u 1 hu σ (by decide) (by omega)
  have p2 := by_power_ok (a2 - s * a1 + 3 * r - s * s) u 2 hu σ (by decide) (by omega)
  have p3 := by_power_ok (a3 + r * a1 + 2 * t) u 3 hu σ (by decide) (by omega)
  have p4 := by_power_ok (a4 - s * a3 + 2 * r * a2 - t * a1 - r * s * a1 + 3 * r * r - 2 * s * t) u 4 hu σ (by decide) (by omega)
  have p6 := by_power_ok (a6 + r * a4 + r * r * a2 + r * r * r - t * a3 - t * t - r * t * a1) u 6 hu σ (by decide) (by omega)
  have f1 : (a1 + 2 * s) * u⁻¹ ^ 1 = l1 a1 u⁻¹ s := by unfold l1; grind
  have f2 : (a2 - s * a1 + 3 * r - s * s) * u⁻¹ ^ 2 = l2 a1 a2 u⁻¹ r s := by unfold l2; grind
  have f3 : (a3 + r * a1 + 2 * t) * u⁻¹ ^ 3 = l3 a1 a3 u⁻¹ r t := by unfold l3; grind
  have f4 : (a4 - s * a3 + 2 * r * a2 - t * a1 - r * s * a1 + 3 * r * r - 2 * s * t) * u⁻¹ ^ 4 = l4 a1 a2 a3 a4 u⁻¹ r s t := by unfold l4; grind
  have f6 : (a6 + r * a4 + r * r * a2 + r * r * r - t * a3 - t * t - r * t * a1) * u⁻¹ ^ 6 = l6 a1 a2 a3 a4 a6 u⁻¹ r t := by unfold l6; grind
  rw [f1] at p1
  rw [f2] at p2
  rw [f3] at p3
  rw [f4] at p4
  rw [f6] at p6
  generalize hX1 : a1 + 2 * s = X1 at *
  generalize hX2 : a2 - s * a1 + 3 * r - s * s = X2 at *
  generalize hX3 : a3 + r * a1 + 2 * t = X3 at *
  generalize hX4 : a4 - s * a3 + 2 * r * a2 - t * a1 - r * s * a1 + 3 * r * r - 2 * s * t = X4 at *
  generalize hX6 : a6 + r * a4 + r * r * a2 + r * r * r - t * a3 - t * t - r * t * a1 = X6 at *
  have hi : ∀ ρ : En, ρ[14]? = some (some (.p (.lst [fq X1, fq X2, fq X3, fq X4, fq X6]))) → zimI (vE 14) (tupE [cE (.int 1), cE (.int 2), cE (.int 3), cE (.int 4), cE (.int 6)]) ρ σ = .ok ([.tup [fq X1, .int 1], .tup [fq X2, .int 2], .tup [fq X3, .int 3], .tup [fq X4, .int 4], .tup [fq X6, .int 6]], []) σ :=
    fun ρ h => zimI_ev (xs := [fq X1, fq X2, fq X3, fq X4, fq X6]) (ys := [.int 1, .int 2, .int 3, .int 4, .int 6]) (vE_of h) rfl
  have hlc := lcE_ev (fr := true) (i := zimI (vE 14) (tupE [cE (.int 1), cE (.int 2), cE (.int 3), cE (.int 4), cE (.int 6)])) (own := [15, 16]) (tg := tupG 2 (consG (setG 15) (consG (setG 16) nilG))) (c := yesT) (m := calE m_by_power [vE 15, vE 7, vE 16])
    (ρ := [some (.p (.tup [fq a1, fq a2, fq a3, fq a4, fq a6])), some (.p (.tup [fq u, fq r, fq s, fq t])), some (.p (fq a1)), some (.p (fq a2)), some (.p (fq a3)), some (.p (fq a4)), some (.p (fq a6)), some (.p (fq u)), some (.p (fq r)), some (.p (fq s)), some (.p (fq t)), some (.p (fq X2)), some (.p (fq X4)), some (.p (fq X6)), some (.p (.lst [fq X1, fq X2, fq X3, fq X4, fq X6])), none, none]) (s := σ)
  rw [hi _ rfl, R.bind_ok] at hlc
  have p1 : m_by_power [.p (fq X1), .p (fq u), .p (.int 1)] σ = _ := p1
  have p2 : m_by_power [.p (fq X2), .p (fq u), .p (.int 2)] σ = _ := p2
  have p3 : m_by_power [.p (fq X3), .p (fq u), .p (.int 3)] σ = _ := p3
  have p4 : m_by_power [.p (fq X4), .p (fq u), .p (.int 4)] σ = _ := p4
  have p6 : m_by_power [.p (fq X6), .p (fq u), .p (.int 6)] σ = _ := p6
  simp [lcL_cons, lcL_nil, sizeLine_eq, p1, p2, p3, p4, p6] at hlc
  simp [m_own_led, defM_if, B_own_led, s1, s2, s3, s4, s6, hlc]
section
variable {W : Int} {n : Nat} {a1 a2 a3 a4 a6 u r s t : Rat}
theorem led_ok (c : Cv W n a1 a2 a3 a4 a6) (hn : n ≤ 370) (hd : dd a1 a2 a3 a4 a6 ≠ 0) (hu : u ≠ 0) (ku : hz u ≤ 300) (kr : hz r ≤ 300) (ks : hz s ≤ 300) (kt : hz t ≤ 300) (σ : S) : m_led [.p (.tup [fq a1, fq a2, fq a3, fq a4, fq a6]), .p (.tup [fq u, fq r, fq s, fq t])] σ =
    .ok (.p (.tup [fq (l1 a1 u⁻¹ s), fq (l2 a1 a2 u⁻¹ r s), fq (l3 a1 a3 u⁻¹ r t), fq (l4 a1 a2 a3 a4 u⁻¹ r s t), fq (l6 a1 a2 a3 a4 a6 u⁻¹ r t)])) σ := by
  have e1 := c.h1.hz c.W0 c.hw
  have e2 := c.h2.hz c.W0 c.hw
  have e3 := c.h3.hz c.W0 c.hw
  have e4 := c.h4.hz c.W0 c.hw
  have e6 := c.h6.hz c.W0 c.hw
  have h := own_led_ok (σ := σ) (u := u) (r := r) (s := s) (t := t) ⟨show hz a1 ≤ 400 by omega, show hz a2 ≤ 400 by omega, show hz a3 ≤ 400 by omega, show hz a4 ≤ 400 by omega, show hz a6 ≤ 400 by omega, ku, kr, ks, kt⟩ hu
  simp [m_led, defM_if, B_led, need_curve_ok c hn hd, need_change_ok, hu, h]
end

/-! ### changes joined, undone -/
structure B4 (K : Nat) (u r s t : Rat) : Prop where
  ku : hz u ≤ K
  kr : hz r ≤ K
  ks : hz s ≤ K
  kt : hz t ≤ K
/-- a drawn change's first number -/
def Sg (u : Rat) : Prop := u ≠ 0 ∧ hz u ≤ 3 ∧ Dg 6 5 1 0 u ∧ Dg 6 5 1 0 u⁻¹
theorem Sg.mk' (u : Rat) (N M : Int) (h0 : u ≠ 0) (hh : hz u ≤ 3) (h1 : u * 6 = N) (h2 : u⁻¹ * 6 = M) (hN : szi N 5) (hM : szi M 5) : Sg u := ⟨h0, hh, ⟨N, by rw [Rat.pow_one]; exact h1, hN⟩, ⟨M, by rw [Rat.pow_one]; exact h2, hM⟩⟩
theorem fq_of {q : Rat} {n : Int} {d : Nat} (hn : q.num = n) (hd : q.den = d) (h1 : d ≠ 1) : P.tup [.int n, .int d] = fq q := by
  unfold fq
  rw [if_neg (by rw [hd]; exact h1), hn, hd]
theorem Lchange_ok (rn tn : Int) (cells : List Int) (rest : S) : ∃ u r s t rn' tn' cells', Sg u ∧ Sm r ∧ Sm s ∧ Sm t ∧ m_Lchange [.obj 0] (mk2 rn tn cells rest) = .ok (.p (.tup [fq u, fq r, fq s, fq t])) (mk2 rn' tn' cells' rest) := by
  obtain ⟨z, r1, c1, hz, e1⟩ := Lof_ok rn tn cells rest [.int 1, .int 1, .int (-1), .int 2, .int 3, .int (-2), .tup [.int 1, .int 2], .tup [.int 1, .int 3], .tup [.int 2, .int 3], .tup [.int (-3), .int 2]] (by simp) (by simp)
  obtain ⟨a, r2, t2, c2, sa, e2⟩ := Lsome_ok r1 (tn + 1) c1 rest
  obtain ⟨b, r3, t3, c3, sb, e3⟩ := Lsome_ok r2 t2 c2 rest
  obtain ⟨c, r4, t4, c4, sc, e4⟩ := Lsome_ok r3 t3 c3 rest
  obtain ⟨u, rfl, hu⟩ : ∃ u : Rat, z = fq u ∧ Sg u := by
    simp at hz
    rcases hz with rfl | rfl | rfl | rfl | rfl | rfl | rfl | rfl | rfl
    · exact ⟨1, rfl, .mk' 1 6 6 (by decide +kernel) (by decide +kernel) (by decide +kernel) (by decide +kernel) (by decide) (by decide)⟩
    · exact ⟨-1, rfl, .mk' _ (-6) (-6) (by decide +kernel) (by decide +kernel) (by decide +kernel) (by decide +kernel) (by decide) (by decide)⟩
    · exact ⟨2, rfl, .mk' _ 12 3 (by decide +kernel) (by decide +kernel) (by decide +kernel) (by decide +kernel) (by decide) (by decide)⟩
    · exact ⟨3, rfl, .mk' _ 18 2 (by decide +kernel) (by decide +kernel) (by decide +kernel) (by decide +kernel) (by decide) (by decide)⟩
    · exact ⟨-2, rfl, .mk' _ (-12) (-3) (by decide +kernel) (by decide +kernel) (by decide +kernel) (by decide +kernel) (by decide) (by decide)⟩
    · exact ⟨1 / 2, fq_of (by decide +kernel) (by decide +kernel) (by decide), .mk' _ 3 12 (by decide +kernel) (by decide +kernel) (by decide +kernel) (by decide +kernel) (by decide) (by decide)⟩
    · exact ⟨1 / 3, fq_of (by decide +kernel) (by decide +kernel) (by decide), .mk' _ 2 18 (by decide +kernel) (by decide +kernel) (by decide +kernel) (by decide +kernel) (by decide) (by decide)⟩
    · exact ⟨2 / 3, fq_of (by decide +kernel) (by decide +kernel) (by decide), .mk' _ 4 9 (by decide +kernel) (by decide +kernel) (by decide +kernel) (by decide +kernel) (by decide) (by decide)⟩
    · exact ⟨-3 / 2, fq_of (by decide +kernel) (by decide +kernel) (by decide), .mk' _ (-9) (-4) (by decide +kernel) (by decide +kernel) (by decide +kernel) (by decide +kernel) (by decide) (by decide)⟩
  refine ⟨u, a, b, c, r4, t4, c4, hu, sa, sb, sc, ?_⟩
  simp [m_Lchange, defM_if, B_Lchange, e1, e2, e3, e4]
theorem cg_of {u r s t : Rat} (hu : Sg u) (hr : Sm r) (hs : Sm s) (ht : Sm t) : Cg 60 6 9 5 u⁻¹ r s t := ⟨by decide, by decide, by decide, by decide, hu.2.2.2, hr.sn.dg, hs.sn.dg, ht.sn.dg⟩
theorem b4_of {u r s t : Rat} (hu : Sg u) (hr : Sm r) (hs : Sm s) (ht : Sm t) : B4 10 u r s t := ⟨by have := hu.2.1; omega, hr.sn.hz, hs.sn.hz, ht.sn.hz⟩

section
variable {u r s t v a b c : Rat}
theorem own_joined_ok (h1 : B4 600 u r s t) (h2 : B4 600 v a b c) (σ : S) : m_own_joined [.p (.tup [fq u, fq r, fq s, fq t]), .p (.tup [fq v, fq a, fq b, fq c])] σ =
    .ok (.p (.tup [fq (u * v), fq (u * u * a + r), fq (u * b + s), fq (u * u * u * c + s * u * u * a + t)])) σ := by
  obtain ⟨x1, x2, x3, x4⟩ := h1
  obtain ⟨y1, y2, y3, y4⟩ := h2
  have s1 : m_summed [.p (.lst [.tup [fq u, fq u, fq u, fq c], .tup [fq s, fq u, fq u, fq a], .tup [fq t]])] σ = .ok (.p (fq (u * u * u * c + s * u * u * a + t))) σ := summed_ok [[u, u, u, c], [s, u, u, a], [t]] _ σ (by simp [sumR, prodR]; try grind) (by simp [totZ, totR]; omega)
  have s2 : m_summed [.p (.lst [.tup [fq u, fq u, fq a], .tup [fq r]])] σ = .ok (.p (fq (u * u * a + r))) σ := summed_ok [[u, u, a], [r]] _ σ (by simp [sumR, prodR]; try grind) (by simp [totZ, totR]; omega)
  have s3 : m_summed [.p (.lst [.tup [fq u, fq b], .tup [fq s]])] σ = .ok (.p (fq (u * b + s))) σ := summed_ok [[u, b], [s]] _ σ (by simp [sumR, prodR]; try grind) (by simp [totZ, totR]; omega)
  have s4 := product_ok u v σ (by omega)
  simp [m_own_joined, defM_if, B_own_joined, s1, s2, s3, s4]
theorem joined_ok (h1 : B4 600 u r s t) (h2 : B4 600 v a b c) (hu : u ≠ 0) (hv : v ≠ 0) (σ : S) : m_joined [.p (.tup [fq u, fq r, fq s, fq t]), .p (.tup [fq v, fq a, fq b, fq c])] σ =
    .ok (.p (.tup [fq (u * v), fq (u * u * a + r), fq (u * b + s), fq (u * u * u * c + s * u * u * a + t)])) σ := by
  simp [m_joined, defM_if, B_joined, need_change_ok, hu, hv, own_joined_ok h1 h2]
theorem B4.join {J K : Nat} (h1 : B4 J u r s t) (h2 : B4 K v a b c) : B4 (7 * J + 2 * K + 2) (u * v) (u * u * a + r) (u * b + s) (u * u * u * c + s * u * u * a + t) := by
  obtain ⟨x1, x2, x3, x4⟩ := h1
  obtain ⟨y1, y2, y3, y4⟩ := h2
  refine ⟨?_, ?_, ?_, ?_⟩
  · have := hz_mul u v; omega
  · have := hz_add (u * u * a) r; have := hz_mul (u * u) a; have := hz_mul u u; omega
  · have := hz_add (u * b) s; have := hz_mul u b; omega
  · have := hz_add (u * u * u * c + s * u * u * a) t; have := hz_add (u * u * u * c) (s * u * u * a)
    have := hz_mul (u * u * u) c; have := hz_mul (u * u) u; have := hz_mul u u; have := hz_mul (s * u * u) a; have := hz_mul (s * u) u; have := hz_mul s u
    omega
theorem own_undone_ok (h1 : B4 600 u r s t) (hu : u ≠ 0) (σ : S) : m_own_undone [.p (.tup [fq u, fq r, fq s, fq t])] σ =
    .ok (.p (.tup [fq u⁻¹, fq (-r * u⁻¹ ^ 2), fq (-s * u⁻¹ ^ 1), fq ((r * s - t) * u⁻¹ ^ 3)])) σ := by
  obtain ⟨x1, x2, x3, x4⟩ := h1
  have z := z1
  have zm := zm1
  have s1 : m_summed [.p (.lst [.tup [fq r, fq s], .tup [.int (-1), fq t]])] σ = .ok (.p (fq (r * s - t))) σ := summed_ok [[r, s], [-1, t]] _ σ (by simp [sumR, prodR]; try grind) (by simp [totZ, totR]; omega)
  have s2 : m_product [.p (.int (-1)), .p (fq r)] σ = .ok (.p (fq (-r))) σ := by
    have := product_ok (-1) r σ (by omega)
    rwa [show -1 * r = -r by grind] at this
  have s3 : m_product [.p (.int (-1)), .p (fq s)] σ = .ok (.p (fq (-s))) σ := by
    have := product_ok (-1) s σ (by omega)
    rwa [show -1 * s = -s by grind] at this
  have s4 : m_quotient [.p (.int 1), .p (fq u)] σ = .ok (.p (fq u⁻¹)) σ := by
    have := quotient_ok 1 u σ hu (by omega)
    rwa [show 1 / u = u⁻¹ by rw [Rat.div_def, Rat.one_mul]] at this
  have n1 := hz_neg r
  have n2 := hz_neg s
  have n3 := hz_sub (r * s) t
  have n4 := hz_mul r s
  have p2 : m_by_power [.p (fq (-r)), .p (fq u), .p (.int 2)] σ = _ := by_power_ok (-r) u 2 hu σ (by decide) (by omega)
  have p1 : m_by_power [.p (fq (-s)), .p (fq u), .p (.int 1)] σ = _ := by_power_ok (-s) u 1 hu σ (by decide) (by omega)
  have p3 : m_by_power [.p (fq (r * s - t)), .p (fq u), .p (.int 3)] σ = _ := by_power_ok (r * s - t) u 3 hu σ (by decide) (by omega)
  simp [m_own_undone, defM_if, B_own_undone, s1, s2, s3, s4, p1, p2, p3, -Rat.pow_one]
theorem undone_ok (h1 : B4 600 u r s t) (hu : u ≠ 0) (σ : S) : m_undone [.p (.tup [fq u, fq r, fq s, fq t])] σ =
    .ok (.p (.tup [fq u⁻¹, fq (-r * u⁻¹ ^ 2), fq (-s * u⁻¹ ^ 1), fq ((r * s - t) * u⁻¹ ^ 3)])) σ := by
  simp [m_undone, defM_if, B_undone, need_change_ok, hu, own_undone_ok h1 hu, -Rat.pow_one]
theorem B4.undo {J : Nat} (h1 : B4 J u r s t) : B4 (8 * J + 2) u⁻¹ (-r * u⁻¹ ^ 2) (-s * u⁻¹ ^ 1) ((r * s - t) * u⁻¹ ^ 3) := by
  obtain ⟨x1, x2, x3, x4⟩ := h1
  have i := hz_inv u
  refine ⟨by omega, ?_, ?_, ?_⟩
  · have := hz_mul (-r) (u⁻¹ ^ 2); have := hz_pow u⁻¹ 2; have := hz_neg r; omega
  · have := hz_mul (-s) (u⁻¹ ^ 1); have := hz_pow u⁻¹ 1; have := hz_neg s; omega
  · have := hz_mul (r * s - t) (u⁻¹ ^ 3); have := hz_pow u⁻¹ 3; have := hz_sub (r * s) t; have := hz_mul r s; omega
end

/-! ### points led -/
theorem isN_tup (b : Bool) (xs : List P) (s : S) : isN b (.p (.tup xs)) (.p .non) s = .ok (.p (.bl b)) s := rfl
theorem isN_non (b : Bool) (s : S) : isN b (.p .non) (.p .non) s = .ok (.p (.bl (!b))) s := rfl
section
variable {a1 a2 a3 a4 a6 x y : Rat} {H K : Nat}
theorem off_by_ok (h1 : hz a1 ≤ H) (h2 : hz a2 ≤ H) (h3 : hz a3 ≤ H) (h4 : hz a4 ≤ H) (h6 : hz a6 ≤ H) (hx : hz x ≤ K) (hy : hz y ≤ K) (hb : 5 * H + 15 * K ≤ 8000) (s : S) :
    m_off_by [.p (.tup [fq a1, fq a2, fq a3, fq a4, fq a6]), .p (fq x), .p (fq y)] s = .ok (.p (fq (ev a1 a2 a3 a4 a6 x y))) s := by
  have s1 : m_summed [.p (.lst [.tup [fq y, fq y], .tup [fq a1, fq x, fq y], .tup [fq a3, fq y]])] s = .ok (.p (fq (y * y + a1 * x * y + a3 * y))) s := summed_ok [[y, y], [a1, x, y], [a3, y]] _ s (by simp [sumR, prodR]; try grind) (by simp [totZ, totR]; omega)
  have s2 : m_summed [.p (.lst [.tup [.int (-1), fq x, fq x, fq x], .tup [.int (-1), fq a2, fq x, fq x], .tup [.int (-1), fq a4, fq x], .tup [.int (-1), fq a6]])] s = .ok (.p (fq (-(x * x * x) - a2 * x * x - a4 * x - a6))) s :=
    summed_ok [[-1, x, x, x], [-1, a2, x, x], [-1, a4, x], [-1, a6]] _ s (by simp [sumR, prodR]; try grind) (by simp [totZ, totR, zm1]; omega)
  have g1 : hz (y * y + a1 * x * y + a3 * y) ≤ 2 * H + 5 * K + 2 := by
    have := hz_add (y * y + a1 * x * y) (a3 * y); have := hz_add (y * y) (a1 * x * y); have := hz_mul y y; have := hz_mul (a1 * x) y; have := hz_mul a1 x; have := hz_mul a3 y; omega
  have g2 : hz (-(x * x * x) - a2 * x * x - a4 * x - a6) ≤ 3 * H + 6 * K + 3 := by
    have := hz_sub (-(x * x * x) - a2 * x * x - a4 * x) a6; have := hz_sub (-(x * x * x) - a2 * x * x) (a4 * x); have := hz_sub (-(x * x * x)) (a2 * x * x)
    have := hz_neg (x * x * x); have := hz_mul (x * x) x; have := hz_mul x x; have := hz_mul (a2 * x) x; have := hz_mul a2 x; have := hz_mul a4 x; omega
  have s3 := sum_of_two_ok (y * y + a1 * x * y + a3 * y) (-(x * x * x) - a2 * x * x - a4 * x - a6) s (by omega)
  rw [show y * y + a1 * x * y + a3 * y + (-(x * x * x) - a2 * x * x - a4 * x - a6) = ev a1 a2 a3 a4 a6 x y by unfold ev; grind] at s3
  simp [m_off_by, defM_if, B_off_by, s1, s2, s3]
theorem is_pair_ok (x y : Rat) (s : S) : m_is_pair [.p (.tup [fq x, fq y])] s = .ok (.p (.bl true)) s := by
  simp [m_is_pair, defM_if, B_is_pair, is_fraction_ok]
theorem lies_on_ok (h1 : hz a1 ≤ H) (h2 : hz a2 ≤ H) (h3 : hz a3 ≤ H) (h4 : hz a4 ≤ H) (h6 : hz a6 ≤ H) (hx : hz x ≤ K) (hy : hz y ≤ K) (hb : 5 * H + 15 * K ≤ 8000) (s : S) :
    m_lies_on [.p (.tup [fq a1, fq a2, fq a3, fq a4, fq a6]), .p (.tup [fq x, fq y])] s = .ok (.p (.bl (decide (ev a1 a2 a3 a4 a6 x y = 0)))) s := by
  simp [m_lies_on, defM_if, B_lies_on, isN_tup, is_pair_ok, off_by_ok h1 h2 h3 h4 h6 hx hy hb, eq_fq0]
end
theorem lies_on_non (c : P) (s : S) : m_lies_on [.p c, .p .non] s = .ok (.p (.bl true)) s := by
  simp [m_lies_on, defM_if, B_lies_on, isN_non]
def px (u r x : Rat) : Rat := (x - r) * u⁻¹ ^ 2
def py (u r s t x y : Rat) : Rat := (y - s * x + s * r - t) * u⁻¹ ^ 3
section
variable {W : Int} {n H K : Nat} {a1 a2 a3 a4 a6 u r s t x y : Rat}
theorem led_point_ok (c : Cv W n a1 a2 a3 a4 a6) (hn : n ≤ 370) (hd : dd a1 a2 a3 a4 a6 ≠ 0) (hu : u ≠ 0) (B : B4 300 u r s t) (hx : hz x ≤ 400) (hy : hz y ≤ 400) (hon : ev a1 a2 a3 a4 a6 x y = 0) (σ : S) :
    m_led_point [.p (.tup [fq a1, fq a2, fq a3, fq a4, fq a6]), .p (.tup [fq x, fq y]), .p (.tup [fq u, fq r, fq s, fq t])] σ = .ok (.p (.tup [fq (px u r x), fq (py u r s t x y)])) σ := by
  obtain ⟨ku, kr, ks, kt⟩ := B
  have e1 := c.h1.hz c.W0 c.hw
  have e2 := c.h2.hz c.W0 c.hw
  have e3 := c.h3.hz c.W0 c.hw
  have e4 := c.h4.hz c.W0 c.hw
  have e6 := c.h6.hz c.W0 c.hw
  have lo := lies_on_ok (H := 372) (K := 400) (by omega) (by omega) (by omega) (by omega) (by omega) hx hy (by omega) σ (a1 := a1) (a2 := a2) (a3 := a3) (a4 := a4) (a6 := a6)
  have s1 : m_summed [.p (.lst [.tup [fq y], .tup [.int (-1), fq s, fq x], .tup [fq s, fq r], .tup [.int (-1), fq t]])] σ = .ok (.p (fq (y - s * x + s * r - t))) σ := summed_ok [[y], [-1, s, x], [s, r], [-1, t]] _ σ (by simp [sumR, prodR]; try grind) (by simp [totZ, totR, zm1]; omega)
  have s2 : m_summed [.p (.lst [.tup [fq x], .tup [.int (-1), fq r]])] σ = .ok (.p (fq (x - r))) σ := summed_ok [[x], [-1, r]] _ σ (by simp [sumR, prodR]; try grind) (by simp [totZ, totR, zm1]; omega)
  have g1 : hz (y - s * x + s * r - t) ≤ 3000 := by
    have := hz_sub (y - s * x + s * r) t; have := hz_add (y - s * x) (s * r); have := hz_sub y (s * x); have := hz_mul s x; have := hz_mul s r; omega
  have g2 := hz_sub x r
  have p2 : m_by_power [.p (fq (x - r)), .p (fq u), .p (.int 2)] σ = _ := by_power_ok (x - r) u 2 hu σ (by decide) (by omega)
  have p3 : m_by_power [.p (fq (y - s * x + s * r - t)), .p (fq u), .p (.int 3)] σ = _ := by_power_ok (y - s * x + s * r - t) u 3 hu σ (by decide) (by omega)
  have ol : m_own_led_point [.p (.tup [fq x, fq y]), .p (.tup [fq u, fq r, fq s, fq t])] σ = .ok (.p (.tup [fq (px u r x), fq (py u r s t x y)])) σ := by
    simp [m_own_led_point, defM_if, B_own_led_point, isN_tup, s1, s2, p2, p3, px, py]
  simp [m_led_point, defM_if, B_led_point, need_curve_ok c hn hd, lo, hon, need_change_ok, hu, ol]
theorem led_point_non (c : Cv W n a1 a2 a3 a4 a6) (hn : n ≤ 370) (hd : dd a1 a2 a3 a4 a6 ≠ 0) (hu : u ≠ 0) (σ : S) :
    m_led_point [.p (.tup [fq a1, fq a2, fq a3, fq a4, fq a6]), .p .non, .p (.tup [fq u, fq r, fq s, fq t])] σ = .ok (.p .non) σ := by
  have ol : m_own_led_point [.p .non, .p (.tup [fq u, fq r, fq s, fq t])] σ = .ok (.p .non) σ := by
    simp [m_own_led_point, defM_if, B_own_led_point, isN_non]
  simp [m_led_point, defM_if, B_led_point, need_curve_ok c hn hd, lies_on_non, need_change_ok, hu, ol]
theorem px_hz (B : B4 K u r s t) (hx : hz x ≤ H) : hz (px u r x) ≤ H + 3 * K + 2 := by
  obtain ⟨ku, kr, ks, kt⟩ := B
  have := hz_mul (x - r) (u⁻¹ ^ 2); have := hz_pow u⁻¹ 2; have := hz_inv u; have := hz_sub x r
  unfold px
  omega
theorem py_hz (B : B4 K u r s t) (hx : hz x ≤ H) (hy : hz y ≤ H) : hz (py u r s t x y) ≤ 2 * H + 7 * K + 4 := by
  obtain ⟨ku, kr, ks, kt⟩ := B
  have := hz_mul (y - s * x + s * r - t) (u⁻¹ ^ 3); have := hz_pow u⁻¹ 3; have := hz_inv u
  have := hz_sub (y - s * x + s * r) t; have := hz_add (y - s * x) (s * r); have := hz_sub y (s * x); have := hz_mul s x; have := hz_mul s r
  unfold py
  omega
end

/-! ### through two points -/
/-- a whole number over 60, at most 700 -/
def Sq (q : Rat) : Prop := ∃ N : Int, q * 60 = N ∧ N.natAbs ≤ 700
theorem Sn.sq {q : Rat} (h : Sn q) : Sq q := by
  obtain ⟨N, h1, h2⟩ := h
  exact ⟨N, h1, by omega⟩
theorem Sq.dg {q : Rat} (h : Sq q) : Dg 60 10 1 0 q := by
  obtain ⟨N, h1, h2⟩ := h
  exact ⟨N, by rw [Rat.pow_one]; exact h1, Nat.lt_of_le_of_lt h2 (by decide)⟩
theorem Sq.hz {q : Rat} (h : Sq q) : hz q ≤ 11 := h.dg.hz (by decide) (by decide)
theorem vq_dg {a b c x y : Rat} (ha : Sq a) (hb : Sq b) (hc : Sq c) (hx : Sq x) (hy : Sq y) : Dg 60 10 3 5 (vs a b c x y) :=
  (((((hy.dg.mul hy.dg).up (l := 3) (by decide) (d := 1)).add (((ha.dg.mul hx.dg).mul hy.dg).mono (d := 1))).add ((hc.dg.mul hy.dg).up (l := 3) (by decide) (d := 2))).sub (((hx.dg.mul hx.dg).mul hx.dg).mono (d := 3))).sub (((hb.dg.mul hx.dg).mul hx.dg).mono (d := 4))
def w4 (a b c x y f u : Rat) : Rat := (vs a b c x y - vs a b c f u) / (x - f)
def w6 (a b c x y f u : Rat) : Rat := vs a b c x y - (vs a b c x y - vs a b c f u) / (x - f) * x
theorem thq_ok {a b c x y f u : Rat} (ha : Sq a) (hb : Sq b) (hc : Sq c) (hx : Sq x) (hy : Sq y) (hf : Sq f) (hu : Sq u) (hne : x ≠ f) : ∃ W, Cv W 50 a b c (w4 a b c x y f u) (w6 a b c x y f u) := by
  have hxf : x - f ≠ 0 := by grind
  unfold w4 w6
  obtain ⟨O, o1, o2⟩ := vq_dg ha hb hc hx hy
  obtain ⟨E, e1, e2⟩ := (vq_dg ha hb hc hx hy).sub (vq_dg ha hb hc hf hu)
  obtain ⟨A, a1, a2⟩ := ha
  obtain ⟨B, b1, b2⟩ := hb
  obtain ⟨C, c1, c2⟩ := hc
  obtain ⟨X, x1, x2⟩ := hx
  obtain ⟨F, f1, f2⟩ := hf
  have hM : ((X - F : Int) : Rat) = (x - f) * 60 := by
    rw [show X - F = X + -F by omega, rc_add, rc_neg, ← x1, ← f1]; grind
  have hM0 : X - F ≠ 0 := fun h => by
    rw [h] at hM
    have : (x - f) * 60 = 0 := by rw [← hM]; rfl
    grind
  have hMs : szi (X - F) 11 := Nat.lt_of_le_of_lt (show (X - F).natAbs ≤ 1400 by omega) (by decide)
  have hWc : ((216000 * (X - F) : Int) : Rat) = 216000 * ((x - f) * 60) := by rw [rc_mul, hM]; rfl
  have e60 : (60 : Int) = ((60 : Int)) := rfl
  have p3 : ((60 : Int) : Rat) ^ 3 = 216000 := by
    have : ((60 : Int) : Rat) = 60 := rfl
    rw [this]; decide
  rw [p3] at o1 e1
  refine ⟨216000 * (X - F), Int.mul_ne_zero (by decide) hM0, ((show szi 216000 18 by decide).mul hMs).mono (by decide), ?_, ?_, ?_, ?_, ?_⟩
  · refine ⟨A * (3600 * (X - F)), ?_, (((show szi A 10 from Nat.lt_of_le_of_lt a2 (by decide))).mul ((show szi 3600 12 by decide).mul hMs)).mono (by decide)⟩
    rw [Rat.pow_one, hWc, rc_mul, rc_mul, hM, ← a1, show ((3600 : Int) : Rat) = 3600 from rfl]; grind
  · refine ⟨B * (3600 * (X - F)), ?_, (((show szi B 10 from Nat.lt_of_le_of_lt b2 (by decide))).mul ((show szi 3600 12 by decide).mul hMs)).mono (by decide)⟩
    rw [Rat.pow_one, hWc, rc_mul, rc_mul, hM, ← b1, show ((3600 : Int) : Rat) = 3600 from rfl]; grind
  · refine ⟨C * (3600 * (X - F)), ?_, (((show szi C 10 from Nat.lt_of_le_of_lt c2 (by decide))).mul ((show szi 3600 12 by decide).mul hMs)).mono (by decide)⟩
    rw [Rat.pow_one, hWc, rc_mul, rc_mul, hM, ← c1, show ((3600 : Int) : Rat) = 3600 from rfl]; grind
  · refine ⟨60 * E, ?_, ((show szi 60 6 by decide).mul e2).mono (by decide)⟩
    rw [Rat.pow_one, hWc, rc_mul, ← e1, show ((60 : Int) : Rat) = 60 from rfl]; grind
  · refine ⟨O * (X - F) - E * X, ?_, ((o2.mul hMs).sub ((e2.mul (show szi X 10 from Nat.lt_of_le_of_lt x2 (by decide))))).mono (by decide)⟩
    rw [Rat.pow_one, hWc, show O * (X - F) - E * X = O * (X - F) + -(E * X) by omega, rc_add, rc_neg, rc_mul, rc_mul, hM, ← o1, ← e1, ← x1]; grind
theorem w_swap {a b c x y f u : Rat} (h : x ≠ f) : w4 a b c f u x y = w4 a b c x y f u ∧ w6 a b c f u x y = w6 a b c x y f u := by
  have h1 : x - f ≠ 0 := by grind
  have h2 : f - x ≠ 0 := by grind
  unfold w4 w6
  generalize vs a b c x y = o
  generalize vs a b c f u = p
  constructor <;> grind
theorem vs_ev (a b c x y : Rat) : ev a b c 0 0 x y = vs a b c x y := by unfold ev vs; grind
def thR (a b c d e : Rat) : P := if dd a b c d e = 0 then .non else .tup [fq a, fq b, fq c, fq d, fq e]
theorem through_ok {W : Int} {n : Nat} {a b c x y f u : Rat} (cv : Cv W n a b c (w4 a b c x y f u) (w6 a b c x y f u)) (hn : n ≤ 370) (ka : hz a ≤ 60) (kb : hz b ≤ 60) (kc : hz c ≤ 60) (kx : hz x ≤ 60) (ky : hz y ≤ 60) (kf : hz f ≤ 60) (ku : hz u ≤ 60) (hne : x ≠ f) (σ : S) :
    m_through [.p (fq a), .p (fq b), .p (fq c), .p (.tup [fq x, fq y]), .p (.tup [fq f, fq u])] σ = .ok (.p (thR a b c (w4 a b c x y f u) (w6 a b c x y f u))) σ := by
  have f0 : fq 0 = .int 0 := rfl
  have z0 : hz 0 ≤ 60 := by decide
  have hxf : x - f ≠ 0 := by grind
  have o1 := off_by_ok (H := 60) (K := 60) ka kb kc z0 z0 kx ky (by decide) σ
  have o2 := off_by_ok (H := 60) (K := 60) ka kb kc z0 z0 kf ku (by decide) σ
  rw [vs_ev, f0] at o1 o2
  have g1 : ∀ x y, hz x ≤ 60 → hz y ≤ 60 → hz (vs a b c x y) ≤ 1000 := fun x y kx ky => by
    unfold vs
    have := hz_sub (y * y + a * x * y + c * y - x * x * x) (b * x * x); have := hz_sub (y * y + a * x * y + c * y) (x * x * x); have := hz_add (y * y + a * x * y) (c * y); have := hz_add (y * y) (a * x * y)
    have := hz_mul y y; have := hz_mul (a * x) y; have := hz_mul a x; have := hz_mul c y; have := hz_mul (x * x) x; have := hz_mul x x; have := hz_mul (b * x) x; have := hz_mul b x
    omega
  have g2 := g1 x y kx ky
  have g3 := g1 f u kf ku
  have hlc : lcE true (tupI (tupE [vE 0, vE 1, vE 2])) [5] (setG 5) yesT (calE m_is_fraction [vE 5]) [some (.p (fq a)), some (.p (fq b)), some (.p (fq c)), some (.p (.tup [fq x, fq y])), some (.p (.tup [fq f, fq u])), none, none, none, none, none] σ = .ok (.p (.lst [.bl true, .bl true, .bl true])) σ := by
    rw [lcE_ev, tupI_tup (xs := [fq a, fq b, fq c]) (s' := σ) rfl, R.bind_ok]
    simp [lcL_cons, lcL_nil, sizeLine_eq, is_fraction_ok]
  have hall : allD [.p (.lst [.bl true, .bl true, .bl true])] σ = .ok (.p (.bl true)) σ := rfl
  have hd := d_of_ok cv hn σ
  unfold w4 w6 at *
  generalize vs a b c x y = o at *
  generalize vs a b c f u = p at *
  have s1 : m_summed [.p (.lst [.tup [fq o], .tup [.int (-1), fq p]])] σ = .ok (.p (fq (o - p))) σ := summed_ok [[o], [-1, p]] _ σ (by simp [sumR, prodR]; try grind) (by simp [totZ, totR, zm1]; omega)
  have s2 : m_summed [.p (.lst [.tup [fq x], .tup [.int (-1), fq f]])] σ = .ok (.p (fq (x - f))) σ := summed_ok [[x], [-1, f]] _ σ (by simp [sumR, prodR]; try grind) (by simp [totZ, totR, zm1]; omega)
  have n1 := hz_sub o p
  have n2 := hz_sub x f
  have n3 := hz_div (o - p) (x - f)
  have q1 := quotient_ok (o - p) (x - f) σ hxf (by omega)
  generalize (o - p) / (x - f) = d at *
  have s3 : m_summed [.p (.lst [.tup [fq o], .tup [.int (-1), fq d, fq x]])] σ = .ok (.p (fq (o - d * x))) σ := summed_ok [[o], [-1, d, x]] _ σ (by simp [sumR, prodR]; try grind) (by simp [totZ, totR, zm1]; omega)
  unfold thR
  by_cases h0 : dd a b c d (o - d * x) = 0
  · simp [m_through, defM_if, B_through, hlc, hall, is_pair_ok, eq_fq, hne, o1, o2, s1, s2, q1, s3, hd, ne_fq0, h0]
  · simp [m_through, defM_if, B_through, hlc, hall, is_pair_ok, eq_fq, hne, o1, o2, s1, s2, q1, s3, hd, ne_fq0, h0]

/-! ### a row of changes -/
/-- the sizes of k drawn changes joined -/
structure Cm (k : Nat) (u r s t : Rat) : Prop where
  u0 : u ≠ 0
  hu : Dg 6 5 k 1 u
  hv : Dg 6 5 k 1 u⁻¹
  hr : ∃ N : Int, r * (60 * 36 ^ k) = N ∧ szi N (10 * k + 9)
  hs : ∃ N : Int, s * (60 * 6 ^ k) = N ∧ szi N (5 * k + 9)
  ht : ∃ N : Int, t * (3600 * 216 ^ k) = N ∧ szi N (15 * k + 15)
theorem Cm.zero : Cm 0 1 0 0 0 := by
  refine ⟨by decide, ⟨1, by decide +kernel, by decide⟩, ⟨1, by decide +kernel, by decide⟩, ⟨0, by decide +kernel, by decide⟩, ⟨0, by decide +kernel, by decide⟩, ⟨0, by decide +kernel, by decide⟩⟩
theorem pow36 : ∀ k : Nat, (36 : Rat) ^ k = 6 ^ k * 6 ^ k
  | 0 => by decide +kernel
  | k + 1 => by rw [Rat.pow_succ, Rat.pow_succ, pow36 k]; grind
theorem pow216 : ∀ k : Nat, (216 : Rat) ^ k = 6 ^ k * 6 ^ k * 6 ^ k
  | 0 => by decide +kernel
  | k + 1 => by rw [Rat.pow_succ, Rat.pow_succ, pow216 k]; grind
theorem Cm.join {k : Nat} {u r s t v a b c : Rat} (h : Cm k u r s t) (hv : Sg v) (ha : Sm a) (hb : Sm b) (hc : Sm c) : Cm (k + 1) (u * v) (u * u * a + r) (u * b + s) (u * u * u * c + s * u * u * a + t) := by
  obtain ⟨u0, ⟨U, U1, U2⟩, ⟨V, V1, V2⟩, ⟨R, R1, R2⟩, ⟨S, S1, S2⟩, ⟨T, T1, T2⟩⟩ := h
  obtain ⟨v0, _, ⟨X, X1, X2⟩, ⟨Y, Y1, Y2⟩⟩ := hv
  obtain ⟨A, A1, A2⟩ := ha.sn
  obtain ⟨B, B1, B2⟩ := hb.sn
  obtain ⟨C, C1, C2⟩ := hc.sn
  have szA : szi A 9 := Nat.lt_of_le_of_lt A2 (by decide)
  have szB : szi B 9 := Nat.lt_of_le_of_lt B2 (by decide)
  have szC : szi C 9 := Nat.lt_of_le_of_lt C2 (by decide)
  have U2 : szi U (5 * k + 1) := U2.mono (by omega)
  have V2 : szi V (5 * k + 1) := V2.mono (by omega)
  have X2 : szi X 5 := X2.mono (by omega)
  have Y2 : szi Y 5 := Y2.mono (by omega)
  rw [Rat.pow_one] at X1 Y1
  have c6 : ((6 : Int) : Rat) = 6 := rfl
  rw [c6] at U1 V1 X1 Y1
  have huv : u * v ≠ 0 := fun h => by rcases Rat.mul_eq_zero.mp h with h | h; exact u0 h; exact v0 h
  have iuv : (u * v)⁻¹ = u⁻¹ * v⁻¹ := by rw [Rat.inv_mul_rev, Rat.mul_comm]
  have q36 := pow36 k
  have q216 := pow216 k
  have r36 : (36 : Rat) ^ (k + 1) = 6 ^ k * 6 ^ k * 36 := by rw [Rat.pow_succ, q36]
  have r216 : (216 : Rat) ^ (k + 1) = 6 ^ k * 6 ^ k * 6 ^ k * 216 := by rw [Rat.pow_succ, q216]
  have r6 : (6 : Rat) ^ (k + 1) = 6 ^ k * 6 := Rat.pow_succ _ _
  rw [q36] at R1
  rw [q216] at T1
  generalize (6 : Rat) ^ k = p at *
  refine ⟨huv, ⟨U * X, ?_, (U2.mul X2).mono (by omega)⟩, ⟨V * Y, ?_, (V2.mul Y2).mono (by omega)⟩, ⟨U * U * A * 36 + 36 * R, ?_, ?_⟩, ⟨U * B * 6 + 6 * S, ?_, ?_⟩, ⟨U * U * U * C * 12960 + S * (U * U) * A * 216 + 216 * T, ?_, ?_⟩⟩
  · rw [c6, r6, rc_mul, ← U1, ← X1]; grind
  · rw [c6, r6, iuv, rc_mul, ← V1, ← Y1]; grind
  · rw [r36]
    simp only [rc_mul, rc_add, ← U1, ← A1, ← R1]
    rw [show ((36 : Int) : Rat) = 36 from rfl]; grind
  · exact (((U2.mul U2).mul szA).mul (show szi 36 6 by decide)).sum ((show szi 36 6 by decide).mul R2) (by omega) (by omega)
  · rw [r6]
    simp only [rc_mul, rc_add, ← U1, ← B1, ← S1]
    rw [show ((6 : Int) : Rat) = 6 from rfl]; grind
  · exact ((U2.mul szB).mul (show szi 6 3 by decide)).sum ((show szi 6 3 by decide).mul S2) (by omega) (by omega)
  · rw [r216]
    simp only [rc_mul, rc_add, ← U1, ← A1, ← C1, ← S1, ← T1]
    rw [show ((12960 : Int) : Rat) = 12960 from rfl, show ((216 : Int) : Rat) = 216 from rfl]; grind
  · exact (((((U2.mul U2).mul U2).mul szC).mul (show szi 12960 14 by decide)).sum (((S2.mul (U2.mul U2)).mul szA).mul (show szi 216 8 by decide)) (c := 15 * k + 29) (by omega) (by omega)).sum ((show szi 216 8 by decide).mul T2) (by omega) (by omega)

/-- over a power: how many bits -/
theorem hz_over {q : Rat} {b : Nat} {D N : Int} {n d : Nat} (hD : (D : Rat) ≠ 0) (h : q * D = N) (hN : szi N n) (hd : szi D d) (h1 : n ≤ b) (h2 : d ≤ b) (hb : 0 < b) : hz q ≤ b := by
  have e : q = Rat.divInt N D := by
    rw [Rat.divInt_eq_div, ← h]
    grind
  refine hz_le hb ?_
  rw [e]
  exact sz_divInt (hN.mono h1) (hd.mono h2) hb
theorem Cm.b4 {k : Nat} {u r s t : Rat} (h : Cm k u r s t) (hk : k ≤ 5) : (hz u ≤ 27 ∧ hz r ≤ 65) ∧ hz s ≤ 40 ∧ hz t ≤ 92 := by
  obtain ⟨u0, hu, hv, ⟨R, R1, R2⟩, ⟨S, S1, S2⟩, ⟨T, T1, T2⟩⟩ := h
  have s6 : ∀ (i : Int) (w : Nat), szi i w → szi (i ^ k) (w * k + 1) := fun i w h => szi_pow h k
  have ne : ∀ i : Int, i ≠ 0 → ((i ^ k : Int) : Rat) ≠ 0 := fun i hi h => by
    have : i ^ k = 0 := by exact_mod_cast h
    exact Int.pow_ne_zero hi this
  have cast : ∀ (c i : Int), ((c * i ^ k : Int) : Rat) = (c : Rat) * (i : Rat) ^ k := fun c i => by rw [rc_mul, rc_pow]
  have nz : ∀ (c i : Int), c ≠ 0 → i ≠ 0 → ((c * i ^ k : Int) : Rat) ≠ 0 := fun c i hc hi h => by
    have : c * i ^ k = 0 := by exact_mod_cast h
    rcases Int.mul_eq_zero.mp this with h | h
    · exact hc h
    · exact Int.pow_ne_zero hi h
  refine ⟨⟨Nat.le_trans (hu.hz (by decide) (by decide)) (by omega), ?_⟩, ?_, ?_⟩
  · exact hz_over (D := 60 * 36 ^ k) (nz 60 36 (by decide) (by decide)) (by rw [cast]; exact R1) R2 ((show szi 60 6 by decide).mul (s6 36 6 (by decide))) (by omega) (by omega) (by omega)
  · exact hz_over (D := 60 * 6 ^ k) (nz 60 6 (by decide) (by decide)) (by rw [cast]; exact S1) S2 ((show szi 60 6 by decide).mul (s6 6 3 (by decide))) (by omega) (by omega) (by omega)
  · exact hz_over (D := 3600 * 216 ^ k) (nz 3600 216 (by decide) (by decide)) (by rw [cast]; exact T1) T2 ((show szi 3600 12 by decide).mul (s6 216 8 (by decide))) (by omega) (by omega) (by omega)
theorem Cm.b {k : Nat} {u r s t : Rat} (h : Cm k u r s t) (hk : k ≤ 5) : B4 100 u r s t := by
  have := h.b4 hk
  exact ⟨by omega, by omega, by omega, by omega⟩
theorem Cm.undo {k : Nat} {u r s t : Rat} (h : Cm k u r s t) (hk : k ≤ 5) : B4 300 u⁻¹ (-r * u⁻¹ ^ 2) (-s * u⁻¹ ^ 1) ((r * s - t) * u⁻¹ ^ 3) := by
  have b := h.b4 hk
  have i := hz_inv u
  refine ⟨by omega, ?_, ?_, ?_⟩
  · have := hz_mul (-r) (u⁻¹ ^ 2); have := hz_pow u⁻¹ 2; have := hz_neg r; omega
  · have := hz_mul (-s) (u⁻¹ ^ 1); have := hz_pow u⁻¹ 1; have := hz_neg s; omega
  · have := hz_mul (r * s - t) (u⁻¹ ^ 3); have := hz_pow u⁻¹ 3; have := hz_sub (r * s) t; have := hz_mul r s; omega

theorem ev_led {a1 a2 a3 a4 a6 u v r s t x y : Rat} (h : u * v = 1) : ev a1 a2 a3 a4 a6 (u * u * x + r) (u * u * u * y + s * u * u * x + t) = u ^ 6 * ev (l1 a1 v s) (l2 a1 a2 v r s) (l3 a1 a3 v r t) (l4 a1 a2 a3 a4 v r s t) (l6 a1 a2 a3 a4 a6 v r t) x y := by
  unfold ev l1 l2 l3 l4 l6
  grind

/-- what the last undone leaves -/
theorem join_undo {u r s t v a b c : Rat} (hv : v ≠ 0) : u * v * v⁻¹ = u ∧ u * v * (u * v) * (-a * v⁻¹ ^ 2) + (u * u * a + r) = r ∧ u * v * (-b * v⁻¹ ^ 1) + (u * b + s) = s ∧
    u * v * (u * v) * (u * v) * ((a * b - c) * v⁻¹ ^ 3) + (u * b + s) * (u * v) * (u * v) * (-a * v⁻¹ ^ 2) + (u * u * u * c + s * u * u * a + t) = t := by
  have := Rat.mul_inv_cancel v hv
  refine ⟨?_, ?_, ?_, ?_⟩ <;> grind
/-- a row of drawn changes and what they come to -/
inductive Stk : List (Rat × Rat × Rat × Rat) → Rat → Rat → Rat → Rat → Prop
  | nil : Stk [] 1 0 0 0
  | push {l : List (Rat × Rat × Rat × Rat)} {u r s t v a b c : Rat} : Stk l u r s t → Sg v → Sm a → Sm b → Sm c → Stk (l ++ [(v, a, b, c)]) (u * v) (u * u * a + r) (u * b + s) (u * u * u * c + s * u * u * a + t)
def chP (g : Rat × Rat × Rat × Rat) : P := .tup [fq g.1, fq g.2.1, fq g.2.2.1, fq g.2.2.2]
theorem Stk.cm {l : List (Rat × Rat × Rat × Rat)} {u r s t : Rat} (h : Stk l u r s t) : Cm l.length u r s t := by
  induction h with
  | nil => exact Cm.zero
  | push h hv ha hb hc ih =>
    rw [List.length_append]
    exact ih.join hv ha hb hc
theorem Stk.cv {W : Int} {a1 a2 a3 a4 a6 : Rat} (cv : Cv W 44 a1 a2 a3 a4 a6) {l : List (Rat × Rat × Rat × Rat)} {u r s t : Rat} (h : Stk l u r s t) : ∃ W', Cv W' (44 + 61 * l.length) (l1 a1 u⁻¹ s) (l2 a1 a2 u⁻¹ r s) (l3 a1 a3 u⁻¹ r t) (l4 a1 a2 a3 a4 u⁻¹ r s t) (l6 a1 a2 a3 a4 a6 u⁻¹ r t) := by
  induction h with
  | nil =>
    have i : (1 : Rat)⁻¹ = 1 := by decide +kernel
    have e1 : l1 a1 1 0 = a1 := by unfold l1; grind
    have e2 : l2 a1 a2 1 0 0 = a2 := by unfold l2; grind
    have e3 : l3 a1 a3 1 0 0 = a3 := by unfold l3; grind
    have e4 : l4 a1 a2 a3 a4 1 0 0 0 = a4 := by unfold l4; grind
    have e6 : l6 a1 a2 a3 a4 a6 1 0 0 = a6 := by unfold l6; grind
    rw [i, e1, e2, e3, e4, e6]
    exact ⟨W, cv⟩
  | push h hv ha hb hc ih =>
    obtain ⟨W', c⟩ := ih
    rename_i l u r s t v a b c'
    have hu := h.cm.u0
    have vu := Rat.mul_inv_cancel u hu
    have iuv : (u * v)⁻¹ = u⁻¹ * v⁻¹ := by rw [Rat.inv_mul_rev, Rat.mul_comm]
    have c2 := c.led (cg_of hv ha hb hc) (by decide) (by decide)
    rw [iuv, ← l1_both vu, ← l2_both vu, ← l3_both vu, ← l4_both vu, ← l6_both vu, List.length_append]
    exact ⟨_, by
      have e : 44 + 61 * l.length + 3 * 9 + 6 * 5 + 4 = 44 + 61 * (l.length + 1) := by omega
      rw [e] at c2
      exact c2⟩
theorem Stk.last {l : List (Rat × Rat × Rat × Rat)} {u r s t : Rat} (h : Stk l u r s t) (hl : l ≠ []) : ∃ l' v a b c u' r' s' t', l = l' ++ [(v, a, b, c)] ∧ Stk l' u' r' s' t' ∧ Sg v ∧ Sm a ∧ Sm b ∧ Sm c ∧ u = u' * v ∧ r = u' * u' * a + r' ∧ s = u' * b + s' ∧ t = u' * u' * u' * c + s' * u' * u' * a + t' := by
  cases h with
  | nil => exact absurd rfl hl
  | push h hv ha hb hc => exact ⟨_, _, _, _, _, _, _, _, _, rfl, h, hv, ha, hb, hc, rfl, rfl, rfl, rfl⟩

/-! ### the row as an object behind the draws' two -/
theorem ls_end (rn tn : Int) (cells : List Int) (rest : S) (xs : List P) : lsAt (rest.length + 2) (mk2 rn tn cells (rest ++ [some (.lst xs)])) = some xs := by
  unfold lsAt mk2
  rw [List.getElem?_cons_succ, List.getElem?_cons_succ, List.getElem?_append_right (Nat.le_refl _), Nat.sub_self]
  rfl
theorem set_end (rn tn : Int) (cells : List Int) (rest : S) (xs ys : List P) : (mk2 rn tn cells (rest ++ [some (.lst xs)])).set (rest.length + 2) (some (.lst ys)) = mk2 rn tn cells (rest ++ [some (.lst ys)]) := by
  unfold mk2
  rw [List.set_cons_succ, List.set_cons_succ, List.set_append_right _ _ (Nat.le_refl _), Nat.sub_self]
  rfl
theorem mk2_length (rn tn : Int) (cells : List Int) (rest : S) : List.length (mk2 rn tn cells rest) = rest.length + 2 := rfl
theorem mk2_app (rn tn : Int) (cells : List Int) (rest r : S) : mk2 rn tn cells rest ++ r = mk2 rn tn cells (rest ++ r) := rfl
theorem toPys_ch : ∀ l : List (Rat × Rat × Rat × Rat), toPys (l.map chP) = some (l.map fun g => PyData.tuple [fqPy g.1, fqPy g.2.1, fqPy g.2.2.1, fqPy g.2.2.2])
  | [] => rfl
  | g :: l => toPys_cons (toPy_tup (toPys_fq [g.1, g.2.1, g.2.2.1, g.2.2.2])) (toPys_ch l)
theorem rows_ne_nil {n : Nat} {s : S} {l : List (Rat × Rat × Rat × Rat)} (h : lsAt n s = some (l.map chP)) : eqD true (.obj n) (.p (.lst [])) s = .ok (.p (.bl (!l.isEmpty))) s := by
  have e : toPyD (.obj n) s = some (.list (l.map fun g => PyData.tuple [fqPy g.1, fqPy g.2.1, fqPy g.2.2.1, fqPy g.2.2.2])) := by
    unfold lsAt at h
    unfold toPyD
    split at h
    · rename_i xs hx
      dsimp only
      rw [hx]
      dsimp only
      rw [Option.some.inj h, toPys_ch]
      rfl
    · cases h
  have c : Cp (.list (l.map fun g => PyData.tuple [fqPy g.1, fqPy g.2.1, fqPy g.2.2.1, fqPy g.2.2.2])) 3 := Cp.lst fun d hd => by
    obtain ⟨g, _, rfl⟩ := List.mem_map.mp hd
    exact Cp.tfq [g.1, g.2.1, g.2.2.1, g.2.2.2]
  rw [eq_dat true e rfl ⟨c.shaped (by decide), rfl⟩]
  cases l with
  | nil => rfl
  | cons g l =>
    have : PyData.eqv (.list ((g :: l).map fun g => PyData.tuple [fqPy g.1, fqPy g.2.1, fqPy g.2.2.1, fqPy g.2.2.2])) (.list []) = false := by simp [PyData.eqv, PyData.eqvAll]
    rw [this]
    rfl

noncomputable def INB : SF := (seqF (asgF ((calE m_Lchange [vE 1])) (setG 10)) (seqF (iffF (andT (tB (op2 (eqD true) (vE 8) ((lstE [])))) (tB (op2 (eqD false) ((calE m_Ldraw [vE 1, cE (.int 3)])) (cE (.int 0))))) (asgF ((calE m_undone [(metE popD (vE 8) [])])) (setG 10)) (expF ((metE appD (vE 8) [vE 10])))) (seqF (asgF (lcE true (rowI (vE 6)) [11] (setG 11) yesT ((calE m_led_point [vE 5, vE 11, vE 10]))) (setG 6)) (tasF [(calE m_led [vE 5, vE 10]), (calE m_joined [vE 7, vE 10])] (consT (setG 5) (consT (setG 7) nilT))))))
theorem on_led {a1 a2 a3 a4 a6 u r s t x y : Rat} (hu : u ≠ 0) (hon : ev a1 a2 a3 a4 a6 x y = 0) : ev (l1 a1 u⁻¹ s) (l2 a1 a2 u⁻¹ r s) (l3 a1 a3 u⁻¹ r t) (l4 a1 a2 a3 a4 u⁻¹ r s t) (l6 a1 a2 a3 a4 a6 u⁻¹ r t) (px u r x) (py u r s t x y) = 0 := by
  have vu := Rat.mul_inv_cancel u hu
  have o1 : u * u * px u r x + r = x := by unfold px; grind
  have o2 : u * u * u * py u r s t x y + s * u * u * px u r x + t = y := by unfold py px; grind
  have EL := ev_led (a1 := a1) (a2 := a2) (a3 := a3) (a4 := a4) (a6 := a6) (r := r) (s := s) (t := t) (x := px u r x) (y := py u r s t x y) vu
  rw [o1, o2, hon] at EL
  generalize ev (l1 a1 u⁻¹ s) (l2 a1 a2 u⁻¹ r s) (l3 a1 a3 u⁻¹ r t) (l4 a1 a2 a3 a4 u⁻¹ r s t) (l6 a1 a2 a3 a4 a6 u⁻¹ r t) (px u r x) (py u r s t x y) = z at *
  grind
theorem p_both {u r s t v a b c x y : Rat} (hu : u ≠ 0) (hv : v ≠ 0) : px v a (px u r x) = px (u * v) (u * u * a + r) x ∧ py v a b c (px u r x) (py u r s t x y) = py (u * v) (u * u * a + r) (u * b + s) (u * u * u * c + s * u * u * a + t) x y := by
  have vu := Rat.mul_inv_cancel u hu
  have vv := Rat.mul_inv_cancel v hv
  have iuv : (u * v)⁻¹ = u⁻¹ * v⁻¹ := by rw [Rat.inv_mul_rev, Rat.mul_comm]
  unfold px py
  rw [iuv]
  constructor <;> grind
theorem p_hz {k : Nat} {u r s t x y : Rat} (h : Cm k u r s t) (hk : k ≤ 5) (hx : hz x ≤ 10) (hy : hz y ≤ 10) : hz (px u r x) ≤ 400 ∧ hz (py u r s t x y) ≤ 400 := by
  have b := h.b4 hk
  constructor
  · have := hz_mul (x - r) (u⁻¹ ^ 2); have := hz_pow u⁻¹ 2; have := hz_inv u; have := hz_sub x r
    unfold px
    omega
  · have := hz_mul (y - s * x + s * r - t) (u⁻¹ ^ 3); have := hz_pow u⁻¹ 3; have := hz_inv u
    have := hz_sub (y - s * x + s * r) t; have := hz_add (y - s * x) (s * r); have := hz_sub y (s * x); have := hz_mul s x; have := hz_mul s r
    unfold py
    omega
theorem dd_nz {a1 a2 a3 a4 a6 u r s t : Rat} (hu : u ≠ 0) (hD : dd a1 a2 a3 a4 a6 ≠ 0) : dd (l1 a1 u⁻¹ s) (l2 a1 a2 u⁻¹ r s) (l3 a1 a3 u⁻¹ r t) (l4 a1 a2 a3 a4 u⁻¹ r s t) (l6 a1 a2 a3 a4 a6 u⁻¹ r t) ≠ 0 := by
  have vu := Rat.mul_inv_cancel u hu
  rw [dd_led]; grind

section
variable {W : Int} {a1 a2 a3 a4 a6 x y f g : Rat}
/-- the curve, the spots, the change of all, led by a row -/
def nowP (a1 a2 a3 a4 a6 u r s t : Rat) : P := .tup [fq (l1 a1 u⁻¹ s), fq (l2 a1 a2 u⁻¹ r s), fq (l3 a1 a3 u⁻¹ r t), fq (l4 a1 a2 a3 a4 u⁻¹ r s t), fq (l6 a1 a2 a3 a4 a6 u⁻¹ r t)]
def seenP (x y f g u r s t : Rat) : P := .lst [.tup [fq (px u r x), fq (py u r s t x y)], .tup [fq (px u r f), fq (py u r s t f g)]]
/-- one change more -/
theorem applied (cv : Cv W 44 a1 a2 a3 a4 a6) (hD : dd a1 a2 a3 a4 a6 ≠ 0) (hx : hz x ≤ 10) (hy : hz y ≤ 10) (hf : hz f ≤ 10) (hg : hz g ≤ 10) (p1 : ev a1 a2 a3 a4 a6 x y = 0) (p2 : ev a1 a2 a3 a4 a6 f g = 0)
    {l : List (Rat × Rat × Rat × Rat)} {u r s t v a b c : Rat} (h : Stk l u r s t) (hl : l.length ≤ 5) (hv : v ≠ 0) (B : B4 100 v a b c) (σ : S) :
    m_led [.p (nowP a1 a2 a3 a4 a6 u r s t), .p (.tup [fq v, fq a, fq b, fq c])] σ = .ok (.p (nowP a1 a2 a3 a4 a6 (u * v) (u * u * a + r) (u * b + s) (u * u * u * c + s * u * u * a + t))) σ ∧
    m_joined [.p (.tup [fq u, fq r, fq s, fq t]), .p (.tup [fq v, fq a, fq b, fq c])] σ = .ok (.p (.tup [fq (u * v), fq (u * u * a + r), fq (u * b + s), fq (u * u * u * c + s * u * u * a + t)])) σ ∧
    m_led_point [.p (nowP a1 a2 a3 a4 a6 u r s t), .p (.tup [fq (px u r x), fq (py u r s t x y)]), .p (.tup [fq v, fq a, fq b, fq c])] σ = .ok (.p (.tup [fq (px (u * v) (u * u * a + r) x), fq (py (u * v) (u * u * a + r) (u * b + s) (u * u * u * c + s * u * u * a + t) x y)])) σ ∧
    m_led_point [.p (nowP a1 a2 a3 a4 a6 u r s t), .p (.tup [fq (px u r f), fq (py u r s t f g)]), .p (.tup [fq v, fq a, fq b, fq c])] σ = .ok (.p (.tup [fq (px (u * v) (u * u * a + r) f), fq (py (u * v) (u * u * a + r) (u * b + s) (u * u * u * c + s * u * u * a + t) f g)])) σ := by
  have m := h.cm
  have hu := m.u0
  have vu := Rat.mul_inv_cancel u hu
  have iuv : (u * v)⁻¹ = u⁻¹ * v⁻¹ := by rw [Rat.inv_mul_rev, Rat.mul_comm]
  obtain ⟨W', c'⟩ := h.cv cv
  have hD1 := dd_nz (r := r) (s := s) (t := t) hu hD
  have up : ∀ {J K : Nat} {u r s t : Rat}, B4 J u r s t → J ≤ K → B4 K u r s t := fun h hJ => ⟨Nat.le_trans h.ku hJ, Nat.le_trans h.kr hJ, Nat.le_trans h.ks hJ, Nat.le_trans h.kt hJ⟩
  have B3 := up B (show 100 ≤ 300 by decide)
  have d := led_ok c' (by omega) hD1 hv B3.ku B3.kr B3.ks B3.kt σ
  rw [l1_both vu, l2_both vu, l3_both vu, l4_both vu, l6_both vu, ← iuv] at d
  have j := joined_ok (up (m.b hl) (show 100 ≤ 600 by decide)) (up B (show 100 ≤ 600 by decide)) hu hv σ
  have q1 := p_hz (x := x) (y := y) m hl hx hy
  have q2 := p_hz (x := f) (y := g) m hl hf hg
  have e1 := led_point_ok c' (by omega) hD1 hv B3 q1.1 q1.2 (on_led hu p1) σ
  have e2 := led_point_ok c' (by omega) hD1 hv B3 q2.1 q2.2 (on_led hu p2) σ
  have b1 := p_both (r := r) (s := s) (t := t) (a := a) (b := b) (c := c) (x := x) (y := y) hu hv
  have b2 := p_both (r := r) (s := s) (t := t) (a := a) (b := b) (c := c) (x := f) (y := g) hu hv
  rw [b1.1, b1.2] at e1
  rw [b2.1, b2.2] at e2
  exact ⟨d, j, e1, e2⟩
end

section
variable {W : Int} {a1 a2 a3 a4 a6 x y f g : Rat}
def allP (u r s t : Rat) : P := .tup [fq u, fq r, fq s, fq t]
noncomputable def INE : SF := (seqF (asgF (lcE true (rowI (vE 6)) [11] (setG 11) yesT ((calE m_led_point [vE 5, vE 11, vE 10]))) (setG 6)) (tasF [(calE m_led [vE 5, vE 10]), (calE m_joined [vE 7, vE 10])] (consT (setG 5) (consT (setG 7) nilT))))
theorem ine_ok (cv : Cv W 44 a1 a2 a3 a4 a6) (hD : dd a1 a2 a3 a4 a6 ≠ 0) (hx : hz x ≤ 10) (hy : hz y ≤ 10) (hf : hz f ≤ 10) (hg : hz g ≤ 10) (p1 : ev a1 a2 a3 a4 a6 x y = 0) (p2 : ev a1 a2 a3 a4 a6 f g = 0)
    {l : List (Rat × Rat × Rat × Rat)} {u r s t v a b c : Rat} (h : Stk l u r s t) (hl : l.length ≤ 5) (hv : v ≠ 0) (B : B4 100 v a b c) (σ : S) (x0 x1 x2 x3 x4 x8 x9 x11 x12 x13 x14 x15 : Option D) :
    INE [x0, x1, x2, x3, x4, some (.p (nowP a1 a2 a3 a4 a6 u r s t)), some (.p (seenP x y f g u r s t)), some (.p (allP u r s t)), x8, x9, some (.p (.tup [fq v, fq a, fq b, fq c])), x11, x12, x13, x14, x15] σ =
      .ok (.nx [x0, x1, x2, x3, x4, some (.p (nowP a1 a2 a3 a4 a6 (u * v) (u * u * a + r) (u * b + s) (u * u * u * c + s * u * u * a + t))), some (.p (seenP x y f g (u * v) (u * u * a + r) (u * b + s) (u * u * u * c + s * u * u * a + t))), some (.p (allP (u * v) (u * u * a + r) (u * b + s) (u * u * u * c + s * u * u * a + t))), x8, x9, some (.p (.tup [fq v, fq a, fq b, fq c])), x11, x12, x13, x14, x15]) σ := by
  obtain ⟨d, j, e1, e2⟩ := applied cv hD hx hy hf hg p1 p2 h hl hv B σ
  generalize nowP a1 a2 a3 a4 a6 u r s t = NP at *
  generalize nowP a1 a2 a3 a4 a6 (u * v) (u * u * a + r) (u * b + s) (u * u * u * c + s * u * u * a + t) = NQ at *
  have hlc := lcE_ev (fr := true) (i := rowI (vE 6)) (own := [11]) (tg := setG 11) (c := yesT) (m := calE m_led_point [vE 5, vE 11, vE 10])
    (ρ := [x0, x1, x2, x3, x4, some (.p NP), some (.p (seenP x y f g u r s t)), some (.p (allP u r s t)), x8, x9, some (.p (.tup [fq v, fq a, fq b, fq c])), x11, x12, x13, x14, x15]) (s := σ)
  rw [rowI_lst (xs := [.tup [fq (px u r x), fq (py u r s t x y)], .tup [fq (px u r f), fq (py u r s t f g)]]) (s' := σ) rfl, R.bind_ok] at hlc
  have v11 : ∀ (d0 d1 d2 d3 d4 d5 d6 d7 d8 d9 d10 : Option D) (z : D) (rr : En) (s : S), vE 11 (d0 :: d1 :: d2 :: d3 :: d4 :: d5 :: d6 :: d7 :: d8 :: d9 :: d10 :: some z :: rr) s = .ok z s := fun _ _ _ _ _ _ _ _ _ _ _ _ _ _ => rfl
  have v10 : ∀ (d0 d1 d2 d3 d4 d5 d6 d7 d8 d9 : Option D) (z : D) (rr : En) (s : S), vE 10 (d0 :: d1 :: d2 :: d3 :: d4 :: d5 :: d6 :: d7 :: d8 :: d9 :: some z :: rr) s = .ok z s := fun _ _ _ _ _ _ _ _ _ _ _ _ _ => rfl
  simp [lcL_cons, lcL_nil, sizeLine_eq, v11, v10, e1, e2, allP, seenP] at hlc
  simp [INE, hlc, v10, d, allP, j, seenP]
end
section
variable {W : Int} {a1 a2 a3 a4 a6 x y f g : Rat}
theorem inner_ok (cv : Cv W 44 a1 a2 a3 a4 a6) (hD : dd a1 a2 a3 a4 a6 ≠ 0) (hx : hz x ≤ 10) (hy : hz y ≤ 10) (hf : hz f ≤ 10) (hg : hz g ≤ 10) (p1 : ev a1 a2 a3 a4 a6 x y = 0) (p2 : ev a1 a2 a3 a4 a6 f g = 0)
    {l : List (Rat × Rat × Rat × Rat)} {u r s t : Rat} (h : Stk l u r s t) (hl : l.length ≤ 4) (rn tn : Int) (cells : List Int) (rest : S) (x0 x2 x3 x4 x9 x10 x11 x12 x13 x14 x15 : Option D) :
    ∃ (l' : List (Rat × Rat × Rat × Rat)) (u' r' s' t' : Rat) (y10 : Option D) (rn' tn' : Int) (cells' : List Int), Stk l' u' r' s' t' ∧ l'.length ≤ l.length + 1 ∧
      INB [x0, some (.obj 0), x2, x3, x4, some (.p (nowP a1 a2 a3 a4 a6 u r s t)), some (.p (seenP x y f g u r s t)), some (.p (allP u r s t)), some (.obj (rest.length + 2)), x9, x10, x11, x12, x13, x14, x15] (mk2 rn tn cells (rest ++ [some (.lst (l.map chP))])) =
      .ok (.nx [x0, some (.obj 0), x2, x3, x4, some (.p (nowP a1 a2 a3 a4 a6 u' r' s' t')), some (.p (seenP x y f g u' r' s' t')), some (.p (allP u' r' s' t')), some (.obj (rest.length + 2)), x9, y10, x11, x12, x13, x14, x15]) (mk2 rn' tn' cells' (rest ++ [some (.lst (l'.map chP))])) := by
  have v10 : ∀ (d0 d1 d2 d3 d4 d5 d6 d7 d8 d9 : Option D) (z : D) (rr : En) (s : S), vE 10 (d0 :: d1 :: d2 :: d3 :: d4 :: d5 :: d6 :: d7 :: d8 :: d9 :: some z :: rr) s = .ok z s := fun _ _ _ _ _ _ _ _ _ _ _ _ _ => rfl
  obtain ⟨v, a, b, c, r1, t1, c1, sv, sa, sb, sc, e1⟩ := Lchange_ok rn tn cells (rest ++ [some (.lst (l.map chP))])
  have B := b4_of sv sa sb sc
  have B1 : B4 100 v a b c := ⟨Nat.le_trans B.ku (by decide), Nat.le_trans B.kr (by decide), Nat.le_trans B.ks (by decide), Nat.le_trans B.kt (by decide)⟩
  have lsn := ls_end r1 t1 c1 rest (l.map chP)
  have nn := rows_ne_nil lsn
  have hlen : (l.map chP).length < sizeLine := by rw [List.length_map, sizeLine_eq]; omega
  have push : ∀ (rn tn : Int) (cells : List Int), appk (some (l.map chP)) (rest.length + 2) (.tup [fq v, fq a, fq b, fq c]) (mk2 rn tn cells (rest ++ [some (.lst (l.map chP))])) = .ok (.p .non) (mk2 rn tn cells (rest ++ [some (.lst ((l ++ [(v, a, b, c)]).map chP))])) := fun rn tn cells => by
    rw [appk_some, if_pos hlen, set_end, List.map_append]
    rfl
  have hI : INB = seqF (asgF (calE m_Lchange [vE 1]) (setG 10)) (seqF (iffF (andT (tB (op2 (eqD true) (vE 8) (lstE []))) (tB (op2 (eqD false) (calE m_Ldraw [vE 1, cE (.int 3)]) (cE (.int 0))))) (asgF (calE m_undone [metE popD (vE 8) []]) (setG 10)) (expF (metE appD (vE 8) [vE 10]))) INE) := rfl
  have E := ine_ok cv hD hx hy hf hg p1 p2 h (by omega) sv.1 B1
  by_cases h0 : l = []
  · refine ⟨_, _, _, _, _, some (.p (.tup [fq v, fq a, fq b, fq c])), r1, t1, c1, .push h sv sa sb sc, by simp, ?_⟩
    have hem : l.isEmpty = true := by rw [h0]; rfl
    rw [hI]
    simp [e1, nn, hem, v10, its_obj, lsn, push, E]
  · have hem : l.isEmpty = false := by cases l with
      | nil => exact absurd rfl h0
      | cons _ _ => rfl
    obtain ⟨d, r2, c2, d0, d1, e2⟩ := Ldraw_ok r1 t1 3 c1 (rest ++ [some (.lst (l.map chP))]) (by decide) (szi.mono (a := 64) (by decide) (by decide))
    have lsn2 := ls_end r2 (t1 + 1) c2 rest (l.map chP)
    by_cases hd : d = 0
    · obtain ⟨l', v', a', b', c', u', r', s', t', rfl, h', sv', sa', sb', sc', rfl, rfl, rfl, rfl⟩ := h.last h0
      have B' := b4_of sv' sa' sb' sc'
      have up : ∀ {J K : Nat} {u r s t : Rat}, B4 J u r s t → J ≤ K → B4 K u r s t := fun h hJ => ⟨Nat.le_trans h.ku hJ, Nat.le_trans h.kr hJ, Nat.le_trans h.ks hJ, Nat.le_trans h.kt hJ⟩
      have hvi : v'⁻¹ ≠ 0 := fun hh => by have := Rat.mul_inv_cancel v' sv'.1; rw [hh] at this; grind
      have n1 := undone_ok (up B' (show 10 ≤ 600 by decide)) sv'.1 (mk2 r2 (t1 + 1) c2 (rest ++ [some (.lst (l'.map chP))]))
      have E2 := ine_ok cv hD hx hy hf hg p1 p2 h (by omega) hvi (up B'.undo (show 8 * 10 + 2 ≤ 100 by decide))
      obtain ⟨j1, j2, j3, j4⟩ := join_undo (u := u') (r := r') (s := s') (t := t') (a := a') (b := b') (c := c') sv'.1
      rw [j1, j2, j3, j4] at E2
      have pop : popk (some ((l' ++ [(v', a', b', c')]).map chP)) (rest.length + 2) (mk2 r2 (t1 + 1) c2 (rest ++ [some (.lst ((l' ++ [(v', a', b', c')]).map chP))])) = .ok (.p (.tup [fq v', fq a', fq b', fq c'])) (mk2 r2 (t1 + 1) c2 (rest ++ [some (.lst (l'.map chP))])) := by
        unfold popk
        dsimp only
        rw [List.map_append]
        simp [set_end, chP]
      refine ⟨l', u', r', s', t', some (.p (.tup [fq v'⁻¹, fq (-a' * v'⁻¹ ^ 2), fq (-b' * v'⁻¹ ^ 1), fq ((a' * b' - c') * v'⁻¹ ^ 3)])), r2, t1 + 1, c2, h', by simp; omega, ?_⟩
      rw [hI]
      simp [e1, nn, hem, e2, hd, its_obj, lsn2, pop, n1, E2, -Rat.pow_one, -List.map_append]
    · refine ⟨_, _, _, _, _, some (.p (.tup [fq v, fq a, fq b, fq c])), r2, t1 + 1, c2, .push h sv sa sb sc, by simp, ?_⟩
      rw [hI]
      simp [e1, nn, hem, e2, hd, v10, its_obj, lsn2, push, E]
end

section
variable {W : Int} {a1 a2 a3 a4 a6 x y f g : Rat}
theorem inner_loop (cv : Cv W 44 a1 a2 a3 a4 a6) (hD : dd a1 a2 a3 a4 a6 ≠ 0) (hx : hz x ≤ 10) (hy : hz y ≤ 10) (hf : hz f ≤ 10) (hg : hz g ≤ 10) (p1 : ev a1 a2 a3 a4 a6 x y = 0) (p2 : ev a1 a2 a3 a4 a6 f g = 0) (rest : S) (x0 x2 x3 x4 x11 x12 x13 x14 x15 : Option D) :
    ∀ (xs : List P) {l : List (Rat × Rat × Rat × Rat)} {u r s t : Rat} (h : Stk l u r s t) (hl : l.length + xs.length ≤ 5) (rn tn : Int) (cells : List Int) (x9 x10 : Option D),
    ∃ (l' : List (Rat × Rat × Rat × Rat)) (u' r' s' t' : Rat) (y9 y10 : Option D) (rn' tn' : Int) (cells' : List Int), Stk l' u' r' s' t' ∧ l'.length ≤ 5 ∧
      forL [] (setG 9) INB xs [x0, some (.obj 0), x2, x3, x4, some (.p (nowP a1 a2 a3 a4 a6 u r s t)), some (.p (seenP x y f g u r s t)), some (.p (allP u r s t)), some (.obj (rest.length + 2)), x9, x10, x11, x12, x13, x14, x15] (mk2 rn tn cells (rest ++ [some (.lst (l.map chP))])) =
      .ok (.nx [x0, some (.obj 0), x2, x3, x4, some (.p (nowP a1 a2 a3 a4 a6 u' r' s' t')), some (.p (seenP x y f g u' r' s' t')), some (.p (allP u' r' s' t')), some (.obj (rest.length + 2)), y9, y10, x11, x12, x13, x14, x15]) (mk2 rn' tn' cells' (rest ++ [some (.lst (l'.map chP))]))
  | [], l, u, r, s, t, h, hl, rn, tn, cells, x9, x10 => ⟨l, u, r, s, t, x9, x10, rn, tn, cells, h, by simpa using hl, forL_nil⟩
  | z :: xs, l, u, r, s, t, h, hl, rn, tn, cells, x9, x10 => by
    have hl' : l.length + (xs.length + 1) ≤ 5 := hl
    obtain ⟨l1', u1, r1, s1, t1, y10, rn1, tn1, c1, h1, g1, e1⟩ := inner_ok cv hD hx hy hf hg p1 p2 h (by omega) rn tn cells rest x0 x2 x3 x4 (some (.p z)) x10 x11 x12 x13 x14 x15
    obtain ⟨l2', u2, r2, s2, t2, w9, w10, rn2, tn2, c2, h2, g2, e2⟩ := inner_loop cv hD hx hy hf hg p1 p2 rest x0 x2 x3 x4 x11 x12 x13 x14 x15 xs h1 (by omega) rn1 tn1 c1 (some (.p z)) y10
    refine ⟨l2', u2, r2, s2, t2, w9, w10, rn2, tn2, c2, h2, g2, ?_⟩
    rw [forL_cons, setG_ev, R.bind_ok]
    show R.bind (INB [x0, some (.obj 0), x2, x3, x4, some (.p (nowP a1 a2 a3 a4 a6 u r s t)), some (.p (seenP x y f g u r s t)), some (.p (allP u r s t)), some (.obj (rest.length + 2)), some (.p z), x10, x11, x12, x13, x14, x15] _) _ = _
    rw [e1, R.bind_ok, fork_nx]
    exact e2
end

theorem through_wide {W : Int} {n : Nat} {a b c x y f u : Rat} (cv : Cv W n a b c (w4 a b c x y f u) (w6 a b c x y f u)) (hn : n ≤ 370) (ka : hz a ≤ 350) (kb : hz b ≤ 350) (kc : hz c ≤ 350) (kx : hz x ≤ 135) (ky : hz y ≤ 345) (kf : hz f ≤ 135) (ku : hz u ≤ 345) (hne : x ≠ f) (σ : S) :
    m_through [.p (fq a), .p (fq b), .p (fq c), .p (.tup [fq x, fq y]), .p (.tup [fq f, fq u])] σ = .ok (.p (thR a b c (w4 a b c x y f u) (w6 a b c x y f u))) σ := by
  have f0 : fq 0 = .int 0 := rfl
  have z0 : hz 0 ≤ 350 := by decide
  have k4 := cv.h4.hz cv.W0 cv.hw
  have hxf : x - f ≠ 0 := by grind
  have o1 := off_by_ok (H := 350) (K := 345) ka kb kc z0 z0 (Nat.le_trans kx (by decide)) ky (by decide) σ
  have o2 := off_by_ok (H := 350) (K := 345) ka kb kc z0 z0 (Nat.le_trans kf (by decide)) ku (by decide) σ
  rw [vs_ev, f0] at o1 o2
  have g1 : ∀ x y, hz x ≤ 135 → hz y ≤ 345 → hz (vs a b c x y) ≤ 3300 := fun x y kx ky => by
    unfold vs
    have := hz_sub (y * y + a * x * y + c * y - x * x * x) (b * x * x); have := hz_sub (y * y + a * x * y + c * y) (x * x * x); have := hz_add (y * y + a * x * y) (c * y); have := hz_add (y * y) (a * x * y)
    have := hz_mul y y; have := hz_mul (a * x) y; have := hz_mul a x; have := hz_mul c y; have := hz_mul (x * x) x; have := hz_mul x x; have := hz_mul (b * x) x; have := hz_mul b x
    omega
  have g2 := g1 x y kx ky
  have g3 := g1 f u kf ku
  have hlc : lcE true (tupI (tupE [vE 0, vE 1, vE 2])) [5] (setG 5) yesT (calE m_is_fraction [vE 5]) [some (.p (fq a)), some (.p (fq b)), some (.p (fq c)), some (.p (.tup [fq x, fq y])), some (.p (.tup [fq f, fq u])), none, none, none, none, none] σ = .ok (.p (.lst [.bl true, .bl true, .bl true])) σ := by
    rw [lcE_ev, tupI_tup (xs := [fq a, fq b, fq c]) (s' := σ) rfl, R.bind_ok]
    simp [lcL_cons, lcL_nil, sizeLine_eq, is_fraction_ok]
  have hall : allD [.p (.lst [.bl true, .bl true, .bl true])] σ = .ok (.p (.bl true)) σ := rfl
  have hd := d_of_ok cv hn σ
  unfold w4 w6 at *
  generalize vs a b c x y = o at *
  generalize vs a b c f u = p at *
  have s1 : m_summed [.p (.lst [.tup [fq o], .tup [.int (-1), fq p]])] σ = .ok (.p (fq (o - p))) σ := summed_ok [[o], [-1, p]] _ σ (by simp [sumR, prodR]; try grind) (by simp [totZ, totR, zm1]; omega)
  have s2 : m_summed [.p (.lst [.tup [fq x], .tup [.int (-1), fq f]])] σ = .ok (.p (fq (x - f))) σ := summed_ok [[x], [-1, f]] _ σ (by simp [sumR, prodR]; try grind) (by simp [totZ, totR, zm1]; omega)
  have n1 := hz_sub o p
  have n2 := hz_sub x f
  have n3 := hz_div (o - p) (x - f)
  have q1 := quotient_ok (o - p) (x - f) σ hxf (by omega)
  generalize (o - p) / (x - f) = d at *
  have s3 : m_summed [.p (.lst [.tup [fq o], .tup [.int (-1), fq d, fq x]])] σ = .ok (.p (fq (o - d * x))) σ := summed_ok [[o], [-1, d, x]] _ σ (by simp [sumR, prodR]; try grind) (by simp [totZ, totR, zm1]; omega)
  unfold thR
  by_cases h0 : dd a b c d (o - d * x) = 0
  · simp [m_through, defM_if, B_through, hlc, hall, is_pair_ok, eq_fq, hne, o1, o2, s1, s2, q1, s3, hd, ne_fq0, h0]
  · simp [m_through, defM_if, B_through, hlc, hall, is_pair_ok, eq_fq, hne, o1, o2, s1, s2, q1, s3, hd, ne_fq0, h0]

/-! ### what the turn asks behind the row -/
theorem l_id (a1 a2 a3 a4 a6 : Rat) : l1 a1 1 0 = a1 ∧ l2 a1 a2 1 0 0 = a2 ∧ l3 a1 a3 1 0 0 = a3 ∧ l4 a1 a2 a3 a4 1 0 0 0 = a4 ∧ l6 a1 a2 a3 a4 a6 1 0 0 = a6 := by
  unfold l1 l2 l3 l4 l6
  refine ⟨?_, ?_, ?_, ?_, ?_⟩ <;> grind
theorem w_of_pts {a1 a2 a3 a4 a6 X Y F U : Rat} (p1 : ev a1 a2 a3 a4 a6 X Y = 0) (p2 : ev a1 a2 a3 a4 a6 F U = 0) (ne : X ≠ F) : w4 a1 a2 a3 F U X Y = a4 ∧ w6 a1 a2 a3 F U X Y = a6 := by
  have h0 : F - X ≠ 0 := fun h => ne (by grind)
  have e : vs a1 a2 a3 F U - vs a1 a2 a3 X Y = a4 * (F - X) := by unfold ev at p1 p2; unfold vs; grind
  have v4 : (vs a1 a2 a3 F U - vs a1 a2 a3 X Y) / (F - X) = a4 := by rw [e]; exact Rat.mul_div_cancel h0
  refine ⟨v4, ?_⟩
  unfold w6
  rw [v4]
  unfold ev at p2
  unfold vs
  grind
/-- a change and what undoes it -/
theorem un_all {u r s t : Rat} (hu : u ≠ 0) : u⁻¹ * u⁻¹⁻¹ = 1 ∧ u * u⁻¹ = 1 ∧ u * u * (-r * u⁻¹ ^ 2) + r = 0 ∧ u * (-s * u⁻¹ ^ 1) + s = 0 ∧ u * u * u * ((r * s - t) * u⁻¹ ^ 3) + s * u * u * (-r * u⁻¹ ^ 2) + t = 0 := by
  have vu := Rat.mul_inv_cancel u hu
  have hv : u⁻¹ ≠ 0 := fun hh => by rw [hh] at vu; grind
  have vv := Rat.mul_inv_cancel u⁻¹ hv
  refine ⟨vv, vu, ?_, ?_, ?_⟩ <;> grind
theorem p_one (x y : Rat) : px 1 0 x = x ∧ py 1 0 0 0 x y = y := by
  have i : (1 : Rat)⁻¹ = 1 := by decide +kernel
  unfold px py
  rw [i]
  constructor <;> grind
theorem p_sharp {k : Nat} {u r s t x y : Rat} (h : Cm k u r s t) (hk : k ≤ 5) (hx : hz x ≤ 10) (hy : hz y ≤ 10) : hz (px u r x) ≤ 135 ∧ hz (py u r s t x y) ≤ 345 := by
  have b := h.b4 hk
  constructor
  · have := hz_mul (x - r) (u⁻¹ ^ 2); have := hz_pow u⁻¹ 2; have := hz_inv u; have := hz_sub x r
    unfold px
    omega
  · have := hz_mul (y - s * x + s * r - t) (u⁻¹ ^ 3); have := hz_pow u⁻¹ 3; have := hz_inv u
    have := hz_sub (y - s * x + s * r) t; have := hz_add (y - s * x) (s * r); have := hz_sub y (s * x); have := hz_mul s x; have := hz_mul s r
    unfold py
    omega
theorem px_ne {u r x f : Rat} (hu : u ≠ 0) (ne : x ≠ f) : px u r f ≠ px u r x := by
  have vu := Rat.mul_inv_cancel u hu
  unfold px
  intro h
  apply ne
  grind
section
variable {W : Int} {a1 a2 a3 a4 a6 x y f g : Rat}
def curP (a1 a2 a3 a4 a6 : Rat) : P := .tup [fq a1, fq a2, fq a3, fq a4, fq a6]
def undP (u r s t : Rat) : P := .tup [fq u⁻¹, fq (-r * u⁻¹ ^ 2), fq (-s * u⁻¹ ^ 1), fq ((r * s - t) * u⁻¹ ^ 3)]
def ptP (x y : Rat) : P := .tup [fq x, fq y]
/-- all that is called -/
theorem facts (cv : Cv W 44 a1 a2 a3 a4 a6) (hD : dd a1 a2 a3 a4 a6 ≠ 0) (ne : x ≠ f) (hx : hz x ≤ 10) (hy : hz y ≤ 10) (hf : hz f ≤ 10) (hg : hz g ≤ 10) (p1 : ev a1 a2 a3 a4 a6 x y = 0) (p2 : ev a1 a2 a3 a4 a6 f g = 0)
    {l : List (Rat × Rat × Rat × Rat)} {u r s t : Rat} (h : Stk l u r s t) (hl : l.length ≤ 5) (σ : S) :
    m_led [.p (curP a1 a2 a3 a4 a6), .p (allP u r s t)] σ = .ok (.p (nowP a1 a2 a3 a4 a6 u r s t)) σ ∧
    m_undone [.p (allP u r s t)] σ = .ok (.p (undP u r s t)) σ ∧
    m_led [.p (nowP a1 a2 a3 a4 a6 u r s t), .p (undP u r s t)] σ = .ok (.p (curP a1 a2 a3 a4 a6)) σ ∧
    (∀ X Y, (X = x ∧ Y = y) ∨ (X = f ∧ Y = g) → m_led_point [.p (curP a1 a2 a3 a4 a6), .p (ptP X Y), .p (allP u r s t)] σ = .ok (.p (ptP (px u r X) (py u r s t X Y))) σ ∧
      m_led_point [.p (nowP a1 a2 a3 a4 a6 u r s t), .p (ptP (px u r X) (py u r s t X Y)), .p (undP u r s t)] σ = .ok (.p (ptP X Y)) σ) ∧
    m_through [.p (fq (l1 a1 u⁻¹ s)), .p (fq (l2 a1 a2 u⁻¹ r s)), .p (fq (l3 a1 a3 u⁻¹ r t)), .p (ptP (px u r x) (py u r s t x y)), .p (ptP (px u r f) (py u r s t f g))] σ = .ok (.p (nowP a1 a2 a3 a4 a6 u r s t)) σ := by
  have m := h.cm
  have hu := m.u0
  obtain ⟨W', c'⟩ := h.cv cv
  have hD1 := dd_nz (r := r) (s := s) (t := t) hu hD
  have up : ∀ {J K : Nat} {u r s t : Rat}, B4 J u r s t → J ≤ K → B4 K u r s t := fun h hJ => ⟨Nat.le_trans h.ku hJ, Nat.le_trans h.kr hJ, Nat.le_trans h.ks hJ, Nat.le_trans h.kt hJ⟩
  have B := up (m.b hl) (show 100 ≤ 300 by decide)
  have U := m.undo hl
  obtain ⟨i1, i2, i3, i4, i5⟩ := un_all (r := r) (s := s) (t := t) hu
  have hv : u⁻¹ ≠ 0 := fun hh => by rw [hh] at i2; grind
  refine ⟨led_ok cv (by decide) hD hu B.ku B.kr B.ks B.kt σ, undone_ok (up B (by decide)) hu σ, ?_, ?_, ?_⟩
  · have d := led_ok c' (by omega) hD1 hv U.ku U.kr U.ks U.kt σ
    rw [l1_both i2, l2_both i2, l3_both i2, l4_both i2, l6_both i2, i1, i3, i4, i5] at d
    obtain ⟨j1, j2, j3, j4, j6⟩ := l_id a1 a2 a3 a4 a6
    rw [j1, j2, j3, j4, j6] at d
    exact d
  · intro X Y hXY
    have hX : hz X ≤ 10 := by rcases hXY with ⟨rfl, rfl⟩ | ⟨rfl, rfl⟩ <;> assumption
    have hY : hz Y ≤ 10 := by rcases hXY with ⟨rfl, rfl⟩ | ⟨rfl, rfl⟩ <;> assumption
    have hon : ev a1 a2 a3 a4 a6 X Y = 0 := by rcases hXY with ⟨rfl, rfl⟩ | ⟨rfl, rfl⟩ <;> assumption
    refine ⟨led_point_ok cv (by decide) hD hu B (Nat.le_trans hX (by decide)) (Nat.le_trans hY (by decide)) hon σ, ?_⟩
    have q := p_hz (x := X) (y := Y) m hl hX hY
    have e := led_point_ok c' (by omega) hD1 hv U q.1 q.2 (on_led hu hon) σ
    have b := p_both (r := r) (s := s) (t := t) (a := -r * u⁻¹ ^ 2) (b := -s * u⁻¹ ^ 1) (c := (r * s - t) * u⁻¹ ^ 3) (x := X) (y := Y) hu hv
    rw [b.1, b.2, i2, i3, i4, i5, (p_one X Y).1, (p_one X Y).2] at e
    exact e
  · have q1 := p_sharp (x := x) (y := y) m hl hx hy
    have q2 := p_sharp (x := f) (y := g) m hl hf hg
    obtain ⟨w1, w2⟩ := w_of_pts (on_led (s := s) (t := t) hu p2) (on_led (s := s) (t := t) hu p1) (px_ne (r := r) hu ne)
    have k1 := c'.h1.hz c'.W0 c'.hw
    have k2 := c'.h2.hz c'.W0 c'.hw
    have k3 := c'.h3.hz c'.W0 c'.hw
    have c2 := c'
    rw [← w1, ← w2] at c2
    have e := through_wide c2 (by omega) (by omega) (by omega) (by omega) q1.1 q1.2 q2.1 q2.2 (px_ne hu ne).symm σ
    rw [w1, w2] at e
    unfold thR at e
    rw [if_neg hD1] at e
    exact e
end

section
variable {W : Int} {a1 a2 a3 a4 a6 x y f g : Rat}
noncomputable def REST : SF := (seqF (iffF (orT (tB (op2 (eqD true) ((calE shwD [vE 5])) ((calE shwD [(calE m_led [vE 3, vE 7])])))) (tB (op2 (eqD true) ((calE shwD [(calE m_led [vE 5, (calE m_undone [vE 7])])])) ((calE shwD [vE 3]))))) (retF (cE (.bl false))) nopF) (seqF (iffF (tB (op2 (eqD true) ((calE shwD [vE 6])) ((calE shwD [(lcE true (rowI (vE 4)) [11] (setG 11) yesT ((calE m_led_point [vE 3, vE 11, vE 7])))])))) (retF (cE (.bl false))) nopF) (seqF (iffF (tB (op2 (eqD true) ((calE shwD [(lcE true (rowI (vE 6)) [11] (setG 11) yesT ((calE m_led_point [vE 5, vE 11, (calE m_undone [vE 7])])))])) ((calE shwD [vE 4])))) (retF (cE (.bl false))) nopF) (seqF (parF 12 13 [(calE m_invariants [vE 3]), (calE m_invariants [vE 5])]) (seqF (asgF ((lstE [(calE m_Lall [(lstE [(lstE [(op2 ixD (vE 12) (cE (.int 5))), (op2 ixD (vE 12) (cE (.int 5))), (op2 ixD (vE 13) (cE (.int 6)))])])]), (calE m_Lall [(lstE [(lstE [(op2 ixD (vE 13) (cE (.int 5))), (op2 ixD (vE 13) (cE (.int 5))), (op2 ixD (vE 12) (cE (.int 6)))])])])])) (setG 14)) (seqF (iffF (orT (tB (op2 (eqD true) ((calE shwD [(op2 ixD (vE 13) (cE (.int 7)))])) ((calE shwD [(op2 ixD (vE 12) (cE (.int 7)))])))) (tB (op2 (eqD true) ((op2 ixD (vE 14) (cE (.int 0)))) ((op2 ixD (vE 14) (cE (.int 1))))))) (retF (cE (.bl false))) nopF) (seqF (iffF (tB (op2 (eqD true) ((calE shwD [(calE m_through [(op2 ixD (vE 5) (cE (.int 0))), (op2 ixD (vE 5) (cE (.int 1))), (op2 ixD (vE 5) (cE (.int 2))), (op2 ixD (vE 6) (cE (.int 0))), (op2 ixD (vE 6) (cE (.int 1)))])])) ((calE shwD [vE 5])))) (retF (cE (.bl false))) nopF) (iffF (tB (op2 (eqD true) ((calE m_is_whole [vE 5])) ((op2 (eqD false) ((lcE true (rowI (vE 5)) [15] (setG 15) (tT ((calE isiD [vE 15, cE (.ty "tuple")]))) (vE 15))) ((lstE [])))))) (retF (cE (.bl false))) nopF))))))))
def rpOk (x : P) (t : Str) : Prop := (∀ s, shwD [.p x] s = .ok (.p (.str t)) s) ∧ PyData.strOk t = true
theorem rpOk.tup {qs : List Rat} (h : ∀ q ∈ qs, hz q ≤ 1900) (hl : qs.length ≤ 1000) : rpOk (.tup (qs.map fq)) (shT qs) := ⟨fun s => shw_tfq h hl, (Rp.tfq h).ok⟩
theorem rpOk.two {x y f g : Rat} (hx : hz x ≤ 1900) (hy : hz y ≤ 1900) (hf : hz f ≤ 1900) (hg : hz g ≤ 1900) : ∃ t, rpOk (.lst [.tup [fq x, fq y], .tup [fq f, fq g]]) t := by
  have r : Rp (.list [.tuple [fqPy x, fqPy y], .tuple [fqPy f, fqPy g]]) 3 20000 := by
    have := Rp.lst (n := 2) (L := 8007) (ds := [.tuple ([x, y].map fqPy), .tuple ([f, g].map fqPy)]) fun d hd => by
      simp at hd
      rcases hd with rfl | rfl
      · exact Rp.tfq (qs := [x, y]) (by simp; omega)
      · exact Rp.tfq (qs := [f, g]) (by simp; omega)
    exact this.mono (by decide) (by simp)
  refine ⟨_, fun s => shw_rp (x := .p (.lst [.tup [fq x, fq y], .tup [fq f, fq g]])) (toPy_lst (toPys_cons (toPy_tup (toPys_fq [x, y])) (toPys_cons (toPy_tup (toPys_fq [f, g])) toPys_nil))) r (by decide) (by rw [sizeLine_eq]; decide), r.ok⟩
theorem ne_bl_same (b : Bool) (s : S) : eqD true (.p (.bl b)) (.p (.bl b)) s = .ok (.p (.bl false)) s := by
  rw [eq_dat true (d := .bool b) (e := .bool b) rfl rfl ⟨by cases b <;> rfl, by cases b <;> rfl⟩, eqv_refl _ (by simp [PyData.hasDict])]
  rfl
theorem rest_ok (cv : Cv W 44 a1 a2 a3 a4 a6) (hD : dd a1 a2 a3 a4 a6 ≠ 0) (ne : x ≠ f) (hx : hz x ≤ 10) (hy : hz y ≤ 10) (hf : hz f ≤ 10) (hg : hz g ≤ 10) (p1 : ev a1 a2 a3 a4 a6 x y = 0) (p2 : ev a1 a2 a3 a4 a6 f g = 0)
    {l : List (Rat × Rat × Rat × Rat)} {u r s t : Rat} (h : Stk l u r s t) (hl : l.length ≤ 5) (σ : S) (x0 x1 x2 x8 x9 x10 x11 x12 x13 x14 x15 : Option D) : ∃ y12 y13 y14,
    REST [x0, x1, x2, some (.p (curP a1 a2 a3 a4 a6)), some (.p (.lst [ptP x y, ptP f g])), some (.p (nowP a1 a2 a3 a4 a6 u r s t)), some (.p (seenP x y f g u r s t)), some (.p (allP u r s t)), x8, x9, x10, x11, x12, x13, x14, x15] σ =
    .ok (.nx [x0, x1, x2, some (.p (curP a1 a2 a3 a4 a6)), some (.p (.lst [ptP x y, ptP f g])), some (.p (nowP a1 a2 a3 a4 a6 u r s t)), some (.p (seenP x y f g u r s t)), some (.p (allP u r s t)), x8, x9, x10, x11, y12, y13, y14, x15]) σ := by
  obtain ⟨d1, un, d2, pts, th⟩ := facts cv hD ne hx hy hf hg p1 p2 h hl σ
  obtain ⟨e1, e2⟩ := pts x y (.inl ⟨rfl, rfl⟩)
  obtain ⟨e3, e4⟩ := pts f g (.inr ⟨rfl, rfl⟩)
  have m := h.cm
  have hu := m.u0
  obtain ⟨W', c'⟩ := h.cv cv
  have hD1 := dd_nz (r := r) (s := s) (t := t) hu hD
  have q1 := p_sharp (x := x) (y := y) m hl hx hy
  have q2 := p_sharp (x := f) (y := g) m hl hf hg
  have k1 := cv.h1.hz cv.W0 cv.hw
  have k2 := cv.h2.hz cv.W0 cv.hw
  have k3 := cv.h3.hz cv.W0 cv.hw
  have k4 := cv.h4.hz cv.W0 cv.hw
  have k6 := cv.h6.hz cv.W0 cv.hw
  have n1 := c'.h1.hz c'.W0 c'.hw
  have n2 := c'.h2.hz c'.W0 c'.hw
  have n3 := c'.h3.hz c'.W0 c'.hw
  have n4 := c'.h4.hz c'.W0 c'.hw
  have n6 := c'.h6.hz c'.W0 c'.hw
  have rc : rpOk (curP a1 a2 a3 a4 a6) (shT [a1, a2, a3, a4, a6]) := rpOk.tup (qs := [a1, a2, a3, a4, a6]) (by simp; omega) (by simp)
  have rn : rpOk (nowP a1 a2 a3 a4 a6 u r s t) (shT [l1 a1 u⁻¹ s, l2 a1 a2 u⁻¹ r s, l3 a1 a3 u⁻¹ r t, l4 a1 a2 a3 a4 u⁻¹ r s t, l6 a1 a2 a3 a4 a6 u⁻¹ r t]) := rpOk.tup (qs := [l1 a1 u⁻¹ s, l2 a1 a2 u⁻¹ r s, l3 a1 a3 u⁻¹ r t, l4 a1 a2 a3 a4 u⁻¹ r s t, l6 a1 a2 a3 a4 a6 u⁻¹ r t]) (by simp; omega) (by simp)
  obtain ⟨ts, rs⟩ := rpOk.two (x := px u r x) (y := py u r s t x y) (f := px u r f) (g := py u r s t f g) (by omega) (by omega) (by omega) (by omega)
  obtain ⟨tp, rp⟩ := rpOk.two (x := x) (y := y) (f := f) (g := g) (by omega) (by omega) (by omega) (by omega)
  -- invariants
  have i1 := invariants_ok cv (by decide) hD σ
  have i2 := invariants_ok c' (by omega) hD1 σ
  have iw := is_whole_ok c' (by omega) hD1 σ
  have z6 := cv.c6.hz cv.W0 cv.hw
  have zd := cv.dd.hz cv.W0 cv.hw
  have z4 := cv.c4.hz cv.W0 cv.hw
  have y6 := c'.c6.hz c'.W0 c'.hw
  have yd := c'.dd.hz c'.W0 c'.hw
  have eD := dd_led (a1 := a1) (a2 := a2) (a3 := a3) (a4 := a4) (a6 := a6) (v := u⁻¹) (r := r) (s := s) (t := t)
  have e6 := c6_led (a1 := a1) (a2 := a2) (a3 := a3) (a4 := a4) (a6 := a6) (v := u⁻¹) (r := r) (s := s) (t := t)
  have e4' := c4_led (a1 := a1) (a2 := a2) (a3 := a3) (a4 := a4) (a6 := a6) (v := u⁻¹) (r := r) (s := s) (t := t)
  have ej : c4 (l1 a1 u⁻¹ s) (l2 a1 a2 u⁻¹ r s) (l3 a1 a3 u⁻¹ r t) (l4 a1 a2 a3 a4 u⁻¹ r s t) (l6 a1 a2 a3 a4 a6 u⁻¹ r t) * c4 (l1 a1 u⁻¹ s) (l2 a1 a2 u⁻¹ r s) (l3 a1 a3 u⁻¹ r t) (l4 a1 a2 a3 a4 u⁻¹ r s t) (l6 a1 a2 a3 a4 a6 u⁻¹ r t) * c4 (l1 a1 u⁻¹ s) (l2 a1 a2 u⁻¹ r s) (l3 a1 a3 u⁻¹ r t) (l4 a1 a2 a3 a4 u⁻¹ r s t) (l6 a1 a2 a3 a4 a6 u⁻¹ r t) / dd (l1 a1 u⁻¹ s) (l2 a1 a2 u⁻¹ r s) (l3 a1 a3 u⁻¹ r t) (l4 a1 a2 a3 a4 u⁻¹ r s t) (l6 a1 a2 a3 a4 a6 u⁻¹ r t) = c4 a1 a2 a3 a4 a6 * c4 a1 a2 a3 a4 a6 * c4 a1 a2 a3 a4 a6 / dd a1 a2 a3 a4 a6 := by
    have hv : (u⁻¹) ≠ 0 := fun hh => by have := Rat.mul_inv_cancel u hu; rw [hh] at this; grind
    rw [eD, e4']
    generalize c4 a1 a2 a3 a4 a6 = p
    generalize dd a1 a2 a3 a4 a6 = q at *
    generalize u⁻¹ = v at *
    grind
  have s1 : m_Lall [.p (.lst [.lst [fq (c6 a1 a2 a3 a4 a6), fq (c6 a1 a2 a3 a4 a6), fq (dd (l1 a1 u⁻¹ s) (l2 a1 a2 u⁻¹ r s) (l3 a1 a3 u⁻¹ r t) (l4 a1 a2 a3 a4 u⁻¹ r s t) (l6 a1 a2 a3 a4 a6 u⁻¹ r t))]])] σ = .ok (.p (fq (c6 a1 a2 a3 a4 a6 * c6 a1 a2 a3 a4 a6 * dd (l1 a1 u⁻¹ s) (l2 a1 a2 u⁻¹ r s) (l3 a1 a3 u⁻¹ r t) (l4 a1 a2 a3 a4 u⁻¹ r s t) (l6 a1 a2 a3 a4 a6 u⁻¹ r t)))) σ :=
    Lall_ok [[_, _, _]] _ σ (by simp [sumR, prodR]; try grind) (by simp [totZ, totR]; omega)
  have s2 : m_Lall [.p (.lst [.lst [fq (c6 (l1 a1 u⁻¹ s) (l2 a1 a2 u⁻¹ r s) (l3 a1 a3 u⁻¹ r t) (l4 a1 a2 a3 a4 u⁻¹ r s t) (l6 a1 a2 a3 a4 a6 u⁻¹ r t)), fq (c6 (l1 a1 u⁻¹ s) (l2 a1 a2 u⁻¹ r s) (l3 a1 a3 u⁻¹ r t) (l4 a1 a2 a3 a4 u⁻¹ r s t) (l6 a1 a2 a3 a4 a6 u⁻¹ r t)), fq (dd a1 a2 a3 a4 a6)]])] σ = .ok (.p (fq (c6 a1 a2 a3 a4 a6 * c6 a1 a2 a3 a4 a6 * dd (l1 a1 u⁻¹ s) (l2 a1 a2 u⁻¹ r s) (l3 a1 a3 u⁻¹ r t) (l4 a1 a2 a3 a4 u⁻¹ r s t) (l6 a1 a2 a3 a4 a6 u⁻¹ r t)))) σ :=
    Lall_ok [[_, _, _]] _ σ (by simp [sumR, prodR]; rw [e6, eD]; grind) (by simp [totZ, totR]; omega)
  have rj : rpOk (fq (c4 a1 a2 a3 a4 a6 * c4 a1 a2 a3 a4 a6 * c4 a1 a2 a3 a4 a6 / dd a1 a2 a3 a4 a6)) (fqPy (c4 a1 a2 a3 a4 a6 * c4 a1 a2 a3 a4 a6 * c4 a1 a2 a3 a4 a6 / dd a1 a2 a3 a4 a6)).shown := by
    refine ⟨fun s => shw_fq _ s ?_, strOk_fq _⟩
    have := hz_div (c4 a1 a2 a3 a4 a6 * c4 a1 a2 a3 a4 a6 * c4 a1 a2 a3 a4 a6) (dd a1 a2 a3 a4 a6); have := hz_mul (c4 a1 a2 a3 a4 a6 * c4 a1 a2 a3 a4 a6) (c4 a1 a2 a3 a4 a6); have := hz_mul (c4 a1 a2 a3 a4 a6) (c4 a1 a2 a3 a4 a6)
    omega
  simp only [invP, List.map_cons, List.map_nil] at i1 i2
  rw [ej] at i2
  generalize hJ : c4 a1 a2 a3 a4 a6 * c4 a1 a2 a3 a4 a6 * c4 a1 a2 a3 a4 a6 / dd a1 a2 a3 a4 a6 = J at *
  generalize c6 a1 a2 a3 a4 a6 * c6 a1 a2 a3 a4 a6 * dd (l1 a1 u⁻¹ s) (l2 a1 a2 u⁻¹ r s) (l3 a1 a3 u⁻¹ r t) (l4 a1 a2 a3 a4 u⁻¹ r s t) (l6 a1 a2 a3 a4 a6 u⁻¹ r t) = SQ at *
  -- whole
  have w5 : lcE true (rowI (vE 5)) [15] (setG 15) (tT (calE isiD [vE 15, cE (.ty "tuple")])) (vE 15) = lcE true (rowI (vE 5)) [15] (setG 15) (tT (calE isiD [vE 15, cE (.ty "tuple")])) (vE 15) := rfl
  have e5 : ∀ (x12 x13 x14 : Option D), lcE true (rowI (vE 5)) [15] (setG 15) (tT (calE isiD [vE 15, cE (.ty "tuple")])) (vE 15) [x0, x1, x2, some (.p (curP a1 a2 a3 a4 a6)), some (.p (.lst [ptP x y, ptP f g])), some (.p (nowP a1 a2 a3 a4 a6 u r s t)), some (.p (seenP x y f g u r s t)), some (.p (allP u r s t)), x8, x9, x10, x11, x12, x13, x14, x15] σ =
      .ok (.p (.lst (([l1 a1 u⁻¹ s, l2 a1 a2 u⁻¹ r s, l3 a1 a3 u⁻¹ r t, l4 a1 a2 a3 a4 u⁻¹ r s t, l6 a1 a2 a3 a4 a6 u⁻¹ r t].filter fun q => isTu (fq q)).map fq))) σ := by
    intro x12 x13 x14
    rw [lcE_pure (F := fun p => [x0, x1, x2, some (.p (curP a1 a2 a3 a4 a6)), some (.p (.lst [ptP x y, ptP f g])), some (.p (nowP a1 a2 a3 a4 a6 u r s t)), some (.p (seenP x y f g u r s t)), some (.p (allP u r s t)), x8, x9, x10, x11, x12, x13, x14, some (.p p)]) (keep := isTu) (f := fun p => p) (xs := [l1 a1 u⁻¹ s, l2 a1 a2 u⁻¹ r s, l3 a1 a3 u⁻¹ r t, l4 a1 a2 a3 a4 u⁻¹ r s t, l6 a1 a2 a3 a4 a6 u⁻¹ r t].map fq) (s1 := σ) (rowI_ev (vE_of rfl)) (show (5 : Nat) ≤ sizeLine by decide)
      (fun p hp => by
        obtain ⟨q, _, rfl⟩ := List.mem_map.mp hp
        have v15 : ∀ (d0 d1 d2 d3 d4 d5 d6 d7 d8 d9 d10 d11 d12 d13 d14 : Option D) (z : D) (s : S), vE 15 [d0, d1, d2, d3, d4, d5, d6, d7, d8, d9, d10, d11, d12, d13, d14, some z] s = .ok z s := fun _ _ _ _ _ _ _ _ _ _ _ _ _ _ _ _ _ => rfl
        refine ⟨rfl, ?_, fun _ => v15 _ _ _ _ _ _ _ _ _ _ _ _ _ _ _ _ _⟩
        simp [v15, isi_fq_tup])]
    rw [List.filter_map]
    simp [Function.comp_def]
  have e7 : ([l1 a1 u⁻¹ s, l2 a1 a2 u⁻¹ r s, l3 a1 a3 u⁻¹ r t, l4 a1 a2 a3 a4 u⁻¹ r s t, l6 a1 a2 a3 a4 a6 u⁻¹ r t].filter fun q => isTu (fq q)).isEmpty = [l1 a1 u⁻¹ s, l2 a1 a2 u⁻¹ r s, l3 a1 a3 u⁻¹ r t, l4 a1 a2 a3 a4 u⁻¹ r s t, l6 a1 a2 a3 a4 a6 u⁻¹ r t].all fun q => isIn (fq q) := by
    generalize l1 a1 u⁻¹ s = A1
    generalize l2 a1 a2 u⁻¹ r s = A2
    generalize l3 a1 a3 u⁻¹ r t = A3
    generalize l4 a1 a2 a3 a4 u⁻¹ r s t = A4
    generalize l6 a1 a2 a3 a4 a6 u⁻¹ r t = A6
    simp only [isTu_fq, List.filter, List.all]
    cases isIn (fq A1) <;> cases isIn (fq A2) <;> cases isIn (fq A3) <;> cases isIn (fq A4) <;> cases isIn (fq A6) <;> rfl
  have e8 := eq_fl_nil ([l1 a1 u⁻¹ s, l2 a1 a2 u⁻¹ r s, l3 a1 a3 u⁻¹ r t, l4 a1 a2 a3 a4 u⁻¹ r s t, l6 a1 a2 a3 a4 a6 u⁻¹ r t].filter fun q => isTu (fq q)) σ
  rw [e7] at e8
  generalize hL : ([l1 a1 u⁻¹ s, l2 a1 a2 u⁻¹ r s, l3 a1 a3 u⁻¹ r t, l4 a1 a2 a3 a4 u⁻¹ r s t, l6 a1 a2 a3 a4 a6 u⁻¹ r t].filter fun q => isTu (fq q)).map fq = L at *
  generalize hB : ([l1 a1 u⁻¹ s, l2 a1 a2 u⁻¹ r s, l3 a1 a3 u⁻¹ r t, l4 a1 a2 a3 a4 u⁻¹ r s t, l6 a1 a2 a3 a4 a6 u⁻¹ r t].all fun q => isIn (fq q)) = bb at *
  have nb := ne_bl_same bb σ
  -- the comprehensions
  have lc1 := lcE_ev (fr := true) (i := rowI (vE 4)) (own := [11]) (tg := setG 11) (c := yesT) (m := calE m_led_point [vE 3, vE 11, vE 7])
    (ρ := [x0, x1, x2, some (.p (curP a1 a2 a3 a4 a6)), some (.p (.lst [ptP x y, ptP f g])), some (.p (nowP a1 a2 a3 a4 a6 u r s t)), some (.p (seenP x y f g u r s t)), some (.p (allP u r s t)), x8, x9, x10, x11, x12, x13, x14, x15]) (s := σ)
  rw [rowI_lst (xs := [ptP x y, ptP f g]) (s' := σ) rfl, R.bind_ok] at lc1
  have lc2 := lcE_ev (fr := true) (i := rowI (vE 6)) (own := [11]) (tg := setG 11) (c := yesT) (m := calE m_led_point [vE 5, vE 11, calE m_undone [vE 7]])
    (ρ := [x0, x1, x2, some (.p (curP a1 a2 a3 a4 a6)), some (.p (.lst [ptP x y, ptP f g])), some (.p (nowP a1 a2 a3 a4 a6 u r s t)), some (.p (seenP x y f g u r s t)), some (.p (allP u r s t)), x8, x9, x10, x11, x12, x13, x14, x15]) (s := σ)
  rw [rowI_lst (xs := [ptP (px u r x) (py u r s t x y), ptP (px u r f) (py u r s t f g)]) (s' := σ) rfl, R.bind_ok] at lc2
  have v11 : ∀ (d0 d1 d2 d3 d4 d5 d6 d7 d8 d9 d10 : Option D) (z : D) (rr : En) (s : S), vE 11 (d0 :: d1 :: d2 :: d3 :: d4 :: d5 :: d6 :: d7 :: d8 :: d9 :: d10 :: some z :: rr) s = .ok z s := fun _ _ _ _ _ _ _ _ _ _ _ _ _ _ => rfl
  have v12 : ∀ (d0 d1 d2 d3 d4 d5 d6 d7 d8 d9 d10 d11 : Option D) (z : D) (rr : En) (s : S), vE 12 (d0 :: d1 :: d2 :: d3 :: d4 :: d5 :: d6 :: d7 :: d8 :: d9 :: d10 :: d11 :: some z :: rr) s = .ok z s := fun _ _ _ _ _ _ _ _ _ _ _ _ _ _ _ => rfl
  have v13 : ∀ (d0 d1 d2 d3 d4 d5 d6 d7 d8 d9 d10 d11 d12 : Option D) (z : D) (rr : En) (s : S), vE 13 (d0 :: d1 :: d2 :: d3 :: d4 :: d5 :: d6 :: d7 :: d8 :: d9 :: d10 :: d11 :: d12 :: some z :: rr) s = .ok z s := fun _ _ _ _ _ _ _ _ _ _ _ _ _ _ _ _ => rfl
  have v14 : ∀ (d0 d1 d2 d3 d4 d5 d6 d7 d8 d9 d10 d11 d12 d13 : Option D) (z : D) (rr : En) (s : S), vE 14 (d0 :: d1 :: d2 :: d3 :: d4 :: d5 :: d6 :: d7 :: d8 :: d9 :: d10 :: d11 :: d12 :: d13 :: some z :: rr) s = .ok z s := fun _ _ _ _ _ _ _ _ _ _ _ _ _ _ _ _ _ => rfl
  simp [lcL_cons, lcL_nil, sizeLine_eq, v11, e1, e3] at lc1
  simp [lcL_cons, lcL_nil, sizeLine_eq, v11, un, e2, e4] at lc2
  have x0' : ∀ s, ixD (.p (nowP a1 a2 a3 a4 a6 u r s t)) (.p (.int 0)) σ = .ok (.p (fq (l1 a1 u⁻¹ s))) σ := fun _ => rfl
  have n0 : ixD (.p (nowP a1 a2 a3 a4 a6 u r s t)) (.p (.int 0)) σ = .ok (.p (fq (l1 a1 u⁻¹ s))) σ := rfl
  have n1' : ixD (.p (nowP a1 a2 a3 a4 a6 u r s t)) (.p (.int 1)) σ = .ok (.p (fq (l2 a1 a2 u⁻¹ r s))) σ := rfl
  have n2' : ixD (.p (nowP a1 a2 a3 a4 a6 u r s t)) (.p (.int 2)) σ = .ok (.p (fq (l3 a1 a3 u⁻¹ r t))) σ := rfl
  have s0 : ixD (.p (seenP x y f g u r s t)) (.p (.int 0)) σ = .ok (.p (ptP (px u r x) (py u r s t x y))) σ := rfl
  have s1' : ixD (.p (seenP x y f g u r s t)) (.p (.int 1)) σ = .ok (.p (ptP (px u r f) (py u r s t f g))) σ := rfl
  have g5 : ∀ (a b c d e f g h : P), L2.atI [a, b, c, d, e, f, g, h] 5 = some f := fun _ _ _ _ _ _ _ _ => rfl
  have g6 : ∀ (a b c d e f g h : P), L2.atI [a, b, c, d, e, f, g, h] 6 = some g := fun _ _ _ _ _ _ _ _ => rfl
  have g7 : ∀ (a b c d e f g h : P), L2.atI [a, b, c, d, e, f, g, h] 7 = some h := fun _ _ _ _ _ _ _ _ => rfl
  have rs' : shwD [.p (seenP x y f g u r s t)] σ = .ok (.p (.str ts)) σ := rs.1 σ
  have rs2 : shwD [.p (.lst [ptP (px u r x) (py u r s t x y), ptP (px u r f) (py u r s t f g)])] σ = .ok (.p (.str ts)) σ := rs.1 σ
  have rp' : shwD [.p (.lst [ptP x y, ptP f g])] σ = .ok (.p (.str tp)) σ := rp.1 σ
  have q1' := ne_str_same (s := σ) rc.2
  have q2' := ne_str_same (s := σ) rn.2
  have q3' := ne_str_same (s := σ) rs.2
  have q4' := ne_str_same (s := σ) rp.2
  have q5' := ne_str_same (s := σ) rj.2
  have q6' := eq_fq true SQ SQ σ
  have rc' := rc.1 σ
  have rn' := rn.1 σ
  have rj' := rj.1 σ
  have iw' : m_is_whole [.p (nowP a1 a2 a3 a4 a6 u r s t)] σ = .ok (.p (.bl bb)) σ := iw
  have i1' : m_invariants [.p (curP a1 a2 a3 a4 a6)] σ = _ := i1
  have i2' : m_invariants [.p (nowP a1 a2 a3 a4 a6 u r s t)] σ = _ := i2
  refine ⟨some (.p (.tup [fq (b2 a1 a2 a3 a4 a6), fq (b4 a1 a2 a3 a4 a6), fq (b6 a1 a2 a3 a4 a6), fq (b8 a1 a2 a3 a4 a6), fq (c4 a1 a2 a3 a4 a6), fq (c6 a1 a2 a3 a4 a6), fq (dd a1 a2 a3 a4 a6), fq J])), some (.p (.tup [fq (b2 (l1 a1 u⁻¹ s) (l2 a1 a2 u⁻¹ r s) (l3 a1 a3 u⁻¹ r t) (l4 a1 a2 a3 a4 u⁻¹ r s t) (l6 a1 a2 a3 a4 a6 u⁻¹ r t)), fq (b4 (l1 a1 u⁻¹ s) (l2 a1 a2 u⁻¹ r s) (l3 a1 a3 u⁻¹ r t) (l4 a1 a2 a3 a4 u⁻¹ r s t) (l6 a1 a2 a3 a4 a6 u⁻¹ r t)), fq (b6 (l1 a1 u⁻¹ s) (l2 a1 a2 u⁻¹ r s) (l3 a1 a3 u⁻¹ r t) (l4 a1 a2 a3 a4 u⁻¹ r s t) (l6 a1 a2 a3 a4 a6 u⁻¹ r t)), fq (b8 (l1 a1 u⁻¹ s) (l2 a1 a2 u⁻¹ r s) (l3 a1 a3 u⁻¹ r t) (l4 a1 a2 a3 a4 u⁻¹ r s t) (l6 a1 a2 a3 a4 a6 u⁻¹ r t)), fq (c4 (l1 a1 u⁻¹ s) (l2 a1 a2 u⁻¹ r s) (l3 a1 a3 u⁻¹ r t) (l4 a1 a2 a3 a4 u⁻¹ r s t) (l6 a1 a2 a3 a4 a6 u⁻¹ r t)), fq (c6 (l1 a1 u⁻¹ s) (l2 a1 a2 u⁻¹ r s) (l3 a1 a3 u⁻¹ r t) (l4 a1 a2 a3 a4 u⁻¹ r s t) (l6 a1 a2 a3 a4 a6 u⁻¹ r t)), fq (dd (l1 a1 u⁻¹ s) (l2 a1 a2 u⁻¹ r s) (l3 a1 a3 u⁻¹ r t) (l4 a1 a2 a3 a4 u⁻¹ r s t) (l6 a1 a2 a3 a4 a6 u⁻¹ r t)), fq J])), some (.p (.lst [fq SQ, fq SQ])), ?_⟩
  unfold REST
  simp [lc1, lc2, d1, d2, un, th, rs', rs2, rp', rc', rn', rj', q1', q2', q3', q4', q5', q6', v12, v13, v14, i1', i2', s1, s2, g5, g6, g7, n0, n1', n2', s0, s1', iw', e5, e8, nb]
end

noncomputable def BODY_law : SF := (seqF (asgF ((calE m_Lthrough [vE 1, (op2 (eqD false) ((op2 (modD) (vE 2) (cE (.int 2)))) (cE (.int 0)))])) (tupG 2 (consG (setG 3) (consG (setG 4) nilG)))) (seqF (tasF [vE 3, (calE (lisD true) [vE 4]), (tupE [cE (.int 1), cE (.int 0), cE (.int 0), cE (.int 0)]), (lsoE [])] (consT (setG 5) (consT (setG 6) (consT (setG 7) (consT (setG 8) nilT))))) (seqF (forF (r1I [(op2 (addD true) (cE (.int 1)) ((calE m_Ldraw [vE 1, cE (.int 5)])))]) (setG 9) INB) REST)))
theorem body_ok (rn tn : Int) (cells : List Int) (rest : S) (i : Int) (x0 x3 x4 x5 x6 x7 x8 x9 x10 x11 x12 x13 x14 x15 : Option D) : ∃ (y3 y4 y5 y6 y7 y8 y9 y10 y11 y12 y13 y14 y15 : Option D) (rn' tn' : Int) (cells' : List Int) (rest' : S), BODY_law [x0, some (.obj 0), some (.p (.int i)), x3, x4, x5, x6, x7, x8, x9, x10, x11, x12, x13, x14, x15] (mk2 rn tn cells rest) =
    .ok (.nx [x0, some (.obj 0), some (.p (.int i)), y3, y4, y5, y6, y7, y8, y9, y10, y11, y12, y13, y14, y15]) (mk2 rn' tn' cells' rest') := by
  obtain ⟨a1, a2, a3, a4, a6, x, y, f, g, r1, t1, c1, T, hD, e1⟩ := Lthrough_ok (decide (i.fmod 2 = 0)) rn tn cells rest
  obtain ⟨W, cv⟩ := T.cv
  obtain ⟨d, r2, c2, d0, d5, e2⟩ := Ldraw_ok r1 t1 5 c1 (rest ++ [some (.lst [])]) (by decide) (szi.mono (a := 64) (by decide) (by decide))
  have hx := T.sx.hz
  have hy := T.sy.hz
  have hf := T.sf.hz
  have hg := T.su.hz
  obtain ⟨l, u, r, s, t, y9, y10, r3, t3, c3, hk, hl, e3⟩ := inner_loop cv hD hx hy hf hg T.p1 T.p2 rest x0 (some (.p (.int i))) (some (.p (curP a1 a2 a3 a4 a6))) (some (.p (.lst [ptP x y, ptP f g]))) x11 x12 x13 x14 x15 (ranP 0 (1 + d).toNat) Stk.nil (by rw [ranP_len]; show 0 + _ ≤ 5; omega) r2 (t1 + 1) c2 x9 x10
  obtain ⟨y12, y13, y14, e4⟩ := rest_ok cv hD T.ne hx hy hf hg T.p1 T.p2 hk hl (mk2 r3 t3 c3 (rest ++ [some (.lst (l.map chP))])) x0 (some (.obj 0)) (some (.p (.int i))) (some (.obj (rest.length + 2))) y9 y10 x11 x12 x13 x14 x15
  have i1 : (1 : Rat)⁻¹ = 1 := by decide +kernel
  obtain ⟨j1, j2, j3, j4, j6⟩ := l_id a1 a2 a3 a4 a6
  have n1 : nowP a1 a2 a3 a4 a6 1 0 0 0 = curP a1 a2 a3 a4 a6 := by unfold nowP curP; rw [i1, j1, j2, j3, j4, j6]
  have n2 : seenP x y f g 1 0 0 0 = .lst [ptP x y, ptP f g] := by unfold seenP ptP; rw [(p_one x y).1, (p_one x y).2, (p_one f g).1, (p_one f g).2]
  have n3 : allP 1 0 0 0 = .tup [.int 1, .int 0, .int 0, .int 0] := rfl
  rw [n1, n2, n3] at e3
  have hr : r1I [op2 (addD true) (cE (.int 1)) (calE m_Ldraw [vE 1, cE (.int 5)])] [x0, some (.obj 0), some (.p (.int i)), some (.p (curP a1 a2 a3 a4 a6)), some (.p (.lst [ptP x y, ptP f g])), some (.p (curP a1 a2 a3 a4 a6)), some (.p (.lst [ptP x y, ptP f g])), some (.p (.tup [.int 1, .int 0, .int 0, .int 0])), some (.obj (rest.length + 2)), x9, x10, x11, x12, x13, x14, x15] (mk2 r1 t1 c1 (rest ++ [some (.lst [])])) =
      .ok (ranP 0 (1 + d).toNat, []) (mk2 r2 (t1 + 1) c2 (rest ++ [some (.lst [])])) := r1_ev _ _ _ (1 + d) _ (by simp [e2]) (by omega) (by omega)
  have hF := forF_ev (i := r1I [op2 (addD true) (cE (.int 1)) (calE m_Ldraw [vE 1, cE (.int 5)])]) (tg := setG 9) (f := INB) (ρ := [x0, some (.obj 0), some (.p (.int i)), some (.p (curP a1 a2 a3 a4 a6)), some (.p (.lst [ptP x y, ptP f g])), some (.p (curP a1 a2 a3 a4 a6)), some (.p (.lst [ptP x y, ptP f g])), some (.p (.tup [.int 1, .int 0, .int 0, .int 0])), some (.obj (rest.length + 2)), x9, x10, x11, x12, x13, x14, x15]) (s := mk2 r1 t1 c1 (rest ++ [some (.lst [])]))
  rw [hr, R.bind_ok] at hF
  rw [List.map_nil] at e3
  rw [show ((ranP 0 (1 + d).toNat, ([] : Gd)).2) = [] from rfl, e3] at hF
  have lis : ∀ xs s, lisD true [.p (.lst xs)] s = .ok (.p (.lst xs)) s := fun _ _ => rfl
  have hth : thP a1 a2 a3 a4 a6 x y f g = .tup [curP a1 a2 a3 a4 a6, .lst [ptP x y, ptP f g]] := rfl
  refine ⟨some (.p (curP a1 a2 a3 a4 a6)), some (.p (.lst [ptP x y, ptP f g])), some (.p (nowP a1 a2 a3 a4 a6 u r s t)), some (.p (seenP x y f g u r s t)), some (.p (allP u r s t)), some (.obj (rest.length + 2)), y9, y10, x11, y12, y13, y14, x15, r3, t3, c3, rest ++ [some (.lst (l.map chP))], ?_⟩
  simp [BODY_law, e1, hth, lis, lsok, mk2_length, mk2_app, hF, e4, newL]
theorem law_true (ns : List Int) (hl : ns.length ≤ 63) (hb : ∀ z ∈ ns, Builtin.Int.intBits z ≤ 1048576) : ∃ s', m_law [.p (.con (ns.map P.int))] [] = .ok (.p (.bl true)) s' := by
  obtain ⟨rn, cells, e0⟩ := Lbegun_ok ns hl
  generalize hj : (2 + min 3 ((ns.length : Int).fdiv 10)) = j
  have hjb : 2 ≤ j ∧ j ≤ 5 := by
    have : 0 ≤ (ns.length : Int).fdiv 10 := Int.fdiv_nonneg (by omega) (by decide)
    omega
  obtain ⟨ρ', s', h1, ⟨x0, x2, x3, x4, x5, x6, x7, x8, x9, x10, x11, x12, x13, x14, x15, rn', tn', cells', rest', rfl, rfl⟩⟩ := forL_inv (f := BODY_law) (tg := setG 2) (fun ρ s => ∃ (x0 x2 x3 x4 x5 x6 x7 x8 x9 x10 x11 x12 x13 x14 x15 : Option D) (rn tn : Int) (cells : List Int) (rest : S), ρ = [x0, some (.obj 0), x2, x3, x4, x5, x6, x7, x8, x9, x10, x11, x12, x13, x14, x15] ∧ s = mk2 rn tn cells rest) (xs := ranP 0 j.toNat)
    (ρ := [some (.p (.con (ns.map P.int))), some (.obj 0), none, none, none, none, none, none, none, none, none, none, none, none, none, none]) (s := mk2 rn 0 cells []) ⟨_, _, _, _, _, _, _, _, _, _, _, _, _, _, _, _, _, _, _, rfl, rfl⟩ (fun i hi ρ s h => by
      obtain ⟨x0, x2, x3, x4, x5, x6, x7, x8, x9, x10, x11, x12, x13, x14, x15, rn, tn, cells, rest, rfl, rfl⟩ := h
      obtain ⟨z, rfl⟩ : ∃ z : Int, i = .int z := by
        unfold ranP at hi
        obtain ⟨k, _, rfl⟩ := List.mem_map.mp hi
        exact ⟨_, rfl⟩
      obtain ⟨y3, y4, y5, y6, y7, y8, y9, y10, y11, y12, y13, y14, y15, r', t', cs', rs', h1⟩ := body_ok rn tn cells rest z x0 x3 x4 x5 x6 x7 x8 x9 x10 x11 x12 x13 x14 x15
      exact ⟨_, _, _, _, rfl, h1, _, _, _, _, _, _, _, _, _, _, _, _, _, _, _, _, _, _, _, rfl, rfl⟩)
  refine ⟨[], ?_⟩
  have hlen : ∀ s, lenD [.p (.con (ns.map P.int))] s = .ok (.p (.int ns.length)) s := by
    intro s
    show R.ok (D.p (.int ((ns.map P.int).length : Nat))) s = _
    rw [List.length_map]
  have hr : r1I [op2 (addD true) (cE (.int 2)) (calE minD [cE (.int 3), op2 divD (calE lenD [vE 0]) (cE (.int 10))])] [some (.p (.con (ns.map P.int))), some (.obj 0), none, none, none, none, none, none, none, none, none, none, none, none, none, none] (mk2 rn 0 cells []) = .ok (ranP 0 j.toNat, []) (mk2 rn 0 cells []) := by
    have k8 : divOk ns.length 10 := ⟨by decide, PyProof.noPylong_of_log2 (by decide)⟩
    exact r1_ev _ _ _ j _ (by simp [hlen, k8, hj]) (by omega) (by omega)
  have hf : forF (r1I [op2 (addD true) (cE (.int 2)) (calE minD [cE (.int 3), op2 divD (calE lenD [vE 0]) (cE (.int 10))])]) (setG 2) BODY_law [some (.p (.con (ns.map P.int))), some (.obj 0), none, none, none, none, none, none, none, none, none, none, none, none, none, none] (mk2 rn 0 cells []) = .ok (.nx [x0, some (.obj 0), x2, x3, x4, x5, x6, x7, x8, x9, x10, x11, x12, x13, x14, x15]) (mk2 rn' tn' cells' rest') := by
    rw [forF_ev, hr, R.bind_ok]
    exact h1
  unfold BODY_law INB REST at hf
  simp [m_law, defM_if, B_law, e0, hf]


end CWL
end
open PySem PySem.W PyProof.Rows in
set_option maxRecDepth 100000 in
set_option maxHeartbeats 0 in
theorem PySem.Challenge.cw_cubicway_k17_whole_rows_of_changes_holds : PySem.Challenge.rw_cubicway_k17_whole_rows_of_changes.Holds := by
  w_on; o_law; k_head; (case hw => w_witness2)
  k_fill
  refine CW.law_end (l := PySem.Challenge.rw_cubicway_k17_whole_rows_of_changes) (m := fun _ => CWL.m_law) (x := "_law_script") (k := 10) rfl (by decide) rfl ⟨rfl, by decide, by decide⟩ (fun w h Y => PySem.W.kIn_of Y) ?F (fun _ => CWL.law_true)
  case F =>
    intro w mg fa h KX G hmg
    refine' CWL.all_mk KX G hmg ?a0 ?l0 ?c0 ?k0 ?a1 ?l1 ?c1 ?k1 ?a2 ?l2 ?c2 ?k2 ?a3 ?l3 ?c3 ?k3 ?a4 ?l4 ?c4 ?k4 ?a5 ?l5 ?c5 ?k5 ?a6 ?l6 ?c6 ?k6 ?a7 ?l7 ?c7 ?k7 ?a8 ?l8 ?c8 ?k8 ?a9 ?l9 ?c9 ?k9 ?a10 ?l10 ?c10 ?k10 ?a11 ?l11 ?c11 ?k11 ?a12 ?l12 ?c12 ?k12 ?a13 ?l13 ?c13 ?k13 ?a14 ?l14 ?c14 ?k14 ?a15 ?l15 ?c15 ?k15 ?a16 ?l16 ?c16 ?k16 ?a17 ?l17 ?c17 ?k17 ?a18 ?l18 ?c18 ?k18 ?a19 ?l19 ?c19 ?k19 ?a20 ?l20 ?c20 ?k20 ?a21 ?l21 ?c21 ?k21 ?a22 ?l22 ?c22 ?k22 ?a23 ?l23 ?c23 ?k23 ?a24 ?l24 ?c24 ?k24 ?a25 ?l25 ?c25 ?k25 ?a26 ?l26 ?c26 ?k26 ?a27 ?l27 ?c27 ?k27 ?a28 ?l28 ?c28 ?k28 ?a29 ?l29 ?c29 ?k29 ?a30 ?l30 ?c30 ?k30 ?a31 ?l31 ?c31 ?k31 ?a32 ?l32 ?c32 ?k32 ?a33 ?l33 ?c33 ?k33 ?a34 ?l34 ?c34 ?k34 ?a35 ?l35 ?c35 ?k35 ?a36 ?l36 ?c36 ?k36 ?a37 ?l37 ?c37 ?k37 ?a38 ?l38 ?c38 ?k38 ?a39 ?l39 ?c39 ?k39 ?a40 ?l40 ?c40 ?k40 ?a41 ?l41 ?c41 ?k41 ?a42 ?l42 ?c42 ?k42 ?a43 ?l43 ?c43 ?k43 ?a44 ?l44 ?c44 ?k44 ?a45 ?l45 ?c45 ?k45 ?a46 ?l46 ?c46 ?k46 ?n0 ?n1 ?n2 ?n3 ?n4 ?n5 ?n6 ?n7 ?n8 ?n9 ?n10 ?n11 ?n12 ?n13
    (case a0 => k_is)
    (case l0 => k_is)
    (case c0 => k_is)
    (case k0 => k_is)
    (case a1 => k_is)
    (case l1 => k_is)
    (case c1 => k_is)
    (case k1 => k_is)
    (case a2 => k_is)
    (case l2 => k_is)
    (case c2 => k_is)
    (case k2 => k_is)
    (case a3 => k_is)
    (case l3 => k_is)
    (case c3 => k_is)
    (case k3 => k_is)
    (case a4 => k_is)
    (case l4 => k_is)
    (case c4 => k_is)
    (case k4 => k_is)
    (case a5 => k_is)
    (case l5 => k_is)
    (case c5 => k_is)
    (case k5 => k_is)
    (case a6 => k_is)
    (case l6 => k_is)
    (case c6 => k_is)
    (case k6 => k_is)
    (case a7 => k_is)
    (case l7 => k_is)
    (case c7 => k_is)
    (case k7 => k_is)
    (case a8 => k_is)
    (case l8 => k_is)
    (case c8 => k_is)
    (case k8 => k_is)
    (case a9 => k_is)
    (case l9 => k_is)
    (case c9 => k_is)
    (case k9 => k_is)
    (case a10 => k_is)
    (case l10 => k_is)
    (case c10 => k_is)
    (case k10 => k_is)
    (case a11 => k_is)
    (case l11 => k_is)
    (case c11 => k_is)
    (case k11 => k_is)
    (case a12 => k_is)
    (case l12 => k_is)
    (case c12 => k_is)
    (case k12 => k_is)
    (case a13 => k_is)
    (case l13 => k_is)
    (case c13 => k_is)
    (case k13 => k_is)
    (case a14 => k_is)
    (case l14 => k_is)
    (case c14 => k_is)
    (case k14 => k_is)
    (case a15 => k_is)
    (case l15 => k_is)
    (case c15 => k_is)
    (case k15 => k_is)
    (case a16 => k_is)
    (case l16 => k_is)
    (case c16 => k_is)
    (case k16 => k_is)
    (case a17 => k_is)
    (case l17 => k_is)
    (case c17 => k_is)
    (case k17 => k_is)
    (case a18 => k_is)
    (case l18 => k_is)
    (case c18 => k_is)
    (case k18 => k_is)
    (case a19 => k_is)
    (case l19 => k_is)
    (case c19 => k_is)
    (case k19 => k_is)
    (case a20 => k_is)
    (case l20 => k_is)
    (case c20 => k_is)
    (case k20 => k_is)
    (case a21 => k_is)
    (case l21 => k_is)
    (case c21 => k_is)
    (case k21 => k_is)
    (case a22 => k_is)
    (case l22 => k_is)
    (case c22 => k_is)
    (case k22 => k_is)
    (case a23 => k_is)
    (case l23 => k_is)
    (case c23 => k_is)
    (case k23 => k_is)
    (case a24 => k_is)
    (case l24 => k_is)
    (case c24 => k_is)
    (case k24 => k_is)
    (case a25 => k_is)
    (case l25 => k_is)
    (case c25 => k_is)
    (case k25 => k_is)
    (case a26 => k_is)
    (case l26 => k_is)
    (case c26 => k_is)
    (case k26 => k_is)
    (case a27 => k_is)
    (case l27 => k_is)
    (case c27 => k_is)
    (case k27 => k_is)
    (case a28 => k_is)
    (case l28 => k_is)
    (case c28 => k_is)
    (case k28 => k_is)
    (case a29 => k_is)
    (case l29 => k_is)
    (case c29 => k_is)
    (case k29 => k_is)
    (case a30 => k_is)
    (case l30 => k_is)
    (case c30 => k_is)
    (case k30 => k_is)
    (case a31 => k_is)
    (case l31 => k_is)
    (case c31 => k_is)
    (case k31 => k_is)
    (case a32 => k_is)
    (case l32 => k_is)
    (case c32 => k_is)
    (case k32 => k_is)
    (case a33 => k_is)
    (case l33 => k_is)
    (case c33 => k_is)
    (case k33 => k_is)
    (case a34 => k_is)
    (case l34 => k_is)
    (case c34 => k_is)
    (case k34 => k_is)
    (case a35 => k_is)
    (case l35 => k_is)
    (case c35 => k_is)
    (case k35 => k_is)
    (case a36 => k_is)
    (case l36 => k_is)
    (case c36 => k_is)
    (case k36 => k_is)
    (case a37 => k_is)
    (case l37 => k_is)
    (case c37 => k_is)
    (case k37 => k_is)
    (case a38 => k_is)
    (case l38 => k_is)
    (case c38 => k_is)
    (case k38 => k_is)
    (case a39 => k_is)
    (case l39 => k_is)
    (case c39 => k_is)
    (case k39 => k_is)
    (case a40 => k_is)
    (case l40 => k_is)
    (case c40 => k_is)
    (case k40 => k_is)
    (case a41 => k_is)
    (case l41 => k_is)
    (case c41 => k_is)
    (case k41 => k_is)
    (case a42 => k_is)
    (case l42 => k_is)
    (case c42 => k_is)
    (case k42 => k_is)
    (case a43 => k_is)
    (case l43 => k_is)
    (case c43 => k_is)
    (case k43 => k_is)
    (case a44 => k_is)
    (case l44 => k_is)
    (case c44 => k_is)
    (case k44 => k_is)
    (case a45 => k_is)
    (case l45 => k_is)
    (case c45 => k_is)
    (case k45 => k_is)
    (case a46 => k_is)
    (case l46 => k_is)
    (case c46 => k_is)
    (case k46 => k_is)
    (case n0 => k_is)
    (case n1 => k_is)
    (case n2 => k_is)
    (case n3 => k_is)
    (case n4 => k_is)
    (case n5 => k_is)
    (case n6 => k_is)
    (case n7 => k_is)
    (case n8 => k_is)
    (case n9 => k_is)
    (case n10 => k_is)
    (case n11 => k_is)
    (case n12 => k_is)
    (case n13 => k_is)

