import PyProof.Rows.All
import Wide.All
import OpenK.AllK
import Wide.FinOn
import HandS.ForMost
import HandS.Wide
import HandS.Defaults
import HandS.Zip
import HandS.IsInst
import HandS.Flow
import HandS.Style
import HandS.Conv
import HandS.EndBits
import HandS.Lambda
import KE.KNestM
import HandS.ExcIs
import HandS.ExcInit
import HandS.TupMul
import HandS.TupAny
import HandS.TryOnly
import HandS.Small
import KE.GoesMore
import HandS.Deep
import HandS.ExcOwn
import HandS.CallSlots
import KE.KExcIs
import PyProof.ExcBaseAll.ArithmeticError
import KE.KExcInit
import HandS.Text
import HandS.WideBits
import HandS.Flt
import HandS.Codes
import HandS.SetKeys
import HandS.SortInts
import HandS.ExcField
import PySem.Challenge.RW_cubicway_k08_parts_and_what_is_left
set_option Elab.async false
set_option linter.all false
section
set_option maxRecDepth 100000
set_option maxHeartbeats 2000000
/-! CW, first part: plain data, the logical state, how both lie in the abstract heap. -/
namespace CW
open PySem PySem.Spec PyProof.Rows L2

/-- plain data: what is never changed -/
inductive P where
  | non | bl (b : Bool) | int (i : Int) | str (x : Str) | ty (n : String) | ref (a : Addr) | tup (xs : List P) | lst (xs : List P) | con (xs : List P) | emp | exn (c : Str) | exf (c f : Str) (x : P) | cls (c : Str) | lam (f c : Addr) (qn : Str)
/-- a value: plain, or the n-th changing object -/
inductive D where
  | p (x : P) | obj (n : Nat)
/-- a changing object -/
inductive O where
  | lst (xs : List P) | dic (kvs : List (Key × D)) | row (ds : List D) | tpl (ds : List D)
abbrev S := List (Option O)
/-- what is raised: its class, and, where it is asked for, its field -/
structure Xc where
  c : Str
  x : Option (Str × P) := none
instance : Coe Str Xc := ⟨fun c => ⟨c, none⟩⟩
def Xc.toP : Xc → P
  | ⟨c, none⟩ => .exn c
  | ⟨c, some (f, x)⟩ => .exf c f x
@[simp] theorem Xc.toP_none (c : Str) : Xc.toP ⟨c, none⟩ = .exn c := rfl
@[simp] theorem Xc.toP_some (c f : Str) (x : P) : Xc.toP ⟨c, some (f, x)⟩ = .exf c f x := rfl
inductive R (α : Type) where
  | ok (a : α) (s : S) | bad | exn (c : Xc) (s : S)
abbrev M (α : Type) := S → R α
abbrev En := List (Option D)
def Good {α : Type} (r : R α) (Q : α → S → Prop) : Prop := match r with
  | .ok a s => Q a s
  | .bad => False
  | .exn _ _ => False
theorem Good.mono {α : Type} {r : R α} {Q Q' : α → S → Prop} (h : Good r Q) (k : ∀ a s, Q a s → Q' a s) : Good r Q' := by
  cases r with
  | ok a s => exact k a s h
  | bad => exact h
  | exn c s => exact h
def bnd {α β : Type} (m : M α) (k : α → M β) : M β := fun s => match m s with
  | .ok a s' => k a s'
  | .bad => .bad
  | .exn c s' => .exn c s'
theorem Good.bnd {α β : Type} {m : M α} {k : α → M β} {s : S} {Q : β → S → Prop} (h : Good (bnd m k s) Q) : Good (m s) (fun a s' => Good (k a s') Q) := by
  unfold CW.bnd at h
  cases e : m s with
  | ok a s' =>
    rw [e] at h
    exact h
  | bad =>
    rw [e] at h
    exact h.elim
  | exn c s' =>
    rw [e] at h
    exact h.elim
/-- the same where a piece may raise: E is the wish for what is raised -/
def GoodX {α : Type} (r : R α) (Q : α → S → Prop) (E : Xc → S → Prop) : Prop := match r with
  | .ok a s => Q a s
  | .bad => False
  | .exn c s => E c s
theorem GoodX.mono {α : Type} {r : R α} {Q Q' : α → S → Prop} {E E' : Xc → S → Prop} (h : GoodX r Q E) (k : ∀ a s, Q a s → Q' a s) (k2 : ∀ c s, E c s → E' c s) : GoodX r Q' E' := by
  cases r with
  | ok a s => exact k a s h
  | bad => exact h
  | exn c s => exact k2 c s h
theorem Good.x {α : Type} {r : R α} {Q : α → S → Prop} (h : Good r Q) (E : Xc → S → Prop) : GoodX r Q E := by
  cases r with
  | ok a s => exact h
  | bad => exact h
  | exn c s => exact h.elim
theorem GoodX.good {α : Type} {r : R α} {Q : α → S → Prop} (h : GoodX r Q fun _ _ => False) : Good r Q := by
  cases r with
  | ok a s => exact h
  | bad => exact h
  | exn c s => exact h
theorem GoodX.bnd {α β : Type} {m : M α} {k : α → M β} {s : S} {Q : β → S → Prop} {E : Xc → S → Prop} (h : GoodX (CW.bnd m k s) Q E) : GoodX (m s) (fun a s' => GoodX (k a s') Q E) E := by
  unfold CW.bnd at h
  cases e : m s with
  | ok a s' =>
    rw [e] at h
    exact h
  | bad =>
    rw [e] at h
    exact h.elim
  | exn c s' =>
    rw [e] at h
    exact h
theorem bnd_exn {α β : Type} {m : M α} {k : α → M β} {s s' : S} {c : Xc} (h : m s = .exn c s') : CW.bnd m k s = .exn c s' := by
  unfold CW.bnd
  rw [h]
theorem bnd_ok {α β : Type} {m : M α} {k : α → M β} {s s' : S} {a : α} (h : m s = .ok a s') : bnd m k s = k a s' := by
  unfold CW.bnd
  rw [h]
theorem bnd_bad {α β : Type} {m : M α} {k : α → M β} {s : S} (h : m s = .bad) : bnd m k s = .bad := by
  unfold CW.bnd
  rw [h]
def ret {α : Type} (a : α) : M α := fun s => .ok a s
def rais {α : Type} (c : Xc) : M α := fun s => .exn c s
def bad {α : Type} : M α := fun _ => .bad

/-! ### how it lies in the heap -/
section
variable (K : PySem.W.Frag)
/-- the heap of nothing: what is read of the written part alone -/
def H0 : Hp := fun _ => none
/-- the name of a class of the top -/
def NmC (c : Str) (A : Addr) : Prop := PySem.W.nsIn K mainGlobals c = some (some (.ref A))
/-- an exception's object: its class, its dict -/
def ExO (a A : Addr) (d : Option Addr) : HO := .ext fun h => ∃ (o : Obj) (vs : Array Value), h.get? a = some o ∧ o.cls = .ref A ∧ o.dict = d ∧ o.data = .fields vs
def CS (H : Hp) (a : Addr) (vs : List V) : Prop := (∃ o, H a = some (.frz o (.lst vs))) ∨ SqL K H0 a vs
mutual
inductive PV (F : Addr → Prop) (H : Hp) : V → P → Prop
  | non : PV F H .non .non
  | bl (b : Bool) : PV F H (.bl b) (.bl b)
  | int (i : Int) : PV F H (.int i) (.int i)
  | str (x : Str) : PV F H (.str x) (.str x)
  | ty (n : String) : PV F H (.ty n) (.ty n)
  | ref (a : Addr) : PV F H (.ref a) (.ref a)
  | tup {a : Addr} {vs : List V} {xs : List P} : SqT K H a vs → PVs F H vs xs → PV F H (.ref a) (.tup xs)
  | lst {a : Addr} {vs : List V} {xs : List P} : F a → H a = some (.lst vs) → PVs F H vs xs → PV F H (.ref a) (.lst xs)
  | con {a : Addr} {vs : List V} {xs : List P} : CS K H a vs → PVs F H vs xs → PV F H (.ref a) (.con xs)
  | emp {a : Addr} : F a → H a = some (.dK []) → PV F H (.ref a) .emp
  | exn {a A : Addr} {c : Str} {d : Option Addr} : NmC K c A → F a → H a = some (ExO a A d) → (∀ dx, d = some dx → F dx ∧ ∃ fs, H dx = some (.xd fs)) → PV F H (.ref a) (.exn c)
  | exf {a A dx : Addr} {c f : Str} {v : V} {x : P} : NmC K c A → F a → H a = some (ExO a A (some dx)) → F dx → H dx = some (.xd [(f, v)]) → PV F H v x → PV F H (.ref a) (.exf c f x)
  | cls {A : Addr} {c : Str} : NmC K c A → PV F H (.ref A) (.cls c)
  | lam {f c : Addr} {qn : Str} : F c → H c = some (LamX.CodeO c qn) → PV F H (.ref f) (.lam f c qn)
inductive PVs (F : Addr → Prop) (H : Hp) : List V → List P → Prop
  | nil : PVs F H [] []
  | cons {v : V} {vs : List V} {x : P} {xs : List P} : PV F H v x → PVs F H vs xs → PVs F H (v :: vs) (x :: xs)
end
structure Wd where
  io : List Addr
  fr : Addr → Prop
  pv : Addr → Prop
  tb : List (Addr × Str)
def DV (W : Wd) (H : Hp) (v : V) : D → Prop
  | .p x => PV K W.fr H v x
  | .obj n => ∃ a, W.io[n]? = some a ∧ v = .ref a
abbrev DVs (W : Wd) (H : Hp) : List V → List D → Prop := Paired (DV K W H)
def OV (W : Wd) (H : Hp) (a : Addr) : O → Prop
  | .lst xs => ∃ vs, H a = some (.lst vs) ∧ PVs K W.fr H vs xs
  | .dic kvs => ∃ ws : List (Key × V), H a = some (.dK ws) ∧ Paired (fun (p : Key × V) (q : Key × D) => p.1 = q.1 ∧ DV K W H p.2 q.2) ws kvs
  | .row ds => ∃ vs, H a = some (.lst vs) ∧ DVs K W H vs ds
  | .tpl ds => ∃ vs, H a = some (.tup vs) ∧ DVs K W H vs ds
/-- how worlds go on -/
structure Ev (W : Wd) (H : Hp) (W' : Wd) (H' : Hp) : Prop where
  io : ∃ r, W'.io = W.io ++ r
  fr : ∀ a, W.fr a → W'.fr a
  fk : ∀ a o, W.fr a → H a = some o → H' a = some o
  tk : ∀ a xs, H a = some (.tup xs) → H' a = some (.tup xs)
  zk : ∀ a o u, H a = some (.frz o u) → H' a = some (.frz o u)
  pv : ∀ a, W.pv a → W'.pv a
  pk : ∀ a o, W.pv a → H a = some o → H' a = some o
  tb : W'.tb = W.tb
structure Abs (W : Wd) (s : S) (H : Hp) : Prop where
  len : W.io.length = s.length
  nd : W.io.Nodup
  tr : ∀ a ∈ W.io, H a ≠ none
  ft : ∀ a, W.fr a → H a ≠ none
  ob : ∀ (n : Nat) (o : O), s[n]? = some (some o) → ∃ a, W.io[n]? = some a ∧ ¬ W.fr a ∧ OV K W H a o
  pd : ∀ a, W.pv a → (∃ vs, H a = some (.lst vs)) ∧ ¬ W.fr a ∧ a ∉ W.io
  tt : LamX.Tabs W.tb H
  tn : ∀ a ps, H a = some (.tbl ps) → ¬ W.fr a ∧ ¬ W.pv a ∧ a ∉ W.io
end
section
variable {K : PySem.W.Frag} {W W1 W2 W' : Wd} {H H1 H2 H' : Hp} {s : S} {v : V} {a p : Addr} {d : D} {x : P}
theorem Abs.pn (A : Abs K W s H) (h : W.pv a) : H a ≠ none := fun z => by
  obtain ⟨vs, e⟩ := (A.pd a h).1
  rw [z] at e
  cases e
theorem Ev.rfl : Ev W H W H := ⟨⟨[], by simp⟩, fun _ h => h, fun _ _ _ h => h, fun _ _ h => h, fun _ _ _ h => h, fun _ h => h, fun _ _ _ h => h, _root_.rfl⟩
theorem Ev.trans (e : Ev W H W1 H1) (f : Ev W1 H1 W2 H2) : Ev W H W2 H2 where
  io := by
    obtain ⟨r, hr⟩ := e.io
    obtain ⟨q, hq⟩ := f.io
    exact ⟨r ++ q, by rw [hq, hr, List.append_assoc]⟩
  fr := fun a h => f.fr a (e.fr a h)
  fk := fun a o h g => f.fk a o (e.fr a h) (e.fk a o h g)
  tk := fun a xs h => f.tk a xs (e.tk a xs h)
  zk := fun a o u h => f.zk a o u (e.zk a o u h)
  pv := fun a h => f.pv a (e.pv a h)
  pk := fun a o h g => f.pk a o (e.pv a h) (e.pk a o h g)
  tb := f.tb.trans e.tb
theorem Ev.sqt (e : Ev W H W' H') {vs : List V} (h : SqT K H a vs) : SqT K H' a vs := by
  rcases h with (h | ⟨o, h⟩) | h
  · exact Or.inl (Or.inl (e.tk _ _ h))
  · exact Or.inl (Or.inr ⟨o, e.zk _ _ _ h⟩)
  · exact Or.inr h
theorem Ev.cs (e : Ev W H W' H') {vs : List V} (h : CS K H a vs) : CS K H' a vs := by
  rcases h with ⟨o, h⟩ | h
  · exact Or.inl ⟨o, e.zk _ _ _ h⟩
  · exact Or.inr h
theorem CS.sql {vs : List V} (h : CS K H a vs) : SqL K H a vs := by
  rcases h with ⟨o, h⟩ | (h | ⟨o, h⟩) | h
  · exact Or.inl (Or.inr ⟨o, h⟩)
  · exact nomatch h
  · exact nomatch h
  · exact Or.inr h
mutual
theorem PV.up (e : Ev W H W' H') : ∀ {v : V} {x : P}, PV K W.fr H v x → PV K W'.fr H' v x
  | _, _, .non => .non
  | _, _, .bl b => .bl b
  | _, _, .int i => .int i
  | _, _, .str z => .str z
  | _, _, .ty n => .ty n
  | _, _, .ref a => .ref a
  | _, _, .tup h r => .tup (e.sqt h) (PVs.up e r)
  | _, _, .lst f h r => .lst (e.fr _ f) (e.fk _ _ f h) (PVs.up e r)
  | _, _, .con h r => .con (e.cs h) (PVs.up e r)
  | _, _, .emp f h => .emp (e.fr _ f) (e.fk _ _ f h)
  | _, _, .exn n f h d => .exn n (e.fr _ f) (e.fk _ _ f h) fun dx z => by
      obtain ⟨f2, fs, h2⟩ := d dx z
      exact ⟨e.fr _ f2, fs, e.fk _ _ f2 h2⟩
  | _, _, .exf n f h f2 h2 r => .exf n (e.fr _ f) (e.fk _ _ f h) (e.fr _ f2) (e.fk _ _ f2 h2) (PV.up e r)
  | _, _, .cls n => .cls n
  | _, _, .lam f h => .lam (e.fr _ f) (e.fk _ _ f h)
theorem PVs.up (e : Ev W H W' H') : ∀ {vs : List V} {xs : List P}, PVs K W.fr H vs xs → PVs K W'.fr H' vs xs
  | _, _, .nil => .nil
  | _, _, .cons h r => .cons (PV.up e h) (PVs.up e r)
end
theorem DV.up (e : Ev W H W' H') (h : DV K W H v d) : DV K W' H' v d := by
  cases d with
  | p x => exact PV.up e h
  | obj n =>
    obtain ⟨a, ha, hv⟩ := h
    obtain ⟨r, hr⟩ := e.io
    refine ⟨a, ?_, hv⟩
    have hl := (List.getElem?_eq_some_iff.mp ha).1
    rw [hr, List.getElem?_append_left hl]
    exact ha
theorem DVs.up (e : Ev W H W' H') : ∀ {vs : List V} {ds : List D}, DVs K W H vs ds → DVs K W' H' vs ds
  | _, _, .nil => .nil
  | _, _, .cons h r => .cons (DV.up e h) (DVs.up e r)
theorem PVs.len {F : Addr → Prop} : ∀ {vs : List V} {xs : List P}, PVs K F H vs xs → vs.length = xs.length
  | _, _, .nil => _root_.rfl
  | _, _, .cons _ r => congrArg (· + 1) (PVs.len r)
theorem PVs.app {F : Addr → Prop} : ∀ {vs : List V} {xs : List P} {us : List V} {ys : List P}, PVs K F H vs xs → PVs K F H us ys → PVs K F H (vs ++ us) (xs ++ ys)
  | _, _, _, _, .nil, q => q
  | _, _, _, _, .cons h r, q => .cons h (PVs.app r q)
theorem PVs.get {F : Addr → Prop} : ∀ {vs : List V} {xs : List P} {i : Nat} {x : P}, PVs K F H vs xs → xs[i]? = some x → ∃ v, vs[i]? = some v ∧ PV K F H v x
  | _, _, _, _, .nil, e => by simp at e
  | _, _, 0, _, .cons h _, e => by
    simp at e
    subst e
    exact ⟨_, rfl, h⟩
  | _, _, i + 1, x, .cons _ r, e => by
    obtain ⟨v, h1, h2⟩ := PVs.get (i := i) (x := x) r (by simpa using e)
    exact ⟨v, by simpa using h1, h2⟩
theorem PVs.put {F : Addr → Prop} {v : V} {x : P} (h : PV K F H v x) : ∀ {vs : List V} {xs : List P} (i : Nat), PVs K F H vs xs → PVs K F H (vs.set i v) (xs.set i x)
  | _, _, _, .nil => .nil
  | _, _, 0, .cons _ r => .cons h r
  | _, _, i + 1, .cons q r => .cons q (PVs.put h i r)
theorem PVs.take {F : Addr → Prop} : ∀ {vs : List V} {xs : List P} (n : Nat), PVs K F H vs xs → PVs K F H (vs.take n) (xs.take n)
  | _, _, 0, _ => .nil
  | _, _, _ + 1, .nil => .nil
  | _, _, n + 1, .cons h r => .cons h (PVs.take n r)
theorem PVs.drop {F : Addr → Prop} : ∀ {vs : List V} {xs : List P} (n : Nat), PVs K F H vs xs → PVs K F H (vs.drop n) (xs.drop n)
  | _, _, 0, r => r
  | _, _, _ + 1, .nil => .nil
  | _, _, n + 1, .cons _ r => PVs.drop n r
theorem PVs.rep {F : Addr → Prop} {v : V} {x : P} (h : PV K F H v x) : ∀ n : Nat, PVs K F H (List.replicate n v) (List.replicate n x)
  | 0 => .nil
  | n + 1 => .cons h (PVs.rep h n)
theorem PVs.ints {F : Addr → Prop} : ∀ ns : List Int, PVs K F H (ns.map V.int) (ns.map P.int)
  | [] => .nil
  | n :: r => .cons (.int n) (PVs.ints r)
theorem PVs.bls {F : Addr → Prop} : ∀ {vs : List V} {bs : List Bool}, PVs K F H vs (bs.map P.bl) → vs = bs.map V.bl
  | _, [], .nil => _root_.rfl
  | _, _ :: _, .cons (.bl _) r => congrArg (_ :: ·) (PVs.bls r)
theorem PVs.int_eq {F : Addr → Prop} : ∀ {vs : List V} {bs : List Int}, PVs K F H vs (bs.map P.int) → vs = bs.map V.int
  | _, [], .nil => _root_.rfl
  | _, _ :: _, .cons (.int _) r => congrArg (_ :: ·) (PVs.int_eq r)
theorem PVs.str_eq {F : Addr → Prop} : ∀ {vs : List V} {bs : List Str}, PVs K F H vs (bs.map P.str) → vs = bs.map V.str
  | _, [], .nil => _root_.rfl
  | _, _ :: _, .cons (.str _) r => congrArg (_ :: ·) (PVs.str_eq r)
theorem DVs.plain : ∀ {vs : List V} {xs : List P}, DVs K W H vs (xs.map D.p) → PVs K W.fr H vs xs
  | _, [], .nil => .nil
  | _, _ :: _, .cons h r => .cons h (DVs.plain r)
theorem PVs.dvs : ∀ {vs : List V} {xs : List P}, PVs K W.fr H vs xs → DVs K W H vs (xs.map D.p)
  | _, _, .nil => .nil
  | _, _, .cons h r => .cons h (PVs.dvs r)
/-- a new object that no name of ours bears -/
theorem Ev.new {o : HO} (hp : H p = none) : Ev W H W (upd H p o) where
  io := ⟨[], by simp⟩
  fr := fun _ h => h
  fk := fun a o _ h => by rw [upd_ne (ne_of_none h hp)]; exact h
  tk := fun a xs h => by rw [upd_ne (ne_of_none h hp)]; exact h
  zk := fun a o u h => by rw [upd_ne (ne_of_none h hp)]; exact h
  pv := fun _ h => h
  pk := fun a o _ h => by rw [upd_ne (ne_of_none h hp)]; exact h
  tb := _root_.rfl
theorem Ev.oth {o : HO} (hp : H p = none) (h : H a ≠ none) : upd H p o a = H a := upd_ne fun e => h (e ▸ hp)
theorem OV.up (e : Ev W H W' H') (he : H' a = H a) {o : O} (h : OV K W H a o) : OV K W' H' a o := by
  cases o with
  | lst xs =>
    obtain ⟨vs, h1, h2⟩ := h
    exact ⟨vs, he.trans h1, PVs.up e h2⟩
  | dic kvs =>
    obtain ⟨ws, h1, h2⟩ := h
    exact ⟨ws, he.trans h1, Paired.mapP h2 fun p q z => ⟨z.1, DV.up e z.2⟩⟩
  | row ds =>
    obtain ⟨vs, h1, h2⟩ := h
    exact ⟨vs, he.trans h1, DVs.up e h2⟩
  | tpl ds =>
    obtain ⟨vs, h1, h2⟩ := h
    exact ⟨vs, he.trans h1, DVs.up e h2⟩
theorem OV.there {o : O} (h : OV K W H a o) : H a ≠ none := by
  cases o with
  | lst xs =>
    obtain ⟨vs, h1, _⟩ := h
    rw [h1]
    exact fun z => nomatch z
  | dic kvs =>
    obtain ⟨ws, h1, _⟩ := h
    rw [h1]
    exact fun z => nomatch z
  | row ds =>
    obtain ⟨ws, h1, _⟩ := h
    rw [h1]
    exact fun z => nomatch z
  | tpl ds =>
    obtain ⟨ws, h1, _⟩ := h
    rw [h1]
    exact fun z => nomatch z
theorem tabs_new {o : HO} {T : List (Addr × Str)} (h : LamX.Tabs T H) (hp : H p = none) : LamX.Tabs T (upd H p o) := h.ext fun b u e => by rw [upd_ne (ne_of_none e hp)]; exact e
theorem tbl_new {o : HO} {ps : Array Value} (h : upd H p o a = some (.tbl ps)) (no : ∀ ps, o ≠ .tbl ps) : a ≠ p ∧ H a = some (.tbl ps) := by
  have e : a ≠ p := fun e => by
    rw [e, upd_same] at h
    exact no ps (Option.some.inj h)
  rw [upd_ne e] at h
  exact ⟨e, h⟩
theorem tabs_put {u : HO} {T : List (Addr × Str)} (h : LamX.Tabs T H) (n1 : ∀ ps, H p ≠ some (.tbl ps)) (n2 : ∀ φ, H p ≠ some (.ext φ)) : LamX.Tabs T (upd H p u) := fun q hq => by
  obtain ⟨ps, p1, p2, p3⟩ := h q hq
  refine ⟨ps, ?_, p2, fun pos cv hc => ?_⟩
  · rw [upd_ne fun z => n1 _ (z ▸ p1)]
    exact p1
  · obtain ⟨c, c1, c2⟩ := p3 pos cv hc
    exact ⟨c, c1, by rw [upd_ne fun z => n2 _ (z ▸ c2)]; exact c2⟩
theorem Abs.new {o : HO} (A : Abs K W s H) (hp : H p = none) (no : ∀ ps, o ≠ .tbl ps := by intro _ z; cases z) : Abs K W s (upd H p o) where
  len := A.len
  nd := A.nd
  tr := fun a h => by rw [Ev.oth hp (A.tr a h)]; exact A.tr a h
  ft := fun a h => by rw [Ev.oth hp (A.ft a h)]; exact A.ft a h
  ob := fun n u h => by
    obtain ⟨a, h1, h2, h3⟩ := A.ob n u h
    exact ⟨a, h1, h2, h3.up (Ev.new hp) (Ev.oth hp h3.there)⟩
  pd := fun a h => ⟨by rw [Ev.oth hp (A.pn h)]; exact (A.pd a h).1, (A.pd a h).2⟩
  tt := tabs_new A.tt hp
  tn := fun a ps h => A.tn a ps (tbl_new h no).2
/-- a new list that will not be changed -/
def Wd.keep (W : Wd) (p : Addr) : Wd := ⟨W.io, fun a => W.fr a ∨ a = p, W.pv, W.tb⟩
theorem Ev.keep {o : HO} (hp : H p = none) : Ev W H (W.keep p) (upd H p o) where
  io := ⟨[], by simp [Wd.keep]⟩
  fr := fun _ h => Or.inl h
  fk := (Ev.new (W := W) hp).fk
  tk := (Ev.new (W := W) hp).tk
  zk := (Ev.new (W := W) hp).zk
  pv := fun _ h => h
  pk := (Ev.new (W := W) hp).pk
  tb := _root_.rfl
theorem Abs.keep {o : HO} (A : Abs K W s H) (hp : H p = none) (no : ∀ ps, o ≠ .tbl ps := by intro _ z; cases z) : Abs K (W.keep p) s (upd H p o) where
  len := A.len
  nd := A.nd
  tr := fun a h => by rw [Ev.oth hp (A.tr a h)]; exact A.tr a h
  ft := fun a h => by
    rcases h with h | h
    · rw [Ev.oth hp (A.ft a h)]
      exact A.ft a h
    · rw [h, upd_same]
      exact fun z => nomatch z
  ob := fun n u h => by
    obtain ⟨a, h1, h2, h3⟩ := A.ob n u h
    refine ⟨a, h1, fun z => ?_, h3.up (Ev.keep hp) (Ev.oth hp h3.there)⟩
    rcases z with z | z
    · exact h2 z
    · rw [z] at h3
      exact h3.there hp
  pd := fun a h => ⟨by rw [Ev.oth hp (A.pn h)]; exact (A.pd a h).1, fun z => by
    rcases z with z | z
    · exact (A.pd a h).2.1 z
    · exact A.pn h (by rw [z]; exact hp), (A.pd a h).2.2⟩
  tt := tabs_new A.tt hp
  tn := fun a ps h => by
    obtain ⟨ne, h⟩ := tbl_new h no
    obtain ⟨h1, h2, h3⟩ := A.tn a ps h
    exact ⟨fun z => z.elim h1 ne, h2, h3⟩
/-- a new changing object -/
def Wd.add (W : Wd) (p : Addr) : Wd := ⟨W.io ++ [p], W.fr, W.pv, W.tb⟩
theorem Ev.add {o : HO} (hp : H p = none) : Ev W H (W.add p) (upd H p o) where
  io := ⟨[p], _root_.rfl⟩
  fr := fun _ h => h
  fk := (Ev.new (W := W) hp).fk
  tk := (Ev.new (W := W) hp).tk
  zk := (Ev.new (W := W) hp).zk
  pv := fun _ h => h
  pk := (Ev.new (W := W) hp).pk
  tb := _root_.rfl
theorem Abs.add {o : HO} {u : O} (A : Abs K W s H) (hp : H p = none) (hu : OV K (W.add p) (upd H p o) p u) (no : ∀ ps, o ≠ .tbl ps := by intro _ z; cases z) : Abs K (W.add p) (s ++ [some u]) (upd H p o) where
  len := by simp [Wd.add, A.len]
  nd := by
    refine List.nodup_append.mpr ⟨A.nd, by simp, fun a ha b hb e => ?_⟩
    have hb' : b = p := by simpa using hb
    exact A.tr a ha (by rw [e, hb']; exact hp)
  tr := fun a h => by
    rcases List.mem_append.mp h with h | h
    · rw [Ev.oth hp (A.tr a h)]
      exact A.tr a h
    · have e : a = p := by simpa using h
      rw [e, upd_same]
      exact fun z => nomatch z
  ft := fun a h => by rw [Ev.oth hp (A.ft a h)]; exact A.ft a h
  ob := fun n q h => by
    by_cases hn : n < s.length
    · rw [List.getElem?_append_left hn] at h
      obtain ⟨a, h1, h2, h3⟩ := A.ob n q h
      refine ⟨a, ?_, h2, h3.up (Ev.add hp) (Ev.oth hp h3.there)⟩
      show (W.io ++ [p])[n]? = some a
      rw [List.getElem?_append_left (by rw [A.len]; exact hn)]
      exact h1
    · have hn2 : n = s.length := by
        have h4 := (List.getElem?_eq_some_iff.mp h).1
        simp at h4
        omega
      subst hn2
      have hq : q = u := by
        simp at h
        exact h.symm
      subst hq
      refine ⟨p, ?_, fun z => A.ft p z hp, hu⟩
      show (W.io ++ [p])[s.length]? = some p
      rw [← A.len]
      simp
  pd := fun a h => ⟨by rw [Ev.oth hp (A.pn h)]; exact (A.pd a h).1, (A.pd a h).2.1, fun z => by
    rcases List.mem_append.mp z with z | z
    · exact (A.pd a h).2.2 z
    · have e : a = p := by simpa using z
      exact A.pn h (by rw [e]; exact hp)⟩
  tt := tabs_new A.tt hp
  tn := fun a ps h => by
    obtain ⟨ne, h⟩ := tbl_new h no
    obtain ⟨h1, h2, h3⟩ := A.tn a ps h
    refine ⟨h1, h2, fun z => ?_⟩
    rcases List.mem_append.mp z with z | z
    · exact h3 z
    · exact ne (by simpa using z)
theorem Abs.nobj (A : Abs K W s H) (hp : H p = none) : (W.add p).io[s.length]? = some p := by
  show (W.io ++ [p])[s.length]? = some p
  rw [← A.len]
  simp
/-- a changing object is changed -/
theorem Ev.put {n : Nat} {o o' : O} {u : HO} (A : Abs K W s H) (hn : s[n]? = some (some o)) (ha : W.io[n]? = some a) (no : ∀ ds, o ≠ .tpl ds := by intro _ z; cases z) : Ev W H W (upd H a u) := by
  obtain ⟨b, h1, h2, h3⟩ := A.ob n o hn
  rw [ha] at h1
  cases h1
  have nt : ∀ xs, H a ≠ some (.tup xs) := fun xs z => by
    cases o with
    | lst xs =>
      obtain ⟨vs, h4, _⟩ := h3
      rw [z] at h4
      cases h4
    | dic kvs =>
      obtain ⟨vs, h4, _⟩ := h3
      rw [z] at h4
      cases h4
    | row kvs =>
      obtain ⟨vs, h4, _⟩ := h3
      rw [z] at h4
      cases h4
    | tpl kvs => exact no kvs _root_.rfl
  have nz : ∀ q r, H a ≠ some (.frz q r) := fun q r z => by
    cases o with
    | lst xs =>
      obtain ⟨vs, h4, _⟩ := h3
      rw [z] at h4
      cases h4
    | dic kvs =>
      obtain ⟨vs, h4, _⟩ := h3
      rw [z] at h4
      cases h4
    | row kvs =>
      obtain ⟨vs, h4, _⟩ := h3
      rw [z] at h4
      cases h4
    | tpl kvs => exact no kvs _root_.rfl
  refine ⟨⟨[], by simp⟩, fun _ h => h, fun b q hb h => ?_, fun b xs h => ?_, fun b q r h => ?_, fun _ h => h, fun b q hb h => ?_, _root_.rfl⟩
  · have e : b ≠ a := fun e => by
      subst e
      exact h2 hb
    rw [upd_ne e]
    exact h
  · have e : b ≠ a := fun e => by
      subst e
      exact nt xs h
    rw [upd_ne e]
    exact h
  · have e : b ≠ a := fun e => by
      subst e
      exact nz q r h
    rw [upd_ne e]
    exact h
  · have e : b ≠ a := fun e => by
      subst e
      exact (A.pd b hb).2.2 (List.mem_of_getElem? ha)
    rw [upd_ne e]
    exact h
theorem OV.ne_ext {o : O} {φ : Heap → Prop} (h : OV K W H a o) : H a ≠ some (.ext φ) := fun z => by
  cases o with
  | lst xs =>
    obtain ⟨vs, h1, _⟩ := h
    rw [z] at h1
    cases h1
  | dic kvs =>
    obtain ⟨ws, h1, _⟩ := h
    rw [z] at h1
    cases h1
  | row kvs =>
    obtain ⟨ws, h1, _⟩ := h
    rw [z] at h1
    cases h1
  | tpl kvs =>
    obtain ⟨ws, h1, _⟩ := h
    rw [z] at h1
    cases h1
theorem OV.ne_tbl {o : O} {ps : Array Value} (h : OV K W H a o) : H a ≠ some (.tbl ps) := fun z => by
  cases o with
  | lst xs =>
    obtain ⟨vs, h1, _⟩ := h
    rw [z] at h1
    cases h1
  | dic kvs =>
    obtain ⟨ws, h1, _⟩ := h
    rw [z] at h1
    cases h1
  | row kvs =>
    obtain ⟨ws, h1, _⟩ := h
    rw [z] at h1
    cases h1
  | tpl kvs =>
    obtain ⟨ws, h1, _⟩ := h
    rw [z] at h1
    cases h1
theorem Abs.put {n : Nat} {o o' : O} {u : HO} (A : Abs K W s H) (hn : s[n]? = some (some o)) (ha : W.io[n]? = some a) (hu : OV K W (upd H a u) a o') (no' : ∀ ds, o ≠ .tpl ds := by intro _ z; cases z) : Abs K W (s.set n (some o')) (upd H a u) := by
  have ev : Ev W H W (upd H a u) := Ev.put (o' := o') A hn ha no'
  have hl : n < s.length := (List.getElem?_eq_some_iff.mp hn).1
  have no : ∀ ps, u ≠ .tbl ps := fun ps z => hu.ne_tbl (by rw [upd_same, z])
  refine ⟨by rw [List.length_set]; exact A.len, A.nd, fun b h => ?_, fun b h => ?_, fun m q h => ?_, fun b h => ⟨?_, (A.pd b h).2⟩, fun q hq => ?_, fun b ps h => A.tn b ps (tbl_new h no).2⟩
  · by_cases e : b = a
    · rw [e, upd_same]
      exact fun z => nomatch z
    · rw [upd_ne e]
      exact A.tr b h
  · by_cases e : b = a
    · rw [e, upd_same]
      exact fun z => nomatch z
    · rw [upd_ne e]
      exact A.ft b h
  · by_cases e : m = n
    · subst e
      rw [List.getElem?_set_self hl] at h
      have hq : o' = q := Option.some.inj (Option.some.inj h)
      subst hq
      obtain ⟨b, h1, h2, h3⟩ := A.ob m o hn
      rw [ha] at h1
      cases h1
      exact ⟨a, ha, h2, hu⟩
    · rw [List.getElem?_set_ne (Ne.symm e)] at h
      obtain ⟨b, h1, h2, h3⟩ := A.ob m q h
      have hab : b ≠ a := fun z => e (nd_ix A.nd h1 (by rw [z]; exact ha))
      exact ⟨b, h1, h2, h3.up ev (upd_ne hab)⟩
  · have e : b ≠ a := fun e => by
      subst e
      exact (A.pd b h).2.2 (List.mem_of_getElem? ha)
    rw [upd_ne e]
    exact (A.pd b h).1
  · obtain ⟨b, h1, h2, h3⟩ := A.ob n o hn
    rw [ha] at h1
    cases h1
    obtain ⟨ps, p1, p2, p3⟩ := A.tt q hq
    refine ⟨ps, ?_, p2, fun pos cv hc => ?_⟩
    · rw [upd_ne fun z => h3.ne_tbl (z ▸ p1)]
      exact p1
    · obtain ⟨c, c1, c2⟩ := p3 pos cv hc
      exact ⟨c, c1, by rw [upd_ne fun z => h3.ne_ext (z ▸ c2)]; exact c2⟩
/-- an object is from now on plain -/
theorem Abs.freeze {n : Nat} {xs : List P} (A : Abs K W s H) (hn : s[n]? = some (some (.lst xs))) (ha : W.io[n]? = some a) : Ev W H (W.keep a) H ∧ Abs K (W.keep a) (s.set n none) H ∧ PV K (W.keep a).fr H (.ref a) (.lst xs) := by
  obtain ⟨b, h1, h2, vs, h3, h4⟩ := A.ob n _ hn
  rw [ha] at h1
  cases h1
  have ev : Ev W H (W.keep a) H := ⟨⟨[], by simp [Wd.keep]⟩, fun _ h => Or.inl h, fun _ _ _ h => h, fun _ _ h => h, fun _ _ _ h => h, fun _ h => h, fun _ _ _ h => h, _root_.rfl⟩
  refine ⟨ev, ⟨by rw [List.length_set]; exact A.len, A.nd, A.tr, fun b h => ?_, fun m q h => ?_, fun b h => ⟨(A.pd b h).1, fun z => ?_, (A.pd b h).2.2⟩, A.tt, fun b ps h => ⟨fun z => z.elim (A.tn b ps h).1 fun e => (A.tn b ps h).2.2 (by rw [e]; exact List.mem_of_getElem? ha), (A.tn b ps h).2⟩⟩, .lst (Or.inr _root_.rfl) h3 (PVs.up ev h4)⟩
  · rcases h with h | h
    · exact A.ft b h
    · rw [h, h3]
      exact fun z => nomatch z
  · have e : m ≠ n := fun e => by
      subst e
      rw [List.getElem?_set_self (List.getElem?_eq_some_iff.mp hn).1] at h
      cases h
    rw [List.getElem?_set_ne (Ne.symm e)] at h
    obtain ⟨b, g1, g2, g3⟩ := A.ob m q h
    refine ⟨b, g1, fun z => ?_, g3.up ev _root_.rfl⟩
    rcases z with z | z
    · exact g2 z
    · exact e (nd_ix A.nd g1 (by rw [z]; exact ha))
  · rcases z with z | z
    · exact (A.pd b h).2.1 z
    · exact (A.pd b h).2.2 (by rw [z]; exact List.mem_of_getElem? ha)
/-- the older objects bear no name of a newer one -/
structure Keeps (s s' : S) : Prop where
  le : s.length ≤ s'.length
  dic : ∀ (i : Nat) (kvs : List (Key × D)), i < s.length → s'[i]? = some (some (.dic kvs)) → s[i]? = s'[i]? ∨ ∀ kv ∈ kvs, ∀ m, kv.2 = .obj m → m < s.length
  row : ∀ (i : Nat) (ds : List D), i < s.length → s'[i]? = some (some (.row ds)) → s[i]? = s'[i]? ∨ ∀ d ∈ ds, ∀ m, d = .obj m → m < s.length
  tpl : ∀ (i : Nat) (ds : List D), i < s.length → s'[i]? = some (some (.tpl ds)) → s[i]? = s'[i]? ∨ ∀ d ∈ ds, ∀ m, d = .obj m → m < s.length
theorem Keeps.self : Keeps s s := ⟨Nat.le_refl _, fun _ _ _ _ => Or.inl rfl, fun _ _ _ _ => Or.inl rfl, fun _ _ _ _ => Or.inl rfl⟩
theorem Keeps.more (r : S) : Keeps s (s ++ r) := ⟨by rw [List.length_append]; omega, fun i _ h _ => Or.inl (by rw [List.getElem?_append_left h]), fun i _ h _ => Or.inl (by rw [List.getElem?_append_left h]), fun i _ h _ => Or.inl (by rw [List.getElem?_append_left h])⟩
theorem DV.old {n : Nat} {r : List Addr} (h : DV K W' H v d) (hr : W'.io = W.io ++ r) (hd : ∀ m, d = .obj m → m < W.io.length) : DV K ⟨W.io, W'.fr, W'.pv, W'.tb⟩ H v d := by
  cases d with
  | p x => exact h
  | obj m =>
    obtain ⟨a, h1, h2⟩ := h
    rw [hr, List.getElem?_append_left (hd m rfl)] at h1
    exact ⟨a, h1, h2⟩
/-- what a def made and did not hand back is forgotten -/
theorem Abs.cut {s' : S} (A : Abs K W s H) (e : Ev W H W' H') (A' : Abs K W' s' H') (k : Keeps s s') : Abs K ⟨W.io, W'.fr, W'.pv, W'.tb⟩ (s'.take s.length) H' := by
  obtain ⟨r, hr⟩ := e.io
  obtain ⟨k1, k2, k3, k4⟩ := k
  refine ⟨by rw [List.length_take, A.len]; omega, A.nd, fun a h => A'.tr a (by rw [hr]; exact List.mem_append_left _ h), A'.ft, fun n o h => ?_, fun a h => ⟨(A'.pd a h).1, (A'.pd a h).2.1, fun z => (A'.pd a h).2.2 (by rw [hr]; exact List.mem_append_left _ z)⟩, A'.tt, fun a ps h => ⟨(A'.tn a ps h).1, (A'.tn a ps h).2.1, fun z => (A'.tn a ps h).2.2 (by rw [hr]; exact List.mem_append_left _ z)⟩⟩
  have hn : n < s.length := by
    have h4 := (List.getElem?_eq_some_iff.mp h).1
    simp at h4
    omega
  rw [List.getElem?_take_of_lt hn] at h
  obtain ⟨a, h1, h2, h3⟩ := A'.ob n o h
  rw [hr, List.getElem?_append_left (by rw [A.len]; exact hn)] at h1
  refine ⟨a, h1, h2, ?_⟩
  cases o with
  | lst xs => exact h3
  | dic kvs =>
    obtain ⟨ws, h4, h5⟩ := h3
    refine ⟨ws, h4, ?_⟩
    have low : ∀ kv ∈ kvs, ∀ m, kv.2 = .obj m → m < W.io.length := by
      rcases k2 n kvs hn h with z | z
      · rw [h] at z
        obtain ⟨b, g1, _, ws2, _, g5⟩ := A.ob n _ z
        intro kv hk m hm
        have key : ∀ {us : List (Key × V)} {qs : List (Key × D)}, Paired (fun (p : Key × V) (q : Key × D) => p.1 = q.1 ∧ DV K W H p.2 q.2) us qs → kv ∈ qs → m < W.io.length := by
          intro us qs hp
          induction hp with
          | nil => intro h; cases h
          | cons hh _ ih =>
            intro hq
            rcases List.mem_cons.mp hq with e1 | e1
            · obtain ⟨_, h7⟩ := hh
              rw [← e1, hm] at h7
              obtain ⟨c, h8, _⟩ := h7
              exact (List.getElem?_eq_some_iff.mp h8).1
            · exact ih e1
        exact key g5 hk
      · intro kv hk m hm
        rw [A.len]
        exact z kv hk m hm
    have go : ∀ {us : List (Key × V)} {qs : List (Key × D)}, Paired (fun (p : Key × V) (q : Key × D) => p.1 = q.1 ∧ DV K W' H' p.2 q.2) us qs → (∀ kv ∈ qs, ∀ m, kv.2 = .obj m → m < W.io.length) → Paired (fun (p : Key × V) (q : Key × D) => p.1 = q.1 ∧ DV K ⟨W.io, W'.fr, W'.pv, W'.tb⟩ H' p.2 q.2) us qs := by
      intro us qs hp
      induction hp with
      | nil => intro _; exact .nil
      | cons hh _ ih =>
        intro hq
        exact .cons ⟨hh.1, DV.old (n := 0) hh.2 hr (hq _ List.mem_cons_self)⟩ (ih fun kv h => hq kv (List.mem_cons_of_mem _ h))
    exact go h5 low
  | row ds =>
    obtain ⟨vs, h4, h5⟩ := h3
    refine ⟨vs, h4, ?_⟩
    have low : ∀ d ∈ ds, ∀ m, d = .obj m → m < W.io.length := by
      rcases k3 n ds hn h with z | z
      · rw [h] at z
        obtain ⟨b, g1, _, vs2, _, g5⟩ := A.ob n _ z
        intro d hk m hm
        have key : ∀ {us : List V} {qs : List D}, DVs K W H us qs → d ∈ qs → m < W.io.length := by
          intro us qs hp
          induction hp with
          | nil => intro h; cases h
          | cons hh _ ih =>
            intro hq
            rcases List.mem_cons.mp hq with e1 | e1
            · rw [← e1, hm] at hh
              obtain ⟨c, h8, _⟩ := hh
              exact (List.getElem?_eq_some_iff.mp h8).1
            · exact ih e1
        exact key g5 hk
      · intro d hk m hm
        rw [A.len]
        exact z d hk m hm
    have go : ∀ {us : List V} {qs : List D}, DVs K W' H' us qs → (∀ d ∈ qs, ∀ m, d = .obj m → m < W.io.length) → DVs K ⟨W.io, W'.fr, W'.pv, W'.tb⟩ H' us qs := by
      intro us qs hp
      induction hp with
      | nil => intro _; exact .nil
      | cons hh _ ih =>
        intro hq
        exact .cons (DV.old (n := 0) hh hr (hq _ List.mem_cons_self)) (ih fun d h => hq d (List.mem_cons_of_mem _ h))
    exact go h5 low
  | tpl ds =>
    obtain ⟨vs, h4, h5⟩ := h3
    refine ⟨vs, h4, ?_⟩
    have low : ∀ d ∈ ds, ∀ m, d = .obj m → m < W.io.length := by
      rcases k4 n ds hn h with z | z
      · rw [h] at z
        obtain ⟨b, g1, _, vs2, _, g5⟩ := A.ob n _ z
        intro d hk m hm
        have key : ∀ {us : List V} {qs : List D}, DVs K W H us qs → d ∈ qs → m < W.io.length := by
          intro us qs hp
          induction hp with
          | nil => intro h; cases h
          | cons hh _ ih =>
            intro hq
            rcases List.mem_cons.mp hq with e1 | e1
            · rw [← e1, hm] at hh
              obtain ⟨c, h8, _⟩ := hh
              exact (List.getElem?_eq_some_iff.mp h8).1
            · exact ih e1
        exact key g5 hk
      · intro d hk m hm
        rw [A.len]
        exact z d hk m hm
    have go : ∀ {us : List V} {qs : List D}, DVs K W' H' us qs → (∀ d ∈ qs, ∀ m, d = .obj m → m < W.io.length) → DVs K ⟨W.io, W'.fr, W'.pv, W'.tb⟩ H' us qs := by
      intro us qs hp
      induction hp with
      | nil => intro _; exact .nil
      | cons hh _ ih =>
        intro hq
        exact .cons (DV.old (n := 0) hh hr (hq _ List.mem_cons_self)) (ih fun d h => hq d (List.mem_cons_of_mem _ h))
    exact go h5 low
theorem Ev.cut {W' : Wd} (e : Ev W H W' H') : Ev W H ⟨W.io, W'.fr, W'.pv, W'.tb⟩ H' := ⟨⟨[], by simp⟩, e.fr, e.fk, e.tk, e.zk, e.pv, e.pk, e.tb⟩
/-! ### a list in the making, seen by nobody -/
def Wd.hide (W : Wd) (p : Addr) : Wd := ⟨W.io, W.fr, fun a => W.pv a ∨ a = p, W.tb⟩
def Wd.show (W : Wd) (p : Addr) : Wd := ⟨W.io, W.fr, fun a => W.pv a ∧ a ≠ p, W.tb⟩
theorem Abs.hide (A : Abs K W s H) (hl : ∃ vs, H p = some (.lst vs)) (hf : ¬ W.fr p) (hi : p ∉ W.io) : Abs K (W.hide p) s H := by
  have up : ∀ {v d}, DV K W H v d → DV K (W.hide p) H v d := fun {v d} q => by cases d <;> exact q
  obtain ⟨vs, hv⟩ := hl
  have h : H p ≠ none := by
    rw [hv]
    exact fun z => nomatch z
  refine ⟨A.len, A.nd, A.tr, A.ft, fun n o hn => ?_, fun a ha => ?_, A.tt, fun b ps hb => ⟨(A.tn b ps hb).1, fun z => z.elim (A.tn b ps hb).2.1 fun e => ?_, (A.tn b ps hb).2.2⟩⟩
  · obtain ⟨a, h1, h2, h3⟩ := A.ob n o hn
    refine ⟨a, h1, h2, ?_⟩
    cases o with
    | lst xs => exact h3
    | dic kvs =>
      obtain ⟨ws, h4, h5⟩ := h3
      exact ⟨ws, h4, Paired.mapP h5 fun p q z => ⟨z.1, up z.2⟩⟩
    | row ds =>
      obtain ⟨vs, h4, h5⟩ := h3
      exact ⟨vs, h4, Paired.mapP h5 fun p q z => up z⟩
    | tpl ds =>
      obtain ⟨vs, h4, h5⟩ := h3
      exact ⟨vs, h4, Paired.mapP h5 fun p q z => up z⟩
  · rcases ha with ha | ha
    · exact A.pd a ha
    · rw [ha]
      exact ⟨⟨vs, hv⟩, hf, hi⟩
  · rw [e, hv] at hb
    cases hb
theorem Ev.hide : Ev W H (W.hide p) H := ⟨⟨[], by simp [Wd.hide]⟩, fun _ h => h, fun _ _ _ h => h, fun _ _ h => h, fun _ _ _ h => h, fun _ h => Or.inl h, fun _ _ _ h => h, _root_.rfl⟩
/-- an item more -/
theorem Ev.grow {u : HO} (e : Ev (W.hide p) H W' H') (hp : ¬ W.pv p) (A' : Abs K W' s H') (hl : ∃ vs, H' p = some (.lst vs)) : Ev W H (W'.show p) (upd H' p u) := by
  obtain ⟨vs, hv⟩ := hl
  have pp : W'.pv p := e.pv p (Or.inr _root_.rfl)
  have nf := (A'.pd p pp).2.1
  have nt : ∀ xs, H' p ≠ some (.tup xs) := fun xs z => by
    rw [hv] at z
    cases z
  have nz : ∀ q r, H' p ≠ some (.frz q r) := fun q r z => by
    rw [hv] at z
    cases z
  refine ⟨e.io, e.fr, fun b q hb h => ?_, fun b xs h => ?_, fun b q r h => ?_, fun b h => ⟨e.pv b (Or.inl h), fun z => hp (z ▸ h)⟩, fun b q hb h => ?_, e.tb⟩
  · have ne : b ≠ p := fun z => by
      subst z
      exact nf (e.fr b hb)
    rw [upd_ne ne]
    exact e.fk b q hb h
  · have g := e.tk b xs h
    have ne : b ≠ p := fun z => by
      subst z
      exact nt xs g
    rw [upd_ne ne]
    exact g
  · have g := e.zk b q r h
    have ne : b ≠ p := fun z => by
      subst z
      exact nz q r g
    rw [upd_ne ne]
    exact g
  · have ne : b ≠ p := fun z => by
      subst z
      exact hp hb
    rw [upd_ne ne]
    exact e.pk b q (Or.inl hb) h
theorem Abs.grow {u : HO} (A : Abs K W s H) (pp : W.pv p) (hl : ∃ vs, H p = some (.lst vs)) (no : ∀ ps, u ≠ .tbl ps := by intro _ z; cases z) : Ev (W.show p) H (W.show p) (upd H p u) ∧ Abs K (W.show p) s (upd H p u) := by
  obtain ⟨vs, hv⟩ := hl
  obtain ⟨n1, n2, n3⟩ := A.pd p pp
  have ev : Ev (W.show p) H (W.show p) (upd H p u) := by
    refine ⟨⟨[], by simp⟩, fun _ h => h, fun b q hb h => ?_, fun b xs h => ?_, fun b q r h => ?_, fun _ h => h, fun b q hb h => ?_, _root_.rfl⟩
    · have ne : b ≠ p := fun z => by
        subst z
        exact n2 hb
      rw [upd_ne ne]
      exact h
    · have ne : b ≠ p := fun z => by
        subst z
        rw [hv] at h
        cases h
      rw [upd_ne ne]
      exact h
    · have ne : b ≠ p := fun z => by
        subst z
        rw [hv] at h
        cases h
      rw [upd_ne ne]
      exact h
    · rw [upd_ne hb.2]
      exact h
  have dn : ∀ {v d}, DV K W H v d → DV K (W.show p) H v d := fun {v d} q => by cases d <;> exact q
  refine ⟨ev, ⟨A.len, A.nd, fun a ha => ?_, fun a ha => ?_, fun n o hn => ?_, fun a ha => ⟨?_, (A.pd a ha.1).2⟩, tabs_put A.tt (fun _ z => by rw [hv] at z; cases z) (fun _ z => by rw [hv] at z; cases z), fun b ps h => ⟨(A.tn b ps (tbl_new h no).2).1, fun z => (A.tn b ps (tbl_new h no).2).2.1 z.1, (A.tn b ps (tbl_new h no).2).2.2⟩⟩⟩
  · have ne : a ≠ p := fun z => by
      subst z
      exact n3 ha
    rw [upd_ne ne]
    exact A.tr a ha
  · have ne : a ≠ p := fun z => by
      subst z
      exact n2 ha
    rw [upd_ne ne]
    exact A.ft a ha
  · obtain ⟨a, h1, h2, h3⟩ := A.ob n o hn
    have ne : a ≠ p := fun z => by
      subst z
      exact n3 (List.mem_of_getElem? h1)
    refine ⟨a, h1, h2, OV.up ev (upd_ne ne) ?_⟩
    cases o with
    | lst xs => exact h3
    | dic kvs =>
      obtain ⟨ws, h4, h5⟩ := h3
      exact ⟨ws, h4, Paired.mapP h5 fun p q z => ⟨z.1, dn z.2⟩⟩
    | row ds =>
      obtain ⟨vs, h4, h5⟩ := h3
      exact ⟨vs, h4, Paired.mapP h5 fun p q z => dn z⟩
    | tpl ds =>
      obtain ⟨vs, h4, h5⟩ := h3
      exact ⟨vs, h4, Paired.mapP h5 fun p q z => dn z⟩
  · rw [upd_ne ha.2]
    exact (A.pd a ha.1).1
end
end CW

end
section
set_option maxRecDepth 100000
set_option maxHeartbeats 2000000
/-! CW, second part: what a piece of text does, as a function of the logical state; expressions. -/
namespace CW
open PySem PySem.Spec PyProof.Rows L2

structure Cf where
  pg : Program
  w : World
  K : PySem.W.Frag
  mg : Str → Option Value
  base : Heap
  /-- the rows run with the guards known: repr asks for it, a lambda's body doesn't tell it -/
  rg : Bool
  /-- what more is known of a context in which a def's own rows run -/
  ex : Cx → Prop
  /-- the tables of the defs that make lambdas -/
  tb : List (Addr × Str)
  /-- the code object and the name of the def that runs, where it is asked for -/
  cq : Option (Value × Str)
/-- what is known wherever a def's body, or a comprehension's block, runs -/
structure Okx (C : Cf) (k : Nat) (X : Cx) : Prop where
  pr : X.prog = C.pg
  ew : X.w = C.w
  eK : X.K = C.K
  em : X.mg = C.mg
  eb : X.base = C.base
  calm : X.calm = true
  rm : Room k X.A
  gd : C.rg = true → X.A.guards = some []
/-- the scope that runs, by the written one: a captured name may be a cell of the def around -/
structure Lik (sc es : Scope) : Prop where
  loc : ∀ x, sc.names.lookup x = some .local → es.names.lookup x = some .local
  cel : ∀ x, sc.names.lookup x = some .cell → es.names.lookup x = some .cell
  fre : ∀ x, sc.names.lookup x = some .free → es.names.lookup x = some .cell ∨ es.names.lookup x = some .free
  glo : ∀ x, sc.names.lookup x = some .globalImplicit → es.names.lookup x = some .globalImplicit
theorem Lik.rfl {sc : Scope} : Lik sc sc := ⟨fun _ h => h, fun _ h => h, fun _ h => Or.inr h, fun _ h => h⟩
theorem Lik.vis {sc es : Scope} {x : Str} (l : Lik sc es) (h : Vis sc x) : Vis es x := by
  rcases h with h | h | h
  · exact Or.inl (l.loc x h)
  · exact Or.inr (Or.inl (l.cel x h))
  · rcases l.fre x h with h | h
    · exact Or.inr (Or.inl h)
    · exact Or.inr (Or.inr h)
theorem Lik.lo {sc es : Scope} {x : Str} (l : Lik sc es) (h : Loc sc x) : Loc es x := by
  rcases h with h | h
  · exact Or.inl (l.loc x h)
  · exact Or.inr (l.cel x h)
structure Cok (C : Cf) (sc : Scope) (N : List Str) (k : Nat) (X : Cx) : Prop extends Okx C k X where
  nN : X.N = N
  nd : N.Nodup
  eL : Lik sc X.env.scope
  po : PassesOwn (model X.prog X.w) X.A X.env X.xe
  fc : ∀ x, sc.names.lookup x = some .cell → X.fn x = true
  cq : ∀ v q, C.cq = some (v, q) → X.env.code = v ∧ X.env.qual = q
/-- a def's own body -/
structure Cod (C : Cf) (sc : Scope) (N : List Str) (k : Nat) (X : Cx) : Prop extends Cok C sc N k X where
  eS : X.env.scope = sc
  sk : X.stack = X.env :: X.outer
  fm : X.env.frame = some X.env.locals
  nx : X.ex = []
  cx : C.ex X
structure ER (C : Cf) (W : Wd) (H : Hp) (σ : L2.St) (ρ : En) : Prop where
  len : σ.length = ρ.length
  «at» : ∀ (i : Nat) (d : D), ρ[i]? = some (some d) → ∃ v, σ[i]? = some (some v) ∧ DV C.K W H v d
  tb : W.tb = C.tb
def Po (K : PySem.W.Frag) (W : Wd) (H : Hp) (Q : VK) : D → S → Prop := fun d s => ∀ W' H' v, Ev W H W' H' → DV K W' H' v d → Abs K W' s H' → Q v H'
def PoA (K : PySem.W.Frag) (W : Wd) (H : Hp) (Q : List V → Hp → Prop) : List D → S → Prop := fun ds s => ∀ W' H' vs, Ev W H W' H' → DVs K W' H' vs ds → Abs K W' s H' → Q vs H'
def PoT (K : PySem.W.Frag) (W : Wd) (H : Hp) (Q : Bool → Hp → Prop) : Bool → S → Prop := fun b s => ∀ W' H', Ev W H W' H' → Abs K W' s H' → Q b H'
theorem ER.up {C : Cf} {W W' : Wd} {H H' : Hp} {σ : L2.St} {ρ : En} (h : ER C W H σ ρ) (e : Ev W H W' H') : ER C W' H' σ ρ := ⟨h.len, fun i d z => by
  obtain ⟨v, h1, h2⟩ := h.at i d z
  exact ⟨v, h1, h2.up e⟩, e.tb.trans h.tb⟩
theorem Po.up {K : PySem.W.Frag} {W W' : Wd} {H H' : Hp} {Q : VK} {d : D} {s : S} (e : Ev W H W' H') (h : Po K W H Q d s) : Po K W' H' Q d s := fun W2 H2 v e2 => h W2 H2 v (e.trans e2)
theorem PoA.up {K : PySem.W.Frag} {W W' : Wd} {H H' : Hp} {Q : List V → Hp → Prop} {d : List D} {s : S} (e : Ev W H W' H') (h : PoA K W H Q d s) : PoA K W' H' Q d s := fun W2 H2 v e2 => h W2 H2 v (e.trans e2)
theorem PoT.up {K : PySem.W.Frag} {W W' : Wd} {H H' : Hp} {Q : Bool → Hp → Prop} {d : Bool} {s : S} (e : Ev W H W' H') (h : PoT K W H Q d s) : PoT K W' H' Q d s := fun W2 H2 e2 => h W2 H2 (e.trans e2)

abbrev EF := En → M D
abbrev AF := En → M (List D)
abbrev TF := En → M Bool
/-- an expression does m -/
def SE (C : Cf) (sc : Scope) (N : List Str) (k : Nat) (e : Expr) (m : EF) : Prop :=
  ∀ X, Cok C sc N k X → ∃ t, PE X e t ∧ ∀ σ H W s ρ Q, ER C W H σ ρ → Abs C.K W s H → Good (m ρ s) (Po C.K W H Q) → t σ H Q
def SA (C : Cf) (sc : Scope) (N : List Str) (k : Nat) (es : List Expr) (m : AF) : Prop :=
  ∀ X, Cok C sc N k X → ∃ t, PA X es t ∧ ∀ σ H W s ρ Q, ER C W H σ ρ → Abs C.K W s H → Good (m ρ s) (PoA C.K W H Q) → t σ H Q
def ST (C : Cf) (sc : Scope) (N : List Str) (k : Nat) (e : Expr) (m : TF) : Prop :=
  ∀ X, Cok C sc N k X → ∃ t, PT X e t ∧ ∀ σ H W s ρ Q, ER C W H σ ρ → Abs C.K W s H → Good (m ρ s) (PoT C.K W H Q) → t σ H Q
/-- a test within and, or -/
def SW (C : Cf) (sc : Scope) (N : List Str) (k : Nat) (e : Expr) (m : TF) : Prop :=
  ∀ X, Cok C sc N k X → ∃ t, PW X e t ∧ ∀ σ H W s ρ Q, ER C W H σ ρ → Abs C.K W s H → Good (m ρ s) (PoT C.K W H Q) → t σ H Q

section
variable {C : Cf} {sc : Scope} {N : List Str} {k : Nat} {pos : Pos} {e a b : Expr} {m ma mb : EF}

/-! ### names, constants -/
def vE (i : Nat) : EF := fun ρ s => match ρ[i]? with
  | some (some d) => .ok d s
  | _ => .bad
def cE (x : P) : EF := fun _ s => .ok (.p x) s
theorem s_v (i : Nat) {x : Str} (hN : N[i]? = some x := by rfl) (hv : Vis sc x := by first | exact Or.inl rfl | exact Or.inr (Or.inl rfl) | exact Or.inr (Or.inr rfl)) (hd : (x == ("__debug__" : Str)) = false := by decide)
    (hcd : (x == ("__classdict__" : Str)) = false := by decide) : SE C sc N k (.Name x pos) (vE i) := fun X ok => by
  refine ⟨_, pe_var (i := i) (by rw [ok.nN]; exact hN) (ok.eL.vis hv) hd hcd, fun σ H W s ρ Q er A g => ?_⟩
  unfold vE at g
  split at g
  · rename_i d hd
    obtain ⟨v, h1, h2⟩ := er.at i d hd
    exact ⟨v, h1, g W H v Ev.rfl h2 A⟩
  · exact g.elim
theorem s_int {i : Int} {j : Nat} : SE C sc N k (.Constant (.int i) j pos) (cE (.int i)) := fun X ok => ⟨_, pe_int, fun σ H W s ρ Q er A g => g W H _ Ev.rfl (PV.int i) A⟩
theorem s_bl {i : Bool} {j : Nat} : SE C sc N k (.Constant (.bool i) j pos) (cE (.bl i)) := fun X ok => ⟨_, pe_bl, fun σ H W s ρ Q er A g => g W H _ Ev.rfl (PV.bl i) A⟩
theorem s_non {j : Nat} : SE C sc N k (.Constant .none j pos) (cE .non) := fun X ok => ⟨_, pe_non, fun σ H W s ρ Q er A g => g W H _ Ev.rfl PV.non A⟩
theorem s_str {x : Str} {j : Nat} : SE C sc N k (.Constant (.str x) j pos) (cE (.str x)) := fun X ok => ⟨_, pe_str, fun σ H W s ρ Q er A g => g W H _ Ev.rfl (PV.str x) A⟩
def GlS (sc : Scope) (x : Str) : Prop := sc.names.lookup x = some .globalImplicit
theorem GlS.of {X : Cx} {x : Str} (h : GlS sc x) (ok : Cok C sc N k X) : Gl X x := by
  exact ok.eL.glo x h
/-- a module's constant -/
theorem s_glob {x : Str} {v : V} {u : Value} {z : P} (hm : C.mg x = some u) (r : RelV v u) (hz : ∀ F H, PV C.K F H v z) (hg : GlS sc x := by rfl) (hd : (x == ("__debug__" : Str)) = false := by decide) : SE C sc N k (.Name x pos) (cE z) := fun X ok => by
  refine ⟨_, pe_glob (hg.of ok) (by rw [ok.em]; exact hm) r hd, fun σ H W s ρ Q er A g => ?_⟩
  exact g W H v Ev.rfl (hz _ _) A

/-! ### operators -/
/-- a two-place operation on values does g -/
def OpS (C : Cf) (k : Nat) (f : Value → Value → Sem Value) (g : D → D → M D) : Prop :=
  ∀ X, Okx C k X → ∃ r, OpR X f r ∧ ∀ W s H x y dx dy Q, DV C.K W H x dx → DV C.K W H y dy → Abs C.K W s H → Good (g dx dy s) (Po C.K W H Q) → r x y H Q
def op2 (g : D → D → M D) (ma mb : EF) : EF := fun ρ => bnd (ma ρ) fun x => bnd (mb ρ) fun y => g x y
theorem two {t u : TE} {R : V → V → Hp → Prop} {σ : L2.St} {H : Hp} {W : Wd} {s : S} {ρ : En} {g : D → D → M D} {Q : VK}
    (ha : ∀ σ H W s ρ Q, ER C W H σ ρ → Abs C.K W s H → Good (ma ρ s) (Po C.K W H Q) → t σ H Q) (hb : ∀ σ H W s ρ Q, ER C W H σ ρ → Abs C.K W s H → Good (mb ρ s) (Po C.K W H Q) → u σ H Q)
    (er : ER C W H σ ρ) (A : Abs C.K W s H) (h : Good (op2 g ma mb ρ s) (Po C.K W H Q))
    (hR : ∀ W' H' s' x y dx dy, Ev W H W' H' → DV C.K W' H' x dx → DV C.K W' H' y dy → Abs C.K W' s' H' → Good (g dx dy s') (Po C.K W' H' Q) → R x y H') : t σ H fun x H1 => u σ H1 fun y H2 => R x y H2 := by
  refine ha σ H W s ρ _ er A (h.bnd.mono fun dx s1 h1 W1 H1 x e1 r1 A1 => ?_)
  refine hb σ H1 W1 s1 ρ _ (er.up e1) A1 (h1.bnd.mono fun dy s2 h2 W2 H2 y e2 r2 A2 => ?_)
  exact hR W2 H2 s2 x y dx dy (e1.trans e2) (r1.up e2) r2 A2 (h2.mono fun d s z => z.up (e1.trans e2))
theorem s_bin {op : Operator} {g : D → D → M D} (ho : OpS C k (binaryOp op) g) (ha : SE C sc N k a ma) (hb : SE C sc N k b mb) : SE C sc N k (.BinOp a op b pos) (op2 g ma mb) := fun X ok => by
  obtain ⟨r, h1, h2⟩ := ho X ok.toOkx
  obtain ⟨ta, pa, qa⟩ := ha X ok
  obtain ⟨tb, pb, qb⟩ := hb X ok
  exact ⟨_, pe_op h1 pa pb, fun σ H W s ρ Q er A g => two qa qb er A g fun W' H' s' x y dx dy e rx ry A' g' => h2 W' s' H' x y dx dy Q rx ry A' g'⟩
theorem s_cmp {op : CmpOp} {g : D → D → M D} (ho : OpS C k (compareOp op) g) (ha : SE C sc N k a ma) (hb : SE C sc N k b mb) (hm : behindInMarks op b = false := by first | exact nomark _ | rfl) : SE C sc N k (.Compare a [op] [b] pos) (op2 g ma mb) := fun X ok => by
  obtain ⟨r, h1, h2⟩ := ho X ok.toOkx
  obtain ⟨ta, pa, qa⟩ := ha X ok
  obtain ⟨tb, pb, qb⟩ := hb X ok
  exact ⟨_, pe_cmpR h1 pa pb hm, fun σ H W s ρ Q er A g => two qa qb er A g fun W' H' s' x y dx dy e rx ry A' g' => h2 W' s' H' x y dx dy Q rx ry A' g'⟩
def chn (g h : D → D → M D) (ma mb mc : EF) : EF := fun ρ => bnd (ma ρ) fun x => bnd (mb ρ) fun y => bnd (g x y) fun c => match c with
  | .p (.bl true) => bnd (mc ρ) fun z => h y z
  | .p (.bl false) => ret (.p (.bl false))
  | _ => bad
theorem chn_go {t u v : TE} {r r' : R2} {mc : EF} {g h : D → D → M D} {σ : L2.St} {H : Hp} {W : Wd} {s : S} {ρ : En} {Q : VK}
    (ha : ∀ σ H W s ρ Q, ER C W H σ ρ → Abs C.K W s H → Good (ma ρ s) (Po C.K W H Q) → t σ H Q) (hb : ∀ σ H W s ρ Q, ER C W H σ ρ → Abs C.K W s H → Good (mb ρ s) (Po C.K W H Q) → u σ H Q)
    (hc : ∀ σ H W s ρ Q, ER C W H σ ρ → Abs C.K W s H → Good (mc ρ s) (Po C.K W H Q) → v σ H Q)
    (h1 : ∀ W s H x y dx dy Q, DV C.K W H x dx → DV C.K W H y dy → Abs C.K W s H → Good (g dx dy s) (Po C.K W H Q) → r x y H Q) (h2 : ∀ W s H x y dx dy Q, DV C.K W H x dx → DV C.K W H y dy → Abs C.K W s H → Good (h dx dy s) (Po C.K W H Q) → r' x y H Q)
    (er : ER C W H σ ρ) (A : Abs C.K W s H) (G : Good (chn g h ma mb mc ρ s) (Po C.K W H Q)) : tChain r r' t u v σ H Q := by
  refine ha σ H W s ρ _ er A (G.bnd.mono fun dx s1 z1 W1 H1 x e1 r1 A1 => ?_)
  refine hb σ H1 W1 s1 ρ _ (er.up e1) A1 (z1.bnd.mono fun dy s2 z2 W2 H2 y e2 r2 A2 => ?_)
  refine h1 W2 s2 H2 x y dx dy _ (r1.up e2) r2 A2 (z2.bnd.mono fun c s3 z3 W3 H3 z e3 r3 A3 => ?_)
  cases c with
  | obj n => exact z3.elim
  | p c =>
    cases r3 with
    | bl c =>
      refine ⟨c, rfl, ?_⟩
      cases c with
      | true =>
        refine iteT (hc σ H3 W3 s3 ρ _ (er.up (e1.trans (e2.trans e3))) A3 (z3.bnd.mono fun dz s4 z4 W4 H4 y' e4 r4 A4 => ?_))
        exact h2 W4 s4 H4 y y' dy dz Q (r2.up (e3.trans e4)) r4 A4 (z4.mono fun _ _ q => q.up (e1.trans (e2.trans (e3.trans e4))))
      | false => exact iteF (z3 W3 H3 _ (e1.trans (e2.trans e3)) (.bl false) A3)
    | _ => exact z3.elim
theorem s_chain {op op' : CmpOp} {g h : D → D → M D} {c : Expr} {mc : EF} (ho : OpS C k (compareOp op) g) (ho' : OpS C k (compareOp op') h) (ha : SE C sc N k a ma) (hb : SE C sc N k b mb) (hc : SE C sc N k c mc)
    (hm : lastMarks [op, op'] [b, c] = false := by with_unfolding_all rfl) : SE C sc N k (.Compare a [op, op'] [b, c] pos) (chn g h ma mb mc) := fun X ok => by
  obtain ⟨r, h1, h2⟩ := ho X ok.toOkx
  obtain ⟨r', h1', h2'⟩ := ho' X ok.toOkx
  obtain ⟨ta, pa, qa⟩ := ha X ok
  obtain ⟨tb, pb, qb⟩ := hb X ok
  obtain ⟨tc, pc, qc⟩ := hc X ok
  exact ⟨_, pe_chain h1 h1' pa pb pc hm, fun σ H W s ρ Q er A g => chn_go qa qb qc h2 h2' er A g⟩
/-- a value that must be a truth -/
def tB (m : EF) : TF := fun ρ => bnd (m ρ) fun d => match d with
  | .p (.bl b) => ret b
  | _ => bad
theorem tB_go {t : TE} {σ : L2.St} {H : Hp} {W : Wd} {s : S} {ρ : En} {Q : Bool → Hp → Prop}
    (ha : ∀ σ H W s ρ Q, ER C W H σ ρ → Abs C.K W s H → Good (ma ρ s) (Po C.K W H Q) → t σ H Q) (er : ER C W H σ ρ) (A : Abs C.K W s H) (h : Good (tB ma ρ s) (PoT C.K W H Q)) : t σ H fun x H1 => ∃ c, x = .bl c ∧ Q c H1 := by
  refine ha σ H W s ρ _ er A (h.bnd.mono fun d s1 h1 W1 H1 x e1 r1 A1 => ?_)
  cases d with
  | obj n => exact h1.elim
  | p z =>
    cases z with
    | bl c =>
      cases r1
      exact ⟨c, rfl, h1 W1 H1 e1 A1⟩
    | _ => exact h1.elim
theorem t_cmp {op : CmpOp} {g : D → D → M D} (ho : OpS C k (compareOp op) g) (ha : SE C sc N k a ma) (hb : SE C sc N k b mb) (hm : behindInMarks op b = false := by first | exact nomark _ | rfl) : ST C sc N k (.Compare a [op] [b] pos) (tB (op2 g ma mb)) := fun X ok => by
  obtain ⟨r, h1, h2⟩ := ho X ok.toOkx
  obtain ⟨ta, pa, qa⟩ := ha X ok
  obtain ⟨tb, pb, qb⟩ := hb X ok
  exact ⟨_, pt_cmpR h1 pa pb hm, fun σ H W s ρ Q er A g => tB_go (t := tOp r ta tb) (fun σ H W s ρ Q er A g => two qa qb er A g fun W' H' s' x y dx dy e rx ry A' g' => h2 W' s' H' x y dx dy Q rx ry A' g') er A g⟩
theorem t_chain {op op' : CmpOp} {g h : D → D → M D} {c : Expr} {mc : EF} (ho : OpS C k (compareOp op) g) (ho' : OpS C k (compareOp op') h) (ha : SE C sc N k a ma) (hb : SE C sc N k b mb) (hc : SE C sc N k c mc)
    (hm : lastMarks [op, op'] [b, c] = false := by with_unfolding_all rfl) : ST C sc N k (.Compare a [op, op'] [b, c] pos) (tB (chn g h ma mb mc)) := fun X ok => by
  obtain ⟨r, h1, h2⟩ := ho X ok.toOkx
  obtain ⟨r', h1', h2'⟩ := ho' X ok.toOkx
  obtain ⟨ta, pa, qa⟩ := ha X ok
  obtain ⟨tb, pb, qb⟩ := hb X ok
  obtain ⟨tc, pc, qc⟩ := hc X ok
  exact ⟨_, pt_chain h1 h1' pa pb pc hm, fun σ H W s ρ Q er A g => tB_go (t := tChain r r' ta tb tc) (fun σ H W s ρ Q er A g => chn_go qa qb qc h2 h2' er A g) er A g⟩
/-- the truth of a value -/
def truD : D → M Bool
  | .p .non => ret false
  | .p (.bl b) => ret b
  | .p (.int i) => ret (i != 0)
  | .p (.lst xs) => ret (!xs.isEmpty)
  | .p (.con xs) => ret (!xs.isEmpty)
  | .p (.tup xs) => ret (!xs.isEmpty)
  | .p (.str x) => fun s => if x.length ≤ sizeLine then .ok ((x.length : Int) != 0) s else .bad
  | .obj n => fun s => match s[n]? with
    | some (some (.lst xs)) => .ok (!xs.isEmpty) s
    | some (some (.dic kvs)) => .ok (!kvs.isEmpty) s
    | _ => .bad
  | _ => bad
def tT (m : EF) : TF := fun ρ => bnd (m ρ) truD
theorem PVs.emp {K : PySem.W.Frag} {F : Addr → Prop} {H : Hp} {vs : List V} {xs : List P} (h : PVs K F H vs xs) : (!vs.isEmpty) = !xs.isEmpty := by
  cases h <;> rfl
theorem Paired.emp {α β : Type} {f : α → β → Prop} {vs : List α} {xs : List β} (h : Paired f vs xs) : (!vs.isEmpty) = !xs.isEmpty := by
  cases h <;> rfl
theorem tT_go {t : TE} {σ : L2.St} {H : Hp} {W : Wd} {s : S} {ρ : En} {Q : Bool → Hp → Prop}
    (ha : ∀ σ H W s ρ Q, ER C W H σ ρ → Abs C.K W s H → Good (ma ρ s) (Po C.K W H Q) → t σ H Q) (er : ER C W H σ ρ) (A : Abs C.K W s H) (h : Good (tT ma ρ s) (PoT C.K W H Q)) : t σ H fun x H1 => ∃ c, TruV C.K x H1 c ∧ Q c H1 := by
  refine ha σ H W s ρ _ er A (h.bnd.mono fun d s1 h1 W1 H1 x e1 r1 A1 => ?_)
  cases d with
  | obj n =>
    obtain ⟨a, h4, rfl⟩ := r1
    unfold truD at h1
    dsimp only at h1
    split at h1
    · rename_i xs hs
      obtain ⟨a', h5, _, vs, h6, h7⟩ := A1.ob n _ hs
      rw [h4] at h5
      cases h5
      exact ⟨_, Or.inl ⟨vs, SqL.of h6, rfl⟩, by rw [h7.emp]; exact h1 W1 H1 e1 A1⟩
    · rename_i kvs hs
      obtain ⟨a', h5, _, vs, h6, h7⟩ := A1.ob n _ hs
      rw [h4] at h5
      cases h5
      exact ⟨_, Or.inr (Or.inr ⟨vs, h6, rfl⟩), by rw [Paired.emp h7]; exact h1 W1 H1 e1 A1⟩
    · exact h1.elim
  | p z =>
    cases r1 with
    | non => exact ⟨_, rfl, h1 W1 H1 e1 A1⟩
    | bl c => exact ⟨_, rfl, h1 W1 H1 e1 A1⟩
    | int c => exact ⟨_, rfl, h1 W1 H1 e1 A1⟩
    | str c =>
      unfold truD at h1
      dsimp only at h1
      split at h1
      · rename_i hl
        exact ⟨_, ⟨hl, rfl⟩, h1 W1 H1 e1 A1⟩
      · exact h1.elim
    | ty c => exact h1.elim
    | ref c => exact h1.elim
    | emp _ _ => exact h1.elim
    | exn _ _ _ _ => exact h1.elim
    | exf _ _ _ _ _ _ => exact h1.elim
    | cls _ => exact h1.elim
    | lam _ _ => exact h1.elim
    | tup hq hr => exact ⟨_, Or.inr (Or.inl ⟨_, hq, rfl⟩), by rw [hr.emp]; exact h1 W1 H1 e1 A1⟩
    | lst hf hq hr => exact ⟨_, Or.inl ⟨_, SqL.of hq, rfl⟩, by rw [hr.emp]; exact h1 W1 H1 e1 A1⟩
    | con hq hr => exact ⟨_, Or.inl ⟨_, hq.sql, rfl⟩, by rw [hr.emp]; exact h1 W1 H1 e1 A1⟩
theorem t_val (ha : SE C sc N k a ma) (he : ∀ (env : Env) whole, isTrue a env whole = (do let v ← whole; standAt a.pos; holding [v] (truthy v)) := by intro _ _; rfl) : ST C sc N k a (tT ma) := fun X ok => by
  obtain ⟨ta, pa, qa⟩ := ha X ok
  refine ⟨_, pt_truth pa (he X.env), fun σ H W s ρ Q er A g => ?_⟩
  rw [ok.eK]
  exact tT_go qa er A g
def andT (ma mb : TF) : TF := fun ρ => bnd (ma ρ) fun c => if c = true then mb ρ else ret false
def orT (ma mb : TF) : TF := fun ρ => bnd (ma ρ) fun c => if c = true then ret true else mb ρ
def notT (ma : TF) : TF := fun ρ => bnd (ma ρ) fun c => ret (!c)
section
variable {ta tb : TF} {rest : List Expr}
theorem w_and1 (ha : ST C sc N k a ta) : SW C sc N k (.BoolOp .And [a] pos) ta := fun X ok => by
  obtain ⟨t, p, q⟩ := ha X ok
  exact ⟨_, pw_and1 p, q⟩
theorem w_or1 (ha : ST C sc N k a ta) : SW C sc N k (.BoolOp .Or [a] pos) ta := fun X ok => by
  obtain ⟨t, p, q⟩ := ha X ok
  exact ⟨_, pw_or1 p, q⟩
theorem w_and (ha : ST C sc N k a ta) (hb : SW C sc N k (.BoolOp .And (b :: rest) pos) tb) : SW C sc N k (.BoolOp .And (a :: b :: rest) pos) (andT ta tb) := fun X ok => by
  obtain ⟨t, p, q⟩ := ha X ok
  obtain ⟨u, p', q'⟩ := hb X ok
  refine ⟨_, pw_and p p', fun σ H W s ρ Q er A g => ?_⟩
  refine q σ H W s ρ _ er A (g.bnd.mono fun c s1 h1 W1 H1 e1 A1 => ?_)
  cases c with
  | true => exact iteT (q' σ H1 W1 s1 ρ Q (er.up e1) A1 (Good.mono h1 fun _ _ z => z.up e1))
  | false => exact iteF (h1 W1 H1 e1 A1)
theorem w_or (ha : ST C sc N k a ta) (hb : SW C sc N k (.BoolOp .Or (b :: rest) pos) tb) : SW C sc N k (.BoolOp .Or (a :: b :: rest) pos) (orT ta tb) := fun X ok => by
  obtain ⟨t, p, q⟩ := ha X ok
  obtain ⟨u, p', q'⟩ := hb X ok
  refine ⟨_, pw_or p p', fun σ H W s ρ Q er A g => ?_⟩
  refine q σ H W s ρ _ er A (g.bnd.mono fun c s1 h1 W1 H1 e1 A1 => ?_)
  cases c with
  | true => exact iteT (h1 W1 H1 e1 A1)
  | false => exact iteF (q' σ H1 W1 s1 ρ Q (er.up e1) A1 (Good.mono h1 fun _ _ z => z.up e1))
theorem t_w (h : SW C sc N k a ta) : ST C sc N k a ta := fun X ok => by
  obtain ⟨t, p, q⟩ := h X ok
  exact ⟨_, p.pt, q⟩
theorem t_not (ha : ST C sc N k a ta) : ST C sc N k (.UnaryOp .Not a pos) (notT ta) := fun X ok => by
  obtain ⟨t, p, q⟩ := ha X ok
  refine ⟨_, pt_not p, fun σ H W s ρ Q er A g => ?_⟩
  exact q σ H W s ρ _ er A (g.bnd.mono fun c s1 h1 W1 H1 e1 A1 => h1 W1 H1 e1 A1)
def ifE (t : TF) (ma mb : EF) : EF := fun ρ => bnd (t ρ) fun c => if c = true then ma ρ else mb ρ
theorem s_if {c : Expr} (hc : ST C sc N k c ta) (ha : SE C sc N k a ma) (hb : SE C sc N k b mb) : SE C sc N k (.IfExp c a b pos) (ifE ta ma mb) := fun X ok => by
  obtain ⟨t, p, q⟩ := hc X ok
  obtain ⟨u, p', q'⟩ := ha X ok
  obtain ⟨v, p2, q2⟩ := hb X ok
  refine ⟨_, pe_ifExp p p' p2, fun σ H W s ρ Q er A g => ?_⟩
  refine q σ H W s ρ _ er A (g.bnd.mono fun c s1 h1 W1 H1 e1 A1 => ?_)
  cases c with
  | true => exact iteT (q' σ H1 W1 s1 ρ Q (er.up e1) A1 (Good.mono h1 fun _ _ z => z.up e1))
  | false => exact iteF (q2 σ H1 W1 s1 ρ Q (er.up e1) A1 (Good.mono h1 fun _ _ z => z.up e1))
/-! and, or, not as values: all but the last truths -/
def andE (ma mb : EF) : EF := fun ρ => bnd (ma ρ) fun d => match d with
  | .p (.bl c) => if c = true then mb ρ else ret (.p (.bl false))
  | _ => bad
def orE (ma mb : EF) : EF := fun ρ => bnd (ma ρ) fun d => match d with
  | .p (.bl c) => if c = true then ret (.p (.bl true)) else mb ρ
  | _ => bad
def notE (ma : EF) : EF := fun ρ => bnd (ma ρ) fun d => match d with
  | .p (.bl c) => ret (.p (.bl (!c)))
  | _ => bad
theorem s_one {op} (ha : SE C sc N k a ma) : SE C sc N k (.BoolOp op [a] pos) ma := fun X ok => by
  obtain ⟨t, p, q⟩ := ha X ok
  exact ⟨_, pe_one p, q⟩
theorem s_and (ha : SE C sc N k a ma) (hb : SE C sc N k (.BoolOp .And (b :: rest) pos) mb) : SE C sc N k (.BoolOp .And (a :: b :: rest) pos) (andE ma mb) := fun X ok => by
  obtain ⟨t, p, q⟩ := ha X ok
  obtain ⟨u, p', q'⟩ := hb X ok
  refine ⟨_, pe_and p p', fun σ H W s ρ Q er A g => ?_⟩
  refine q σ H W s ρ _ er A (g.bnd.mono fun c s1 h1 W1 H1 x e1 r1 A1 => ?_)
  cases c with
  | obj n => exact h1.elim
  | p z =>
    cases r1 with
    | bl c =>
      refine ⟨c, rfl, ?_⟩
      cases c with
      | true => exact iteT (q' σ H1 W1 s1 ρ Q (er.up e1) A1 (Good.mono h1 fun _ _ z => z.up e1))
      | false => exact iteF (h1 W1 H1 _ e1 (.bl false) A1)
    | _ => exact h1.elim
theorem s_or (ha : SE C sc N k a ma) (hb : SE C sc N k (.BoolOp .Or (b :: rest) pos) mb) : SE C sc N k (.BoolOp .Or (a :: b :: rest) pos) (orE ma mb) := fun X ok => by
  obtain ⟨t, p, q⟩ := ha X ok
  obtain ⟨u, p', q'⟩ := hb X ok
  refine ⟨_, pe_or p p', fun σ H W s ρ Q er A g => ?_⟩
  refine q σ H W s ρ _ er A (g.bnd.mono fun c s1 h1 W1 H1 x e1 r1 A1 => ?_)
  cases c with
  | obj n => exact h1.elim
  | p z =>
    cases r1 with
    | bl c =>
      refine ⟨c, rfl, ?_⟩
      cases c with
      | true => exact iteT (h1 W1 H1 _ e1 (.bl true) A1)
      | false => exact iteF (q' σ H1 W1 s1 ρ Q (er.up e1) A1 (Good.mono h1 fun _ _ z => z.up e1))
    | _ => exact h1.elim
theorem s_not (ha : SE C sc N k a ma) : SE C sc N k (.UnaryOp .Not a pos) (notE ma) := fun X ok => by
  obtain ⟨t, p, q⟩ := ha X ok
  refine ⟨_, pe_not p, fun σ H W s ρ Q er A g => ?_⟩
  refine q σ H W s ρ _ er A (g.bnd.mono fun c s1 h1 W1 H1 x e1 r1 A1 => ?_)
  cases c with
  | obj n => exact h1.elim
  | p z =>
    cases r1 with
    | bl c => exact ⟨c, rfl, h1 W1 H1 _ e1 (.bl _) A1⟩
    | _ => exact h1.elim
end
/-! ### one-place operators -/
def negD : D → M D
  | .p (.int i) => ret (.p (.int (-i)))
  | _ => bad
def op1 (g : D → M D) (ma : EF) : EF := fun ρ => bnd (ma ρ) g
theorem s_neg (ha : SE C sc N k a ma) : SE C sc N k (.UnaryOp .USub a pos) (op1 negD ma) := fun X ok => by
  obtain ⟨t, p, q⟩ := ha X ok
  refine ⟨_, pe_un un_neg p, fun σ H W s ρ Q er A g => ?_⟩
  refine q σ H W s ρ _ er A (g.bnd.mono fun c s1 h1 W1 H1 x e1 r1 A1 => ?_)
  cases c with
  | obj n => exact h1.elim
  | p z =>
    cases r1 with
    | int c => exact ⟨c, rfl, h1 W1 H1 _ e1 (.int _) A1⟩
    | _ => exact h1.elim
/-! ### argument lists -/
def evA : List EF → AF
  | [] => fun _ s => .ok [] s
  | m :: r => fun ρ => bnd (m ρ) fun d => bnd (evA r ρ) fun ds => ret (d :: ds)
theorem evA_len : ∀ (ms : List EF) {ρ : En} {s s' : S} {ds : List D}, evA ms ρ s = .ok ds s' → ds.length = ms.length
  | [], ρ, s, s', ds, h => by
    unfold evA at h
    cases h
    rfl
  | m :: r, ρ, s, s', ds, h => by
    simp only [evA, bnd] at h
    cases h1 : m ρ s with
    | bad =>
      rw [h1] at h
      cases h
    | exn _ _ =>
      rw [h1] at h
      cases h
    | ok d s1 =>
      rw [h1] at h
      simp only at h
      cases h2 : evA r ρ s1 with
      | bad =>
        rw [h2] at h
        cases h
      | exn _ _ =>
        rw [h2] at h
        cases h
      | ok es s2 =>
        rw [h2] at h
        cases h
        exact congrArg (· + 1) (evA_len r h2)
theorem Good.len {ms : List EF} {ρ : En} {s : S} {Q : List D → S → Prop} (h : Good (evA ms ρ s) Q) : Good (evA ms ρ s) fun ds s' => ds.length = ms.length ∧ Q ds s' := by
  cases e : evA ms ρ s with
  | ok ds s' =>
    rw [e] at h
    exact ⟨evA_len ms e, h⟩
  | bad =>
    rw [e] at h
    exact h
  | exn _ _ =>
    rw [e] at h
    exact h
abbrev SAs (C : Cf) (sc : Scope) (N : List Str) (k : Nat) (es : List Expr) (ms : List EF) : Prop := SA C sc N k es (evA ms)
theorem a_nil : SAs C sc N k [] [] := fun X ok => ⟨_, pa_nil, fun σ H W s ρ Q er A g => g W H [] Ev.rfl .nil A⟩
theorem a_cons {es : List Expr} {r : List EF} (ha : SE C sc N k a ma) (hr : SAs C sc N k es r) (he : ∀ env, starEach (a :: es) env = (false, eval a env) :: starEach es env := by intro _; rfl) : SAs C sc N k (a :: es) (ma :: r) := fun X ok => by
  obtain ⟨t, p, q⟩ := ha X ok
  obtain ⟨u, p', q'⟩ := hr X ok
  refine ⟨_, pa_cons p p' (he X.env), fun σ H W s ρ Q er A g => ?_⟩
  refine q σ H W s ρ _ er A ((Good.bnd g).mono fun d s1 h1 W1 H1 x e1 r1 A1 => ?_)
  refine q' σ H1 W1 s1 ρ _ (er.up e1) A1 ((Good.bnd h1).mono fun ds s2 h2 W2 H2 xs e2 r2 A2 => ?_)
  exact h2 W2 H2 (x :: xs) (e1.trans e2) (.cons (r1.up e2) r2) A2
end
end CW

end
section
set_option maxRecDepth 100000
set_option maxHeartbeats 2000000
/-! CW, third part: displays, subscripts, slices, dicts. -/
namespace CW
open PySem PySem.Spec PyProof.Rows L2
def plain : List D → Option (List P)
  | [] => some []
  | .p x :: r => (plain r).map (x :: ·)
  | .obj _ :: _ => none
theorem plain_eq : ∀ {ds : List D} {xs : List P}, plain ds = some xs → ds = xs.map D.p
  | [], xs, h => by
    cases h
    rfl
  | .p x :: r, xs, h => by
    unfold plain at h
    cases e : plain r with
    | none =>
      rw [e] at h
      cases h
    | some ys =>
      rw [e] at h
      have h' := Option.some.inj h
      subst h'
      rw [plain_eq e]
      rfl
  | .obj _ :: _, xs, h => by cases h
theorem plain_map : ∀ xs : List P, plain (xs.map D.p) = some xs
  | [] => rfl
  | x :: r => by
    show (plain (r.map D.p)).map (x :: ·) = some (x :: r)
    rw [plain_map r]
    rfl
section
variable {C : Cf} {sc : Scope} {N : List Str} {k : Nat} {pos : Pos} {e a b : Expr} {m ma mb : EF} {es : List Expr} {ms : List EF}
/-! ### displays -/
def tupE (ms : List EF) : EF := fun ρ => bnd (evA ms ρ) fun ds s => match plain ds with
  | some xs => .ok (.p (.tup xs)) s
  | none => .bad
theorem s_tup {x1} (h : SAs C sc N k es ms) (hl : ms.length ≤ sizeLine := by decide) : SE C sc N k (.Tuple es x1 pos) (tupE ms) := fun X ok => by
  obtain ⟨t, p, q⟩ := h X ok
  refine ⟨_, pe_tup p, fun σ H W s ρ Q er A g => ?_⟩
  refine q σ H W s ρ _ er A (g.bnd.len.mono fun ds s1 ⟨z, h1⟩ W1 H1 vs e1 r1 A1 => ?_)
  split at h1
  · rename_i xs hx
    have hx' := plain_eq hx
    subst hx'
    refine ⟨by rw [Paired.length r1, z]; exact hl, fun o ho => ?_⟩
    have r2 : PVs C.K W1.fr (upd H1 o (.tup vs)) vs xs := PVs.up (Ev.new ho) (DVs.plain r1)
    exact h1 W1 _ _ (e1.trans (Ev.new ho)) (PV.tup (SqT.of upd_same) r2) (A1.new ho)
  · exact h1.elim
/-- a list that will not be changed -/
def lstE (ms : List EF) : EF := fun ρ => bnd (evA ms ρ) fun ds s => match plain ds with
  | some xs => .ok (.p (.lst xs)) s
  | none => .bad
theorem keep_go {W W1 : Wd} {H H1 : Hp} {s : S} {xs : List P} {vs : List V} {Q : VK} {o : Addr} (e : Ev W H W1 H1) (A : Abs C.K W1 s H1) (r : PVs C.K W1.fr H1 vs xs) (g : Po C.K W H Q (.p (.lst xs)) s) (ho : H1 o = none) : Q (.ref o) (upd H1 o (.lst vs)) := by
  have ev : Ev W1 H1 (W1.keep o) (upd H1 o (.lst vs)) := Ev.keep ho
  exact g _ _ _ (e.trans ev) (PV.lst (Or.inr rfl) upd_same (PVs.up ev r)) (A.keep ho)
theorem s_lst (h : SAs C sc N k es ms) (hl : ms.length ≤ sizeLine := by decide) : SE C sc N k (.List es pos) (lstE ms) := fun X ok => by
  obtain ⟨t, p, q⟩ := h X ok
  refine ⟨_, pe_lst p, fun σ H W s ρ Q er A g => ?_⟩
  refine q σ H W s ρ _ er A (g.bnd.len.mono fun ds s1 ⟨z, h1⟩ W1 H1 vs e1 r1 A1 => ?_)
  split at h1
  · rename_i xs hx
    have hx' := plain_eq hx
    subst hx'
    exact ⟨by rw [Paired.length r1, z]; exact hl, fun o ho => keep_go e1 A1 (DVs.plain r1) h1 ho⟩
  · exact h1.elim
/-- a list that may be changed -/
def newL (xs : List P) : M D := fun s => .ok (.obj s.length) (s ++ [some (.lst xs)])
def lsoE (ms : List EF) : EF := fun ρ => bnd (evA ms ρ) fun ds s => match plain ds with
  | some xs => newL xs s
  | none => .bad
theorem new_go {W W1 : Wd} {H H1 : Hp} {s : S} {xs : List P} {vs : List V} {Q : VK} {o : Addr} (e : Ev W H W1 H1) (A : Abs C.K W1 s H1) (r : PVs C.K W1.fr H1 vs xs) (g : Good (newL xs s) (Po C.K W H Q)) (ho : H1 o = none) : Q (.ref o) (upd H1 o (.lst vs)) := by
  have ev : Ev W1 H1 (W1.add o) (upd H1 o (.lst vs)) := Ev.add ho
  exact g _ _ _ (e.trans ev) ⟨o, A.nobj ho, rfl⟩ (A.add ho ⟨vs, upd_same, PVs.up ev r⟩)
theorem s_lso (h : SAs C sc N k es ms) (hl : ms.length ≤ sizeLine := by decide) : SE C sc N k (.List es pos) (lsoE ms) := fun X ok => by
  obtain ⟨t, p, q⟩ := h X ok
  refine ⟨_, pe_lst p, fun σ H W s ρ Q er A g => ?_⟩
  refine q σ H W s ρ _ er A (g.bnd.len.mono fun ds s1 ⟨z, h1⟩ W1 H1 vs e1 r1 A1 => ?_)
  split at h1
  · rename_i xs hx
    have hx' := plain_eq hx
    subst hx'
    exact ⟨by rw [Paired.length r1, z]; exact hl, fun o ho => new_go e1 A1 (DVs.plain r1) h1 ho⟩
  · exact h1.elim
/-! ### what holds a row -/
/-- the items of a list, changing or not -/
def its : D → S → Option (List P)
  | .p (.lst xs), _ => some xs
  | .p (.con xs), _ => some xs
  | .obj n, s => match s[n]? with
    | some (some (.lst xs)) => some xs
    | _ => none
  | _, _ => none
/-- .. of a list of our own -/
def itm : D → S → Option (List P)
  | .p (.lst xs), _ => some xs
  | .obj n, s => match s[n]? with
    | some (some (.lst xs)) => some xs
    | _ => none
  | _, _ => none
theorem itm_at {W : Wd} {H : Hp} {s : S} {v : V} {d : D} {xs : List P} (r : DV C.K W H v d) (A : Abs C.K W s H) (h : itm d s = some xs) : ∃ a vs, v = .ref a ∧ H a = some (.lst vs) ∧ PVs C.K W.fr H vs xs := by
  cases d with
  | obj n =>
    unfold itm at h
    dsimp only at h
    split at h
    · rename_i ys hs
      cases h
      obtain ⟨a, h1, _, vs, h2, h3⟩ := A.ob n _ hs
      obtain ⟨a', h4, rfl⟩ := r
      rw [h1] at h4
      cases h4
      exact ⟨a, vs, rfl, h2, h3⟩
    · cases h
  | p z =>
    cases r with
    | lst hf hq hr =>
      cases h
      exact ⟨_, _, rfl, hq, hr⟩
    | _ => cases h
theorem its_sq {W : Wd} {H : Hp} {s : S} {v : V} {d : D} {xs : List P} (r : DV C.K W H v d) (A : Abs C.K W s H) (h : its d s = some xs) : ∃ a vs, v = .ref a ∧ SqL C.K H a vs ∧ PVs C.K W.fr H vs xs := by
  cases d with
  | obj n =>
    unfold its at h
    dsimp only at h
    split at h
    · rename_i ys hs
      cases h
      obtain ⟨a, h1, _, vs, h2, h3⟩ := A.ob n _ hs
      obtain ⟨a', h4, rfl⟩ := r
      rw [h1] at h4
      cases h4
      exact ⟨a, vs, rfl, SqL.of h2, h3⟩
    · cases h
  | p z =>
    cases r with
    | lst hf hq hr =>
      cases h
      exact ⟨_, _, rfl, SqL.of hq, hr⟩
    | con hq hr =>
      cases h
      exact ⟨_, _, rfl, hq.sql, hr⟩
    | _ => cases h
theorem PVs.atI {K : PySem.W.Frag} {F : Addr → Prop} {H : Hp} {vs : List V} {xs : List P} {i : Int} {x : P} (h : PVs K F H vs xs) (e : L2.atI xs i = some x) : ∃ v, L2.atI vs i = some v ∧ PV K F H v x := by
  unfold L2.atI at e ⊢
  rw [h.len]
  cases hj : ixN xs.length i with
  | none =>
    rw [hj] at e
    cases e
  | some j =>
    rw [hj] at e
    exact h.get e
/-- list, tuple or text by an index -/
def ixD (x y : D) : M D := fun s => match y with
  | .p (.int i) => match x with
    | .p (.tup xs) => match L2.atI xs i with
      | some z => .ok (.p z) s
      | none => .bad
    | .p (.str z) => match L2.atI z.cps.toList i with
      | some c => if z.length ≤ sizeLine then .ok (.p (.str ⟨#[c]⟩)) s else .bad
      | none => .bad
    | x => match its x s with
      | some xs => match L2.atI xs i with
        | some z => .ok (.p z) s
        | none => .bad
      | none => .bad
  | _ => .bad
theorem ixD_go {W : Wd} {H : Hp} {s : S} {x y : V} {dx dy : D} {Q : VK} (rx : DV C.K W H x dx) (ry : DV C.K W H y dy) (A : Abs C.K W s H) (g : Good (ixD dx dy s) (Po C.K W H Q)) : rIx C.K x y H Q := by
  unfold ixD at g
  split at g
  · rename_i i
    cases ry
    split at g
    · rename_i xs
      split at g
      · rename_i z hz
        cases rx with
        | tup hq hr =>
          obtain ⟨v, h1, h2⟩ := hr.atI hz
          exact Or.inr (Or.inl ⟨_, _, _, _, rfl, rfl, hq, h1, g W H v Ev.rfl h2 A⟩)
      · exact g.elim
    · rename_i z
      split at g
      · rename_i c hc
        split at g
        · rename_i hl
          cases rx
          exact Or.inr (Or.inr ⟨z, i, c, rfl, rfl, hl, hc, g W H _ Ev.rfl (PV.str _) A⟩)
        · exact g.elim
      · exact g.elim
    · split at g
      · rename_i xs hx
        split at g
        · rename_i z hz
          obtain ⟨a, vs, rfl, hq, hr⟩ := its_sq rx A hx
          obtain ⟨v, h1, h2⟩ := hr.atI hz
          exact Or.inl ⟨_, _, _, _, rfl, rfl, hq, h1, g W H v Ev.rfl h2 A⟩
        · exact g.elim
      · exact g.elim
  · exact g.elim
theorem s_ix (ha : SE C sc N k a ma) (hb : SE C sc N k b mb) (hs : PlainIx b := by exact fun _ _ => rfl) : SE C sc N k (.Subscript a b pos) (op2 ixD ma mb) := fun X ok => by
  obtain ⟨ta, pa, qa⟩ := ha X ok
  obtain ⟨tb, pb, qb⟩ := hb X ok
  refine ⟨_, pe_ix ix_seq pa pb hs, fun σ H W s ρ Q er A g => ?_⟩
  rw [ok.eK]
  exact two qa qb er A g fun W' H' s' x y dx dy e rx ry A' g' => ixD_go rx ry A' g'
/-! ### dicts -/
def keyD : D → Option Key
  | .p (.int i) => some (.inl i)
  | .p (.str x) => some (.inr x)
  | _ => none
def lookD (kvs : List (Key × D)) (q : Key) : Option D := (kvs.find? fun kv => decide (kv.1 = q)).map (·.2)
def putD (kvs : List (Key × D)) (q : Key) (v : D) : List (Key × D) :=
  if (kvs.any fun kv => decide (kv.1 = q)) = true then kvs.map (fun kv => if kv.1 = q then (kv.1, v) else kv) else kvs ++ [(q, v)]
abbrev KD (K : PySem.W.Frag) (W : Wd) (H : Hp) : List (Key × V) → List (Key × D) → Prop := Paired fun (p : Key × V) (q : Key × D) => p.1 = q.1 ∧ DV K W H p.2 q.2
theorem KD.look {K : PySem.W.Frag} {W : Wd} {H : Hp} {ws : List (Key × V)} {kvs : List (Key × D)} {q : Key} (h : KD K W H ws kvs) : (lookD kvs q = none → valV ws q = none) ∧ ∀ d, lookD kvs q = some d → ∃ v, valV ws q = some v ∧ DV K W H v d := by
  induction h with
  | nil => exact ⟨fun _ => rfl, fun d z => by cases z⟩
  | @cons x y xs ys hh _ ih =>
    unfold lookD valV at ih ⊢
    rw [List.find?_cons, List.find?_cons, hh.1]
    by_cases e : y.1 = q
    · rw [decide_eq_true e]
      refine ⟨fun z => (nomatch z), fun d z => ?_⟩
      cases z
      exact ⟨_, rfl, hh.2⟩
    · rw [decide_eq_false e]
      exact ih
theorem KD.any {K : PySem.W.Frag} {W : Wd} {H : Hp} {ws : List (Key × V)} {kvs : List (Key × D)} {q : Key} (h : KD K W H ws kvs) : (ws.any fun kv => decide (kv.1 = q)) = kvs.any fun kv => decide (kv.1 = q) := by
  induction h with
  | nil => rfl
  | cons hh _ ih => rw [List.any_cons, List.any_cons, hh.1, ih]
theorem KD.app {K : PySem.W.Frag} {W : Wd} {H : Hp} {ws us : List (Key × V)} {kvs qs : List (Key × D)} (h : KD K W H ws kvs) (g : KD K W H us qs) : KD K W H (ws ++ us) (kvs ++ qs) := by
  induction h with
  | nil => exact g
  | cons hh _ ih => exact .cons hh ih
theorem KD.put {K : PySem.W.Frag} {W : Wd} {H : Hp} {ws : List (Key × V)} {kvs : List (Key × D)} {q : Key} {v : V} {d : D} (h : KD K W H ws kvs) (hv : DV K W H v d) : KD K W H (putK ws q v) (putD kvs q d) := by
  unfold putK putD
  rw [h.any]
  split
  · induction h with
    | nil => exact .nil
    | @cons x y xs ys hh _ ih =>
      rw [List.map_cons, List.map_cons, hh.1]
      refine .cons ?_ (by
        by_cases z : (ys.any fun kv => decide (kv.1 = q)) = true
        · exact ih z
        · have key : ∀ {us : List (Key × V)} {qs : List (Key × D)}, KD K W H us qs → KD K W H (us.map fun kv => if kv.1 = q then (kv.1, v) else kv) (qs.map fun kv => if kv.1 = q then (kv.1, d) else kv) := by
            intro us qs hp
            induction hp with
            | nil => exact .nil
            | @cons x y xs ys hh _ ih2 =>
              rw [List.map_cons, List.map_cons, hh.1]
              refine .cons ?_ ih2
              split
              · exact ⟨rfl, hv⟩
              · exact hh
          exact key (by assumption))
      split
      · exact ⟨rfl, hv⟩
      · exact hh
  · exact h.app (.cons ⟨rfl, hv⟩ .nil)
theorem KD.up {K : PySem.W.Frag} {W W' : Wd} {H H' : Hp} {ws : List (Key × V)} {kvs : List (Key × D)} (h : KD K W H ws kvs) (e : Ev W H W' H') : KD K W' H' ws kvs := Paired.mapP h fun p q z => ⟨z.1, z.2.up e⟩
theorem key_rel {W : Wd} {H : Hp} {y : V} {d : D} {q : Key} (r : DV C.K W H y d) (h : keyD d = some q) : y = kV q := by
  cases d with
  | obj n => cases h
  | p z =>
    cases r with
    | int i =>
      cases h
      rfl
    | str x =>
      cases h
      rfl
    | _ => cases h
def dctD : D → S → Option (List (Key × D))
  | .obj n, s => match s[n]? with
    | some (some (.dic kvs)) => some kvs
    | _ => none
  | _, _ => none
theorem dct_at {W : Wd} {H : Hp} {s : S} {v : V} {d : D} {kvs : List (Key × D)} (r : DV C.K W H v d) (A : Abs C.K W s H) (h : dctD d s = some kvs) : ∃ n a ws, d = .obj n ∧ s[n]? = some (some (.dic kvs)) ∧ W.io[n]? = some a ∧ v = .ref a ∧ H a = some (.dK ws) ∧ KD C.K W H ws kvs := by
  cases d with
  | p z => cases h
  | obj n =>
    unfold dctD at h
    dsimp only at h
    split at h
    · rename_i qs hs
      cases h
      obtain ⟨a, h1, _, ws, h2, h3⟩ := A.ob n _ hs
      obtain ⟨a', h4, rfl⟩ := r
      rw [h1] at h4
      cases h4
      exact ⟨n, a, ws, rfl, hs, h1, rfl, h2, h3⟩
    · cases h
def dgetD (x y : D) : M D := fun s => match dctD x s, keyD y with
  | some kvs, some q => match lookD kvs q with
    | some d => .ok d s
    | none => .bad
  | _, _ => .bad
theorem s_dget (ha : SE C sc N k a ma) (hb : SE C sc N k b mb) (hs : NoSl b := by exact fun _ _ => rfl) : SE C sc N k (.Subscript a b pos) (op2 dgetD ma mb) := fun X ok => by
  obtain ⟨ta, pa, qa⟩ := ha X ok
  obtain ⟨tb, pb, qb⟩ := hb X ok
  refine ⟨_, pe_dget (hu_of ok.rm) pa pb hs, fun σ H W s ρ Q er A g => ?_⟩
  refine two qa qb er A g fun W' H' s' x y dx dy e rx ry A' g' => ?_
  unfold dgetD at g'
  split at g'
  · rename_i kvs q h1 h2
    split at g'
    · rename_i d hd
      obtain ⟨n, a, ws, rfl, hs, h3, rfl, h4, h5⟩ := dct_at rx A' h1
      have hy := key_rel ry h2
      subst hy
      obtain ⟨v, h6, h7⟩ := (KD.look h5).2 d hd
      exact ⟨a, v, rfl, by rw [← h6]; exact DGet.k h4, g' W' H' v Ev.rfl h7 A'⟩
    · exact g'.elim
  · exact g'.elim
def dinD (b : Bool) (y x : D) : M D := fun s => match dctD x s, keyD y with
  | some kvs, some q => .ok (.p (.bl (if b = true then (lookD kvs q).isSome else !(lookD kvs q).isSome))) s
  | _, _ => .bad
theorem look_some {W : Wd} {H : Hp} {ws : List (Key × V)} {kvs : List (Key × D)} {q : Key} (h : KD C.K W H ws kvs) : (valV ws q).isSome = (lookD kvs q).isSome := by
  cases e : lookD kvs q with
  | none => rw [(KD.look h).1 e]; rfl
  | some d =>
    obtain ⟨v, h6, _⟩ := (KD.look h).2 d e
    rw [h6]
    rfl
theorem s_din (hb : SE C sc N k b mb) (ha : SE C sc N k a ma) (hm : behindInMarks .In a = false := by rfl) : SE C sc N k (.Compare b [.In] [a] pos) (op2 (dinD true) mb ma) := fun X ok => by
  obtain ⟨ta, pa, qa⟩ := ha X ok
  obtain ⟨tb, pb, qb⟩ := hb X ok
  refine ⟨_, pe_cmp (pc_din (hu_of ok.rm) pb pa) hm, fun σ H W s ρ Q er A g => ?_⟩
  refine two qb qa er A g fun W' H' s' y x dy dx e ry rx A' g' => ?_
  unfold dinD at g'
  split at g'
  · rename_i kvs q h1 h2
    obtain ⟨n, a, ws, rfl, hs, h3, rfl, h4, h5⟩ := dct_at rx A' h1
    have hy := key_rel ry h2
    subst hy
    refine ⟨a, _, rfl, DGet.k h4, ?_⟩
    rw [look_some h5]
    exact g' W' H' _ Ev.rfl (PV.bl _) A'
  · exact g'.elim
theorem s_dnotin (hb : SE C sc N k b mb) (ha : SE C sc N k a ma) (hm : behindInMarks .NotIn a = false := by rfl) : SE C sc N k (.Compare b [.NotIn] [a] pos) (op2 (dinD false) mb ma) := fun X ok => by
  obtain ⟨ta, pa, qa⟩ := ha X ok
  obtain ⟨tb, pb, qb⟩ := hb X ok
  refine ⟨_, pe_cmp (pc_dnotin (hu_of ok.rm) pb pa) hm, fun σ H W s ρ Q er A g => ?_⟩
  refine two qb qa er A g fun W' H' s' y x dy dx e ry rx A' g' => ?_
  unfold dinD at g'
  split at g'
  · rename_i kvs q h1 h2
    obtain ⟨n, a, ws, rfl, hs, h3, rfl, h4, h5⟩ := dct_at rx A' h1
    have hy := key_rel ry h2
    subst hy
    refine ⟨a, _, rfl, DGet.k h4, ?_⟩
    rw [look_some h5]
    exact g' W' H' _ Ev.rfl (PV.bl _) A'
  · exact g'.elim
/-- {"a": x, ..} -/
def mkD (l : List (Key × D)) (acc : List (Key × D)) : List (Key × D) := l.foldl (fun acc kd => putD acc kd.1 kd.2) acc
def dicE (ks : List Str) (ms : List EF) : EF := fun ρ s => bnd (evA ms ρ) (fun ds s2 => match s2[s.length]? with
  | some (some (.dic [])) => .ok (.obj s.length) (s2.set s.length (some (.dic (mkD ((ks.map Sum.inr).zip ds) []))))
  | _ => .bad) (s ++ [some (.dic [])])
theorem KD.mk {K : PySem.W.Frag} {W : Wd} {H : Hp} {ws : List (Key × V)} {kvs : List (Key × D)} (h : KD K W H ws kvs) : ∀ {us : List (Key × V)} {acc : List (Key × D)}, KD K W H us acc → KD K W H (mergeK us ws) (mkD kvs acc) := by
  induction h with
  | nil => exact fun q => q
  | @cons x y xs ys hh _ ih =>
    intro us acc q
    have e := ih (q.put (q := y.1) hh.2)
    unfold mergeK mkD
    rw [List.foldl_cons, List.foldl_cons, hh.1]
    exact e
/-- the pairs of a display by texts -/
def SPr (C : Cf) (sc : Scope) (N : List Str) (k : Nat) (pos : Pos) (keys : List (Option Expr)) (vals : List Expr) (ks : List Str) (ms : List EF) : Prop :=
  ∀ X, Cok C sc N k X → ∃ trs, PPs X pos keys vals trs ∧ ∀ σ H W s ρ (Q : List (V × V) → Hp → Prop), ER C W H σ ρ → Abs C.K W s H →
    Good (evA ms ρ s) (fun ds s' => ∀ W' H' (ws : List (Key × V)), Ev W H W' H' → KD C.K W' H' ws ((ks.map Sum.inr).zip ds) → ws.length = ks.length → Abs C.K W' s' H' → Q (ws.map fun kv => (kV kv.1, kv.2)) H') → tPairs trs σ H Q
theorem p_nil : SPr C sc N k pos [] [] [] [] := fun X ok => ⟨_, pps_nil, fun σ H W s ρ Q er A g => g W H [] Ev.rfl .nil rfl A⟩
theorem p_cons {x : Str} {j : Nat} {p2 : Pos} {keys : List (Option Expr)} {vals : List Expr} {ks : List Str} (ha : SE C sc N k a ma) (hr : SPr C sc N k pos keys vals ks ms) : SPr C sc N k pos (some (.Constant (.str x) j p2) :: keys) (a :: vals) (x :: ks) (ma :: ms) := fun X ok => by
  obtain ⟨t, p, q⟩ := ha X ok
  obtain ⟨trs, p', q'⟩ := hr X ok
  refine ⟨_, pps_cons pe_str p p', fun σ H W s ρ Q er A g => ?_⟩
  refine q σ H W s ρ _ er A ((Good.bnd g).mono fun d s1 h1 W1 H1 v e1 r1 A1 => ?_)
  refine q' σ H1 W1 s1 ρ _ (er.up e1) A1 ((Good.bnd h1).mono fun ds s2 h2 W2 H2 ws e2 r2 hl A2 => ?_)
  exact h2 W2 H2 ((Sum.inr x, v) :: ws) (e1.trans e2) (.cons ⟨rfl, r1.up e2⟩ r2) (congrArg (· + 1) hl) A2
theorem s_dic {keys : List (Option Expr)} {vals : List Expr} {ks : List Str} (h : SPr C sc N k pos keys vals ks ms) (hall : keys.all (·.isSome) = true := by rfl) (hl : keys.length = vals.length := by rfl) (h0 : keys ≠ [] := by exact fun z => nomatch z)
    (h15 : keys.length ≤ 15 := by decide) (hk : ks.length ≤ 15 := by decide) : SE C sc N k (.Dict keys vals pos) (dicE ks ms) := fun X ok => by
  obtain ⟨trs, p, q⟩ := h X ok
  refine ⟨_, pe_disp p hall hl h0 h15, fun σ H W s ρ Q er A g o ho => ?_⟩
  have ev : Ev W H (W.add o) (upd H o (.dK [])) := Ev.add ho
  have A1 : Abs C.K (W.add o) (s ++ [some (.dic [])]) (upd H o (.dK [])) := A.add ho ⟨[], upd_same, .nil⟩
  have io1 : (W.add o).io[s.length]? = some o := A.nobj ho
  unfold dicE at g
  refine q σ _ _ _ ρ _ (er.up ev) A1 (g.bnd.mono fun ds s2 h2 W2 H2 ws e2 r2 hw A2 => ?_)
  split at h2
  · rename_i hs
    obtain ⟨a', g1, g2, us, g3, g4⟩ := A2.ob _ _ hs
    obtain ⟨r, hr⟩ := e2.io
    have io2 : W2.io[s.length]? = some o := by
      rw [hr, List.getElem?_append_left (List.getElem?_eq_some_iff.mp io1).1]
      exact io1
    rw [io2] at g1
    cases g1
    cases g4
    refine ⟨g3, ws, rfl, by omega, ?_⟩
    have ev2 : Ev W2 H2 W2 (upd H2 o (.dK (mergeK [] ws))) := Ev.put (o' := .dic []) A2 hs io2
    exact h2 W2 _ _ (ev.trans (e2.trans ev2)) ⟨o, io2, rfl⟩ (A2.put hs io2 ⟨_, upd_same, KD.mk (r2.up ev2) .nil⟩)
  · exact h2.elim
theorem s_dic0 : SE C sc N k (.Dict [] [] pos) (fun _ s => .ok (.obj s.length) (s ++ [some (.dic [])])) := fun X ok => by
  refine ⟨_, pe_dnewK, fun σ H W s ρ Q er A g o ho => ?_⟩
  exact g _ _ _ (Ev.add ho) ⟨o, A.nobj ho, rfl⟩ (A.add ho ⟨[], upd_same, .nil⟩)
end
end CW

end
section
set_option maxRecDepth 100000
set_option maxHeartbeats 2000000
/-! CW, fourth part: operators by values, data compared and shown. -/
namespace CW
open PySem PySem.Spec PyProof.Rows L2
section
variable {C : Cf} {k : Nat}
/-! ### whole numbers -/
def mulOk (i j : Int) : Prop := i.natAbs.log2 + j.natAbs.log2 < 1000000 ∨ i.natAbs < 2 ^ 64 ∨ j.natAbs < 2 ^ 64
instance (i j : Int) : Decidable (mulOk i j) := by unfold mulOk; exact inferInstance
theorem mulOk.ok {i j : Int} (h : mulOk i j) : IntMulOk i j := by
  rcases h with h | h | h
  · exact CMulW.ok h
  · exact .of_left (intBits_le_64 (by omega) (by omega))
  · exact .of_right (intBits_le_64 (by omega) (by omega))
def divOk (i j : Int) : Prop := j ≠ 0 ∧ Builtin.divisionGoesByPylong i j = false
instance (i j : Int) : Decidable (divOk i j) := by unfold divOk; exact inferInstance
def powOk (i j : Int) : Prop := 0 ≤ j ∧ j ≤ 1000000 ∧ i.natAbs < 2 ^ 64
instance (i j : Int) : Decidable (powOk i j) := by unfold powOk; exact inferInstance
/-- int and int -/
def ii (c : Int → Int → Bool) (g : Int → Int → P) (x y : D) : M D := fun s => match x, y with
  | .p (.int i), .p (.int j) => if c i j = true then .ok (.p (g i j)) s else .bad
  | _, _ => .bad
def yes : Int → Int → Bool := fun _ _ => true
theorem ii_go {W : Wd} {H : Hp} {s : S} {x y : V} {dx dy : D} {Q : D → S → Prop} {c : Int → Int → Bool} {g : Int → Int → P} (rx : DV C.K W H x dx) (ry : DV C.K W H y dy) (h : Good (ii c g dx dy s) Q) : ∃ i j, x = .int i ∧ y = .int j ∧ c i j = true ∧ Q (.p (g i j)) s := by
  unfold ii at h
  split at h
  · split at h
    · rename_i hc
      cases rx
      cases ry
      exact ⟨_, _, rfl, rfl, hc, h⟩
    · exact h.elim
  · exact h.elim
def subD := ii yes fun i j => .int (i - j)
def modD := ii (fun _ j => j != 0) fun i j => .int (i.fmod j)
def divD := ii (fun i j => decide (divOk i j)) fun i j => .int (i.fdiv j)
def powD := ii (fun i j => decide (powOk i j)) fun i j => .int (i ^ j.toNat)
def shlD := ii (fun i j => decide (powOk i j)) fun i j => .int (i * 2 ^ j.toNat)
def ltD := ii yes fun i j => .bl (decide (i < j))
def leD := ii yes fun i j => .bl (decide (i ≤ j))
def gtD := ii yes fun i j => .bl (decide (j < i))
def geD := ii yes fun i j => .bl (decide (j ≤ i))
theorem o_sub : OpS C k (binaryOp .Sub) subD := fun X ok => ⟨_, op_sub, fun W s H x y dx dy Q rx ry A g => by
  obtain ⟨i, j, rfl, rfl, _, q⟩ := ii_go rx ry g
  exact ⟨i, j, rfl, rfl, q W H _ Ev.rfl (PV.int _) A⟩⟩
theorem o_mod : OpS C k (binaryOp .Mod) modD := fun X ok => ⟨_, op_modN, fun W s H x y dx dy Q rx ry A g => by
  obtain ⟨i, j, rfl, rfl, c, q⟩ := ii_go rx ry g
  exact ⟨i, j, rfl, rfl, by simpa using c, q W H _ Ev.rfl (PV.int _) A⟩⟩
theorem o_div : OpS C k (binaryOp .FloorDiv) divD := fun X ok => ⟨_, (opI (C := divOk) (g := fun i j => i.fdiv j) fun i j _ _ _ _ _ hc q => floordiv_int hc.1 q (Or.inl hc.2)), fun W s H x y dx dy Q rx ry A g => by
  obtain ⟨i, j, rfl, rfl, c, q⟩ := ii_go rx ry g
  exact ⟨i, j, rfl, rfl, of_decide_eq_true c, q W H _ Ev.rfl (PV.int _) A⟩⟩
theorem o_pow : OpS C k (binaryOp .Pow) powD := fun X ok => ⟨_, op_pow, fun W s H x y dx dy Q rx ry A g => by
  obtain ⟨i, j, rfl, rfl, c, q⟩ := ii_go rx ry g
  have c2 : powOk i j := of_decide_eq_true c
  exact ⟨i, j, rfl, rfl, c2, q W H _ Ev.rfl (PV.int _) A⟩⟩
theorem o_shl : OpS C k (binaryOp .LShift) shlD := fun X ok => ⟨_, op_shl, fun W s H x y dx dy Q rx ry A g => by
  obtain ⟨i, j, rfl, rfl, c, q⟩ := ii_go rx ry g
  have c2 : powOk i j := of_decide_eq_true c
  exact ⟨i, j, rfl, rfl, c2, q W H _ Ev.rfl (PV.int _) A⟩⟩
theorem o_lt : OpS C k (compareOp .Lt) ltD := fun X ok => ⟨_, op_lt, fun W s H x y dx dy Q rx ry A g => by
  obtain ⟨i, j, rfl, rfl, c, q⟩ := ii_go rx ry g
  exact ⟨i, j, rfl, rfl, q W H _ Ev.rfl (PV.bl _) A⟩⟩
theorem o_le : OpS C k (compareOp .LtE) leD := fun X ok => ⟨_, op_le, fun W s H x y dx dy Q rx ry A g => by
  obtain ⟨i, j, rfl, rfl, c, q⟩ := ii_go rx ry g
  exact ⟨i, j, rfl, rfl, q W H _ Ev.rfl (PV.bl _) A⟩⟩
theorem o_gt : OpS C k (compareOp .Gt) gtD := fun X ok => ⟨_, op_gt, fun W s H x y dx dy Q rx ry A g => by
  obtain ⟨i, j, rfl, rfl, c, q⟩ := ii_go rx ry g
  exact ⟨i, j, rfl, rfl, q W H _ Ev.rfl (PV.bl _) A⟩⟩
theorem o_ge : OpS C k (compareOp .GtE) geD := fun X ok => ⟨_, op_ge, fun W s H x y dx dy Q rx ry A g => by
  obtain ⟨i, j, rfl, rfl, c, q⟩ := ii_go rx ry g
  exact ⟨i, j, rfl, rfl, q W H _ Ev.rfl (PV.bl _) A⟩⟩
/-! ### + and * -/
/-- fr: the new list is plain (true) or may be changed (false) -/
def mkL (fr : Bool) (xs : List P) : M D := if fr = true then ret (.p (.lst xs)) else newL xs
theorem mkL_go {W W1 : Wd} {H H1 : Hp} {s : S} {fr : Bool} {xs : List P} {vs : List V} {Q : VK} {o : Addr} (e : Ev W H W1 H1) (A : Abs C.K W1 s H1) (r : PVs C.K W1.fr H1 vs xs) (g : Good (mkL fr xs s) (Po C.K W H Q)) (ho : H1 o = none) : Q (.ref o) (upd H1 o (.lst vs)) := by
  unfold mkL at g
  cases fr with
  | true => exact keep_go e A r (by rw [if_pos rfl] at g; exact g) ho
  | false => exact new_go e A r (by rw [if_neg Bool.false_ne_true] at g; exact g) ho
def addD (fr : Bool) (x y : D) : M D := fun s => match x, y with
  | .p (.int i), .p (.int j) => .ok (.p (.int (i + j))) s
  | .p (.str a), .p (.str b) => if a.length + b.length ≤ sizeLine then .ok (.p (.str (a ++ b))) s else .bad
  | .p (.tup xs), .p (.tup ys) => if xs.length + ys.length ≤ sizeLine then .ok (.p (.tup (xs ++ ys))) s else .bad
  | x, y => match its x s, its y s with
    | some xs, some ys => if xs.length + ys.length ≤ sizeLine then mkL fr (xs ++ ys) s else .bad
    | _, _ => .bad
/-- list + list, whatever lists they are -/
def rCatSq (K : PySem.W.Frag) : R2 := fun x y H Q => ∃ l b xs zs, x = .ref l ∧ y = .ref b ∧ SqL K H l xs ∧ SqL K H b zs ∧ xs.length + zs.length ≤ sizeLine ∧ ∀ p, H p = none → Q (.ref p) (upd H p (.lst (xs ++ zs)))
theorem op_catSq {X : Cx} : OpR X (binaryOp .Add) (rCatSq X.K) := by
  intro pins s σ H x y v u Q I rx ry h
  obtain ⟨l, b, xs, zs, rfl, rfl, hL, hB, hz, q⟩ := h
  cases rx
  cases ry
  obtain ⟨its1, r1, p1, z1⟩ := I.list hL
  obtain ⟨its2, r2, p2, z2⟩ := I.list hB
  obtain ⟨⟨cls, dd, data, sl⟩, ho, hc, n, hd⟩ := p1.isList
  obtain ⟨⟨cls2, dd2, data2, sl2⟩, ho2, hc2, n2, hd2⟩ := p2.isList
  simp only at hc hd hc2 hd2
  subst hc hd hc2 hd2
  have l1 := r1.length
  have l2 := r2.length
  refine concat_meets ⟨_, ho, rfl⟩ ⟨_, ho2, rfl⟩ noFill_list_add seq_list_add PySem.F.slot_list_add PySem.F.entry_list_add (PySem.F.args_list_add_2 _ _) (list_addW l b its1.toArray its2.toArray n n2 dd dd2 sl sl2 (by rw [List.size_toArray, List.size_toArray]; omega)) ⟨ho, ho2, ?_⟩
  have ea : its1.toArray ++ its2.toArray = (its1 ++ its2).toArray := by simp
  rw [ea]
  exact ⟨.ref _, _, I.lnew (t' := s.toks) (r1.append r2) (by rw [List.length_append]; omega), rfl, q _ I.fresh⟩
theorem o_add (fr : Bool) : OpS C k (binaryOp .Add) (addD fr) := fun X ok => by
  refine ⟨_, OpR.or op_add (OpR.or op_add_str (OpR.or (op_catA (X := X)) op_catSq)), fun W s H x y dx dy Q rx ry A g => ?_⟩
  rw [ok.eK]
  unfold addD at g
  split at g
  · cases rx
    cases ry
    exact Or.inl ⟨_, _, rfl, rfl, g W H _ Ev.rfl (PV.int _) A⟩
  · split at g
    · rename_i hl
      cases rx
      cases ry
      exact Or.inr (Or.inl ⟨_, _, rfl, rfl, hl, g W H _ Ev.rfl (PV.str _) A⟩)
    · exact g.elim
  · split at g
    · rename_i hl
      cases rx with
      | tup h1 h2 =>
        cases ry with
        | tup h3 h4 =>
          refine Or.inr (Or.inr (Or.inl ⟨_, _, _, _, rfl, rfl, h1, h3, by rw [h2.len, h4.len]; exact hl, fun z => ?_, fun _ z => ?_, fun _ z p hp => ?_⟩))
          · subst z
            cases h2
            exact g W H _ Ev.rfl (PV.tup h3 h4) A
          · subst z
            cases h4
            rename_i xs _ _
            exact g W H _ Ev.rfl (PV.tup h1 (by rw [List.append_nil]; exact h2)) A
          · exact g W _ _ (Ev.new hp) (PV.tup (SqT.of upd_same) (PVs.up (Ev.new hp) (h2.app h4))) (A.new hp)
    · exact g.elim
  · split at g
    · rename_i xs ys e1 e2
      split at g
      · rename_i hl
        obtain ⟨a, vs, rfl, h1, h2⟩ := its_sq rx A e1
        obtain ⟨b, us, rfl, h3, h4⟩ := its_sq ry A e2
        exact Or.inr (Or.inr (Or.inr ⟨a, b, vs, us, rfl, rfl, h1, h3, by rw [h2.len, h4.len]; exact hl, fun p hp => mkL_go Ev.rfl A (h2.app h4) g hp⟩))
      · exact g.elim
    · exact g.elim
theorem PVs.flat {K : PySem.W.Frag} {F : Addr → Prop} {H : Hp} {vs : List V} {xs : List P} (h : PVs K F H vs xs) : ∀ n, PVs K F H (List.replicate n vs).flatten (List.replicate n xs).flatten
  | 0 => .nil
  | n + 1 => by
    rw [List.replicate_succ, List.replicate_succ, List.flatten_cons, List.flatten_cons]
    exact h.app (PVs.flat h n)
def mulD (fr : Bool) (x y : D) : M D := fun s => match x, y with
  | .p (.int i), .p (.int j) => if mulOk i j then .ok (.p (.int (i * j))) s else .bad
  | .p (.tup xs), .p (.int n) => if xs ≠ [] ∧ 2 ≤ n ∧ n ≤ 1000 ∧ xs.length ≤ 1000 then .ok (.p (.tup (List.replicate n.toNat xs).flatten)) s else .bad
  | x, .p (.int n) => match itm x s with
    | some xs => if -(2 ^ 63) ≤ n ∧ n < 2 ^ 63 ∧ xs.length * n.toNat ≤ sizeLine then mkL fr (List.replicate n.toNat xs).flatten s else .bad
    | none => .bad
  | _, _ => .bad
theorem o_mul (fr : Bool) : OpS C k (binaryOp .Mult) (mulD fr) := fun X ok => by
  refine ⟨_, OpR.or (opI (C := mulOk) (g := fun i j => i * j) fun i j _ _ _ _ _ hc q => mul_int q hc.ok) (OpR.or op_rep (op_repT (X := X))), fun W s H x y dx dy Q rx ry A g => ?_⟩
  unfold mulD at g
  rw [ok.eK]
  split at g
  · split at g
    · rename_i hc
      cases rx
      cases ry
      exact Or.inl ⟨_, _, rfl, rfl, hc, g W H _ Ev.rfl (PV.int _) A⟩
    · exact g.elim
  · split at g
    · rename_i xs n hl
      cases rx with
      | tup h1 h2 =>
        cases ry
        refine Or.inr (Or.inr ⟨_, _, _, rfl, rfl, h1, fun z => ?_, hl.2.1, hl.2.2.1, by rw [h2.len]; exact hl.2.2.2, fun p hp => ?_⟩)
        · subst z
          cases h2
          exact hl.1 rfl
        · exact g W _ _ (Ev.new hp) (PV.tup (SqT.of upd_same) (PVs.up (Ev.new hp) (h2.flat _))) (A.new hp)
    · exact g.elim
  · split at g
    · rename_i xs e1
      split at g
      · rename_i hl
        obtain ⟨a, vs, rfl, h1, h2⟩ := itm_at rx A e1
        cases ry
        exact Or.inr (Or.inl ⟨a, _, vs, rfl, rfl, h1, hl.1, hl.2.1, by rw [h2.len]; exact hl.2.2, fun p hp => mkL_go Ev.rfl A (h2.flat _) g hp⟩)
      · exact g.elim
    · exact g.elim
  · exact g.elim
/-! ### data -/
mutual
def toPy : P → Option PyData
  | .non => some .none
  | .bl b => some (.bool b)
  | .int i => some (.int i)
  | .str x => some (.str x)
  | .tup xs => (toPys xs).map .tuple
  | .lst xs => (toPys xs).map .list
  | .con xs => (toPys xs).map .list
  | .ty _ => none
  | .ref _ => none
  | .emp => none
  | .exn _ => none
  | .exf _ _ _ => none
  | .cls _ => none
  | .lam _ _ _ => none
def toPys : List P → Option (List PyData)
  | [] => some []
  | x :: r => match toPy x, toPys r with
    | some d, some ds => some (d :: ds)
    | _, _ => none
end
def toPyD : D → S → Option PyData
  | .p x, _ => toPy x
  | .obj n, s => match s[n]? with
    | some (some (.lst xs)) => (toPys xs).map .list
    | _ => none
mutual
theorem PV.dp {K : PySem.W.Frag} {F : Addr → Prop} {H : Hp} : ∀ {v : V} {x : P} {d : PyData}, PV K F H v x → toPy x = some d → Dp K H v d
  | _, _, _, .non, e => by
    cases e
    exact .non
  | _, _, _, .bl b, e => by
    cases e
    exact .bl b
  | _, _, _, .int b, e => by
    cases e
    exact .int b
  | _, _, _, .str b, e => by
    cases e
    exact .str b
  | _, _, _, .ty b, e => by cases e
  | _, _, _, .ref b, e => by cases e
  | _, _, _, .emp _ _, e => by cases e
  | _, _, _, .exn _ _ _ _, e => by cases e
  | _, _, _, .exf _ _ _ _ _ _, e => by cases e
  | _, _, _, .cls _, e => by cases e
  | _, _, _, .lam _ _, e => by cases e
  | _, _, d, .tup (xs := xs) h r, e => by
    unfold toPy at e
    cases q : toPys xs with
    | none =>
      rw [q] at e
      cases e
    | some ds =>
      rw [q] at e
      cases e
      exact .tup h (PVs.dp r q)
  | _, _, d, .lst (xs := xs) _ h r, e => by
    unfold toPy at e
    cases q : toPys xs with
    | none =>
      rw [q] at e
      cases e
    | some ds =>
      rw [q] at e
      cases e
      exact .lst (SqL.of h) (PVs.dp r q)
  | _, _, d, .con (xs := xs) h r, e => by
    unfold toPy at e
    cases q : toPys xs with
    | none =>
      rw [q] at e
      cases e
    | some ds =>
      rw [q] at e
      cases e
      exact .lst h.sql (PVs.dp r q)
theorem PVs.dp {K : PySem.W.Frag} {F : Addr → Prop} {H : Hp} : ∀ {vs : List V} {xs : List P} {ds : List PyData}, PVs K F H vs xs → toPys xs = some ds → DpAll K H vs ds
  | _, _, _, .nil, e => by
    unfold toPys at e
    cases e
    exact .nil
  | _, _, ds, .cons (x := x) (xs := xs) h r, e => by
    unfold toPys at e
    cases q1 : toPy x with
    | none =>
      rw [q1] at e
      cases e
    | some d =>
      cases q2 : toPys xs with
      | none =>
        rw [q1, q2] at e
        cases e
      | some es =>
        rw [q1, q2] at e
        cases e
        exact .cons (PV.dp h q1) (PVs.dp r q2)
end
theorem DV.dp {W : Wd} {H : Hp} {s : S} {v : V} {d : D} {z : PyData} (r : DV C.K W H v d) (A : Abs C.K W s H) (h : toPyD d s = some z) : Dp C.K H v z := by
  cases d with
  | p x => exact PV.dp r h
  | obj n =>
    unfold toPyD at h
    dsimp only at h
    split at h
    · rename_i xs hs
      obtain ⟨a, h1, _, vs, h2, h3⟩ := A.ob n _ hs
      obtain ⟨a', h4, rfl⟩ := r
      rw [h1] at h4
      cases h4
      cases q : toPys xs with
      | none =>
        rw [q] at h
        cases h
      | some ds =>
        rw [q] at h
        cases h
        exact .lst (SqL.of h2) (PVs.dp h3 q)
    · cases h
def eqD (neg : Bool) (x y : D) : M D := fun s => match toPyD x s, toPyD y s with
  | some d, some e => if SeqAt.shaped d = true ∧ SeqAt.shaped e = true then .ok (.p (.bl (if neg = true then !PyData.eqv d e else PyData.eqv d e))) s else .bad
  | _, _ => .bad
theorem u64 {X : Cx} (hr : Room k X.A) : X.A.units + 64 < cLine := by have := hr.un; omega
theorem o_eq : OpS C k (compareOp .Eq) (eqD false) := fun X ok => by
  refine ⟨_, op_eqD (u64 ok.rm), fun W s H x y dx dy Q rx ry A g => ?_⟩
  unfold eqD at g
  split at g
  · rename_i d e h1 h2
    split at g
    · rename_i hs
      rw [ok.eK]
      exact ⟨d, e, DV.dp rx A h1, DV.dp ry A h2, hs.1, hs.2, g W H _ Ev.rfl (PV.bl _) A⟩
    · exact g.elim
  · exact g.elim
theorem o_ne : OpS C k (compareOp .NotEq) (eqD true) := fun X ok => by
  refine ⟨_, op_neD (u64 ok.rm), fun W s H x y dx dy Q rx ry A g => ?_⟩
  unfold eqD at g
  split at g
  · rename_i d e h1 h2
    split at g
    · rename_i hs
      rw [ok.eK]
      exact ⟨d, e, DV.dp rx A h1, DV.dp ry A h2, hs.1, hs.2, g W H _ Ev.rfl (PV.bl _) A⟩
    · exact g.elim
  · exact g.elim
/-- is None -/
def isN (neg : Bool) (x y : D) : M D := fun s => match y with
  | .p .non => match x with
    | .p .non => .ok (.p (.bl (!neg))) s
    | _ => .ok (.p (.bl neg)) s
  | _ => .bad
theorem isN_go {neg : Bool} {W : Wd} {H : Hp} {s : S} {x y : V} {dx dy : D} {Q : VK} (rx : DV C.K W H x dx) (ry : DV C.K W H y dy) (A : Abs C.K W s H) (g : Good (isN neg dx dy s) (Po C.K W H Q)) : y = .non ∧ Q (.bl (if decide (x = .non) = true then !neg else neg)) H := by
  unfold isN at g
  split at g
  · cases ry
    refine ⟨rfl, ?_⟩
    split at g
    · cases rx
      exact g W H _ Ev.rfl (PV.bl _) A
    · rename_i hx
      have hne : x ≠ .non := fun z => by
        subst z
        cases dx with
        | obj n =>
          obtain ⟨a, _, e⟩ := rx
          cases e
        | p z =>
          cases rx
          exact hx rfl
      rw [decide_eq_false hne]
      exact g W H _ Ev.rfl (PV.bl _) A
  · exact g.elim
theorem o_is : OpS C k (compareOp .Is) (isN false) := fun X ok => ⟨_, op_isN, fun W s H x y dx dy Q rx ry A g => by
  obtain ⟨h1, h2⟩ := isN_go rx ry A g
  refine ⟨h1, ?_⟩
  by_cases e : x = .non
  · rw [decide_eq_true e] at h2 ⊢
    exact h2
  · rw [decide_eq_false e] at h2 ⊢
    exact h2⟩
theorem o_isnot : OpS C k (compareOp .IsNot) (isN true) := fun X ok => ⟨_, op_notN, fun W s H x y dx dy Q rx ry A g => by
  obtain ⟨h1, h2⟩ := isN_go rx ry A g
  refine ⟨h1, ?_⟩
  by_cases e : x = .non
  · rw [decide_eq_true e] at h2 ⊢
    exact h2
  · rw [decide_eq_false e] at h2 ⊢
    exact h2⟩
end
end CW

end
section
set_option maxRecDepth 100000
set_option maxHeartbeats 2000000
/-! CW, fifth part: defs and their calls; built-in functions. -/
namespace CW
open PySem PySem.Spec PyProof.Rows L2
/-! repr of whole numbers of up to 8000 bits: the setting of the digits' limit is as it was at the start -/
abbrev Dig (K : PySem.W.Frag) : Prop := PySem.W.nsIn K cStatics "sys.int_max_str_digits" = some none
mutual
/-- no dict, no whole number of more than 8000 bits -/
def wideP : PyData → Bool
  | .int i => decide (i.natAbs.log2 < 8000)
  | .list ds => wideL ds
  | .tuple ds => wideL ds
  | .dict _ => false
  | .none => true
  | .bool _ => true
  | .str _ => true
def wideL : List PyData → Bool
  | [] => true
  | d :: ds => wideP d && wideL ds
end
theorem wideL_all : ∀ {ds : List PyData}, (∀ d ∈ ds, wideP d = true) → wideL ds = true
  | [], _ => by simp [wideL]
  | d :: ds, h => by simp [wideL, h d List.mem_cons_self, wideL_all (ds := ds) fun x hx => h x (List.mem_cons_of_mem _ hx)]
section
variable {prog : Program} {w : World} {K : PySem.W.Frag} {h0 : Heap}
theorem dig_none {M : Model} {A : Around} {E : Value → Shared → Prop} {st : Shared} {i : Int} {Q : Option Nat → Shared → Prop} (kin : K.In h0) (dg : Dig K)
    (kp : ∀ b o, h0.get? b = some o → st.heap.get? b = some o) (hi : i.natAbs.log2 < 8000) (q : Q none st) : wpAny M A (Builtin.overDigitLimit? i) Q E st := by
  unfold Builtin.overDigitLimit?
  by_cases sm : i.natAbs.log2 < 1920
  · rw [if_pos sm]
    exact wpAny_pure q
  · rw [if_neg sm]
    unfold Builtin.intMaxStrDigits
    refine wpAny_bind (wpAny_bind (PySem.W.looks_nsIn kin dg A _ E st kp (wpAny_pure ?_)))
    dsimp only
    have few : ¬ (i.natAbs.log2 / 30 + 1 > 1000) := by omega
    have low : (4300 == 0 || decide (i.natAbs.log2 < 3 * 4300)) = true := by
      have : i.natAbs.log2 < 3 * 4300 := by omega
      simp [this]
    rw [if_neg few, if_pos low]
    exact wpAny_pure q
theorem int_txt {A : Around} {E : Value → Shared → Prop} {st : Shared} {i : Int} {t : Tok} {Q : Value → Shared → Prop} (kin : K.In h0) (dg : Dig K)
    (kp : ∀ b o, h0.get? b = some o → st.heap.get? b = some o) (hi : i.natAbs.log2 < 8000) (q : ∀ u k, Q (.str (toString i) u) { st with toks := k }) :
    wpAny (model prog w) A (call (.builtin "int.__repr__") [.int i t]) Q E st := by
  have hl : (Str.ofString (toString i)).length ≤ sizeLine := by
    have z := int_text_length_le (k := 8000) (by decide) hi
    rw [PySem.ofString_length, sizeLine_eq]
    omega
  apply wpAny_call_entry (hT := typeIs_int st i t) (h := F.slot_int_repr) (hb := F.entry_int_repr) (ha := F.args_int_repr_1 _)
  unfold Builtin.«int.__repr__»
  show wpAny _ _ (do let over ← Builtin.overDigitLimit? i; _) _ _ st
  exact wpAny_bind (dig_none kin dg kp hi (wpAny_bind (wpAny_mkStr (wpAny_pure ⟨_, rfl, q _ _⟩) hl)))
theorem reprK_int {bs : List Addr} {n : Nat} {i : Int} {t : Tok} (kin : K.In h0) (dg : Dig K) (hi : i.natAbs.log2 < 8000) : ReprK prog w bs h0 n (.int i t) (toString i) := by
  intro base hb A g E st Q _ _ hu kp q
  rw [pyReprUnder_leaf (Nat.le_trans (Nat.le_add_right _ _) hb) (by intro a z; cases z)]
  unfold pyRepr
  exact wpAny_bind (wpAny_pyReprObj_slot (Nat.lt_of_le_of_lt (Nat.le_add_right _ _) hu) (typeIs_int st i t) F.slot_int_repr.toG (int_txt kin dg kp hi fun u k => ⟨_, u, rfl, wpAny_pure (q st.heap k fun _ _ z => z)⟩))
mutual
theorem wideK (kin : K.In h0) (dg : Dig K) : ∀ {v : Value} {d : PyData} {bs : List Addr}, Reads h0 v d bs → wideP d = true → d.shown.length ≤ sizeLine → ∃ cs, ReadAtMost h0 d.depth cs ∧ ReprK prog w cs h0 d.depth v d.shown
  | _, _, _, .none, _, _ => by
    refine ⟨[], (fun _ z => nomatch z), ?_⟩
    simp only [PyData.shown]
    exact .of_is ReprIs.none _ _ _
  | _, _, _, .bool b, _, _ => by
    refine ⟨[], (fun _ z => nomatch z), ?_⟩
    simp only [PyData.shown]
    exact .of_is (ReprIs.bool b) _ _ _
  | _, _, _, .int i t, hw, _ => by
    refine ⟨[], (fun _ z => nomatch z), ?_⟩
    simp only [PyData.shown]
    exact reprK_int kin dg (by simpa [wideP] using hw)
  | _, _, _, .str x t, _, hz => by
    refine ⟨[], (fun _ z => nomatch z), ?_⟩
    simp only [PyData.shown] at hz ⊢
    exact .of_is (ReprIs.str x t hz) _ _ _
  | _, _, _, .list (a := p) (vs := ⟨us⟩) (xs := ds) o1 o2 o3 o4, hw, hz => by
    have len : (listText (PyData.shownAll ds)).length ≤ sizeLine := by simpa only [PyData.shown] using hz
    obtain ⟨cs, c1, c2⟩ := wideKs kin dg o4 (by simpa [wideP] using hw) fun t m => Nat.le_trans (listText_mem_le m) len
    have whole : Reads h0 (.ref p) (.list ds) _ := .list o1 o2 o3 o4
    have out : p ∉ cs := not_mem_of_deeper whole (by simp only [PyData.depth]; omega) c1
    refine ⟨p :: cs, ReadAtMost.cons whole (by simp only [PyData.depth]; omega) c1, ?_⟩
    simp only [PyData.depth, PyData.shown]
    match us, o3, o4, c2 with
    | [], o3, o4, _ =>
      have z : ds = [] := by
        have o4 : ReadsAll h0 [] ds _ := o4
        cases o4
        rfl
      subst z
      simp only [PyData.shownAll, listText_nil]
      exact ReprK.listEmpty o1 o2 o3
    | u :: us, o3, _, c2 => exact ReprK.list o1 o2 o3 out (by simpa using c2.length_eq) fun j y z => c2.item j y (by simpa using z)
  | _, _, _, .tuple (a := p) (xs := ds) o1 o2 o3 o4, hw, hz => by
    have len : (tupleText (PyData.shownAll ds)).length ≤ sizeLine := by simpa only [PyData.shown] using hz
    obtain ⟨cs, c1, c2⟩ := wideKs kin dg o4 (by simpa [wideP] using hw) fun t m => Nat.le_trans (tupleText_mem_le m) len
    have whole : Reads h0 (.ref p) (.tuple ds) _ := .tuple o1 o2 o3 o4
    have out : p ∉ cs := not_mem_of_deeper whole (by simp only [PyData.depth]; omega) c1
    refine ⟨p :: cs, ReadAtMost.cons whole (by simp only [PyData.depth]; omega) c1, ?_⟩
    simp only [PyData.depth, PyData.shown]
    exact ReprK.tuple o1 o2 o3 out c2
  | _, _, _, .dict _ _ _ _ _, hw, _ => by simp [wideP] at hw
theorem wideKs (kin : K.In h0) (dg : Dig K) : ∀ {us : List Value} {ds : List PyData} {bs : List Addr}, ReadsAll h0 us ds bs → wideL ds = true → (∀ t ∈ PyData.shownAll ds, t.length ≤ sizeLine) →
    ∃ cs, ReadAtMost h0 (PyData.depthAll ds) cs ∧ ReprAllK prog w cs h0 (PyData.depthAll ds) us (PyData.shownAll ds)
  | _, _, _, .nil, _, _ => by
    refine ⟨[], (fun _ z => nomatch z), ?_⟩
    simp only [PyData.shownAll]
    exact .nil
  | _, _, _, .cons (d := d) (ds := ds) r1 r2, hw, hz => by
    have hw' : wideP d = true ∧ wideL ds = true := by simpa [wideL] using hw
    obtain ⟨cs, c1, c2⟩ := wideK kin dg r1 hw'.1 (hz _ (by simp [PyData.shownAll]))
    obtain ⟨es, e1, e2⟩ := wideKs kin dg r2 hw'.2 fun t m => hz t (by simp [PyData.shownAll, m])
    refine ⟨cs ++ es, ?_, ?_⟩
    · simp only [PyData.depthAll]
      exact (c1.mono (Nat.le_max_left _ _)).append (e1.mono (Nat.le_max_right _ _))
    · simp only [PyData.depthAll, PyData.shownAll]
      refine .cons ?_ (e2.more_le (fun b m => List.mem_append_right cs m) (Nat.le_max_right _ _))
      exact (c2.more fun b m => List.mem_append_left es m).level_le (Nat.le_max_left _ _)
end
/-- repr(..) of a list or a tuple -/
theorem repr_wide {A : Around} {E : Value → Shared → Prop} {st : Shared} {Q : Value → Shared → Prop} {p : Addr} {d : PyData} {bs : List Addr} (kin : K.In st.heap) (dg : Dig K) (rd : Reads st.heap (.ref p) d bs) (hw : wideP d = true)
    (hz : d.shown.length ≤ sizeLine) (hg : A.guards = some []) (hu : A.units + (d.depth + 1) < cLine) (q : ∀ h1 u k, (∀ b o, st.heap.get? b = some o → h1.get? b = some o) → Q (.str d.shown u) { st with heap := h1, toks := k }) :
    wpAny (model prog w) A (call (.builtin "repr") [.ref p]) Q E st := by
  cases rd with
  | list o1 o2 o3 o4 =>
    rename_i o us n ds cs0
    obtain ⟨us⟩ := us
    have len : (listText (PyData.shownAll ds)).length ≤ sizeLine := by simpa only [PyData.shown] using hz
    obtain ⟨cs, c1, c2⟩ := wideKs (prog := prog) (w := w) kin dg o4 (by simpa [wideP] using hw) fun t m => Nat.le_trans (listText_mem_le m) len
    have out : p ∉ cs := not_mem_of_deeper (.list o1 o2 o3 o4) (by simp only [PyData.depth]; omega) c1
    simp only [PyData.depth] at hu
    simp only [PyData.shown] at q
    refine call_repr_slot (by omega) ⟨o, o1, o2⟩ F.slot_list_repr.toG ?_
    match us, o3, o4, c2 with
    | [], o3, o4, _ =>
      have z : ds = [] := by
        have o4 : ReadsAll st.heap [] ds _ := o4
        cases o4
        rfl
      subst z
      simp only [PyData.shownAll, listText_nil] at q
      exact call_list_repr_empty ⟨o, o1, o2⟩ o1 o3 ⟨_, _, rfl, q st.heap _ _ fun _ _ z => z⟩
    | u :: us, o3, _, c2 =>
      exact call_list_reprK o1 o2 o3 out (by simpa using c2.length_eq) (fun j y z => c2.item j y (by simpa using z)) (show A.in1.guards = some [] from hg) (fun b _ => Clear.nil b) (by show A.units + 1 + _ < cLine; omega) (fun _ _ z => z) (fun h1 u k kp => ⟨_, _, rfl, q h1 u k kp⟩) len
  | tuple o1 o2 o3 o4 =>
    rename_i o us n ds
    have len : (tupleText (PyData.shownAll ds)).length ≤ sizeLine := by simpa only [PyData.shown] using hz
    obtain ⟨cs, c1, c2⟩ := wideKs (prog := prog) (w := w) kin dg o4 (by simpa [wideP] using hw) fun t m => Nat.le_trans (tupleText_mem_le m) len
    have out : p ∉ cs := not_mem_of_deeper (.tuple o1 o2 o3 o4) (by simp only [PyData.depth]; omega) c1
    simp only [PyData.depth] at hu
    simp only [PyData.shown] at q
    refine call_repr_slot (by omega) ⟨o, o1, o2⟩ F.slot_tuple_repr ?_
    exact call_tuple_reprK o1 o2 o3 out c2 (show A.in1.guards = some [] from hg) (fun b _ => Clear.nil b) (by show A.units + 1 + _ < cLine; omega) (fun _ _ z => z) (fun h1 u k kp => ⟨_, _, rfl, q h1 u k kp⟩) len
  | dict _ _ _ _ _ => simp [wideP] at hw
/-- repr(..) of a whole number -/
theorem repr_wint {A : Around} {E : Value → Shared → Prop} {st : Shared} {Q : Value → Shared → Prop} {i : Int} {t : Tok} (kin : K.In st.heap) (dg : Dig K) (hi : i.natAbs.log2 < 8000) (hu : A.units + 1 < cLine)
    (q : ∀ u k, Q (.str (toString i) u) { st with toks := k }) : wpAny (model prog w) A (call (.builtin "repr") [.int i t]) Q E st :=
  call_repr_slot hu (typeIs_int st i t) F.slot_int_repr.toG (int_txt kin dg (fun _ _ z => z) hi fun u k => ⟨_, u, rfl, q u k⟩)
end
/-- a def's promise, for every around without a repr in work -/
structure Fn (C : Cf) (k : Nat) (f : Addr) (fd : FuncData) (ps : List Str) (sp : Sp) : Prop where
  len : ∀ vs H Q E, sp vs H Q E → vs.length = ps.length
  run : ∀ (A : Around) (outer : List Env) (s : Shared) (H : Hp) (args : Args) (us : List Value) (vs : List V) (Q : VK) (E : XK),
    Room k A → (C.rg = true → A.guards = some []) → Env0 C.pg C.w C.K C.mg C.base A outer s H → BindsTo s fd args (ps.zip us) → Vals vs us → sp vs H Q E →
      codeAny (model C.pg C.w) A (.call (.ref f) args) (CR CX0 outer C.pg C.w H s Q E) s
theorem Fn.mono {C : Cf} {j k : Nat} {f : Addr} {fd : FuncData} {ps : List Str} {sp : Sp} (F : Fn C j f fd ps sp) (h : j ≤ k) : Fn C k f fd ps sp :=
  ⟨F.len, fun A outer s H args us vs Q E hr => F.run A outer s H args us vs Q E (hr.mono h)⟩
/-- what m does, as a promise -/
def spM (C : Cf) (n : Nat) (m : List D → M D) : Sp := fun vs H Q _ => vs.length = n ∧ ∃ W s ds, DVs C.K W H vs ds ∧ W.tb = C.tb ∧ Abs C.K W s H ∧ Good (m ds s) (Po C.K W H Q)
section
variable {C : Cf} {sc : Scope} {N : List Str} {k : Nat} {pos p2 : Pos} {e a b : Expr} {ma mb : EF} {es : List Expr} {ms : List EF}
/-- a call of f with values -/
theorem run_call {X : Cx} {j : Nat} {f : Addr} {fd : FuncData} {ps : List Str} {sp : Sp} {pins : List (Addr × Obj)} {σ : L2.St} {H : Hp} {s : Shared} {Q : VK} {us : List Value} {vs : List V} (F : Fn C j f fd ps sp) (ok : Okx C j X) (hb : Binds C.K fd ps []) (I : Inv X pins σ H s) (r : Vals vs us)
    (h : sp vs H Q E0) : wpAny (model X.prog X.w) X.A (call (.ref f) us) (EP X pins σ Q) X.xe s := by
  have hl : us.length = ps.length := by rw [← r.length]; exact F.len _ _ _ _ h
  have e0 := I.env0
  have kin := I.kIn
  rw [ok.pr, ok.ew, ok.eK, ok.em, ok.eb] at e0
  rw [ok.eK] at kin
  have hbt := hb s us kin (by rw [List.append_nil]; exact hl)
  rw [List.append_nil] at hbt
  have run := F.run X.A X.stack s H ⟨us, []⟩ us vs Q E0 ok.rm ok.gd e0 hbt r h
  rw [← ok.pr, ← ok.ew] at run
  refine wpAny_call (codeAny_mono run fun q s' hq => ?_)
  match q, hq with
  | .error _, hq => exact hq.elim
  | .ok (.ret u), hq => exact I.after hq
/-- f(..) of a global def -/
def calE (m : List D → M D) (ms : List EF) : EF := fun ρ => bnd (evA ms ρ) m
theorem s_call {x : Str} {j : Nat} {f : Addr} {fd : FuncData} {ps : List Str} {m : List D → M D} {n : Nat} (F : Fn C j f fd ps (spM C n m)) (hj : j ≤ k) (hm : C.mg x = some (.ref f)) (hk : PySem.W.keepIn C.K (.ref f) = true) (hb : Binds C.K fd ps [])
    (ha : SAs C sc N k (e :: es) ms) (hg : GlS sc x := by rfl) (hn : ms.length = n := by rfl) (hd : (x == ("__debug__" : Str)) = false := by decide)
    (he : ∀ env, starEach (e :: es) env = (false, eval e env) :: starEach es env := by intro _; rfl) (hp : ∀ env, (backTo pos (starEach es env)).any (·.1) = false := by intro _; rfl) :
    SE C sc N k (.Call (.Name x p2) (e :: es) [] pos) (calE m ms) := fun X ok => by
  obtain ⟨t, p, q⟩ := ha X ok
  refine ⟨fun σ H Q => t σ H fun vs H1 => spM C n m vs H1 Q E0, ⟨fun pins s σ H Q I h => ?_⟩, fun σ H W s ρ Q er A g => ?_⟩
  · refine wpAny_Call_Name_kw (ld_glob I (hg.of ok) (by rw [ok.em]; exact hm) ?_ hd)
    refine PySem.W.callWith_K (h₀ := X.base) I.ok.mod.kin (by rw [ok.eK]; exact hk) (thn (p.run pos pins s σ H _ I h) fun us s1 ⟨vs, H1, I1, r, q1⟩ => ⟨I1.kIn, ?_⟩) (he X.env) (hp X.env)
    have ok' : Okx C k X := ok.toOkx
    exact run_call (F.mono hj) ok' hb I1 r q1
  · refine q σ H W s ρ _ er A (g.bnd.len.mono fun ds s1 ⟨z, h1⟩ W1 H1 vs e1 r1 A1 => ?_)
    exact ⟨by rw [Paired.length r1, z]; exact hn, W1, s1, ds, r1, (er.up e1).tb, A1, h1.mono fun _ _ w => w.up e1⟩
theorem s_call0 {x : Str} {j : Nat} {f : Addr} {fd : FuncData} {ps : List Str} {m : List D → M D} (F : Fn C j f fd ps (spM C 0 m)) (hj : j ≤ k) (hm : C.mg x = some (.ref f)) (hk : PySem.W.keepIn C.K (.ref f) = true) (hb : Binds C.K fd ps [])
    (hg : GlS sc x := by rfl) (hd : (x == ("__debug__" : Str)) = false := by decide) : SE C sc N k (.Call (.Name x p2) [] [] pos) (calE m []) := fun X ok => by
  refine ⟨fun σ H Q => spM C 0 m [] H Q E0, ⟨fun pins s σ H Q I h => ?_⟩, fun σ H W s ρ Q er A g => ?_⟩
  · refine wpAny_Call_Name_kw (ld_glob I (hg.of ok) (by rw [ok.em]; exact hm) ?_ hd)
    exact PySem.W.callWith_K0 I.kIn (by rw [ok.eK]; exact hk) (run_call (us := []) (F.mono hj) ok.toOkx hb I .nil h)
  · exact ⟨rfl, W, s, [], .nil, er.tb, A, g⟩

/-! ### built-in functions -/
/-- a call of a built-in value does g -/
def CaS (C : Cf) (k : Nat) (f : Value) (g : List D → M D) : Prop :=
  ∀ X, Okx C k X → ∃ r, CallR X f r ∧ ∀ W s H xs ds Q, DVs C.K W H xs ds → Abs C.K W s H → Good (g ds s) (Po C.K W H Q) → r xs H Q
theorem s_bf {x : Str} {id : String} {g : List D → M D} (hc : CaS C k (.builtin id) g) (hm : C.mg x = none) (hv : bootBuiltins x = some (.builtin id)) (ha : SAs C sc N k (e :: es) ms) (hg : GlS sc x := by rfl) (hn : x ≠ "__name__" := by decide) (hd : (x == ("__debug__" : Str)) = false := by decide)
    (he : ∀ env, starEach (e :: es) env = (false, eval e env) :: starEach es env := by intro _; rfl) (hp : ∀ env, (backTo pos (starEach es env)).any (·.1) = false := by intro _; rfl) :
    SE C sc N k (.Call (.Name x p2) (e :: es) [] pos) (calE g ms) := fun X ok => by
  obtain ⟨t, p, q⟩ := ha X ok
  obtain ⟨r, h1, h2⟩ := hc X ok.toOkx
  refine ⟨_, pe_callB h1 (hg.of ok) (by rw [ok.em]; exact hm) hv p hn hd (he X.env) (hp X.env), fun σ H W s ρ Q er A g => ?_⟩
  refine q σ H W s ρ _ er A (g.bnd.mono fun ds s1 z W1 H1 vs e1 r1 A1 => ?_)
  exact h2 W1 s1 H1 vs ds Q r1 A1 (Good.mono z fun _ _ w => w.up e1)
theorem s_bt {x : Str} {id : String} {g : List D → M D} (hc : CaS C k (.type id) g) (hm : C.mg x = none) (hv : bootBuiltins x = some (.type id)) (ha : SAs C sc N k (e :: es) ms) (hg : GlS sc x := by rfl) (hn : x ≠ "__name__" := by decide) (hd : (x == ("__debug__" : Str)) = false := by decide)
    (he : ∀ env, starEach (e :: es) env = (false, eval e env) :: starEach es env := by intro _; rfl) (hp : ∀ env, (backTo pos (starEach es env)).any (·.1) = false := by intro _; rfl) :
    SE C sc N k (.Call (.Name x p2) (e :: es) [] pos) (calE g ms) := fun X ok => by
  obtain ⟨t, p, q⟩ := ha X ok
  obtain ⟨r, h1, h2⟩ := hc X ok.toOkx
  refine ⟨_, pe_callTy h1 (hg.of ok) (by rw [ok.em]; exact hm) hv p hn hd (he X.env) (hp X.env), fun σ H W s ρ Q er A g => ?_⟩
  refine q σ H W s ρ _ er A (g.bnd.mono fun ds s1 z W1 H1 vs e1 r1 A1 => ?_)
  exact h2 W1 s1 H1 vs ds Q r1 A1 (Good.mono z fun _ _ w => w.up e1)
theorem dvs1 {W : Wd} {H : Hp} {xs : List V} {d : D} (r : DVs C.K W H xs [d]) : ∃ x, xs = [x] ∧ DV C.K W H x d := by
  match xs, r with
  | [x], .cons h .nil => exact ⟨x, rfl, h⟩
theorem dvs2 {W : Wd} {H : Hp} {xs : List V} {d d' : D} (r : DVs C.K W H xs [d, d']) : ∃ x y, xs = [x, y] ∧ DV C.K W H x d ∧ DV C.K W H y d' := by
  match xs, r with
  | [x, y], .cons h (.cons h' .nil) => exact ⟨x, y, rfl, h, h'⟩
def absD : List D → M D := fun ds s => match ds with
  | [.p (.int i)] => .ok (.p (.int (if i < 0 then -i else i))) s
  | _ => .bad
theorem c_abs : CaS C k (.builtin "abs") absD := fun X ok => ⟨_, call_abs, fun W s H xs ds Q r A g => by
  unfold absD at g
  split at g
  · obtain ⟨x, rfl, h⟩ := dvs1 r
    cases h
    exact ⟨_, rfl, g W H _ Ev.rfl (PV.int _) A⟩
  · exact g.elim⟩
def lenD : List D → M D := fun ds s => match ds with
  | [.p (.tup xs)] => .ok (.p (.int xs.length)) s
  | [.p (.str x)] => if x.length ≤ sizeLine then .ok (.p (.int x.length)) s else .bad
  | [d] => match its d s with
    | some xs => .ok (.p (.int xs.length)) s
    | none => .bad
  | _ => .bad
theorem c_len : CaS C k (.builtin "len") lenD := fun X ok => ⟨_, call_len, fun W s H xs ds Q r A g => by
  unfold lenD at g
  rw [ok.eK]
  split at g
  · obtain ⟨x, rfl, h⟩ := dvs1 r
    cases h with
    | tup h1 h2 => exact ⟨_, _, rfl, Or.inr ⟨_, h1, rfl⟩, by rw [h2.len]; exact g W H _ Ev.rfl (PV.int _) A⟩
  · split at g
    · rename_i hl
      obtain ⟨x, rfl, h⟩ := dvs1 r
      cases h
      exact ⟨_, _, rfl, ⟨hl, rfl⟩, g W H _ Ev.rfl (PV.int _) A⟩
    · exact g.elim
  · split at g
    · rename_i hx
      obtain ⟨x, rfl, h⟩ := dvs1 r
      obtain ⟨a, vs, rfl, h1, h2⟩ := its_sq h A hx
      exact ⟨_, _, rfl, Or.inl ⟨_, h1, rfl⟩, by rw [h2.len]; exact g W H _ Ev.rfl (PV.int _) A⟩
    · exact g.elim
  · exact g.elim⟩
def maxD : List D → M D := fun ds s => match ds with
  | [.p (.int i), .p (.int j)] => .ok (.p (.int (if j > i then j else i))) s
  | _ => .bad
theorem c_max : CaS C k (.builtin "max") maxD := fun X ok => ⟨_, call_max2 ok.calm, fun W s H xs ds Q r A g => by
  unfold maxD at g
  split at g
  · obtain ⟨x, y, rfl, h, h'⟩ := dvs2 r
    cases h
    cases h'
    exact ⟨_, _, rfl, g W H _ Ev.rfl (PV.int _) A⟩
  · exact g.elim⟩
def minD : List D → M D := fun ds s => match ds with
  | [.p (.int i), .p (.int j)] => .ok (.p (.int (if j < i then j else i))) s
  | _ => .bad
theorem c_min : CaS C k (.builtin "min") minD := fun X ok => ⟨_, call_min2 ok.calm, fun W s H xs ds Q r A g => by
  unfold minD at g
  split at g
  · obtain ⟨x, y, rfl, h, h'⟩ := dvs2 r
    cases h
    cases h'
    exact ⟨_, _, rfl, g W H _ Ev.rfl (PV.int _) A⟩
  · exact g.elim⟩
def intD : List D → M D := fun ds s => match ds with
  | [.p (.int i)] => .ok (.p (.int i)) s
  | [.p (.bl b)] => .ok (.p (.int (if b = true then 1 else 0))) s
  | _ => .bad
theorem c_int : CaS C k (.type "int") intD := fun X ok => ⟨_, call_int1, fun W s H xs ds Q r A g => by
  unfold intD at g
  split at g
  · obtain ⟨x, rfl, h⟩ := dvs1 r
    cases h
    exact Or.inl ⟨_, rfl, g W H _ Ev.rfl (PV.int _) A⟩
  · obtain ⟨x, rfl, h⟩ := dvs1 r
    cases h
    exact Or.inr ⟨_, rfl, g W H _ Ev.rfl (PV.int _) A⟩
  · exact g.elim⟩
/-- a row of truths -/
def blsOf : List P → Option (List Bool)
  | [] => some []
  | .bl b :: r => (blsOf r).map (b :: ·)
  | _ :: _ => none
theorem blsOf_eq : ∀ {xs : List P} {bs : List Bool}, blsOf xs = some bs → xs = bs.map P.bl
  | [], bs, h => by
    cases h
    rfl
  | x :: r, bs, h => by
    cases x with
    | bl b =>
      unfold blsOf at h
      cases e : blsOf r with
      | none =>
        rw [e] at h
        cases h
      | some cs =>
        rw [e] at h
        have h' := Option.some.inj h
        subst h'
        rw [blsOf_eq e]
        rfl
    | _ => cases h
theorem blsOf_map : ∀ bs : List Bool, blsOf (bs.map P.bl) = some bs
  | [] => rfl
  | b :: r => by
    show (blsOf (r.map P.bl)).map (b :: ·) = some (b :: r)
    rw [blsOf_map r]
    rfl
def allD : List D → M D := fun ds s => match ds with
  | [d] => match its d s with
    | some xs => match blsOf xs with
      | some bs => .ok (.p (.bl (bs.all id))) s
      | none => .bad
    | none => .bad
  | _ => .bad
theorem c_all : CaS C k (.builtin "all") allD := fun X ok => ⟨_, cr_all ok.calm, fun W s H xs ds Q r A g => by
  unfold allD at g
  rw [ok.eK]
  split at g
  · split at g
    · rename_i ys hx
      split at g
      · rename_i bs hb
        obtain ⟨x, rfl, h⟩ := dvs1 r
        obtain ⟨a, vs, rfl, h1, h2⟩ := its_sq h A hx
        have hy := blsOf_eq hb
        subst hy
        have hv := h2.bls
        subst hv
        exact ⟨_, bs, rfl, h1, g W H _ Ev.rfl (PV.bl _) A⟩
      · exact g.elim
    · exact g.elim
  · exact g.elim⟩
def anyD : List D → M D := fun ds s => match ds with
  | [d] => match its d s with
    | some xs => match blsOf xs with
      | some bs => .ok (.p (.bl (bs.any id))) s
      | none => .bad
    | none => .bad
  | _ => .bad
theorem c_any : CaS C k (.builtin "any") anyD := fun X ok => ⟨_, cr_any ok.calm, fun W s H xs ds Q r A g => by
  unfold anyD at g
  rw [ok.eK]
  split at g
  · split at g
    · rename_i ys hx
      split at g
      · rename_i bs hb
        obtain ⟨x, rfl, h⟩ := dvs1 r
        obtain ⟨a, vs, rfl, h1, h2⟩ := its_sq h A hx
        have hy := blsOf_eq hb
        subst hy
        have hv := h2.bls
        subst hv
        exact ⟨_, bs, rfl, h1, g W H _ Ev.rfl (PV.bl _) A⟩
      · exact g.elim
    · exact g.elim
  · exact g.elim⟩
/-- tuple(x) of a list or a tuple; list(x), plain or not -/
def tupD : List D → M D := fun ds s => match ds with
  | [.p (.tup xs)] => .ok (.p (.tup xs)) s
  | [d] => match its d s with
    | some xs => .ok (.p (.tup xs)) s
    | none => .bad
  | _ => .bad
theorem c_tup : CaS C k (.type "tuple") tupD := fun X ok => ⟨_, call_tuple_of, fun W s H xs ds Q r A g => by
  unfold tupD at g
  rw [ok.eK]
  split at g
  · obtain ⟨x, rfl, h⟩ := dvs1 r
    cases h with
    | tup h1 h2 => exact ⟨_, _, rfl, Or.inr ⟨h1, g W H _ Ev.rfl (PV.tup h1 h2) A⟩⟩
  · split at g
    · rename_i hx
      obtain ⟨x, rfl, h⟩ := dvs1 r
      obtain ⟨a, vs, rfl, h1, h2⟩ := its_sq h A hx
      exact ⟨_, _, rfl, Or.inl ⟨h1, fun l hl => g W _ _ (Ev.new hl) (PV.tup (SqT.of upd_same) (PVs.up (Ev.new hl) h2)) (A.new hl)⟩⟩
    · exact g.elim
  · exact g.elim⟩
def lisD (fr : Bool) : List D → M D := fun ds s => match ds with
  | [.p (.tup xs)] => mkL fr xs s
  | [d] => match its d s with
    | some xs => mkL fr xs s
    | none => .bad
  | _ => .bad
theorem c_lis (fr : Bool) : CaS C k (.type "list") (lisD fr) := fun X ok => ⟨_, call_list_of, fun W s H xs ds Q r A g => by
  unfold lisD at g
  rw [ok.eK]
  split at g
  · obtain ⟨x, rfl, h⟩ := dvs1 r
    cases h with
    | tup h1 h2 => exact ⟨_, _, rfl, Or.inr h1, fun l hl => mkL_go Ev.rfl A h2 g hl⟩
  · split at g
    · rename_i hx
      obtain ⟨x, rfl, h⟩ := dvs1 r
      obtain ⟨a, vs, rfl, h1, h2⟩ := its_sq h A hx
      exact ⟨_, _, rfl, Or.inl h1, fun l hl => mkL_go Ev.rfl A h2 g hl⟩
    · exact g.elim
  · exact g.elim⟩
/-! isinstance of a built-in class -/
def tyD : D → S → Option String
  | .p .non, _ => some "NoneType"
  | .p (.bl _), _ => some "bool"
  | .p (.int _), _ => some "int"
  | .p (.str _), _ => some "str"
  | .p (.tup _), _ => some "tuple"
  | .p (.lst _), _ => some "list"
  | .p .emp, _ => some "dict"
  | .obj n, s => match s[n]? with
    | some (some (.lst _)) => some "list"
    | some (some (.dic _)) => some "dict"
    | _ => none
  | _, _ => none
theorem tyX {W : Wd} {H : Hp} {s : S} {v : V} {d : D} {z : String} (r : DV C.K W H v d) (A : Abs C.K W s H) (h : tyD d s = some z) : TyX C.K H v (.type z) := by
  cases d with
  | obj n =>
    unfold tyD at h
    dsimp only at h
    split at h
    · rename_i xs hs
      cases h
      obtain ⟨a, h1, _, vs, h2, h3⟩ := A.ob n _ hs
      obtain ⟨a', h4, rfl⟩ := r
      rw [h1] at h4
      cases h4
      exact .base (.lst h2)
    · rename_i xs hs
      cases h
      obtain ⟨a, h1, _, vs, h2, h3⟩ := A.ob n _ hs
      obtain ⟨a', h4, rfl⟩ := r
      rw [h1] at h4
      cases h4
      exact .base (.dK h2)
    · cases h
  | p x =>
    cases r with
    | non =>
      cases h
      exact .base .non
    | bl b =>
      cases h
      exact .base (.bl b)
    | int b =>
      cases h
      exact .base (.int b)
    | str b =>
      cases h
      exact .base (.str b)
    | lst hf h1 h2 =>
      cases h
      exact .base (.lst h1)
    | emp hf h1 =>
      cases h
      exact .base (.dK h1)
    | tup h1 h2 =>
      cases h
      rcases h1 with (h1 | ⟨o, h1⟩) | ⟨o, its, n, h1, hc, _⟩
      · exact .base (.tup h1)
      · exact .fTuple h1
      · exact .kTuple h1 hc
    | _ => cases h
def isiD : List D → M D := fun ds s => match ds with
  | [d, .p (.ty c)] => match tyD d s with
    | some z => match kitB z c with
      | some b => .ok (.p (.bl b)) s
      | none => .bad
    | none => .bad
  | _ => .bad
theorem c_isi : CaS C k (.builtin "isinstance") isiD := fun X ok => ⟨_, call_isi, fun W s H xs ds Q r A g => by
  unfold isiD at g
  rw [ok.eK]
  split at g
  · split at g
    · rename_i hz
      split at g
      · rename_i hb
        obtain ⟨x, y, rfl, h, h'⟩ := dvs2 r
        cases h'
        exact ⟨_, _, _, _, _, rfl, .ty _, tyX h A hz, kit_ty hb, g W H _ Ev.rfl (PV.bl _) A⟩
      · exact g.elim
    · exact g.elim
  · exact g.elim⟩
/-- a built-in class's name as a value -/
theorem s_bty {x : Str} {id : String} (hm : C.mg x = none) (hv : bootBuiltins x = some (.type id)) (hg : GlS sc x := by rfl) (hn : x ≠ "__name__" := by decide) (hd : (x == ("__debug__" : Str)) = false := by decide) : SE C sc N k (.Name x pos) (cE (.ty id)) := fun X ok => by
  refine ⟨_, pe_bltn (hg.of ok) (by rw [ok.em]; exact hm) hv (v := .ty id) rfl hn hd, fun σ H W s ρ Q er A g => ?_⟩
  exact g W H _ Ev.rfl (PV.ty _) A
/-! repr -/
def shwD : List D → M D := fun ds s => match ds with
  | [d] => match toPyD d s with
    | some z => if wideP z = true ∧ z.depth ≤ 60 ∧ z.shown.length ≤ sizeLine then .ok (.p (.str z.shown)) s else .bad
    | none => .bad
  | _ => .bad
def rShw (K : PySem.W.Frag) : List V → Hp → VK → Prop := fun xs H Q => ∃ x z, xs = [x] ∧ Dp K H x z ∧ wideP z = true ∧ z.depth ≤ 60 ∧ z.shown.length ≤ sizeLine ∧ Q (.str z.shown) H
theorem call_shw {X : Cx} (hg : X.A.guards = some []) (hr : Room k X.A) (dg : Dig X.K) : CallR X (.builtin "repr") (rShw X.K) := by
  intro pins s σ H xs us Q I r h
  obtain ⟨x, z, rfl, hd, h1, h3, h4, q⟩ := h
  obtain ⟨u, rfl, ru⟩ := vals1 r
  have hu := hr.un
  have kin := I.kIn
  have seq : ∀ a, u = .ref a → wpAny (model X.prog X.w) X.A (call (.builtin "repr") [u]) (EP X pins σ Q) X.xe s := fun a e => by
    obtain ⟨as, rd⟩ := Dp.reads I z x u hd ru
    subst e
    exact repr_wide kin dg rd h1 h4 hg (by omega) (fun h' u tk hk => ⟨.str z.shown, H, I.kept hk, ⟨_, rfl⟩, q⟩)
  cases hd with
  | non =>
    cases ru
    exact PySem.P.repr_of_none ⟨.str _, H, I.tok _, ⟨_, rfl⟩, q⟩
  | bl b =>
    cases ru
    exact PySem.P.repr_of_bool ⟨.str _, H, I.tok _, ⟨_, rfl⟩, by
      have e : PyData.shown (.bool b) = ((if b then "True" else "False" : Str)) := by cases b <;> rfl
      rw [e] at q
      exact q⟩
  | int i =>
    obtain ⟨t, rfl⟩ := ru
    exact repr_wint kin dg (of_decide_eq_true h1) (by omega) fun u k => ⟨.str _, H, I.tok k, ⟨_, rfl⟩, q⟩
  | str y =>
    obtain ⟨t, rfl⟩ := ru
    exact PySem.P.repr_of_str ⟨.str _, H, I.tok _, ⟨_, rfl⟩, q⟩ h4
  | lst _ _ => exact seq _ ru
  | tup _ _ => exact seq _ ru
theorem c_shw (hrg : C.rg = true) (dg : Dig C.K) : CaS C k (.builtin "repr") shwD := fun X ok => ⟨_, call_shw (ok.gd hrg) ok.rm (by rw [ok.eK]; exact dg), fun W s H xs ds Q r A g => by
  unfold shwD at g
  rw [ok.eK]
  split at g
  · split at g
    · rename_i z hz
      split at g
      · rename_i hc
        obtain ⟨x, rfl, h⟩ := dvs1 r
        exact ⟨x, z, rfl, DV.dp h A hz, hc.1, hc.2.1, hc.2.2, g W H _ Ev.rfl (PV.str _) A⟩
      · exact g.elim
    · exact g.elim
  · exact g.elim⟩
end
end CW

end
section
set_option maxRecDepth 100000
set_option maxHeartbeats 2000000
/-! CW, sixth part: statements. -/
namespace CW
open PySem PySem.Spec PyProof.Rows L2
inductive Fl where
  | nx (ρ : En) | rt (d : D) | bk (ρ : En) | ct (ρ : En)
abbrev SF := En → M Fl
abbrev GF := D → En → M En
def PoR (C : Cf) (W : Wd) (H : Hp) (Q : L2.St → Hp → Prop) : En → S → Prop := fun ρ s => ∀ W' H' σ, Ev W H W' H' → ER C W' H' σ ρ → Abs C.K W' s H' → Q σ H'
def PoF (C : Cf) (W : Wd) (H : Hp) (D : Ends) : Fl → S → Prop := fun f s => match f with
  | .nx ρ => PoR C W H D.nx ρ s
  | .rt d => Po C.K W H D.rt d s
  | .bk ρ => PoR C W H D.bk ρ s
  | .ct ρ => PoR C W H D.ct ρ s
theorem PoR.up {C : Cf} {W W' : Wd} {H H' : Hp} {Q : L2.St → Hp → Prop} {d : En} {s : S} (e : Ev W H W' H') (h : PoR C W H Q d s) : PoR C W' H' Q d s := fun W2 H2 v e2 => h W2 H2 v (e.trans e2)
theorem PoF.up {C : Cf} {W W' : Wd} {H H' : Hp} {D : Ends} {f : Fl} {s : S} (e : Ev W H W' H') (h : PoF C W H D f s) : PoF C W' H' D f s := by
  cases f with
  | nx ρ => exact PoR.up e h
  | rt d => exact Po.up e h
  | bk ρ => exact PoR.up e h
  | ct ρ => exact PoR.up e h
def SS (C : Cf) (sc : Scope) (N : List Str) (k : Nat) (st : Stmt) (m : SF) : Prop :=
  ∀ X, Cod C sc N k X → ∃ t, PS X st t ∧ ∀ D σ H W s ρ, ER C W H σ ρ → Abs C.K W s H → Good (m ρ s) (PoF C W H D) → t D σ H
def SB (C : Cf) (sc : Scope) (N : List Str) (k : Nat) (st : List Stmt) (m : SF) : Prop :=
  ∀ X, Cod C sc N k X → ∃ t, PSs X st t ∧ ∀ D σ H W s ρ, ER C W H σ ρ → Abs C.K W s H → Good (m ρ s) (PoF C W H D) → t D σ H
/-- but for the places pl nothing is stored -/
def Agr (pl : List Nat) (σ σ' : L2.St) : Prop := σ'.length = σ.length ∧ ∀ j, j ∉ pl → σ'[j]? = σ[j]?
theorem Agr.rfl {pl : List Nat} {σ : L2.St} : Agr pl σ σ := ⟨_root_.rfl, fun _ _ => _root_.rfl⟩
theorem Agr.trans {pl pl' : List Nat} {σ σ' σ2 : L2.St} (h : Agr pl σ σ') (g : Agr pl' σ' σ2) : Agr (pl ++ pl') σ σ2 := ⟨g.1.trans h.1, fun j hj => by
  rw [g.2 j fun z => hj (List.mem_append_right _ z), h.2 j fun z => hj (List.mem_append_left _ z)]⟩
def PoG (C : Cf) (W : Wd) (H : Hp) (pl : List Nat) (σ : L2.St) (Q : L2.St → Hp → Prop) : En → S → Prop := fun ρ s => ∀ W' H' σ', Ev W H W' H' → ER C W' H' σ' ρ → Abs C.K W' s H' → Agr pl σ σ' → Q σ' H'
theorem PoR.g {C : Cf} {W : Wd} {H : Hp} {pl : List Nat} {σ : L2.St} {Q : L2.St → Hp → Prop} {ρ : En} {s : S} (h : PoR C W H Q ρ s) : PoG C W H pl σ Q ρ s := fun W' H' σ' e er A _ => h W' H' σ' e er A
def SG (C : Cf) (sc : Scope) (N : List Str) (k : Nat) (tg : Expr) (g : GF) (pl : List Nat) : Prop :=
  ∀ X, Cok C sc N k X → ∃ t, PG X tg t ∧ ∀ v d σ H W s ρ Q, DV C.K W H v d → ER C W H σ ρ → Abs C.K W s H → Good (g d ρ s) (PoG C W H pl σ Q) → t v σ H Q
def SGs (C : Cf) (sc : Scope) (N : List Str) (k : Nat) (ts : List Expr) (g : List P → En → M En) (pl : List Nat) : Prop :=
  ∀ X, Cok C sc N k X → ∃ t, PGs X ts t ∧ ∀ vs xs σ H W s ρ Q, PVs C.K W.fr H vs xs → ER C W H σ ρ → Abs C.K W s H → Good (g xs ρ s) (PoG C W H pl σ Q) → t vs σ H Q
theorem ER.put {C : Cf} {W : Wd} {H : Hp} {σ : L2.St} {ρ : En} {v : V} {d : D} (h : ER C W H σ ρ) (r : DV C.K W H v d) (i : Nat) : ER C W H (σ.set i (some v)) (ρ.set i (some d)) := by
  refine ⟨by rw [List.length_set, List.length_set]; exact h.len, fun j e hj => ?_, h.tb⟩
  by_cases q : i = j
  · subst q
    have hl : i < ρ.length := by
      have z := (List.getElem?_eq_some_iff.mp hj).1
      rw [List.length_set] at z
      exact z
    rw [List.getElem?_set_self hl] at hj
    cases hj
    exact ⟨v, List.getElem?_set_self (by rw [h.len]; exact hl), r⟩
  · rw [List.getElem?_set_ne q] at hj
    rw [List.getElem?_set_ne q]
    exact h.at j e hj
theorem ER.wipe {C : Cf} {W : Wd} {H : Hp} {σ : L2.St} {ρ : En} (h : ER C W H σ ρ) (i : Nat) : ER C W H (σ.set i none) (ρ.set i none) := by
  refine ⟨by rw [List.length_set, List.length_set]; exact h.len, fun j e hj => ?_, h.tb⟩
  by_cases q : i = j
  · subst q
    have hl : i < ρ.length := by
      have z := (List.getElem?_eq_some_iff.mp hj).1
      rw [List.length_set] at z
      exact z
    rw [List.getElem?_set_self hl] at hj
    cases hj
  · rw [List.getElem?_set_ne q] at hj
    rw [List.getElem?_set_ne q]
    exact h.at j e hj
section
variable {C : Cf} {sc : Scope} {N : List Str} {k : Nat} {pos p2 : Pos} {e a b tg : Expr} {m ma mb : EF} {es : List Expr} {ms : List EF} {st : Stmt} {sts : List Stmt} {f g : SF}
/-! ### targets -/
def setG (i : Nat) : GF := fun d ρ s => .ok (ρ.set i (some d)) s
theorem Cok.hf {X : Cx} {x : Str} (ok : Cok C sc N k X) (hx : Loc sc x) : X.fn x = true ∨ X.env.scope.names.lookup x = some .local := by
  rcases hx with h | h
  · exact Or.inr (ok.eL.loc x h)
  · exact Or.inl (ok.fc x h)
theorem g_name (i : Nat) {x : Str} (hi : N[i]? = some x := by rfl) (hx : Loc sc x := by first | exact Or.inl rfl | exact Or.inr rfl) : SG C sc N k (.Name x pos) (setG i) [i] := fun X ok => by
  refine ⟨_, pg_name (by rw [ok.nN]; exact ok.nd) (by rw [ok.nN]; exact hi) (ok.eL.lo hx) (ok.hf hx), fun v d σ H W s ρ Q r er A g => ?_⟩
  refine g W H _ Ev.rfl (er.put r i) A ⟨by rw [List.length_set], fun j hj => ?_⟩
  rw [List.getElem?_set_ne fun z => hj (by rw [z]; exact List.mem_singleton_self _)]
def nilG : List P → En → M En := fun xs ρ s => match xs with
  | [] => .ok ρ s
  | _ => .bad
def consG (g : GF) (r : List P → En → M En) : List P → En → M En := fun xs ρ => match xs with
  | x :: xs => bnd (g (.p x) ρ) fun ρ' => r xs ρ'
  | [] => bad
theorem gs_nil : SGs C sc N k [] nilG [] := fun X ok => by
  refine ⟨_, pgs_nil, fun vs xs σ H W s ρ Q r er A g => ?_⟩
  cases r with
  | nil => exact ⟨rfl, g W H _ Ev.rfl er A Agr.rfl⟩
  | cons _ _ => exact g.elim
theorem gs_cons {ts : List Expr} {h : GF} {r : List P → En → M En} {pl pl' : List Nat} (h1 : SG C sc N k tg h pl) (h2 : SGs C sc N k ts r pl') (hs : ∀ env, (assignEach (tg :: ts) env).map (·.2) = assign tg env :: (assignEach ts env).map (·.2) := by intro _; rfl) : SGs C sc N k (tg :: ts) (consG h r) (pl ++ pl') := fun X ok => by
  obtain ⟨t, p, q⟩ := h1 X ok
  obtain ⟨u, p', q'⟩ := h2 X ok
  refine ⟨_, pgs_cons p p' (hs X.env), fun vs xs σ H W s ρ Q rv er A g => ?_⟩
  cases rv with
  | nil => exact g.elim
  | cons hv hr =>
    refine ⟨_, _, rfl, q _ _ σ H W s ρ _ (show DV C.K W H _ (.p _) from hv) er A (Good.mono (Good.bnd g) fun ρ1 s1 h1 W1 H1 σ1 e1 er1 A1 ag => ?_)⟩
    exact q' _ _ σ1 H1 W1 s1 ρ1 Q (PVs.up e1 hr) er1 A1 (Good.mono h1 fun _ _ z W2 H2 σ2 e2 er2 A2 ag2 => z W2 H2 σ2 (e1.trans e2) er2 A2 (ag.trans ag2))
/-- (a, b, ..) = a tuple, a list -/
def tupG (n : Nat) (g : List P → En → M En) : GF := fun d ρ s => match d with
  | .p (.tup xs) => if xs.length = n then g xs ρ s else .bad
  | d => match its d s with
    | some xs => if xs.length = n then g xs ρ s else .bad
    | none => .bad
theorem pg_or {X : Cx} {t u : TG} (h1 : PG X tg t) (h2 : PG X tg u) : PG X tg (fun v σ H Q => t v σ H Q ∨ u v σ H Q) := ⟨fun pins s σ H v w Q I r q => by
  rcases q with q | q
  · exact h1.run pins s σ H v w Q I r q
  · exact h2.run pins s σ H v w Q I r q⟩
theorem g_tup {ts : List Expr} {j n : Nat} {r : List P → En → M En} {pl : List Nat} (h : SGs C sc N k ts r pl) (hn : ∀ env, (assignEach ts env).length = n := by intro _; rfl) (hst : ∀ env, (assignEach ts env).findIdx? (·.1) = none := by intro _; rfl) : SG C sc N k (.Tuple ts j pos) (tupG n r) pl := fun X ok => by
  obtain ⟨t, p, q⟩ := h X ok
  refine ⟨_, pg_or (pg_tup ok.calm p (hn X.env) (hst X.env)) (pg_lst ok.calm p (hn X.env) (hst X.env)), fun v d σ H W s ρ Q rv er A g => ?_⟩
  rw [ok.eK]
  unfold tupG at g
  split at g
  · split at g
    · rename_i hl
      cases rv with
      | tup h1 h2 => exact Or.inl ⟨_, _, rfl, h1, by rw [h2.len]; exact hl, q _ _ σ H W s ρ Q h2 er A g⟩
    · exact g.elim
  · split at g
    · rename_i hx
      split at g
      · rename_i hl
        obtain ⟨a, vs, rfl, h1, h2⟩ := its_sq rv A hx
        exact Or.inr ⟨_, _, rfl, h1, by rw [h2.len]; exact hl, q _ _ σ H W s ρ Q h2 er A g⟩
      · exact g.elim
    · exact g.elim
/-! ### small statements -/
def nopF : SF := fun ρ s => .ok (.nx ρ) s
def seqF (f g : SF) : SF := fun ρ => bnd (f ρ) fun r => match r with
  | .nx ρ' => g ρ'
  | r => ret r
theorem b_nil : SB C sc N k [] nopF := fun X ok => ⟨_, pss_nil, fun D σ H W s ρ er A g => g W H σ Ev.rfl er A⟩
theorem b_one (h : SS C sc N k st f) : SB C sc N k [st] f := fun X ok => by
  obtain ⟨t, p, q⟩ := h X ok
  exact ⟨_, pss_one p, q⟩
theorem b_cons (h : SS C sc N k st f) (h2 : SB C sc N k sts g) : SB C sc N k (st :: sts) (seqF f g) := fun X ok => by
  obtain ⟨t, p, q⟩ := h X ok
  obtain ⟨u, p', q'⟩ := h2 X ok
  refine ⟨_, pss_cons p p', fun D σ H W s ρ er A G => ?_⟩
  refine q { D with nx := u D } σ H W s ρ er A ((Good.bnd G).mono fun r s1 h1 => ?_)
  cases r with
  | nx ρ' => exact fun W1 H1 σ1 e1 er1 A1 => q' D σ1 H1 W1 s1 ρ' er1 A1 (Good.mono h1 fun _ _ z => z.up e1)
  | rt d => exact h1
  | bk ρ' => exact h1
  | ct ρ' => exact h1
theorem x_pass : SS C sc N k (.Pass pos) nopF := fun X ok => ⟨_, ps_pass, fun D σ H W s ρ er A g => g W H σ Ev.rfl er A⟩
theorem x_break : SS C sc N k (.Break pos) (fun ρ s => .ok (.bk ρ) s) := fun X ok => ⟨_, ps_break, fun D σ H W s ρ er A g => g W H σ Ev.rfl er A⟩
theorem x_cont : SS C sc N k (.Continue pos) (fun ρ s => .ok (.ct ρ) s) := fun X ok => ⟨_, ps_continue, fun D σ H W s ρ er A g => g W H σ Ev.rfl er A⟩
/-- a statement that is not come to -/
def noF : SF := fun _ _ => .bad
theorem x_never : SS C sc N k st noF := fun X ok => ⟨_, ps_never, fun D σ H W s ρ er A g => g.elim⟩
def retF (m : EF) : SF := fun ρ => bnd (m ρ) fun d => ret (.rt d)
theorem x_ret (h : SE C sc N k e m) : SS C sc N k (.Return (some e) pos) (retF m) := fun X ok => by
  obtain ⟨t, p, q⟩ := h X ok.toCok
  exact ⟨_, ps_ret p, fun D σ H W s ρ er A g => q σ H W s ρ _ er A ((Good.bnd g).mono fun _ _ z => z)⟩
theorem x_retN : SS C sc N k (.Return none pos) (fun _ s => .ok (.rt (.p .non)) s) := fun X ok => ⟨_, ps_retN, fun D σ H W s ρ er A g => g W H _ Ev.rfl PV.non A⟩
def expF (m : EF) : SF := fun ρ => bnd (m ρ) fun _ => ret (.nx ρ)
theorem x_exp (h : SE C sc N k e m) (hs : ∀ env, swapsWith e none pos.line env = pure false := by intro _; rfl) : SS C sc N k (.Expr e pos) (expF m) := fun X ok => by
  obtain ⟨t, p, q⟩ := h X ok.toCok
  refine ⟨_, ps_expr p (hs X.env), fun D σ H W s ρ er A g => ?_⟩
  exact q σ H W s ρ _ er A ((Good.bnd g).mono fun d s1 z W1 H1 v e1 r1 A1 => z W1 H1 σ e1 (er.up e1) A1)
theorem x_doc {x : Str} {j : Nat} : SS C sc N k (.Expr (.Constant (.str x) j p2) pos) nopF := fun X ok => ⟨_, ps_doc, fun D σ H W s ρ er A g => g W H σ Ev.rfl er A⟩
def iffF (t : TF) (f g : SF) : SF := fun ρ => bnd (t ρ) fun c => if c = true then f ρ else g ρ
theorem x_if {c : Expr} {ys ns : List Stmt} {t : TF} (hc : ST C sc N k c t) (hy : SB C sc N k ys f) (hn : SB C sc N k ns g) : SS C sc N k (.If c ys ns pos) (iffF t f g) := fun X ok => by
  obtain ⟨t, p, q⟩ := hc X ok.toCok
  obtain ⟨u, p', q'⟩ := hy X ok
  obtain ⟨v, p2, q2⟩ := hn X ok
  refine ⟨_, ps_if p p' p2, fun D σ H W s ρ er A G => ?_⟩
  refine q σ H W s ρ _ er A ((Good.bnd G).mono fun c s1 h1 W1 H1 e1 A1 => ?_)
  cases c with
  | true => exact iteT (q' D σ H1 W1 s1 ρ (er.up e1) A1 (Good.mono h1 fun _ _ z => z.up e1))
  | false => exact iteF (q2 D σ H1 W1 s1 ρ (er.up e1) A1 (Good.mono h1 fun _ _ z => z.up e1))
/-! ### assignments -/
def asgF (m : EF) (g : GF) : SF := fun ρ => bnd (m ρ) fun d => bnd (g d ρ) fun ρ' => ret (.nx ρ')
theorem x_asg {h : GF} {pl : List Nat} (he : SE C sc N k e m) (hg : SG C sc N k tg h pl) (hs : ∀ env : Env, env.scope = sc → swapsWithSole [tg] e pos.line env = pure false := by intro _ _; rfl) (hw : ∀ env : Env, env.scope = sc → swappedStores [tg] e env = pure none := by intro _ _; rfl)
    (h1 : ∀ env, (assignEach [tg] env).map (·.2) = [assign tg env] := by intro _; rfl) : SS C sc N k (.Assign [tg] e pos) (asgF m h) := fun X ok => by
  obtain ⟨t, p, q⟩ := he X ok.toCok
  obtain ⟨u, p', q'⟩ := hg X ok.toCok
  refine ⟨_, ps_asg p p' (hs X.env ok.eS) (hw X.env ok.eS) (h1 X.env), fun D σ H W s ρ er A g => ?_⟩
  refine q σ H W s ρ _ er A ((Good.bnd g).mono fun d s1 z W1 H1 v e1 r1 A1 => ?_)
  refine q' v d σ H1 W1 s1 ρ _ r1 (er.up e1) A1 ((Good.bnd z).mono fun ρ' s2 z2 W2 H2 σ2 e2 er2 A2 _ => ?_)
  exact z2 W2 H2 σ2 (e1.trans e2) er2 A2
/-- a, b = x, y with plain local names -/
def parF (i j : Nat) (ms : List EF) : SF := fun ρ => bnd (evA ms ρ) fun ds s => match ds with
  | [x, y] => .ok (.nx ((ρ.set i (some x)).set j (some y))) s
  | _ => .bad
theorem x_par (i j : Nat) {x y : Str} {px py pt : Pos} {kt k2 : Nat} {pt2 : Pos} (ha : SAs C sc N k [a, b] ms) (hi : N[i]? = some x := by rfl) (hj : N[j]? = some y := by rfl) (hij : i ≠ j := by decide) (hx : sc.names.lookup x = some .local := by rfl) (hy : sc.names.lookup y = some .local := by rfl)
    (hw : ∀ env : Env, env.scope = sc → swappedStores [.Tuple [.Name x px, .Name y py] kt pt] (.Tuple [a, b] k2 pt2) env = pure (some [x, y])) (hs : ∀ env, swapsWithSole [.Tuple [.Name x px, .Name y py] kt pt] (.Tuple [a, b] k2 pt2) pos.line env = pure false := by intro _; rfl) :
    SS C sc N k (.Assign [.Tuple [.Name x px, .Name y py] kt pt] (.Tuple [a, b] k2 pt2) pos) (parF i j ms) := fun X ok => by
  obtain ⟨t, p, q⟩ := ha X ok.toCok
  refine ⟨_, ps_par ok.calm (by rw [ok.nN]; exact ok.nd) (by rw [ok.nN]; exact hi) (by rw [ok.nN]; exact hj) hij (by rw [ok.eS]; exact hx) (by rw [ok.eS]; exact hy) p (hw X.env ok.eS) (hs X.env), fun D σ H W s ρ er A g => ?_⟩
  refine q σ H W s ρ _ er A ((Good.bnd g).mono fun ds s1 z W1 H1 vs e1 r1 A1 => ?_)
  split at z
  · obtain ⟨x', y', rfl, r2, r3⟩ := dvs2 r1
    exact ⟨_, _, rfl, z W1 H1 _ e1 (((er.up e1).put r2 i).put r3 j) A1⟩
  · exact z.elim
def par3F (i j l : Nat) (ms : List EF) : SF := fun ρ => bnd (evA ms ρ) fun ds s => match ds with
  | [x, y, z] => .ok (.nx (((ρ.set i (some x)).set j (some y)).set l (some z))) s
  | _ => .bad
theorem dvs3 {W : Wd} {H : Hp} {xs : List V} {d d' d2 : D} (r : DVs C.K W H xs [d, d', d2]) : ∃ x y z, xs = [x, y, z] ∧ DV C.K W H x d ∧ DV C.K W H y d' ∧ DV C.K W H z d2 := by
  match xs, r with
  | [x, y, z], .cons h (.cons h' (.cons h2 .nil)) => exact ⟨x, y, z, rfl, h, h', h2⟩
/-! ### in place -/
def augF (i : Nat) (g : D → D → M D) (m : EF) : SF := fun ρ s => match ρ[i]? with
  | some (some d) => bnd (m ρ) (fun y => bnd (g d y) fun z => ret (.nx (ρ.set i (some z)))) s
  | _ => .bad
theorem x_aug (i : Nat) {x : Str} {op : Operator} {h : D → D → M D} (ho : OpS C k (inplaceOp op) h) (he : SE C sc N k e m) (hi : N[i]? = some x := by rfl) (hx : Loc sc x := by first | exact Or.inl rfl | exact Or.inr rfl) : SS C sc N k (.AugAssign (.Name x p2) op e pos) (augF i h m) := fun X ok => by
  obtain ⟨t, p, q⟩ := he X ok.toCok
  obtain ⟨r, p1, q1⟩ := ho X ok.toOkx
  refine ⟨_, ps_aug (ti := r) (by rw [ok.nN]; exact ok.nd) (by rw [ok.nN]; exact hi) (by rw [ok.eS]; exact hx) p p1 (ok.toCok.hf hx), fun D σ H W s ρ er A g => ?_⟩
  unfold augF at g
  split at g
  · rename_i d hd
    obtain ⟨v, hv, rv⟩ := er.at i d hd
    refine ⟨v, hv, q σ H W s ρ _ er A ((Good.bnd g).mono fun y s1 z W1 H1 u e1 r1 A1 => ?_)⟩
    refine q1 W1 s1 H1 v u d y _ (rv.up e1) r1 A1 ((Good.bnd z).mono fun c s2 z2 W2 H2 w e2 r2 A2 => ?_)
    exact z2 W2 H2 _ (e1.trans e2) (((er.up e1).up e2).put r2 i) A2
  · exact g.elim
theorem i_add : OpS C k (inplaceOp .Add) (ii yes fun i j => .int (i + j)) := fun X ok => ⟨_, iop_add, fun W s H x y dx dy Q rx ry A g => by
  obtain ⟨i, j, rfl, rfl, _, q⟩ := ii_go rx ry g
  exact ⟨i, j, rfl, rfl, q W H _ Ev.rfl (PV.int _) A⟩⟩
theorem i_sub : OpS C k (inplaceOp .Sub) (ii yes fun i j => .int (i - j)) := fun X ok => ⟨_, iop_sub, fun W s H x y dx dy Q rx ry A g => by
  obtain ⟨i, j, rfl, rfl, _, q⟩ := ii_go rx ry g
  exact ⟨i, j, rfl, rfl, q W H _ Ev.rfl (PV.int _) A⟩⟩
/-! ### what is changed -/
/-- d[y] = v -/
def dputF (md mi mv : EF) : SF := fun ρ => bnd (mv ρ) fun v => bnd (md ρ) fun d => bnd (mi ρ) fun i s => match d, dctD d s, keyD i with
  | .obj n, some kvs, some q => if kvs.length < sizeLine then .ok (.nx ρ) (s.set n (some (.dic (putD kvs q v)))) else .bad
  | _, _, _ => .bad
theorem x_dput {o i value : Expr} {p3 : Pos} {md mi mv : EF} (ho : SE C sc N k o md) (hi : SE C sc N k i mi) (hv : SE C sc N k value mv) (hs : ∀ env, swapsWith value (some (.Subscript o i p3)) pos.line env = pure false := by intro _; rfl) :
    SS C sc N k (.Assign [.Subscript o i p3] value pos) (dputF md mi mv) := fun X ok => by
  obtain ⟨t1, p1, q1⟩ := ho X ok.toCok
  obtain ⟨t2, p2, q2⟩ := hi X ok.toCok
  obtain ⟨t3, p3, q3⟩ := hv X ok.toCok
  refine ⟨_, ps_dput (hu_of ok.rm) p1 p2 p3 (hs X.env), fun D σ H W s ρ er A g => ?_⟩
  refine q3 σ H W s ρ _ er A ((Good.bnd g).mono fun v s1 z W1 H1 vv e1 r1 A1 => ?_)
  refine q1 σ H1 W1 s1 ρ _ (er.up e1) A1 ((Good.bnd z).mono fun d s2 z2 W2 H2 vd e2 r2 A2 => ?_)
  refine q2 σ H2 W2 s2 ρ _ ((er.up e1).up e2) A2 ((Good.bnd z2).mono fun i s3 z3 W3 H3 vi e3 r3 A3 => ?_)
  split at z3
  · rename_i n kvs q hq hd
    split at z3
    · rename_i hl
      obtain ⟨n', a, ws, hn, hs, h3, rfl, h4, h5⟩ := dct_at (r2.up e3) A3 hd
      cases hn
      have hy := key_rel r3 hq
      subst hy
      have hlen : ws.length < sizeLine := by rw [Paired.length h5]; exact hl
      have ev : Ev W3 H3 W3 (upd H3 a (.dK (putK ws q vv))) := Ev.put (o' := .dic []) A3 hs h3
      exact ⟨a, _, rfl, DPut.k h4 hlen, z3 W3 _ _ (((e1.trans e2).trans e3).trans ev) ((((er.up e1).up e2).up e3).up ev) (A3.put hs h3 ⟨_, upd_same, ((h5.up ev).put (((r1.up e2).up e3).up ev))⟩)⟩
    · exact z3.elim
  · exact z3.elim
/-- xs[i] = v -/
def lputF (mo mi mv : EF) : SF := fun ρ => bnd (mv ρ) fun v => bnd (mo ρ) fun d => bnd (mi ρ) fun i s => match d, v, i with
  | .obj n, .p x, .p (.int z) => match s[n]? with
    | some (some (.lst xs)) => match ixN xs.length z with
      | some j => .ok (.nx ρ) (s.set n (some (.lst (xs.set j x))))
      | none => .bad
    | _ => .bad
  | _, _, _ => .bad
theorem x_lput {o i value : Expr} {p3 : Pos} {mo mi mv : EF} (ho : SE C sc N k o mo) (hi : SE C sc N k i mi) (hv : SE C sc N k value mv) (hs : ∀ env : Env, env.scope = sc → swapsWithSole [.Subscript o i p3] value pos.line env = pure false := by intro _ _; rfl)
    (hw : ∀ env : Env, swappedStores [.Subscript o i p3] value env = pure none := by intro _; rfl) (h1 : ∀ env, (assignEach [.Subscript o i p3] env).map (·.2) = [assign (.Subscript o i p3) env] := by intro _; rfl)
    (ha : ∀ env v, assign (.Subscript o i p3) env v = (do
      let ov ← holding [v] (eval o env)
      let iv ← holding [v, ov] (eval i env)
      standAt p3
      holding [v, ov, iv] (setItem ov iv v)
      release [v, ov, iv] []) := by intro _ _; rfl) : SS C sc N k (.Assign [.Subscript o i p3] value pos) (lputF mo mi mv) := fun X ok => by
  obtain ⟨t1, p1, q1⟩ := ho X ok.toCok
  obtain ⟨t2, p2, q2⟩ := hi X ok.toCok
  obtain ⟨t3, p3, q3⟩ := hv X ok.toCok
  refine ⟨_, ps_asg p3 (pg_sub p1 p2 set_list (ha X.env)) (hs X.env ok.eS) (hw X.env) (h1 X.env), fun D σ H W s ρ er A g => ?_⟩
  refine q3 σ H W s ρ _ er A ((Good.bnd g).mono fun v s1 z W1 H1 vv e1 r1 A1 => ?_)
  refine q1 σ H1 W1 s1 ρ _ (er.up e1) A1 ((Good.bnd z).mono fun d s2 z2 W2 H2 vd e2 r2 A2 => ?_)
  refine q2 σ H2 W2 s2 ρ _ ((er.up e1).up e2) A2 ((Good.bnd z2).mono fun i s3 z3 W3 H3 vi e3 r3 A3 => ?_)
  split at z3
  · rename_i n x iz
    split at z3
    · rename_i xs hx
      split at z3
      · rename_i j hj
        cases r3
        obtain ⟨a, h4, rfl⟩ := r2.up e3
        obtain ⟨a', h5, _, vs, h6, h7⟩ := A3.ob n _ hx
        rw [h4] at h5
        cases h5
        have ev : Ev W3 H3 W3 (upd H3 a (.lst (vs.set j vv))) := Ev.put (o' := .lst []) A3 hx h4
        refine ⟨a, vs, _, j, rfl, rfl, h6, by rw [h7.len]; exact hj, z3 W3 _ _ (((e1.trans e2).trans e3).trans ev) ((((er.up e1).up e2).up e3).up ev) (A3.put hx h4 ⟨_, upd_same, PVs.put ?_ j (PVs.up ev h7)⟩)⟩
        exact PV.up ev (PV.up e3 (PV.up e2 r1))
      · exact z3.elim
    · exact z3.elim
  · exact z3.elim
/-- xs.append(x), xs.extend(ys) -/
def appE (mo ma : EF) : EF := fun ρ => bnd (mo ρ) fun d => bnd (ma ρ) fun x s => match d, x with
  | .obj n, .p x => match s[n]? with
    | some (some (.lst xs)) => if xs.length < sizeLine then .ok (.p .non) (s.set n (some (.lst (xs ++ [x])))) else .bad
    | _ => .bad
  | _, _ => .bad
end
end CW

end
section
set_option maxRecDepth 100000
set_option maxHeartbeats 2000000
/-! CW, seventh part: methods of lists, loops, comprehensions, defs. -/
namespace CW
open PySem PySem.Spec PyProof.Rows L2
section
variable {C : Cf} {sc : Scope} {N : List Str} {k : Nat} {pos p2 apos cpos : Pos} {e a b c o tg : Expr} {m ma mb mo : EF} {es : List Expr} {ms : List EF} {st : Stmt} {sts : List Stmt} {f g : SF}
theorem x_par3 (i j l : Nat) {x y z : Str} {px py pz pt : Pos} {kt k2 : Nat} {pt2 : Pos} (ha : SAs C sc N k [a, b, c] ms) (hi : N[i]? = some x := by rfl) (hj : N[j]? = some y := by rfl) (hl : N[l]? = some z := by rfl) (hij : i ≠ j := by decide) (hil : i ≠ l := by decide) (hjl : j ≠ l := by decide)
    (hx : sc.names.lookup x = some .local := by rfl) (hy : sc.names.lookup y = some .local := by rfl) (hz : sc.names.lookup z = some .local := by rfl)
    (hw : ∀ env : Env, env.scope = sc → swappedStores [.Tuple [.Name x px, .Name y py, .Name z pz] kt pt] (.Tuple [a, b, c] k2 pt2) env = pure (some [x, y, z])) (hs : ∀ env, swapsWithSole [.Tuple [.Name x px, .Name y py, .Name z pz] kt pt] (.Tuple [a, b, c] k2 pt2) pos.line env = pure false := by intro _; rfl) :
    SS C sc N k (.Assign [.Tuple [.Name x px, .Name y py, .Name z pz] kt pt] (.Tuple [a, b, c] k2 pt2) pos) (par3F i j l ms) := fun X ok => by
  obtain ⟨t, p, q⟩ := ha X ok.toCok
  refine ⟨_, ps_par3 ok.calm (by rw [ok.nN]; exact ok.nd) (by rw [ok.nN]; exact hi) (by rw [ok.nN]; exact hj) (by rw [ok.nN]; exact hl) hij hil hjl (by rw [ok.eS]; exact hx) (by rw [ok.eS]; exact hy) (by rw [ok.eS]; exact hz) p (hw X.env ok.eS) (hs X.env), fun D σ H W s ρ er A g => ?_⟩
  refine q σ H W s ρ _ er A ((Good.bnd g).mono fun ds s1 w W1 H1 vs e1 r1 A1 => ?_)
  split at w
  · obtain ⟨x', y', z', rfl, r2, r3, r4⟩ := dvs3 r1
    exact ⟨_, _, _, rfl, w W1 H1 _ e1 ((((er.up e1).put r2 i).put r3 j).put r4 l) A1⟩
  · exact w.elim
/-! ### methods of lists -/
theorem obj_lst {W : Wd} {H : Hp} {s : S} {v : V} {n : Nat} {xs : List P} (r : DV C.K W H v (.obj n)) (A : Abs C.K W s H) (h : s[n]? = some (some (.lst xs))) : ∃ a vs, W.io[n]? = some a ∧ v = .ref a ∧ H a = some (.lst vs) ∧ PVs C.K W.fr H vs xs := by
  obtain ⟨a, h4, rfl⟩ := r
  obtain ⟨a', h5, _, vs, h6, h7⟩ := A.ob n _ h
  rw [h4] at h5
  cases h5
  exact ⟨a, vs, h4, rfl, h6, h7⟩
/-- a method of a list does g -/
def MtS (C : Cf) (k : Nat) (id : String) (g : D → List D → M D) : Prop :=
  ∀ X, Okx C k X → ∃ r, MtR X id r ∧ ∀ W s H x d xs ds Q, DV C.K W H x d → DVs C.K W H xs ds → Abs C.K W s H → Good (g d ds s) (Po C.K W H Q) → r x xs H Q
def metE (g : D → List D → M D) (mo : EF) (ms : List EF) : EF := fun ρ => bnd (mo ρ) fun d s => match its d s with
  | some _ => bnd (evA ms ρ) (g d) s
  | none => .bad
theorem s_met {name : Str} {id : String} {g : D → List D → M D} (pa : PlainAttrs "list") (slot : Slot "list" name id) (hty : typeOf (.builtin id) = pure (.type "method_descriptor")) (hm : MtS C k id g) (ho : SE C sc N k o mo) (ha : SAs C sc N k (e :: es) ms)
    (hb : ∀ env, attributeBase o name env (eval o env) = eval o env := by intro _; rfl)
    (hf : ∀ env, ((backTo cpos (starEach (e :: es) env)).all (fun x => !x.1) && (backToKw cpos (keywordEach [] env)).all (fun x => x.1.isSome) && decide ((e :: es).length + ([] : List Keyword).length + (if ([] : List Keyword).isEmpty then 0 else 1) < 30)) = true := by intro _; rfl)
    (hl : (apos.endLine == cpos.line) = true := by rfl) (hs : ∀ env, starEach (e :: es) env = (false, eval e env) :: starEach es env := by intro _; rfl) (hp : ∀ env, (backTo cpos (starEach es env)).any (·.1) = false := by intro _; rfl) :
    SE C sc N k (.Call (.Attribute o name apos) (e :: es) [] cpos) (metE g mo ms) := fun X ok => by
  obtain ⟨t1, p1, q1⟩ := ho X ok
  obtain ⟨t2, p2, q2⟩ := ha X ok
  obtain ⟨r, p3, q3⟩ := hm X ok.toOkx
  refine ⟨_, pe_bm pa slot hty p3 p1 p2 (hb X.env) (hf X.env) hl (hs X.env) (hp X.env), fun σ H W s ρ Q er A G => ?_⟩
  refine q1 σ H W s ρ _ er A ((Good.bnd G).mono fun d s1 z W1 H1 v e1 r1 A1 => ?_)
  split at z
  · rename_i xs hx
    obtain ⟨a, vs, rfl, h1, h2⟩ := its_sq r1 A1 hx
    refine ⟨by rw [ok.eK]; exact Or.inl ⟨rfl, _, h1⟩, q2 σ H1 W1 s1 ρ _ (er.up e1) A1 ((Good.bnd z).mono fun ds s2 z2 W2 H2 us e2 r2 A2 => ?_)⟩
    exact q3 W2 s2 H2 _ d us ds Q (r1.up e2) r2 A2 (Good.mono z2 fun _ _ w => w.up (e1.trans e2))
  · exact z.elim
theorem s_met0 {name : Str} {id : String} {g : D → List D → M D} (pa : PlainAttrs "list") (slot : Slot "list" name id) (hty : typeOf (.builtin id) = pure (.type "method_descriptor")) (hm : MtS C k id g) (ho : SE C sc N k o mo)
    (hb : ∀ env, attributeBase o name env (eval o env) = eval o env := by intro _; rfl) (hl : (apos.endLine == cpos.line) = true := by rfl) :
    SE C sc N k (.Call (.Attribute o name apos) [] [] cpos) (metE g mo []) := fun X ok => by
  obtain ⟨t1, p1, q1⟩ := ho X ok
  obtain ⟨r, p3, q3⟩ := hm X ok.toOkx
  refine ⟨_, pe_bm0 pa slot hty p3 p1 (hb X.env) hl, fun σ H W s ρ Q er A G => ?_⟩
  refine q1 σ H W s ρ _ er A ((Good.bnd G).mono fun d s1 z W1 H1 v e1 r1 A1 => ?_)
  split at z
  · rename_i xs hx
    obtain ⟨a, vs, rfl, h1, h2⟩ := its_sq r1 A1 hx
    exact ⟨by rw [ok.eK]; exact Or.inl ⟨rfl, _, h1⟩, q3 W1 s1 H1 _ d [] [] Q r1 .nil A1 (Good.mono z fun _ _ w => w.up e1)⟩
  · exact z.elim
theorem put_go {W : Wd} {H : Hp} {s : S} {n : Nat} {a : Addr} {xs ys : List P} {us : List V} {Q : VK} {v : V} {d : D} (A : Abs C.K W s H) (hn : s[n]? = some (some (.lst xs))) (ha : W.io[n]? = some a) (r : PVs C.K W.fr H us ys) (rv : DV C.K W H v d)
    (g : Good (.ok d (s.set n (some (.lst ys)))) (Po C.K W H Q)) : Q v (upd H a (.lst us)) := by
  have ev : Ev W H W (upd H a (.lst us)) := Ev.put (o' := .lst []) A hn ha
  exact g W _ _ ev (rv.up ev) (A.put hn ha ⟨_, upd_same, PVs.up ev r⟩)
def appD : D → List D → M D := fun d ds s => match d, ds with
  | .obj n, [.p x] => match s[n]? with
    | some (some (.lst xs)) => if xs.length < sizeLine then .ok (.p .non) (s.set n (some (.lst (xs ++ [x])))) else .bad
    | _ => .bad
  | _, _ => .bad
theorem m_app : MtS C k "list.append" appD := fun X ok => ⟨_, mt_append, fun W s H x d xs ds Q rx r A g => by
  unfold appD at g
  split at g
  · split at g
    · rename_i hn
      split at g
      · rename_i hl
        obtain ⟨a, vs, ha, rfl, h1, h2⟩ := obj_lst rx A hn
        obtain ⟨y, rfl, hy⟩ := dvs1 r
        exact ⟨a, vs, y, rfl, rfl, h1, by rw [h2.len]; exact hl, put_go A hn ha (h2.app (.cons hy .nil)) (d := .p .non) PV.non g⟩
      · exact g.elim
    · exact g.elim
  · exact g.elim⟩
def extD : D → List D → M D := fun d ds s => match d, ds with
  | .obj n, [e] => match s[n]?, itm e s with
    | some (some (.lst xs)), some ys => if xs.length + ys.length ≤ sizeLine then .ok (.p .non) (s.set n (some (.lst (xs ++ ys)))) else .bad
    | _, _ => .bad
  | _, _ => .bad
theorem m_ext : MtS C k "list.extend" extD := fun X ok => ⟨_, mt_extend, fun W s H x d xs ds Q rx r A g => by
  unfold extD at g
  split at g
  · split at g
    · rename_i hn he
      split at g
      · rename_i hl
        obtain ⟨a, vs, ha, rfl, h1, h2⟩ := obj_lst rx A hn
        obtain ⟨y, rfl, hy⟩ := dvs1 r
        obtain ⟨b, us, rfl, h3, h4⟩ := itm_at hy A he
        exact ⟨a, b, vs, us, rfl, rfl, h1, h3, by rw [h2.len, h4.len]; exact hl, put_go A hn ha (h2.app h4) (d := .p .non) PV.non g⟩
      · exact g.elim
    · exact g.elim
  · exact g.elim⟩
/-! ### while -/
def whN : Nat → TF → SF → SF
  | 0, _, _ => fun _ _ => .bad
  | n + 1, c, b => fun ρ => bnd (c ρ) fun t => if t = true then bnd (b ρ) (fun r => match r with
    | .nx ρ' => whN n c b ρ'
    | .ct ρ' => whN n c b ρ'
    | .bk ρ' => ret (.nx ρ')
    | .rt d => ret (.rt d)) else ret (.nx ρ)
open Classical in
noncomputable def whF (c : TF) (b : SF) : SF := fun ρ s => if h : ∃ n, whN n c b ρ s ≠ .bad then whN (choose h) c b ρ s else .bad
theorem x_while {cnd : Expr} {body : List Stmt} {t : TF} {f : SF} (hc : ST C sc N k cnd t) (hb : SB C sc N k body f) : SS C sc N k (.While cnd body [] pos) (whF t f) := fun X ok => by
  obtain ⟨tc, p, q⟩ := hc X ok.toCok
  obtain ⟨tb, p', q'⟩ := hb X ok
  refine ⟨_, ps_while ok.po p p', fun D σ H W s ρ er A g => ?_⟩
  obtain ⟨n, hn⟩ : ∃ n, Good (whN n t f ρ s) (PoF C W H D) := by
    unfold whF at g
    split at g
    · rename_i h
      exact ⟨_, g⟩
    · exact g.elim
  refine ⟨fun m σ' H' => ∃ W' s' ρ', Ev W H W' H' ∧ ER C W' H' σ' ρ' ∧ Abs C.K W' s' H' ∧ Good (whN m t f ρ' s') (PoF C W' H' D), ⟨n, W, s, ρ, Ev.rfl, er, A, hn⟩, ?_⟩
  rintro m σ1 H1 ⟨W1, s1, ρ1, e1, er1, A1, g1⟩
  cases m with
  | zero => exact g1.elim
  | succ m =>
    refine q σ1 H1 W1 s1 ρ1 _ er1 A1 ((Good.bnd g1).mono fun c s2 z W2 H2 e2 A2 => ?_)
    cases c with
    | false => exact iteF (z W2 H2 σ1 e2 (er1.up e2) A2)
    | true =>
      refine iteT ⟨fun σ' H' => ∃ W' s' ρ', Ev W H W' H' ∧ ER C W' H' σ' ρ' ∧ Abs C.K W' s' H' ∧ Good (whN m t f ρ' s') (PoF C W' H' D), fun σ' H' h => ⟨m, Nat.lt_succ_self m, h⟩, ?_⟩
      refine q' _ σ1 H2 W2 s2 ρ1 (er1.up e2) A2 ((Good.bnd z).mono fun r s3 z3 => ?_)
      cases r with
      | nx ρ' => exact fun W3 H3 σ3 e3 er3 A3 => ⟨W3, s3, ρ', (e1.trans e2).trans e3, er3, A3, Good.mono z3 fun _ _ w => w.up (e2.trans e3)⟩
      | ct ρ' => exact fun W3 H3 σ3 e3 er3 A3 => ⟨W3, s3, ρ', (e1.trans e2).trans e3, er3, A3, Good.mono z3 fun _ _ w => w.up (e2.trans e3)⟩
      | bk ρ' => exact fun W3 H3 σ3 e3 er3 A3 => z3 W3 H3 σ3 (e2.trans e3) er3 A3
      | rt d => exact fun W3 H3 v3 e3 r3 A3 => z3 W3 H3 v3 (e2.trans e3) r3 A3
/-- fuel does no harm -/
theorem whN_up {t : TF} {f : SF} : ∀ (n m : Nat) {ρ : En} {s : S}, n ≤ m → whN n t f ρ s ≠ .bad → whN m t f ρ s = whN n t f ρ s
  | 0, _, _, _, _, h => (h rfl).elim
  | n + 1, 0, _, _, hl, _ => (Nat.not_succ_le_zero n hl).elim
  | n + 1, m + 1, ρ, s, hl, h => by
    unfold whN at h ⊢
    cases ht : t ρ s with
    | bad => rw [bnd_bad ht, bnd_bad ht]
    | exn _ _ => rw [bnd_exn ht, bnd_exn ht]
    | ok b s1 =>
      rw [bnd_ok ht] at h
      rw [bnd_ok ht, bnd_ok ht]
      cases b with
      | false => rfl
      | true =>
        rw [if_pos rfl] at h
        rw [if_pos rfl, if_pos rfl]
        cases hf : f ρ s1 with
        | bad => rw [bnd_bad hf, bnd_bad hf]
        | exn _ _ => rw [bnd_exn hf, bnd_exn hf]
        | ok r s2 =>
          rw [bnd_ok hf] at h
          rw [bnd_ok hf, bnd_ok hf]
          cases r with
          | nx ρ' => exact whN_up n m (Nat.le_of_succ_le_succ hl) h
          | ct ρ' => exact whN_up n m (Nat.le_of_succ_le_succ hl) h
          | bk ρ' => rfl
          | rt d => rfl
theorem whF_of {t : TF} {f : SF} {ρ : En} {s : S} (n : Nat) (h : whN n t f ρ s ≠ .bad) : whF t f ρ s = whN n t f ρ s := by
  have hx : ∃ n, whN n t f ρ s ≠ .bad := ⟨n, h⟩
  unfold whF
  rw [dif_pos hx]
  have hc := Classical.choose_spec hx
  rcases Nat.le_total n (Classical.choose hx) with hl | hl
  · exact whN_up _ _ hl h
  · exact (whN_up _ _ hl hc).symm
/-- one turn of a while -/
theorem whF_eq (t : TF) (f : SF) (ρ : En) : whF t f ρ = bnd (t ρ) fun b => if b = true then bnd (f ρ) (fun r => match r with
    | .nx ρ' => whF t f ρ'
    | .ct ρ' => whF t f ρ'
    | .bk ρ' => ret (.nx ρ')
    | .rt d => ret (.rt d)) else ret (.nx ρ) := by
  funext s
  have key : ∀ n, whN (n + 1) t f ρ s = bnd (t ρ) (fun b => if b = true then bnd (f ρ) (fun r => match r with
    | .nx ρ' => whN n t f ρ'
    | .ct ρ' => whN n t f ρ'
    | .bk ρ' => ret (.nx ρ')
    | .rt d => ret (.rt d)) else ret (.nx ρ)) s := fun n => rfl
  have bads : ∀ ρ' s', (¬ ∃ n, whN n t f ρ' s' ≠ .bad) → whF t f ρ' s' = .bad := fun ρ' s' h => by
    unfold whF
    rw [dif_neg h]
  cases ht : t ρ s with
  | bad =>
    rw [bnd_bad ht]
    refine bads ρ s fun ⟨n, h⟩ => h ?_
    cases n with
    | zero => rfl
    | succ n => rw [key n, bnd_bad ht]
  | exn c s1 =>
    rw [bnd_exn ht]
    have h1 : whN 1 t f ρ s = .exn c s1 := by rw [key 0, bnd_exn ht]
    rw [whF_of 1 (by rw [h1]; exact fun z => nomatch z), h1]
  | ok b s1 =>
    rw [bnd_ok ht]
    cases b with
    | false =>
      have h1 : whN 1 t f ρ s = .ok (.nx ρ) s1 := by rw [key 0, bnd_ok ht]; rfl
      rw [whF_of 1 (by rw [h1]; exact fun z => nomatch z), h1]
      rfl
    | true =>
      rw [if_pos rfl]
      cases hf : f ρ s1 with
      | bad =>
        rw [bnd_bad hf]
        refine bads ρ s fun ⟨n, h⟩ => h ?_
        cases n with
        | zero => rfl
        | succ n => rw [key n, bnd_ok ht, if_pos rfl, bnd_bad hf]
      | exn c s2 =>
        rw [bnd_exn hf]
        have h1 : whN 1 t f ρ s = .exn c s2 := by rw [key 0, bnd_ok ht, if_pos rfl, bnd_exn hf]
        rw [whF_of 1 (by rw [h1]; exact fun z => nomatch z), h1]
      | ok r s2 =>
        rw [bnd_ok hf]
        have step : ∀ n, whN (n + 1) t f ρ s = (match r with
          | .nx ρ' => whN n t f ρ'
          | .ct ρ' => whN n t f ρ'
          | .bk ρ' => ret (.nx ρ')
          | .rt d => ret (.rt d)) s2 := fun n => by rw [key n, bnd_ok ht, if_pos rfl, bnd_ok hf]
        have go : ∀ ρ', (∀ n, whN (n + 1) t f ρ s = whN n t f ρ' s2) → whF t f ρ s = whF t f ρ' s2 := fun ρ' hst => by
          by_cases hx : ∃ n, whN n t f ρ' s2 ≠ .bad
          · obtain ⟨n, hn⟩ := hx
            rw [whF_of (n + 1) (by rw [hst n]; exact hn), hst n, whF_of n hn]
          · rw [bads ρ' s2 hx]
            refine bads ρ s fun ⟨n, h⟩ => ?_
            cases n with
            | zero => exact h rfl
            | succ n => exact hx ⟨n, by rw [← hst n]; exact h⟩
        cases r with
        | nx ρ' => exact go ρ' step
        | ct ρ' => exact go ρ' step
        | bk ρ' =>
          rw [whF_of 1 (by rw [step 0]; exact fun z => nomatch z), step 0]
        | rt d =>
          rw [whF_of 1 (by rw [step 0]; exact fun z => nomatch z), step 0]
end
end CW

end
section
set_option maxRecDepth 100000
set_option maxHeartbeats 2000000
/-! CW, eighth part: what is walked; for; comprehensions. -/
namespace CW
open PySem PySem.Spec PyProof.Rows L2
/-- lists that must stay as they are while they are walked -/
abbrev Gd := List (Nat × List P)
def gok (g : Gd) (s : S) : Prop := ∀ p ∈ g, s[p.1]? = some (some (.lst p.2))
theorem gok_nil (s : S) : gok [] s := fun _ h => nomatch h
def ItOk (K : PySem.W.Frag) (J : It) (W0 : Wd) (H0 : Hp) (xs : List P) (g : Gd) : Prop :=
  ∀ W H s, Ev W0 H0 W H → Abs K W s H → gok g s → ∀ i, (∀ x, xs[i]? = some x → J.go i H ∧ ∀ v H', J.yld i H v H' → Ev W H W H' ∧ PV K W.fr H' v x ∧ Abs K W s H') ∧ (xs.length = i → J.stop i H)
abbrev IF := En → M (List P × Gd)
def SI (C : Cf) (sc : Scope) (N : List Str) (k : Nat) (tg iter : Expr) (m : IF) : Prop :=
  ∀ X, Cok C sc N k X → ∃ t, PI X tg iter t ∧ ∀ σ H W s ρ (R : It → Hp → Prop), ER C W H σ ρ → Abs C.K W s H →
    Good (m ρ s) (fun xg s' => ∀ W' H' J, Ev W H W' H' → Abs C.K W' s' H' → ItOk C.K J W' H' xg.1 xg.2 → R J H') → t σ H R
section
variable {C : Cf} {sc : Scope} {N : List Str} {k : Nat} {pos p2 : Pos} {e a b tg iter : Expr} {m ma mb : EF} {es : List Expr} {ms : List EF} {sts : List Stmt} {f : SF}
/-- a list's address, and how it stands for the walk -/
def rowD : D → S → Option (List P × Gd)
  | .p (.lst xs), _ => some (xs, [])
  | .p (.con xs), _ => some (xs, [])
  | .obj n, s => match s[n]? with
    | some (some (.lst xs)) => some (xs, [(n, xs)])
    | _ => none
  | _, _ => none
def RowOk (K : PySem.W.Frag) (a : Addr) (W0 : Wd) (H0 : Hp) (xs : List P) (g : Gd) : Prop := ∀ W H s, Ev W0 H0 W H → Abs K W s H → gok g s → ∃ vs, SqL K H a vs ∧ PVs K W.fr H vs xs
theorem RowOk.more {K : PySem.W.Frag} {a : Addr} {W0 : Wd} {H0 : Hp} {xs : List P} {g g' : Gd} (h : RowOk K a W0 H0 xs g) (hs : ∀ p ∈ g, p ∈ g') : RowOk K a W0 H0 xs g' := fun W H s e A k => h W H s e A fun p hp => k p (hs p hp)
theorem RowOk.up {K : PySem.W.Frag} {a : Addr} {W0 W1 : Wd} {H0 H1 : Hp} {xs : List P} {g : Gd} (h : RowOk K a W0 H0 xs g) (e : Ev W0 H0 W1 H1) : RowOk K a W1 H1 xs g := fun W H s e1 A k => h W H s (e.trans e1) A k
theorem row_go {W : Wd} {H : Hp} {s : S} {v : V} {d : D} {xs : List P} {g : Gd} (r : DV C.K W H v d) (A : Abs C.K W s H) (h : rowD d s = some (xs, g)) : ∃ a, v = .ref a ∧ (∃ vs, SqL C.K H a vs) ∧ RowOk C.K a W H xs g := by
  cases d with
  | obj n =>
    unfold rowD at h
    dsimp only at h
    split at h
    · rename_i ys hs
      cases h
      obtain ⟨a, h4, rfl⟩ := r
      obtain ⟨a', h5, _, vs, h6, h7⟩ := A.ob n _ hs
      rw [h4] at h5
      cases h5
      refine ⟨a, rfl, ⟨vs, SqL.of h6⟩, fun W1 H1 s1 e A1 hg => ?_⟩
      obtain ⟨a', h5, _, us, h8, h9⟩ := A1.ob n _ (hg (n, xs) List.mem_cons_self)
      obtain ⟨q, hq⟩ := e.io
      rw [hq, List.getElem?_append_left (List.getElem?_eq_some_iff.mp h4).1, h4] at h5
      cases h5
      exact ⟨us, SqL.of h8, h9⟩
    · cases h
  | p z =>
    cases r with
    | lst hf hq hr =>
      cases h
      exact ⟨_, rfl, ⟨_, SqL.of hq⟩, fun W1 H1 s1 e A1 hg => ⟨_, SqL.of (e.fk _ _ hf hq), PVs.up e hr⟩⟩
    | con hq hr =>
      cases h
      exact ⟨_, rfl, ⟨_, hq.sql⟩, fun W1 H1 s1 e A1 hg => ⟨_, (e.cs hq).sql, PVs.up e hr⟩⟩
    | _ => cases h
theorem PVs.len_get {K : PySem.W.Frag} {F : Addr → Prop} {H : Hp} {vs : List V} {xs : List P} {i : Nat} {v : V} {x : P} (h : PVs K F H vs xs) (hx : xs[i]? = some x) (hv : vs[i]? = some v) : PV K F H v x := by
  obtain ⟨u, h1, h2⟩ := h.get hx
  rw [hv] at h1
  cases h1
  exact h2
theorem itl_ok {a : Addr} {W : Wd} {H : Hp} {xs : List P} {g : Gd} (h : RowOk C.K a W H xs g) : ItOk C.K (Itl C.K a) W H xs g := fun W1 H1 s1 e A1 hg i => by
  obtain ⟨vs, h1, h2⟩ := h W1 H1 s1 e A1 hg
  refine ⟨fun x hx => ?_, fun hi => ⟨vs, h1, by rw [h2.len]; exact Nat.le_of_eq hi⟩⟩
  obtain ⟨v, h3, h4⟩ := h2.get hx
  refine ⟨⟨vs, v, h1, h3⟩, fun u H' hy => ?_⟩
  obtain ⟨rfl, hu⟩ := hy
  exact ⟨Ev.rfl, h2.len_get hx (hu vs h1), A1⟩
theorem itt_ok {a : Addr} {W : Wd} {H : Hp} {vs : List V} {xs : List P} (h1 : SqT C.K H a vs) (h2 : PVs C.K W.fr H vs xs) : ItOk C.K (Itt C.K a) W H xs [] := fun W1 H1 s1 e A1 hg i => by
  refine ⟨fun x hx => ?_, fun hi => ⟨vs, e.sqt h1, by rw [h2.len]; exact Nat.le_of_eq hi⟩⟩
  obtain ⟨v, h3, h4⟩ := h2.get hx
  refine ⟨⟨vs, v, e.sqt h1, h3⟩, fun u H' hy => ?_⟩
  obtain ⟨rfl, hu⟩ := hy
  exact ⟨Ev.rfl, (PVs.up e h2).len_get hx (hu vs (e.sqt h1)), A1⟩
theorem pi_or {X : Cx} {t u : TI} (h1 : PI X tg iter t) (h2 : PI X tg iter u) : PI X tg iter (fun σ H R => t σ H R ∨ u σ H R) := ⟨fun pins s σ H R I q => by
  rcases q with q | q
  · exact h1.run pins s σ H R I q
  · exact h2.run pins s σ H R I q⟩
/-- over a list or a tuple -/
def rowI (m : EF) : IF := fun ρ => bnd (m ρ) fun d s => match d with
  | .p (.tup xs) => .ok (xs, []) s
  | d => match rowD d s with
    | some r => .ok r s
    | none => .bad
/-- over a list, over a tuple: said which -/
def lstI (m : EF) : IF := fun ρ => bnd (m ρ) fun d s => match rowD d s with
  | some r => .ok r s
  | none => .bad
def tupI (m : EF) : IF := fun ρ => bnd (m ρ) fun d s => match d with
  | .p (.tup xs) => .ok (xs, []) s
  | _ => .bad
theorem i_lst (h : SE C sc N k e m) : SI C sc N k tg e (lstI m) := fun X ok => by
  obtain ⟨t, p, q⟩ := h X ok
  refine ⟨_, pi_list p, fun σ H W s ρ R er A g => ?_⟩
  refine q σ H W s ρ _ er A ((Good.bnd g).mono fun d s1 z W1 H1 v e1 r1 A1 => ?_)
  split at z
  · rename_i r hr
    obtain ⟨xs, gd⟩ := r
    obtain ⟨a, rfl, h1, h2⟩ := row_go r1 A1 hr
    rw [ok.eK]
    exact ⟨a, rfl, h1, z W1 H1 _ e1 A1 (itl_ok h2)⟩
  · exact z.elim
theorem i_tup (h : SE C sc N k e m) : SI C sc N k tg e (tupI m) := fun X ok => by
  obtain ⟨t, p, q⟩ := h X ok
  refine ⟨_, pi_tup p, fun σ H W s ρ R er A g => ?_⟩
  refine q σ H W s ρ _ er A ((Good.bnd g).mono fun d s1 z W1 H1 v e1 r1 A1 => ?_)
  split at z
  · cases r1 with
    | tup h1 h2 =>
      rw [ok.eK]
      exact ⟨_, rfl, ⟨_, h1⟩, z W1 H1 _ e1 A1 (itt_ok h1 h2)⟩
  · exact z.elim
/-- a name that holds a list or a tuple: asked twice, which is no matter -/
theorem i_row (h : SE C sc N k e m) : SI C sc N k tg e (rowI m) := fun X ok => by
  obtain ⟨t, p, q⟩ := i_lst (tg := tg) h X ok
  obtain ⟨t2, p2, q2⟩ := i_tup (tg := tg) h X ok
  refine ⟨_, pi_or p p2, fun σ H W s ρ R er A g => ?_⟩
  have g1 := Good.bnd g
  cases e1 : m ρ s with
  | bad =>
    rw [e1] at g1
    exact g1.elim
  | exn _ _ =>
    rw [e1] at g1
    exact g1.elim
  | ok d s1 =>
    rw [e1] at g1
    have left : Good (lstI m ρ s) (fun xg s' => ∀ W' H' J, Ev W H W' H' → Abs C.K W' s' H' → ItOk C.K J W' H' xg.1 xg.2 → R J H') → t σ H R ∨ t2 σ H R := fun z => Or.inl (q σ H W s ρ R er A z)
    have right : Good (tupI m ρ s) (fun xg s' => ∀ W' H' J, Ev W H W' H' → Abs C.K W' s' H' → ItOk C.K J W' H' xg.1 xg.2 → R J H') → t σ H R ∨ t2 σ H R := fun z => Or.inr (q2 σ H W s ρ R er A z)
    unfold lstI at left
    unfold tupI at right
    rw [bnd_ok e1] at left right
    cases d with
    | obj n => exact left g1
    | p z =>
      cases z with
      | tup xs => exact right g1
      | _ => exact left g1
/-! range -/
def ranP (lo : Int) (n : Nat) : List P := (List.range n).map fun i => .int (lo + (i : Nat))
theorem ranP_len (lo : Int) (n : Nat) : (ranP lo n).length = n := by
  unfold ranP
  rw [List.length_map, List.length_range]
theorem itr_ok {lo : Int} {n : Nat} {W : Wd} {H : Hp} : ItOk C.K (Itr lo n) W H (ranP lo n) [] := fun W1 H1 s1 e A1 hg i => by
  refine ⟨fun x hx => ?_, fun hi => by rw [ranP_len] at hi; exact Nat.le_of_eq hi⟩
  have hi : i < n := by
    have z := (List.getElem?_eq_some_iff.mp hx).1
    rw [ranP_len] at z
    exact z
  refine ⟨hi, fun u H' hy => ?_⟩
  obtain ⟨rfl, rfl⟩ := hy
  unfold ranP at hx
  rw [List.getElem?_map, List.getElem?_range hi] at hx
  cases hx
  exact ⟨Ev.rfl, .int _, A1⟩
noncomputable def r1I (ms : List EF) : IF := fun ρ => bnd (evA ms ρ) fun ds s => match ds with
  | [.p (.int j)] => @ite _ (-(2 ^ 62) ≤ j ∧ j < 2 ^ 62) (Classical.propDecidable _) (.ok (ranP 0 j.toNat, []) s) .bad
  | _ => .bad
theorem i_r1 (ha : SAs C sc N k [a] ms) (hm : C.mg "range" = none) (hg : GlS sc "range" := by rfl) (hs : ∀ env, starEach [a] env = [(false, eval a env)] := by intro _; rfl) : SI C sc N k tg (.Call (.Name "range" p2) [a] [] pos) (r1I ms) := fun X ok => by
  obtain ⟨t, p, q⟩ := ha X ok
  refine ⟨_, pi_range1 (hg.of ok) (by rw [ok.em]; exact hm) p (hs X.env), fun σ H W s ρ R er A g => ?_⟩
  refine q σ H W s ρ _ er A ((Good.bnd g).mono fun ds s1 z W1 H1 vs e1 r1 A1 => ?_)
  split at z
  · split at z
    · rename_i hb
      obtain ⟨x, rfl, hx⟩ := dvs1 r1
      cases hx
      exact ⟨_, rfl, hb.1, hb.2, z W1 H1 _ e1 A1 itr_ok⟩
    · exact z.elim
  · exact z.elim
noncomputable def r2I (ms : List EF) : IF := fun ρ => bnd (evA ms ρ) fun ds s => match ds with
  | [.p (.int i), .p (.int j)] => @ite _ (-(2 ^ 62) ≤ i ∧ i < 2 ^ 62 ∧ -(2 ^ 62) ≤ j ∧ j < 2 ^ 62) (Classical.propDecidable _) (.ok (ranP i (j - i).toNat, []) s) .bad
  | _ => .bad
theorem i_r2 (ha : SAs C sc N k [a, b] ms) (hm : C.mg "range" = none) (hg : GlS sc "range" := by rfl) (hs : ∀ env, starEach [a, b] env = [(false, eval a env), (false, eval b env)] := by intro _; rfl) (hs2 : ∀ env, starEach [b] env = [(false, eval b env)] := by intro _; rfl) :
    SI C sc N k tg (.Call (.Name "range" p2) [a, b] [] pos) (r2I ms) := fun X ok => by
  obtain ⟨t, p, q⟩ := ha X ok
  refine ⟨_, pi_range2 (hg.of ok) (by rw [ok.em]; exact hm) p (hs X.env) (hs2 X.env), fun σ H W s ρ R er A g => ?_⟩
  refine q σ H W s ρ _ er A ((Good.bnd g).mono fun ds s1 z W1 H1 vs e1 r1 A1 => ?_)
  split at z
  · split at z
    · rename_i hb
      obtain ⟨x, y, rfl, hx, hy⟩ := dvs2 r1
      cases hx
      cases hy
      exact ⟨_, _, rfl, hb, z W1 H1 _ e1 A1 itr_ok⟩
    · exact z.elim
  · exact z.elim
/-! enumerate, zip -/
def enuP (xs : List P) : List P := (List.range xs.length).zipWith (fun i x => .tup [.int (i : Nat), x]) xs
theorem enuP_len (xs : List P) : (enuP xs).length = xs.length := by
  unfold enuP
  rw [List.length_zipWith, List.length_range, Nat.min_self]
theorem enuP_get {xs : List P} {i : Nat} {y : P} (h : (enuP xs)[i]? = some y) : ∃ x, xs[i]? = some x ∧ y = .tup [.int (i : Nat), x] := by
  have hi : i < xs.length := by
    have z := (List.getElem?_eq_some_iff.mp h).1
    rw [enuP_len] at z
    exact z
  unfold enuP at h
  rw [List.getElem?_zipWith, List.getElem?_range hi, List.getElem?_eq_getElem hi] at h
  exact ⟨_, List.getElem?_eq_getElem hi, (Option.some.inj h).symm⟩
theorem ite_ok {a : Addr} {W : Wd} {H : Hp} {xs : List P} {g : Gd} (h : RowOk C.K a W H xs g) : ItOk C.K (Ite C.K a) W H (enuP xs) g := fun W1 H1 s1 e A1 hg i => by
  obtain ⟨vs, h1, h2⟩ := h W1 H1 s1 e A1 hg
  refine ⟨fun y hy => ?_, fun hi => ⟨vs, h1, by rw [h2.len]; rw [enuP_len] at hi; exact Nat.le_of_eq hi⟩⟩
  obtain ⟨x, hx, rfl⟩ := enuP_get hy
  obtain ⟨v, h3, h4⟩ := h2.get hx
  refine ⟨⟨vs, v, h1, h3⟩, fun u H' hu => ?_⟩
  obtain ⟨T, w, rfl, hT, rfl, hw⟩ := hu
  have ev : Ev W1 H1 W1 (upd H1 T (.tup [.int (i : Nat), w])) := Ev.new hT
  exact ⟨ev, .tup (SqT.of upd_same) (.cons (.int _) (.cons (PV.up ev (h2.len_get hx (hw vs h1))) .nil)), A1.new hT⟩
def enuI (m : EF) : IF := fun ρ => bnd (m ρ) fun d s => match rowD d s with
  | some r => .ok (enuP r.1, r.2) s
  | none => .bad
theorem i_enu {elts : List Expr} {kk : Nat} {tpos : Pos} (h : SE C sc N k e m) (hm : C.mg "enumerate" = none) (hg : GlS sc "enumerate" := by rfl) (hs : ∀ env, starEach [e] env = [(false, eval e env)] := by intro _; rfl) (hs2 : ∀ env, starEach [e] env = (false, eval e env) :: starEach [] env := by intro _; rfl) :
    SI C sc N k (.Tuple elts kk tpos) (.Call (.Name "enumerate" p2) [e] [] pos) (enuI m) := fun X ok => by
  obtain ⟨t, p, q⟩ := h X ok
  refine ⟨_, pi_enum (hg.of ok) (by rw [ok.em]; exact hm) (pa_cons p pa_nil (hs2 X.env)) (hs X.env), fun σ H W s ρ R er A g => ?_⟩
  refine q σ H W s ρ _ er A ((Good.bnd g).mono fun d s1 z W1 H1 v e1 r1 A1 => ?_)
  split at z
  · rename_i r hr
    obtain ⟨xs, gd⟩ := r
    obtain ⟨a, rfl, ⟨vs, h1⟩, h2⟩ := row_go r1 A1 hr
    rw [ok.eK]
    exact ⟨a, vs, rfl, h1, z W1 H1 _ e1 A1 (ite_ok h2)⟩
  · exact z.elim
def zipP (xs ys : List P) : List P := xs.zipWith (fun x y => .tup [x, y]) ys
theorem itz_ok {a b : Addr} {W : Wd} {H : Hp} {xs ys : List P} {g : Gd} (h : RowOk C.K a W H xs g) (h' : RowOk C.K b W H ys g) : ItOk C.K (Itz C.K a b) W H (zipP xs ys) g := fun W1 H1 s1 e A1 hg i => by
  obtain ⟨vs, h1, h2⟩ := h W1 H1 s1 e A1 hg
  obtain ⟨us, h3, h4⟩ := h' W1 H1 s1 e A1 hg
  refine ⟨fun z hz => ?_, fun hi => ⟨vs, us, h1, h3, ?_⟩⟩
  · obtain ⟨x, y, hx, hy, rfl⟩ : ∃ x y, xs[i]? = some x ∧ ys[i]? = some y ∧ z = .tup [x, y] := by
      unfold zipP at hz
      rw [List.getElem?_zipWith] at hz
      cases e1 : xs[i]? with
      | none =>
        rw [e1] at hz
        cases hz
      | some x =>
        cases e2 : ys[i]? with
        | none =>
          rw [e1, e2] at hz
          cases hz
        | some y =>
          rw [e1, e2] at hz
          exact ⟨x, y, rfl, rfl, (Option.some.inj hz).symm⟩
    obtain ⟨v, g1, g2⟩ := h2.get hx
    obtain ⟨u, g3, g4⟩ := h4.get hy
    refine ⟨⟨vs, us, v, u, h1, h3, g1, g3⟩, fun w H' hw => ?_⟩
    obtain ⟨T, p, q, rfl, hT, rfl, hp, hq⟩ := hw
    have ev : Ev W1 H1 W1 (upd H1 T (.tup [p, q])) := Ev.new hT
    exact ⟨ev, .tup (SqT.of upd_same) (.cons (PV.up ev (h2.len_get hx (hp vs h1))) (.cons (PV.up ev (h4.len_get hy (hq us h3))) .nil)), A1.new hT⟩
  · unfold zipP at hi
    rw [List.length_zipWith] at hi
    rw [h2.len, h4.len]
    omega
def zipI (ma mb : EF) : IF := fun ρ => bnd (ma ρ) fun x => bnd (mb ρ) fun y s => match rowD x s, rowD y s with
  | some r, some q => .ok (zipP r.1 q.1, r.2 ++ q.2) s
  | _, _ => .bad
theorem i_zip {elts : List Expr} {kk : Nat} {tpos : Pos} (h : SE C sc N k a ma) (h' : SE C sc N k b mb) (hm : C.mg "zip" = none) (hg : GlS sc "zip" := by rfl) (hs : ∀ env, starEach [a, b] env = (false, eval a env) :: starEach [b] env := by intro _; rfl)
    (hs2 : ∀ env, starEach [b] env = (false, eval b env) :: starEach [] env := by intro _; rfl) (hp : ∀ env, (backTo pos (starEach [b] env)).any (·.1) = false := by intro _; rfl) :
    SI C sc N k (.Tuple elts kk tpos) (.Call (.Name "zip" p2) [a, b] [] pos) (zipI ma mb) := fun X ok => by
  obtain ⟨t, p, q⟩ := h X ok
  obtain ⟨t', p', q'⟩ := h' X ok
  refine ⟨_, pi_zip (hg.of ok) (by rw [ok.em]; exact hm) (pa_cons p (pa_cons p' pa_nil (hs2 X.env)) (hs X.env)) (hs X.env) (hp X.env), fun σ H W s ρ R er A g => ?_⟩
  refine q σ H W s ρ _ er A ((Good.bnd g).mono fun d s1 z W1 H1 v e1 r1 A1 => ?_)
  refine q' σ H1 W1 s1 ρ _ (er.up e1) A1 ((Good.bnd z).mono fun d' s2 z2 W2 H2 v' e2 r2 A2 => ?_)
  split at z2
  · rename_i r q hr hq
    obtain ⟨xs, gd⟩ := r
    obtain ⟨ys, gd'⟩ := q
    obtain ⟨a, rfl, ⟨vs, h1⟩, h2⟩ := row_go (r1.up e2) A2 hr
    obtain ⟨b, rfl, ⟨us, h3⟩, h4⟩ := row_go r2 A2 hq
    rw [ok.eK]
    exact ⟨a, b, vs, us, rfl, h1, h3, z2 W2 H2 _ (e1.trans e2) A2 (itz_ok (h2.more fun _ h => List.mem_append_left _ h) (h4.more fun _ h => List.mem_append_right _ h))⟩
  · exact z2.elim
/-! ### for -/
open Classical in
noncomputable def forL (g : Gd) (t : GF) (b : SF) : List P → SF
  | [] => fun ρ s => if gok g s then .ok (.nx ρ) s else .bad
  | x :: xs => fun ρ s => if gok g s then bnd (t (.p x) ρ) (fun ρ1 => bnd (b ρ1) fun r => match r with
    | .nx ρ' => forL g t b xs ρ'
    | .ct ρ' => forL g t b xs ρ'
    | .bk ρ' => ret (.nx ρ')
    | .rt d => ret (.rt d)) s else .bad
noncomputable def forF (i : IF) (t : GF) (b : SF) : SF := fun ρ => bnd (i ρ) fun xg => forL xg.2 t b xg.1 ρ
theorem x_for {i : IF} {t : GF} {pl : List Nat} (hi : SI C sc N k tg iter i) (hg : SG C sc N k tg t pl) (hb : SB C sc N k sts f) (hs : ∀ env x, foldedSetIterable iter env x = pure x := by intro _ _; rfl) : SS C sc N k (.For tg iter sts [] pos) (forF i t f) := fun X ok => by
  obtain ⟨ti, p, q⟩ := hi X ok.toCok
  obtain ⟨tt, p', q'⟩ := hg X ok.toCok
  obtain ⟨tb, p2, q2⟩ := hb X ok
  refine ⟨_, ps_for ok.po ok.calm p p' p2 (hs X.env), fun D σ H W s ρ er A g => ?_⟩
  refine q σ H W s ρ _ er A ((Good.bnd g).mono fun xg s1 z W1 H1 J e1 A1 io => ?_)
  obtain ⟨xs, gd⟩ := xg
  refine ⟨fun i m σ' H' => ∃ W' s' ρ', Ev W1 H1 W' H' ∧ ER C W' H' σ' ρ' ∧ Abs C.K W' s' H' ∧ i + m = xs.length ∧ Good (forL gd t f (xs.drop i) ρ' s') (PoF C W' H' D), ⟨xs.length, W1, s1, ρ, Ev.rfl, er.up e1, A1, by simp, Good.mono z fun _ _ w => w.up e1⟩, ?_⟩
  rintro i m σ2 H2 ⟨W2, s2, ρ2, e2, er2, A2, hm, g2⟩
  by_cases hi : i < xs.length
  · rw [List.drop_eq_getElem_cons hi] at g2
    unfold forL at g2
    split at g2
    · rename_i gk
      obtain ⟨hgo, hy⟩ := (io W2 H2 s2 e2 A2 gk i).1 xs[i] (List.getElem?_eq_getElem hi)
      refine Or.inr ⟨hgo, fun σ' H' => ∃ W' s' ρ', Ev W1 H1 W' H' ∧ ER C W' H' σ' ρ' ∧ Abs C.K W' s' H' ∧ Good (forL gd t f (xs.drop (i + 1)) ρ' s') (PoF C W' H' D), ?_, fun v H3 hv => ?_⟩
      · rintro σ' H' ⟨W', s', ρ', a1, a2, a3, a4⟩
        exact ⟨m - 1, by omega, W', s', ρ', a1, a2, a3, by omega, a4⟩
      · obtain ⟨e3, r3, A3⟩ := hy v H3 hv
        refine q' v _ σ2 H3 W2 s2 ρ2 _ (show DV C.K W2 H3 v (.p xs[i]) from r3) (er2.up e3) A3 ((Good.bnd g2).mono fun ρ1 s4 z4 W4 H4 σ4 e4 er4 A4 _ => ?_)
        refine q2 _ σ4 H4 W4 s4 ρ1 er4 A4 ((Good.bnd z4).mono fun r s5 z5 => ?_)
        have e34 := e3.trans e4
        cases r with
        | nx ρ' => exact fun W5 H5 σ5 e5 er5 A5 => ⟨W5, s5, ρ', (e2.trans e34).trans e5, er5, A5, Good.mono z5 fun _ _ w => w.up (e34.trans e5)⟩
        | ct ρ' => exact fun W5 H5 σ5 e5 er5 A5 => ⟨W5, s5, ρ', (e2.trans e34).trans e5, er5, A5, Good.mono z5 fun _ _ w => w.up (e34.trans e5)⟩
        | bk ρ' => exact fun W5 H5 σ5 e5 er5 A5 => z5 W5 H5 σ5 (e34.trans e5) er5 A5
        | rt d => exact fun W5 H5 v5 e5 r5 A5 => z5 W5 H5 v5 (e34.trans e5) r5 A5
    · exact g2.elim
  · rw [List.drop_eq_nil_of_le (Nat.le_of_not_lt hi)] at g2
    unfold forL at g2
    split at g2
    · rename_i gk
      exact Or.inl ⟨(io W2 H2 s2 e2 A2 gk i).2 (show xs.length = i by omega), g2 W2 H2 σ2 Ev.rfl er2 A2⟩
    · exact g2.elim
end
end CW

end
section
set_option maxRecDepth 100000
set_option maxHeartbeats 2000000
/-! CW, ninth part: comprehensions; slices; defs by their bodies; the end of a law. -/
namespace CW
open PySem PySem.Spec PyProof.Rows L2
section
variable {C : Cf} {sc scope : Scope} {N : List Str} {k : Nat} {pos p2 : Pos} {e a b tg iter elt : Expr} {m ma mb : EF} {es ifs : List Expr} {ms : List EF} {sts : List Stmt} {f : SF}
/-- a list that nobody has seen as yet comes to light -/
theorem own_go {W : Wd} {H : Hp} {s : S} {fr : Bool} {xs : List P} {vs : List V} {Q : VK} {p : Addr} (A : Abs C.K W s H) (hp : H p = some (.lst vs)) (n1 : ¬ W.fr p) (n2 : p ∉ W.io) (n3 : ¬ W.pv p) (r : PVs C.K W.fr H vs xs) (g : Good (mkL fr xs s) (Po C.K W H Q)) : Q (.ref p) H := by
  have there : H p ≠ none := by rw [hp]; exact fun z => nomatch z
  have notb : ∀ a ps, H a = some (.tbl ps) → a ≠ p := fun a ps h e => by
    rw [e, hp] at h
    cases h
  unfold mkL at g
  cases fr with
  | true =>
    rw [if_pos rfl] at g
    have ev : Ev W H (W.keep p) H := ⟨⟨[], by simp [Wd.keep]⟩, fun _ h => Or.inl h, fun _ _ _ h => h, fun _ _ h => h, fun _ _ _ h => h, fun _ h => h, fun _ _ _ h => h, rfl⟩
    refine g (W.keep p) H _ ev (PV.lst (Or.inr rfl) hp (PVs.up ev r)) ⟨A.len, A.nd, A.tr, fun a h => ?_, fun n o h => ?_, fun a h => ⟨(A.pd a h).1, fun z => ?_, (A.pd a h).2.2⟩, A.tt, fun a ps h => ⟨fun z => z.elim (A.tn a ps h).1 fun e => notb a ps h e, (A.tn a ps h).2⟩⟩
    · rcases h with h | h
      · exact A.ft a h
      · rw [h]
        exact there
    · obtain ⟨a, h1, h2, h3⟩ := A.ob n o h
      refine ⟨a, h1, fun z => ?_, OV.up ev rfl h3⟩
      rcases z with z | z
      · exact h2 z
      · exact n2 (by rw [← z]; exact List.mem_of_getElem? h1)
    · rcases z with z | z
      · exact (A.pd a h).2.1 z
      · exact n3 (by rw [← z]; exact h)
  | false =>
    rw [if_neg Bool.false_ne_true] at g
    have ev : Ev W H (W.add p) H := ⟨⟨[p], rfl⟩, fun _ h => h, fun _ _ _ h => h, fun _ _ h => h, fun _ _ _ h => h, fun _ h => h, fun _ _ _ h => h, rfl⟩
    have at_ : (W.add p).io[s.length]? = some p := by
      show (W.io ++ [p])[s.length]? = some p
      rw [← A.len]
      simp
    refine g (W.add p) H _ ev ⟨p, at_, rfl⟩ ⟨by simp [Wd.add, A.len], ?_, fun a h => ?_, A.ft, fun n o h => ?_, fun a h => ⟨(A.pd a h).1, (A.pd a h).2.1, fun z => ?_⟩, A.tt, fun a ps h => ⟨(A.tn a ps h).1, (A.tn a ps h).2.1, fun z => (List.mem_append.mp z).elim (A.tn a ps h).2.2 fun e => notb a ps h (by simpa using e)⟩⟩
    · refine List.nodup_append.mpr ⟨A.nd, by simp, fun a ha b hb e => ?_⟩
      have hb' : b = p := by simpa using hb
      exact n2 (by rw [← hb', ← e]; exact ha)
    · rcases List.mem_append.mp h with h | h
      · exact A.tr a h
      · have e : a = p := by simpa using h
        rw [e]
        exact there
    · by_cases hn : n < s.length
      · rw [List.getElem?_append_left hn] at h
        obtain ⟨a, h1, h2, h3⟩ := A.ob n o h
        refine ⟨a, ?_, h2, OV.up ev rfl h3⟩
        show (W.io ++ [p])[n]? = some a
        rw [List.getElem?_append_left (by rw [A.len]; exact hn)]
        exact h1
      · have hn2 : n = s.length := by
          have h4 := (List.getElem?_eq_some_iff.mp h).1
          simp at h4
          omega
        subst hn2
        have hq : o = .lst xs := by
          simp at h
          exact h.symm
        subst hq
        exact ⟨p, at_, n1, vs, hp, PVs.up ev r⟩
    · rcases List.mem_append.mp z with z | z
      · exact (A.pd a h).2.2 z
      · have e : a = p := by simpa using z
        exact n3 (by rw [← e]; exact h)
def wipE (ρ : En) : List Nat → En
  | [] => ρ
  | v :: vs => (wipE ρ vs).set v none
theorem ER.wip {C : Cf} {W : Wd} {H : Hp} {σ : L2.St} {ρ : En} (h : ER C W H σ ρ) : ∀ vs : List Nat, ER C W H (L2.wipe σ vs) (wipE ρ vs)
  | [] => h
  | v :: vs => ER.wipe (ER.wip h vs) v
theorem wipe_get {σ : L2.St} {j : Nat} : ∀ {vs : List Nat}, (L2.wipe σ vs)[j]? = if j ∈ vs ∧ j < σ.length then some none else σ[j]?
  | [] => by
    rw [if_neg (by simp)]
    rfl
  | v :: vs => by
    have ih := wipe_get (σ := σ) (j := j) (vs := vs)
    show ((L2.wipe σ vs).set v none)[j]? = _
    by_cases hv : v = j
    · subst hv
      by_cases hl : v < σ.length
      · rw [List.getElem?_set_self (by rw [wipe_length]; exact hl), if_pos ⟨List.mem_cons_self, hl⟩]
      · rw [List.getElem?_eq_none (by rw [List.length_set, wipe_length]; omega), if_neg fun z => hl z.2, List.getElem?_eq_none (by omega)]
    · rw [List.getElem?_set_ne hv, ih]
      have e : (j ∈ v :: vs ∧ j < σ.length) = (j ∈ vs ∧ j < σ.length) := by
        rw [List.mem_cons]
        apply propext
        constructor
        · rintro ⟨h | h, h2⟩
          · exact absurd h.symm hv
          · exact ⟨h, h2⟩
        · rintro ⟨h, h2⟩
          exact ⟨Or.inr h, h2⟩
      simp only [e]
theorem wipe_agr {σ σ2 : L2.St} {pl vs : List Nat} (h : Agr pl (L2.wipe σ vs) σ2) (hs : ∀ i ∈ pl, i ∈ vs) : L2.wipe σ2 vs = L2.wipe σ vs := by
  apply List.ext_getElem?
  intro j
  have hl : σ2.length = σ.length := by rw [h.1, wipe_length]
  rw [wipe_get, wipe_get, hl]
  split
  · rfl
  · rename_i hj
    by_cases hm : j ∈ pl
    · have hv := hs j hm
      have hge : ¬ j < σ.length := fun z => hj ⟨hv, z⟩
      rw [List.getElem?_eq_none (by omega), List.getElem?_eq_none (by omega)]
    · rw [h.2 j hm, wipe_get, if_neg hj]
open Classical in
noncomputable def lcL (own : List Nat) (g : Gd) (t : GF) (c : TF) (m : EF) (ρ : En) : List P → M (List P)
  | [] => fun s => if gok g s then .ok [] s else .bad
  | x :: xs => fun s => if gok g s then bnd (t (.p x) (wipE ρ own)) (fun ρ1 => bnd (c ρ1) fun b => if b = true then bnd (m ρ1) (fun d => match d with
      | .p y => bnd (lcL own g t c m ρ xs) fun r => ret (y :: r)
      | .obj _ => bad) else lcL own g t c m ρ xs) s else .bad
noncomputable def lcE (fr : Bool) (i : IF) (own : List Nat) (t : GF) (c : TF) (m : EF) : EF := fun ρ => bnd (i ρ) fun xg s => if xg.1.length ≤ sizeLine then bnd (lcL own xg.2 t c m ρ xg.1) (mkL fr) s else .bad
def yesT : TF := fun _ s => .ok true s
/-- the tests of a comprehension -/
def STs (C : Cf) (sc : Scope) (N : List Str) (k : Nat) (ifs : List Expr) (m : TF) : Prop :=
  ∀ X, Cok C sc N k X → ∃ t, PTs X ifs t ∧ ∀ σ H W s ρ Q, ER C W H σ ρ → Abs C.K W s H → Good (m ρ s) (PoT C.K W H Q) → t σ H Q
theorem c_yes : STs C sc N k [] yesT := fun X ok => ⟨_, pts_nil, fun σ H W s ρ Q er A g => g W H Ev.rfl A⟩
theorem c_if {t : TF} (h : ST C sc N k e t) : STs C sc N k [e] t := fun X ok => by
  obtain ⟨u, p, q⟩ := h X ok
  exact ⟨_, pts_one p, q⟩
abbrev Bx := Shared × Hp × Addr × List (Str × Addr) × List Addr
abbrev inB (X : Cx) (scope : Scope) (i : Bx) : Cx := X.blk i.1 i.2.1 scope (compEnvC scope i.2.2.2.1 i.2.2.1 X.env) i.2.2.2.2
theorem free_relS {sc : Scope} : ∀ {names : List (Str × NameKind)} {x : Str}, names.lookup x = some .free →
    (names.map fun (n, k) => if (k == NameKind.free && sc.kind == .function && sc.names.lookup n == some .cell) then (n, NameKind.cell) else (n, k)).lookup x = some .cell ∨
    (names.map fun (n, k) => if (k == NameKind.free && sc.kind == .function && sc.names.lookup n == some .cell) then (n, NameKind.cell) else (n, k)).lookup x = some .free
  | [], _, h => by simp at h
  | (n, k0) :: r, x, h => by
    have ih := @free_relS sc r x
    rw [List.map_cons]
    cases hx : x == n with
    | true =>
      simp only [List.lookup_cons, hx] at h
      cases h
      dsimp only
      split
      · exact Or.inl (by simp only [List.lookup_cons, hx])
      · exact Or.inr (by simp only [List.lookup_cons, hx])
    | false =>
      simp only [List.lookup_cons, hx] at h
      dsimp only
      split
      · simp only [List.lookup_cons, hx]
        exact ih h
      · simp only [List.lookup_cons, hx]
        exact ih h
theorem blk_lik {es : Scope} {own : List (Str × Nat)} (h : BlkOk N sc scope own) (l : Lik sc es) : BlkOk N es scope own :=
  ⟨h.kind, h.uniq, h.ix, fun y hy e => by
    rcases h.free y hy e with z | z
    · exact Or.inl (l.cel _ z)
    · exact l.fre _ z, h.own⟩
theorem blk_ok {X : Cx} (ok : Cok C sc N k X) (i : Bx) : Cok C scope N k (inB X scope i) where
  pr := ok.pr
  ew := ok.ew
  eK := ok.eK
  em := ok.em
  eb := ok.eb
  calm := ok.calm
  rm := ok.rm
  gd := ok.gd
  nN := ok.nN
  nd := ok.nd
  eL := {
    loc := fun x h => lookup_relS_keep (by decide) h
    cel := fun x h => lookup_relS_keep (by decide) h
    fre := fun x h => free_relS h
    glo := fun x h => lookup_relS_keep (by decide) h }
  po := PassesOwn.never
  fc := fun x h => by
    show (scope.names.lookup x == some .cell) = true
    rw [h]
    rfl
  cq := ok.cq
theorem uni_e {X : Cx} (ok : Cok C sc N k X) (h : SE C scope N k e m) : ∃ t, (∀ i, PE (inB X scope i) e t) ∧ ∀ σ H W s ρ Q, ER C W H σ ρ → Abs C.K W s H → Good (m ρ s) (Po C.K W H Q) → t σ H Q := by
  have hb := fun i => h (inB X scope i) (blk_ok ok i)
  exact ⟨fun σ H Q => ∀ i, Classical.choose (hb i) σ H Q, fun i => ⟨fun pins s σ H Q I w => (Classical.choose_spec (hb i)).1.run pins s σ H Q I (w i)⟩, fun σ H W s ρ Q er A g i => (Classical.choose_spec (hb i)).2 σ H W s ρ Q er A g⟩
theorem uni_t {X : Cx} {c : TF} (ok : Cok C sc N k X) (h : STs C scope N k ifs c) : ∃ t, (∀ i, PTs (inB X scope i) ifs t) ∧ ∀ σ H W s ρ Q, ER C W H σ ρ → Abs C.K W s H → Good (c ρ s) (PoT C.K W H Q) → t σ H Q := by
  have hb := fun i => h (inB X scope i) (blk_ok ok i)
  exact ⟨fun σ H Q => ∀ i, Classical.choose (hb i) σ H Q, fun i => ⟨fun pins s σ H Q I w => (Classical.choose_spec (hb i)).1.run pins s σ H Q I (w i)⟩, fun σ H W s ρ Q er A g i => (Classical.choose_spec (hb i)).2 σ H W s ρ Q er A g⟩
theorem uni_g {X : Cx} {g : GF} {pl : List Nat} (ok : Cok C sc N k X) (h : SG C scope N k tg g pl) : ∃ t, (∀ i, PG (inB X scope i) tg t) ∧ ∀ v d σ H W s ρ Q, DV C.K W H v d → ER C W H σ ρ → Abs C.K W s H → Good (g d ρ s) (PoG C W H pl σ Q) → t v σ H Q := by
  have hb := fun i => h (inB X scope i) (blk_ok ok i)
  exact ⟨fun v σ H Q => ∀ i, Classical.choose (hb i) v σ H Q, fun i => ⟨fun pins s σ H v u Q I r w => (Classical.choose_spec (hb i)).1.run pins s σ H v u Q I r (w i)⟩, fun v d σ H W s ρ Q r er A g i => (Classical.choose_spec (hb i)).2 v d σ H W s ρ Q r er A g⟩
theorem upd_id {H : Hp} {p : Addr} {o : HO} (h : H p = some o) : upd H p o = H := by
  funext b
  by_cases e : b = p
  · rw [e, upd_same, h]
  · rw [upd_ne e]
theorem lc_go {i : IF} {own : List Nat} {pl : List Nat} {t : GF} {c : TF} {fr : Bool} {ti : TI} {tt : TG} {tc : TT} {te : TE} {σ : L2.St} {H : Hp} {W : Wd} {s : S} {ρ : En} {Q : VK}
    (q : ∀ σ H W s ρ (R : It → Hp → Prop), ER C W H σ ρ → Abs C.K W s H → Good (i ρ s) (fun xg s' => ∀ W' H' J, Ev W H W' H' → Abs C.K W' s' H' → ItOk C.K J W' H' xg.1 xg.2 → R J H') → ti σ H R)
    (q1 : ∀ v d σ H W s ρ Q, DV C.K W H v d → ER C W H σ ρ → Abs C.K W s H → Good (t d ρ s) (PoG C W H pl σ Q) → tt v σ H Q) (hpl : ∀ i ∈ pl, i ∈ own)
    (q2 : ∀ σ H W s ρ Q, ER C W H σ ρ → Abs C.K W s H → Good (c ρ s) (PoT C.K W H Q) → tc σ H Q) (q3 : ∀ σ H W s ρ Q, ER C W H σ ρ → Abs C.K W s H → Good (m ρ s) (Po C.K W H Q) → te σ H Q)
    (er : ER C W H σ ρ) (A : Abs C.K W s H) (g : Good (lcE fr i own t c m ρ s) (Po C.K W H Q)) : tLc ti tt tc te own σ H Q := by
  refine q σ H W s ρ _ er A ((Good.bnd g).mono fun xg s1 z W1 H1 J e1 A1 io => ?_)
  obtain ⟨xs, gd⟩ := xg
  have z : Good (if xs.length ≤ sizeLine then bnd (lcL own gd t c m ρ xs) (mkL fr) s1 else .bad) (Po C.K W H Q) := z
  split at z
  · rename_i hsz
    intro D hD
    have io : ItOk C.K J W1 H1 xs gd := io
    have nD1 : ¬ W1.fr D := fun z => A1.ft D z hD
    have nD2 : D ∉ W1.io := fun z => A1.tr D z hD
    have nD3 : ¬ W1.pv D := fun z => A1.pn z hD
    refine ⟨fun i m' H' => ∃ W' s' acc ys, Ev W1 H1 W' H' ∧ ¬ W'.fr D ∧ D ∉ W'.io ∧ ¬ W'.pv D ∧ H' D = some (.lst acc) ∧ PVs C.K W'.fr H' acc ys ∧ Abs C.K W' s' H' ∧ i + m' = xs.length ∧ ys.length ≤ i ∧
      Good (lcL own gd t c m ρ (xs.drop i) s') (fun r s2 => Good (mkL fr (ys ++ r) s2) (Po C.K W' H' Q)), ⟨xs.length, W1, s1, [], [], Ev.new hD, nD1, nD2, nD3, upd_same, .nil, A1.new hD, by simp, Nat.le_refl _, ?_⟩, ?_⟩
    · exact (Good.bnd z).mono fun r s2 w => Good.mono w fun _ _ w2 => w2.up (e1.trans (Ev.new hD))
    rintro i m' H2 ⟨W2, s2, acc, ys, e2, f1, f2, f3, hd, ra, A2, hm, hy, g2⟩
    have hid : Ev W2 H2 (W2.hide D) H2 := Ev.hide
    have Ah : Abs C.K (W2.hide D) s2 H2 := A2.hide ⟨_, hd⟩ f1 f2
    by_cases hi : i < xs.length
    · rw [List.drop_eq_getElem_cons hi] at g2
      unfold lcL at g2
      split at g2
      · rename_i gk
        obtain ⟨hgo, hyl⟩ := (io (W2.hide D) H2 s2 (e2.trans hid) Ah gk i).1 xs[i] (List.getElem?_eq_getElem hi)
        refine Or.inr ⟨hgo, fun H' => ∃ W' s' acc ys, Ev W1 H1 W' H' ∧ ¬ W'.fr D ∧ D ∉ W'.io ∧ ¬ W'.pv D ∧ H' D = some (.lst acc) ∧ PVs C.K W'.fr H' acc ys ∧ Abs C.K W' s' H' ∧ ys.length ≤ i + 1 ∧
          Good (lcL own gd t c m ρ (xs.drop (i + 1)) s') (fun r s2 => Good (mkL fr (ys ++ r) s2) (Po C.K W' H' Q)), ?_, fun v H3 hv => ?_⟩
        · rintro H' ⟨W', s', acc', ys', b1, b2, b3, b4, b5, b6, b7, b8, b9⟩
          exact ⟨m' - 1, by omega, W', s', acc', ys', b1, b2, b3, b4, b5, b6, b7, by omega, b8, b9⟩
        · obtain ⟨e3, r3, A3⟩ := hyl v H3 hv
          have er3 : ER C (W2.hide D) H3 (L2.wipe σ own) (wipE ρ own) := ER.wip (er.up (e1.trans (e2.trans (hid.trans e3)))) own
          refine q1 v _ _ H3 _ s2 _ _ (show DV C.K (W2.hide D) H3 v (.p xs[i]) from r3) er3 A3 ((Good.bnd g2).mono fun ρ1 s4 z4 W4 H4 σ4 e4 er4 A4 ag => ?_)
          refine ⟨wipe_agr ag hpl, q2 σ4 H4 W4 s4 ρ1 _ er4 A4 ((Good.bnd z4).mono fun bb s5 z5 W5 H5 e5 A5 => ?_)⟩
          cases bb with
          | true =>
            rw [if_pos rfl] at z5
            refine iteT (q3 σ4 H5 W5 s5 ρ1 _ (er4.up e5) A5 ((Good.bnd z5).mono fun d s6 z6 W6 H6 y e6 r6 A6 => ?_))
            have e36 : Ev (W2.hide D) H2 W6 H6 := e3.trans (e4.trans (e5.trans e6))
            have hd6 : H6 D = some (.lst acc) := e36.pk D _ (Or.inr rfl) hd
            have pp : W6.pv D := e36.pv D (Or.inr rfl)
            cases d with
            | obj n => exact z6.elim
            | p y' =>
              have hal : acc.length < sizeLine := by rw [ra.len]; omega
              have ev : Ev W2 H2 (W6.show D) (upd H6 D (.lst (acc ++ [y]))) := Ev.grow e36 f3 A6 ⟨acc, hd6⟩
              obtain ⟨ev6, A7⟩ := Abs.grow (u := .lst (acc ++ [y])) A6 pp ⟨acc, hd6⟩
              have r6' : PV C.K (W6.show D).fr H6 y y' := r6
              refine ⟨acc, hd6, hal, W6.show D, s6, acc ++ [y], ys ++ [y'], e2.trans ev, (A6.pd D pp).2.1, (A6.pd D pp).2.2, fun z => z.2 rfl, upd_same, (PVs.up ev ra).app (.cons (PV.up ev6 r6') .nil), A7, by rw [List.length_append]; simp only [List.length_singleton]; omega, ?_⟩
              refine (Good.bnd z6).mono fun r s7 w => ?_
              rw [List.append_assoc]
              exact Good.mono w fun _ _ w2 => w2.up ev
          | false =>
            rw [if_neg Bool.false_ne_true] at z5
            refine iteF ?_
            have e35 : Ev (W2.hide D) H2 W5 H5 := e3.trans (e4.trans e5)
            have hd5 : H5 D = some (.lst acc) := e35.pk D _ (Or.inr rfl) hd
            have pp : W5.pv D := e35.pv D (Or.inr rfl)
            have ev : Ev W2 H2 (W5.show D) (upd H5 D (.lst acc)) := Ev.grow e35 f3 A5 ⟨acc, hd5⟩
            obtain ⟨ev5, A7⟩ := Abs.grow (u := .lst acc) A5 pp ⟨acc, hd5⟩
            rw [upd_id hd5] at ev A7
            exact ⟨W5.show D, s5, acc, ys, e2.trans ev, (A5.pd D pp).2.1, (A5.pd D pp).2.2, fun z => z.2 rfl, hd5, PVs.up ev ra, A7, by omega, Good.mono z5 fun _ _ w => Good.mono w fun _ _ w2 => w2.up ev⟩
      · exact g2.elim
    · rw [List.drop_eq_nil_of_le (Nat.le_of_not_lt hi)] at g2
      unfold lcL at g2
      split at g2
      · rename_i gk
        have g3 : Good (mkL fr (ys ++ []) s2) (Po C.K W2 H2 Q) := g2
        rw [List.append_nil] at g3
        exact Or.inl ⟨(io W2 H2 s2 e2 A2 gk i).2 (show xs.length = i by omega), own_go A2 hd f1 f2 f3 ra g3⟩
      · exact g2.elim
  · exact z.elim
theorem s_lc (fr : Bool) (own : List (Str × Nat)) {i : IF} {t : GF} {c : TF} {pl : List Nat} (hi : SI C sc N k tg iter i) (hg : SG C scope N k tg t pl) (ht : STs C scope N k ifs c) (he : SE C scope N k elt m) (hpl : ∀ i ∈ pl, i ∈ own.map (·.2) := by decide)
    (bk : blkC N sc scope own = true := by decide +kernel) (hs : ∀ env x, foldedSetIterable iter env x = pure x := by intro _ _; rfl) : SE C sc N k (.ListComp elt [⟨tg, iter, ifs, 0⟩] scope pos) (lcE fr i (own.map (·.2)) t c m) := fun X ok => by
  obtain ⟨ti, p, q⟩ := hi X ok
  obtain ⟨tt, p1, q1⟩ := uni_g ok hg
  obtain ⟨tc, p2, q2⟩ := uni_t ok ht
  obtain ⟨te, p3, q3⟩ := uni_e ok he
  refine ⟨_, pe_lc ok.calm (by rw [ok.nN]; exact ok.nd) p (by rw [ok.nN]; exact blk_lik (blkOk_by bk) ok.eL) (fun s H C cl fp => p1 (s, H, C, cl, fp)) (fun s H C cl fp => p2 (s, H, C, cl, fp)) (fun s H C cl fp => p3 (s, H, C, cl, fp)) (hs X.env), fun σ H W s ρ Q er A g => ?_⟩
  exact lc_go q q1 hpl q2 q3 er A g
/-- y = [..] on one line -/
theorem x_lc (j : Nat) (fr : Bool) (own : List (Str × Nat)) {y : Str} {py spos : Pos} {i : IF} {t : GF} {c : TF} {pl : List Nat} (hi : SI C sc N k tg iter i) (hg : SG C scope N k tg t pl) (ht : STs C scope N k ifs c) (he : SE C scope N k elt m) (hy : N[j]? = some y := by rfl)
    (hyl : sc.names.lookup y = some .local := by rfl) (hk : sc.kind = .function := by rfl) (hl : (py.line == pos.line) = true := by rfl) (hn : (scope.names.any fun (n, k) => n == y && (k == .local || k == .cell)) = false := by decide +kernel)
    (hpl : ∀ i ∈ pl, i ∈ own.map (·.2) := by decide) (bk : blkC N sc scope own = true := by decide +kernel) (hs : ∀ env x, foldedSetIterable iter env x = pure x := by intro _ _; rfl) :
    SS C sc N k (.Assign [.Name y py] (.ListComp elt [⟨tg, iter, ifs, 0⟩] scope pos) spos) (asgF (lcE fr i (own.map (·.2)) t c m) (setG j)) := fun X ok => by
  obtain ⟨ti, p, q⟩ := hi X ok.toCok
  obtain ⟨tt, p1, q1⟩ := uni_g ok.toCok hg
  obtain ⟨tc, p2, q2⟩ := uni_t ok.toCok ht
  obtain ⟨te, p3, q3⟩ := uni_e ok.toCok he
  refine ⟨_, ps_setLc (i := j) ok.calm (by rw [ok.nN]; exact ok.nd) (by rw [ok.nN]; exact hy) (by rw [ok.eS]; exact hyl) (sw_true (by rw [ok.eS]; exact hk) (by rw [ok.eS]; exact hyl) hl hn) p (by rw [ok.nN]; exact blk_lik (blkOk_by bk) ok.eL) (fun s H C cl fp => p1 (s, H, C, cl, fp)) (fun s H C cl fp => p2 (s, H, C, cl, fp))
    (fun s H C cl fp => p3 (s, H, C, cl, fp)) (hs X.env), fun D σ H W s ρ er A g => ?_⟩
  refine lc_go q q1 hpl q2 q3 er A ((Good.bnd g).mono fun d s1 z W1 H1 v e1 r1 A1 => ?_)
  exact z W1 H1 _ e1 ((er.up e1).put r1 j) A1
/-- a def whose defaults don't matter -/
structure FunA (K : PySem.W.Frag) (x qual : Str) (st : Stmt) (f : Addr) (fd : FuncData) (dV : Value) : Prop where
  ex : ∃ (oc : Value) (od : Option Addr) (kV doc pm : Value) (an : Option Addr) (cdv ct : Value) (osl : Array (Option Value)),
    fd = PySem.W.fnOf x qual (defArgs st) (defBody st) (defScope st) dV kV doc pm an cdv ct ∧ K.lookup f = some ⟨oc, od, .func fd, osl⟩ ∧ PySem.W.codeIn K cdv qual = true
  kp : PySem.W.keepIn K (.ref f) = true
theorem FunA.of {K : PySem.W.Frag} {x qual : Str} {st : Stmt} {f : Addr} {fd : FuncData} (F : Fun K x qual st f fd) : FunA K x qual st f fd .none := ⟨F.ex, F.kp⟩
/-! ### a def by its body -/
open Classical in
/-- what is left of the state behind a def -/
noncomputable def fin (s : S) : D → M D
  | .p x, s' => if Keeps s s' then .ok (.p x) (s'.take s.length) else .bad
  | .obj n, s' => if n < s.length then (if Keeps s s' then .ok (.obj n) (s'.take s.length) else .bad) else .ok (.obj n) s'
noncomputable def defM (n nl : Nat) (m : SF) : List D → M D := fun ds s => if ds.length = n then (match m (ds.map some ++ List.replicate (nl - n) none) s with
  | .ok (.rt d) s' => fin s d s'
  | .ok (.nx _) s' => fin s (.p .non) s'
  | .exn c s' => .exn c s'
  | _ => .bad) else .bad
open Classical in
theorem fin_go {W W' : Wd} {H H' : Hp} {s s' : S} {d : D} {v : V} {Q : VK} (A : Abs C.K W s H) (e : Ev W H W' H') (r : DV C.K W' H' v d) (A' : Abs C.K W' s' H') (g : Good (fin s d s') (Po C.K W H Q)) : Q v H' := by
  cases d with
  | p x =>
    have g : Good (if Keeps s s' then .ok (.p x) (s'.take s.length) else .bad) (Po C.K W H Q) := g
    by_cases hk : Keeps s s'
    · rw [if_pos hk] at g
      exact g _ H' v e.cut (show DV C.K ⟨W.io, W'.fr, W'.pv, W'.tb⟩ H' v (.p x) from r) (A.cut e A' hk)
    · rw [if_neg hk] at g
      exact g.elim
  | obj n =>
    have g : Good (if n < s.length then (if Keeps s s' then .ok (.obj n) (s'.take s.length) else .bad) else .ok (.obj n) s') (Po C.K W H Q) := g
    by_cases hn : n < s.length
    · rw [if_pos hn] at g
      by_cases hk : Keeps s s'
      · rw [if_pos hk] at g
        obtain ⟨q, hq⟩ := e.io
        refine g _ H' v e.cut (DV.old (n := 0) r hq fun m hm => ?_) (A.cut e A' hk)
        cases hm
        rw [A.len]
        exact hn
      · rw [if_neg hk] at g
        exact g.elim
    · rw [if_neg hn] at g
      exact g W' H' v e r A'
theorem start_er {W : Wd} {H : Hp} {vs : List V} {ds : List D} {n : Nat} (r : DVs C.K W H vs ds) (hT : W.tb = C.tb) (hl : vs.length = n) : ER C W H (L2.start N vs) (ds.map some ++ List.replicate (N.length - n) none) := by
  have h1 := Paired.length r
  unfold L2.start
  refine ⟨by simp only [List.length_append, List.length_map, List.length_replicate, h1, ← hl], fun i d hd => ?_, hT⟩
  by_cases hi : i < ds.length
  · rw [List.getElem?_append_left (by simpa using hi), List.getElem?_map, List.getElem?_eq_getElem hi] at hd
    have hd' : ds[i] = d := Option.some.inj (Option.some.inj hd)
    rw [List.getElem?_append_left (by rw [List.length_map]; omega), List.getElem?_map]
    have key : ∀ {vs : List V} {ds : List D} {i : Nat} {d : D}, DVs C.K W H vs ds → ds[i]? = some d → ∃ v, vs[i]? = some v ∧ DV C.K W H v d := by
      intro vs ds i d hr
      induction hr generalizing i with
      | nil => intro z; simp at z
      | cons hh _ ih =>
        intro z
        cases i with
        | zero =>
          simp at z
          subst z
          exact ⟨_, rfl, hh⟩
        | succ i =>
          obtain ⟨v, a1, a2⟩ := ih (by simpa using z)
          exact ⟨v, by simpa using a1, a2⟩
    obtain ⟨v, a1, a2⟩ := key r (List.getElem?_eq_getElem hi)
    exact ⟨v, by rw [a1]; rfl, by rw [← hd']; exact a2⟩
  · rw [List.getElem?_append_right (by simpa using Nat.le_of_not_lt hi), List.getElem?_replicate] at hd
    split at hd <;> cases hd
theorem fn_body {x qual : Str} {st : Stmt} {f : Addr} {fd : FuncData} {dV : Value} {ps : List Str} {m : SF} (F : FunA C.K x qual st f fd dV) (Sc : FnScope N ps (defScope st)) (hb : SB C (defScope st) N k (defBody st) m) (hX : C.ex = fun _ => True) (hq : ∀ v q, C.cq = some (v, q) → v = fd.code ∧ q = qual ++ ".<locals>.") : Fn C (k + 1) f fd ps (spM C ps.length (defM ps.length N.length m)) := by
  obtain ⟨oc, od, kV, doc, pm, an, cdv, ct, osl, rfl, lk, hcd⟩ := F.ex
  refine ⟨fun vs H Q E h => h.1, fun A outer s H args us vs Q E hr hgd e0 bd r hsp => ?_⟩
  have hl : vs.length = ps.length := hsp.1
  have kin : C.K.In s.heap := e0.mod.kin.keeps fun b o e => (e0.bs b o e).1
  have lim : s.heap.NoLimit := e0.mod.nolimit.keeps fun b o e => (e0.bs b o e).1
  refine codeAny_call_function hr.depth (kin _ _ lk) rfl Sc.co Sc.gen rfl (PySem.W.codeRec_of kin hcd) (bd _ _ _ _ ?_)
  refine wpAny_newFunctionEnv_cells Sc.kind (fun y hy => ?_) fun env he s1 ic => ?_
  · rcases Sc.par y.1 (List.of_mem_zip (show (y.1, y.2) ∈ ps.zip us from hy)).1 with q | q
    · exact Or.inl q
    · exact Or.inr ⟨q, PySem.W.cellsFrom_some _ _ _ (Or.inl q)⟩
  · subst he
    refine ⟨lim.keeps ic.toInCall.keep, codeAny_func ?_⟩
    have I : Inv (cxOf CX0 C.pg C.w C.K C.mg C.base N qual (defScope st) f cdv A outer s H E) [] (L2.start N vs) H s1 := inv_start Sc hr.hd e0 hl r ic
    have cod : Cod C (defScope st) N k (cxOf CX0 C.pg C.w C.K C.mg C.base N qual (defScope st) f cdv A outer s H E).nox :=
      { pr := rfl, ew := rfl, eK := rfl, em := rfl, eb := rfl, calm := rfl, rm := hr.deeper _, gd := hgd, nN := rfl, nd := Sc.nd, eL := Lik.rfl, po := PassesOwn.never, fc := fun _ _ => rfl, eS := rfl, sk := rfl, fm := rfl, nx := rfl, cx := by rw [hX]; trivial, cq := fun v q h => ⟨(hq v q h).1.symm, (hq v q h).2.symm⟩ }
    obtain ⟨t, p, q⟩ := hb _ cod
    obtain ⟨_, W, s0, ds, rd, hT, A0, g⟩ := hsp
    have hds : ds.length = ps.length := by rw [← Paired.length rd]; exact hl
    unfold defM at g
    rw [if_pos hds] at g
    have end_ : ∀ {d : D} {s' : S}, Good (fin s0 d s') (Po C.K W H Q) → Po C.K W H Q d s' := fun {d s'} h W' H' v e rv A' => fin_go A0 e rv A' h
    have run := q { nx := fun _ H' => Q .non H', rt := Q } (L2.start N vs) H W s0 _ (start_er rd hT hl) A0 (by
      cases e : m (ds.map some ++ List.replicate (N.length - ps.length) none) s0 with
      | bad =>
        rw [e] at g
        exact g
      | exn _ _ =>
        rw [e] at g
        exact g
      | ok fl s' =>
        rw [e] at g
        cases fl with
        | rt d => exact end_ g
        | nx ρ => exact fun W' H' σ' ev er A' => end_ (d := .p .non) g W' H' .non ev PV.non A'
        | bk ρ => exact g.elim
        | ct ρ => exact g.elim)
    refine wpAny_mono (p.nox.run [] s1 (L2.start N vs) H _ I run) (fun fl s' hs => ?_) fun e s' hs => hs
    have done : ∀ {σ' : L2.St} {H' : Hp} {v : V} {u : Value}, Inv (cxOf CX0 C.pg C.w C.K C.mg C.base N qual (defScope st) f cdv A outer s H E) [] σ' H' s' → RelV v u → Q v H' → CE outer C.pg C.w H s Q u s' :=
      fun {σ' H' v u} J rv w => ⟨v, H', J.os, J.bare, J.base, J.hok, rv, w⟩
    match fl, hs with
    | .ret u, ⟨v, σ', H', J, rv, w⟩ => exact done J rv w
    | .next, ⟨σ', H', J, w⟩ => exact done (v := V.non) (u := Value.none) J rfl w
    | .brk, ⟨_, _, _, w⟩ => exact False.elim w
    | .cont, ⟨_, _, _, w⟩ => exact False.elim w
end
/-! ### the law's own call -/
/-- the setting of a law's defs -/
abbrev cfL (P : Program) (w : World) (K : PySem.W.Frag) (mg : Str → Option Value) (base : Heap) (tb : List (Addr × Str)) : Cf := ⟨P, w, K, mg, base, true, fun _ => True, tb, none⟩
/-- the defs that make lambdas: code object, table, the lambdas' name -/
abbrev Mks := List (Addr × Addr × Str)
def Mks.tb (ms : Mks) : List (Addr × Str) := ms.map (·.2)
structure MkK (K : PySem.W.Frag) (ms : Mks) : Prop where
  hd : ∀ p ∈ ms, PySem.W.codeHdIn K p.1 p.2.1 = true
  no : ∀ p ∈ ms, K.lookup p.2.1 = none
def TabF (ms : Mks) (mg : Str → Option Value) (base : Heap) : Prop := ∀ p ∈ ms, LamX.TabB base mg p.1 p.2.1
section
variable {P₀ : Program} {w : World} {K : PySem.W.Frag} {mg mb : Str → Option Value}
/-- one way that the script may lie -/
theorem law_way {k : Nat} {fa a : Addr} {fd : FuncData} {x : Str} {m : List D → M D} {s1 : Shared} {ns : List Int} {H : Hp} {ms : Mks} (KX : K.In s1.heap) (hns : s1.heap.Ns mainGlobals mg) (hb : s1.heap.Ns builtinsNs mb) (hbb : ∀ x : Str, x ≠ "__name__" → mb x = bootBuiltins x)
    (hlim : s1.heap.NoLimit) (hg : s1.gens = #[]) (hr : Room k callerA) (MK : MkK K ms) (hT : ∀ p ∈ ms, s1.heap.get? p.2.1 = some (PySem.W.tabObj #[]))
    (hbm : ∃ (bm : Addr) (ob : Obj), mg "__builtins__" = some (.ref bm) ∧ bm ≠ builtinsNs ∧ s1.heap.get? bm = some ob ∧ ob.cls = .type "module" ∧ ob.dict = some builtinsNs ∧ ob.data = .plain)
    (F : ∀ base : Heap, TabF ms mg base → Fn (cfL P₀ w K mg base ms.tb) k fa fd [x] (spM (cfL P₀ w K mg base ms.tb) 1 m)) (hbind : ∀ (s : Shared) (u : Value), BindsTo s fd ⟨[u], []⟩ [(x, u)])
    (hm : ∃ s', m [.p (.con (ns.map P.int))] [] = .ok (.p (.bl true)) s') (hS : CS K H a (ns.map V.int)) (hok : HOk P₀ w H s1.heap) (hHt : ∀ p ∈ ms, H p.2.1 = some (.tbl #[]))
    (hH : ∀ b u, H b = some u → K.lookup b = none ∧ ((∃ o xs vs n, u = .frz o (.lst xs) ∧ s1.heap.get? b = some o ∧ o.data = .seq vs n) ∨ (u = .tbl #[] ∧ ∃ p ∈ ms, p.2.1 = b))) :
    codeAny (model P₀ w) callerA (.call (.ref fa) ⟨[.ref a], []⟩) (fun r s' => r = .ok (.ret (.bool true)) ∧ OldK s1.heap s'.heap ∧ s'.os = s1.os ∧ AllBare s'.gens) s1 := by
  have what : ∀ {b : Addr} {u : HO}, H b = some u → ∃ o, s1.heap.get? b = some o ∧ ((∃ vs n, o.data = .seq vs n) ∨ o.data = .fields #[]) := fun {b u} z => by
    rcases (hH b u z).2 with ⟨o, _, vs, n, _, e, d⟩ | ⟨_, p, hp, rfl⟩
    · exact ⟨o, e, Or.inl ⟨vs, n, d⟩⟩
    · exact ⟨_, hT p hp, Or.inr rfl⟩
  have off : ∀ {b : Addr} {o : Obj}, s1.heap.get? b = some o → (∀ vs n, o.data ≠ .seq vs n) → o.data ≠ .fields #[] → H b = none := fun {b o} e h1 h2 => by
    cases z : H b with
    | none => rfl
    | some u =>
      obtain ⟨o', e', d⟩ := what z
      rw [e] at e'
      cases e'
      rcases d with ⟨vs, n, d⟩ | d
      · exact (h1 vs n d).elim
      · exact (h2 d).elim
  have stay : ∀ {b : Addr} {o : Obj}, s1.heap.get? b = some o → H b = none → (hidT s1.heap H).get? b = some o := fun e n => hidT_get e n
  have nsd : ∀ {b : Addr} {q : Str → Option Value}, s1.heap.Ns b q → (hidT s1.heap H).Ns b q := fun {b q} h => by
    obtain ⟨o, es, ep, e, d, r⟩ := h
    exact ⟨o, es, ep, stay e (off e (fun vs n z => by rw [d] at z; cases z) fun z => by rw [d] at z; cases z), d, r⟩
  have kin : K.In (hidT s1.heap H) := fun b o e => stay (KX b o e) (by
    cases z : H b with
    | none => rfl
    | some u =>
      rw [(hH b u z).1] at e
      cases e)
  have hM : Mod K mg (hidT s1.heap H) := ⟨kin, nsd hns, ⟨mb, nsd hb, hbb⟩, by
    obtain ⟨mc, h1, h2⟩ := hlim
    exact ⟨mc, nsd h1, h2⟩⟩
  have tabs : TabF ms mg (hidT s1.heap H) := fun p hp => by
    refine ⟨PySem.W.codeHd_of_K kin (MK.hd p hp), ?_, fun z => ?_⟩
    · obtain ⟨bm, ob, b1, b2, b3, b4, b5, b6⟩ := hbm
      refine ⟨bm, ob, b1, b2, fun z => ?_, fun z => ?_, stay b3 (off b3 (fun vs n z => by rw [b6] at z; cases z) fun z => by rw [b6] at z; cases z), b4, b5, b6⟩
      · obtain ⟨o, es, ep, e, d, _⟩ := hns
        rw [z, e] at b3
        cases b3
        rw [d] at b6
        cases b6
      · rw [z, hT p hp] at b3
        cases b3
        cases b6
    · obtain ⟨o, es, ep, e, d, _⟩ := hns
      rw [z, hT p hp] at e
      cases e
      cases d
  have e0 : Env0 P₀ w K mg (hidT s1.heap H) callerA [] s1 H :=
    { frames := rfl, mod := hM, bs := fun b o e => of_hidT e, bsz := Nat.le_of_eq (hidT_size _ _), funs := trivial, frf := fun b h => (nomatch h), hok := hok, bare := .of_eq hg }
  obtain ⟨s', hs'⟩ := hm
  have sp : ∀ base, spM (cfL P₀ w K mg base ms.tb) 1 m [.ref a] H (fun v _ => v = .bl true) E0 := fun base => by
    refine ⟨rfl, ⟨[], fun _ => False, fun _ => False, ms.tb⟩, [], [.p (.con (ns.map P.int))], .cons (PV.con hS (PVs.ints ns)) .nil, rfl, ⟨rfl, List.nodup_nil, fun _ h => (nomatch h), fun _ h => h.elim, fun n o h => by simp at h, fun _ h => h.elim, fun q hq => ?_, fun _ _ _ => ⟨fun z => z, fun z => z, fun z => nomatch z⟩⟩, ?_⟩
    · obtain ⟨p, hp, rfl⟩ := List.mem_map.mp hq
      exact LamX.TabS.nil (hHt p hp)
    · rw [hs']
      intro W' H' v _ r _
      cases r
      rfl
  refine codeAny_mono ((F _ tabs).run callerA [] s1 H ⟨[.ref a], []⟩ [.ref a] [.ref a] _ _ hr (fun _ => rfl) e0 (hbind s1 (.ref a)) (.cons rfl .nil) (sp _)) fun r s2 h => ?_
  match r, h with
  | .error _, h => exact h.elim
  | .ok (.ret u), ⟨v, H', os, bare, un, hok', rv, q⟩ =>
    have q' : v = .bl true := q
    subst q'
    obtain rfl : u = Value.bool true := rv
    have grown : ∀ p ∈ ms, ∃ more : Array Value, s2.heap.get? p.2.1 = some (PySem.W.tabObj more) := fun p hp => by
      obtain ⟨more, z⟩ := un.tbls p.2.1 #[] (hHt p hp)
      exact ⟨_, hok' p.2.1 _ z⟩
    have same : ∀ b o, s1.heap.get? b = some o → (∀ p ∈ ms, p.2.1 ≠ b) → s2.heap.get? b = some o := fun b o e nt => by
      cases z : H b with
      | none => exact un.keep b o e z (fun h => by cases h) (fun h => by cases h)
      | some u =>
        rcases (hH b u z).2 with ⟨o', xs, vs, n, rfl, e', _⟩ | ⟨_, p, hp, e2⟩
        · rw [e] at e'
          cases e'
          exact (hok' b _ (un.frzs b _ _ z)).1
        · exact (nt p hp e2).elim
    refine ⟨rfl, ⟨fun b o e => ?_, fun b o e => ?_⟩, os, bare⟩
    · by_cases hb : ∃ p ∈ ms, p.2.1 = b
      · obtain ⟨p, hp, rfl⟩ := hb
        obtain ⟨more, hm⟩ := grown p hp
        rw [hT p hp] at e
        cases e
        exact Or.inr (Or.inl ⟨((PySem.W.codeHd_of_K KX (MK.hd p hp)).tab (hT p hp)).isCodeTable, rfl, #[], more, rfl, by rw [Array.empty_append]; exact hm⟩)
      · exact Or.inl (same b o e fun p hp z => hb ⟨p, hp, z⟩)
    · by_cases hb : ∃ p ∈ ms, p.2.1 = b
      · obtain ⟨p, hp, rfl⟩ := hb
        obtain ⟨more, hm⟩ := grown p hp
        exact ⟨_, hm⟩
      · exact ⟨o, same b o e fun p hp z => hb ⟨p, hp, z⟩⟩
theorem law_end {l : PySem.W.OpenLaw} {n k : Nat} {q : Program} {loose : List Str} {XP : (Str → Option Value) → Heap → Prop} {YP : World → Heap → Prop} {d : DefRec} {K : Params → PySem.W.Frag} {x : Str} {m : World → List D → M D} {ts : List Addr}
    (hn : l.most = some n) (hn2 : n ≤ sizeLine) (hdf : d.params.defaults = []) (hr : Room k callerA) (hY : ∀ (w : World) (h : Heap), YP w h → (K w.params).In h) (hY2 : ∀ (w : World) (h : Heap), YP w h → ∀ P ∈ ts, h.get? P = some (PySem.W.tabObj #[]))
    (F : ∀ (w : World) (mg : Str → Option Value) (fa : Addr) (h : Heap), (K w.params).In h → h.Ns mainGlobals mg → mg d.name = some (.ref fa) →
      ∃ (fd : FuncData) (ms : Mks), (∀ p ∈ ms, p.2.1 ∈ ts) ∧ MkK (K w.params) ms ∧ (∀ (s : Shared) (u : Value), BindsTo s fd ⟨[u], []⟩ [(x, u)]) ∧ ∀ base : Heap, TabF ms mg base → Fn (cfL l.prog w (K w.params) mg base ms.tb) k fa fd [x] (spM (cfL l.prog w (K w.params) mg base ms.tb) 1 (m w)))
    (hm : ∀ w (ns : List Int), ns.length ≤ n → (∀ z ∈ ns, Builtin.Int.intBits z ≤ 1048576) → ∃ s', m w [.p (.con (ns.map P.int))] [] = .ok (.p (.bl true)) s') :
    PySem.W.WalkO q loose XP YP l.row.toRowW d [] (fun f vs => PySem.call f vs) := by
  refine Att.attach_callB hn hdf fun w s₀ s₁ mg mb fa o pm cd doc a vs ns G Y ho hd hcd hmg hobj hints hlen hbits hg => ?_
  have KX := hY w _ Y
  obtain ⟨fd, ms, hts, MK, hb, hF⟩ := F w mg fa _ KX G.T.g hmg
  have hT : ∀ p ∈ ms, s₁.heap.get? p.2.1 = some (PySem.W.tabObj #[]) := fun p hp => hY2 w _ Y p.2.1 (hts p hp)
  have rv := vals_ints hints
  have lv := hints.length
  have hz : (ns.map V.int).length ≤ sizeLine := by rw [List.length_map]; exact Nat.le_trans hlen hn2
  have fin_ : ∀ {H : Hp}, CS (K w.params) H a (ns.map V.int) → HOk l.prog w H s₁.heap → (∀ p ∈ ms, H p.2.1 = some (.tbl #[])) → (∀ b u, H b = some u → (K w.params).lookup b = none ∧ ((∃ o xs vs n, u = .frz o (.lst xs) ∧ s₁.heap.get? b = some o ∧ o.data = .seq vs n) ∨ (u = .tbl #[] ∧ ∃ p ∈ ms, p.2.1 = b))) → _ :=
    fun {H} h1 h2 h3 h4 => law_way (H := H) (m := m w) KX G.T.g G.T.b G.T.builtins G.T.nolimit hg hr MK hT G.T.bmain hF hb (hm w ns hlen hbits) h1 h2 h3 h4
  have na : ∀ p ∈ ms, p.2.1 ≠ a := fun p hp z => by
    have e := hT p hp
    rw [z, hobj] at e
    cases e
  let T0 : Hp := fun b => @ite _ (∃ p ∈ ms, p.2.1 = b) (Classical.propDecidable _) (some (.tbl #[])) none
  have T0i : ∀ b u, T0 b = some u → u = .tbl #[] ∧ ∃ p ∈ ms, p.2.1 = b := fun b u z => by
    by_cases h : ∃ p ∈ ms, p.2.1 = b
    · have z' := (if_pos h).symm.trans z
      cases z'
      exact ⟨rfl, h⟩
    · have z' := (if_neg h).symm.trans z
      cases z'
  have T0p : ∀ p ∈ ms, T0 p.2.1 = some (.tbl #[]) := fun p hp => if_pos ⟨p, hp, rfl⟩
  cases hk : (K w.params).lookup a with
  | some ob =>
    have e := KX a ob hk
    rw [hobj] at e
    cases e
    refine fin_ (H := T0) (Or.inr (Or.inr ⟨_, vs.toArray, _, hk, rfl, rfl, rfl, ?_, by simpa using rv⟩)) (fun b u z => ?_) T0p (fun b u z => ?_)
    · rw [List.size_toArray, ← rv.length]
      exact hz
    · obtain ⟨rfl, p, hp, rfl⟩ := T0i b u z
      exact hT p hp
    · obtain ⟨rfl, p, hp, rfl⟩ := T0i b u z
      exact ⟨MK.no p hp, Or.inr ⟨rfl, p, hp, rfl⟩⟩
  | none =>
    refine fin_ (H := fun b => if b = a then some (.frz { cls := .type "list", data := .seq vs.toArray } (.lst (ns.map V.int))) else T0 b) (Or.inl ⟨_, if_pos rfl⟩) (fun b u z => ?_) (fun p hp => (if_neg (na p hp)).trans (T0p p hp)) (fun b u z => ?_)
    · by_cases e : b = a
      · subst e
        have z' := (if_pos rfl).symm.trans z
        cases z'
        exact ⟨hobj, hz, vs, _, rv, hobj⟩
      · have z' := (if_neg e).symm.trans z
        obtain ⟨rfl, p, hp, rfl⟩ := T0i b u z'
        exact hT p hp
    · by_cases e : b = a
      · subst e
        have z' := (if_pos rfl).symm.trans z
        cases z'
        exact ⟨hk, Or.inl ⟨_, _, vs.toArray, _, rfl, hobj, rfl⟩⟩
      · have z' := (if_neg e).symm.trans z
        obtain ⟨rfl, p, hp, rfl⟩ := T0i b u z'
        exact ⟨MK.no p hp, Or.inr ⟨rfl, p, hp, rfl⟩⟩
end
end CW

end
section
set_option maxRecDepth 100000
set_option maxHeartbeats 2000000
/-! CW, tenth part: more expressions. -/
namespace CW
open PySem PySem.Spec PyProof.Rows L2
section
variable {C : Cf} {sc scope : Scope} {N : List Str} {k : Nat} {pos p2 p3 apos cpos : Pos} {e a b o tg iter elt : Expr} {m ma mb mo : EF} {es ifs : List Expr} {ms : List EF} {sts : List Stmt} {f : SF}
/-- from now on plain -/
def frz : D → M D := fun d s => match d with
  | .obj n => match s[n]? with
    | some (some (.lst xs)) => .ok (.p (.lst xs)) (s.set n none)
    | _ => .ok d s
  | d => .ok d s
def frzE (m : EF) : EF := fun ρ => bnd (m ρ) frz
theorem s_frz (h : SE C sc N k e m) : SE C sc N k e (frzE m) := fun X ok => by
  obtain ⟨t, p, q⟩ := h X ok
  refine ⟨t, p, fun σ H W s ρ Q er A g => ?_⟩
  refine q σ H W s ρ _ er A ((Good.bnd g).mono fun d s1 z W1 H1 v e1 r1 A1 => ?_)
  unfold frz at z
  split at z
  · split at z
    · rename_i hn
      obtain ⟨a, ha, rfl⟩ := r1
      obtain ⟨ev, A2, r2⟩ := A1.freeze hn ha
      exact z _ H1 _ (e1.trans ev) r2 A2
    · exact z W1 H1 v e1 r1 A1
  · exact z W1 H1 v e1 r1 A1
/-! count of what is equal -/
def cntD : D → List D → M D := fun d ds s => match ds with
  | [x] => match toPyD d s, toPyD x s with
    | some (.list ys), some z => if SeqAt.shaped (.list ys) = true ∧ SeqAt.shaped z = true then .ok (.p (.int ((ys.countP fun y => PyData.eqv y z : Nat)))) s else .bad
    | _, _ => .bad
  | _ => .bad
def rCnt (K : PySem.W.Frag) : V → List V → Hp → VK → Prop := fun x xs H Q => ∃ (y : V) (d : PyData) (ds : List PyData), xs = [y] ∧ Dp K H x (.list ds) ∧ Dp K H y d ∧ SeqAt.shaped (.list ds) = true ∧ SeqAt.shaped d = true ∧ Q (.int (ds.countP fun z => PyData.eqv z d : Nat)) H
theorem mt_cnt {X : Cx} (hu : X.A.units + 65 < cLine) : MtR X "list.count" (rCnt X.K) := by
  intro pins s σ H x xs v us Q I rx rxs h
  obtain ⟨y, d, ds, rfl, hl, hy, sl, sd, q⟩ := h
  obtain ⟨uy, rfl, ry⟩ := rxs.one
  obtain ⟨bs, r1⟩ := Dp.reads I d y uy hy ry
  cases hl with
  | lst hs ha =>
    cases rx
    obtain ⟨items, rv, ⟨⟨cls, dd, data, sls⟩, n, ho, hc, hdn, hdt⟩, hlen⟩ := I.list hs
    simp only at hc hdt
    subst hc hdt
    obtain ⟨as, h4⟩ := Dp.readsAll I ds _ items ha rv
    have hxs : PyData.canLayAll0 ds = true := SeqAt.canLay_of_shaped sl
    have room : X.A.units + 1 + min (PyData.depthAll ds) d.depth < cLine := by
      have h1 := SeqAt.depth_of_shaped sd
      have h2 : min (PyData.depthAll ds) d.depth ≤ d.depth := Nat.min_le_right _ _
      omega
    have hmap : items.map (SeqAt.readOf s.heap) = ds := SeqAt.readsAll_map ds items as hxs h4
    have eqs := SeqAt.items_eqAt (A := X.A) (vs := items.toArray) (show ReadsAll s.heap items.toArray.toList ds as from h4) r1 hxs (SeqAt.canLay_of_shaped sd) room
    refine call_meets PySem.F.slot_list_count ⟨_, ho, rfl⟩ PySem.F.entry_list_count (PySem.F.args_list_count_2 _ _)
      (SeqAt.list_countAt _ items.toArray n dd sls uy (fun u => PyData.eqv (SeqAt.readOf s.heap u) d)) ⟨ho, eqs, ?_⟩
    refine ⟨.int (ds.countP fun z => PyData.eqv z d : Nat), H, I.tok _, ⟨s.toks, ?_⟩, q⟩
    have e : items.toArray.toList.countP (fun u => PyData.eqv (SeqAt.readOf s.heap u) d) = ds.countP fun z => PyData.eqv z d := by
      rw [← hmap, List.countP_map]
      rfl
    rw [e]
theorem m_cnt : MtS C k "list.count" cntD := fun X ok => ⟨_, mt_cnt (by have := ok.rm.un; omega), fun W s H x d xs ds Q rx r A g => by
  unfold cntD at g
  split at g
  · split at g
    · rename_i h1 h2
      split at g
      · rename_i hs
        obtain ⟨y, rfl, hy⟩ := dvs1 r
        rw [ok.eK]
        exact ⟨y, _, _, rfl, DV.dp rx A h1, DV.dp hy A h2, hs.1, hs.2, g W H _ Ev.rfl (PV.int _) A⟩
      · exact g.elim
    · exact g.elim
  · exact g.elim⟩
end
end CW

end
section
set_option maxRecDepth 100000
set_option maxHeartbeats 2000000
/-! CW, eleventh part: what a term comes to, as equations. -/
namespace CW
open PySem PySem.Spec PyProof.Rows L2
section
variable {ρ : En} {s s' : S} {xs : List P} {m ma mb mc : EF} {f g : SF} {t : TF}
def R.bind {α β : Type} (r : R α) (k : α → S → R β) : R β := match r with
  | .ok a s => k a s
  | .bad => .bad
  | .exn c s => .exn c s
@[simp] theorem R.bind_ok {α β : Type} (a : α) (k : α → S → R β) : R.bind (.ok a s) k = k a s := rfl
@[simp] theorem R.bind_bad {α β : Type} (k : α → S → R β) : R.bind .bad k = .bad := rfl
@[simp] theorem R.bind_exn {α β : Type} (c : Xc) (s : S) (k : α → S → R β) : R.bind (.exn c s) k = .exn c s := rfl
theorem bnd_ev {α β : Type} (m : M α) (k : α → M β) : bnd m k s = R.bind (m s) k := by
  unfold bnd R.bind
  cases m s <;> rfl
@[simp] theorem R.bind_ite {α β : Type} (c : Prop) [Decidable c] (a b : R α) (k : α → S → R β) : R.bind (if c then a else b) k = if c then R.bind a k else R.bind b k := by
  split <;> rfl
@[simp] theorem vE_0 (d : D) (r : En) : vE 0 (some d :: r) s = .ok d s := rfl
@[simp] theorem vE_s (i : Nat) (d : Option D) (r : En) : vE (i + 1) (d :: r) s = vE i r s := rfl
@[simp] theorem vE_1 (d : Option D) (r : En) : vE 1 (d :: r) s = vE 0 r s := rfl
@[simp] theorem vE_2 (d0 d1 : Option D) (r : En) : vE 2 (d0 :: d1 :: r) s = vE 0 r s := rfl
@[simp] theorem vE_3 (d0 d1 d2 : Option D) (r : En) : vE 3 (d0 :: d1 :: d2 :: r) s = vE 0 r s := rfl
@[simp] theorem vE_4 (d0 d1 d2 d3 : Option D) (r : En) : vE 4 (d0 :: d1 :: d2 :: d3 :: r) s = vE 0 r s := rfl
@[simp] theorem vE_5 (d0 d1 d2 d3 d4 : Option D) (r : En) : vE 5 (d0 :: d1 :: d2 :: d3 :: d4 :: r) s = vE 0 r s := rfl
@[simp] theorem vE_6 (d0 d1 d2 d3 d4 d5 : Option D) (r : En) : vE 6 (d0 :: d1 :: d2 :: d3 :: d4 :: d5 :: r) s = vE 0 r s := rfl
@[simp] theorem vE_7 (d0 d1 d2 d3 d4 d5 d6 : Option D) (r : En) : vE 7 (d0 :: d1 :: d2 :: d3 :: d4 :: d5 :: d6 :: r) s = vE 0 r s := rfl
@[simp] theorem vE_8 (d0 d1 d2 d3 d4 d5 d6 d7 : Option D) (r : En) : vE 8 (d0 :: d1 :: d2 :: d3 :: d4 :: d5 :: d6 :: d7 :: r) s = vE 0 r s := rfl
@[simp] theorem vE_9 (d0 d1 d2 d3 d4 d5 d6 d7 d8 : Option D) (r : En) : vE 9 (d0 :: d1 :: d2 :: d3 :: d4 :: d5 :: d6 :: d7 :: d8 :: r) s = vE 0 r s := rfl
@[simp] theorem cE_ev (x : P) : cE x ρ s = .ok (.p x) s := rfl
@[simp] theorem ret_ev {α : Type} (a : α) : ret a s = .ok a s := rfl
@[simp] theorem bad_ev {α : Type} : (bad : M α) s = .bad := rfl
@[simp] theorem op2_ev (g : D → D → M D) : op2 g ma mb ρ s = R.bind (ma ρ s) fun x s1 => R.bind (mb ρ s1) fun y s2 => g x y s2 := by
  unfold op2; rw [bnd_ev]; congr
@[simp] theorem op1_ev (g : D → M D) : op1 g ma ρ s = R.bind (ma ρ s) fun x s1 => g x s1 := by
  unfold op1; simp only [bnd_ev]
def tBk : D → M Bool := fun d => match d with
    | .p (.bl b) => ret b
    | _ => bad
@[simp] theorem tBk_bl (b : Bool) : tBk (.p (.bl b)) s = .ok b s := rfl
@[simp] theorem tB_ev : tB m ρ s = R.bind (m ρ s) tBk := by unfold tB; rw [bnd_ev]; rfl
@[simp] theorem tT_ev : tT m ρ s = R.bind (m ρ s) truD := by unfold tT; rw [bnd_ev]
@[simp] theorem truD_bl (b : Bool) : truD (.p (.bl b)) s = .ok b s := rfl
@[simp] theorem truD_int (i : Int) : truD (.p (.int i)) s = .ok (i != 0) s := rfl
@[simp] theorem truD_non : truD (.p .non) s = .ok false s := rfl
@[simp] theorem truD_tup (xs : List P) : truD (.p (.tup xs)) s = .ok (!xs.isEmpty) s := rfl
@[simp] theorem truD_lst (xs : List P) : truD (.p (.lst xs)) s = .ok (!xs.isEmpty) s := rfl
@[simp] theorem andT_ev (a b : TF) : andT a b ρ s = R.bind (a ρ s) fun c s1 => if c = true then b ρ s1 else .ok false s1 := by
  unfold andT; rw [bnd_ev]; congr; funext c s1; cases c <;> rfl
@[simp] theorem orT_ev (a b : TF) : orT a b ρ s = R.bind (a ρ s) fun c s1 => if c = true then .ok true s1 else b ρ s1 := by
  unfold orT; rw [bnd_ev]; congr; funext c s1; cases c <;> rfl
@[simp] theorem notT_ev (a : TF) : notT a ρ s = R.bind (a ρ s) fun c s1 => .ok (!c) s1 := by unfold notT; rw [bnd_ev]; rfl
@[simp] theorem ifE_ev : ifE t ma mb ρ s = R.bind (t ρ s) fun c s1 => if c = true then ma ρ s1 else mb ρ s1 := by
  unfold ifE; rw [bnd_ev]; congr; funext c s1; cases c <;> rfl
def andk (k : M D) : D → M D := fun d => match d with
  | .p (.bl c) => if c = true then k else ret (.p (.bl false))
  | _ => bad
def ork (k : M D) : D → M D := fun d => match d with
  | .p (.bl c) => if c = true then ret (.p (.bl true)) else k
  | _ => bad
@[simp] theorem andk_bl (k : M D) (c : Bool) : andk k (.p (.bl c)) s = if c = true then k s else .ok (.p (.bl false)) s := by cases c <;> rfl
@[simp] theorem ork_bl (k : M D) (c : Bool) : ork k (.p (.bl c)) s = if c = true then .ok (.p (.bl true)) s else k s := by cases c <;> rfl
@[simp] theorem andE_ev : andE ma mb ρ s = R.bind (ma ρ s) (andk (mb ρ)) := by unfold andE; rw [bnd_ev]; rfl
@[simp] theorem orE_ev : orE ma mb ρ s = R.bind (ma ρ s) (ork (mb ρ)) := by unfold orE; rw [bnd_ev]; rfl
def notk : D → M D := fun d => match d with
  | .p (.bl c) => ret (.p (.bl (!c)))
  | _ => bad
@[simp] theorem notk_bl (c : Bool) : notk (.p (.bl c)) s = .ok (.p (.bl (!c))) s := rfl
@[simp] theorem notE_ev : notE ma ρ s = R.bind (ma ρ s) notk := by unfold notE; rw [bnd_ev]; rfl
@[simp] theorem negD_int (i : Int) : negD (.p (.int i)) s = .ok (.p (.int (-i))) s := rfl
@[simp] theorem evA_nil : evA [] ρ s = .ok [] s := rfl
@[simp] theorem evA_cons (ms : List EF) : evA (m :: ms) ρ s = R.bind (m ρ s) fun d s1 => R.bind (evA ms ρ s1) fun ds s2 => .ok (d :: ds) s2 := by
  show bnd _ _ _ = _
  simp only [bnd_ev]; rfl
@[simp] theorem plain_nil : plain [] = some [] := rfl
@[simp] theorem plain_cons (x : P) (r : List D) : plain (.p x :: r) = (plain r).map (x :: ·) := rfl
def tupk (f : List P → P) : List D → M D := fun ds s => match plain ds with
  | some xs => .ok (.p (f xs)) s
  | none => .bad
theorem tupk_ev (f : List P → P) {ds : List D} {xs : List P} (h : plain ds = some xs) : tupk f ds s = .ok (.p (f xs)) s := by unfold tupk; rw [h]
@[simp] theorem tupk_0 (f : List P → P) : tupk f [] s = .ok (.p (f [])) s := rfl
@[simp] theorem tupk_1 (f : List P → P) (a : P) : tupk f [.p a] s = .ok (.p (f [a])) s := rfl
@[simp] theorem tupk_2 (f : List P → P) (a b : P) : tupk f [.p a, .p b] s = .ok (.p (f [a, b])) s := rfl
@[simp] theorem tupk_3 (f : List P → P) (a b c : P) : tupk f [.p a, .p b, .p c] s = .ok (.p (f [a, b, c])) s := rfl
@[simp] theorem tupk_4 (f : List P → P) (a b c d : P) : tupk f [.p a, .p b, .p c, .p d] s = .ok (.p (f [a, b, c, d])) s := rfl
@[simp] theorem tupk_5 (f : List P → P) (a b c d e : P) : tupk f [.p a, .p b, .p c, .p d, .p e] s = .ok (.p (f [a, b, c, d, e])) s := rfl
@[simp] theorem tupk_6 (f : List P → P) (a b c d e e1 : P) : tupk f [.p a, .p b, .p c, .p d, .p e, .p e1] s = .ok (.p (f [a, b, c, d, e, e1])) s := rfl
@[simp] theorem tupk_8 (f : List P → P) (a b c d e e1 e2 e3 : P) : tupk f [.p a, .p b, .p c, .p d, .p e, .p e1, .p e2, .p e3] s = .ok (.p (f [a, b, c, d, e, e1, e2, e3])) s := rfl
@[simp] theorem tupE_ev (ms : List EF) : tupE ms ρ s = R.bind (evA ms ρ s) (tupk .tup) := by unfold tupE; rw [bnd_ev]; rfl
@[simp] theorem lstE_ev (ms : List EF) : lstE ms ρ s = R.bind (evA ms ρ s) (tupk .lst) := by unfold lstE; rw [bnd_ev]; rfl
def lsok : List D → M D := fun ds s => match plain ds with
  | some xs => newL xs s
  | none => .bad
theorem lsok_ev {ds : List D} {xs : List P} (h : plain ds = some xs) : lsok ds s = .ok (.obj s.length) (s ++ [some (.lst xs)]) := by unfold lsok; rw [h]; rfl
@[simp] theorem lsoE_ev (ms : List EF) : lsoE ms ρ s = R.bind (evA ms ρ s) lsok := by unfold lsoE; rw [bnd_ev]; rfl
@[simp] theorem ix_tup (xs : List P) (i : Int) : ixD (.p (.tup xs)) (.p (.int i)) s = match L2.atI xs i with
  | some z => .ok (.p z) s
  | none => .bad := rfl
@[simp] theorem ix_lst (xs : List P) (i : Int) : ixD (.p (.lst xs)) (.p (.int i)) s = match L2.atI xs i with
  | some z => .ok (.p z) s
  | none => .bad := rfl
@[simp] theorem sub_int (i j : Int) : subD (.p (.int i)) (.p (.int j)) s = .ok (.p (.int (i - j))) s := rfl
@[simp] theorem mod_int (i j : Int) : modD (.p (.int i)) (.p (.int j)) s = if j = 0 then .bad else .ok (.p (.int (i.fmod j))) s := by
  unfold modD ii; by_cases h : j = 0 <;> simp [h]
@[simp] theorem div_int (i j : Int) : divD (.p (.int i)) (.p (.int j)) s = if divOk i j then .ok (.p (.int (i.fdiv j))) s else .bad := by
  unfold divD ii; by_cases h : divOk i j <;> simp [h]
@[simp] theorem pow_int (i j : Int) : powD (.p (.int i)) (.p (.int j)) s = if powOk i j then .ok (.p (.int (i ^ j.toNat))) s else .bad := by
  unfold powD ii; by_cases h : powOk i j <;> simp [h]
@[simp] theorem lt_int (i j : Int) : ltD (.p (.int i)) (.p (.int j)) s = .ok (.p (.bl (decide (i < j)))) s := rfl
@[simp] theorem le_int (i j : Int) : leD (.p (.int i)) (.p (.int j)) s = .ok (.p (.bl (decide (i ≤ j)))) s := rfl
@[simp] theorem gt_int (i j : Int) : gtD (.p (.int i)) (.p (.int j)) s = .ok (.p (.bl (decide (j < i)))) s := rfl
@[simp] theorem ge_int (i j : Int) : geD (.p (.int i)) (.p (.int j)) s = .ok (.p (.bl (decide (j ≤ i)))) s := rfl
@[simp] theorem add_int (fr : Bool) (i j : Int) : addD fr (.p (.int i)) (.p (.int j)) s = .ok (.p (.int (i + j))) s := rfl
@[simp] theorem mul_int (fr : Bool) (i j : Int) : mulD fr (.p (.int i)) (.p (.int j)) s = if mulOk i j then .ok (.p (.int (i * j))) s else .bad := rfl
@[simp] theorem eqv_int (i j : Int) : PyData.eqv (.int i) (.int j) = decide (i = j) := by
  unfold PyData.eqv
  by_cases h : i = j <;> simp [h]
theorem eq_dat (neg : Bool) {x y : D} {d e : PyData} (hx : toPyD x s = some d) (hy : toPyD y s = some e) (h : SeqAt.shaped d = true ∧ SeqAt.shaped e = true) : eqD neg x y s = .ok (.p (.bl (if neg = true then !PyData.eqv d e else PyData.eqv d e))) s := by
  unfold eqD
  rw [hx, hy]
  exact if_pos h
@[simp] theorem eq_int (i j : Int) : eqD false (.p (.int i)) (.p (.int j)) s = .ok (.p (.bl (decide (i = j)))) s := by
  rw [eq_dat (d := .int i) (e := .int j) false rfl rfl ⟨rfl, rfl⟩, eqv_int]
  rfl
@[simp] theorem ne_int (i j : Int) : eqD true (.p (.int i)) (.p (.int j)) s = .ok (.p (.bl (!decide (i = j)))) s := by
  rw [eq_dat (d := .int i) (e := .int j) true rfl rfl ⟨rfl, rfl⟩, eqv_int]
  rfl
@[simp] theorem calE_ev (g : List D → M D) (ms : List EF) : calE g ms ρ s = R.bind (evA ms ρ s) g := by unfold calE; rw [bnd_ev]
@[simp] theorem abs_ev (i : Int) : absD [.p (.int i)] s = .ok (.p (.int i.natAbs)) s := by
  show R.ok (D.p (.int (if i < 0 then -i else i))) s = _
  have : (if i < 0 then -i else i) = (i.natAbs : Int) := by split <;> omega
  rw [this]
@[simp] theorem max_ev (i j : Int) : maxD [.p (.int i), .p (.int j)] s = .ok (.p (.int (max i j))) s := by
  show R.ok (D.p (.int (if j > i then j else i))) s = _
  have : (if j > i then j else i) = max i j := by split <;> omega
  rw [this]
@[simp] theorem min_ev (i j : Int) : minD [.p (.int i), .p (.int j)] s = .ok (.p (.int (min i j))) s := by
  show R.ok (D.p (.int (if j < i then j else i))) s = _
  have : (if j < i then j else i) = min i j := by split <;> omega
  rw [this]
@[simp] theorem int_i (i : Int) : intD [.p (.int i)] s = .ok (.p (.int i)) s := rfl
@[simp] theorem int_b (b : Bool) : intD [.p (.bl b)] s = .ok (.p (.int (if b = true then 1 else 0))) s := rfl
@[simp] theorem len_tup (xs : List P) : lenD [.p (.tup xs)] s = .ok (.p (.int xs.length)) s := rfl
@[simp] theorem len_lst (xs : List P) : lenD [.p (.lst xs)] s = .ok (.p (.int xs.length)) s := rfl
theorem isi_ev (d : D) {c z : String} {b : Bool} (h : tyD d s = some z) (hk : kitB z c = some b) : isiD [d, .p (.ty c)] s = .ok (.p (.bl b)) s := by
  show (match tyD d s with
    | some z => (match kitB z c with
      | some b => R.ok (D.p (.bl b)) s
      | none => .bad)
    | none => .bad) = _
  rw [h]
  show (match kitB z c with
      | some b => R.ok (D.p (.bl b)) s
      | none => .bad) = _
  rw [hk]
@[simp] theorem isi_non_int : isiD [.p .non, .p (.ty "int")] s = .ok (.p (.bl false)) s := isi_ev _ rfl (by decide +kernel)
@[simp] theorem isi_non_bool : isiD [.p .non, .p (.ty "bool")] s = .ok (.p (.bl false)) s := isi_ev _ rfl (by decide +kernel)
@[simp] theorem isi_non_tuple : isiD [.p .non, .p (.ty "tuple")] s = .ok (.p (.bl false)) s := isi_ev _ rfl (by decide +kernel)
@[simp] theorem isi_non_list : isiD [.p .non, .p (.ty "list")] s = .ok (.p (.bl false)) s := isi_ev _ rfl (by decide +kernel)
@[simp] theorem isi_non_str : isiD [.p .non, .p (.ty "str")] s = .ok (.p (.bl false)) s := isi_ev _ rfl (by decide +kernel)
@[simp] theorem isi_bl_int (b : Bool) : isiD [.p (.bl b), .p (.ty "int")] s = .ok (.p (.bl true)) s := isi_ev _ rfl (by decide +kernel)
@[simp] theorem isi_bl_bool (b : Bool) : isiD [.p (.bl b), .p (.ty "bool")] s = .ok (.p (.bl true)) s := isi_ev _ rfl (by decide +kernel)
@[simp] theorem isi_bl_tuple (b : Bool) : isiD [.p (.bl b), .p (.ty "tuple")] s = .ok (.p (.bl false)) s := isi_ev _ rfl (by decide +kernel)
@[simp] theorem isi_bl_list (b : Bool) : isiD [.p (.bl b), .p (.ty "list")] s = .ok (.p (.bl false)) s := isi_ev _ rfl (by decide +kernel)
@[simp] theorem isi_bl_str (b : Bool) : isiD [.p (.bl b), .p (.ty "str")] s = .ok (.p (.bl false)) s := isi_ev _ rfl (by decide +kernel)
@[simp] theorem isi_int_int (i : Int) : isiD [.p (.int i), .p (.ty "int")] s = .ok (.p (.bl true)) s := isi_ev _ rfl (by decide +kernel)
@[simp] theorem isi_int_bool (i : Int) : isiD [.p (.int i), .p (.ty "bool")] s = .ok (.p (.bl false)) s := isi_ev _ rfl (by decide +kernel)
@[simp] theorem isi_int_tuple (i : Int) : isiD [.p (.int i), .p (.ty "tuple")] s = .ok (.p (.bl false)) s := isi_ev _ rfl (by decide +kernel)
@[simp] theorem isi_int_list (i : Int) : isiD [.p (.int i), .p (.ty "list")] s = .ok (.p (.bl false)) s := isi_ev _ rfl (by decide +kernel)
@[simp] theorem isi_int_str (i : Int) : isiD [.p (.int i), .p (.ty "str")] s = .ok (.p (.bl false)) s := isi_ev _ rfl (by decide +kernel)
@[simp] theorem isi_str_int (x : Str) : isiD [.p (.str x), .p (.ty "int")] s = .ok (.p (.bl false)) s := isi_ev _ rfl (by decide +kernel)
@[simp] theorem isi_str_bool (x : Str) : isiD [.p (.str x), .p (.ty "bool")] s = .ok (.p (.bl false)) s := isi_ev _ rfl (by decide +kernel)
@[simp] theorem isi_str_tuple (x : Str) : isiD [.p (.str x), .p (.ty "tuple")] s = .ok (.p (.bl false)) s := isi_ev _ rfl (by decide +kernel)
@[simp] theorem isi_str_list (x : Str) : isiD [.p (.str x), .p (.ty "list")] s = .ok (.p (.bl false)) s := isi_ev _ rfl (by decide +kernel)
@[simp] theorem isi_str_str (x : Str) : isiD [.p (.str x), .p (.ty "str")] s = .ok (.p (.bl true)) s := isi_ev _ rfl (by decide +kernel)
@[simp] theorem isi_tup_int (xs : List P) : isiD [.p (.tup xs), .p (.ty "int")] s = .ok (.p (.bl false)) s := isi_ev _ rfl (by decide +kernel)
@[simp] theorem isi_tup_bool (xs : List P) : isiD [.p (.tup xs), .p (.ty "bool")] s = .ok (.p (.bl false)) s := isi_ev _ rfl (by decide +kernel)
@[simp] theorem isi_tup_tuple (xs : List P) : isiD [.p (.tup xs), .p (.ty "tuple")] s = .ok (.p (.bl true)) s := isi_ev _ rfl (by decide +kernel)
@[simp] theorem isi_tup_list (xs : List P) : isiD [.p (.tup xs), .p (.ty "list")] s = .ok (.p (.bl false)) s := isi_ev _ rfl (by decide +kernel)
@[simp] theorem isi_tup_str (xs : List P) : isiD [.p (.tup xs), .p (.ty "str")] s = .ok (.p (.bl false)) s := isi_ev _ rfl (by decide +kernel)
@[simp] theorem isi_lst_int (xs : List P) : isiD [.p (.lst xs), .p (.ty "int")] s = .ok (.p (.bl false)) s := isi_ev _ rfl (by decide +kernel)
@[simp] theorem isi_lst_bool (xs : List P) : isiD [.p (.lst xs), .p (.ty "bool")] s = .ok (.p (.bl false)) s := isi_ev _ rfl (by decide +kernel)
@[simp] theorem isi_lst_tuple (xs : List P) : isiD [.p (.lst xs), .p (.ty "tuple")] s = .ok (.p (.bl false)) s := isi_ev _ rfl (by decide +kernel)
@[simp] theorem isi_lst_list (xs : List P) : isiD [.p (.lst xs), .p (.ty "list")] s = .ok (.p (.bl true)) s := isi_ev _ rfl (by decide +kernel)
@[simp] theorem isi_lst_str (xs : List P) : isiD [.p (.lst xs), .p (.ty "str")] s = .ok (.p (.bl false)) s := isi_ev _ rfl (by decide +kernel)
@[simp] theorem setG_ev (i : Nat) (d : D) : setG i d ρ s = .ok (ρ.set i (some d)) s := rfl
@[simp] theorem nilG_ev : nilG [] ρ s = .ok ρ s := rfl
@[simp] theorem consG_ev (g : GF) (r : List P → En → M En) (x : P) (xs : List P) : consG g r (x :: xs) ρ s = R.bind (g (.p x) ρ s) (r xs) := by
  show bnd _ _ _ = _
  rw [bnd_ev]
@[simp] theorem tupG_tup (n : Nat) (g : List P → En → M En) (xs : List P) : tupG n g (.p (.tup xs)) ρ s = if xs.length = n then g xs ρ s else .bad := rfl
@[simp] theorem tupG_lst (n : Nat) (g : List P → En → M En) (xs : List P) : tupG n g (.p (.lst xs)) ρ s = if xs.length = n then g xs ρ s else .bad := rfl
@[simp] theorem nopF_ev : nopF ρ s = .ok (.nx ρ) s := rfl
@[simp] theorem noF_ev : noF ρ s = .bad := rfl
def seqk (g : SF) : Fl → M Fl := fun r => match r with
  | .nx ρ' => g ρ'
  | r => ret r
@[simp] theorem seqk_nx (g : SF) : seqk g (.nx ρ) s = g ρ s := rfl
@[simp] theorem seqk_rt (g : SF) (d : D) : seqk g (.rt d) s = .ok (.rt d) s := rfl
@[simp] theorem seqk_bk (g : SF) : seqk g (.bk ρ) s = .ok (.bk ρ) s := rfl
@[simp] theorem seqk_ct (g : SF) : seqk g (.ct ρ) s = .ok (.ct ρ) s := rfl
@[simp] theorem seqF_ev : seqF f g ρ s = R.bind (f ρ s) (seqk g) := by unfold seqF; rw [bnd_ev]; rfl
@[simp] theorem retF_ev : retF m ρ s = R.bind (m ρ s) fun d s1 => .ok (.rt d) s1 := by unfold retF; rw [bnd_ev]; rfl
@[simp] theorem expF_ev : expF m ρ s = R.bind (m ρ s) fun d s1 => .ok (.nx ρ) s1 := by unfold expF; rw [bnd_ev]; rfl
@[simp] theorem iffF_ev : iffF t f g ρ s = R.bind (t ρ s) fun c s1 => if c = true then f ρ s1 else g ρ s1 := by
  unfold iffF; rw [bnd_ev]; congr; funext c s1; cases c <;> rfl
@[simp] theorem asgF_ev (g : GF) : asgF m g ρ s = R.bind (m ρ s) fun d s1 => R.bind (g d ρ s1) fun ρ' s2 => .ok (.nx ρ') s2 := by
  unfold asgF; simp only [bnd_ev]; rfl
def park (i j : Nat) (ρ : En) : List D → M Fl := fun ds s => match ds with
  | [x, y] => .ok (.nx ((ρ.set i (some x)).set j (some y))) s
  | _ => .bad
@[simp] theorem park_ev (i j : Nat) (x y : D) : park i j ρ [x, y] s = .ok (.nx ((ρ.set i (some x)).set j (some y))) s := rfl
@[simp] theorem parF_ev (i j : Nat) (ms : List EF) : parF i j ms ρ s = R.bind (evA ms ρ s) (park i j ρ) := by unfold parF; rw [bnd_ev]; rfl
def park3 (i j l : Nat) (ρ : En) : List D → M Fl := fun ds s => match ds with
  | [x, y, z] => .ok (.nx (((ρ.set i (some x)).set j (some y)).set l (some z))) s
  | _ => .bad
@[simp] theorem park3_ev (i j l : Nat) (x y z : D) : park3 i j l ρ [x, y, z] s = .ok (.nx (((ρ.set i (some x)).set j (some y)).set l (some z))) s := rfl
@[simp] theorem par3F_ev (i j l : Nat) (ms : List EF) : par3F i j l ms ρ s = R.bind (evA ms ρ s) (park3 i j l ρ) := by unfold par3F; rw [bnd_ev]; rfl
theorem augF_ev (i : Nat) (g : D → D → M D) {d : D} (h : ρ[i]? = some (some d)) : augF i g m ρ s = R.bind (m ρ s) fun y s1 => R.bind (g d y s1) fun z s2 => .ok (.nx (ρ.set i (some z))) s2 := by
  unfold augF; rw [h]; simp only [bnd_ev]; rfl
@[simp] theorem fin_self (x : P) : fin s (.p x) s = .ok (.p x) s := by
  unfold fin
  dsimp only
  rw [if_pos Keeps.self, List.take_length]
@[simp] theorem fin_more (x : P) (r : S) : fin s (.p x) (s ++ r) = .ok (.p x) s := by
  unfold fin
  dsimp only
  rw [if_pos (Keeps.more r), List.take_left]
@[simp] theorem atI2_0 {α} (x y : α) : L2.atI [x, y] 0 = some x := rfl
@[simp] theorem atI2_1 {α} (x y : α) : L2.atI [x, y] 1 = some y := rfl
@[simp] theorem atI1_0 {α} (x : α) : L2.atI [x] 0 = some x := rfl
@[simp] theorem atI3_0 {α} (x y z : α) : L2.atI [x, y, z] 0 = some x := rfl
@[simp] theorem atI3_1 {α} (x y z : α) : L2.atI [x, y, z] 1 = some y := rfl
@[simp] theorem atI3_2 {α} (x y z : α) : L2.atI [x, y, z] 2 = some z := rfl
theorem defM_rt {n nl : Nat} {ds : List D} {x : P} (hl : ds.length = n) (h : f (ds.map some ++ List.replicate (nl - n) none) s = .ok (.rt (.p x)) s) : defM n nl f ds s = .ok (.p x) s := by
  unfold defM
  rw [if_pos hl, h]
  exact fin_self x
theorem defM_nx {n nl : Nat} {ds : List D} (hl : ds.length = n) (h : f (ds.map some ++ List.replicate (nl - n) none) s = .ok (.nx ρ) s) : defM n nl f ds s = .ok (.p .non) s := by
  unfold defM
  rw [if_pos hl, h]
  exact fin_self .non
noncomputable def defk (s : S) : Fl → M D := fun r => match r with
  | .rt d => fin s d
  | .nx _ => fin s (.p .non)
  | _ => bad
@[simp] theorem defk_rt (d : D) (s1 : S) : defk s (.rt d) s1 = fin s d s1 := rfl
@[simp] theorem defk_nx (s1 : S) : defk s (.nx ρ) s1 = fin s (.p .non) s1 := rfl
theorem defM_ev {n nl : Nat} {ds : List D} (hl : ds.length = n) : defM n nl f ds s = R.bind (f (ds.map some ++ List.replicate (nl - n) none) s) (defk s) := by
  unfold defM R.bind defk
  rw [if_pos hl]
  cases f (ds.map some ++ List.replicate (nl - n) none) s with
  | bad => rfl
  | exn _ _ => rfl
  | ok r s1 => cases r <;> rfl
theorem fin_take (x : P) (h : s'.take s.length = s) : fin s (.p x) s' = .ok (.p x) s := by
  have e : s' = s ++ s'.drop s.length := by conv => lhs; rw [← List.take_append_drop s.length s', h]
  rw [e]
  exact fin_more x _
@[simp] theorem fin_ex (x : P) (r : S) : fin [] (.p x) r = .ok (.p x) [] := fin_take x rfl
@[simp] theorem fin_ex1 (x : P) (a : Option O) (r : S) : fin [a] (.p x) (a :: r) = .ok (.p x) [a] := fin_take x rfl
@[simp] theorem fin_ex2 (x : P) (a b : Option O) (r : S) : fin [a, b] (.p x) (a :: b :: r) = .ok (.p x) [a, b] := fin_take x rfl
@[simp] theorem fin_ex3 (x : P) (a b c : Option O) (r : S) : fin [a, b, c] (.p x) (a :: b :: c :: r) = .ok (.p x) [a, b, c] := fin_take x rfl
@[simp] theorem gok_tru : gok [] s = True := by
  unfold gok
  simp
@[simp] theorem wipE_nil : wipE ρ [] = ρ := rfl
@[simp] theorem wipE_cons (v : Nat) (vs : List Nat) : wipE ρ (v :: vs) = (wipE ρ vs).set v none := rfl
theorem lcL_nil {own : List Nat} {tg : GF} {c : TF} : lcL own [] tg c m ρ [] s = .ok [] s := by
  unfold lcL
  rw [gok_tru]
  exact if_pos trivial
/-- a comprehension whose parts change nothing -/
theorem lcL_purg {g : Gd} {own : List Nat} {tg : GF} {c : TF} (hg : gok g s) (F : P → En) (keep : P → Bool) (f : P → P) : ∀ {xs : List P}, (∀ x ∈ xs, tg (.p x) (wipE ρ own) s = .ok (F x) s ∧ c (F x) s = .ok (keep x) s ∧ (keep x = true → m (F x) s = .ok (.p (f x)) s)) →
    lcL own g tg c m ρ xs s = .ok ((xs.filter keep).map f) s
  | [], _ => by
    unfold lcL
    exact if_pos hg
  | x :: xs, h => by
    have ih := lcL_purg (xs := xs) hg F keep f fun y hy => h y (List.mem_cons_of_mem _ hy)
    obtain ⟨h1, h2, h3⟩ := h x List.mem_cons_self
    unfold lcL
    rw [if_pos hg, bnd_ev, h1, R.bind_ok, bnd_ev, h2, R.bind_ok]
    cases hk : keep x with
    | false =>
      rw [if_neg (by decide), ih, List.filter_cons_of_neg (by rw [hk]; decide)]
    | true =>
      rw [if_pos rfl, bnd_ev, h3 hk, R.bind_ok]
      show bnd _ _ _ = _
      rw [bnd_ev, ih, R.bind_ok, List.filter_cons_of_pos hk]
      rfl
theorem lcL_pure {own : List Nat} {tg : GF} {c : TF} (F : P → En) (keep : P → Bool) (f : P → P) {xs : List P} (h : ∀ x ∈ xs, tg (.p x) (wipE ρ own) s = .ok (F x) s ∧ c (F x) s = .ok (keep x) s ∧ (keep x = true → m (F x) s = .ok (.p (f x)) s)) :
    lcL own [] tg c m ρ xs s = .ok ((xs.filter keep).map f) s := lcL_purg (by rw [gok_tru]; trivial) F keep f h
theorem lcL_all {own : List Nat} {tg : GF} (F : P → En) (f : P → P) {xs : List P} (h : ∀ x ∈ xs, tg (.p x) (wipE ρ own) s = .ok (F x) s ∧ m (F x) s = .ok (.p (f x)) s) :
    lcL own [] tg yesT m ρ xs s = .ok (xs.map f) s := by
  rw [lcL_pure F (fun _ => true) f fun x hx => ⟨(h x hx).1, rfl, fun _ => (h x hx).2⟩, show List.filter (fun _ => true) xs = xs from List.filter_eq_self.mpr fun _ _ => rfl]
@[simp] theorem mkL_true (xs : List P) : mkL true xs s = .ok (.p (.lst xs)) s := rfl
@[simp] theorem mkL_false (xs : List P) : mkL false xs s = .ok (.obj s.length) (s ++ [some (.lst xs)]) := rfl
theorem lcE_ev {fr : Bool} {i : IF} {own : List Nat} {tg : GF} {c : TF} : lcE fr i own tg c m ρ s = R.bind (i ρ s) fun xg s1 => if xg.1.length ≤ sizeLine then R.bind (lcL own xg.2 tg c m ρ xg.1 s1) (mkL fr) else .bad := by
  unfold lcE; rw [bnd_ev]; congr
/-- a comprehension over a row that stands still -/
theorem lcE_all {fr : Bool} {i : IF} {own : List Nat} {tg : GF} (F : P → En) (f : P → P) {xs : List P} {s1 : S} (hi : i ρ s = .ok (xs, []) s1) (hl : xs.length ≤ sizeLine) (h : ∀ x ∈ xs, tg (.p x) (wipE ρ own) s1 = .ok (F x) s1 ∧ m (F x) s1 = .ok (.p (f x)) s1) :
    lcE fr i own tg yesT m ρ s = mkL fr (xs.map f) s1 := by
  rw [lcE_ev, hi, R.bind_ok]
  show (if xs.length ≤ sizeLine then _ else _) = _
  rw [if_pos hl, lcL_all F f h, R.bind_ok]
theorem lcE_pure {fr : Bool} {i : IF} {own : List Nat} {tg : GF} {c : TF} (F : P → En) (keep : P → Bool) (f : P → P) {xs : List P} {s1 : S} (hi : i ρ s = .ok (xs, []) s1) (hl : xs.length ≤ sizeLine)
    (h : ∀ x ∈ xs, tg (.p x) (wipE ρ own) s1 = .ok (F x) s1 ∧ c (F x) s1 = .ok (keep x) s1 ∧ (keep x = true → m (F x) s1 = .ok (.p (f x)) s1)) :
    lcE fr i own tg c m ρ s = mkL fr ((xs.filter keep).map f) s1 := by
  rw [lcE_ev, hi, R.bind_ok]
  show (if xs.length ≤ sizeLine then _ else _) = _
  rw [if_pos hl, lcL_pure F keep f h, R.bind_ok]
theorem lcE_purg {fr : Bool} {i : IF} {own : List Nat} {g : Gd} {tg : GF} {c : TF} (F : P → En) (keep : P → Bool) (f : P → P) {xs : List P} {s1 : S} (hi : i ρ s = .ok (xs, g) s1) (hg : gok g s1) (hl : xs.length ≤ sizeLine)
    (h : ∀ x ∈ xs, tg (.p x) (wipE ρ own) s1 = .ok (F x) s1 ∧ c (F x) s1 = .ok (keep x) s1 ∧ (keep x = true → m (F x) s1 = .ok (.p (f x)) s1)) :
    lcE fr i own tg c m ρ s = mkL fr ((xs.filter keep).map f) s1 := by
  rw [lcE_ev, hi, R.bind_ok]
  show (if xs.length ≤ sizeLine then _ else _) = _
  rw [if_pos hl, lcL_purg hg F keep f h, R.bind_ok]
/-- the list that stands at a place -/
def lsAt (n : Nat) (s : S) : Option (List P) := match s[n]? with
  | some (some (.lst xs)) => some xs
  | _ => none
@[simp] theorem lsAt_0 (xs : List P) (r : S) : lsAt 0 (some (.lst xs) :: r) = some xs := rfl
@[simp] theorem lsAt_s (n : Nat) (a : Option O) (r : S) : lsAt (n + 1) (a :: r) = lsAt n r := rfl
theorem its_obj (n : Nat) : its (.obj n) s = lsAt n s := rfl
@[simp] theorem its_lst (xs : List P) : its (.p (.lst xs)) s = some xs := rfl
def addk (fr : Bool) (xs : Option (List P)) (ys : List P) : M D := fun s => match xs with
  | some xs => if xs.length + ys.length ≤ sizeLine then mkL fr (xs ++ ys) s else .bad
  | none => .bad
@[simp] theorem addk_some (fr : Bool) (xs ys : List P) : addk fr (some xs) ys s = if xs.length + ys.length ≤ sizeLine then mkL fr (xs ++ ys) s else .bad := rfl
@[simp] theorem add_obj_lst (fr : Bool) (n : Nat) (ys : List P) : addD fr (.obj n) (.p (.lst ys)) s = addk fr (lsAt n s) ys s := by
  unfold addD addk lsAt its
  dsimp only
  cases s[n]? with
  | none => rfl
  | some o => cases o with
    | none => rfl
    | some o => cases o <;> rfl
@[simp] theorem add_lst_lst (fr : Bool) (xs ys : List P) : addD fr (.p (.lst xs)) (.p (.lst ys)) s = if xs.length + ys.length ≤ sizeLine then mkL fr (xs ++ ys) s else .bad := rfl
def appk (xs : Option (List P)) (n : Nat) (x : P) : M D := fun s => match xs with
  | some xs => if xs.length < sizeLine then .ok (.p .non) (s.set n (some (.lst (xs ++ [x])))) else .bad
  | none => .bad
@[simp] theorem appk_some (xs : List P) (n : Nat) (x : P) : appk (some xs) n x s = if xs.length < sizeLine then .ok (.p .non) (s.set n (some (.lst (xs ++ [x])))) else .bad := rfl
@[simp] theorem lsok_0 : lsok [] s = .ok (.obj s.length) (s ++ [some (.lst [])]) := rfl
@[simp] theorem lsok_1 (a : P) : lsok [.p a] s = .ok (.obj s.length) (s ++ [some (.lst [a])]) := rfl
@[simp] theorem lsok_2 (a b : P) : lsok [.p a, .p b] s = .ok (.obj s.length) (s ++ [some (.lst [a, b])]) := rfl
@[simp] theorem lsok_3 (a b c : P) : lsok [.p a, .p b, .p c] s = .ok (.obj s.length) (s ++ [some (.lst [a, b, c])]) := rfl
@[simp] theorem lsok_4 (a b c d : P) : lsok [.p a, .p b, .p c, .p d] s = .ok (.obj s.length) (s ++ [some (.lst [a, b, c, d])]) := rfl
theorem rowI_obj {n : Nat} (h : m ρ s = .ok (.obj n) s') (hl : lsAt n s' = some xs) : rowI m ρ s = .ok (xs, [(n, xs)]) s' ∧ gok [(n, xs)] s' := by
  have e : s'[n]? = some (some (.lst xs)) := by
    unfold lsAt at hl
    split at hl
    · rename_i h
      rw [h, Option.some.inj hl]
    · cases hl
  constructor
  · unfold rowI
    rw [bnd_ev, h, R.bind_ok]
    unfold rowD
    dsimp only
    rw [e]
  · intro p hp
    rw [List.mem_singleton.mp hp]
    exact e
@[simp] theorem eq_bl (a b : Bool) : eqD false (.p (.bl a)) (.p (.bl b)) s = .ok (.p (.bl (a == b))) s := by
  rw [eq_dat (d := .bool a) (e := .bool b) false rfl rfl ⟨rfl, rfl⟩]
  unfold PyData.eqv
  rfl
@[simp] theorem ne_bl (a b : Bool) : eqD true (.p (.bl a)) (.p (.bl b)) s = .ok (.p (.bl (!(a == b)))) s := by
  rw [eq_dat (d := .bool a) (e := .bool b) true rfl rfl ⟨rfl, rfl⟩]
  unfold PyData.eqv
  rfl
@[simp] theorem ne_nil_nil : eqD true (.p (.lst [])) (.p (.lst [])) s = .ok (.p (.bl false)) s := rfl
theorem cnt_2 (a b c : Bool) : cntD (.p (.lst [.bl a, .bl b])) [.p (.bl c)] s = .ok (.p (.int ((if a = c then 1 else 0) + (if b = c then 1 else 0)))) s := by
  cases a <;> cases b <;> cases c <;> rfl
theorem rowI_ev (h : m ρ s = .ok (.p (.tup xs)) s') : rowI m ρ s = .ok (xs, []) s' := by
  unfold rowI; rw [bnd_ev, h]; rfl
theorem rowI_lst (h : m ρ s = .ok (.p (.lst xs)) s') : rowI m ρ s = .ok (xs, []) s' := by
  unfold rowI; rw [bnd_ev, h]; rfl
theorem rowI_con (h : m ρ s = .ok (.p (.con xs)) s') : rowI m ρ s = .ok (xs, []) s' := by
  unfold rowI; rw [bnd_ev, h]; rfl
theorem lstI_lst (h : m ρ s = .ok (.p (.lst xs)) s') : lstI m ρ s = .ok (xs, []) s' := by
  unfold lstI; rw [bnd_ev, h]; rfl
theorem tupI_tup (h : m ρ s = .ok (.p (.tup xs)) s') : tupI m ρ s = .ok (xs, []) s' := by
  unfold tupI; rw [bnd_ev, h]; rfl
theorem all_lst {xs : List P} {bs : List Bool} (h : blsOf xs = some bs) : allD [.p (.lst xs)] s = .ok (.p (.bl (bs.all id))) s := by
  show (match blsOf xs with
      | some bs => R.ok (D.p (.bl (bs.all id))) s
      | none => .bad) = _
  rw [h]
theorem any_lst {xs : List P} {bs : List Bool} (h : blsOf xs = some bs) : anyD [.p (.lst xs)] s = .ok (.p (.bl (bs.any id))) s := by
  show (match blsOf xs with
      | some bs => R.ok (D.p (.bl (bs.any id))) s
      | none => .bad) = _
  rw [h]
theorem blsOf_trues {α : Type} (xs : List α) : blsOf (xs.map fun _ => P.bl true) = some (xs.map fun _ => true) := by
  induction xs with
  | nil => rfl
  | cons x xs ih =>
    show (blsOf (xs.map fun _ => P.bl true)).map _ = _
    rw [ih]; rfl
theorem all_trues {α : Type} (xs : List α) : allD [.p (.lst (xs.map fun _ => P.bl true))] s = .ok (.p (.bl true)) s := by
  rw [all_lst (blsOf_trues xs)]
  simp
theorem defM_if {n nl : Nat} {ds : List D} : defM n nl f ds s = if ds.length = n then R.bind (f (ds.map some ++ List.replicate (nl - n) none) s) (defk s) else .bad := by
  by_cases h : ds.length = n
  · rw [if_pos h, defM_ev h]
  · rw [if_neg h]; unfold defM; rw [if_neg h]
end
end CW

end
section
set_option maxRecDepth 100000
set_option maxHeartbeats 2000000
/-! CW, twelfth part: loops as equations, the draws' state. -/
namespace CW
open PySem PySem.Spec PyProof.Rows L2
section
variable {ρ : En} {s s' : S} {xs : List P} {m ma mb mc : EF} {f g : SF} {t : TF}
def fork (k : SF) : Fl → M Fl := fun r => match r with
  | .nx ρ' => k ρ'
  | .ct ρ' => k ρ'
  | .bk ρ' => ret (.nx ρ')
  | .rt d => ret (.rt d)
@[simp] theorem fork_nx (k : SF) : fork k (.nx ρ) s = k ρ s := rfl
@[simp] theorem fork_ct (k : SF) : fork k (.ct ρ) s = k ρ s := rfl
@[simp] theorem fork_bk (k : SF) : fork k (.bk ρ) s = .ok (.nx ρ) s := rfl
@[simp] theorem fork_rt (k : SF) (d : D) : fork k (.rt d) s = .ok (.rt d) s := rfl
theorem forL_nil {tg : GF} : forL [] tg f [] ρ s = .ok (.nx ρ) s := by
  unfold forL
  rw [gok_tru]
  exact if_pos trivial
theorem forL_cons {tg : GF} (x : P) : forL [] tg f (x :: xs) ρ s = R.bind (tg (.p x) ρ s) fun ρ1 s1 => R.bind (f ρ1 s1) (fork (forL [] tg f xs)) := by
  conv => lhs; unfold forL
  rw [gok_tru, if_pos trivial, bnd_ev]
  congr
theorem forF_ev {i : IF} {tg : GF} : forF i tg f ρ s = R.bind (i ρ s) fun xg s1 => forL xg.2 tg f xg.1 ρ s1 := by
  unfold forF; rw [bnd_ev]
theorem whF_ev (ρ : En) (s : S) : whF t f ρ s = R.bind (t ρ s) fun b s1 => if b = true then R.bind (f ρ s1) (fork (whF t f)) else .ok (.nx ρ) s1 := by
  rw [whF_eq, bnd_ev]
  congr
  funext b s1
  cases b with
  | false => rfl
  | true =>
    rw [if_pos rfl, if_pos rfl, bnd_ev]
    rfl
/-- a loop that keeps something -/
theorem forL_inv {tg : GF} (I : En → S → Prop) : ∀ {xs : List P} {ρ : En} {s : S}, I ρ s → (∀ x ∈ xs, ∀ ρ s, I ρ s → ∃ ρ1 s1 ρ2 s2, tg (.p x) ρ s = .ok ρ1 s1 ∧ f ρ1 s1 = .ok (.nx ρ2) s2 ∧ I ρ2 s2) →
    ∃ ρ' s', forL [] tg f xs ρ s = .ok (.nx ρ') s' ∧ I ρ' s'
  | [], ρ, s, h, _ => ⟨ρ, s, forL_nil, h⟩
  | x :: xs, ρ, s, h, k => by
    obtain ⟨ρ1, s1, ρ2, s2, e1, e2, i2⟩ := k x List.mem_cons_self ρ s h
    obtain ⟨ρ', s', e3, i3⟩ := forL_inv I i2 (fun y hy => k y (List.mem_cons_of_mem _ hy))
    exact ⟨ρ', s', by rw [forL_cons, e1, R.bind_ok, e2, R.bind_ok, fork_nx, e3], i3⟩
def dputk (ρ : En) (v d : D) : D → M Fl := fun i s => match d, dctD d s, keyD i with
  | .obj n, some kvs, some q => if kvs.length < sizeLine then .ok (.nx ρ) (s.set n (some (.dic (putD kvs q v)))) else .bad
  | _, _, _ => .bad
@[simp] theorem dputF_ev : dputF ma mb mc ρ s = R.bind (mc ρ s) fun v s1 => R.bind (ma ρ s1) fun d s2 => R.bind (mb ρ s2) (dputk ρ v d) := by
  unfold dputF
  rw [bnd_ev]
  congr
def lputk (ρ : En) (v d : D) : D → M Fl := fun i s => match d, v, i with
  | .obj n, .p x, .p (.int z) => match s[n]? with
    | some (some (.lst xs)) => match ixN xs.length z with
      | some j => .ok (.nx ρ) (s.set n (some (.lst (xs.set j x))))
      | none => .bad
    | _ => .bad
  | _, _, _ => .bad
@[simp] theorem lputF_ev : lputF ma mb mc ρ s = R.bind (mc ρ s) fun v s1 => R.bind (ma ρ s1) fun d s2 => R.bind (mb ρ s2) (lputk ρ v d) := by
  unfold lputF
  rw [bnd_ev]
  congr
@[simp] theorem frzE_ev : frzE m ρ s = R.bind (m ρ s) frz := by unfold frzE; rw [bnd_ev]
@[simp] theorem frz_p (x : P) : frz (.p x) s = .ok (.p x) s := rfl
def dick (ks : List Str) (n : Nat) : List D → M D := fun ds s2 => match s2[n]? with
  | some (some (.dic [])) => .ok (.obj n) (s2.set n (some (.dic (mkD ((ks.map Sum.inr).zip ds) []))))
  | _ => .bad
@[simp] theorem dicE_ev (ks : List Str) (ms : List EF) : dicE ks ms ρ s = R.bind (evA ms ρ (s ++ [some (.dic [])])) (dick ks s.length) := by
  unfold dicE; rw [bnd_ev]; rfl
@[simp] theorem metE_ev {G : D → List D → M D} (ms : List EF) : metE G ma ms ρ s = R.bind (ma ρ s) fun d s1 => match its d s1 with
    | some _ => R.bind (evA ms ρ s1) (G d)
    | none => .bad := by
  unfold metE; rw [bnd_ev]; congr
@[simp] theorem app_obj (n : Nat) (x : P) : appD (.obj n) [.p x] s = appk (lsAt n s) n x s := by
  unfold appD appk lsAt
  dsimp only
  cases s[n]? with
  | none => rfl
  | some o => cases o with
    | none => rfl
    | some o => cases o <;> rfl
/-! ### the draws' state -/
def mk (sm k : Int) (cells : List Int) (rest : S) : S := some (.dic [(.inr "great", .obj 1), (.inr "small", .p (.int sm)), (.inr "at", .p (.int k))]) :: some (.lst (cells.map .int)) :: rest
@[simp] theorem mk_great (sm k : Int) (cells : List Int) (rest : S) : dgetD (.obj 0) (.p (.str "great")) (mk sm k cells rest) = .ok (.obj 1) (mk sm k cells rest) := rfl
@[simp] theorem mk_small (sm k : Int) (cells : List Int) (rest : S) : dgetD (.obj 0) (.p (.str "small")) (mk sm k cells rest) = .ok (.p (.int sm)) (mk sm k cells rest) := rfl
@[simp] theorem mk_at (sm k : Int) (cells : List Int) (rest : S) : dgetD (.obj 0) (.p (.str "at")) (mk sm k cells rest) = .ok (.p (.int k)) (mk sm k cells rest) := rfl
@[simp] theorem mk_put_small (sm k i : Int) (cells : List Int) (rest : S) : dputk ρ (.p (.int i)) (.obj 0) (.p (.str "small")) (mk sm k cells rest) = .ok (.nx ρ) (mk i k cells rest) := rfl
@[simp] theorem mk_put_at (sm k i : Int) (cells : List Int) (rest : S) : dputk ρ (.p (.int i)) (.obj 0) (.p (.str "at")) (mk sm k cells rest) = .ok (.nx ρ) (mk sm i cells rest) := rfl
theorem ixN_ok {n : Nat} {z : Int} (h0 : 0 ≤ z) (h : z < n) : ixN n z = some z.toNat := by
  unfold ixN
  rw [if_pos h0]
  exact if_pos (by omega)
theorem mk_put_1 (sm k i z : Int) (cells : List Int) (rest : S) (h0 : 0 ≤ z) (h : z < cells.length) : lputk ρ (.p (.int i)) (.obj 1) (.p (.int z)) (mk sm k cells rest) = .ok (.nx ρ) (mk sm k (cells.set z.toNat i) rest) := by
  show (match ixN (cells.map P.int).length z with
      | some j => R.ok (Fl.nx ρ) ((mk sm k cells rest).set 1 (some (.lst ((cells.map P.int).set j (.int i)))))
      | none => .bad) = _
  rw [ixN_ok h0 (by rw [List.length_map]; exact h)]
  show R.ok (Fl.nx ρ) _ = _
  rw [← List.map_set]
  rfl
theorem toPys_int : ∀ cells : List Int, toPys (cells.map P.int) = some (cells.map PyData.int)
  | [] => rfl
  | x :: xs => by
    show (match toPy (.int x), toPys (xs.map P.int) with
      | some d, some ds => some (d :: ds)
      | _, _ => none) = _
    rw [toPys_int xs]
    rfl
theorem shapedAll_int : ∀ cells : List Int, SeqAt.shaped (.list (cells.map PyData.int)) = true
  | [] => rfl
  | x :: xs => by
    have ih := shapedAll_int xs
    simp [SeqAt.shaped] at ih ⊢
    exact ih
theorem mk_ne_nil (sm k : Int) (cells : List Int) (rest : S) : eqD true (.obj 1) (.p (.lst [])) (mk sm k cells rest) = .ok (.p (.bl (!cells.isEmpty))) (mk sm k cells rest) := by
  rw [eq_dat true (d := .list (cells.map .int)) (e := .list []) (by show (toPys (cells.map P.int)).map PyData.list = _; rw [toPys_int]; rfl) rfl ⟨shapedAll_int _, rfl⟩]
  cases cells with
  | nil => rfl
  | cons x xs =>
    have : PyData.eqv (.list (List.map PyData.int (x :: xs))) (.list []) = false := by
      simp [PyData.eqv, PyData.eqvAll]
    rw [this]
    rfl
@[simp] theorem mk_len (sm k : Int) (cells : List Int) (rest : S) : lenD [.obj 1] (mk sm k cells rest) = .ok (.p (.int cells.length)) (mk sm k cells rest) := by
  show R.ok (D.p (.int ((cells.map P.int).length : Nat))) _ = _
  rw [List.length_map]
theorem mk_ix (sm k z : Int) (cells : List Int) (rest : S) (h0 : 0 ≤ z) (h : z < cells.length) : ixD (.obj 1) (.p (.int z)) (mk sm k cells rest) = .ok (.p (.int (cells[z.toNat]'(by omega)))) (mk sm k cells rest) := by
  show (match L2.atI (cells.map P.int) z with
        | some z => R.ok (D.p z) (mk sm k cells rest)
        | none => .bad) = _
  have e : L2.atI (cells.map P.int) z = some (.int (cells[z.toNat]'(by omega))) := by
    unfold L2.atI
    rw [ixN_ok h0 (by rw [List.length_map]; exact h), Option.bind_some, List.getElem?_map, List.getElem?_eq_getElem (by omega)]
    rfl
  rw [e]
theorem fin_mk (sm k sm' k' : Int) (cells cells' : List Int) (rest r : S) (x : P) : fin (mk sm k cells rest) (.p x) (mk sm' k' cells' (rest ++ r)) = .ok (.p x) (mk sm' k' cells' rest) := by
  unfold fin
  dsimp only
  rw [if_pos]
  · show R.ok _ (_ :: _ :: List.take rest.length (rest ++ r)) = _
    rw [List.take_left]
    rfl
  · refine ⟨by simp [mk], fun i kvs hi hd => ?_, fun i kvs hi hd => ?_, fun i kvs hi hd => ?_⟩
    rotate_right 2
    · match i with
      | 0 =>
        have := Option.some.inj hd
        cases this
      | 1 =>
        have := Option.some.inj hd
        cases this
      | i + 2 =>
        left
        have hi' : i < rest.length := by
          simp [mk] at hi
          omega
        show rest[i]? = (rest ++ r)[i]?
        rw [List.getElem?_append_left hi']
    · match i with
      | 0 =>
        have := Option.some.inj hd
        cases this
      | 1 =>
        have := Option.some.inj hd
        cases this
      | i + 2 =>
        left
        have hi' : i < rest.length := by
          simp [mk] at hi
          omega
        show rest[i]? = (rest ++ r)[i]?
        rw [List.getElem?_append_left hi']
    match i with
    | 0 =>
      right
      have : kvs = [(.inr "great", .obj 1), (.inr "small", .p (.int sm')), (.inr "at", .p (.int k'))] := by
        have := Option.some.inj hd
        have := Option.some.inj this
        injection this with this
        exact this.symm
      subst this
      intro kv hkv m hm
      simp at hkv
      rcases hkv with rfl | rfl | rfl
      · cases hm
        simp [mk]
      · cases hm
      · cases hm
    | 1 =>
      have := Option.some.inj hd
      cases this
    | i + 2 =>
      left
      have hi' : i < rest.length := by
        simp [mk] at hi
        omega
      show rest[i]? = (rest ++ r)[i]?
      rw [List.getElem?_append_left hi']
@[simp] theorem fin_mk0 (sm k sm' k' : Int) (cells cells' : List Int) (rest : S) (x : P) : fin (mk sm k cells rest) (.p x) (mk sm' k' cells' rest) = .ok (.p x) (mk sm' k' cells' rest) := by
  have := fin_mk sm k sm' k' cells cells' rest [] x
  rwa [List.append_nil] at this
end
end CW

end
section
set_option maxRecDepth 100000
set_option maxHeartbeats 2000000
/-! CW, thirteenth part: items as targets; a tuple of any values told at once. -/
namespace CW
open PySem PySem.Spec PyProof.Rows L2
section
variable {C : Cf} {sc scope : Scope} {N : List Str} {k : Nat} {pos p2 p3 pt apos cpos : Pos} {e a b o i tg iter elt : Expr} {m ma mb mo mi md : EF} {es ifs ts : List Expr} {ms : List EF} {sts : List Stmt} {f : SF}
def dputG (md mi : EF) : GF := fun v ρ => bnd (md ρ) fun d => bnd (mi ρ) fun i s => match d, dctD d s, keyD i with
  | .obj n, some kvs, some q => if kvs.length < sizeLine then .ok ρ (s.set n (some (.dic (putD kvs q v)))) else .bad
  | _, _, _ => .bad
theorem g_dput (ho : SE C sc N k o md) (hi : SE C sc N k i mi)
    (ha : ∀ env v, assign (.Subscript o i p3) env v = (do
      let ov ← holding [v] (eval o env)
      let iv ← holding [v, ov] (eval i env)
      standAt p3
      holding [v, ov, iv] (setItem ov iv v)
      release [v, ov, iv] []) := by intro _ _; rfl) : SG C sc N k (.Subscript o i p3) (dputG md mi) [] := fun X ok => by
  obtain ⟨t1, p1, q1⟩ := ho X ok
  obtain ⟨t2, p2, q2⟩ := hi X ok
  refine ⟨_, pg_sub p1 p2 (set_dict (hu_of ok.rm)) (ha X.env), fun vv v σ H W s ρ Q r1 er A z => ?_⟩
  refine q1 σ H W s ρ _ er A ((Good.bnd z).mono fun d s2 z2 W2 H2 vd e2 r2 A2 => ?_)
  refine q2 σ H2 W2 s2 ρ _ (er.up e2) A2 ((Good.bnd z2).mono fun i s3 z3 W3 H3 vi e3 r3 A3 => ?_)
  split at z3
  · rename_i n kvs q hq hd
    split at z3
    · rename_i hl
      obtain ⟨n', a, ws, hn, hs, h3, rfl, h4, h5⟩ := dct_at (r2.up e3) A3 hd
      cases hn
      have hy := key_rel r3 hq
      subst hy
      have hlen : ws.length < sizeLine := by rw [Paired.length h5]; exact hl
      have ev : Ev W3 H3 W3 (upd H3 a (.dK (putK ws q vv))) := Ev.put (o' := .dic []) A3 hs h3
      exact ⟨a, _, rfl, DPut.k h4 hlen, z3 W3 _ _ ((e2.trans e3).trans ev) (((er.up e2).up e3).up ev) (A3.put hs h3 ⟨_, upd_same, ((h5.up ev).put (((r1.up e2).up e3).up ev))⟩) Agr.rfl⟩
    · exact z3.elim
  · exact z3.elim
def lputG (mo mi : EF) : GF := fun v ρ => bnd (mo ρ) fun d => bnd (mi ρ) fun i s => match d, v, i with
  | .obj n, .p x, .p (.int z) => match s[n]? with
    | some (some (.lst xs)) => match ixN xs.length z with
      | some j => .ok ρ (s.set n (some (.lst (xs.set j x))))
      | none => .bad
    | _ => .bad
  | _, _, _ => .bad
theorem g_lput (ho : SE C sc N k o mo) (hi : SE C sc N k i mi)
    (ha : ∀ env v, assign (.Subscript o i p3) env v = (do
      let ov ← holding [v] (eval o env)
      let iv ← holding [v, ov] (eval i env)
      standAt p3
      holding [v, ov, iv] (setItem ov iv v)
      release [v, ov, iv] []) := by intro _ _; rfl) : SG C sc N k (.Subscript o i p3) (lputG mo mi) [] := fun X ok => by
  obtain ⟨t1, p1, q1⟩ := ho X ok
  obtain ⟨t2, p2, q2⟩ := hi X ok
  refine ⟨_, pg_sub p1 p2 set_list (ha X.env), fun vv v σ H W s ρ Q r1 er A z => ?_⟩
  refine q1 σ H W s ρ _ er A ((Good.bnd z).mono fun d s2 z2 W2 H2 vd e2 r2 A2 => ?_)
  refine q2 σ H2 W2 s2 ρ _ (er.up e2) A2 ((Good.bnd z2).mono fun i s3 z3 W3 H3 vi e3 r3 A3 => ?_)
  split at z3
  · rename_i n x iz
    split at z3
    · rename_i xs hx
      split at z3
      · rename_i j hj
        cases r3
        obtain ⟨a, h4, rfl⟩ := r2.up e3
        obtain ⟨a', h5, _, vs, h6, h7⟩ := A3.ob n _ hx
        rw [h4] at h5
        cases h5
        have ev : Ev W3 H3 W3 (upd H3 a (.lst (vs.set j vv))) := Ev.put (o' := .lst []) A3 hx h4
        refine ⟨a, vs, _, j, rfl, rfl, h6, by rw [h7.len]; exact hj, z3 W3 _ _ ((e2.trans e3).trans ev) (((er.up e2).up e3).up ev) (A3.put hx h4 ⟨_, upd_same, PVs.put ?_ j (PVs.up ev h7)⟩) Agr.rfl⟩
        exact PV.up ev (PV.up e3 (PV.up e2 r1))
      · exact z3.elim
    · exact z3.elim
  · exact z3.elim
/-! ### t1, t2, .. = e1, e2, .. -/
def SGD (C : Cf) (sc : Scope) (N : List Str) (k : Nat) (ts : List Expr) (g : List D → En → M En) (pl : List Nat) : Prop :=
  ∀ X, Cok C sc N k X → ∃ t, PGs X ts t ∧ ∀ vs ds σ H W s ρ Q, DVs C.K W H vs ds → ER C W H σ ρ → Abs C.K W s H → Good (g ds ρ s) (PoG C W H pl σ Q) → t vs σ H Q
def nilT : List D → En → M En := fun ds ρ s => match ds with
  | [] => .ok ρ s
  | _ => .bad
def consT (g : GF) (r : List D → En → M En) : List D → En → M En := fun ds ρ => match ds with
  | d :: ds => bnd (g d ρ) fun ρ' => r ds ρ'
  | [] => bad
theorem gd_nil : SGD C sc N k [] nilT [] := fun X ok => by
  refine ⟨_, pgs_nil, fun vs ds σ H W s ρ Q r er A g => ?_⟩
  cases r with
  | nil => exact ⟨rfl, g W H _ Ev.rfl er A Agr.rfl⟩
  | cons _ _ => exact g.elim
theorem gd_cons {h : GF} {r : List D → En → M En} {pl pl' : List Nat} (h1 : SG C sc N k tg h pl) (h2 : SGD C sc N k ts r pl') (hs : ∀ env, (assignEach (tg :: ts) env).map (·.2) = assign tg env :: (assignEach ts env).map (·.2) := by intro _; rfl) : SGD C sc N k (tg :: ts) (consT h r) (pl ++ pl') := fun X ok => by
  obtain ⟨t, p, q⟩ := h1 X ok
  obtain ⟨u, p', q'⟩ := h2 X ok
  refine ⟨_, pgs_cons p p' (hs X.env), fun vs ds σ H W s ρ Q rv er A g => ?_⟩
  cases rv with
  | nil => exact g.elim
  | cons hv hr =>
    refine ⟨_, _, rfl, q _ _ σ H W s ρ _ hv er A (Good.mono (Good.bnd g) fun ρ1 s1 h1 W1 H1 σ1 e1 er1 A1 ag => ?_)⟩
    exact q' _ _ σ1 H1 W1 s1 ρ1 Q (DVs.up e1 hr) er1 A1 (Good.mono h1 fun _ _ z W2 H2 σ2 e2 er2 A2 ag2 => z W2 H2 σ2 (e1.trans e2) er2 A2 (ag.trans ag2))
def tasF (ms : List EF) (g : List D → En → M En) : SF := fun ρ => bnd (evA ms ρ) fun ds => bnd (g ds ρ) fun ρ' => ret (.nx ρ')
theorem x_tas {j x1 : Nat} {g : List D → En → M En} {pl : List Nat} (he : SAs C sc N k es ms) (hg : SGD C sc N k ts g pl) (hl : ms.length ≤ sizeLine := by decide) (hlt : ts.length = ms.length := by rfl) (hs : ∀ env : Env, env.scope = sc → swapsWithSole [.Tuple ts j pt] (.Tuple es x1 p2) pos.line env = pure false := by intro _ _; rfl)
    (hw : ∀ env : Env, env.scope = sc → swappedStores [.Tuple ts j pt] (.Tuple es x1 p2) env = pure none := by intro env h; cases env; cases h; rfl)
    (hn : ∀ env, (assignEach ts env).length = ts.length := by intro _; rfl) (hst : ∀ env, (assignEach ts env).findIdx? (·.1) = none := by intro _; rfl)
    (h1 : ∀ env, (assignEach [.Tuple ts j pt] env).map (·.2) = [assign (.Tuple ts j pt) env] := by intro _; rfl) : SS C sc N k (.Assign [.Tuple ts j pt] (.Tuple es x1 p2) pos) (tasF ms g) := fun X ok => by
  obtain ⟨t, p, q⟩ := he X ok.toCok
  obtain ⟨u, p', q'⟩ := hg X ok.toCok
  refine ⟨_, ps_asg (pe_tup p) (pg_tup ok.calm p' (hn X.env) (hst X.env)) (hs X.env ok.eS) (hw X.env ok.eS) (h1 X.env), fun D σ H W s ρ er A g => ?_⟩
  rw [ok.eK]
  refine q σ H W s ρ _ er A (g.bnd.len.mono fun ds s1 ⟨z, h2⟩ W1 H1 vs e1 r1 A1 => ?_)
  refine ⟨by rw [Paired.length r1, z]; exact hl, fun o ho => ?_⟩
  have ev := Ev.new (W := W1) (o := HO.tup vs) ho
  refine ⟨_, _, rfl, SqT.of upd_same, by rw [Paired.length r1, z, hlt], ?_⟩
  refine q' _ _ σ _ W1 s1 ρ _ (DVs.up ev r1) ((er.up e1).up ev) (A1.new ho) ((Good.bnd h2).mono fun ρ' s2 z2 W2 H2 σ2 e2 er2 A2 _ => ?_)
  exact z2 W2 H2 σ2 ((e1.trans ev).trans e2) er2 A2
/-! ### as equations -/
variable {ρ : En} {s : S}
@[simp] theorem nilT_ev : nilT [] ρ s = .ok ρ s := rfl
@[simp] theorem consT_ev (g : GF) (r : List D → En → M En) (x : D) (xs : List D) : consT g r (x :: xs) ρ s = R.bind (g x ρ s) (r xs) := by
  show bnd _ _ _ = _
  rw [bnd_ev]
@[simp] theorem tasF_ev (g : List D → En → M En) : tasF ms g ρ s = R.bind (evA ms ρ s) fun ds s1 => R.bind (g ds ρ s1) fun ρ' s2 => .ok (.nx ρ') s2 := by
  unfold tasF; rw [bnd_ev]; congr
def gk (ρ : En) : Fl → M En := fun r s => match r with
  | .nx _ => .ok ρ s
  | _ => .bad
@[simp] theorem gk_nx (ρ' : En) : gk ρ (.nx ρ') s = .ok ρ s := rfl
@[simp] theorem dputG_ev (v : D) : dputG ma mb v ρ s = R.bind (ma ρ s) fun d s2 => R.bind (mb ρ s2) fun i s3 => R.bind (dputk ρ v d i s3) (gk ρ) := by
  unfold dputG
  rw [bnd_ev]
  congr
  funext d s2
  rw [bnd_ev]
  congr
  funext i s3
  unfold dputk
  cases d with
  | p x => rfl
  | obj n =>
    cases dctD (.obj n) s3 with
    | none => rfl
    | some kvs =>
      cases keyD i with
      | none => rfl
      | some q =>
        dsimp only
        by_cases h : kvs.length < sizeLine
        · rw [if_pos h, if_pos h]; rfl
        · rw [if_neg h, if_neg h]; rfl
@[simp] theorem lputG_ev (v : D) : lputG ma mb v ρ s = R.bind (ma ρ s) fun d s2 => R.bind (mb ρ s2) fun i s3 => R.bind (lputk ρ v d i s3) (gk ρ) := by
  unfold lputG
  rw [bnd_ev]
  congr
  funext d s2
  rw [bnd_ev]
  congr
  funext i s3
  unfold lputk
  cases d with
  | p x => rfl
  | obj n =>
    cases v with
    | obj _ => rfl
    | p x =>
      cases i with
      | obj _ => rfl
      | p y =>
        cases y with
        | int z =>
          dsimp only
          cases s3[n]? with
          | none => rfl
          | some o => cases o with
            | none => rfl
            | some o => cases o with
              | dic _ => rfl
              | row _ => rfl
              | tpl _ => rfl
              | lst xs =>
                dsimp only
                cases ixN xs.length z <;> rfl
        | _ => rfl
end
end CW

end
section
set_option maxRecDepth 100000
set_option maxHeartbeats 2000000
/-! CW, fourteenth part: zip of a list and a tuple. -/
namespace CW
open PySem PySem.Spec PyProof.Rows L2
/-- what zip of the list at a and the tuple at b yields -/
def ItzM (K : PySem.W.Frag) (a b : Addr) : It :=
  ⟨fun n G => ∃ (l m : List V) (p q : V), (SqL K G a l ∧ SqT K G b m) ∧ l[n]? = some p ∧ m[n]? = some q,
    fun n G r G' => ∃ o p q, r = .ref o ∧ G o = none ∧ G' = upd G o (.tup [p, q]) ∧ (∀ l, SqL K G a l → l[n]? = some p) ∧ ∀ m, SqT K G b m → m[n]? = some q,
    fun n G => ∃ l m : List V, (SqL K G a l ∧ SqT K G b m) ∧ (n ≤ l.length ∧ n ≤ m.length) ∧ (n = l.length ∨ n = m.length)⟩
/-- how its cells stand -/
def ZmSt (a b z c d i j : Addr) (n : Nat) (h : Heap) : Prop := (IsZip h z c d .none ∧ IsPair h c (.ref i) (.ref j)) ∧ (∃ x y, IsPair h d x y) ∧ h.IsListIter i a n ∧ h.IsTupleIter j b n
theorem five_of {x z c d i j : Addr} (h : x ∈ [z, c, d, i, j]) : x = z ∨ x = c ∨ x = d ∨ x = i ∨ x = j := by simpa using h
theorem turn_zipM {P : Program} {w : World} {K : PySem.W.Frag} {elts : List Expr} {kk : Nat} {tpos : Pos} {a b z c d i j : Addr} (D : ZipApart z c d i j a b) : Turn P w K (.Tuple elts kk tpos) (ItzM K a b) [z, c, d, i, j] z (ZmSt a b z c d i j) := by
  have sep : ZipSep2 z c d i j [i, a] [j, b] := ⟨D.TIz, D.TOz, D.TITO, D.TIi1, by simp, by simp [D.i1z.symm, D.l1z.symm], by simp [D.TOi1, D.l1TO.symm], D.TIi2, by simp, by simp [D.i2z.symm, D.l2z.symm], by simp [D.TOi2, D.l2TO.symm], by simp [D.i12, D.l2i1.symm], by simp [D.i12.symm, D.l1i2.symm]⟩
  refine ⟨by simp, fun n h st x hx => ?_, fun n h h' st k => ?_, fun X hP hw hK hc n pins s σ H E I hf st hg => ?_, fun X hP hw hK hc n pins s σ H E I hf st hg => ?_, fun A n s Q E st h => wpAny_pyIter_zip st.1.1 h⟩
  · obtain ⟨⟨s1, s2⟩, ⟨u, v, s3⟩, ⟨o1, e1, _, d1⟩, ⟨o2, e2, _, d2⟩⟩ := st
    rcases five_of hx with rfl | rfl | rfl | rfl | rfl
    · exact ⟨_, s1, fun v q => nomatch q⟩
    · exact ⟨_, s2, fun v q => nomatch q⟩
    · exact ⟨_, s3, fun v q => nomatch q⟩
    · exact ⟨o1, e1, fun v q => by rw [d1] at q; cases q⟩
    · exact ⟨o2, e2, fun v q => by rw [d2] at q; cases q⟩
  · obtain ⟨⟨s1, s2⟩, ⟨u, v, s3⟩, s4, s5⟩ := st
    exact ⟨⟨k z (by simp) _ s1, k c (by simp) _ s2⟩, ⟨u, v, k d (by simp) _ s3⟩, s4.at fun o q => k i (by simp) o q, s5.at fun o q => k j (by simp) o q⟩
  · subst hP hw hK
    obtain ⟨⟨s1, s2⟩, ⟨u, v, s3⟩, s4, s5⟩ := st
    obtain ⟨l, m, p, q, ⟨hl, hm⟩, hp, hq⟩ := hg
    obtain ⟨us, ru, pl, _⟩ := I.list hl
    obtain ⟨vs, rv, pt, _⟩ := I.tuple hm
    have hh : X.A.in1.handled = none := I.ok.hd hc
    obtain ⟨x, hx, rx⟩ := ru.get hp
    obtain ⟨y, hy, ry⟩ := rv.get hq
    have n1 : n < us.toArray.size := by simpa using (List.getElem?_eq_some_iff.mp hx).1
    have n2 : n < vs.toArray.size := by simpa using (List.getElem?_eq_some_iff.mp hy).1
    have zl : z < s.heap.objs.size := Heap.lt_size s1
    refine wpAny_pyNext_zipD2_item sep (Draws.list hh i a D.l1i1 us.toArray) (Draws.tuple hh j b D.l2i2 vs.toArray) s1 s2 s3 ⟨s4, pl.isList⟩ ⟨s5, pt⟩ n1 n2 fun x1 x2 h1 tk g1 g2 z1 t1 f1 f2 hT hsz hk => ?_
    have q1 : x1 = x := by simpa [hx] using g1.symm
    have q2 : x2 = y := by simpa [hy] using g2.symm
    subst q1 q2
    refine ⟨_, rfl, wpAny_letOwnedTupleGo_zip (s := { s with heap := h1, toks := tk }) z1 fun h2 z2 sb => ?_⟩
    have hT2 : h2.get? s.heap.objs.size = some _ := (sb.2 _ (Nat.ne_of_gt zl)).trans hT
    have new : ObjOk X.prog X.w (upd H s.heap.objs.size (.tup [p, q])) h2 s.heap.objs.size (.tup [p, q]) := ⟨(by decide : 2 ≤ sizeLine), [x1, x2], .cons rx (.cons ry .nil), ⟨_, hT2, rfl, _, rfl⟩⟩
    have I1 : Inv X pins σ (upd H s.heap.objs.size (.tup [p, q])) { s with heap := h2, toks := tk } := I.turnedNew (t' := tk) (ch := [z, c, d, i, j]) (fun x o hb e => (sb.2 x fun e' => hb (by simp [e'])).trans (hk x o (fun e' => hb (by simp [e'])) (fun e' => hb (by simp [e'])) (fun e' => hb (by simp [e'])) (fun e' => hb (by simp [e'])) e)) hf (Nat.le_refl _) new
    refine ⟨.ref s.heap.objs.size, _, I1, rfl, ⟨_, p, q, rfl, I.hok.fresh (Nat.le_refl _), rfl, fun l' h' => ?_, fun m' h' => by rw [I.tuple_inj h' hm]; exact hq⟩, ⟨⟨z2, (sb.2 _ D.TIz).trans (hk _ _ D.TIz D.TITO D.TIi1 D.TIi2 s2)⟩, ⟨x1, x2, (sb.2 _ D.TOz).trans t1⟩, f1.1.at fun o e => (sb.2 _ D.i1z).trans e, f2.1.at fun o e => (sb.2 _ D.i2z).trans e⟩, fun x hx => ?_⟩
    · rw [I.list_inj h' hl]; exact hp
    · have lt : x < s.heap.objs.size := by
        rcases five_of hx with rfl | rfl | rfl | rfl | rfl
        · exact zl
        · exact Heap.lt_size s2
        · exact Heap.lt_size s3
        · exact s4.elim fun _ e => Heap.lt_size e.1
        · exact s5.elim fun _ e => Heap.lt_size e.1
      rw [upd_ne (Nat.ne_of_lt lt)]
      exact (hf x hx).1
  · subst hP hw hK
    obtain ⟨⟨s1, s2⟩, ⟨u, v, s3⟩, s4, s5⟩ := st
    obtain ⟨l, m, ⟨hl, hm⟩, ⟨hl1, hm1⟩, he⟩ := hg
    obtain ⟨us, ru, pl, _⟩ := I.list hl
    obtain ⟨vs, rv, pt, _⟩ := I.tuple hm
    have hh : X.A.in1.handled = none := I.ok.hd hc
    have c1 : us.toArray.size = l.length := by rw [List.size_toArray]; exact ru.length.symm
    have c2 : vs.toArray.size = m.length := by rw [List.size_toArray]; exact rv.length.symm
    exact wpAny_pyNext_zipD2_end sep (Draws.list hh i a D.l1i1 us.toArray) (Draws.tuple hh j b D.l2i2 vs.toArray) s1 s2 s3 ⟨s4, pl.isList⟩ ⟨s5, pt⟩ (by omega) (by omega) (by omega) fun h1 tk hk => ⟨rfl, I.turnedL (t' := tk) (ch := [z, c, d, i, j]) (fun x o hb e => hk x o (fun e' => hb (by simp [e'])) (fun e' => hb (by simp [e'])) (fun e' => hb (by simp [e'])) (fun e' => hb (by simp [e'])) e) hf⟩
end CW
namespace CW
open PySem PySem.Spec PyProof.Rows L2
section
variable {C : Cf} {sc scope : Scope} {N : List Str} {k : Nat} {pos p2 p3 apos cpos : Pos} {e a b o tg iter elt : Expr} {m ma mb mo : EF} {es ifs : List Expr} {ms : List EF} {sts : List Stmt} {f : SF}
def iZipM (K : PySem.W.Frag) (ta : TA) : TI := fun σ H R => ta σ H fun vs H1 => ∃ a b l m, vs = [.ref a, .ref b] ∧ (SqL K H1 a l ∧ SqT K H1 b m) ∧ R (ItzM K a b) H1
theorem pi_zipM {X : Cx} {e1 e2 : Expr} {ta : TA} {p pos tpos : Pos} {elts : List Expr} {kk : Nat} (hg : Gl X "zip") (hm : X.mg "zip" = none) (ha : PA X [e1, e2] ta)
    (hs : starEach [e1, e2] X.env = (false, eval e1 X.env) :: starEach [e2] X.env) (hpl : (backTo pos (starEach [e2] X.env)).any (·.1) = false) : PI X (.Tuple elts kk tpos) (.Call (.Name "zip" p) [e1, e2] [] pos) (iZipM X.K ta) := ⟨fun pins s σ H R I h => by
  refine Call_ (ld_blt I hg hm boot_zip (callWith_type1 (thn (ha.run pos pins s σ H _ I h) fun us s1 ⟨vs, H1, I1, r1, q1⟩ => ?_) hs hpl))
  obtain ⟨a, b, l, m, rfl, ⟨hl, hm⟩, q⟩ := q1
  cases r1 with
  | cons r rr => cases rr with
    | cons r' rr =>
      cases rr; cases r; cases r'
      obtain ⟨us, ru, pl, _⟩ := I1.list hl
      obtain ⟨vs, rv, pt, _⟩ := I1.tuple hm
      obtain ⟨ot, hot, _⟩ := id pt
      refine zip_begins2 (begins_list a us.toArray) (begins_tuple b vs.toArray) pl.isList pt fun h1 z1 c1 d1 f1 f2 hsz hk => wpAny_pyIter_zip z1 ?_
      have I2 : Inv X pins σ H1 { s1 with heap := h1 } := I1.kept (t' := s1.toks) hk
      refine ⟨s1.heap.objs.size + 4, [s1.heap.objs.size + 4, s1.heap.objs.size + 2, s1.heap.objs.size + 3, s1.heap.objs.size, s1.heap.objs.size + 1], _, _, H1, rfl, I2, turn_zipM (PySem.W.ktu_apart s1.heap.objs.size a b pl.lt (Heap.lt_size hot)), ⟨⟨z1, c1⟩, ⟨_, _, d1⟩, ⟨_, f1, rfl, rfl⟩, ⟨_, f2, rfl, rfl⟩⟩, fun x hx => ?_, q⟩
      have hle : s1.heap.objs.size ≤ x := by rcases five_of hx with rfl | rfl | rfl | rfl | rfl <;> first | exact Nat.le_refl _ | exact Nat.le_add_right _ _
      exact I1.fpOk hle (I1.hok.fresh hle)⟩
theorem itm_ok {a b : Addr} {W : Wd} {H : Hp} {xs ys : List P} {us : List V} {g : Gd} (h : RowOk C.K a W H xs g) (h3 : SqT C.K H b us) (h4 : PVs C.K W.fr H us ys) : ItOk C.K (ItzM C.K a b) W H (zipP xs ys) g := fun W1 H1 s1 e A1 hg i => by
  obtain ⟨vs, h1, h2⟩ := h W1 H1 s1 e A1 hg
  have t3 := e.sqt h3
  have t4 := PVs.up e h4
  refine ⟨fun z hz => ?_, fun hi => ?_⟩
  · obtain ⟨x, y, hx, hy, rfl⟩ : ∃ x y, xs[i]? = some x ∧ ys[i]? = some y ∧ z = .tup [x, y] := by
      unfold zipP at hz
      rw [List.getElem?_zipWith] at hz
      cases e1 : xs[i]? with
      | none => rw [e1] at hz; cases hz
      | some x => cases e2 : ys[i]? with
        | none => rw [e1, e2] at hz; cases hz
        | some y => rw [e1, e2] at hz; exact ⟨x, y, rfl, rfl, (Option.some.inj hz).symm⟩
    obtain ⟨v, g1, g2⟩ := h2.get hx
    obtain ⟨u, g3, g4⟩ := t4.get hy
    refine ⟨⟨vs, us, v, u, ⟨h1, t3⟩, g1, g3⟩, fun w H' hw => ?_⟩
    obtain ⟨T, p, q, rfl, hT, rfl, hp, hq⟩ := hw
    have ev : Ev W1 H1 W1 (upd H1 T (.tup [p, q])) := Ev.new hT
    exact ⟨ev, .tup (SqT.of upd_same) (.cons (PV.up ev (h2.len_get hx (hp vs h1))) (.cons (PV.up ev (t4.len_get hy (hq us t3))) .nil)), A1.new hT⟩
  · have l1 := h2.len
    have l2 := t4.len
    unfold zipP at hi
    rw [List.length_zipWith] at hi
    exact ⟨vs, us, ⟨h1, t3⟩, by omega, by omega⟩
def zimI (ma mb : EF) : IF := fun ρ => bnd (ma ρ) fun x => bnd (mb ρ) fun y s => match rowD x s, y with
  | some r, .p (.tup ys) => .ok (zipP r.1 ys, r.2) s
  | _, _ => .bad
theorem i_zim {elts : List Expr} {kk : Nat} {tpos : Pos} (h : SE C sc N k a ma) (h' : SE C sc N k b mb) (hm : C.mg "zip" = none) (hg : GlS sc "zip" := by rfl) (hs : ∀ env, starEach [a, b] env = (false, eval a env) :: starEach [b] env := by intro _; rfl)
    (hs2 : ∀ env, starEach [b] env = (false, eval b env) :: starEach [] env := by intro _; rfl) (hp : ∀ env, (backTo pos (starEach [b] env)).any (·.1) = false := by intro _; rfl) :
    SI C sc N k (.Tuple elts kk tpos) (.Call (.Name "zip" p2) [a, b] [] pos) (zimI ma mb) := fun X ok => by
  obtain ⟨t, p, q⟩ := h X ok
  obtain ⟨t', p', q'⟩ := h' X ok
  refine ⟨_, pi_zipM (hg.of ok) (by rw [ok.em]; exact hm) (pa_cons p (pa_cons p' pa_nil (hs2 X.env)) (hs X.env)) (hs X.env) (hp X.env), fun σ H W s ρ R er A g => ?_⟩
  refine q σ H W s ρ _ er A ((Good.bnd g).mono fun d s1 z W1 H1 v e1 r1 A1 => ?_)
  refine q' σ H1 W1 s1 ρ _ (er.up e1) A1 ((Good.bnd z).mono fun d' s2 z2 W2 H2 v' e2 r2 A2 => ?_)
  split at z2
  · rename_i r ys hr
    obtain ⟨xs, gd⟩ := r
    obtain ⟨a, rfl, ⟨vs, h1⟩, h2⟩ := row_go (r1.up e2) A2 hr
    cases r2 with
    | tup h3 h4 =>
      rw [ok.eK]
      exact ⟨a, _, vs, _, rfl, ⟨h1, h3⟩, z2 W2 H2 _ (e1.trans e2) A2 (itm_ok h2 h3 h4)⟩
  · exact z2.elim
end
end CW
namespace CW
open PySem PySem.Spec PyProof.Rows L2
section
variable {C : Cf} {k : Nat}
theorem PVs.drop1 {K : PySem.W.Frag} {F : Addr → Prop} {H : Hp} : ∀ {vs : List V} {xs : List P}, PVs K F H vs xs → PVs K F H vs.dropLast xs.dropLast
  | _, _, .nil => .nil
  | _, _, .cons h .nil => .nil
  | _, _, .cons h (.cons h2 r) => .cons h (PVs.drop1 (.cons h2 r))
def popD : D → List D → M D := fun d ds s => match d, ds with
  | .obj n, [] => match s[n]? with
    | some (some (.lst xs)) => match xs[xs.length - 1]? with
      | some y => .ok (.p y) (s.set n (some (.lst xs.dropLast)))
      | none => .bad
    | _ => .bad
  | _, _ => .bad
theorem m_pop : MtS C k "list.pop" popD := fun X ok => ⟨_, mt_pop, fun W s H x d xs ds Q rx r A g => by
  unfold popD at g
  split at g
  · split at g
    · rename_i ys hn
      split at g
      · rename_i y hy
        obtain ⟨a, vs, ha, rfl, h1, h2⟩ := obj_lst rx A hn
        obtain ⟨u, h3, h4⟩ := h2.get hy
        cases r with
        | nil => exact ⟨a, vs, u, rfl, rfl, h1, by rw [h2.len]; exact h3, put_go A hn ha (PVs.drop1 h2) (d := .p y) h4 g⟩
      · exact g.elim
    · exact g.elim
  · exact g.elim⟩
def popk (xs : Option (List P)) (n : Nat) : M D := fun s => match xs with
  | some xs => match xs[xs.length - 1]? with
    | some y => .ok (.p y) (s.set n (some (.lst xs.dropLast)))
    | none => .bad
  | none => .bad
@[simp] theorem pop_obj (n : Nat) (s : S) : popD (.obj n) [] s = popk (lsAt n s) n s := by
  unfold popD popk lsAt
  dsimp only
  cases s[n]? with
  | none => rfl
  | some o => cases o with
    | none => rfl
    | some o => cases o <;> rfl
end
end CW

end
section
set_option maxRecDepth 100000
set_option maxHeartbeats 2000000
/-! CW, fifteenth part: in; isinstance of one of two classes; the least, the greatest, the sum of a list; more in place. -/
namespace CW
open PySem PySem.Spec PyProof.Rows L2
section
variable {C : Cf} {sc : Scope} {N : List Str} {k : Nat} {pos p2 : Pos} {e a b : Expr} {m ma mb : EF}
/-! ### in -/
def intsOf : List P → Option (List Int)
  | [] => some []
  | .int i :: r => (intsOf r).map (i :: ·)
  | _ => none
theorem intsOf_eq : ∀ {xs : List P} {is : List Int}, intsOf xs = some is → xs = is.map P.int
  | [], is, h => by
    cases h
    rfl
  | .int i :: r, is, h => by
    unfold intsOf at h
    cases hr : intsOf r with
    | none => rw [hr] at h; cases h
    | some js =>
      rw [hr] at h
      cases h
      rw [intsOf_eq hr]
      rfl
  | .non :: r, is, h => by cases h
  | .bl _ :: r, is, h => by cases h
  | .str _ :: r, is, h => by cases h
  | .ty _ :: r, is, h => by cases h
  | .ref _ :: r, is, h => by cases h
  | .tup _ :: r, is, h => by cases h
  | .lst _ :: r, is, h => by cases h
  | .con _ :: r, is, h => by cases h
theorem intsOf_map : ∀ is : List Int, intsOf (is.map P.int) = some is
  | [] => rfl
  | i :: r => by
    show (intsOf (r.map P.int)).map (i :: ·) = _
    rw [intsOf_map r]
    rfl
/-- x in a list of data; a whole number in a tuple of such -/
def inD (neg : Bool) (x y : D) : M D := fun s => match y with
  | .p (.tup ys) => match x, intsOf ys with
    | .p (.int i), some is => .ok (.p (.bl (if neg = true then !is.any fun j => decide (j = i) else is.any fun j => decide (j = i)))) s
    | _, _ => .bad
  | y => match toPyD x s, toPyD y s with
    | some d, some (.list ds) => if SeqAt.shaped d = true ∧ SeqAt.shaped (.list ds) = true then .ok (.p (.bl (if neg = true then !ds.any fun z => PyData.eqv z d else ds.any fun z => PyData.eqv z d))) s else .bad
    | _, _ => .bad
theorem inV_ints (i : Int) (is : List Int) : inV (.int i) (is.map V.int) = is.any fun j => decide (j = i) := by
  unfold inV
  rw [List.any_map]
  congr 1
theorem flat_ints (is : List Int) : (is.map V.int).all flatV = true := by
  rw [List.all_map]
  exact List.all_eq_true.mpr fun _ _ => rfl
theorem op_or2 {X : Cx} {f : Value → Value → Sem Value} {r r' : R2} (h : OpR X f r) (h' : OpR X f r') : OpR X f (fun x y H Q => r x y H Q ∨ r' x y H Q) := by
  intro pins s σ H x y v u Q I rx ry q
  rcases q with q | q
  · exact h pins s σ H x y v u Q I rx ry q
  · exact h' pins s σ H x y v u Q I rx ry q
theorem inD_go {neg : Bool} {W : Wd} {s : S} {H : Hp} {x y : V} {dx dy : D} {Q : VK} (rx : DV C.K W H x dx) (ry : DV C.K W H y dy) (A : Abs C.K W s H) (g : Good (inD neg dx dy s) (Po C.K W H Q)) :
    (∃ d ds, Dp C.K H x d ∧ Dp C.K H y (.list ds) ∧ SeqAt.shaped d = true ∧ SeqAt.shaped (.list ds) = true ∧ Q (.bl (if neg = true then !ds.any fun z => PyData.eqv z d else ds.any fun z => PyData.eqv z d)) H) ∨ rIn C.K neg x y H Q := by
  unfold inD at g
  split at g
  · rename_i ys
    split at g
    · rename_i i is h2
      cases ry with
      | tup hq hr =>
        have e := intsOf_eq h2
        subst e
        have e2 := hr.int_eq
        subst e2
        cases rx
        refine Or.inr ⟨_, _, rfl, Or.inr hq, rfl, flat_ints is, ?_⟩
        rw [inV_ints]
        cases neg
        · exact g W H _ Ev.rfl (PV.bl _) A
        · exact g W H _ Ev.rfl (PV.bl _) A
    · exact g.elim
  · split at g
    · rename_i d ds h1 h2
      split at g
      · rename_i hs
        exact Or.inl ⟨d, ds, DV.dp rx A h1, DV.dp ry A h2, hs.1, hs.2, g W H _ Ev.rfl (PV.bl _) A⟩
      · exact g.elim
    · exact g.elim
theorem u65 {X : Cx} (hr : Room k X.A) : X.A.units + 65 < cLine := by have := hr.un; omega
theorem o_in1 : OpS C k (compareOp .In) (inD false) := fun X ok => by
  refine ⟨_, op_or2 (op_inD (u65 ok.rm)) op_in_seq, fun W s H x y dx dy Q rx ry A g => ?_⟩
  rw [ok.eK]
  exact inD_go rx ry A g
theorem o_in2 : OpS C k (compareOp .NotIn) (inD true) := fun X ok => by
  refine ⟨_, op_or2 (op_notInD (u65 ok.rm)) op_notIn_seq, fun W s H x y dx dy Q rx ry A g => ?_⟩
  rw [ok.eK]
  exact inD_go rx ry A g
/-! ### the least, the greatest, the sum of a list -/
def isMin (is : List Int) : Option Int := match is with
  | [] => none
  | i :: r => some (r.foldl min i)
def isMax (is : List Int) : Option Int := match is with
  | [] => none
  | i :: r => some (r.foldl max i)
theorem foldl_min : ∀ (r : List Int) (i : Int), r.foldl min i ≤ i ∧ (∀ j ∈ r, r.foldl min i ≤ j) ∧ (r.foldl min i = i ∨ r.foldl min i ∈ r)
  | [], i => ⟨Int.le_refl _, fun _ h => absurd h (by simp), Or.inl rfl⟩
  | j :: r, i => by
    obtain ⟨h1, h2, h3⟩ := foldl_min r (min i j)
    refine ⟨by show r.foldl min (min i j) ≤ i; omega, fun z hz => ?_, ?_⟩
    · rcases List.mem_cons.mp hz with rfl | hz
      · show r.foldl min (min i z) ≤ z; omega
      · exact h2 z hz
    · show r.foldl min (min i j) = i ∨ r.foldl min (min i j) ∈ j :: r
      rcases h3 with h3 | h3
      · rcases Int.le_total i j with h | h
        · left; omega
        · right; rw [h3, Int.min_eq_right h]; exact List.mem_cons_self
      · exact Or.inr (List.mem_cons_of_mem _ h3)
theorem foldl_max : ∀ (r : List Int) (i : Int), i ≤ r.foldl max i ∧ (∀ j ∈ r, j ≤ r.foldl max i) ∧ (r.foldl max i = i ∨ r.foldl max i ∈ r)
  | [], i => ⟨Int.le_refl _, fun _ h => absurd h (by simp), Or.inl rfl⟩
  | j :: r, i => by
    obtain ⟨h1, h2, h3⟩ := foldl_max r (max i j)
    refine ⟨by show i ≤ r.foldl max (max i j); omega, fun z hz => ?_, ?_⟩
    · rcases List.mem_cons.mp hz with rfl | hz
      · show z ≤ r.foldl max (max i z); omega
      · exact h2 z hz
    · show r.foldl max (max i j) = i ∨ r.foldl max (max i j) ∈ j :: r
      rcases h3 with h3 | h3
      · rcases Int.le_total i j with h | h
        · right; rw [h3, Int.max_eq_right h]; exact List.mem_cons_self
        · left; omega
      · exact Or.inr (List.mem_cons_of_mem _ h3)
theorem isMin_is {is : List Int} {m n : Int} (h : isMin is = some n) (hm : m ∈ is) (hl : ∀ y, y ∈ is → m ≤ y) : m = n := by
  cases is with
  | nil => cases h
  | cons i r =>
    have e : r.foldl min i = n := Option.some.inj h
    obtain ⟨h1, h2, h3⟩ := foldl_min r i
    rw [e] at h1 h2 h3
    have u : n ≤ m := by
      rcases List.mem_cons.mp hm with rfl | hm
      · exact h1
      · exact h2 m hm
    have v : m ≤ n := by
      rcases h3 with h3 | h3
      · rw [h3]; exact hl i List.mem_cons_self
      · exact hl n (List.mem_cons_of_mem _ h3)
    omega
theorem isMax_is {is : List Int} {m n : Int} (h : isMax is = some n) (hm : m ∈ is) (hl : ∀ y, y ∈ is → y ≤ m) : m = n := by
  cases is with
  | nil => cases h
  | cons i r =>
    have e : r.foldl max i = n := Option.some.inj h
    obtain ⟨h1, h2, h3⟩ := foldl_max r i
    rw [e] at h1 h2 h3
    have u : m ≤ n := by
      rcases List.mem_cons.mp hm with rfl | hm
      · exact h1
      · exact h2 m hm
    have v : n ≤ m := by
      rcases h3 with h3 | h3
      · rw [h3]; exact hl i List.mem_cons_self
      · exact hl n (List.mem_cons_of_mem _ h3)
    omega
def agD (f : List Int → Option Int) : List D → M D := fun ds s => match ds with
  | [d] => match its d s with
    | some xs => match intsOf xs with
      | some is => match f is with
        | some n => .ok (.p (.int n)) s
        | none => .bad
      | none => .bad
    | none => .bad
  | _ => .bad
def minDL : List D → M D := agD isMin
def maxDL : List D → M D := agD isMax
def sumD : List D → M D := agD fun is => some is.sum
theorem agD_go {f : List Int → Option Int} {W : Wd} {s : S} {H : Hp} {xs : List V} {ds : List D} {Q : VK} (r : DVs C.K W H xs ds) (A : Abs C.K W s H) (g : Good (agD f ds s) (Po C.K W H Q)) : ∃ a is n, xs = [V.ref a] ∧ SqL C.K H a (is.map V.int) ∧ f is = some n ∧ Q (.int n) H := by
  unfold agD at g
  split at g
  · split at g
    · rename_i ys hx
      split at g
      · rename_i is hi
        split at g
        · rename_i n hn
          obtain ⟨x, rfl, h⟩ := dvs1 r
          obtain ⟨a, vs, rfl, h1, h2⟩ := its_sq h A hx
          have e := intsOf_eq hi
          subst e
          have e2 := h2.int_eq
          subst e2
          exact ⟨a, is, n, rfl, h1, hn, g W H _ Ev.rfl (PV.int _) A⟩
        · exact g.elim
      · exact g.elim
    · exact g.elim
  · exact g.elim
theorem c_minL : CaS C k (.builtin "min") minDL := fun X ok => ⟨_, cr_min ok.calm, fun W s H xs ds Q r A g => by
  rw [ok.eK]
  obtain ⟨a, is, n, rfl, h1, hn, q⟩ := agD_go r A g
  refine ⟨a, is, rfl, h1, ?_, fun m hm hl => by rw [isMin_is hn hm hl]; exact q⟩
  cases is with
  | nil => cases hn
  | cons _ _ => exact Nat.succ_pos _⟩
theorem c_maxL : CaS C k (.builtin "max") maxDL := fun X ok => ⟨_, cr_max ok.calm, fun W s H xs ds Q r A g => by
  rw [ok.eK]
  obtain ⟨a, is, n, rfl, h1, hn, q⟩ := agD_go r A g
  refine ⟨a, is, rfl, h1, ?_, fun m hm hl => by rw [isMax_is hn hm hl]; exact q⟩
  cases is with
  | nil => cases hn
  | cons _ _ => exact Nat.succ_pos _⟩
theorem c_sum : CaS C k (.builtin "sum") sumD := fun X ok => ⟨_, cr_sum ok.calm, fun W s H xs ds Q r A g => by
  rw [ok.eK]
  obtain ⟨a, is, n, rfl, h1, hn, q⟩ := agD_go r A g
  cases hn
  exact ⟨a, is, rfl, h1, q⟩⟩
/-! ### in place -/
theorem i_mul : OpS C k (inplaceOp .Mult) (ii (fun i j => decide (mulOk i j)) fun i j => .int (i * j)) := fun X ok => ⟨_, (opI (C := mulOk) (g := fun i j => i * j) fun i j _ _ _ _ _ hc q => imul_int q hc.ok), fun W s H x y dx dy Q rx ry A g => by
  obtain ⟨i, j, rfl, rfl, hc, q⟩ := ii_go rx ry g
  exact ⟨i, j, rfl, rfl, of_decide_eq_true hc, q W H _ Ev.rfl (PV.int _) A⟩⟩
/-! ### isinstance(x, (T, U)) -/
def isi2D (c1 c2 : String) (d : D) : M D := fun s => match tyD d s with
  | some z => match kitB z c1, kitB z c2 with
    | some b1, some b2 => .ok (.p (.bl (b1 || b2))) s
    | _, _ => .bad
  | none => .bad
def isi2E (c1 c2 : String) (ma : EF) : EF := fun ρ => bnd (ma ρ) (isi2D c1 c2)
theorem s_isi2 {x y : Str} {c1 c2 : String} {px py pt : Pos} {j : Nat} (ha : SE C sc N k a ma) (hmi : C.mg "isinstance" = none) (hmx : C.mg x = none) (hmy : C.mg y = none) (hvi : bootBuiltins "isinstance" = some (.builtin "isinstance")) (hvx : bootBuiltins x = some (.type c1)) (hvy : bootBuiltins y = some (.type c2))
    (hgi : GlS sc "isinstance" := by rfl) (hgx : GlS sc x := by rfl) (hgy : GlS sc y := by rfl) (hnx : x ≠ "__name__" := by decide) (hdx : (x == ("__debug__" : Str)) = false := by decide) (hny : y ≠ "__name__" := by decide) (hdy : (y == ("__debug__" : Str)) = false := by decide)
    (he : ∀ env, starEach [a, .Tuple [.Name x px, .Name y py] j pt] env = (false, eval a env) :: starEach [.Tuple [.Name x px, .Name y py] j pt] env := by intro _; rfl) (hp : ∀ env, (backTo pos (starEach [.Tuple [.Name x px, .Name y py] j pt] env)).any (·.1) = false := by intro _; rfl) :
    SE C sc N k (.Call (.Name "isinstance" p2) [a, .Tuple [.Name x px, .Name y py] j pt] [] pos) (isi2E c1 c2 ma) := fun X ok => by
  obtain ⟨t, p, q⟩ := ha X ok
  refine ⟨_, pe_callB call_isiT (hgi.of ok) (by rw [ok.em]; exact hmi) hvi (pa_cons (hs := he X.env) p (pa_cons (pe_tup (pa_cons (pe_bltn (hgx.of ok) (by rw [ok.em]; exact hmx) hvx (v := .ty c1) rfl hnx hdx) (pa_cons (pe_bltn (hgy.of ok) (by rw [ok.em]; exact hmy) hvy (v := .ty c2) rfl hny hdy) pa_nil))) pa_nil)) (by decide) (by decide) (he X.env) (hp X.env), fun σ H W s ρ Q er A g => ?_⟩
  refine q σ H W s ρ _ er A (g.bnd.mono fun d s1 z W1 H1 v e1 r1 A1 => ?_)
  refine ⟨(by decide : 2 ≤ sizeLine), fun o ho => ?_⟩
  unfold isi2D at z
  split at z
  · rename_i zt hz
    split at z
    · rename_i b1 b2 h1 h2
      rw [ok.eK]
      have A2 := A1.new (o := .tup [.ty c1, .ty c2]) ho
      have ev : Ev W1 H1 W1 (upd H1 o (.tup [.ty c1, .ty c2])) := Ev.new ho
      refine ⟨v, o, [.ty c1, .ty c2], _, [.type c1, .type c2], b1 || b2, rfl, upd_same, .cons (.ty _) (.cons (.ty _) .nil), tyX (DV.up ev r1) A2 hz, ?_, z W1 _ _ (e1.trans ev) (PV.bl _) A2⟩
      refine kitAny_cons (kit_ty h1) (fun hb => ?_) (fun hb => by rw [hb]; rfl)
      refine kitAny_cons (kit_ty h2) (fun hb2 => ?_) (fun hb2 => by rw [hb, hb2]; rfl)
      rw [hb, hb2]
      rfl
    · exact z.elim
  · exact z.elim
end
end CW

end
section
set_option maxRecDepth 100000
set_option maxHeartbeats 2000000
/-! CW, sixteenth part: what raises. -/
namespace CW
open PySem PySem.Spec PyProof.Rows L2
/-- a piece that is not asked to raise -/
def R.nox {α : Type} : R α → R α
  | .ok a s => .ok a s
  | .bad => .bad
  | .exn _ _ => .bad
def noX {α : Type} (m : En → M α) : En → M α := fun ρ s => R.nox (m ρ s)
@[simp] theorem R.nox_ok {α : Type} (a : α) (s : S) : R.nox (.ok a s) = .ok a s := rfl
@[simp] theorem R.nox_bad {α : Type} : R.nox (.bad : R α) = .bad := rfl
@[simp] theorem R.nox_exn {α : Type} (c : Xc) (s : S) : R.nox (.exn c s : R α) = .bad := rfl
@[simp] theorem noX_ev {α : Type} (m : En → M α) (ρ : En) (s : S) : noX m ρ s = R.nox (m ρ s) := rfl
theorem nox_good {α : Type} {r : R α} {Q : α → S → Prop} {E : Xc → S → Prop} (h : GoodX (R.nox r) Q E) : Good r Q := by
  cases r with
  | ok a s => exact h
  | bad => exact h
  | exn c s => exact h.elim
/-- what is raised, as a wish -/
def XdOk (K : PySem.W.Frag) (F : Addr → Prop) (H : Hp) : Option (Str × P) → Option Addr → Prop
  | none, d => ∀ dx, d = some dx → F dx ∧ ∃ fs, H dx = some (.xd fs)
  | some (f, x), d => ∃ dx v, d = some dx ∧ F dx ∧ H dx = some (.xd [(f, v)]) ∧ PV K F H v x
def PoE (K : PySem.W.Frag) (W : Wd) (H : Hp) (E : XK) : Xc → S → Prop := fun c s => ∀ W' H' A d, Ev W H W' H' → Abs K W' s H' → NmC K c.c A → XdOk K W'.fr H' c.x d → E (.ref A) d H'
/-- a caught exception as a value -/
theorem XdOk.pv {K : PySem.W.Frag} {W : Wd} {H : Hp} {c : Xc} {a A : Addr} {d : Option Addr} (nm : NmC K c.c A) (na : H a = none) (h : XdOk K W.fr H c.x d) (ek : Ev W H (W.keep a) (upd H a (ExO a A d))) : PV K (W.keep a).fr (upd H a (ExO a A d)) (.ref a) c.toP := by
  obtain ⟨c, x⟩ := c
  cases x with
  | none =>
    refine PV.exn nm (Or.inr rfl) upd_same fun dx z => ?_
    obtain ⟨f1, fs, f2⟩ := h dx z
    exact ⟨Or.inl f1, fs, by rw [upd_ne (ne_of_none f2 na)]; exact f2⟩
  | some fx =>
    obtain ⟨f, x⟩ := fx
    obtain ⟨dx, v, rfl, f1, f2, r⟩ := h
    exact PV.exf nm (Or.inr rfl) upd_same (Or.inl f1) (by rw [upd_ne (ne_of_none f2 na)]; exact f2) (PV.up ek r)
theorem PoE.up {K : PySem.W.Frag} {W W' : Wd} {H H' : Hp} {E : XK} {c : Xc} {s : S} (e : Ev W H W' H') (h : PoE K W H E c s) : PoE K W' H' E c s := fun W2 H2 A d e2 => h W2 H2 A d (e.trans e2)
theorem PoE.imp {K : PySem.W.Frag} {W : Wd} {H : Hp} {E E' : XK} {c : Xc} {s : S} (k : ∀ cls d H, E cls d H → E' cls d H) (h : PoE K W H E c s) : PoE K W H E' c s := fun W2 H2 A d e2 A2 n f => k _ _ _ (h W2 H2 A d e2 A2 n f)
/-- an expression, arguments, a statement, a block that may raise -/
def SEX (C : Cf) (sc : Scope) (N : List Str) (k : Nat) (e : Expr) (m : EF) : Prop :=
  ∀ X WW, Cok C sc N k X → Takes X WW → ∃ t, PE X e t ∧ ∀ σ H W s ρ Q, ER C W H σ ρ → Abs C.K W s H → GoodX (m ρ s) (Po C.K W H Q) (PoE C.K W H fun c d H' => WW c d σ H') → t σ H Q
def SAX (C : Cf) (sc : Scope) (N : List Str) (k : Nat) (es : List Expr) (m : AF) : Prop :=
  ∀ X WW, Cok C sc N k X → Takes X WW → ∃ t, PA X es t ∧ ∀ σ H W s ρ Q, ER C W H σ ρ → Abs C.K W s H → GoodX (m ρ s) (PoA C.K W H Q) (PoE C.K W H fun c d H' => WW c d σ H') → t σ H Q
def STX (C : Cf) (sc : Scope) (N : List Str) (k : Nat) (e : Expr) (m : TF) : Prop :=
  ∀ X WW, Cok C sc N k X → Takes X WW → ∃ t, PT X e t ∧ ∀ σ H W s ρ Q, ER C W H σ ρ → Abs C.K W s H → GoodX (m ρ s) (PoT C.K W H Q) (PoE C.K W H fun c d H' => WW c d σ H') → t σ H Q
def SSX (C : Cf) (sc : Scope) (N : List Str) (k : Nat) (st : Stmt) (m : SF) : Prop :=
  ∀ X WW, Cod C sc N k X → Takes X WW → ∃ t, PS X st t ∧ ∀ D σ H W s ρ, ER C W H σ ρ → Abs C.K W s H → GoodX (m ρ s) (PoF C W H D) (PoE C.K W H fun c d H' => ∀ σ', WW c d σ' H') → t D σ H
def SBX (C : Cf) (sc : Scope) (N : List Str) (k : Nat) (st : List Stmt) (m : SF) : Prop :=
  ∀ X WW, Cod C sc N k X → Takes X WW → ∃ t, PSs X st t ∧ ∀ D σ H W s ρ, ER C W H σ ρ → Abs C.K W s H → GoodX (m ρ s) (PoF C W H D) (PoE C.K W H fun c d H' => ∀ σ', WW c d σ' H') → t D σ H
section
variable {C : Cf} {sc : Scope} {N : List Str} {k : Nat} {pos p2 : Pos} {e a b tg : Expr} {m ma mb : EF} {es : List Expr} {ms : List EF} {st : Stmt} {sts : List Stmt} {f g : SF}
theorem ex_lift (h : SE C sc N k e m) : SEX C sc N k e (noX m) := fun X WW ok tk => by
  obtain ⟨t, p, q⟩ := h X ok
  exact ⟨t, p, fun σ H W s ρ Q er A g => q σ H W s ρ Q er A (nox_good g)⟩
theorem tx_lift {t : TF} (h : ST C sc N k e t) : STX C sc N k e (noX t) := fun X WW ok tk => by
  obtain ⟨t, p, q⟩ := h X ok
  exact ⟨t, p, fun σ H W s ρ Q er A g => q σ H W s ρ Q er A (nox_good g)⟩
theorem xx_lift (h : SS C sc N k st f) : SSX C sc N k st (noX f) := fun X WW ok tk => by
  obtain ⟨t, p, q⟩ := h X ok
  exact ⟨t, p, fun D σ H W s ρ er A g => q D σ H W s ρ er A (nox_good g)⟩
theorem bx_lift (h : SB C sc N k sts f) : SBX C sc N k sts (noX f) := fun X WW ok tk => by
  obtain ⟨t, p, q⟩ := h X ok
  exact ⟨t, p, fun D σ H W s ρ er A g => q D σ H W s ρ er A (nox_good g)⟩
abbrev SAXs (C : Cf) (sc : Scope) (N : List Str) (k : Nat) (es : List Expr) (ms : List EF) : Prop := SAX C sc N k es (evA ms)
theorem ax_nil : SAXs C sc N k [] [] := fun X WW ok tk => ⟨_, pa_nil, fun σ H W s ρ Q er A g => g W H [] Ev.rfl .nil A⟩
theorem GoodX.len {ms : List EF} {ρ : En} {s : S} {Q : List D → S → Prop} {E : Xc → S → Prop} (h : GoodX (evA ms ρ s) Q E) : GoodX (evA ms ρ s) (fun ds s' => ds.length = ms.length ∧ Q ds s') E := by
  cases e : evA ms ρ s with
  | ok ds s' =>
    rw [e] at h
    exact ⟨evA_len ms e, h⟩
  | bad =>
    rw [e] at h
    exact h
  | exn _ _ =>
    rw [e] at h
    exact h
/-! ### blocks -/
theorem bx_nil : SBX C sc N k [] nopF := fun X WW ok tk => ⟨_, pss_nil, fun D σ H W s ρ er A g => g W H σ Ev.rfl er A⟩
theorem xx_ret (h : SEX C sc N k e m) : SSX C sc N k (.Return (some e) pos) (retF m) := fun X WW ok tk => by
  obtain ⟨t, p, q⟩ := h X WW ok.toCok tk
  refine ⟨_, ps_ret p, fun D σ H W s ρ er A g => ?_⟩
  exact q σ H W s ρ _ er A ((GoodX.bnd g).mono (fun d s1 w W1 H1 v e1 r1 A1 => w W1 H1 v e1 r1 A1) fun c s1 w => w.imp fun _ _ _ z => z σ)
theorem xx_exp (h : SEX C sc N k e m) (hs : ∀ env, swapsWith e none pos.line env = pure false := by intro _; rfl) : SSX C sc N k (.Expr e pos) (expF m) := fun X WW ok tk => by
  obtain ⟨t, p, q⟩ := h X WW ok.toCok tk
  refine ⟨_, ps_expr p (hs X.env), fun D σ H W s ρ er A g => ?_⟩
  exact q σ H W s ρ _ er A ((GoodX.bnd g).mono (fun d s1 w W1 H1 v e1 r1 A1 => w W1 H1 σ e1 (er.up e1) A1) fun c s1 w => w.imp fun _ _ _ z => z σ)
theorem ax_cons (h : SEX C sc N k e m) (h2 : SAXs C sc N k es ms) (he : ∀ env, starEach (e :: es) env = (false, eval e env) :: starEach es env := by intro _; rfl) : SAXs C sc N k (e :: es) (m :: ms) := fun X WW ok tk => by
  obtain ⟨t, p, q⟩ := h X WW ok tk
  obtain ⟨u, p', q'⟩ := h2 X WW ok tk
  refine ⟨_, pa_cons p p' (he X.env), fun σ H W s ρ Q er A G => ?_⟩
  refine q σ H W s ρ _ er A ((GoodX.bnd G).mono (fun d s1 h1 W1 H1 v e1 r1 A1 => ?_) fun c s1 w => w)
  refine q' σ H1 W1 s1 ρ _ (er.up e1) A1 ((GoodX.bnd h1).mono (fun ds s2 h3 W2 H2 vs e2 r2 A2 => ?_) fun c s1 w => w.up e1)
  exact h3 W2 H2 (v :: vs) (e1.trans e2) (.cons (r1.up e2) r2) A2
theorem bx_one (h : SSX C sc N k st f) : SBX C sc N k [st] f := fun X WW ok tk => by
  obtain ⟨t, p, q⟩ := h X WW ok tk
  exact ⟨_, pss_one p, q⟩
theorem bx_cons (h : SSX C sc N k st f) (h2 : SBX C sc N k sts g) : SBX C sc N k (st :: sts) (seqF f g) := fun X WW ok tk => by
  obtain ⟨t, p, q⟩ := h X WW ok tk
  obtain ⟨u, p', q'⟩ := h2 X WW ok tk
  refine ⟨_, pss_cons p p', fun D σ H W s ρ er A G => ?_⟩
  refine q { D with nx := u D } σ H W s ρ er A ((GoodX.bnd G).mono (fun r s1 h1 => ?_) fun c s1 w => w)
  cases r with
  | nx ρ' => exact fun W1 H1 σ1 e1 er1 A1 => q' D σ1 H1 W1 s1 ρ' er1 A1 (GoodX.mono h1 (fun _ _ z => z.up e1) fun _ _ z => z.up e1)
  | rt d => exact h1
  | bk ρ' => exact h1
  | ct ρ' => exact h1
theorem xx_if {c : Expr} {ys ns : List Stmt} {t : TF} (hc : STX C sc N k c t) (hy : SBX C sc N k ys f) (hn : SBX C sc N k ns g) : SSX C sc N k (.If c ys ns pos) (iffF t f g) := fun X WW ok tk => by
  obtain ⟨t, p, q⟩ := hc X WW ok.toCok tk
  obtain ⟨u, p', q'⟩ := hy X WW ok tk
  obtain ⟨v, p2, q2⟩ := hn X WW ok tk
  refine ⟨_, ps_if p p' p2, fun D σ H W s ρ er A G => ?_⟩
  refine q σ H W s ρ _ er A ((GoodX.bnd G).mono (fun c s1 h1 W1 H1 e1 A1 => ?_) fun c s1 w => w.imp fun _ _ _ z => z σ)
  cases c with
  | true => exact iteT (q' D σ H1 W1 s1 ρ (er.up e1) A1 (GoodX.mono h1 (fun _ _ z => z.up e1) fun _ _ z => z.up e1))
  | false => exact iteF (q2 D σ H1 W1 s1 ρ (er.up e1) A1 (GoodX.mono h1 (fun _ _ z => z.up e1) fun _ _ z => z.up e1))
def noG (g : GF) : GF := fun d => noX (g d)
@[simp] theorem noG_ev (g : GF) (d : D) (ρ : En) (s : S) : noG g d ρ s = R.nox (g d ρ s) := rfl
theorem xx_asg {h : GF} {pl : List Nat} (he : SEX C sc N k e m) (hg : SG C sc N k tg h pl) (hs : ∀ env : Env, env.scope = sc → swapsWithSole [tg] e pos.line env = pure false := by intro _ _; rfl) (hw : ∀ env : Env, env.scope = sc → swappedStores [tg] e env = pure none := by intro _ _; rfl)
    (h1 : ∀ env, (assignEach [tg] env).map (·.2) = [assign tg env] := by intro _; rfl) : SSX C sc N k (.Assign [tg] e pos) (asgF m (noG h)) := fun X WW ok tk => by
  obtain ⟨t, p, q⟩ := he X WW ok.toCok tk
  obtain ⟨u, p', q'⟩ := hg X ok.toCok
  refine ⟨_, ps_asg p p' (hs X.env ok.eS) (hw X.env ok.eS) (h1 X.env), fun D σ H W s ρ er A g => ?_⟩
  refine q σ H W s ρ _ er A ((GoodX.bnd g).mono (fun d s1 z W1 H1 v e1 r1 A1 => ?_) fun c s1 w => w.imp fun _ _ _ z => z σ)
  refine q' v d σ H1 W1 s1 ρ _ r1 (er.up e1) A1 ((nox_good (GoodX.bnd z)).mono fun ρ' s2 z2 W2 H2 σ2 e2 er2 A2 _ => ?_)
  exact z2 W2 H2 σ2 (e1.trans e2) er2 A2
theorem xx_for {tg iter : Expr} {i : IF} {t : GF} {pl : List Nat} (hi : SI C sc N k tg iter i) (hg : SG C sc N k tg t pl) (hb : SBX C sc N k sts f) (hs : ∀ env x, foldedSetIterable iter env x = pure x := by intro _ _; rfl) : SSX C sc N k (.For tg iter sts [] pos) (forF (noX i) (noG t) f) := fun X WW ok tk => by
  obtain ⟨ti, p, q⟩ := hi X ok.toCok
  obtain ⟨tt, p', q'⟩ := hg X ok.toCok
  obtain ⟨tb, p2, q2⟩ := hb X WW ok tk
  refine ⟨_, ps_for ok.po ok.calm p p' p2 (hs X.env), fun D σ H W s ρ er A g => ?_⟩
  refine q σ H W s ρ _ er A ((nox_good (GoodX.bnd g)).mono fun xg s1 z W1 H1 J e1 A1 io => ?_)
  obtain ⟨xs, gd⟩ := xg
  refine ⟨fun i m σ' H' => ∃ W' s' ρ', Ev W1 H1 W' H' ∧ ER C W' H' σ' ρ' ∧ Abs C.K W' s' H' ∧ i + m = xs.length ∧ GoodX (forL gd (noG t) f (xs.drop i) ρ' s') (PoF C W' H' D) (PoE C.K W' H' fun c d H' => ∀ σ', WW c d σ' H'),
    ⟨xs.length, W1, s1, ρ, Ev.rfl, er.up e1, A1, by simp, GoodX.mono z (fun _ _ w => w.up e1) fun _ _ w => w.up e1⟩, ?_⟩
  rintro i m σ2 H2 ⟨W2, s2, ρ2, e2, er2, A2, hm, g2⟩
  by_cases hi : i < xs.length
  · rw [List.drop_eq_getElem_cons hi] at g2
    unfold forL at g2
    split at g2
    · rename_i gk
      obtain ⟨hgo, hy⟩ := (io W2 H2 s2 e2 A2 gk i).1 xs[i] (List.getElem?_eq_getElem hi)
      refine Or.inr ⟨hgo, fun σ' H' => ∃ W' s' ρ', Ev W1 H1 W' H' ∧ ER C W' H' σ' ρ' ∧ Abs C.K W' s' H' ∧ GoodX (forL gd (noG t) f (xs.drop (i + 1)) ρ' s') (PoF C W' H' D) (PoE C.K W' H' fun c d H' => ∀ σ', WW c d σ' H'), ?_, fun v H3 hv => ?_⟩
      · rintro σ' H' ⟨W', s', ρ', a1, a2, a3, a4⟩
        exact ⟨m - 1, by omega, W', s', ρ', a1, a2, a3, by omega, a4⟩
      · obtain ⟨e3, r3, A3⟩ := hy v H3 hv
        refine q' v _ σ2 H3 W2 s2 ρ2 _ (show DV C.K W2 H3 v (.p xs[i]) from r3) (er2.up e3) A3 ((nox_good (GoodX.bnd g2)).mono fun ρ1 s4 z4 W4 H4 σ4 e4 er4 A4 _ => ?_)
        have e34 := e3.trans e4
        refine q2 _ σ4 H4 W4 s4 ρ1 er4 A4 ((GoodX.bnd z4).mono (fun r s5 z5 => ?_) fun c s5 w => w.up e34)
        cases r with
        | nx ρ' => exact fun W5 H5 σ5 e5 er5 A5 => ⟨W5, s5, ρ', (e2.trans e34).trans e5, er5, A5, GoodX.mono z5 (fun _ _ w => w.up (e34.trans e5)) fun _ _ w => w.up (e34.trans e5)⟩
        | ct ρ' => exact fun W5 H5 σ5 e5 er5 A5 => ⟨W5, s5, ρ', (e2.trans e34).trans e5, er5, A5, GoodX.mono z5 (fun _ _ w => w.up (e34.trans e5)) fun _ _ w => w.up (e34.trans e5)⟩
        | bk ρ' => exact fun W5 H5 σ5 e5 er5 A5 => z5 W5 H5 σ5 (e34.trans e5) er5 A5
        | rt d => exact fun W5 H5 v5 e5 r5 A5 => z5 W5 H5 v5 (e34.trans e5) r5 A5
    · exact g2.elim
  · rw [List.drop_eq_nil_of_le (Nat.le_of_not_lt hi)] at g2
    unfold forL at g2
    split at g2
    · rename_i gk
      exact Or.inl ⟨(io W2 H2 s2 e2 A2 gk i).2 (show xs.length = i by omega), g2 W2 H2 σ2 Ev.rfl er2 A2⟩
    · exact g2.elim
open Classical in
theorem finX_good {s s' : S} {d : D} {Q : D → S → Prop} {E : Xc → S → Prop} (h : GoodX (fin s d s') Q E) : Good (fin s d s') Q := by
  cases d with
  | p x =>
    unfold fin at h ⊢
    by_cases hk : Keeps s s'
    · simp only [if_pos hk] at h ⊢
      exact h
    · simp only [if_neg hk] at h ⊢
      exact h
  | obj n =>
    unfold fin at h ⊢
    by_cases hn : n < s.length
    · by_cases hk : Keeps s s'
      · simp only [if_pos hn, if_pos hk] at h ⊢
        exact h
      · simp only [if_pos hn, if_neg hk] at h ⊢
        exact h
    · simp only [if_neg hn] at h ⊢
      exact h
/-! ### defs that raise -/
structure FnX (C : Cf) (k : Nat) (f : Addr) (fd : FuncData) (ps : List Str) (sp : Sp) : Prop where
  len : ∀ vs H Q E, sp vs H Q E → vs.length = ps.length
  run : ∀ (A : Around) (outer : List Env) (s : Shared) (H : Hp) (args : Args) (us : List Value) (vs : List V) (Q : VK) (E : XK),
    Room k A → (C.rg = true → A.guards = some []) → Env0 C.pg C.w C.K C.mg C.base A outer s H → BindsTo s fd args (ps.zip us) → Vals vs us → sp vs H Q E →
      codeAny (model C.pg C.w) A (.call (.ref f) args) (CR (L2.CX C.pg C.w) outer C.pg C.w H s Q E) s
theorem FnX.mono {C : Cf} {j k : Nat} {f : Addr} {fd : FuncData} {ps : List Str} {sp : Sp} (F : FnX C j f fd ps sp) (h : j ≤ k) : FnX C k f fd ps sp :=
  ⟨F.len, fun A outer s H args us vs Q E hr => F.run A outer s H args us vs Q E (hr.mono h)⟩
/-- what m does, as a promise, with what it raises -/
def spX (C : Cf) (n : Nat) (m : List D → M D) : Sp := fun vs H Q E => vs.length = n ∧ ∃ W s ds, DVs C.K W H vs ds ∧ W.tb = C.tb ∧ Abs C.K W s H ∧ GoodX (m ds s) (Po C.K W H Q) (PoE C.K W H E)
/-- a def that raises, where it does not -/
theorem FnX.fn {C : Cf} {j n : Nat} {f : Addr} {fd : FuncData} {ps : List Str} {m : List D → M D} (F : FnX C j f fd ps (spX C n m)) : Fn C j f fd ps (spM C n m) :=
  ⟨fun vs H Q E h => F.len vs H Q (fun _ _ _ => False) ⟨h.1, by
    obtain ⟨_, W, s, ds, r, hT, A, g⟩ := h
    exact ⟨W, s, ds, r, hT, A, g.x _⟩⟩, fun A outer s H args us vs Q E hr hg e0 hb r h => by
    obtain ⟨h0, W, s0, ds, rd, hT, A0, g⟩ := h
    refine codeAny_mono (F.run A outer s H args us vs Q (fun _ _ _ => False) hr hg e0 hb r ⟨h0, W, s0, ds, rd, hT, A0, g.x _⟩) fun q s' hq => ?_
    match q, hq with
    | .error _, ⟨_, _, _, _, _, _, _, _, _, _, _, _, hE⟩ => exact hE.elim
    | .ok (.ret u), hq => exact hq⟩
theorem run_callX {X : Cx} {WW : WX} {j : Nat} {f : Addr} {fd : FuncData} {ps : List Str} {sp : Sp} {pins : List (Addr × Obj)} {σ : L2.St} {H : Hp} {s : Shared} {Q : VK} {us : List Value} {vs : List V} (F : FnX C j f fd ps sp) (ok : Okx C j X) (tk : Takes X WW) (hb : Binds C.K fd ps []) (I : Inv X pins σ H s) (r : Vals vs us)
    (h : sp vs H Q (WE WW σ)) : wpAny (model X.prog X.w) X.A (call (.ref f) us) (EP X pins σ Q) X.xe s := by
  have hl : us.length = ps.length := by rw [← r.length]; exact F.len _ _ _ _ h
  have e0 := I.env0
  have kin := I.kIn
  rw [ok.pr, ok.ew, ok.eK, ok.em, ok.eb] at e0
  rw [ok.eK] at kin
  have hbt := hb s us kin (by rw [List.append_nil]; exact hl)
  rw [List.append_nil] at hbt
  have run := F.run X.A X.stack s H ⟨us, []⟩ us vs Q _ ok.rm ok.gd e0 hbt r h
  rw [← ok.pr, ← ok.ew] at run
  refine wpAny_call (codeAny_mono run fun q s' hq => ?_)
  match q, hq with
  | .error e, hq => exact passAt tk σ pins H s e s' I hq
  | .ok (.ret u), hq => exact I.after hq
theorem ex_call {x : Str} {j : Nat} {f : Addr} {fd : FuncData} {ps : List Str} {m : List D → M D} {n : Nat} (F : FnX C j f fd ps (spX C n m)) (hj : j ≤ k) (hm : C.mg x = some (.ref f)) (hk : PySem.W.keepIn C.K (.ref f) = true) (hb : Binds C.K fd ps [])
    (ha : SAXs C sc N k (e :: es) ms) (hg : GlS sc x := by rfl) (hn : ms.length = n := by rfl) (hd : (x == ("__debug__" : Str)) = false := by decide)
    (he : ∀ env, starEach (e :: es) env = (false, eval e env) :: starEach es env := by intro _; rfl) (hp : ∀ env, (backTo pos (starEach es env)).any (·.1) = false := by intro _; rfl) :
    SEX C sc N k (.Call (.Name x p2) (e :: es) [] pos) (calE m ms) := fun X WW ok tk => by
  obtain ⟨t, p, q⟩ := ha X WW ok tk
  refine ⟨fun σ H Q => t σ H fun vs H1 => spX C n m vs H1 Q (WE WW σ), ⟨fun pins s σ H Q I h => ?_⟩, fun σ H W s ρ Q er A g => ?_⟩
  · refine wpAny_Call_Name_kw (ld_glob I (hg.of ok) (by rw [ok.em]; exact hm) ?_ hd)
    refine PySem.W.callWith_K (h₀ := X.base) I.ok.mod.kin (by rw [ok.eK]; exact hk) (thn (p.run pos pins s σ H _ I h) fun us s1 ⟨vs, H1, I1, r, q1⟩ => ⟨I1.kIn, ?_⟩) (he X.env) (hp X.env)
    have ok' : Okx C k X := ok.toOkx
    exact run_callX (F.mono hj) ok' tk hb I1 r q1
  · refine q σ H W s ρ _ er A (g.bnd.len.mono (fun ds s1 ⟨z, h1⟩ W1 H1 vs e1 r1 A1 => ?_) fun c s1 w => w)
    exact ⟨by rw [Paired.length r1, z]; exact hn, W1, s1, ds, r1, (er.up e1).tb, A1, h1.mono (fun _ _ w => w.up e1) fun _ _ w => w.up e1⟩
/-- a def by its body, with what it raises -/
theorem fnX_body {x qual : Str} {st : Stmt} {f : Addr} {fd : FuncData} {dV : Value} {ps : List Str} {m : SF} (F : FunA C.K x qual st f fd dV) (Sc : FnScope N ps (defScope st)) (hb : SBX C (defScope st) N k (defBody st) m) (hX : C.ex = fun _ => True) (hq : ∀ v q, C.cq = some (v, q) → v = fd.code ∧ q = qual ++ ".<locals>.") : FnX C (k + 1) f fd ps (spX C ps.length (defM ps.length N.length m)) := by
  obtain ⟨oc, od, kV, doc, pm, an, cdv, ct, osl, rfl, lk, hcd⟩ := F.ex
  refine ⟨fun vs H Q E h => h.1, fun A outer s H args us vs Q E hr hgd e0 bd r hsp => ?_⟩
  have hl : vs.length = ps.length := hsp.1
  have kin : C.K.In s.heap := e0.mod.kin.keeps fun b o e => (e0.bs b o e).1
  have lim : s.heap.NoLimit := e0.mod.nolimit.keeps fun b o e => (e0.bs b o e).1
  refine codeAny_call_function hr.depth (kin _ _ lk) rfl Sc.co Sc.gen rfl (PySem.W.codeRec_of kin hcd) (bd _ _ _ _ ?_)
  refine wpAny_newFunctionEnv_cells Sc.kind (fun y hy => ?_) fun env he s1 ic => ?_
  · rcases Sc.par y.1 (List.of_mem_zip (show (y.1, y.2) ∈ ps.zip us from hy)).1 with q | q
    · exact Or.inl q
    · exact Or.inr ⟨q, PySem.W.cellsFrom_some _ _ _ (Or.inl q)⟩
  · subst he
    refine ⟨lim.keeps ic.toInCall.keep, codeAny_func ?_⟩
    have I : Inv (cxOf (L2.CX C.pg C.w) C.pg C.w C.K C.mg C.base N qual (defScope st) f cdv A outer s H E) [] (L2.start N vs) H s1 := inv_start Sc hr.hd e0 hl r ic
    have cod : Cod C (defScope st) N k (cxOf (L2.CX C.pg C.w) C.pg C.w C.K C.mg C.base N qual (defScope st) f cdv A outer s H E) :=
      { pr := rfl, ew := rfl, eK := rfl, em := rfl, eb := rfl, calm := rfl, rm := hr.deeper _, gd := hgd, nN := rfl, nd := Sc.nd, eL := Lik.rfl, po := passes_of rfl, fc := fun _ _ => rfl, eS := rfl, sk := rfl, fm := rfl, nx := rfl, cx := by rw [hX]; trivial, cq := fun v q h => ⟨(hq v q h).1.symm, (hq v q h).2.symm⟩ }
    obtain ⟨t, p, q⟩ := hb _ (fun cls d _ H' => E cls d H') cod (takes_of rfl rfl rfl rfl)
    obtain ⟨_, W, s0, ds, rd, hT, A0, g⟩ := hsp
    have hds : ds.length = ps.length := by rw [← Paired.length rd]; exact hl
    unfold defM at g
    rw [if_pos hds] at g
    have end_ : ∀ {d : D} {s' : S}, GoodX (fin s0 d s') (Po C.K W H Q) (PoE C.K W H E) → Po C.K W H Q d s' := fun {d s'} h W' H' v e rv A' => fin_go A0 e rv A' (finX_good h)
    have run := q { nx := fun _ H' => Q .non H', rt := Q } (L2.start N vs) H W s0 _ (start_er rd hT hl) A0 (by
      cases e : m (ds.map some ++ List.replicate (N.length - ps.length) none) s0 with
      | bad =>
        rw [e] at g
        exact g
      | exn _ _ =>
        rw [e] at g
        exact PoE.imp (fun _ _ _ z _ => z) g
      | ok fl s' =>
        rw [e] at g
        cases fl with
        | rt d => exact end_ g
        | nx ρ => exact fun W' H' σ' ev er A' => end_ (d := .p .non) g W' H' .non ev PV.non A'
        | bk ρ => exact g.elim
        | ct ρ => exact g.elim)
    refine wpAny_mono (p.run [] s1 (L2.start N vs) H _ I run) (fun fl s' hs => ?_) fun e s' hs => hs
    have done : ∀ {σ' : L2.St} {H' : Hp} {v : V} {u : Value}, Inv (cxOf (L2.CX C.pg C.w) C.pg C.w C.K C.mg C.base N qual (defScope st) f cdv A outer s H E) [] σ' H' s' → RelV v u → Q v H' → CE outer C.pg C.w H s Q u s' :=
      fun {σ' H' v u} J rv w => ⟨v, H', J.os, J.bare, J.base, J.hok, rv, w⟩
    match fl, hs with
    | .ret u, ⟨v, σ', H', J, rv, w⟩ => exact done J rv w
    | .next, ⟨σ', H', J, w⟩ => exact done (v := V.non) (u := Value.none) J rfl w
    | .brk, ⟨_, _, _, w⟩ => exact False.elim w
    | .cont, ⟨_, _, _, w⟩ => exact False.elim w
/-! ### raise -/
/-- the class c of the top, whose own __init__(self, w) stores w at f -/
structure XKl (K : PySem.W.Frag) (c f w q : Str) (A fI : Addr) (st : Stmt) (fd : FuncData) : Prop where
  nm : NmC K c A
  T : OexC K A
  ini : PySem.W.findIn K (.ref A) "__init__" = some (some (.ref fI))
  tI : PySem.W.typeIn K (.ref fI) = some (.type "function")
  no : PySem.W.findIn K (.ref A) f = some none
  F : Fun K "__init__" q st fI fd
  b : Binds K fd ["self", w] []
def spI (f : Str) (A : Addr) : Sp := fun vs H Q _ => ∃ a v, vs = [.ref a, v] ∧ H a = some (exo a A none) ∧ ∀ d, H d = none → d ≠ a → Q .non (upd (upd H d (exd d [(f, v)])) a (exo a A (some d)))
theorem init_ok {c f w q : Str} {A fI : Addr} {st : Stmt} {fd : FuncData} (T : XKl C.K c f w q A fI st fd) (Sc : FnScope ["self", w] ["self", w] (defScope st)) {p1 p3 p4 p5 : Pos} (hst : defBody st = [.Assign [.Attribute (.Name "self" p1) f p3] (.Name w p4) p5])
    (v1 : Vis (defScope st) "self") (v2 : Vis (defScope st) w) (d2 : (w == ("__debug__" : Str)) = false) (c2 : (w == ("__classdict__" : Str)) = false) (hs : ∀ env, swapsWith (.Name w p4) (some (.Attribute (.Name "self" p1) f p3)) p5.line env = pure false) :
    FnOk C.pg C.w C.K C.mg C.base CX0 (k + 1) fI fd ["self", w] (spI f A) := by
  refine T.F.ok Sc (fun vs H Q E h => ?_) fun cdv A0 outer s H vs Q E hr h => ?_
  · obtain ⟨a, v, rfl, _⟩ := h
    rfl
  · rw [hst]
    refine ⟨_, pss_one (ps_ost (pv 0 rfl v1) (pv 1 rfl v2 d2 c2) (hs _)), ?_⟩
    obtain ⟨a, v, rfl, ha, hq⟩ := h
    refine ⟨v, rfl, .ref a, rfl, a, A, rfl, T.T, T.no, Or.inl ⟨ha, fun dx n ne => hq dx n ne⟩⟩
/-- raise c(e); raiX where the field is asked for later -/
def raiF (c : Str) (m : EF) : SF := fun ρ => bnd (noX m ρ) fun _ => rais c
def raiX (c f : Str) (m : EF) : SF := fun ρ => bnd (noX m ρ) fun d => match d with
  | .p x => rais ⟨c, some (f, x)⟩
  | .obj _ => bad
theorem raise_core {c f w q : Str} {A fI : Addr} {sti : Stmt} {fd : FuncData} {j : Nat} {pos' : Pos} (T : XKl C.K c f w q A fI sti fd) (F1 : FnOk C.pg C.w C.K C.mg C.base CX0 j fI fd ["self", w] (spI f A)) (hj : j + 1 ≤ k) (hm : C.mg c = some (.ref A)) (ha : SE C sc N k e m) (hg : GlS sc c)
    (hd : (c == ("__debug__" : Str)) = false) (he : ∀ env, starEach [e] env = (false, eval e env) :: starEach [] env) (X : Cx) (WW : WX) (ok : Cod C sc N k X) (tk : Takes X WW) :
    ∃ t, PS X (.Raise (some (.Call (.Name c p2) [e] [] pos)) none pos') t ∧ ∀ (D : Ends) σ H W s ρ, ER C W H σ ρ → Abs C.K W s H → Good (m ρ s) (fun d s1 => ∀ W1 H1 dx v, Ev W H W1 H1 → Abs C.K W1 s1 H1 → W1.fr dx → H1 dx = some (.xd [(f, v)]) → DV C.K W1 H1 v d → WW (.ref A) (some dx) σ H1) → t D σ H := by
  obtain ⟨t, p, h⟩ := a_cons ha a_nil he X ok.toCok
  have hr : Room (j + 1) X.A := ok.rm.mono hj
  obtain ⟨pr, ew, eK, em, eb⟩ := (⟨ok.pr, ok.ew, ok.eK, ok.em, ok.eb⟩ : X.prog = C.pg ∧ X.w = C.w ∧ X.K = C.K ∧ X.mg = C.mg ∧ X.base = C.base)
  refine ⟨_, ps_raise ok.calm tk (pmk_oex (CX := CX0) (dvs := []) (ds := []) (sp := spI f A) (by rw [eK]; exact T.T) (by rw [eK]; exact T.ini) (by rw [eK]; exact T.tI) (by rw [pr, ew, eK, em, eb]; exact F1) hr (by rw [eK]; exact T.b) .nil (fun _ _ _ _ _ _ _ z => False.elim z) (hg.of ok.toCok) (by rw [em]; exact hm) p hd (he X.env)), fun D σ H W s ρ er A0 g2 => ?_⟩
  refine h σ H W s ρ _ er A0 ?_
  show Good (bnd (m ρ) (fun d => bnd (evA [] ρ) fun ds => ret (d :: ds)) s) _
  cases e1 : m ρ s with
  | bad =>
    rw [e1] at g2
    exact g2.elim
  | exn _ _ =>
    rw [e1] at g2
    exact g2.elim
  | ok d s1 =>
    rw [e1] at g2
    rw [bnd_ok e1]
    intro W1 H1 vs ev r1 A1
    obtain ⟨v, rfl, rv⟩ := dvs1 r1
    refine ⟨(by show 1 ≤ 1000; decide), fun a na => ⟨a, v, rfl, upd_same, fun dx nd ne => ⟨rfl, dx, [(f, v)], upd_same, ?_, ?_, ?_⟩⟩⟩
    · rw [upd_ne ne, upd_same]
    · rw [upd_ne ne] at nd
      exact nd
    · have nd1 : H1 dx = none := by
        rw [upd_ne ne] at nd
        exact nd
      have eH : upd (del (upd (upd (upd H1 a (exo a A none)) dx (exd dx [(f, v)])) a (exo a A (some dx))) a) dx (.xd [(f, v)]) = upd H1 dx (.xd [(f, v)]) := by
        funext b
        by_cases hb : b = dx
        · rw [hb, upd_same, upd_same]
        · rw [upd_ne hb, upd_ne hb]
          by_cases hb2 : b = a
          · rw [hb2, del_same, na]
          · rw [del_ne hb2, upd_ne hb2, upd_ne hb, upd_ne hb2]
      rw [eH]
      exact g2 (W1.keep dx) _ dx v (ev.trans (Ev.keep nd1)) (A1.keep nd1) (Or.inr rfl) upd_same (DV.up (Ev.keep nd1) rv)
theorem xx_raise {c f w q : Str} {A fI : Addr} {sti : Stmt} {fd : FuncData} {j : Nat} {pos' : Pos} (T : XKl C.K c f w q A fI sti fd) (F1 : FnOk C.pg C.w C.K C.mg C.base CX0 j fI fd ["self", w] (spI f A)) (hj : j + 1 ≤ k) (hm : C.mg c = some (.ref A)) (ha : SE C sc N k e m) (hg : GlS sc c := by rfl)
    (hd : (c == ("__debug__" : Str)) = false := by decide) (he : ∀ env, starEach [e] env = (false, eval e env) :: starEach [] env := by intro _; rfl) :
    SSX C sc N k (.Raise (some (.Call (.Name c p2) [e] [] pos)) none pos') (raiF c m) := fun X WW ok tk => by
  obtain ⟨t, p, h⟩ := raise_core (p2 := p2) (pos := pos) (pos' := pos') T F1 hj hm ha hg hd he X WW ok tk
  refine ⟨t, p, fun D σ H W s ρ er A0 g => h D σ H W s ρ er A0 ?_⟩
  have g1 := GoodX.bnd g
  have g2 : Good (m ρ s) fun d s1 => PoE C.K W H (fun c d H' => ∀ σ', WW c d σ' H') c s1 := nox_good (GoodX.mono g1 (fun _ _ z => z) fun _ _ z => z)
  refine g2.mono fun d s1 z W1 H1 dx v ev A1 fx hx r => ?_
  refine z W1 H1 A (some dx) ev A1 T.nm (fun dx' e => ?_) σ
  cases e
  exact ⟨fx, _, hx⟩
theorem xx_raiseX {c f w q : Str} {A fI : Addr} {sti : Stmt} {fd : FuncData} {j : Nat} {pos' : Pos} (T : XKl C.K c f w q A fI sti fd) (F1 : FnOk C.pg C.w C.K C.mg C.base CX0 j fI fd ["self", w] (spI f A)) (hj : j + 1 ≤ k) (hm : C.mg c = some (.ref A)) (ha : SE C sc N k e m) (hg : GlS sc c := by rfl)
    (hd : (c == ("__debug__" : Str)) = false := by decide) (he : ∀ env, starEach [e] env = (false, eval e env) :: starEach [] env := by intro _; rfl) :
    SSX C sc N k (.Raise (some (.Call (.Name c p2) [e] [] pos)) none pos') (raiX c f m) := fun X WW ok tk => by
  obtain ⟨t, p, h⟩ := raise_core (p2 := p2) (pos := pos) (pos' := pos') T F1 hj hm ha hg hd he X WW ok tk
  refine ⟨t, p, fun D σ H W s ρ er A0 g => h D σ H W s ρ er A0 ?_⟩
  have g1 := GoodX.bnd g
  refine (nox_good g1).mono fun d s1 z W1 H1 dx v ev A1 fx hx r => ?_
  cases d with
  | obj n => exact z.elim
  | p x => exact (show PoE C.K W H (fun c d H' => ∀ σ', WW c d σ' H') ⟨c, some (f, x)⟩ s1 from z) W1 H1 A (some dx) ev A1 T.nm ⟨dx, v, rfl, fx, hx, r⟩ σ
end
end CW

end
section
set_option maxRecDepth 100000
set_option maxHeartbeats 2000000
/-! CW, seventeenth part: a try whose handler keeps the exception under another name. -/
namespace CW
open PySem PySem.Spec PyProof.Rows L2
section
variable {X : Cx} {pins : List (Addr × Obj)} {σ : L2.St} {H : Hp} {s : Shared} {a A : Addr} {d : Option Addr} {oe : Obj} {vs : Array Value}
/-- more objects do not disturb what flies -/
theorem fly_more {B h h' : Heap} {l : List Env} {Z : Obj → Prop} (f : HandSPX.FlyingZ B l a Z h) (k : ∀ b o, h.get? b = some o → h'.get? b = some o) : HandSPX.FlyingZ B l a Z h' := by
  obtain ⟨f1, f2, f3, oe, vs, T, oT, ts, g1, g2, g3, g4, g5, g6, g7, g8, g9⟩ := f
  exact ⟨fun b o e => k b o (f1 b o e), f2, Heap.FunFrames.of_keeps (fun b o e _ => ⟨o, k b o e, rfl⟩) f3, oe, vs, T, oT, ts, k _ _ g1, g2, g3, g4, g5, g6, k _ _ g7, g8, g9⟩
/-- what flies is no frame of those that are gone through -/
theorem fly_off {B h : Heap} {l : List Env} {Z : Obj → Prop} (f : HandSPX.FlyingZ B l a Z h) : a ∉ frs l := by
  intro isf
  obtain ⟨-, -, ff, ob, rows, T, oT, ts, g, -, dd, -⟩ := f
  obtain ⟨-, ob2, g2, nope⟩ := ff.mem isf
  have same : ob = ob2 := Option.some.inj (g.symm.trans g2)
  exact nope rows (by rw [← same]; exact dd)
theorem frs_top {env : Env} {out : List Env} {L : Addr} (h : env.frame = some L) (f : a ∉ frs (env :: out)) : a ≠ L ∧ a ∉ frs out := by
  have e : frs (env :: out) = L :: frs out := by
    unfold frs
    rw [List.filterMap_cons, h]
  rw [e] at f
  exact ⟨fun z => f (by rw [z]; exact List.mem_cons_self), fun z => f (List.mem_cons_of_mem _ z)⟩
/-- a pinned exception is known from now on -/
theorem told (I : Inv X ((a, oe) :: pins) σ H s) (new : X.s_0.heap.get? a = none) (hz : Zc (.ref A) d oe) (hd : oe.data = .fields vs) (np : ∀ p ∈ X.pn ++ pins, p.1 ≠ a) : Inv X pins σ (upd H a (ExO a A d)) s := by
  obtain ⟨hget, na, nL, nF, nC⟩ := I.pin (a, oe) (List.mem_append_right _ List.mem_cons_self)
  have ne : ∀ {b : Addr} {o : HO}, H b = some o → b ≠ a := fun {b o} e => ne_of_none e na
  have ne0 : ∀ {b : Addr} {o : Obj}, X.s_0.heap.get? b = some o → b ≠ a := fun {b o} e z => by
    rw [z, new] at e
    cases e
  refine ⟨I.ok, I.os, I.bare, ⟨I.base.keep, I.base.slot, fun b o e n hx => ?_, I.base.there, fun b xs e => ?_, fun b o u e => ?_, fun b ps e => ?_⟩, I.loc, I.cell, ?_, fun x c e => ?_, fun p hp => ?_, fun b u e => ?_, I.len⟩
  · rw [upd_ne (ne0 e)]
    exact I.base.free b o e n hx
  · rw [upd_ne (ne (I.base.tups b xs e))]
    exact I.base.tups b xs e
  · rw [upd_ne (ne (I.base.frzs b o u e))]
    exact I.base.frzs b o u e
  · exact let ⟨m, q⟩ := I.base.tbls b ps e; ⟨m, (upd_ne (ne q)).trans q⟩
  · rw [upd_ne (Ne.symm nL)]
    exact I.free
  · have nc : c ≠ a := fun z => by
      obtain ⟨v, oc, g1, g2⟩ := I.cell x c e
      rw [z, hget] at g1
      cases g1
      exact nC v g2
    rw [upd_ne nc]
    exact I.freeC x c e
  · have hp' : p ∈ X.pn ++ (a, oe) :: pins := by
      rcases List.mem_append.mp hp with h | h
      · exact List.mem_append_left _ h
      · exact List.mem_append_right _ (List.mem_cons_of_mem _ h)
    obtain ⟨g1, g2, g3⟩ := I.pin p hp'
    exact ⟨g1, by rw [upd_ne (np p hp)]; exact g2, g3⟩
  · by_cases hb : b = a
    · subst hb
      rw [upd_same] at e
      cases e
      exact ⟨⟨oe, vs, hget, hz.1, hz.2, hd⟩, ⟨oe, hget⟩, fun h1 h2 ⟨o, ws, q1, q2⟩ k => ⟨o, ws, k _ q1, q2⟩⟩
    · rw [upd_ne hb] at e
      exact (I.hok b u e).stay (fun _ _ _ q => q) (fun c q => by rw [upd_ne (ne q)]; exact q) fun c xs q => by rw [upd_ne (ne q)]; exact q
end
/-- what the clause wishes: e at slot i, then y = e at slot j -/
def wKeep (K : PySem.W.Frag) (c1 c2 : Value) (i j : Nat) (D : Ends) : WX := fun cls d σ H =>
  ∃ A, cls = .ref A ∧ PySem.W.exmAny K cls [c1, c2] = some true ∧ ∀ a, H a = none → D.nx (((σ.set i (some (.ref a))).set j (some (.ref a))).set i none) (upd H a (ExO a A d))
section
variable {X : Cx} {x1 x2 n y : Str} {c1 c2 : Value} {i j kt : Nat} {body : List Stmt} {q1 q2 q3 q4 q5 q6 pos pos' : Pos} {tb : WX → TS}
theorem names_go {pins : List (Addr × Obj)} {σ : L2.St} {H : Hp} {s : Shared} {x : Str} {c : Value} {p : Pos} {Q : Value → Shared → Prop} {E : Value → Shared → Prop} (I : Inv X pins σ H s) (hc : Names X x c) (q : Q c s) : wpAny (model X.prog X.w) X.A (eval (.Name x p) X.env) Q E s := by
  obtain ⟨hg, hdb, hm | ⟨hm, hv, hn⟩⟩ := hc
  · exact ld_glob I hg hm q hdb
  · exact ld_blt I hg hm hv q hn hdb
theorem ps_keep (hs : X.stack = X.env :: X.outer) (hf : X.env.frame = some X.env.locals) (hex : X.ex = []) (hN : X.N.Nodup) (hi : X.N[i]? = some n) (hj : X.N[j]? = some y) (hij : i ≠ j) (hln : X.env.kindOf n = some .local) (hly : X.env.scope.names.lookup y = some .local) (hvn : Vis X.env.scope n)
    (dn : (n == ("__debug__" : Str)) = false) (cn : (n == ("__classdict__" : Str)) = false) (hc1 : Names X x1 c1) (hc2 : Names X x2 c2)
    (hsw : swapsWithSole [.Name y q4] (.Name n q5) q6.line X.env = pure false) (hst : swappedStores [.Name y q4] (.Name n q5) X.env = pure none) (h1 : (assignEach [.Name y q4] X.env).map (·.2) = [assign (.Name y q4) X.env])
    (hst1 : starEach [.Name x1 q1, .Name x2 q2] X.env = (false, eval (.Name x1 q1) X.env) :: starEach [.Name x2 q2] X.env) (hst2 : starEach [.Name x2 q2] X.env = (false, eval (.Name x2 q2) X.env) :: starEach [] X.env)
    (hb : ∀ (W : WX) (pn : List (Addr × Obj)) (xe : Value → Shared → Prop), Takes (X.tr pn xe) W → PassesOwn (model X.prog X.w) X.A X.env xe → PSs (X.tr pn xe) body (tb W)) :
    PS X (.Try body [.ExceptHandler (some (.Tuple [.Name x1 q1, .Name x2 q2] kt q3)) (some n) [.Assign [.Name y q4] (.Name n q5) q6] pos'] [] [] pos) (fun D σ H => tb (wKeep X.K c1 c2 i j D) D σ H) := by
  constructor
  intro pins s σ H D I wish
  have ok := I.ok
  have hfr := ok.frames
  rw [hs] at hfr
  let hd : List ExceptHandler := [.ExceptHandler (some (.Tuple [.Name x1 q1, .Name x2 q2] kt q3)) (some n) [.Assign [.Name y q4] (.Name n q5) q6] pos']
  have body_ := hb (wKeep X.K c1 c2 i j D) (X.pn ++ pins) (fun e s1 => wpAny (model X.prog X.w) X.A (noteFrame e X.env) (fun _ s2 => wpAny (model X.prog X.w) X.A (setFlight e none) (fun _ s3 =>
    wpAny (model X.prog X.w) X.A (handleBy e X.env hd) (SP X pins D) X.xe s3) X.xe s2) X.xe s1) (fun u s' xx => ?_) PassesOwn.looking
  · refine wpAny_Try_except (wpAny_mono (body_.run [] s σ H D (I.toTry _) wish) (fun f s1 hsp => ?_) fun e s1 he => he)
    cases f with
    | next => exact let ⟨a1, a2, a3, a4⟩ := hsp; wpAny_execs_nil ⟨a1, a2, a3.ofTry ok, a4⟩
    | brk => exact let ⟨a1, a2, a3, a4⟩ := hsp; ⟨a1, a2, a3.ofTry ok, a4⟩
    | cont => exact let ⟨a1, a2, a3, a4⟩ := hsp; ⟨a1, a2, a3.ofTry ok, a4⟩
    | ret u => exact let ⟨a0, a1, a2, a3, a5, a4⟩ := hsp; ⟨a0, a1, a2, a3.ofTry ok, a5, a4⟩
  · obtain ⟨a, B, sI, pins', σ', H', cls, d, rfl, J', nb, up, sky, na, os, ag, A, rfl, hm, hq⟩ := xx
    have J := J'.ofTry ok (σ := σ')
    have sky' : Sky B (X.env :: X.outer) a (Zc (.ref A) d) X.env.locals s'.heap := by rw [← hs]; exact sky
    have noB : B.get? a = none := by
      rcases sky' with z | z | z
      · exact z.2.1
      · exact z.2.1
      · exact z.2.1
    refine Sky.land (L := X.env.locals) (outer := X.outer) Zc.steady hfr hf sky' (fun h3 fl3 up3 => ?_)
    obtain ⟨x3, rows3, he3, hz3, hd3⟩ := fl3.there
    have nfr := fly_off fl3
    obtain ⟨nL, nF⟩ := frs_top hf nfr
    have J3 := J.landed (s' := { s' with heap := h3 }) nb fl3.1 (up.trans up3) os ag
    have inSuite := J3.suite he3 hd3 na nL nF
    refine wpAny_handleBy_cons (codeAny_handlers_test ?test) (fun z => nomatch z)
    -- the pair of classes
    let h4 : Heap := h3.push { cls := .type "tuple", data := .seq [c1, c2].toArray }
    have k4 : ∀ b o, h3.get? b = some o → h4.get? b = some o := fun b o e => Heap.get?_push_of_some _ e
    have fl4 : HandSPX.FlyingZ B (X.env :: X.outer) a (Zc (.ref A) d) h4 := fly_more fl3 k4
    have up4 : s'.heap.UpToSlots h4 := up3.trans (Heap.UpToSlots.of_keeps k4)
    have he4 : h4.get? a = some x3 := k4 _ _ he3
    have J4 : Inv X pins σ' H' { s' with heap := h4 } := J.landed nb fl4.1 (up.trans up4) os ag
    have LT : PySem.W.Looks (model X.prog X.w) h4 (typeOf (.ref a)) (.ref A) := fun A' Q E s k q => wpAny_typeOf_ref (k _ _ he4) (by rw [hz3.1]; exact q)
    have LM := PySem.W.exm_tup2 (M := model X.prog X.w) (J4.kIn) LT (tp := h3.objs.size) (by heap_get) hm
    refine wpAny_Tuple_spliced (args_cons (names_go inSuite hc1 (args_cons (names_go inSuite hc2 (args_nil ⟨by show 2 ≤ sizeLine; decide, ?_⟩)) hst2)) hst1)
    refine LM.here (codeAny_handlers_suite_as ?_)
    refine HandSPX.lands_againZ fl4 fun h5 fl5 up5 => ?_
    obtain ⟨oe5, vs5, he5, hz5, hd5⟩ := fl5.there
    have J5 : Inv X pins σ' H' { s' with heap := h5 } := J.landed nb fl5.1 ((up.trans up4).trans up5) os ag
    have S5 := J5.suite he5 hd5 na nL nF
    have old : ∀ b o, sI.heap.get? b = some o → b ≠ a := fun b o e z => by
      have q := nb b o e (by rw [hs, z]; exact nfr)
      rw [z, noB] at q
      cases q
    have new : X.s_0.heap.get? a = none := by
      cases e : Heap.get? X.s_0.heap a with
      | none => rfl
      | some o =>
        obtain ⟨o', e'⟩ := J.base.there a o e (by rw [hex]; exact fun z => nomatch z)
        exact (old a o' e' rfl).elim
    have np : ∀ p ∈ X.pn ++ pins, p.1 ≠ a := fun p hp => old _ _ (J.pin p hp).1
    have hiσ : i < σ'.length := by rw [J.len]; exact (List.getElem?_eq_some_iff.mp hi).1
    refine store_ok (X := X.suite a ((a, oe5) :: (X.pn ++ pins))) (v := .ref a) S5 hN hi (Or.inl hln) rfl (fun s6 S6 => ?_) (.inr hln)
    have run := (pss_one (ps_asg (X := X.suite a ((a, oe5) :: (X.pn ++ pins))) (pe_var (pos := q5) hi hvn dn cn) (pg_name (pos := q4) hN hj (.inl hly) (.inr hly)) hsw hst h1)).run [] s6 (σ'.set i (some (.ref a))) H'
      { nx := fun σ1 H1 => σ1 = (σ'.set i (some (.ref a))).set j (some (.ref a)) ∧ H1 = H', rt := fun _ _ => False, bk := fun _ _ => False, ct := fun _ _ => False } S6
      ⟨.ref a, List.getElem?_set_self hiσ, rfl, rfl⟩
    refine wpAny_mono run (fun f s7 hsp => ?_) (fun _ _ z => False.elim z)
    cases f with
    | next =>
      obtain ⟨σ7, H7, S7, rfl, rfl⟩ := hsp
      have J7 : Inv X ((a, oe5) :: pins) ((σ'.set i (some (.ref a))).set j (some (.ref a))) H7 s7 :=
        ⟨ok, S7.os, S7.bare, S7.base, S7.loc, S7.cell, S7.free, S7.freeC, fun p hp => S7.pin p (List.mem_append_left _ (by
          rcases List.mem_append.mp hp with h | h
          · exact List.mem_cons_of_mem _ (List.mem_append_left _ h)
          · rcases List.mem_cons.mp h with h | h
            · rw [h]
              exact List.mem_cons_self
            · exact List.mem_cons_of_mem _ (List.mem_append_right _ h))), S7.hok, S7.len⟩
      exact gone_ok J7 hN hi hln fun s8 J8 => ⟨_, _, told J8 new hz5 hd5 np, hq a na⟩
    | brk =>
      obtain ⟨_, _, _, z⟩ := hsp
      exact False.elim z
    | cont =>
      obtain ⟨_, _, _, z⟩ := hsp
      exact False.elim z
    | ret u =>
      obtain ⟨_, _, _, _, _, z⟩ := hsp
      exact False.elim z
end
/-! ### the try -/
/-- an expression, a statement in a try's body: asked for where a def's own rows run; I is known of the world there -/
def SEXi (I : Wd → Hp → Prop) (C : Cf) (sc : Scope) (N : List Str) (k : Nat) (e : Expr) (m : EF) : Prop :=
  ∀ X WW pn xe, Cod C sc N k X → PassesOwn (model X.prog X.w) X.A X.env xe → Takes (X.tr pn xe) WW → ∃ t, PE (X.tr pn xe) e t ∧ ∀ σ H W s ρ Q, I W H → ER C W H σ ρ → Abs C.K W s H → GoodX (m ρ s) (Po C.K W H Q) (PoE C.K W H fun c d H' => WW c d σ H') → t σ H Q
def SSi (I : Wd → Hp → Prop) (C : Cf) (sc : Scope) (N : List Str) (k : Nat) (st : Stmt) (m : SF) : Prop :=
  ∀ X WW pn xe, Cod C sc N k X → PassesOwn (model X.prog X.w) X.A X.env xe → Takes (X.tr pn xe) WW → ∃ t, PS (X.tr pn xe) st t ∧ ∀ D σ H W s ρ, I W H → ER C W H σ ρ → Abs C.K W s H → GoodX (m ρ s) (PoF C W H D) (PoE C.K W H fun c d H' => WW c d σ H') → t D σ H
/-- a statement, a block of a def's own rows where I is known of the world -/
def SSI (I : Wd → Hp → Prop) (C : Cf) (sc : Scope) (N : List Str) (k : Nat) (st : Stmt) (m : SF) : Prop :=
  ∀ X, Cod C sc N k X → ∃ t, PS X st t ∧ ∀ D σ H W s ρ, I W H → ER C W H σ ρ → Abs C.K W s H → Good (m ρ s) (PoF C W H D) → t D σ H
def SBI (I : Wd → Hp → Prop) (C : Cf) (sc : Scope) (N : List Str) (k : Nat) (st : List Stmt) (m : SF) : Prop :=
  ∀ X, Cod C sc N k X → ∃ t, PSs X st t ∧ ∀ D σ H W s ρ, I W H → ER C W H σ ρ → Abs C.K W s H → Good (m ρ s) (PoF C W H D) → t D σ H
def UpI (I : Wd → Hp → Prop) : Prop := ∀ W H W' H', Ev W H W' H' → I W H → I W' H'
theorem upI_ev (W0 : Wd) (H0 : Hp) : UpI (fun W H => Ev W0 H0 W H) := fun _ _ _ _ e i => i.trans e
theorem Cok.tr {C : Cf} {sc : Scope} {N : List Str} {k : Nat} {X : Cx} {pn : List (Addr × Obj)} {xe : Value → Shared → Prop} (ok : Cok C sc N k X) (po : PassesOwn (model X.prog X.w) X.A X.env xe) : Cok C sc N k (X.tr pn xe) :=
  ⟨⟨ok.pr, ok.ew, ok.eK, ok.em, ok.eb, ok.calm, ok.rm, ok.gd⟩, ok.nN, ok.nd, ok.eL, po, ok.fc, ok.cq⟩
section
variable {I : Wd → Hp → Prop} {C : Cf} {sc : Scope} {N : List Str} {k : Nat} {pos : Pos} {e tg : Expr} {m : EF} {st : Stmt} {sts : List Stmt} {f g : SF}
theorem ei_of (h : SEX C sc N k e m) : SEXi I C sc N k e m := fun X WW pn xe ok po tk => by
  obtain ⟨t, p, q⟩ := h _ WW (ok.toCok.tr po) tk
  exact ⟨t, p, fun σ H W s ρ Q _ => q σ H W s ρ Q⟩
theorem si_exp (h : SEXi I C sc N k e m) (hs : ∀ env, swapsWith e none pos.line env = pure false := by intro _; rfl) : SSi I C sc N k (.Expr e pos) (expF m) := fun X WW pn xe ok po tk => by
  obtain ⟨t, p, q⟩ := h X WW pn xe ok po tk
  refine ⟨_, ps_expr p (hs _), fun D σ H W s ρ i er A g => ?_⟩
  exact q σ H W s ρ _ i er A ((GoodX.bnd g).mono (fun d s1 w W1 H1 v e1 r1 A1 => w W1 H1 σ e1 (er.up e1) A1) fun c s1 w => w)
theorem si_asg {h : GF} {pl : List Nat} (he : SEXi I C sc N k e m) (hg : SG C sc N k tg h pl) (hs : ∀ env : Env, env.scope = sc → swapsWithSole [tg] e pos.line env = pure false := by intro _ _; rfl) (hw : ∀ env : Env, env.scope = sc → swappedStores [tg] e env = pure none := by intro _ _; rfl)
    (h1 : ∀ env, (assignEach [tg] env).map (·.2) = [assign tg env] := by intro _; rfl) : SSi I C sc N k (.Assign [tg] e pos) (asgF m (noG h)) := fun X WW pn xe ok po tk => by
  obtain ⟨t, p, q⟩ := he X WW pn xe ok po tk
  obtain ⟨u, p', q'⟩ := hg (X.tr pn xe) (ok.toCok.tr po)
  refine ⟨_, ps_asg p p' (hs (X.tr pn xe).env ok.eS) (hw (X.tr pn xe).env ok.eS) (h1 _), fun D σ H W s ρ i er A g => ?_⟩
  refine q σ H W s ρ _ i er A ((GoodX.bnd g).mono (fun d s1 z W1 H1 v e1 r1 A1 => ?_) fun c s1 w => w)
  refine q' v d σ H1 W1 s1 ρ _ r1 (er.up e1) A1 ((nox_good (GoodX.bnd z)).mono fun ρ' s2 z2 W2 H2 σ2 e2 er2 A2 _ => ?_)
  exact z2 W2 H2 σ2 (e1.trans e2) er2 A2
theorem s_at (h : SSI (fun _ _ => True) C sc N k st f) : SS C sc N k st f := fun X ok => by
  obtain ⟨t, p, q⟩ := h X ok
  exact ⟨t, p, fun D σ H W s ρ => q D σ H W s ρ trivial⟩
theorem ii_lift (h : SS C sc N k st f) : SSI I C sc N k st f := fun X ok => by
  obtain ⟨t, p, q⟩ := h X ok
  exact ⟨t, p, fun D σ H W s ρ _ => q D σ H W s ρ⟩
theorem bi_lift (h : SB C sc N k sts f) : SBI I C sc N k sts f := fun X ok => by
  obtain ⟨t, p, q⟩ := h X ok
  exact ⟨t, p, fun D σ H W s ρ _ => q D σ H W s ρ⟩
theorem bi_cons (up : UpI I) (h : SSI I C sc N k st f) (h2 : SBI I C sc N k sts g) : SBI I C sc N k (st :: sts) (seqF f g) := fun X ok => by
  obtain ⟨t, p, q⟩ := h X ok
  obtain ⟨u, p', q'⟩ := h2 X ok
  refine ⟨_, pss_cons p p', fun D σ H W s ρ i er A G => ?_⟩
  refine q { D with nx := u D } σ H W s ρ i er A ((Good.bnd G).mono fun r s1 h1 => ?_)
  cases r with
  | nx ρ' => exact fun W1 H1 σ1 e1 er1 A1 => q' D σ1 H1 W1 s1 ρ' (up _ _ _ _ e1 i) er1 A1 (Good.mono h1 fun _ _ z => z.up e1)
  | rt d => exact h1
  | bk ρ' => exact h1
  | ct ρ' => exact h1
end
def tryF (cat : Str → Bool) (i j : Nat) (m : SF) : SF := fun ρ s => match m ρ s with
  | .ok fl s' => .ok fl s'
  | .exn c s' => if cat c.c = true then .ok (.nx (((ρ.set i (some (.p c.toP))).set j (some (.p c.toP))).set i none)) s' else .bad
  | .bad => .bad
section
variable {I : Wd → Hp → Prop} {C : Cf} {sc : Scope} {N : List Str} {k : Nat} {pos p2 : Pos} {st : Stmt} {m : SF}
theorem x_try {x1 x2 n y : Str} {A1 A2 : Addr} {kt : Nat} {q1 q2 q3 q4 q5 q6 pos' : Pos} (cat : Str → Bool) (i j : Nat) (he : SSi I C sc N k st m) (hm1 : C.mg x1 = some (.ref A1)) (hm2 : C.mg x2 = some (.ref A2))
    (hcat : ∀ c A, cat c = true → NmC C.K c A → PySem.W.exmAny C.K (.ref A) [.ref A1, .ref A2] = some true) (hi : N[i]? = some n := by rfl) (hj : N[j]? = some y := by rfl) (hij : i ≠ j := by decide)
    (hn : sc.names.lookup n = some .local := by rfl) (hy : sc.names.lookup y = some .local := by rfl) (hg1 : GlS sc x1 := by rfl) (hg2 : GlS sc x2 := by rfl) (d1 : (x1 == ("__debug__" : Str)) = false := by decide) (d2 : (x2 == ("__debug__" : Str)) = false := by decide)
    (dn : (n == ("__debug__" : Str)) = false := by decide) (cn : (n == ("__classdict__" : Str)) = false := by decide)
    (hsw : ∀ env : Env, env.scope = sc → swapsWithSole [.Name y q4] (.Name n q5) q6.line env = pure false := by intro _ _; rfl) (hst : ∀ env : Env, env.scope = sc → swappedStores [.Name y q4] (.Name n q5) env = pure none := by intro _ _; rfl)
    (h1 : ∀ env, (assignEach [.Name y q4] env).map (·.2) = [assign (.Name y q4) env] := by intro _; rfl)
    (hst1 : ∀ env, starEach [.Name x1 q1, .Name x2 q2] env = (false, eval (.Name x1 q1) env) :: starEach [.Name x2 q2] env := by intro _; rfl) (hst2 : ∀ env, starEach [.Name x2 q2] env = (false, eval (.Name x2 q2) env) :: starEach [] env := by intro _; rfl) :
    SSI I C sc N k (.Try [st] [.ExceptHandler (some (.Tuple [.Name x1 q1, .Name x2 q2] kt q3)) (some n) [.Assign [.Name y q4] (.Name n q5) q6] pos'] [] [] pos) (tryF cat i j m) := fun X ok => by
  let tb : WX → TS := fun WW D σ H => ∃ W s ρ, I W H ∧ ER C W H σ ρ ∧ Abs C.K W s H ∧ GoodX (m ρ s) (PoF C W H D) (PoE C.K W H fun c d H' => WW c d σ H')
  have hln : X.env.kindOf n = some .local := by
    show X.env.scope.names.lookup n = some .local
    rw [ok.eS]
    exact hn
  have nm1 : Names X x1 (.ref A1) := ⟨hg1.of ok.toCok, d1, Or.inl (by rw [ok.em]; exact hm1)⟩
  have nm2 : Names X x2 (.ref A2) := ⟨hg2.of ok.toCok, d2, Or.inl (by rw [ok.em]; exact hm2)⟩
  refine ⟨_, ps_keep (i := i) (j := j) (tb := tb) ok.sk ok.fm ok.nx (by rw [ok.nN]; exact ok.nd) (by rw [ok.nN]; exact hi) (by rw [ok.nN]; exact hj) hij hln (by rw [ok.eS]; exact hy) (Or.inl hln) dn cn nm1 nm2 (hsw X.env ok.eS) (hst X.env ok.eS) (h1 X.env) (hst1 X.env) (hst2 X.env) (fun WW pn xe tk po => ?_), fun D σ H W s ρ i0 er A g => ?_⟩
  · obtain ⟨t, p, q⟩ := he X WW pn xe ok po tk
    have p2 := pss_one p
    exact ⟨fun pins s σ H D I h => p2.run pins s σ H D I (by
      obtain ⟨W, s0, ρ, i0, er, A, g⟩ := h
      exact q D σ H W s0 ρ i0 er A g)⟩
  · refine ⟨W, s, ρ, i0, er, A, ?_⟩
    unfold tryF at g
    cases e1 : m ρ s with
    | bad =>
      rw [e1] at g
      exact g
    | ok d s1 =>
      rw [e1] at g
      exact g
    | exn c s1 =>
      rw [e1] at g
      dsimp only at g
      by_cases hc : cat c.c = true
      · rw [if_pos hc] at g
        intro W1 H1 Ac d ev A0 nm fd
        refine ⟨Ac, rfl, by rw [ok.eK]; exact hcat c.c Ac hc nm, fun a na => ?_⟩
        have ek : Ev W1 H1 (W1.keep a) (upd H1 a (ExO a Ac d)) := Ev.keep na
        have rv : DV C.K (W1.keep a) (upd H1 a (ExO a Ac d)) (.ref a) (.p c.toP) := XdOk.pv nm na fd ek
        exact g (W1.keep a) _ _ (ev.trans ek) ((((er.up (ev.trans ek)).put rv i).put rv j).wipe i) (A0.keep na (fun ps z => by unfold ExO at z; cases z))
      · rw [if_neg hc] at g
        exact g.elim
end
end CW

end
section
set_option maxRecDepth 100000
set_option maxHeartbeats 2000000
/-! CW, eighteenth part: isinstance of a kept exception; names of classes. -/
namespace CW
open PySem PySem.Spec PyProof.Rows L2
/-- what the top says of its classes: sub c t, subB c n answer isinstance(e, t) for an e of the class c -/
structure XTab (K : PySem.W.Frag) (sub : Str → Str → Option Bool) (subB : Str → String → Option Bool) : Prop where
  own : ∀ c t b A B, sub c t = some b → NmC K c A → NmC K t B → PySem.W.kitOne K (.ref A) (.ref B) = some b
  blt : ∀ c n b A, subB c n = some b → NmC K c A → PySem.W.kitOne K (.ref A) (.type n) = some b
  fx : ∀ c t b A, sub c t = some b → NmC K c A → (PySem.W.clsIn K A).isSome = true ∧ ExcC K A
  fb : ∀ c t b A, subB c t = some b → NmC K c A → (PySem.W.clsIn K A).isSome = true ∧ ExcC K A
def isxD (sub : Str → Str → Option Bool) (subB : Str → String → Option Bool) : List D → M D := fun ds s => match ds with
  | [.p (.exn c), .p (.cls t)] => match sub c t with
    | some b => .ok (.p (.bl b)) s
    | none => .bad
  | [.p (.exn c), .p (.ty n)] => match subB c n with
    | some b => .ok (.p (.bl b)) s
    | none => .bad
  | [.p (.exf c _ _), .p (.cls t)] => match sub c t with
    | some b => .ok (.p (.bl b)) s
    | none => .bad
  | [.p (.exf c _ _), .p (.ty n)] => match subB c n with
    | some b => .ok (.p (.bl b)) s
    | none => .bad
  | _ => .bad
def rIsx (K : PySem.W.Frag) : List V → Hp → VK → Prop := fun xs H Q => ∃ (a A : Addr) (d : Option Addr) (c : V) (cv : Value) (b : Bool), xs = [.ref a, c] ∧ (∀ u, RelV c u → u = cv) ∧ H a = some (ExO a A d) ∧ (∀ dx, d = some dx → ∃ fs, H dx = some (.xd fs)) ∧
  (PySem.W.clsIn K A).isSome = true ∧ ExcC K A ∧ PySem.W.kitOne K (.ref A) cv = some b ∧ Q (.bl b) H
theorem call_isx {X : Cx} : CallR X (.builtin "isinstance") (rIsx X.K) := by
  intro pins s σ H xs us Q I r h
  obtain ⟨a, A, d, c, cv, b, rfl, hcv, ha, hdx, hcl, T, hk, q⟩ := h
  obtain ⟨u1, r1, u2, r2, rfl⟩ : ∃ u1, RelV (V.ref a) u1 ∧ ∃ u2, RelV c u2 ∧ us = [u1, u2] := by
    cases r with
    | cons ra rr =>
      cases rr with
      | cons rb rr =>
        cases rr
        exact ⟨_, ra, _, rb, rfl⟩
  obtain rfl : u1 = Value.ref a := r1
  obtain rfl := hcv _ r2
  obtain ⟨⟨o, rows, g1, g2, g3, g4⟩, -, -⟩ := (I.hok a _ ha : ObjOk X.prog X.w H s.heap a (ExO a A d))
  have nc : PySem.W.notCls o = true := by
    unfold PySem.W.notCls
    rw [g4]
  obtain ⟨od, hod⟩ : ∃ od : Option Obj, PySem.W.InstAt s.heap a o A od := by
    cases d with
    | none => exact ⟨none, g1, g2, nc, by rw [g3]; trivial⟩
    | some dx =>
      obtain ⟨fs, hf⟩ := hdx dx rfl
      obtain ⟨mA, ⟨od, es, ep, e1, e2⟩, -⟩ := (I.hok dx _ hf : ObjOk X.prog X.w H s.heap dx (.xd fs))
      exact ⟨some od, g1, g2, nc, by rw [g3]; exact e1⟩
  exact PySem.W.kia_one (PySem.W.kitx_exc hcl T.hg T.hk T.hs T.ha T.hn T.ht T.hm) I.kIn hod hk (fun z => nomatch z) fun tk => ⟨.bl b, H, I.kept (t' := tk) fun _ _ z => z, rfl, q⟩
section
variable {C : Cf} {sc : Scope} {N : List Str} {k : Nat} {pos p2 : Pos}
theorem c_isx {sub : Str → Str → Option Bool} {subB : Str → String → Option Bool} (T : XTab C.K sub subB) : CaS C k (.builtin "isinstance") (isxD sub subB) := fun X ok => ⟨_, call_isx, fun W s H xs ds Q r A g => by
  rw [ok.eK]
  unfold isxD at g
  split at g
  · split at g
    · rename_i c t b hb
      obtain ⟨x, y, rfl, h, h'⟩ := dvs2 r
      cases h with
      | exn nm fr ha hd =>
      cases h' with
      | cls nt =>
      exact ⟨_, _, _, _, _, b, rfl, fun u z => z, ha, fun dx z => (hd dx z).2, (T.fx _ _ _ _ hb nm).1, (T.fx _ _ _ _ hb nm).2, T.own _ _ _ _ _ hb nm nt, g W H _ Ev.rfl (PV.bl _) A⟩
    · exact g.elim
  · split at g
    · rename_i c t b hb
      obtain ⟨x, y, rfl, h, h'⟩ := dvs2 r
      cases h with
      | exn nm fr ha hd =>
      cases h' with
      | ty n =>
      exact ⟨_, _, _, _, _, b, rfl, fun u z => z, ha, fun dx z => (hd dx z).2, (T.fb _ _ _ _ hb nm).1, (T.fb _ _ _ _ hb nm).2, T.blt _ _ _ _ hb nm, g W H _ Ev.rfl (PV.bl _) A⟩
    · exact g.elim
  · split at g
    · rename_i c f x' t b hb
      obtain ⟨x, y, rfl, h, h'⟩ := dvs2 r
      cases h with
      | exf nm fr ha f2 h2 r2 =>
      cases h' with
      | cls nt =>
      exact ⟨_, _, _, _, _, b, rfl, fun u z => z, ha, fun dx z => (by cases z; exact ⟨_, h2⟩), (T.fx _ _ _ _ hb nm).1, (T.fx _ _ _ _ hb nm).2, T.own _ _ _ _ _ hb nm nt, g W H _ Ev.rfl (PV.bl _) A⟩
    · exact g.elim
  · split at g
    · rename_i c f x' t b hb
      obtain ⟨x, y, rfl, h, h'⟩ := dvs2 r
      cases h with
      | exf nm fr ha f2 h2 r2 =>
      cases h' with
      | ty n =>
      exact ⟨_, _, _, _, _, b, rfl, fun u z => z, ha, fun dx z => (by cases z; exact ⟨_, h2⟩), (T.fb _ _ _ _ hb nm).1, (T.fb _ _ _ _ hb nm).2, T.blt _ _ _ _ hb nm, g W H _ Ev.rfl (PV.bl _) A⟩
    · exact g.elim
  · exact g.elim⟩
/-- the name of a class of the top -/
theorem s_cls {x : Str} {A : Addr} (hm : C.mg x = some (.ref A)) (nm : NmC C.K x A) (hg : GlS sc x := by rfl) (hd : (x == ("__debug__" : Str)) = false := by decide) : SE C sc N k (.Name x pos) (cE (.cls x)) := by
  exact s_glob hm (v := .ref A) rfl (fun F H => PV.cls nm) hg hd
end
end CW

end
section
set_option maxRecDepth 100000
set_option maxHeartbeats 2000000
/-! CW, nineteenth part: lambdas. -/
namespace CW
open PySem PySem.Spec PyProof.Rows L2
section
variable {K : PySem.W.Frag} {W : Wd} {H H1 : Hp} {s : S} {c : Addr} {q : Str}
/-- more objects, longer tables -/
theorem ext_world (A : Abs K W s H) (x : LamX.ExtN H H1) (t : LamX.Tabs W.tb H1) : Ev W H W H1 ∧ Abs K W s H1 := by
  have st : ∀ b o, H b = some o → (W.fr b ∨ W.pv b ∨ b ∈ W.io) → H1 b = some o := fun b o e h => x b o e fun ps z => by
    subst z
    obtain ⟨n1, n2, n3⟩ := A.tn b ps e
    rcases h with h | h | h
    · exact n1 h
    · exact n2 h
    · exact n3 h
  have ev : Ev W H W H1 := ⟨⟨[], by simp⟩, fun _ h => h, fun b o h e => st b o e (Or.inl h), fun b xs e => x b _ e fun _ z => (nomatch z), fun b o u e => x b _ e fun _ z => (nomatch z), fun _ h => h, fun b o h e => st b o e (Or.inr (Or.inl h)), rfl⟩
  have eq_ : ∀ b, H b ≠ none → (W.fr b ∨ W.pv b ∨ b ∈ W.io) → H1 b = H b := fun b n h => by
    cases e : H b with
    | none => exact (n e).elim
    | some o => exact st b o e h
  refine ⟨ev, A.len, A.nd, fun b h => ?_, fun b h => ?_, fun n o hn => ?_, fun b h => ⟨?_, (A.pd b h).2⟩, t, fun b ps e => ?_⟩
  · rw [eq_ b (A.tr b h) (Or.inr (Or.inr h))]
    exact A.tr b h
  · rw [eq_ b (A.ft b h) (Or.inl h)]
    exact A.ft b h
  · obtain ⟨b, h1, h2, h3⟩ := A.ob n o hn
    exact ⟨b, h1, h2, h3.up ev (eq_ b h3.there (Or.inr (Or.inr (List.mem_of_getElem? h1))))⟩
  · rw [eq_ b (A.pn h) (Or.inr (Or.inl h))]
    exact (A.pd b h).1
  · refine ⟨fun z => ?_, fun z => ?_, fun z => ?_⟩
    · rw [eq_ b (A.ft b z) (Or.inl z)] at e
      exact (A.tn b ps e).1 z
    · rw [eq_ b (A.pn z) (Or.inr (Or.inl z))] at e
      exact (A.tn b ps e).2.1 z
    · rw [eq_ b (A.tr b z) (Or.inr (Or.inr z))] at e
      exact (A.tn b ps e).2.2 z
/-- the lambda's code object stays -/
theorem code_keep (A : Abs K W s H) (h : H c = some (LamX.CodeO c q)) : Ev W H (W.keep c) H ∧ Abs K (W.keep c) s H := by
  have notL : ∀ vs, H c ≠ some (.lst vs) := fun vs z => by
    rw [h] at z
    unfold LamX.CodeO at z
    cases z
  have ev : Ev W H (W.keep c) H := ⟨⟨[], by simp [Wd.keep]⟩, fun _ h => Or.inl h, fun _ _ _ h => h, fun _ _ h => h, fun _ _ _ h => h, fun _ h => h, fun _ _ _ h => h, rfl⟩
  refine ⟨ev, A.len, A.nd, A.tr, fun b z => ?_, fun n o hn => ?_, fun b z => ⟨(A.pd b z).1, fun w => ?_, (A.pd b z).2.2⟩, A.tt, fun b ps e => ⟨fun z => ?_, (A.tn b ps e).2⟩⟩
  · rcases z with z | z
    · exact A.ft b z
    · rw [z, h]
      exact fun w => nomatch w
  · obtain ⟨b, h1, h2, h3⟩ := A.ob n o hn
    refine ⟨b, h1, fun z => ?_, h3.up ev rfl⟩
    rcases z with z | z
    · exact h2 z
    · exact h3.ne_ext (by rw [z, h]; rfl)
  · rcases w with w | w
    · exact (A.pd b z).2.1 w
    · obtain ⟨vs, e⟩ := (A.pd b z).1
      rw [w] at e
      exact notL vs e
  · rcases z with z | z
    · exact (A.tn b ps e).1 z
    · rw [z, h] at e
      unfold LamX.CodeO at e
      cases e
end
/-! ### the call of the lambda that was got -/
/-- the context of a def that was entered at s with the lambda -/
abbrev gotCx (X : Cx) (Ng : List Str) (qg : Str) (sg : Scope) (g : Addr) (cdg : Value) (s : Shared) (H : Hp) : Cx := cxOf C8.CX0 X.prog X.w X.K X.mg X.base Ng qg sg g cdg X.A X.stack s H C8.E0
section
variable {X : Cx} {pins : List (Addr × Obj)} {σ : L2.St} {H : Hp} {s : Shared}
/-- x() there: what is raised is wished for at the slots of that def -/
theorem act_at {Ng : List Str} {qg a : Str} {sg scope : Scope} {g f c : Addr} {cdg pm ctv : Value} {params : Arguments} {body : Expr} {k : Nat} {pn : List (Addr × Obj)} {xe : Value → Shared → Prop} {W : WX} {t : XK → TE} {p1 p2 : Pos}
    (I : Inv X pins σ H s) (L : LamX.LamS X.env.scope scope) (hf : s.heap.get? f = some (PySem.W.kla_obj "<lambda>" (X.env.qual ++ "<lambda>") params body scope (cloFrom X.env.cells scope.names []) pm c ctv)) (hfn : H f = none) (hfr : f ∉ frs X.stack)
    (hbind : bindArgs (PySem.W.kla_fn "<lambda>" (X.env.qual ++ "<lambda>") params body scope (cloFrom X.env.cells scope.names []) pm (.ref c) ctv) ⟨[], []⟩ = pure [])
    (tk : Takes ((gotCx X Ng qg sg g cdg s H).tr pn xe) W) (hr : Room (k + 1) (X.A.deeper (envOfC qg sg s.heap.objs.size g cdg)))
    (hbody : ∀ (A : Around) (outer : List Env) (s : Shared) (H : Hp) (E : XK), Room k (A.deeper (LamX.lamEnv X scope s.heap.objs.size f c)) → PE (LamX.lamCx X A outer s H E scope f c) body (t E))
    (hN : Ng[0]? = some a) (hv : Vis sg a) (hd : (a == ("__debug__" : Str)) = false) (hcd : (a == ("__classdict__" : Str)) = false) :
    PE ((gotCx X Ng qg sg g cdg s H).tr pn xe) (.Call (.Name a p1) [] [] p2) (fun σZ HZ Q => σZ[0]? = some (some (.ref f)) ∧ HZ c = some (LamX.CodeO c (X.env.qual ++ "<lambda>")) ∧ t (fun cls d H' => W cls d σZ H') σ HZ Q) := by
  constructor
  intro pz sz σZ HZ Q IZ ⟨hs, hc, ht⟩
  let Zx : Cx := (gotCx X Ng qg sg g cdg s H).tr pn xe
  let E : XK := fun cls d H' => W cls d σZ H'
  have name := (pe_var (X := Zx) (pos := p1) (i := 0) hN hv hd hcd).run pz sz σZ HZ (fun v H1 => v = .ref f ∧ H1 = HZ) IZ ⟨.ref f, hs, rfl, rfl⟩
  refine wpAny_Call_Name_kw (thn name fun u s1 got => ?_)
  obtain ⟨v, H1, I1, r1, rfl, rfl⟩ := got
  obtain rfl : u = Value.ref f := r1
  have un : Un (frs X.stack) [] H H1 s.heap s1.heap := I1.base
  have at1 := un.keep f _ hf hfn hfr (fun z => nomatch z)
  refine PySem.W.callWith_F0 ⟨_, _, _, _, at1⟩ ?_
  obtain ⟨⟨oc, rows, tk1, g1, g2, g3⟩, -, -⟩ := I1.hok c _ hc
  have inner : codeAny (model X.prog X.w) Zx.A (.call (.ref f) ⟨[], []⟩) (CR (L2.CX X.prog X.w) Zx.stack X.prog X.w H1 s1 Q E) s1 := by
    refine PySem.W.kla_callFunE hr.depth at1 rfl L.co L.gen rfl ⟨c, oc, rows, tk1, rfl, g1, g2, g3⟩ ?_
    rw [hbind]
    refine wpAny_pure (wpAny_newFunctionEnv (fun y hy => (L.own y hy).2) (fun y hy => absurd hy (by simp)) (fun h2 hns hsb => ⟨I1.nolimit.fresh _ hsb, ?_⟩) L.kind)
    have more : ∀ b o, s1.heap.get? b = some o → h2.get? b = some o := fun b o e => hsb.extBut b o (Nat.ne_of_lt (Heap.lt_size e)) (Heap.get?_push_of_some _ e)
    have start := LamX.lam_start2 (E := E) (f := f) (c' := c) (tk := s1.toks + ([] : List (Str × Value)).length) I L I1.env0 hr.hd un hns more
    refine PySem.W.kla_codeExpr (wpAny_mono ((hbody _ _ s1 H1 E (hr.deeper _)).run [] _ _ H1 Q start ht) (fun w s3 out => ?_) fun _ _ z => z)
    obtain ⟨w', H3, I3, rv, wish⟩ := out
    exact ⟨w', H3, I3.os, I3.bare, I3.base, I3.hok, rv, wish⟩
  refine wpAny_call (codeAny_mono inner fun r s3 out => ?_)
  match r, out with
  | .error e, out => exact passAt tk σZ pz H1 s1 e s3 I1 out
  | .ok (.ret u), out => exact I1.after out
end
/-- what is known of x() in the def that got the lambda: tl is the lambda's reading, c its code object -/
def ActP (a : Str) (f c : Addr) (qn : Str) (tl : XK → Hp → VK → Prop) (X : Cx) : Prop :=
  ∀ (W : WX) (pn : List (Addr × Obj)) (xe : Value → Shared → Prop) (p1 p2 : Pos), Takes (X.tr pn xe) W →
    PE (X.tr pn xe) (.Call (.Name a p1) [] [] p2) (fun σZ HZ Q => σZ[0]? = some (some (.ref f)) ∧ HZ c = some (LamX.CodeO c qn) ∧ tl (fun cls d H' => W cls d σZ H') HZ Q)
section
variable {X : Cx}
/-- x(lambda: body) -/
theorem pe_said {T : List (Addr × Str)} {TT : Addr → Addr → (XK → Hp → VK → Prop) → Hp → VK → Prop} {x a : Str} {g c P : Addr} {k : Nat} {pg : Arguments} {bg : List Stmt} {sg : Scope} {dV kV doc pm cdv ct oc : Value} {an od : Option Addr} {osl : Array (Option Value)} {Ng : List Str}
    {params : Arguments} {body : Expr} {scope : Scope} {t : XK → TE} {p lpos pos : Pos} (hg : Gl X x) (hm : X.mg x = some (.ref g)) (hk : PySem.W.keepIn X.K (.ref g) = true)
    (lk : X.K.lookup g = some ⟨oc, od, .func (PySem.W.fnOf x x pg bg sg dV kV doc pm an cdv ct), osl⟩) (hcg : PySem.W.codeIn X.K cdv x = true) (hb : L2.Binds X.K (PySem.W.fnOf x x pg bg sg dV kV doc pm an cdv ct) [a] []) (Sg : FnScope Ng [a] sg) (hNg : Ng[0]? = some a) (hva : Vis sg a)
    (hG : ∀ f c' s H Q tl, Room (k + 1) (X.A.deeper (envOfC x sg s.heap.objs.size g cdv)) → ActP a f c' (X.env.qual ++ "<lambda>") tl (gotCx X Ng x sg g cdv s H) → H c' = some (LamX.CodeO c' (X.env.qual ++ "<lambda>")) → TT f c' tl H Q →
      ∃ u, PSs (gotCx X Ng x sg g cdv s H).nox bg u ∧ u { nx := fun _ H' => Q .non H', rt := Q } (L2.start Ng [.ref f]) H)
    (TB : LamX.TabB X.base X.mg c P) (hcode : X.env.code = .ref c) (hmT : (P, X.env.qual ++ "<lambda>") ∈ T) (hu : ∀ p ∈ T, p.1 = P → p.2 = X.env.qual ++ "<lambda>") (hr : Room (k + 2) X.A) (L : LamX.LamS X.env.scope scope) (hdef : defaultsOf params X.env = ([], []))
    (hbind : ∀ (q : Str) (cl : List (Str × Addr)) (pm cv ctv : Value), bindArgs (PySem.W.kla_fn "<lambda>" q params body scope cl pm cv ctv) ⟨[], []⟩ = pure [])
    (hbody : ∀ (A : Around) (outer : List Env) (s : Shared) (H : Hp) (E : XK) (f c' : Addr), Room k (A.deeper (LamX.lamEnv X scope s.heap.objs.size f c')) → PE (LamX.lamCx X A outer s H E scope f c') body (t E))
    (hdb : (x == ("__debug__" : Str)) = false) (hd : (a == ("__debug__" : Str)) = false) (hcd : (a == ("__classdict__" : Str)) = false) :
    PE X (.Call (.Name x p) [.Lambda params body scope lpos] [] pos) (fun σ H Q => LamX.Tabs T H ∧ ∀ f c' H1, LamX.ExtN H H1 → LamX.Tabs T H1 → H1 c' = some (LamX.CodeO c' (X.env.qual ++ "<lambda>")) → TT f c' (fun E H' Q' => t E σ H' Q') H1 Q) := by
  constructor
  intro pins s σ H Q I ⟨hT, h⟩
  refine wpAny_Call_Name_kw (ld_glob I hg hm (PySem.W.callWith_K (h₀ := X.base) I.ok.mod.kin hk ?_ (by rfl) (by rfl)) hdb)
  show wpAny _ _ (spliced ((false, eval (.Lambda params body scope lpos) X.env) :: backTo pos (starEach [] X.env))) _ _ s
  refine Calls.spliced_cons (LamX.lam_make2 I TB hcode hmT hu hT hdef (L.has I.ok) fun f c1 pm1 ctv H1 s1 I1 eN T1 hf hfn hfr hco => Calls.spliced_nil ⟨I1.kIn, ?_⟩)
  have rc : codeAny (model X.prog X.w) X.A (.call (.ref g) ⟨[.ref f], []⟩) (CR C8.CX0 X.stack X.prog X.w H1 s1 Q C8.E0) s1 := by
    refine LamX.run_ofS (N := Ng) (ps := [a]) (us := [.ref f]) (vs := [.ref f]) lk hcg Sg hr I1.env0 (hb s1 [.ref f] I1.kIn rfl) (.cons rfl .nil) rfl fun room => ?_
    obtain ⟨u, hu1, hu2⟩ := hG f c1 s1 H1 Q (fun E H' Q' => t E σ H' Q') room (fun W pn xe p1 p2 tk => act_at I1 L hf hfn hfr (hbind _ _ _ _ _) tk room (fun A o s H E r2 => hbody A o s H E f c1 r2) hNg hva hd hcd) hco (h f c1 H1 eN T1 hco)
    exact ⟨u, hu1.nox, hu2⟩
  refine wpAny_call (codeAny_mono rc fun r s2 out => ?_)
  match r, out with
  | .ok (.ret v), out => exact I1.after out
end
/-- the lambda that lies in slot 0 does q -/
def actE (f c : Addr) (qn : Str) (q : M D) : EF := fun ρ s => match (ρ[0]? : Option (Option D)) with
  | some (some (.p (.lam f1 c1 q1))) => if f1 = f ∧ c1 = c ∧ q1 = qn then q s else .bad
  | _ => .bad
theorem ei_act {I : Wd → Hp → Prop} {C : Cf} {sc : Scope} {N : List Str} {k : Nat} {a : Str} {f c : Addr} {qn : Str} {tl : XK → Hp → VK → Prop} {q : M D} {p1 p2 : Pos} (hx : ∀ X, C.ex X → ActP a f c qn tl X)
    (hq : ∀ W H s E Q, I W H → Abs C.K W s H → GoodX (q s) (Po C.K W H Q) (PoE C.K W H E) → tl E H Q) : SEXi I C sc N k (.Call (.Name a p1) [] [] p2) (actE f c qn q) := fun X WW pn xe ok po tk => by
  refine ⟨_, hx X ok.cx WW pn xe p1 p2 tk, fun σ H W s ρ Q i er A g => ?_⟩
  unfold actE at g
  split at g
  · rename_i f1 c1 q1 h0
    split at g
    · rename_i he
      obtain ⟨rfl, rfl, rfl⟩ := he
      obtain ⟨v, h1, h2⟩ := er.at 0 _ h0
      cases h2 with
      | lam hf hc => exact ⟨h1, hc, hq W H s _ Q i A g⟩
    · exact g.elim
  · exact g.elim
/-! ### x.m(e) in a try, e what may raise -/
def metX (g : D → List D → M D) (mo m : EF) : EF := fun ρ => bnd (noX mo ρ) fun d s => match its d s with
  | some _ => bnd (m ρ) (fun x s1 => R.nox (g d [x] s1)) s
  | none => .bad
theorem ei_met {I : Wd → Hp → Prop} (up : UpI I) {C : Cf} {sc : Scope} {N : List Str} {k : Nat} {o e : Expr} {mo m : EF} {apos cpos : Pos} {name : Str} {id : String} {g : D → List D → M D} (pa : PlainAttrs "list") (slot : Slot "list" name id) (hty : typeOf (.builtin id) = pure (.type "method_descriptor")) (hm : MtS C k id g) (ho : SE C sc N k o mo) (he : SEXi I C sc N k e m)
    (hb : ∀ env, attributeBase o name env (eval o env) = eval o env := by intro _; rfl)
    (hf : ∀ env, ((backTo cpos (starEach [e] env)).all (fun x => !x.1) && (backToKw cpos (keywordEach [] env)).all (fun x => x.1.isSome) && decide ([e].length + ([] : List Keyword).length + (if ([] : List Keyword).isEmpty then 0 else 1) < 30)) = true := by intro _; rfl)
    (hl : (apos.endLine == cpos.line) = true := by rfl) (hs : ∀ env, starEach [e] env = (false, eval e env) :: starEach [] env := by intro _; rfl) (hp : ∀ env, (backTo cpos (starEach [] env)).any (·.1) = false := by intro _; rfl) :
    SEXi I C sc N k (.Call (.Attribute o name apos) [e] [] cpos) (metX g mo m) := fun X WW pn xe ok po tk => by
  have ok2 := ok.toCok.tr (pn := pn) (xe := xe) po
  obtain ⟨t1, p1, q1⟩ := ho _ ok2
  obtain ⟨t2, p2, q2⟩ := he X WW pn xe ok po tk
  obtain ⟨r, p3, q3⟩ := hm _ ok2.toOkx
  refine ⟨_, pe_bm pa slot hty p3 p1 (pa_cons p2 pa_nil (hs _)) (hb _) (hf _) hl (hs _) (hp _), fun σ H W s ρ Q i er A G => ?_⟩
  refine q1 σ H W s ρ _ er A ((nox_good (GoodX.bnd G)).mono fun d s1 z W1 H1 v e1 r1 A1 => ?_)
  split at z
  · rename_i xs hx
    obtain ⟨a, vs, rfl, h1, h2⟩ := its_sq r1 A1 hx
    refine ⟨by rw [ok2.eK]; exact Or.inl ⟨rfl, _, h1⟩, q2 σ H1 W1 s1 ρ _ (up _ _ _ _ e1 i) (er.up e1) A1 ((GoodX.bnd z).mono (fun x s2 z2 W2 H2 u e2 r2 A2 => ?_) fun c s2 w => w.up e1)⟩
    exact q3 W2 s2 H2 _ d [u] [x] Q (r1.up e2) (.cons r2 .nil) A2 (Good.mono (nox_good z2) fun _ _ w => w.up (e1.trans e2))
  · exact z.elim
/-- [e] in a try -/
def ls1X (m : EF) : EF := fun ρ => bnd (m ρ) fun d s => match d with
  | .p x => .ok (.p (.lst [x])) s
  | .obj _ => .bad
theorem ei_ls1 {I : Wd → Hp → Prop} {C : Cf} {sc : Scope} {N : List Str} {k : Nat} {e : Expr} {m : EF} {pos : Pos} (he : SEXi I C sc N k e m) (hs : ∀ env, starEach [e] env = (false, eval e env) :: starEach [] env := by intro _; rfl) : SEXi I C sc N k (.List [e] pos) (ls1X m) := fun X WW pn xe ok po tk => by
  obtain ⟨t, p, q⟩ := he X WW pn xe ok po tk
  refine ⟨_, pe_lst (pa_cons p pa_nil (hs _)), fun σ H W s ρ Q i er A G => ?_⟩
  refine q σ H W s ρ _ i er A ((GoodX.bnd G).mono (fun d s1 z W1 H1 v e1 r1 A1 => ?_) fun c s1 w => w)
  cases d with
  | obj n => exact z.elim
  | p x => exact ⟨(by show 1 ≤ sizeLine; decide), fun o ho => keep_go e1 A1 (.cons r1 .nil) z ho⟩
/-! ### a lambda handed to a def that calls it in a try -/
/-- the said def's term for a lambda -/
abbrev SaidF := Addr → Addr → Str → M D → SF
open Classical in
noncomputable def saidM (n : Nat) (B : SaidF) (q : M D) : M D := fun s => if h : ∃ r, ∀ f c qn, defM 1 n (B f c qn q) [.p (.lam f c qn)] s = r then Classical.choose h else .bad
theorem saidM_eq {n : Nat} {B : SaidF} {q : M D} {s : S} {r : R D} (h : ∀ f c qn, defM 1 n (B f c qn q) [.p (.lam f c qn)] s = r) : saidM n B q s = r := by
  have e : ∃ r, ∀ f c qn, defM 1 n (B f c qn q) [.p (.lam f c qn)] s = r := ⟨r, h⟩
  unfold saidM
  rw [dif_pos e]
  exact (Classical.choose_spec e 0 0 Str.empty).symm.trans (h 0 0 Str.empty)
theorem saidM_good {n : Nat} {B : SaidF} {q : M D} {s : S} {Q : D → S → Prop} (g : Good (saidM n B q s) Q) (f c : Addr) (qn : Str) : Good (defM 1 n (B f c qn q) [.p (.lam f c qn)] s) Q := by
  unfold saidM at g
  split at g
  · rename_i h
    rw [Classical.choose_spec h f c qn]
    exact g
  · exact g.elim
noncomputable def saidE (n : Nat) (B : SaidF) (m : EF) : EF := fun ρ => saidM n B (m ρ)
@[simp] theorem saidE_ev (n : Nat) (B : SaidF) (m : EF) (ρ : En) (s : S) : saidE n B m ρ s = saidM n B (m ρ) s := rfl
/-- the setting of the said def's body, of the lambda's body -/
abbrev Cf.said (C : Cf) (E : Cx → Prop) : Cf := { C with rg := false, ex := E, cq := none }
abbrev Cf.lamb (C : Cf) : Cf := { C with rg := false, ex := fun _ => True, cq := none }
/-- what the said def's body does, whatever the lambda -/
def SaidB (C : Cf) (a : Str) (sg : Scope) (Ng : List Str) (k : Nat) (bg : List Stmt) (B : SaidF) : Prop :=
  ∀ (I : Wd → Hp → Prop) (f c : Addr) (qn : Str) (tl : XK → Hp → VK → Prop) (q : M D), UpI I → (∀ W H s E Q, I W H → Abs C.K W s H → GoodX (q s) (Po C.K W H Q) (PoE C.K W H E) → tl E H Q) →
    SBI I (C.said fun X => ActP a f c qn tl X) sg Ng k bg (B f c qn q)
theorem lik_lam {sc es scope : Scope} (l : Lik sc es) (L : LamX.LamS sc scope) : LamX.LamS es scope := ⟨L.kind, L.co, L.gen, L.own, fun y hy e => by
  rcases L.free y hy e with z | z
  · exact Or.inl (l.cel _ z)
  · exact l.fre _ z⟩
theorem s_said {C : Cf} {sc scope : Scope} {N Ng : List Str} {k kk : Nat} {x a : Str} {st : Stmt} {g c P : Addr} {fd : FuncData} {q0 : Str} {B : SaidF} {params : Arguments} {body : Expr} {m : EF} {p lpos pos : Pos} (F : Fun C.K x x st g fd) (Sg : FnScope Ng [a] (defScope st)) (b : Binds C.K fd [a] [])
    (hB : SaidB C a (defScope st) Ng (k + 1) (defBody st) B) (hm : C.mg x = some (.ref g)) (hc : C.cq = some (.ref c, q0)) (TB : LamX.TabB C.base C.mg c P) (hT : (P, q0 ++ "<lambda>") ∈ C.tb) (hu : ∀ p ∈ C.tb, p.1 = P → p.2 = q0 ++ "<lambda>")
    (hk : k + 2 ≤ kk) (he : SEX C.lamb scope N k body m) (L : LamX.LamS sc scope) (hg : GlS sc x := by rfl) (hNg : Ng[0]? = some a := by rfl) (hva : Vis (defScope st) a := by first | exact Or.inl rfl | exact Or.inr (Or.inl rfl) | exact Or.inr (Or.inr rfl))
    (hdef : ∀ env, defaultsOf params env = ([], []) := by intro _; rfl) (hbind : ∀ (q : Str) (cl : List (Str × Addr)) (pm cv ctv : Value), bindArgs (PySem.W.kla_fn "<lambda>" q params body scope cl pm cv ctv) ⟨[], []⟩ = pure [] := by intro _ _ _ _ _; rfl)
    (hdb : (x == ("__debug__" : Str)) = false := by decide) (hd : (a == ("__debug__" : Str)) = false := by decide) (hcd : (a == ("__classdict__" : Str)) = false := by decide) :
    SE C sc N kk (.Call (.Name x p) [.Lambda params body scope lpos] [] pos) (saidE Ng.length B m) := fun X ok => by
  obtain ⟨oc, od, kV, doc, pm, an, cdv, ct, osl, rfl, lk, hcdv⟩ := F.ex
  obtain ⟨ecode, equal⟩ := ok.cq _ _ hc
  have hr : Room (k + 2) X.A := ok.rm.mono hk
  -- the lambda's body, wherever it runs
  have lam : ∀ (A : Around) (outer : List Env) (s : Shared) (H : Hp) (E : XK) (f c' : Addr), Room k (A.deeper (LamX.lamEnv X scope s.heap.objs.size f c')) → Cok C.lamb scope N k (LamX.lamCx X A outer s H E scope f c') := fun A outer s H E f c' hr2 =>
    { pr := ok.pr, ew := ok.ew, eK := ok.eK, em := ok.em, eb := ok.eb, calm := rfl, rm := hr2, gd := (fun z => nomatch z), nN := ok.nN, nd := ok.nd, eL := Lik.rfl, po := passes_of rfl, fc := fun y hy => absurd rfl (L.own _ (PySem.mem_of_lookup hy)).2, cq := (fun v q z => nomatch z) }
  let Ix := Around × List Env × Shared × Hp × XK × Addr × Addr
  have each : ∀ i : Ix, Room k (i.1.deeper (LamX.lamEnv X scope i.2.2.1.heap.objs.size i.2.2.2.2.2.1 i.2.2.2.2.2.2)) → ∃ t, PE (LamX.lamCx X i.1 i.2.1 i.2.2.1 i.2.2.2.1 i.2.2.2.2.1 scope i.2.2.2.2.2.1 i.2.2.2.2.2.2) body t ∧
      ∀ σ H W s ρ Q, ER C.lamb W H σ ρ → Abs C.K W s H → GoodX (m ρ s) (Po C.K W H Q) (PoE C.K W H fun cl d H' => i.2.2.2.2.1 cl d H') → t σ H Q := fun i hr2 =>
    he _ (fun cl d _ H' => i.2.2.2.2.1 cl d H') (lam _ _ _ _ _ _ _ hr2) (takes_of rfl rfl rfl rfl)
  let t : XK → TE := fun E σ H Q => ∀ (i : Ix) (hr2 : Room k (i.1.deeper (LamX.lamEnv X scope i.2.2.1.heap.objs.size i.2.2.2.2.2.1 i.2.2.2.2.2.2))), i.2.2.2.2.1 = E → Classical.choose (each i hr2) σ H Q
  have tg : ∀ E σ H W s ρ Q, ER C.lamb W H σ ρ → Abs C.K W s H → GoodX (m ρ s) (Po C.K W H Q) (PoE C.K W H E) → t E σ H Q := fun E σ H W s ρ Q er A g i hr2 e => by
    subst e
    exact (Classical.choose_spec (each i hr2)).2 σ H W s ρ Q er A g
  let TT : Addr → Addr → (XK → Hp → VK → Prop) → Hp → VK → Prop := fun f c' tl H Q => ∃ (W : Wd) (s : S) (q : M D), Abs C.K W s H ∧ W.tb = C.tb ∧ W.fr c' ∧ H c' = some (LamX.CodeO c' (X.env.qual ++ "<lambda>")) ∧
    (∀ W1 H1 s1 E Q1, Ev W H W1 H1 → Abs C.K W1 s1 H1 → GoodX (q s1) (Po C.K W1 H1 Q1) (PoE C.K W1 H1 E) → tl E H1 Q1) ∧ Good (saidM Ng.length B q s) (Po C.K W H Q)
  refine ⟨_, pe_said (T := C.tb) (TT := TT) (a := a) (k := k) (t := t) (hg.of ok) (by rw [ok.em]; exact hm) (by rw [ok.eK]; exact F.kp) (by rw [ok.eK]; exact lk) (by rw [ok.eK]; exact hcdv) (by rw [ok.eK]; exact b) Sg hNg hva (fun f c' s H Q tl room act hco w => ?_) (by rw [ok.eb, ok.em]; exact TB) ecode
    (by rw [equal]; exact hT) (by rw [equal]; exact hu) hr (lik_lam ok.eL L) (hdef _) hbind (fun A outer s H E f c' hr2 => ⟨fun pins s' σ H' Q I h => (Classical.choose_spec (each (A, outer, s, H, E, f, c') hr2)).1.run pins s' σ H' Q I (h (A, outer, s, H, E, f, c') hr2 rfl)⟩) hdb hd hcd, fun σ H W s ρ Q er A g => ⟨?_, fun f c' H1 eN T1 hco => ?_⟩⟩
  · obtain ⟨W, s0, q, A, tbe, frc, _, hq, gd⟩ := w
    have g2 := saidM_good gd f c' (X.env.qual ++ "<lambda>")
    have cod : Cod (C.said fun X' => ActP a f c' (X.env.qual ++ "<lambda>") tl X') (defScope st) Ng (k + 1) (gotCx X Ng x (defScope st) g cdv s H).nox :=
      { pr := ok.pr, ew := ok.ew, eK := ok.eK, em := ok.em, eb := ok.eb, calm := rfl, rm := room, gd := (fun z => nomatch z), nN := rfl, nd := Sg.nd, eL := Lik.rfl, po := PassesOwn.never, fc := fun _ _ => rfl, eS := rfl, sk := rfl, fm := rfl, nx := rfl, cx := act, cq := (fun v q z => nomatch z) }
    obtain ⟨u, p, qq⟩ := hB (fun W1 H1 => Ev W H W1 H1) f c' (X.env.qual ++ "<lambda>") tl q (upI_ev W H) (fun W1 H1 s1 E Q1 i A1 gx => hq W1 H1 s1 E Q1 i A1 gx) _ cod
    refine ⟨u, p, ?_⟩
    have r0 : DVs C.K W H [.ref f] [.p (.lam f c' (X.env.qual ++ "<lambda>"))] := .cons (PV.lam frc hco) .nil
    have er0 := start_er (C := C.said fun X' => ActP a f c' (X.env.qual ++ "<lambda>") tl X') (N := Ng) r0 tbe rfl
    have end_ : ∀ {d : D} {s' : S}, Good (fin s0 d s') (Po C.K W H Q) → Po C.K W H Q d s' := fun {d s'} h W' H' v e rv A' => fin_go A e rv A' h
    refine qq _ _ H W s0 _ Ev.rfl er0 A ?_
    unfold defM at g2
    rw [if_pos (show ([D.p (.lam f c' (X.env.qual ++ "<lambda>"))] : List D).length = 1 from rfl)] at g2
    cases e : B f c' (X.env.qual ++ "<lambda>") q ([D.p (.lam f c' (X.env.qual ++ "<lambda>"))].map some ++ List.replicate (Ng.length - 1) none) s0 with
    | bad =>
      rw [e] at g2
      exact g2
    | exn _ _ =>
      rw [e] at g2
      exact g2
    | ok fl s' =>
      rw [e] at g2
      cases fl with
      | rt d => exact end_ g2
      | nx ρ => exact fun W' H' σ' ev er A' => end_ (d := .p .non) g2 W' H' .non ev PV.non A'
      | bk ρ => exact g2.elim
      | ct ρ => exact g2.elim
  · have := A.tt
    rw [er.tb] at this
    exact this
  · have e1 := ext_world A eN (by rw [er.tb]; exact T1)
    have e2 := code_keep e1.2 hco
    have ev : Ev W H (W.keep c') H1 := e1.1.trans e2.1
    refine ⟨W.keep c', s, m ρ, e2.2, er.tb, Or.inr rfl, hco, fun W2 H2 s2 E Q2 ev2 A2 gx => ?_, Good.mono g fun _ _ z => z.up ev⟩
    have er1 : ER C W2 H2 σ ρ := er.up (ev.trans ev2)
    have er2 : ER C.lamb W2 H2 σ ρ := ⟨er1.len, er1.at, er1.tb⟩
    exact tg E σ H2 W2 s2 ρ Q2 er2 A2 gx
end CW

end
section
set_option maxRecDepth 100000
set_option maxHeartbeats 2000000
/-! CW, twentieth part: calls with keywords, with defaults. -/
namespace CW
open PySem PySem.Spec PyProof.Rows L2
theorem pair_app {α β : Type} {R : α → β → Prop} : ∀ {a c : List α} {b d : List β}, Paired R a b → Paired R c d → Paired R (a ++ c) (b ++ d)
  | _, _, _, _, .nil, h => h
  | _, _, _, _, .cons r l, h => .cons r (pair_app l h)
/-- how a call with n values and the keywords ks binds: gD puts all in the parameters' order -/
structure KwB (C : Cf) (fd : FuncData) (ps : List Str) (n : Nat) (ks : List Str) (gD : List D → List D → List D) : Prop where
  len : ∀ ds es : List D, ds.length = n → es.length = ks.length → (gD ds es).length = ps.length
  go : ∀ (s : Shared) (W : Wd) (H : Hp) (us ws : List Value) (vs zs : List V) (ds es : List D), C.K.In s.heap → Vals vs us → Vals zs ws → DVs C.K W H vs ds → DVs C.K W H zs es → us.length = n → ws.length = ks.length →
    ∃ (bs : List Value) (vs' : List V), BindsTo s fd ⟨us, ks.zip ws⟩ (ps.zip bs) ∧ Vals vs' bs ∧ DVs C.K W H vs' (gD ds es)
theorem kwB_mk {C : Cf} {x qual : Str} {st : Stmt} {f : Addr} {fd : FuncData} {ps ks : List Str} {n : Nat} (F : Fun C.K x qual st f fd) (g : {α : Type} → List α → List α → List α)
    (hl : ∀ {α : Type} (a c : List α), a.length = n → c.length = ks.length → (g a c).length = ps.length)
    (hg : ∀ {α β : Type} {R : α → β → Prop} {a c : List α} {b d : List β}, Paired R a b → Paired R c d → a.length = n → c.length = ks.length → Paired R (g a c) (g b d))
    (h : ∀ (kV doc pm : Value) (an : Option Addr) (cdv ct : Value) (us ws : List Value), us.length = n → ws.length = ks.length → bindArgs (PySem.W.fnOf x qual (defArgs st) (defBody st) (defScope st) .none kV doc pm an cdv ct) ⟨us, ks.zip ws⟩ = pure (ps.zip (g us ws))) : KwB C fd ps n ks g := by
  obtain ⟨oc, od, kV, doc, pm, an, cdv, ct, osl, rfl, lk, hcd⟩ := F.ex
  refine ⟨hl, fun s W H us ws vs zs ds es kin r1 r2 d1 d2 l1 l2 => ⟨g us ws, g vs zs, .of_eq (h kV doc pm an cdv ct us ws l1 l2), hg r1 r2 (r1.length.trans l1) (r2.length.trans l2), hg d1 d2 (r1.length.trans l1) (r2.length.trans l2)⟩⟩
/-- one default, the last parameter's: left out -/
theorem kwB_dfl {C : Cf} {x qual : Str} {st : Stmt} {f T : Addr} {fd : FuncData} {ps : List Str} {n : Nat} {o : Obj} {u : Value} {z : V} {d : P} {sz : Nat} (F : FunA C.K x qual st f fd (.ref T)) (lT : C.K.lookup T = some o) (oT : o.data = .seq #[u] sz) (rz : RelV z u) (dz : ∀ F H, PV C.K F H z d) (hl : n + 1 = ps.length)
    (h : ∀ (kV doc pm : Value) (an : Option Addr) (cdv ct : Value) (us its : List Value), us.length = n → its.length = 1 →
      ∃ k, bindArgs (PySem.W.fnOf x qual (defArgs st) (defBody st) (defScope st) (.ref T) kV doc pm an cdv ct) ⟨us, []⟩ = seqItems? (.ref T) >>= k ∧ k (some its.toArray) = pure (ps.zip (us ++ its))) : KwB C fd ps n [] (fun ds _ => ds ++ [.p d]) := by
  obtain ⟨oc, od, kV, doc, pm, an, cdv, ct, osl, rfl, lk, hcd⟩ := F.ex
  refine ⟨fun ds es l1 _ => by rw [List.length_append, l1]; exact hl, fun s W H us ws vs zs ds es kin r1 r2 d1 d2 l1 l2 => ?_⟩
  have e : ws = [] := List.length_eq_zero_iff.mp l2
  subst e
  refine ⟨us ++ [u], vs ++ [z], ?_, r1.append (.cons rz .nil), ?_⟩
  · obtain ⟨k, e1, e2⟩ := h kV doc pm an cdv ct us [u] l1 rfl
    refine L2.BindsTo.of_looks fun M => ?_
    show PySem.W.Looks M s.heap (bindArgs _ ⟨us, []⟩) _
    rw [e1]
    exact looks_items kin lT oT (.of_pure e2)
  · exact pair_app d1 (.cons (show DV C.K W H z (.p d) from dz _ _) .nil)
/-- all written, by place, though there are defaults -/
theorem kwB_all {C : Cf} {x qual : Str} {st : Stmt} {f : Addr} {fd : FuncData} {dV : Value} {ps ks : List Str} {n : Nat} (F : FunA C.K x qual st f fd dV) (g : {α : Type} → List α → List α → List α)
    (hl : ∀ {α : Type} (a c : List α), a.length = n → c.length = ks.length → (g a c).length = ps.length)
    (hg : ∀ {α β : Type} {R : α → β → Prop} {a c : List α} {b d : List β}, Paired R a b → Paired R c d → a.length = n → c.length = ks.length → Paired R (g a c) (g b d))
    (h : ∀ (kV doc pm : Value) (an : Option Addr) (cdv ct : Value) (us ws : List Value), us.length = n → ws.length = ks.length → bindArgs (PySem.W.fnOf x qual (defArgs st) (defBody st) (defScope st) dV kV doc pm an cdv ct) ⟨us, ks.zip ws⟩ = pure (ps.zip (g us ws))) : KwB C fd ps n ks g := by
  obtain ⟨oc, od, kV, doc, pm, an, cdv, ct, osl, rfl, lk, hcd⟩ := F.ex
  refine ⟨hl, fun s W H us ws vs zs ds es kin r1 r2 d1 d2 l1 l2 => ⟨g us ws, g vs zs, .of_eq (h kV doc pm an cdv ct us ws l1 l2), hg r1 r2 (r1.length.trans l1) (r2.length.trans l2), hg d1 d2 (r1.length.trans l1) (r2.length.trans l2)⟩⟩
section
variable {C : Cf} {sc : Scope} {N : List Str} {k : Nat} {pos p2 : Pos} {e a b : Expr} {ma mb : EF} {es : List Expr} {ms ks' : List EF} {kws : List Keyword}
/-- the keywords' values -/
def SKs (C : Cf) (sc : Scope) (N : List Str) (k : Nat) (kws : List Keyword) (ms : List EF) : Prop :=
  ∀ X, Cok C sc N k X → ∃ t, PK X kws t ∧ ∀ σ H W s ρ Q, ER C W H σ ρ → Abs C.K W s H → Good (evA ms ρ s) (PoA C.K W H Q) → t σ H Q
theorem k_nil : SKs C sc N k [] [] := fun X ok => ⟨_, pk_nil, fun σ H W s ρ Q er A g => g W H [] Ev.rfl .nil A⟩
theorem k_cons {nm : Option Str} {kpos : Pos} {kws : List Keyword} {r : List EF} (ha : SE C sc N k e ma) (hr : SKs C sc N k kws r) : SKs C sc N k (⟨nm, e, kpos⟩ :: kws) (ma :: r) := fun X ok => by
  obtain ⟨t, p, q⟩ := ha X ok
  obtain ⟨u, p', q'⟩ := hr X ok
  refine ⟨_, pk_cons p p', fun σ H W s ρ Q er A G => ?_⟩
  refine q σ H W s ρ _ er A ((Good.bnd G).mono fun d s1 h1 W1 H1 v e1 r1 A1 => ?_)
  refine q' σ H1 W1 s1 ρ _ (er.up e1) A1 ((Good.bnd h1).mono fun ds s2 h3 W2 H2 vs e2 r2 A2 => ?_)
  exact h3 W2 H2 (v :: vs) (e1.trans e2) (.cons (r1.up e2) r2) A2
def kwE (m : List D → M D) (gD : List D → List D → List D) (ms zs : List EF) : EF := fun ρ => bnd (evA ms ρ) fun ds => bnd (evA zs ρ) fun es => m (gD ds es)
theorem run_kw {X : Cx} {j n : Nat} {f : Addr} {fd : FuncData} {ps ks : List Str} {gD : List D → List D → List D} {m : List D → M D} {pins : List (Addr × Obj)} {σ : L2.St} {H : Hp} {s : Shared} {Q : VK} {us ws : List Value} {vs zs : List V} {W : Wd} {s0 : S} {ds es : List D} (F : Fn C j f fd ps (spM C ps.length m)) (ok : Okx C j X) (hb : KwB C fd ps n ks gD)
    (I : Inv X pins σ H s) (r : Vals vs us) (r' : Vals zs ws) (d1 : DVs C.K W H vs ds) (d2 : DVs C.K W H zs es) (l1 : ds.length = n) (l2 : es.length = ks.length) (hT : W.tb = C.tb) (A : Abs C.K W s0 H) (g : Good (m (gD ds es) s0) (Po C.K W H Q)) :
    wpAny (model X.prog X.w) X.A (call (.ref f) us (ks.zip ws)) (EP X pins σ Q) X.xe s := by
  have e0 := I.env0
  have kin := I.kIn
  rw [ok.pr, ok.ew, ok.eK, ok.em, ok.eb] at e0
  rw [ok.eK] at kin
  have lu : us.length = n := by rw [← r.length, Paired.length d1]; exact l1
  have lw : ws.length = ks.length := by rw [← r'.length, Paired.length d2]; exact l2
  obtain ⟨bs, vs', hbt, rv, rd⟩ := hb.go s W H us ws vs zs ds es kin r r' d1 d2 lu lw
  have run := F.run X.A X.stack s H ⟨us, ks.zip ws⟩ bs vs' Q E0 ok.rm ok.gd e0 hbt rv ⟨(Paired.length rd).trans (hb.len ds es l1 l2), W, s0, _, rd, hT, A, g⟩
  rw [← ok.pr, ← ok.ew] at run
  refine wpAny_call (codeAny_mono run fun q s' hq => ?_)
  match q, hq with
  | .error _, hq => exact hq.elim
  | .ok (.ret u), hq => exact I.after hq
theorem s_kw {x : Str} {j n : Nat} {f : Addr} {fd : FuncData} {ps ks : List Str} {gD : List D → List D → List D} {m : List D → M D} (F : Fn C j f fd ps (spM C ps.length m)) (hj : j ≤ k) (hm : C.mg x = some (.ref f)) (hk : PySem.W.keepIn C.K (.ref f) = true) (hb : KwB C fd ps n ks gD)
    (ha : SAs C sc N k (e :: es) ms) (hz : SKs C sc N k kws ks') (hn : ms.length = n := by rfl) (hn2 : ks'.length = ks.length := by rfl) (hg : GlS sc x := by rfl) (hd : (x == ("__debug__" : Str)) = false := by decide)
    (hall : ∀ env, (backToKw pos (keywordEach kws env)).all (·.1.isSome) = true := by intro _; rfl) (hks : ∀ env, (backToKw pos (keywordEach kws env)).filterMap (·.1) = ks := by intro _; rfl)
    (he : ∀ env, starEach (e :: es) env = (false, eval e env) :: starEach es env := by intro _; rfl) (hpl : ∀ env, ((backTo pos (starEach (e :: es) env)).any (·.1) || (backToKw pos (keywordEach kws env)).any (·.1.isNone)) = false := by intro _; rfl) :
    SE C sc N k (.Call (.Name x p2) (e :: es) kws pos) (kwE m gD ms ks') := fun X ok => by
  obtain ⟨t, p, q⟩ := ha X ok
  obtain ⟨u, p', q'⟩ := hz X ok
  refine ⟨fun σ H Q => t σ H fun vs H1 => u σ H1 fun zs H2 => ∃ W s0 ds es, DVs C.K W H2 vs ds ∧ DVs C.K W H2 zs es ∧ ds.length = n ∧ es.length = ks.length ∧ W.tb = C.tb ∧ Abs C.K W s0 H2 ∧ Good (m (gD ds es) s0) (Po C.K W H2 Q), ⟨fun pins s σ H Q I h => ?_⟩, fun σ H W s ρ Q er A g => ?_⟩
  · refine wpAny_Call_Name_kw (ld_glob I (hg.of ok) (by rw [ok.em]; exact hm) ?_ hd)
    refine PySem.W.callWith_KW (h₀ := X.base) I.ok.mod.kin (by rw [ok.eK]; exact hk) (hall _) (thn (p.run pos pins s σ H _ I h) fun us s1 ⟨vs, H1, I1, r, q1⟩ => ?_) (hpl _) (he _)
    refine thn (p'.run pos pins s1 σ H1 _ I1 q1) fun ws s2 ⟨zs, H2, I2, rz, W, s0, ds, es, d1, d2, l1, l2, hT, A, g⟩ => ⟨I2.kIn, ?_⟩
    rw [hks]
    exact run_kw (F.mono hj) ok.toOkx hb I2 r rz d1 d2 l1 l2 hT A g
  · refine q σ H W s ρ _ er A (g.bnd.len.mono fun ds s1 ⟨z, h1⟩ W1 H1 vs e1 r1 A1 => ?_)
    refine q' σ H1 W1 s1 ρ _ (er.up e1) A1 (h1.bnd.len.mono fun es s2 ⟨z2, h2⟩ W2 H2 zs e2 r2 A2 => ?_)
    exact ⟨W2, s2, ds, es, DVs.up e2 r1, r2, z.trans hn, z2.trans hn2, (er.up (e1.trans e2)).tb, A2, h2.mono fun _ _ w => w.up (e1.trans e2)⟩
theorem s_kw0 {x : Str} {j : Nat} {f : Addr} {fd : FuncData} {ps ks : List Str} {gD : List D → List D → List D} {m : List D → M D} (F : Fn C j f fd ps (spM C ps.length m)) (hj : j ≤ k) (hm : C.mg x = some (.ref f)) (hk : PySem.W.keepIn C.K (.ref f) = true) (hb : KwB C fd ps 0 ks gD)
    (hz : SKs C sc N k kws ks') (hn2 : ks'.length = ks.length := by rfl) (hg : GlS sc x := by rfl) (hd : (x == ("__debug__" : Str)) = false := by decide)
    (hall : ∀ env, (backToKw pos (keywordEach kws env)).all (·.1.isSome) = true := by intro _; rfl) (hks : ∀ env, (backToKw pos (keywordEach kws env)).filterMap (·.1) = ks := by intro _; rfl)
    (hpl : ∀ env, ((backTo pos (starEach [] env)).any (·.1) || (backToKw pos (keywordEach kws env)).any (·.1.isNone)) = false := by intro _; rfl) :
    SE C sc N k (.Call (.Name x p2) [] kws pos) (kwE m gD [] ks') := fun X ok => by
  obtain ⟨u, p', q'⟩ := hz X ok
  refine ⟨fun σ H Q => u σ H fun zs H2 => ∃ W s0 es, DVs C.K W H2 zs es ∧ es.length = ks.length ∧ W.tb = C.tb ∧ Abs C.K W s0 H2 ∧ Good (m (gD [] es) s0) (Po C.K W H2 Q), ⟨fun pins s σ H Q I h => ?_⟩, fun σ H W s ρ Q er A g => ?_⟩
  · refine wpAny_Call_Name_kw (ld_glob I (hg.of ok) (by rw [ok.em]; exact hm) ?_ hd)
    refine PySem.W.callWith_KW0 (h₀ := X.base) I.ok.mod.kin (by rw [ok.eK]; exact hk) (hall _) ?_ (hpl _)
    refine thn (p'.run pos pins s σ H _ I h) fun ws s2 ⟨zs, H2, I2, rz, W, s0, es, d2, l2, hT, A, g⟩ => ⟨I2.kIn, ?_⟩
    rw [hks]
    exact run_kw (us := []) (vs := []) (ds := []) (F.mono hj) ok.toOkx hb I2 .nil rz .nil d2 rfl l2 hT A g
  · have g0 := Good.bnd g
    refine q' σ H W s ρ _ er A ((Good.bnd (show Good (bnd (evA ks' ρ) (fun es => m (gD [] es)) s) _ from g0)).len.mono fun es s2 ⟨z2, h2⟩ W2 H2 zs e2 r2 A2 => ?_)
    exact ⟨W2, s2, es, r2, z2.trans hn2, (er.up e2).tb, A2, h2.mono fun _ _ w => w.up e2⟩
end
/-- {} where nothing is ever put in -/
theorem s_emp {C : Cf} {sc : Scope} {N : List Str} {k : Nat} {pos : Pos} : SE C sc N k (.Dict [] [] pos) (cE .emp) := fun X ok => by
  refine ⟨_, pe_dnewK, fun σ H W s ρ Q er A g o ho => ?_⟩
  exact g _ _ _ (Ev.keep ho) (PV.emp (Or.inr rfl) upd_same) (A.keep ho)
@[simp] theorem isi_emp_int {s : S} : isiD [.p .emp, .p (.ty "int")] s = .ok (.p (.bl false)) s := isi_ev _ rfl (by decide +kernel)
@[simp] theorem isi_emp_bool {s : S} : isiD [.p .emp, .p (.ty "bool")] s = .ok (.p (.bl false)) s := isi_ev _ rfl (by decide +kernel)
@[simp] theorem isi_emp_tuple {s : S} : isiD [.p .emp, .p (.ty "tuple")] s = .ok (.p (.bl false)) s := isi_ev _ rfl (by decide +kernel)
@[simp] theorem isi_emp_list {s : S} : isiD [.p .emp, .p (.ty "list")] s = .ok (.p (.bl false)) s := isi_ev _ rfl (by decide +kernel)
@[simp] theorem isi_emp_str {s : S} : isiD [.p .emp, .p (.ty "str")] s = .ok (.p (.bl false)) s := isi_ev _ rfl (by decide +kernel)
@[simp] theorem kwE_ev (m : List D → M D) (gD : List D → List D → List D) (ms zs : List EF) (ρ : En) (s : S) : kwE m gD ms zs ρ s = R.bind (evA ms ρ s) fun ds s1 => R.bind (evA zs ρ s1) fun es s2 => m (gD ds es) s2 := by
  unfold kwE
  rw [bnd_ev]
  rfl
end CW

end
section
set_option maxRecDepth 100000
set_option maxHeartbeats 2000000
/-! CW, twenty-first part: words for printed texts: the def that runs, tables of classes. -/
namespace CW
open PySem PySem.Spec PyProof.Rows L2
abbrev Cf.cqd (C : Cf) (v : Value) (q : Str) : Cf := { C with cq := some (v, q) }
theorem Fn.cqd {C : Cf} {v : Value} {q : Str} {k n : Nat} {f : Addr} {fd : FuncData} {ps : List Str} {m : List D → M D} (F : Fn (C.cqd v q) k f fd ps (spM (C.cqd v q) n m)) : Fn C k f fd ps (spM C n m) := ⟨F.len, F.run⟩
theorem FnX.cqd {C : Cf} {v : Value} {q : Str} {k n : Nat} {f : Addr} {fd : FuncData} {ps : List Str} {m : List D → M D} (F : FnX (C.cqd v q) k f fd ps (spX (C.cqd v q) n m)) : FnX C k f fd ps (spX C n m) := ⟨F.len, F.run⟩
abbrev Cf.noq (C : Cf) : Cf := { C with cq := none }
theorem Fn.noq {C : Cf} {k n : Nat} {f : Addr} {fd : FuncData} {ps : List Str} {m : List D → M D} (F : Fn C.noq k f fd ps (spM C.noq n m)) : Fn C k f fd ps (spM C n m) := ⟨F.len, F.run⟩
theorem FnX.noq {C : Cf} {k n : Nat} {f : Addr} {fd : FuncData} {ps : List Str} {m : List D → M D} (F : FnX C.noq k f fd ps (spX C.noq n m)) : FnX C k f fd ps (spX C n m) := ⟨F.len, F.run⟩
theorem cq_of {C : Cf} {v : Value} {c : Addr} {q : Str} (h : v = .ref c) : (C.cqd v q).cq = some (.ref c, q) := by rw [h]
theorem kw_cons {α β : Type} {R : α → β → Prop} {a : List α} {b : List β} {n : Nat} (h : Paired R a b) (l : a.length = n + 1) : ∃ x r y q, a = x :: r ∧ b = y :: q ∧ R x y ∧ Paired R r q ∧ r.length = n := by
  cases h with
  | nil => cases l
  | cons r h => exact ⟨_, _, _, _, rfl, rfl, r, h, Nat.succ.inj l⟩
theorem kw_nil {α β : Type} {R : α → β → Prop} {a : List α} {b : List β} (h : Paired R a b) (l : a.length = 0) : a = [] ∧ b = [] := by
  cases h with
  | nil => exact ⟨rfl, rfl⟩
  | cons r h => cases l
theorem isx_cls {sub : Str → Str → Option Bool} {subB : Str → String → Option Bool} {c t : Str} {b : Bool} {s : S} (h : sub c t = some b) : isxD sub subB [.p (.exn c), .p (.cls t)] s = .ok (.p (.bl b)) s := by
  have e : isxD sub subB [.p (.exn c), .p (.cls t)] s = (match sub c t with | some b => .ok (.p (.bl b)) s | none => .bad) := rfl
  rw [e, h]
theorem isx_ty {sub : Str → Str → Option Bool} {subB : Str → String → Option Bool} {c : Str} {t : String} {b : Bool} {s : S} (h : subB c t = some b) : isxD sub subB [.p (.exn c), .p (.ty t)] s = .ok (.p (.bl b)) s := by
  have e : isxD sub subB [.p (.exn c), .p (.ty t)] s = (match subB c t with | some b => .ok (.p (.bl b)) s | none => .bad) := rfl
  rw [e, h]
def AllP {α : Type} (Q : α → Prop) : List α → Prop
  | [] => True
  | a :: r => Q a ∧ AllP Q r
theorem AllP.mem {α : Type} {Q : α → Prop} : ∀ {l : List α}, AllP Q l → ∀ a ∈ l, Q a
  | [], _, _, h => nomatch h
  | b :: r, h, a, hm => by
    rcases List.mem_cons.mp hm with e | e
    · rw [e]
      exact h.1
    · exact AllP.mem h.2 a e
section
variable {K : PySem.W.Frag}
theorem NmC.uni {c : Str} {A B : Addr} (h : NmC K c A) (g : NmC K c B) : A = B := by
  unfold NmC at h g
  rw [h] at g
  cases g
  rfl
/-- the classes that a clause takes -/
def catT (l : List Str) (c : Str) : Bool := l.contains c
theorem cat_mk {l : List Str} {cs : List Value} (h : AllP (fun c => ∃ A, NmC K c A ∧ PySem.W.exmAny K (.ref A) cs = some true) l) : ∀ c A, catT l c = true → NmC K c A → PySem.W.exmAny K (.ref A) cs = some true := fun c A hc hn => by
  obtain ⟨B, h1, h2⟩ := h.mem c (List.contains_iff_mem.mp hc)
  rw [hn.uni h1]
  exact h2
/-- answers of isinstance: class, class, answer -/
def subT (l : List (Str × Str × Bool)) (c t : Str) : Option Bool := (l.find? fun p => p.1 == c && p.2.1 == t).map (·.2.2)
def subB (l : List (Str × String × Bool)) (c : Str) (t : String) : Option Bool := (l.find? fun p => p.1 == c && p.2.1 == t).map (·.2.2)
theorem subT_mem {l : List (Str × Str × Bool)} {c t : Str} {b : Bool} (h : subT l c t = some b) : (c, t, b) ∈ l := by
  unfold subT at h
  cases e : l.find? fun p => p.1 == c && p.2.1 == t with
  | none =>
    rw [e] at h
    cases h
  | some p =>
    rw [e] at h
    have hb : p.2.2 = b := Option.some.inj h
    have h1 := List.find?_some e
    have h2 := List.mem_of_find?_eq_some e
    simp only [Bool.and_eq_true, beq_iff_eq] at h1
    rw [← h1.1, ← h1.2, ← hb]
    exact h2
theorem subB_mem {l : List (Str × String × Bool)} {c : Str} {t : String} {b : Bool} (h : subB l c t = some b) : (c, t, b) ∈ l := by
  unfold subB at h
  cases e : l.find? fun p => p.1 == c && p.2.1 == t with
  | none =>
    rw [e] at h
    cases h
  | some p =>
    rw [e] at h
    have hb : p.2.2 = b := Option.some.inj h
    have h1 := List.find?_some e
    have h2 := List.mem_of_find?_eq_some e
    simp only [Bool.and_eq_true, beq_iff_eq] at h1
    rw [← h1.1, ← h1.2, ← hb]
    exact h2
theorem xtab_mk {cs : List Str} {l : List (Str × Str × Bool)} {lb : List (Str × String × Bool)} (hc : AllP (fun c => ∃ A, NmC K c A ∧ (PySem.W.clsIn K A).isSome = true ∧ ExcC K A) cs)
    (h1 : AllP (fun p => ∃ A B, NmC K p.1 A ∧ NmC K p.2.1 B ∧ PySem.W.kitOne K (.ref A) (.ref B) = some p.2.2) l) (h2 : AllP (fun p => ∃ A, NmC K p.1 A ∧ PySem.W.kitOne K (.ref A) (.type p.2.1) = some p.2.2) lb)
    (hl : ∀ p ∈ l, p.1 ∈ cs) (hlb : ∀ p ∈ lb, p.1 ∈ cs) : XTab K (subT l) (subB lb) where
  own := fun c t b A B h n1 n2 => by
    obtain ⟨A', B', e1, e2, e3⟩ := h1.mem _ (subT_mem h)
    rw [n1.uni e1, n2.uni e2]
    exact e3
  blt := fun c n b A h n1 => by
    obtain ⟨A', e1, e2⟩ := h2.mem _ (subB_mem h)
    rw [n1.uni e1]
    exact e2
  fx := fun c t b A h n1 => by
    obtain ⟨A', e1, e2⟩ := hc.mem _ (hl _ (subT_mem h))
    rw [n1.uni e1]
    exact e2
  fb := fun c t b A h n1 => by
    obtain ⟨A', e1, e2⟩ := hc.mem _ (hlb _ (subB_mem h))
    rw [n1.uni e1]
    exact e2
end
section
variable {s : S} {ρ : En}
@[simp] theorem raiF_ev (c : Str) (m : EF) : raiF c m ρ s = R.bind (R.nox (m ρ s)) fun _ s1 => .exn c s1 := by
  unfold raiF
  rw [bnd_ev]
  rfl
def tryk (cat : Str → Bool) (i j : Nat) (ρ : En) : R Fl → R Fl
  | .ok fl s' => .ok fl s'
  | .exn c s' => if cat c.c = true then .ok (.nx (((ρ.set i (some (.p c.toP))).set j (some (.p c.toP))).set i none)) s' else .bad
  | .bad => .bad
@[simp] theorem tryF_ev (cat : Str → Bool) (i j : Nat) (m : SF) : tryF cat i j m ρ s = tryk cat i j ρ (m ρ s) := rfl
@[simp] theorem tryk_ok (cat : Str → Bool) (i j : Nat) (fl : Fl) : tryk cat i j ρ (.ok fl s) = .ok fl s := rfl
@[simp] theorem tryk_exn (cat : Str → Bool) (i j : Nat) (c : Xc) : tryk cat i j ρ (.exn c s) = if cat c.c = true then .ok (.nx (((ρ.set i (some (.p c.toP))).set j (some (.p c.toP))).set i none)) s else .bad := rfl
@[simp] theorem metX_ev (g : D → List D → M D) (mo m : EF) : metX g mo m ρ s = R.bind (R.nox (mo ρ s)) fun d s1 => match its d s1 with
  | some _ => R.bind (m ρ s1) fun x s2 => R.nox (g d [x] s2)
  | none => .bad := by
  unfold metX
  rw [bnd_ev]
  congr 1
@[simp] theorem actE_ev (f c : Addr) (qn : Str) (q : M D) (r : En) : actE f c qn q (some (.p (.lam f c qn)) :: r) s = q s := by
  show (if f = f ∧ c = c ∧ qn = qn then q s else .bad) = q s
  rw [if_pos ⟨rfl, rfl, rfl⟩]
@[simp] theorem its_end (xs : List P) : its (.obj s.length) (s ++ [some (.lst xs)]) = some xs := by
  rw [its_obj]
  unfold lsAt
  rw [List.getElem?_append_right (Nat.le_refl _), Nat.sub_self]
  rfl
@[simp] theorem isN3_exn (g : Bool) (c : Str) : isN g (.p (.exn c)) (.p .non) s = .ok (.p (.bl g)) s := rfl
@[simp] theorem isN3_str (g : Bool) (c : Str) : isN g (.p (.str c)) (.p .non) s = .ok (.p (.bl g)) s := rfl
@[simp] theorem isN3_lst (g : Bool) (c : List P) : isN g (.p (.lst c)) (.p .non) s = .ok (.p (.bl g)) s := rfl
@[simp] theorem isN3_tup (g : Bool) (c : List P) : isN g (.p (.tup c)) (.p .non) s = .ok (.p (.bl g)) s := rfl
@[simp] theorem isN3_int (g : Bool) (c : Int) : isN g (.p (.int c)) (.p .non) s = .ok (.p (.bl g)) s := rfl
@[simp] theorem isN3_bl (g : Bool) (c : Bool) : isN g (.p (.bl c)) (.p .non) s = .ok (.p (.bl g)) s := rfl
@[simp] theorem isN3_emp (g : Bool) : isN g (.p .emp) (.p .non) s = .ok (.p (.bl g)) s := rfl
@[simp] theorem isN3_obj (g : Bool) (n : Nat) : isN g (.obj n) (.p .non) s = .ok (.p (.bl g)) s := rfl
@[simp] theorem isN3_non (g : Bool) : isN g (.p .non) (.p .non) s = .ok (.p (.bl (!g))) s := rfl
/-! comprehensions over written lists -/
def lcq (k : M (List P)) : D → M (List P)
  | .p y => fun s => R.bind (k s) fun r s' => .ok (y :: r) s'
  | .obj _ => fun _ => .bad
@[simp] theorem lcq_p (k : M (List P)) (y : P) : lcq k (.p y) s = R.bind (k s) fun r s' => .ok (y :: r) s' := rfl
theorem lcL_cns {own : List Nat} {t : GF} {c : TF} {m : EF} (x : P) (xs : List P) : lcL own [] t c m ρ (x :: xs) s = R.bind (t (.p x) (wipE ρ own) s) fun ρ1 s1 => R.bind (c ρ1 s1) fun b s2 => if b = true then R.bind (m ρ1 s2) (lcq (lcL own [] t c m ρ xs)) else lcL own [] t c m ρ xs s2 := by
  conv => lhs; unfold lcL
  rw [if_pos (gok_nil s), bnd_ev]
  congr 1
  funext ρ1 s1
  rw [bnd_ev]
  congr 1
  funext b s2
  by_cases hb : b = true
  · rw [if_pos hb, if_pos hb, bnd_ev]
    congr 1
  · rw [if_neg hb, if_neg hb]
def rowk : D → M (List P × Gd) := fun d s => match d with
  | .p (.tup xs) => .ok (xs, []) s
  | d => match rowD d s with
    | some r => .ok r s
    | none => .bad
theorem rowI_k (m : EF) : rowI m ρ s = R.bind (m ρ s) rowk := by
  unfold rowI
  rw [bnd_ev]
  rfl
@[simp] theorem rowk_tup (xs : List P) : rowk (.p (.tup xs)) s = .ok (xs, []) s := rfl
@[simp] theorem rowk_lst (xs : List P) : rowk (.p (.lst xs)) s = .ok (xs, []) s := rfl
@[simp] theorem rowk_con (xs : List P) : rowk (.p (.con xs)) s = .ok (xs, []) s := rfl
end
end CW

end
section
set_option maxRecDepth 100000
set_option maxHeartbeats 2000000
/-! CW, twenty-second part: classes under ArithmeticError with an own __init__. -/
namespace CW
open PySem PySem.Spec PyProof.Rows L2
abbrev aeT : List Value := [.type "ArithmeticError", .type "Exception", .type "BaseException", .type "object"]
/-- own classes, and the tail of ArithmeticError behind them -/
inductive AeR : List Value → Prop
  | tail : AeR aeT
  | own {A : Addr} {l : List Value} : AeR l → AeR (.ref A :: l)
theorem AeR.some {l : List Value} (h : AeR l) : l.isEmpty = false := by cases h <;> rfl
theorem AeR.has {l : List Value} (h : AeR l) (T : String) : l.contains (.type T) = aeT.contains (.type T) := by
  induction h with
  | tail => rfl
  | own _ ih =>
    rw [List.contains_cons, ih]
    rfl
theorem AeR.lets {l : List Value} (h : AeR l) (me : Value) : refuseLoop me "__setattr__" l = pure () := by
  induction h with
  | tail => exact F.store_ArithmeticError.passes me
  | own _ ih =>
    rw [refuseLoop_ref]
    exact ih
/-- what the written part says of such a class -/
structure AexC (K : PySem.W.Frag) (C : Addr) : Prop where
  cls : ∃ nm q N bs bm sn sub ab col dd k0 k1 k2 k3 k5, K.lookup C = some (excClassObj nm q C N bs bm true sn sub ab col dd k0 k1 k2 k3 k5 "ArithmeticError.__new__") ∧ AeR bm
  sa : PySem.W.findIn K (.ref C) "__setattr__" = some (some (.builtin "object.__setattr__"))
  exC : PySem.W.subIn K (.ref C) (.type "BaseException") = some true
  tyC : PySem.W.typeIn K (.ref C) = some (.type "type")
  kC : PySem.W.keepIn K (.ref C) = true
section
open Builtin Builtin.ObjectAttr
variable {prog : Program} {w : World} {Ar : Around} {Rw : Result → Shared → Prop} {h0 : Heap} {gs : Array GenState} {dr : Drawn} {tk0 : Nat} {os0 : OsState}
/-- the first field: the dict is made -/
theorem ae_set {K : PySem.W.Frag} {name : Str} {tk : Tok} {v : Value} {a C : Addr} {fs : Array Value} {cd : ClassData} (X : K.In h0) (ha : h0.get? a = some { cls := .ref C, data := .fields fs }) (hcd : PySem.W.clsIn K C = some cd) (hm : AeR cd.mro) (hh : cd.hasDict = true) (hn : PySem.W.findIn K (.ref C) name = some none)
    (fin : ∀ h1 t1 dx, (∀ b o, b ≠ a → h0.get? b = some o → h1.get? b = some o) → h0.objs.size ≤ dx → dx ≠ a → h1.get? a = some { cls := .ref C, dict := some dx, data := .fields fs } → h1.Ns1 dx (fun y => if y = name then some v else none) → Rw (.ok (.ret .none)) ⟨h1, gs, dr, t1, os0⟩) :
    codeAny (model prog w) Ar (.call (.builtin "object.__setattr__") ⟨[.ref a, .str name tk, v], []⟩) Rw ⟨h0, gs, dr, tk0, os0⟩ := by
  have here : PySem.W.InstAt h0 a { cls := .ref C, data := .fields fs } C none := ⟨ha, rfl, rfl, trivial⟩
  have obj : cd.mro.contains (.type "object") = true := (hm.has "object").trans (by decide +kernel)
  have old : a ≠ h0.objs.size := Nat.ne_of_lt (Heap.lt_size ha)
  have isObj : PySem.W.Looks (model prog w) h0 (isInstance (.ref a) (.type "object")) true := here.type.andThen (PySem.W.looks_mroIn X (by
    unfold PySem.W.mroIn
    rw [hcd, Option.bind_some, if_neg (by rw [hm.some]; decide), obj]))
  have mroL : PySem.W.Looks (model prog w) h0 (mroOf (.ref C)) cd.mro := (PySem.W.looks_clsIn X hcd).andThen .now
  have noTaker : PySem.W.Looks (model prog w) h0 (storeTaker? none) none := .now
  have clsL : PySem.W.Looks (model prog w) h0 (classData C) cd := PySem.W.looks_clsIn X hcd
  refine codeAny_call_builtin F.store_object.slot.plain F.store_object.entry (@PySem.W.check_slot (model prog w) _ _ ⟨h0, gs, dr, tk0, os0⟩ "object.__setattr__" "object" "__setattr__" (.ref a) [.str name tk, v] [] _ F.store_object.kind F.store_object.split isObj (F.store_object.args (.ref a) (.str name tk) v) ?_)
  rw [PySem.W.osa_eq, refuse_eq]
  refine wpAny_bind (wpAny_bind (here.type.at (wpAny_bind (mroL.at ?_))))
  rw [hm.lets]
  refine wpAny_pure (wpAny_bind (here.type.at (wpAny_bind ((PySem.W.looks_findIn X hn).at (wpAny_bind (noTaker.at ?_))))))
  show wpAny (model prog w) _ (storeInOwnDict (.ref a) (.ref C) (.str name tk) name v false) _ _ ⟨h0, gs, dr, tk0, os0⟩
  cases cd with
  | mk nm bs mro ns qn hd sn sb ab col del =>
  have hh : hd = true := hh
  rw [hh] at clsL
  unfold storeInOwnDict ownDictForStores
  repeat (first
    | with_reducible refine PySem.HandSPX.store_in_new ?_ ?_
    | with_reducible refine wpAny_loadPart_at ha ?_
    | with_reducible refine clsL.at ?_
    | wp_step)
  · exact ⟨_, #[], _, (Heap.get?_update_ne _ _ _ _ (Ne.symm old)).trans (Heap.get?_push_at rfl rfl), rfl, fun e z => absurd z (by simp), fun _ => rfl⟩
  · intro h1 t1 n1 k1
    have at1 : (h0.push { cls := .type "dict", data := .dict #[] }).get? a = some { cls := .ref C, data := .fields fs } := Heap.get?_push_of_some _ ha
    exact fin h1 t1 h0.objs.size (fun b o hb ho => (k1.2 b (Nat.ne_of_lt (Heap.lt_size ho))).trans ((Heap.get?_update_ne _ _ _ _ hb).trans (Heap.get?_push_of_some _ ho))) (Nat.le_refl _) (Ne.symm old) ((k1.2 a old).trans (Heap.get?_update_self _ at1 rfl)) n1
end
section
variable {X : Cx} {pins : List (Addr × Obj)} {σ : L2.St} {H : Hp} {s : Shared} {a C : Addr} {f : Str} {y : V} {u : Value} {Q : Unit → Shared → Prop} {E : Value → Shared → Prop} {Ar : Around}
theorem ae_first (T : AexC X.K C) (I : Inv X pins σ H s) (e : H a = some (exo a C none)) (hno : PySem.W.findIn X.K (.ref C) f = some none) (ry : RelV y u)
    (fin : ∀ dx s1, H dx = none → dx ≠ a → Inv X pins σ (upd (upd H dx (exd dx [(f, y)])) a (exo a C (some dx))) s1 → Q () s1) : wpAny (model X.prog X.w) Ar (setAttr (.ref a) f u) Q E s := by
  obtain ⟨nm, q, N, bs, bm, sn, sub, ab, col, dd, k0, k1, k2, k3, k5, atC, tl⟩ := T.cls
  have cdC : PySem.W.clsIn X.K C = some { name := nm, bases := bs, mro := .ref C :: bm, ns := N, qualname := q, hasDict := true, slotNames := sn, subclasses := sub, abstract := ab, collection := col, hasDel := false } := by
    unfold PySem.W.clsIn
    rw [atC] <;> rfl
  obtain ⟨t1, obA⟩ := exo_at I.hok e
  cases s with
  | mk h0 gs dr tk0 os0 =>
  refine PySem.W.set_plain I.kIn (ox := { cls := .ref C, dict := none, data := .fields #[.ref t1, .none, .none, .none, .bool false, .none] }) (od := none) ⟨obA, rfl, rfl, trivial⟩ T.sa ?_
  refine ae_set I.kIn obA cdC (AeR.own tl) rfl hno fun h1 tk1 dx keep new ne atA ns => ?_
  have freeD : H dx = none := I.hok.fresh new
  have notD : ∀ {b : Addr} {o : Obj}, h0.get? b = some o → b ≠ dx := fun {b o} z => Nat.ne_of_lt (Nat.lt_of_lt_of_le (Heap.lt_size z) new)
  have notA : ∀ {b : Addr}, H b = none → b ≠ a := fun {b} n z => by
    subst z
    rw [e] at n
    cases n
  have un : Un X.fs [] H (upd (upd H dx (exd dx [(f, y)])) a (exo a C (some dx))) h0 h1 := {
    keep := fun b o z n _ _ => keep b o (notA n) z
    slot := fun b o z n _ _ => ⟨o.slots, keep b o (notA n) z⟩
    free := fun b o z n _ => by
      rw [upd_ne (notA n), upd_ne (notD z)]
      exact n
    there := fun b o z _ => by
      by_cases hb : b = a
      · subst hb
        exact ⟨_, atA⟩
      · exact ⟨o, keep b o hb z⟩
    tups := fun b xs z => by
      rw [upd_ne (at_ne e z exo_tup), upd_ne (ne_of_none z freeD)]
      exact z
    frzs := fun b o v z => by
      rw [upd_ne (at_ne e z exo_frz), upd_ne (ne_of_none z freeD)]
      exact z
    tbls := fun b ps z => ⟨#[], by
      rw [upd_ne (at_ne e z exo_tbl), upd_ne (ne_of_none z freeD), z]
      simp⟩ }
  refine fin dx _ freeD ne (I.un (t' := tk1) un fun b o z => ?_)
  by_cases hb : b = a
  · subst hb
    rw [upd_same] at z
    cases z
    exact exo_ok atA
  · rw [upd_ne hb] at z
    by_cases hd : b = dx
    · subst hd
      rw [upd_same] at z
      cases z
      exact exd_ok ns (relO_put (fs := []) ry fun g => True.intro)
    · rw [upd_ne hd] at z
      refine (I.hok b o z).stay (fun c v hc w => keep c v ?_ w) (fun c hc => ?_) fun c xs hc => ?_
      · rcases hc with hc | hc
        · rw [hc]
          exact hb
        · exact at_ne e hc exo_own
      · rw [upd_ne (at_ne e hc exo_own), upd_ne (ne_of_none hc freeD)]
        exact hc
      · rw [upd_ne (at_ne e hc exo_tup), upd_ne (ne_of_none hc freeD)]
        exact hc
end
/-- self.f = e in such an __init__ -/
def tAst (K : PySem.W.Frag) (f : Str) (to te : TE) : TS := fun D σ H => te σ H fun y H1 => to σ H1 fun x H2 => ∃ a C : Addr, x = .ref a ∧ AexC K C ∧ PySem.W.findIn K (.ref C) f = some none ∧ H2 a = some (exo a C none) ∧ ∀ dx, H2 dx = none → dx ≠ a → D.nx σ (upd (upd H2 dx (exd dx [(f, y)])) a (exo a C (some dx)))
section
variable {X : Cx} {o e : Expr} {es : List Expr} {to te : TE} {ta : TA} {f : Str} {p p' p1 p2 pos : Pos}
theorem ps_ast (ho : PE X o to) (he : PE X e te) (hs : swapsWith e (some (.Attribute o f p')) pos.line X.env = pure false) : PS X (.Assign [.Attribute o f p'] e pos) (tAst X.K f to te) := by
  constructor
  intro pins s σ H D I w
  refine plainObj_wpAny_Assign_Attribute (thn (he.run pins s σ H _ I w) fun v s1 got => ?_) hs
  obtain ⟨y, H1, I1, r1, w1⟩ := got
  refine thn (ho.run pins s1 σ H1 _ I1 w1) fun u s2 got2 => ?_
  obtain ⟨x, H2, I2, r2, a, C, rfl, T, hno, ea, w2⟩ := got2
  obtain rfl : u = Value.ref a := r2
  exact ae_first T I2 ea hno r1 fun dx s3 n ne J => ⟨σ, _, J, w2 dx n ne⟩
/-- C(e, ..) -/
theorem pmk_ae {CXx : CXT} {x : Str} {C fI : Addr} {k : Nat} {fd : FuncData} {ps : List Str} {sp : Sp} {ds : List Value} {dvs : List V} (T : AexC X.K C) (hi : PySem.W.findIn X.K (.ref C) "__init__" = some (some (.ref fI))) (ti : PySem.W.typeIn X.K (.ref fI) = some (.type "function"))
    (F1 : FnOk X.prog X.w X.K X.mg X.base CXx k fI fd ps sp) (hr : Room (k + 1) X.A) (hb : Binds X.K fd ps ds) (hd : Vals dvs ds) (hx : Passes CXx X (fun _ _ _ => False)) (hg : Gl X x) (hm : X.mg x = some (.ref C)) (ha : PA X (e :: es) ta) (hdb : (x == ("__debug__" : Str)) = false)
    (he : starEach (e :: es) X.env = (false, eval e X.env) :: starEach es X.env) (hpl : (backTo pos (starEach es X.env)).any (·.1) = false) : PMk X (.Call (.Name x p) (e :: es) [] pos) (tMkO C sp dvs ta) := fun pins s σ H Q I w => by
  obtain ⟨nm, q, N, bs, bm, sn, sub, ab, col, dd, k0, k1, k2, k3, k5, atC, tl⟩ := T.cls
  refine wpAny_Call_Name_kw (ld_glob I hg hm ?_ hdb)
  refine PySem.W.callWith_K (h₀ := X.base) I.ok.mod.kin T.kC (thn (ha.run pos pins s σ H _ I w) fun us s1 got => ?_) he hpl
  obtain ⟨vs, H1, I1, r1, few, w1⟩ := got
  refine ⟨I1.kIn, ?_⟩
  show wpAny (model X.prog X.w) X.A (call (.ref C) us) _ _ s1
  cases s1 with
  | mk h0 gs dr tk0 os0 =>
  have grow : h0.objs.size ≤ h0.objs.size + 1 := Nat.le_succ _
  have free : H1 (h0.objs.size + 1) = none := I1.hok.fresh grow
  have w2 := w1 (h0.objs.size + 1) free
  have kept : ∀ b o, h0.get? b = some o → ((h0.push (PySem.W.kdv_tup us)).push (PySem.HandSPX.excO C h0.objs.size)).get? b = some o := fun b o z => Heap.get?_push_of_some _ (Heap.get?_push_of_some _ z)
  have made : ((h0.push (PySem.W.kdv_tup us)).push (PySem.HandSPX.excO C h0.objs.size)).get? (h0.objs.size + 1) = some (PySem.HandSPX.excO C h0.objs.size) := by heap_get
  have I2 : Inv X pins σ (upd H1 (h0.objs.size + 1) (exo (h0.objs.size + 1) C none)) ⟨(h0.push (PySem.W.kdv_tup us)).push (PySem.HandSPX.excO C h0.objs.size), gs, dr, tk0, os0⟩ :=
    I1.laid (t' := tk0) (a := h0.objs.size + 1) (o := exo (h0.objs.size + 1) C none) (h' := (h0.push (PySem.W.kdv_tup us)).push (PySem.HandSPX.excO C h0.objs.size)) kept grow (exo_ok made)
  have r2 : Vals (V.ref (h0.objs.size + 1) :: (vs ++ dvs)) (Value.ref (h0.objs.size + 1) :: (us ++ ds)) := .cons rfl (r1.append hd)
  have len2 : (Value.ref (h0.objs.size + 1) :: us ++ ds).length = ps.length := by
    have z := r2.length
    rw [F1.len _ _ _ _ w2] at z
    exact z.symm
  have fits : us.length ≤ sizeLine := by
    have z := Paired.length r1
    rw [← z, sizeLine_eq]
    omega
  refine wpAny_call (PySem.HandSPX.call_own F.excBase_ArithmeticError (fun T => tl.has T) (I1.kIn _ _ atC) (PySem.W.looks_findIn I1.kIn hi) (fun self => PySem.W.bind_fn I1.kIn self ti) fits
    (codeAny_mono (F1.run _ X.stack _ _ ⟨Value.ref (h0.objs.size + 1) :: us, []⟩ (Value.ref (h0.objs.size + 1) :: (us ++ ds)) _ _ (fun _ _ _ => False) (hr.make C us []) (I2.env0.make C us []) (hb _ (Value.ref (h0.objs.size + 1) :: us) I2.kIn len2) r2 w2) fun r s' out => ?_))
  match r, out with
  | .error er, out => exact hx pins σ _ _ er s' I2 out
  | .ok (.ret u), ⟨v, H2, os2, bare2, un2, hok2, rv, ev, d, fs, ea, ed, hd1, w3⟩ =>
    subst ev
    cases s' with
    | mk h2 g2 d2 t2 os' => exact ⟨rv, mk_end (raises_own T.exC T.tyC) I1 grow kept un2 hok2 os2 bare2 ea ed hd1 w3⟩
end
/-- the class c of the top under ArithmeticError, whose own __init__(self, w) stores w at f -/
structure XKa (K : PySem.W.Frag) (c f w q : Str) (A fI : Addr) (st : Stmt) (fd : FuncData) : Prop where
  nm : NmC K c A
  T : AexC K A
  ini : PySem.W.findIn K (.ref A) "__init__" = some (some (.ref fI))
  tI : PySem.W.typeIn K (.ref fI) = some (.type "function")
  no : PySem.W.findIn K (.ref A) f = some none
  F : Fun K "__init__" q st fI fd
  b : Binds K fd ["self", w] []
section
variable {C : Cf} {sc : Scope} {N : List Str} {k : Nat} {pos p2 : Pos} {e : Expr} {m : EF}
theorem init_okA {c f w q : Str} {A fI : Addr} {st : Stmt} {fd : FuncData} (T : XKa C.K c f w q A fI st fd) (Sc : FnScope ["self", w] ["self", w] (defScope st)) {p1 p3 p4 p5 : Pos} (hst : defBody st = [.Assign [.Attribute (.Name "self" p1) f p3] (.Name w p4) p5])
    (v1 : Vis (defScope st) "self") (v2 : Vis (defScope st) w) (d2 : (w == ("__debug__" : Str)) = false) (c2 : (w == ("__classdict__" : Str)) = false) (hs : ∀ env, swapsWith (.Name w p4) (some (.Attribute (.Name "self" p1) f p3)) p5.line env = pure false) :
    FnOk C.pg C.w C.K C.mg C.base CX0 (k + 1) fI fd ["self", w] (spI f A) := by
  refine T.F.ok Sc (fun vs H Q E h => ?_) fun cdv A0 outer s H vs Q E hr h => ?_
  · obtain ⟨a, v, rfl, _⟩ := h
    rfl
  · rw [hst]
    refine ⟨_, pss_one (ps_ast (pv 0 rfl v1) (pv 1 rfl v2 d2 c2) (hs _)), ?_⟩
    obtain ⟨a, v, rfl, ha, hq⟩ := h
    exact ⟨v, rfl, .ref a, rfl, a, A, rfl, T.T, T.no, ha, fun dx n ne => hq dx n ne⟩
theorem raise_coreA {c f w q : Str} {A fI : Addr} {sti : Stmt} {fd : FuncData} {j : Nat} {pos' : Pos} (T : XKa C.K c f w q A fI sti fd) (F1 : FnOk C.pg C.w C.K C.mg C.base CX0 j fI fd ["self", w] (spI f A)) (hj : j + 1 ≤ k) (hm : C.mg c = some (.ref A)) (ha : SE C sc N k e m) (hg : GlS sc c)
    (hd : (c == ("__debug__" : Str)) = false) (he : ∀ env, starEach [e] env = (false, eval e env) :: starEach [] env) (hpl : ∀ env, (backTo p2 (starEach [] env)).any (·.1) = false) (X : Cx) (WW : WX) (ok : Cod C sc N k X) (tk : Takes X WW) :
    ∃ t, PS X (.Raise (some (.Call (.Name c pos) [e] [] p2)) none pos') t ∧ ∀ (D : Ends) σ H W s ρ, ER C W H σ ρ → Abs C.K W s H → Good (m ρ s) (fun d s1 => ∀ W1 H1 dx v, Ev W H W1 H1 → Abs C.K W1 s1 H1 → W1.fr dx → H1 dx = some (.xd [(f, v)]) → DV C.K W1 H1 v d → WW (.ref A) (some dx) σ H1) → t D σ H := by
  obtain ⟨t, p, h⟩ := a_cons ha a_nil he X ok.toCok
  have hr : Room (j + 1) X.A := ok.rm.mono hj
  obtain ⟨pr, ew, eK, em, eb⟩ := (⟨ok.pr, ok.ew, ok.eK, ok.em, ok.eb⟩ : X.prog = C.pg ∧ X.w = C.w ∧ X.K = C.K ∧ X.mg = C.mg ∧ X.base = C.base)
  refine ⟨_, ps_raise ok.calm tk (pmk_ae (CXx := CX0) (dvs := []) (ds := []) (sp := spI f A) (by rw [eK]; exact T.T) (by rw [eK]; exact T.ini) (by rw [eK]; exact T.tI) (by rw [pr, ew, eK, em, eb]; exact F1) hr (by rw [eK]; exact T.b) .nil (fun _ _ _ _ _ _ _ z => False.elim z) (hg.of ok.toCok) (by rw [em]; exact hm) p hd (he X.env) (hpl X.env)), fun D σ H W s ρ er A0 g2 => ?_⟩
  refine h σ H W s ρ _ er A0 ?_
  show Good (bnd (m ρ) (fun d => bnd (evA [] ρ) fun ds => ret (d :: ds)) s) _
  cases e1 : m ρ s with
  | bad =>
    rw [e1] at g2
    exact g2.elim
  | exn _ _ =>
    rw [e1] at g2
    exact g2.elim
  | ok d s1 =>
    rw [e1] at g2
    rw [bnd_ok e1]
    intro W1 H1 vs ev r1 A1
    obtain ⟨v, rfl, rv⟩ := dvs1 r1
    refine ⟨(by show 1 ≤ 1000; decide), fun a na => ⟨a, v, rfl, upd_same, fun dx nd ne => ⟨rfl, dx, [(f, v)], upd_same, ?_, ?_, ?_⟩⟩⟩
    · rw [upd_ne ne, upd_same]
    · rw [upd_ne ne] at nd
      exact nd
    · have nd1 : H1 dx = none := by
        rw [upd_ne ne] at nd
        exact nd
      have eH : upd (del (upd (upd (upd H1 a (exo a A none)) dx (exd dx [(f, v)])) a (exo a A (some dx))) a) dx (.xd [(f, v)]) = upd H1 dx (.xd [(f, v)]) := by
        funext b
        by_cases hb : b = dx
        · rw [hb, upd_same, upd_same]
        · rw [upd_ne hb, upd_ne hb]
          by_cases hb2 : b = a
          · rw [hb2, del_same, na]
          · rw [del_ne hb2, upd_ne hb2, upd_ne hb, upd_ne hb2]
      rw [eH]
      exact g2 (W1.keep dx) _ dx v (ev.trans (Ev.keep nd1)) (A1.keep nd1) (Or.inr rfl) upd_same (DV.up (Ev.keep nd1) rv)
theorem xx_raiseA {c f w q : Str} {A fI : Addr} {sti : Stmt} {fd : FuncData} {j : Nat} {pos' : Pos} (T : XKa C.K c f w q A fI sti fd) (F1 : FnOk C.pg C.w C.K C.mg C.base CX0 j fI fd ["self", w] (spI f A)) (hj : j + 1 ≤ k) (hm : C.mg c = some (.ref A)) (ha : SE C sc N k e m) (hg : GlS sc c := by rfl)
    (hd : (c == ("__debug__" : Str)) = false := by decide) (he : ∀ env, starEach [e] env = (false, eval e env) :: starEach [] env := by intro _; rfl) (hpl : ∀ env, (backTo p2 (starEach [] env)).any (·.1) = false := by intro _; rfl) :
    SSX C sc N k (.Raise (some (.Call (.Name c pos) [e] [] p2)) none pos') (raiF c m) := fun X WW ok tk => by
  obtain ⟨t, p, h⟩ := raise_coreA (p2 := p2) (pos := pos) (pos' := pos') T F1 hj hm ha hg hd he hpl X WW ok tk
  refine ⟨t, p, fun D σ H W s ρ er A0 g => h D σ H W s ρ er A0 ?_⟩
  have g1 := GoodX.bnd g
  have g2 : Good (m ρ s) fun d s1 => PoE C.K W H (fun c d H' => ∀ σ', WW c d σ' H') c s1 := nox_good (GoodX.mono g1 (fun _ _ z => z) fun _ _ z => z)
  refine g2.mono fun d s1 z W1 H1 dx v ev A1 fx hx r => ?_
  refine z W1 H1 A (some dx) ev A1 T.nm (fun dx' e => ?_) σ
  cases e
  exact ⟨fx, _, hx⟩
theorem xx_raiseAX {c f w q : Str} {A fI : Addr} {sti : Stmt} {fd : FuncData} {j : Nat} {pos' : Pos} (T : XKa C.K c f w q A fI sti fd) (F1 : FnOk C.pg C.w C.K C.mg C.base CX0 j fI fd ["self", w] (spI f A)) (hj : j + 1 ≤ k) (hm : C.mg c = some (.ref A)) (ha : SE C sc N k e m) (hg : GlS sc c := by rfl)
    (hd : (c == ("__debug__" : Str)) = false := by decide) (he : ∀ env, starEach [e] env = (false, eval e env) :: starEach [] env := by intro _; rfl) (hpl : ∀ env, (backTo p2 (starEach [] env)).any (·.1) = false := by intro _; rfl) :
    SSX C sc N k (.Raise (some (.Call (.Name c pos) [e] [] p2)) none pos') (raiX c f m) := fun X WW ok tk => by
  obtain ⟨t, p, h⟩ := raise_coreA (p2 := p2) (pos := pos) (pos' := pos') T F1 hj hm ha hg hd he hpl X WW ok tk
  refine ⟨t, p, fun D σ H W s ρ er A0 g => h D σ H W s ρ er A0 ?_⟩
  have g1 := GoodX.bnd g
  refine (nox_good g1).mono fun d s1 z W1 H1 dx v ev A1 fx hx r => ?_
  cases d with
  | obj n => exact z.elim
  | p x => exact (show PoE C.K W H (fun c d H' => ∀ σ', WW c d σ' H') ⟨c, some (f, x)⟩ s1 from z) W1 H1 A (some dx) ev A1 T.nm ⟨dx, v, rfl, fx, hx, r⟩ σ
end
end CW

end
section
set_option maxRecDepth 100000
set_option maxHeartbeats 2000000
/-! CW, twenty-third part: join, bit_length, index. -/
namespace CW
open PySem PySem.Spec PyProof.Rows L2
def strsOf : List P → Option (List Str)
  | [] => some []
  | .str x :: r => (strsOf r).map (x :: ·)
  | _ => none
theorem strsOf_eq : ∀ {xs : List P} {ys : List Str}, strsOf xs = some ys → xs = ys.map P.str
  | [], ys, h => by
    cases h
    rfl
  | x :: r, ys, h => by
    cases x <;> first | (cases h; done) | skip
    rename_i z
    have h : (strsOf r).map (z :: ·) = some ys := h
    cases e : strsOf r with
    | none =>
      rw [e] at h
      cases h
    | some zs =>
      rw [e] at h
      cases h
      rw [strsOf_eq e]
      rfl
@[simp] theorem strsOf_map : ∀ ys : List Str, strsOf (ys.map P.str) = some ys
  | [] => rfl
  | y :: r => by
    show (strsOf (r.map P.str)).map (y :: ·) = _
    rw [strsOf_map r]
    rfl
def joinD (d e : D) : M D := fun s => match d, its e s with
  | .p (.str a), some xs => match strsOf xs with
    | some ys => if (ys.map (·.length)).sum + ys.length * a.length ≤ 16777216 then .ok (.p (.str (Txt.join a ys))) s else .bad
    | none => .bad
  | _, _ => .bad
def bitsD : D → M D := fun d s => match d with
  | .p (.int i) => .ok (.p (.int (Builtin.Int.intBits i : Nat))) s
  | _ => .bad
section
variable {C : Cf} {sc : Scope} {N : List Str} {k : Nat} {apos pos : Pos} {o e : Expr} {mo m : EF}
theorem s_join (ho : SE C sc N k o mo) (he : SE C sc N k e m) (hs : ∀ env, starEach [e] env = [(false, eval e env)] := by intro _; rfl) (hb : ∀ env, attributeBase o "join" env (eval o env) = eval o env := by intro _; rfl) (hl : (apos.endLine == pos.line) = true := by rfl) :
    SE C sc N k (.Call (.Attribute o "join" apos) [e] [] pos) (op2 joinD mo m) := fun X ok => by
  obtain ⟨t, p, q⟩ := ho X ok
  obtain ⟨u, p', q'⟩ := he X ok
  refine ⟨_, pe_join p p' (hs _) (hb _) hl, fun σ H W s ρ Q er A g => ?_⟩
  refine q σ H W s ρ _ er A ((Good.bnd g).mono fun d s1 z W1 H1 v e1 r1 A1 => ?_)
  have zz := Good.bnd z
  refine ⟨?_, q' σ H1 W1 s1 ρ _ (er.up e1) A1 (zz.mono fun d2 s2 z2 W2 H2 v2 e2 r2 A2 => ?_)⟩
  · cases em : m ρ s1 with
    | bad =>
      rw [em] at zz
      exact zz.elim
    | exn _ _ =>
      rw [em] at zz
      exact zz.elim
    | ok d2 s2 =>
      rw [em] at zz
      have zz : Good (joinD d d2 s2) _ := zz
      unfold joinD at zz
      split at zz
      · cases r1
        exact ⟨_, rfl⟩
      · exact zz.elim
  · unfold joinD at z2
    split at z2
    · rename_i a xs hx
      split at z2
      · rename_i ys hy
        split at z2
        · rename_i hle
          obtain ⟨p, vs, rfl, h1, h2⟩ := its_sq r2 A2 hx
          rw [strsOf_eq hy] at h2
          have h3 := h2.str_eq
          subst h3
          have r1' := r1.up e2
          cases r1' with
          | str a =>
          rw [ok.eK]
          exact ⟨a, p, ys, rfl, rfl, Or.inl h1, hle, z2 W2 H2 _ (e1.trans e2) (PV.str _) A2⟩
        · exact z2.elim
      · exact z2.elim
    · exact z2.elim
theorem s_bits (ho : SE C sc N k o mo) (hb : ∀ env, attributeBase o "bit_length" env (eval o env) = eval o env := by intro _; rfl) (hl : (apos.endLine == pos.line) = true := by rfl) : SE C sc N k (.Call (.Attribute o "bit_length" apos) [] [] pos) (op1 bitsD mo) := fun X ok => by
  obtain ⟨t, p, q⟩ := ho X ok
  refine ⟨_, pe_bits p (hb _) hl, fun σ H W s ρ Q er A g => ?_⟩
  refine q σ H W s ρ _ er A ((Good.bnd g).mono fun d s1 z W1 H1 v e1 r1 A1 => ?_)
  unfold bitsD at z
  split at z
  · cases r1
    exact ⟨_, rfl, z W1 H1 _ e1 (PV.int _) A1⟩
  · exact z.elim
end
def idxD : D → List D → M D := fun d ds s => match ds with
  | [y] => match toPyD d s, toPyD y s with
    | some (.list xs), some e => if SeqAt.shaped (.list xs) = true ∧ SeqAt.shaped e = true then match xs.findIdx? (fun z => PyData.eqv z e) with
      | some j => .ok (.p (.int (j : Nat))) s
      | none => .bad
      else .bad
    | _, _ => .bad
  | _ => .bad
theorem m_idx {C : Cf} {k : Nat} : MtS C k "list.index" idxD := fun X ok => ⟨_, mt_indexD (u65 ok.rm), fun W s H x d xs ds Q rx r A g => by
  rw [ok.eK]
  unfold idxD at g
  split at g
  · split at g
    · rename_i y zs e h1 h2
      split at g
      · rename_i hs
        split at g
        · rename_i j hj
          obtain ⟨u, rfl, ru⟩ := dvs1 r
          obtain ⟨hl, ht, hb⟩ := List.findIdx?_eq_some_iff_getElem.mp hj
          have dx := DV.dp rx A h1
          have hx : ∃ a, x = V.ref a := by
            cases dx <;> exact ⟨_, rfl⟩
          obtain ⟨a, rfl⟩ := hx
          refine ⟨a, u, e, zs, j, zs[j], rfl, rfl, dx, DV.dp ru A h2, hs.1, hs.2, List.getElem?_eq_getElem hl, ht, fun i z hi hz => ?_, g W H _ Ev.rfl (PV.int _) A⟩
          have hil : i < zs.length := (List.getElem?_eq_some_iff.mp hz).1
          rw [List.getElem?_eq_getElem hil] at hz
          cases hz
          have := hb i hi
          simpa using this
        · exact g.elim
      · exact g.elim
    · exact g.elim
  · exact g.elim⟩
/-! ### calls of defs with a default -/
theorem kwB_dG {C : Cf} {x qual : Str} {st : Stmt} {f T : Addr} {fd : FuncData} {ps ks : List Str} {n : Nat} {o : Obj} {u : Value} {z : V} {d : P} {sz : Nat} (F : FunA C.K x qual st f fd (.ref T)) (lT : C.K.lookup T = some o) (oT : o.data = .seq #[u] sz) (rz : RelV z u) (dz : ∀ F H, PV C.K F H z d) (g : {α : Type} → List α → List α → α → List α)
    (hl : ∀ {α : Type} (a c : List α) (w : α), a.length = n → c.length = ks.length → (g a c w).length = ps.length)
    (hg : ∀ {α β : Type} {R : α → β → Prop} {a c : List α} {b e : List β} {v : α} {w : β}, Paired R a b → Paired R c e → R v w → a.length = n → c.length = ks.length → Paired R (g a c v) (g b e w))
    (h : ∀ (kV doc pm : Value) (an : Option Addr) (cdv ct : Value) (us ws : List Value) (w : Value), us.length = n → ws.length = ks.length →
      ∃ k, bindArgs (PySem.W.fnOf x qual (defArgs st) (defBody st) (defScope st) (.ref T) kV doc pm an cdv ct) ⟨us, ks.zip ws⟩ = seqItems? (.ref T) >>= k ∧ k (some #[w]) = pure (ps.zip (g us ws w))) : KwB C fd ps n ks (fun ds es => g ds es (.p d)) := by
  obtain ⟨oc, od, kV, doc, pm, an, cdv, ct, osl, rfl, lk, hcd⟩ := F.ex
  refine ⟨fun ds es => hl ds es (.p d), fun s W H us ws vs zs ds es kin r1 r2 d1 d2 l1 l2 => ⟨g us ws u, g vs zs z, ?_, hg r1 r2 rz (r1.length.trans l1) (r2.length.trans l2), hg d1 d2 (show DV C.K W H z (.p d) from dz _ _) (r1.length.trans l1) (r2.length.trans l2)⟩⟩
  obtain ⟨k, e1, e2⟩ := h kV doc pm an cdv ct us ws u l1 l2
  refine L2.BindsTo.of_looks fun M => ?_
  rw [e1]
  exact looks_items kin lT oT (.of_pure e2)
section
variable {C : Cf} {sc : Scope} {N : List Str} {k : Nat} {pos p2 : Pos} {e : Expr} {es : List Expr} {ms : List EF}
theorem ex_kwP {x : Str} {j n : Nat} {f : Addr} {fd : FuncData} {ps : List Str} {gD : List D → List D → List D} {m : List D → M D} (F : FnX C j f fd ps (spX C ps.length m)) (hj : j ≤ k) (hm : C.mg x = some (.ref f)) (hk : PySem.W.keepIn C.K (.ref f) = true) (hb : KwB C fd ps n [] gD)
    (ha : SAXs C sc N k (e :: es) ms) (hn : ms.length = n := by rfl) (hg : GlS sc x := by rfl) (hd : (x == ("__debug__" : Str)) = false := by decide)
    (he : ∀ env, starEach (e :: es) env = (false, eval e env) :: starEach es env := by intro _; rfl) (hp : ∀ env, (backTo pos (starEach es env)).any (·.1) = false := by intro _; rfl) :
    SEX C sc N k (.Call (.Name x p2) (e :: es) [] pos) (calE (fun ds => m (gD ds [])) ms) := fun X WW ok tk => by
  obtain ⟨t, p, q⟩ := ha X WW ok tk
  refine ⟨fun σ H Q => t σ H fun vs H1 => ∃ W s0 ds, DVs C.K W H1 vs ds ∧ ds.length = n ∧ W.tb = C.tb ∧ Abs C.K W s0 H1 ∧ GoodX (m (gD ds []) s0) (Po C.K W H1 Q) (PoE C.K W H1 (WE WW σ)), ⟨fun pins s σ H Q I h => ?_⟩, fun σ H W s ρ Q er A g => ?_⟩
  · refine wpAny_Call_Name_kw (ld_glob I (hg.of ok) (by rw [ok.em]; exact hm) ?_ hd)
    refine PySem.W.callWith_K (h₀ := X.base) I.ok.mod.kin (by rw [ok.eK]; exact hk) (thn (p.run pos pins s σ H _ I h) fun us s1 ⟨vs, H1, I1, r, W, s0, ds, d1, l1, hT, A, g⟩ => ⟨I1.kIn, ?_⟩) (he X.env) (hp X.env)
    have e0 := I1.env0
    have kin := I1.kIn
    rw [ok.pr, ok.ew, ok.eK, ok.em, ok.eb] at e0
    rw [ok.eK] at kin
    have lu : us.length = n := by rw [← r.length, Paired.length d1]; exact l1
    obtain ⟨bs, vs', hbt, rv, rd⟩ := hb.go s1 W H1 us [] vs [] ds [] kin r .nil d1 .nil lu rfl
    have run := F.run X.A X.stack s1 H1 ⟨us, []⟩ bs vs' Q _ (ok.rm.mono hj) ok.gd e0 hbt rv ⟨(Paired.length rd).trans (hb.len ds [] l1 rfl), W, s0, _, rd, hT, A, g⟩
    rw [← ok.pr, ← ok.ew] at run
    refine wpAny_call (codeAny_mono run fun q s' hq => ?_)
    match q, hq with
    | .error e, hq => exact passAt tk σ pins H1 s1 e s' I1 hq
    | .ok (.ret u), hq => exact I1.after hq
  · refine q σ H W s ρ _ er A (g.bnd.len.mono (fun ds s1 ⟨z, h1⟩ W1 H1 vs e1 r1 A1 => ?_) fun c s1 w => w)
    exact ⟨W1, s1, ds, r1, z.trans hn, (er.up e1).tb, A1, h1.mono (fun _ _ w => w.up e1) fun _ _ w => w.up e1⟩
end
/-! ### max, min of three -/
def max3D : List D → M D := fun ds s => match ds with
  | [.p (.int i), .p (.int j), .p (.int l)] => .ok (.p (.int (max (max i j) l))) s
  | _ => .bad
theorem max_if (i j : Int) : (if decide (i < j) = true then V.int j else V.int i) = V.int (max i j) := by
  by_cases h : i < j
  · rw [decide_eq_true h, if_pos rfl]
    congr 1
    omega
  · rw [decide_eq_false h, if_neg Bool.false_ne_true]
    congr 1
    omega
theorem min_if (i j : Int) : (if decide (j < i) = true then V.int j else V.int i) = V.int (min i j) := by
  by_cases h : j < i
  · rw [decide_eq_true h, if_pos rfl]
    congr 1
    omega
  · rw [decide_eq_false h, if_neg Bool.false_ne_true]
    congr 1
    omega
theorem c_max3 {C : Cf} {k : Nat} : CaS C k (.builtin "max") max3D := fun X ok => ⟨_, call_max3Nu ok.calm, fun W s H xs ds Q r A g => by
  unfold max3D at g
  split at g
  · obtain ⟨x, y, z, rfl, h1, h2, h3⟩ := dvs3 r
    cases h1
    cases h2
    cases h3
    rename_i i j l
    refine ⟨_, _, _, .int (max (max i j) l), rfl, ?_, g W H _ Ev.rfl (PV.int _) A⟩
    show (((some (decide (i < j))).map fun c => if c = true then V.int j else V.int i).bind fun m => nuMax2 m (V.int l)) = _
    rw [Option.map_some, Option.bind_some, max_if]
    show ((some (decide (max i j < l))).map fun c => if c = true then V.int l else V.int (max i j)) = _
    rw [Option.map_some, max_if]
  · exact g.elim⟩
def min3D : List D → M D := fun ds s => match ds with
  | [.p (.int i), .p (.int j), .p (.int l)] => .ok (.p (.int (min (min i j) l))) s
  | _ => .bad
theorem c_min3 {C : Cf} {k : Nat} : CaS C k (.builtin "min") min3D := fun X ok => ⟨_, call_min3Nu ok.calm, fun W s H xs ds Q r A g => by
  unfold min3D at g
  split at g
  · obtain ⟨x, y, z, rfl, h1, h2, h3⟩ := dvs3 r
    cases h1
    cases h2
    cases h3
    rename_i i j l
    refine ⟨_, _, _, .int (min (min i j) l), rfl, ?_, g W H _ Ev.rfl (PV.int _) A⟩
    show (((some (decide (j < i))).map fun c => if c = true then V.int j else V.int i).bind fun m => nuMin2 m (V.int l)) = _
    rw [Option.map_some, Option.bind_some, min_if]
    show ((some (decide (l < min i j))).map fun c => if c = true then V.int l else V.int (min i j)) = _
    rw [Option.map_some, min_if]
  · exact g.elim⟩
end CW

end
section
set_option maxRecDepth 100000
set_option maxHeartbeats 2000000
/-! CW, twenty-fourth part: slices. -/
namespace CW
open PySem PySem.Spec PyProof.Rows L2
/-- the items of a row from lo to hi -/
def cutP (xs : List P) (lo hi : Option Int) : List P := (xs.drop (HT.sIx xs.length 0 lo)).take (HT.sIx xs.length xs.length hi - HT.sIx xs.length 0 lo)
theorem PVs.cut {K : PySem.W.Frag} {F : Addr → Prop} {H : Hp} {vs : List V} {xs : List P} (h : PVs K F H vs xs) (lo hi : Option Int) : PVs K F H (cutV vs lo hi) (cutP xs lo hi) := by
  unfold cutV cutP
  rw [h.len]
  exact PVs.take _ (PVs.drop _ h)
def slcD (fr : Bool) (x : D) (lo hi : Option Int) : M D := fun s => match x with
  | .p (.str z) => if z.length ≤ sizeLine then .ok (.p (.str (Txt.slice z lo hi))) s else .bad
  | .p (.tup xs) => .ok (.p (.tup (cutP xs lo hi))) s
  | x => match its x s with
    | some xs => mkL fr (cutP xs lo hi) s
    | none => .bad
def partE (d : D) : M (Option Int) := fun s => match d with
  | .p (.int i) => .ok (some i) s
  | _ => .bad
def optE : Option EF → En → M (Option Int)
  | none => fun _ s => .ok none s
  | some m => fun ρ => bnd (m ρ) partE
def slcE (fr : Bool) (ma : EF) (lo hi : Option EF) : EF := fun ρ => bnd (ma ρ) fun x => bnd (optE lo ρ) fun l => bnd (optE hi ρ) fun u => slcD fr x l u
def PoI (K : PySem.W.Frag) (W : Wd) (H : Hp) (Q : Option Int → Hp → Prop) : Option Int → S → Prop := fun d s => ∀ W' H', Ev W H W' H' → Abs K W' s H' → Q d H'
def SO (C : Cf) (sc : Scope) (N : List Str) (k : Nat) (e : Option Expr) (m : En → M (Option Int)) : Prop :=
  ∀ X, Cok C sc N k X → ∃ t, PO X e t ∧ ∀ σ H W s ρ Q, ER C W H σ ρ → Abs C.K W s H → Good (m ρ s) (PoI C.K W H Q) → t σ H Q
section
variable {C : Cf} {sc : Scope} {N : List Str} {k : Nat} {pos p2 : Pos} {e a b : Expr} {m ma mb : EF} {lo hi : Option Expr} {l u : Option EF}
theorem o_none : SO C sc N k none (optE none) := fun X ok => ⟨_, po_none, fun σ H W s ρ Q er A g => g W H Ev.rfl A⟩
theorem o_some (ha : SE C sc N k a ma) : SO C sc N k (some a) (optE (some ma)) := fun X ok => by
  obtain ⟨ta, pa, qa⟩ := ha X ok
  refine ⟨_, po_some pa, fun σ H W s ρ Q er A g => ?_⟩
  refine qa σ H W s ρ _ er A (Good.bnd g |>.mono fun dx s1 h1 W1 H1 x e1 r1 A1 => ?_)
  unfold partE at h1
  split at h1
  · cases r1
    exact ⟨_, rfl, h1 W1 H1 e1 A1⟩
  · exact h1.elim
theorem slc_go {W : Wd} {s : S} {H : Hp} {fr : Bool} {x : V} {d : D} {lo hi : Option Int} {Q : VK} (rx : DV C.K W H x d) (A : Abs C.K W s H) (g : Good (slcD fr d lo hi s) (Po C.K W H Q)) : ((C8.rSlX x lo hi H Q ∨ rSlA C.K x lo hi H Q) ∨ rSlL C.K x lo hi H Q) := by
  unfold slcD at g
  split at g
  · rename_i z
    split at g
    · rename_i hl
      cases rx
      exact Or.inl (Or.inl ⟨z, rfl, hl, g W H _ Ev.rfl (PV.str _) A⟩)
    · exact g.elim
  · rename_i xs
    cases rx with
    | tup h1 h2 =>
      have hn := h2.len
      refine Or.inl (Or.inr ⟨_, _, rfl, h1, fun hw => ?_, fun hw p hp => ?_⟩)
      · rw [hn] at hw
        have e : cutP xs lo hi = xs := by
          unfold cutP
          rw [hw.1, hw.2, List.drop_zero, Nat.sub_zero, List.take_length]
        rw [e] at g
        exact g W H _ Ev.rfl (PV.tup h1 h2) A
      · exact g W _ _ (Ev.new hp) (PV.tup (SqT.of upd_same) (PVs.up (Ev.new hp) (h2.cut lo hi))) (A.new hp)
  · split at g
    · rename_i xs e1
      obtain ⟨a, vs, rfl, h1, h2⟩ := its_sq rx A e1
      exact Or.inr ⟨a, vs, rfl, h1, fun p hp => mkL_go Ev.rfl A (h2.cut lo hi) g hp⟩
    · exact g.elim
theorem s_slc (fr : Bool) (ha : SE C sc N k a ma) (hl : SO C sc N k lo (optE l)) (hu : SO C sc N k hi (optE u)) : SE C sc N k (.Subscript a (.Slice lo hi none p2) pos) (slcE fr ma l u) := fun X ok => by
  obtain ⟨ta, pa, qa⟩ := ha X ok
  obtain ⟨tl, pl, ql⟩ := hl X ok
  obtain ⟨tu, pu, qu⟩ := hu X ok
  refine ⟨_, pe_slice (SlR.or (SlR.or C8.sl_txt sl_tupA) sl_list) pa pl pu, fun σ H W s ρ Q er A g => ?_⟩
  refine qa σ H W s ρ _ er A (Good.bnd g |>.mono fun dx s1 h1 W1 H1 x e1 r1 A1 => ?_)
  refine ql σ H1 W1 s1 ρ _ (er.up e1) A1 (h1.bnd.mono fun dl s2 h2 W2 H2 e2 A2 => ?_)
  refine qu σ H2 W2 s2 ρ _ (er.up (e1.trans e2)) A2 (h2.bnd.mono fun du s3 h3 W3 H3 e3 A3 => ?_)
  rw [ok.eK]
  exact slc_go (r1.up (e2.trans e3)) A3 (h3.mono fun d s z => z.up (e1.trans (e2.trans e3)))
end
end CW

end
section
set_option maxRecDepth 100000
set_option maxHeartbeats 2000000
/-! CW, twenty-fifth part: a row of new lists, walked, each of them changed in its turn. -/
namespace CW
open PySem PySem.Spec PyProof.Rows L2
def Wd.hides (W : Wd) (ps : List Addr) : Wd := ⟨W.io, W.fr, fun a => W.pv a ∨ a ∈ ps, W.tb⟩
def Wd.shows (W : Wd) (ps : List Addr) : Wd := ⟨W.io, W.fr, fun a => W.pv a ∧ a ∉ ps, W.tb⟩
/-- lists that nobody knows -/
def Unk (W : Wd) (H : Hp) (ps : List Addr) : Prop := ∀ p ∈ ps, ¬ W.fr p ∧ p ∉ W.io ∧ ¬ W.pv p ∧ ∃ vs, H p = some (.lst vs)
section
variable {C : Cf} {K : PySem.W.Frag} {W W' : Wd} {H H' : Hp} {s s' : S} {ps : List Addr}
theorem Abs.hides (A : Abs K W s H) (u : Unk W H ps) : Abs K (W.hides ps) s H := by
  have up : ∀ {v d}, DV K W H v d → DV K (W.hides ps) H v d := fun {v d} q => by cases d <;> exact q
  refine ⟨A.len, A.nd, A.tr, A.ft, fun n o hn => ?_, fun a ha => ?_, A.tt, fun b qs hb => ⟨(A.tn b qs hb).1, fun z => z.elim (A.tn b qs hb).2.1 fun e => ?_, (A.tn b qs hb).2.2⟩⟩
  · obtain ⟨a, h1, h2, h3⟩ := A.ob n o hn
    refine ⟨a, h1, h2, ?_⟩
    cases o with
    | lst xs => exact h3
    | dic kvs =>
      obtain ⟨ws, h4, h5⟩ := h3
      exact ⟨ws, h4, Paired.mapP h5 fun p q z => ⟨z.1, up z.2⟩⟩
    | row ds =>
      obtain ⟨vs, h4, h5⟩ := h3
      exact ⟨vs, h4, Paired.mapP h5 fun p q z => up z⟩
    | tpl ds =>
      obtain ⟨vs, h4, h5⟩ := h3
      exact ⟨vs, h4, Paired.mapP h5 fun p q z => up z⟩
  · rcases ha with ha | ha
    · exact A.pd a ha
    · obtain ⟨u1, u2, u3, vs, u4⟩ := u a ha
      exact ⟨⟨vs, u4⟩, u1, u2⟩
  · obtain ⟨u1, u2, u3, vs, u4⟩ := u b e
    rw [u4] at hb
    cases hb
theorem Ev.hides : Ev W H (W.hides ps) H := ⟨⟨[], by simp [Wd.hides]⟩, fun _ h => h, fun _ _ _ h => h, fun _ _ h => h, fun _ _ _ h => h, fun _ h => Or.inl h, fun _ _ _ h => h, _root_.rfl⟩
theorem Abs.shows (A : Abs K W s H) : Abs K (W.shows ps) s H := by
  have up : ∀ {v d}, DV K W H v d → DV K (W.shows ps) H v d := fun {v d} q => by cases d <;> exact q
  refine ⟨A.len, A.nd, A.tr, A.ft, fun n o hn => ?_, fun a ha => A.pd a ha.1, A.tt, fun b qs hb => ⟨(A.tn b qs hb).1, fun z => (A.tn b qs hb).2.1 z.1, (A.tn b qs hb).2.2⟩⟩
  obtain ⟨a, h1, h2, h3⟩ := A.ob n o hn
  refine ⟨a, h1, h2, ?_⟩
  cases o with
  | lst xs => exact h3
  | dic kvs =>
    obtain ⟨ws, h4, h5⟩ := h3
    exact ⟨ws, h4, Paired.mapP h5 fun p q z => ⟨z.1, up z.2⟩⟩
  | row ds =>
    obtain ⟨vs, h4, h5⟩ := h3
    exact ⟨vs, h4, Paired.mapP h5 fun p q z => up z⟩
  | tpl ds =>
    obtain ⟨vs, h4, h5⟩ := h3
    exact ⟨vs, h4, Paired.mapP h5 fun p q z => up z⟩
theorem Ev.shows (e : Ev (W.hides ps) H W' H') (u : Unk W H ps) : Ev W H (W'.shows ps) H' :=
  ⟨e.io, e.fr, e.fk, e.tk, e.zk, fun b h => ⟨e.pv b (Or.inl h), fun z => (u b z).2.2.1 h⟩, fun b o h => e.pk b o (Or.inl h), e.tb⟩
theorem Unk.on (e : Ev (W.hides ps) H W' H') (A : Abs K W' s' H') : Unk (W'.shows ps) H' ps := fun p hp => by
  have pp : W'.pv p := e.pv p (Or.inr hp)
  obtain ⟨h1, h2, h3⟩ := A.pd p pp
  exact ⟨h2, h3, fun z => z.2 hp, h1⟩
/-- no objects at all -/
theorem Abs.bare (A : Abs K W s H) {p : Addr → Prop} (hp : ∀ a, p a → W.pv a) : Abs K ⟨[], W.fr, p, W.tb⟩ [] H :=
  ⟨_root_.rfl, List.nodup_nil, fun a h => absurd h List.not_mem_nil, A.ft, fun n o h => by simp at h, fun a h => ⟨(A.pd a (hp a h)).1, (A.pd a (hp a h)).2.1, List.not_mem_nil⟩, A.tt, fun a qs h => ⟨(A.tn a qs h).1, fun z => (A.tn a qs h).2.1 (hp a z), List.not_mem_nil⟩⟩
theorem Ev.bare {p : Addr → Prop} (e : Ev W H W' H') (h0 : W.io = []) (hp : ∀ a, W.pv a → p a) : Ev W H ⟨[], W'.fr, p, W'.tb⟩ H' :=
  ⟨⟨[], by rw [h0]; rfl⟩, e.fr, e.fk, e.tk, e.zk, fun a h => hp a h, e.pk, e.tb⟩
theorem Paired.imp_mem {α β : Type} {R T : α → β → Prop} {as : List α} {bs : List β} (h : Paired R as bs) (f : ∀ a ∈ as, ∀ b, R a b → T a b) : Paired T as bs := by
  induction h with
  | nil => exact .nil
  | cons h1 h2 ih => exact .cons (f _ List.mem_cons_self _ h1) (ih fun a ha => f a (List.mem_cons_of_mem _ ha))
theorem Paired.join {α β : Type} {R : α → β → Prop} {as cs : List α} {bs ds : List β} (h : Paired R as bs) (h' : Paired R cs ds) : Paired R (as ++ cs) (bs ++ ds) := by
  induction h with
  | nil => exact h'
  | cons h1 h2 ih => exact .cons h1 ih
/-- each list holds its row -/
def Held (K : PySem.W.Frag) (W : Wd) (H : Hp) (p : Addr) (xs : List P) : Prop := ∃ vs, H p = some (.lst vs) ∧ PVs K W.fr H vs xs
structure Rows0 (K : PySem.W.Frag) (W : Wd) (H : Hp) (L : Addr) (ps : List Addr) (xss : List (List P)) : Prop where
  un : Unk W H (L :: ps)
  nd : (L :: ps).Nodup
  at_ : H L = some (.lst (ps.map V.ref))
  hd : Paired (Held K W H) ps xss
theorem held_up {xss : List (List P)} {qs : List Addr} (e : Ev (W.hides qs) H W' H') (h : Paired (Held K W H) ps xss) (hs : ∀ p ∈ ps, p ∈ qs) : Paired (Held K W' H') ps xss := by
  induction h with
  | nil => exact .nil
  | cons h1 h2 ih =>
    obtain ⟨vs, k1, k2⟩ := h1
    exact .cons ⟨vs, e.pk _ _ (Or.inr (hs _ List.mem_cons_self)) k1, PVs.up (Ev.hides.trans e) k2⟩ (ih fun p hp => hs p (List.mem_cons_of_mem _ hp))
/-- a walk over new lists, told as its rows -/
def SR (C : Cf) (sc : Scope) (N : List Str) (k : Nat) (e : Expr) (h : En → M (List (List P))) : Prop :=
  ∀ X, Cok C sc N k X → ∃ t, PE X e t ∧ ∀ σ H W s ρ (Q : VK), ER C W H σ ρ → Abs C.K W s H →
    Good (h ρ s) (fun xss s' => ∀ W' H' L ps, Ev W H W' H' → Abs C.K W' s' H' → Rows0 C.K W' H' L ps xss → Q (.ref L) H') → t σ H Q
open Classical in
noncomputable def lhL (own : List Nat) (t : GF) (m : EF) (ρ : En) : List P → M (List (List P))
  | [] => fun s => if s = [] then .ok [] s else .bad
  | x :: xs => fun s => if s = [] then bnd (t (.p x) (wipE ρ own)) (fun ρ1 => bnd (m ρ1) fun d s6 => match d, s6 with
      | .obj 0, [some (.lst ys)] => bnd (lhL own t m ρ xs) (fun r => ret (ys :: r)) []
      | _, _ => .bad) s else .bad
noncomputable def lhE (i : IF) (own : List Nat) (t : GF) (m : EF) : En → M (List (List P)) := fun ρ => bnd (i ρ) fun xg s => if xg.1.length ≤ sizeLine ∧ xg.2 = [] then lhL own t m ρ xg.1 s else .bad
def shE (h : En → M (List (List P))) (n : Nat) : En → M (List (List P)) := fun ρ => bnd (h ρ) fun xss => ret (xss.take n)
def forHL (t : GF) (b : SF) : List (List P) → SF
  | [] => fun ρ s => .ok (.nx ρ) s
  | xs :: xss => fun ρ s => bnd (t (.obj s.length) ρ) (fun ρ1 => bnd (b ρ1) fun r => match r with
    | .nx ρ' => forHL t b xss ρ'
    | .ct ρ' => forHL t b xss ρ'
    | .bk ρ' => ret (.nx ρ')
    | .rt d => ret (.rt d)) (s ++ [some (.lst xs)])
def forH (h : En → M (List (List P))) (t : GF) (b : SF) : SF := fun ρ => bnd (h ρ) fun xss => forHL t b xss ρ
variable {sc scope : Scope} {N : List Str} {k : Nat} {pos p2 : Pos} {e a b tg iter elt : Expr} {m ma mb : EF} {sts : List Stmt} {f : SF}
theorem lh_go {i : IF} {own : List Nat} {pl : List Nat} {t : GF} {ti : TI} {tt : TG} {tc : TT} {te : TE} {σ : L2.St} {ρ : En} {Q : VK}
    (q : ∀ σ H W s ρ (R : It → Hp → Prop), ER C W H σ ρ → Abs C.K W s H → Good (i ρ s) (fun xg s' => ∀ W' H' J, Ev W H W' H' → Abs C.K W' s' H' → ItOk C.K J W' H' xg.1 xg.2 → R J H') → ti σ H R)
    (q1 : ∀ v d σ H W s ρ Q, DV C.K W H v d → ER C W H σ ρ → Abs C.K W s H → Good (t d ρ s) (PoG C W H pl σ Q) → tt v σ H Q) (hpl : ∀ i ∈ pl, i ∈ own)
    (q2 : ∀ σ H W s ρ Q, ER C W H σ ρ → Abs C.K W s H → Good (yesT ρ s) (PoT C.K W H Q) → tc σ H Q) (q3 : ∀ σ H W s ρ Q, ER C W H σ ρ → Abs C.K W s H → Good (m ρ s) (Po C.K W H Q) → te σ H Q)
    (er : ER C W H σ ρ) (A : Abs C.K W s H) (g : Good (lhE i own t m ρ s) (fun xss s' => ∀ W' H' L ps, Ev W H W' H' → Abs C.K W' s' H' → Rows0 C.K W' H' L ps xss → Q (.ref L) H')) : tLc ti tt tc te own σ H Q := by
  refine q σ H W s ρ _ er A ((Good.bnd g).mono fun xg s1 z W1 H1 J e1 A1 io => ?_)
  obtain ⟨xs, gd⟩ := xg
  have z2 : Good (if xs.length ≤ sizeLine ∧ gd = [] then lhL own t m ρ xs s1 else .bad) (fun xss s' => ∀ W' H' L ps, Ev W H W' H' → Abs C.K W' s' H' → Rows0 C.K W' H' L ps xss → Q (.ref L) H') := z
  by_cases hsz : xs.length ≤ sizeLine ∧ gd = []
  · rw [if_pos hsz] at z2
    clear z
    obtain ⟨hsz, rfl⟩ := hsz
    intro D hD
    have io : ItOk C.K J W1 H1 xs [] := io
    have nD1 : ¬ W1.fr D := fun z => A1.ft D z hD
    have nD2 : D ∉ W1.io := fun z => A1.tr D z hD
    have nD3 : ¬ W1.pv D := fun z => A1.pn z hD
    refine ⟨fun i m' H' => ∃ W' s' ps xss, Ev W1 H1 W' H' ∧ Rows0 C.K W' H' D ps xss ∧ Abs C.K W' s' H' ∧ i + m' = xs.length ∧ ps.length ≤ i ∧
      Good (lhL own t m ρ (xs.drop i) s') (fun r s2 => ∀ W'' H'' L ps, Ev W' H' W'' H'' → Abs C.K W'' s2 H'' → Rows0 C.K W'' H'' L ps (xss ++ r) → Q (.ref L) H''), ⟨xs.length, W1, s1, [], [], Ev.new hD, ?_, A1.new hD, by simp, Nat.le_refl _, ?_⟩, ?_⟩
    · refine ⟨fun p hp => ?_, by simp, upd_same, .nil⟩
      have : p = D := by simpa using hp
      subst this
      exact ⟨nD1, nD2, nD3, [], upd_same⟩
    · exact Good.mono z2 fun r s2 w W'' H'' L ps e2 A2 h2 => w W'' H'' L ps (e1.trans ((Ev.new hD).trans e2)) A2 h2
    rintro i m' H2 ⟨W2, s2, ps, xss, e2, hr, A2, hm, hl, g2⟩
    by_cases hi : i < xs.length
    · rw [List.drop_eq_getElem_cons hi] at g2
      unfold lhL at g2
      split at g2
      · rename_i s0
        subst s0
        have hio : W2.io = [] := List.eq_nil_of_length_eq_zero A2.len
        have un := hr.un
        have Ah0 : Abs C.K (W2.hides ps) [] H2 := A2.hides fun p hp => un p (List.mem_cons_of_mem _ hp)
        have nDp : D ∉ ps := (List.nodup_cons.mp hr.nd).1
        obtain ⟨d1, d2, d3, d4⟩ := un D List.mem_cons_self
        have Ah : Abs C.K ((W2.hides ps).hide D) [] H2 := Ah0.hide d4 d1 d2
        have hid : Ev W2 H2 ((W2.hides ps).hide D) H2 := Ev.hides.trans Ev.hide
        obtain ⟨hgo, hyl⟩ := (io _ H2 [] (e2.trans hid) Ah (gok_nil _) i).1 xs[i] (List.getElem?_eq_getElem hi)
        refine Or.inr ⟨hgo, fun H' => ∃ W' s' ps xss, Ev W1 H1 W' H' ∧ Rows0 C.K W' H' D ps xss ∧ Abs C.K W' s' H' ∧ ps.length ≤ i + 1 ∧
          Good (lhL own t m ρ (xs.drop (i + 1)) s') (fun r s2 => ∀ W'' H'' L ps, Ev W' H' W'' H'' → Abs C.K W'' s2 H'' → Rows0 C.K W'' H'' L ps (xss ++ r) → Q (.ref L) H''), ?_, fun v H3 hv => ?_⟩
        · rintro H' ⟨W', s', ps', xss', b1, b2, b3, b4, b5⟩
          exact ⟨m' - 1, by omega, W', s', ps', xss', b1, b2, b3, by omega, b4, b5⟩
        · obtain ⟨e3, r3, A3⟩ := hyl v H3 hv
          have er3 : ER C ((W2.hides ps).hide D) H3 (L2.wipe σ own) (wipE ρ own) := ER.wip (er.up (e1.trans (e2.trans (hid.trans e3)))) own
          refine q1 v _ _ H3 _ [] _ _ (show DV C.K _ H3 v (.p xs[i]) from r3) er3 A3 ((Good.bnd g2).mono fun ρ1 s4 z4 W4 H4 σ4 e4 er4 A4 ag => ?_)
          refine ⟨wipe_agr ag hpl, q2 σ4 H4 W4 s4 ρ1 _ er4 A4 fun W5 H5 e5 A5 => ?_⟩
          refine iteT (q3 σ4 H5 W5 s4 ρ1 _ (er4.up e5) A5 ((Good.bnd z4).mono fun d s6 z6 W6 H6 y e6 r6 A6 => ?_))
          have e36 : Ev ((W2.hides ps).hide D) H2 W6 H6 := e3.trans (e4.trans (e5.trans e6))
          split at z6
          · rename_i ys
            obtain ⟨a, a1, rfl⟩ := r6
            obtain ⟨a', a2, a3, vs, a4, a5⟩ := A6.ob 0 (.lst ys) _root_.rfl
            rw [a1] at a2
            cases a2
            have am : a ∈ W6.io := List.mem_of_getElem? a1
            have pD : W6.pv D := e36.pv D (Or.inr _root_.rfl)
            have pps : ∀ p ∈ ps, W6.pv p := fun p hp => e36.pv p (Or.inl (Or.inr hp))
            have hd6 : H6 D = some (.lst (ps.map V.ref)) := e36.pk D _ (Or.inr _root_.rfl) hr.at_
            have aD : a ≠ D := fun z => (A6.pd D pD).2.2 (z ▸ am)
            have aps : a ∉ ps := fun z => (A6.pd a (pps a z)).2.2 am
            have eg : Ev (W2.hides ps) H2 (W6.show D) (upd H6 D (.lst (ps.map V.ref ++ [.ref a]))) := Ev.grow e36 (fun z => z.elim d3 nDp) A6 ⟨_, hd6⟩
            obtain ⟨ev6, A7⟩ := Abs.grow (u := .lst (ps.map V.ref ++ [.ref a])) A6 pD ⟨_, hd6⟩
            have eg2 : Ev W2 H2 ((W6.show D).shows ps) _ := eg.shows fun p hp => un p (List.mem_cons_of_mem _ hp)
            have A8 : Abs C.K ((W6.show D).shows ps) _ _ := A7.shows
            have eg3 : Ev W2 H2 ⟨[], W6.fr, ((W6.show D).shows ps).pv, W6.tb⟩ (upd H6 D (.lst (ps.map V.ref ++ [.ref a]))) := eg2.bare hio fun b h => eg2.pv b h
            have A9 : Abs C.K ⟨[], W6.fr, ((W6.show D).shows ps).pv, W6.tb⟩ [] (upd H6 D (.lst (ps.map V.ref ++ [.ref a]))) := A8.bare fun _ h => h
            have evp : Ev (W6.show D) H6 (W6.show D) (upd H6 D (.lst (ps.map V.ref ++ [.ref a]))) := ev6
            have pvs : ∀ {us : List V} {zs : List P}, PVs C.K W6.fr H6 us zs → PVs C.K W6.fr (upd H6 D (.lst (ps.map V.ref ++ [.ref a]))) us zs := fun h => PVs.up evp h
            have oth : ∀ b, b ≠ D → upd H6 D (.lst (ps.map V.ref ++ [.ref a])) b = H6 b := fun b h => upd_ne h
            have hh : Paired (Held C.K ⟨[], W6.fr, ((W6.show D).shows ps).pv, W6.tb⟩ (upd H6 D (.lst (ps.map V.ref ++ [.ref a])))) ps xss := by
              have h1 : Paired (Held C.K W6 H6) ps xss := held_up (qs := ps) (W' := W6) (H' := H6) (Ev.hide.trans e36) hr.hd fun _ h => h
              refine CW.Paired.imp_mem h1 fun p hp zs w => ?_
              obtain ⟨us, k1, k2⟩ := w
              exact ⟨us, (oth p fun z => nDp (z ▸ hp)).trans k1, pvs k2⟩
            refine ⟨ps.map V.ref, hd6, by rw [List.length_map]; omega, ⟨[], W6.fr, ((W6.show D).shows ps).pv, W6.tb⟩, [], ps ++ [a], xss ++ [ys], e2.trans eg3, ?_, A9, by rw [List.length_append]; simp only [List.length_singleton]; omega, ?_⟩
            · refine ⟨fun p hp => ?_, ?_, by rw [List.map_append]; exact upd_same, CW.Paired.join hh (.cons ⟨vs, (oth a aD).trans a4, pvs a5⟩ .nil)⟩
              · rcases List.mem_cons.mp hp with rfl | hp
                · exact ⟨(A6.pd _ pD).2.1, List.not_mem_nil, fun z => z.1.2 _root_.rfl, _, upd_same⟩
                · rcases List.mem_append.mp hp with hp | hp
                  · have pp := pps p hp
                    obtain ⟨us, k1⟩ := (A6.pd p pp).1
                    exact ⟨(A6.pd p pp).2.1, List.not_mem_nil, fun z => z.2 hp, us, (oth p fun z => nDp (z ▸ hp)).trans k1⟩
                  · have : p = a := by simpa using hp
                    subst this
                    exact ⟨a3, List.not_mem_nil, fun z => (A6.pd _ z.1.1).2.2 am, vs, (oth _ aD).trans a4⟩
              · refine List.nodup_cons.mpr ⟨fun z => ?_, List.nodup_append.mpr ⟨(List.nodup_cons.mp hr.nd).2, by simp, fun b hb c hc z => ?_⟩⟩
                · rcases List.mem_append.mp z with z | z
                  · exact nDp z
                  · exact aD (by simpa using z : D = a).symm
                · have : c = a := by simpa using hc
                  exact aps (this ▸ z ▸ hb)
            · refine (Good.bnd z6).mono fun r s7 w => ?_
              have w : ∀ W'' H'' L ps, Ev W2 H2 W'' H'' → Abs C.K W'' s7 H'' → Rows0 C.K W'' H'' L ps (xss ++ ys :: r) → Q (.ref L) H'' := w
              intro W'' H'' L ps' e' A' h'
              rw [List.append_assoc] at h'
              exact w W'' H'' L ps' (eg3.trans e') A' h'
          · exact z6.elim
      · exact g2.elim
    · rw [List.drop_eq_nil_of_le (Nat.le_of_not_lt hi)] at g2
      unfold lhL at g2
      split at g2
      · rename_i s0
        subst s0
        have g3 : ∀ W'' H'' L ps, Ev W2 H2 W'' H'' → Abs C.K W'' [] H'' → Rows0 C.K W'' H'' L ps (xss ++ []) → Q (.ref L) H'' := g2
        refine Or.inl ⟨(io W2 H2 [] e2 A2 (gok_nil _) i).2 (show xs.length = i by omega), g3 W2 H2 D ps Ev.rfl A2 (by rw [List.append_nil]; exact hr)⟩
      · exact g2.elim
  · rw [if_neg hsz] at z2
    exact z2.elim
theorem r_lc (own : List (Str × Nat)) {i : IF} {t : GF} {pl : List Nat} (hi : SI C sc N k tg iter i) (hg : SG C scope N k tg t pl) (he : SE C scope N k elt m) (hpl : ∀ i ∈ pl, i ∈ own.map (·.2) := by decide)
    (bk : blkC N sc scope own = true := by decide +kernel) (hs : ∀ env x, foldedSetIterable iter env x = pure x := by intro _ _; rfl) : SR C sc N k (.ListComp elt [⟨tg, iter, [], 0⟩] scope pos) (lhE i (own.map (·.2)) t m) := fun X ok => by
  obtain ⟨ti, p, q⟩ := hi X ok
  obtain ⟨tt, p1, q1⟩ := uni_g ok hg
  obtain ⟨tc, p2, q2⟩ := uni_t (ifs := []) ok c_yes
  obtain ⟨te, p3, q3⟩ := uni_e ok he
  refine ⟨_, pe_lc ok.calm (by rw [ok.nN]; exact ok.nd) p (by rw [ok.nN]; exact blk_lik (blkOk_by bk) ok.eL) (fun s H C cl fp => p1 (s, H, C, cl, fp)) (fun s H C cl fp => p2 (s, H, C, cl, fp)) (fun s H C cl fp => p3 (s, H, C, cl, fp)) (hs X.env), fun σ H W s ρ Q er A g => ?_⟩
  exact lh_go q q1 hpl q2 q3 er A g
theorem Paired.taken {α β : Type} {R : α → β → Prop} {as : List α} {bs : List β} (h : Paired R as bs) : ∀ n : Nat, Paired R (as.take n) (bs.take n) := by
  induction h with
  | nil => exact fun n => by simp; exact .nil
  | cons h1 h2 ih => exact fun n => match n with
    | 0 => .nil
    | n + 1 => .cons h1 (ih n)
theorem cut_front (xs : List V) (n : Nat) : cutV xs none (some (n : Int)) = xs.take n := by
  unfold cutV
  rw [HT.sIx_none, HT.sIx_nat, List.drop_zero, Nat.sub_zero]
  rcases Nat.le_total n xs.length with h | h
  · rw [Nat.min_eq_left h]
  · rw [Nat.min_eq_right h, List.take_length, List.take_of_length_le h]
theorem ER.shows {C : Cf} {W : Wd} {H : Hp} {σ : L2.St} {ρ : En} {ps : List Addr} (h : ER C W H σ ρ) : ER C (W.shows ps) H σ ρ := ⟨h.len, fun i d z => by
  obtain ⟨v, h1, h2⟩ := h.at i d z
  exact ⟨v, h1, by cases d <;> exact h2⟩, h.tb⟩
theorem r_slc {h : En → M (List (List P))} (n : Nat) (hh : SR C sc N k a h) {u : Expr} (hu : SE C sc N k u (cE (.int n))) : SR C sc N k (.Subscript a (.Slice none (some u) none p2) pos) (shE h n) := fun X ok => by
  obtain ⟨ta, pa, qa⟩ := hh X ok
  obtain ⟨tl, pl, ql⟩ := o_none X ok
  obtain ⟨tu, pu, qu⟩ := (o_some hu) X ok
  refine ⟨_, pe_slice sl_list pa pl pu, fun σ H W s ρ Q er A g => ?_⟩
  refine qa σ H W s ρ _ er A ((Good.bnd g).mono fun xss s1 z W1 H1 L ps e1 A1 r1 => ?_)
  have z : ∀ W' H' L ps, Ev W H W' H' → Abs C.K W' s1 H' → Rows0 C.K W' H' L ps (xss.take n) → Q (.ref L) H' := z
  have hid : Ev W1 H1 (W1.hides (L :: ps)) H1 := Ev.hides
  refine ql σ H1 (W1.hides (L :: ps)) s1 ρ _ (er.up (e1.trans hid)) (A1.hides r1.un) (show Good (R.ok none s1) _ from fun W2 H2 e2 A2 => ?_)
  refine qu σ H2 W2 s1 ρ _ (er.up (e1.trans (hid.trans e2))) A2 (show Good (R.ok (some (n : Int)) s1) _ from fun W3 H3 e3 A3 => ?_)
  have e23 : Ev (W1.hides (L :: ps)) H1 W3 H3 := e2.trans e3
  have e4 : Ev W1 H1 (W3.shows (L :: ps)) H3 := e23.shows r1.un
  have A4 : Abs C.K (W3.shows (L :: ps)) s1 H3 := A3.shows
  have u4 : Unk (W3.shows (L :: ps)) H3 (L :: ps) := Unk.on e23 A3
  have hL : H3 L = some (.lst (ps.map V.ref)) := e23.pk _ _ (Or.inr List.mem_cons_self) r1.at_
  have hd : Paired (Held C.K W3 H3) ps xss := held_up e23 r1.hd fun p hp => List.mem_cons_of_mem _ hp
  rw [ok.eK]
  refine ⟨L, _, rfl, SqL.of hL, fun p hp => ?_⟩
  rw [cut_front, ← List.map_take]
  have ev : Ev (W3.shows (L :: ps)) H3 (W3.shows (L :: ps)) (upd H3 p (.lst ((ps.take n).map V.ref))) := Ev.new hp
  refine z _ _ p (ps.take n) (e1.trans (e4.trans ev)) (A4.new hp) ⟨fun q hq => ?_, ?_, upd_same, ?_⟩
  · rcases List.mem_cons.mp hq with rfl | hq
    · exact ⟨fun w => A4.ft _ w hp, fun w => A4.tr _ w hp, fun w => A4.pn w hp, _, upd_same⟩
    · obtain ⟨c1, c2, c3, vs, c4⟩ := u4 q (List.mem_cons_of_mem _ (List.mem_of_mem_take hq))
      refine ⟨c1, c2, c3, vs, ?_⟩
      rw [upd_ne fun w => by rw [w, hp] at c4; cases c4]
      exact c4
  · refine List.nodup_cons.mpr ⟨fun w => ?_, ((List.nodup_cons.mp r1.nd).2).sublist (List.take_sublist n ps)⟩
    obtain ⟨c1, c2, c3, vs, c4⟩ := u4 p (List.mem_cons_of_mem _ (List.mem_of_mem_take w))
    rw [hp] at c4
    cases c4
  · refine CW.Paired.imp_mem (CW.Paired.taken hd n) fun q hq zs w => ?_
    obtain ⟨vs, c1, c2⟩ := w
    refine ⟨vs, ?_, PVs.up (W := W3.shows (L :: ps)) ev c2⟩
    rw [upd_ne fun w => by rw [w, hp] at c1; cases c1]
    exact c1
theorem x_forH {h : En → M (List (List P))} {t : GF} {pl : List Nat} (hi : SR C sc N k iter h) (hg : SG C sc N k tg t pl) (hb : SB C sc N k sts f) (hs : ∀ env x, foldedSetIterable iter env x = pure x := by intro _ _; rfl) : SS C sc N k (.For tg iter sts [] pos) (forH h t f) := fun X ok => by
  obtain ⟨te, p, q⟩ := hi X ok.toCok
  obtain ⟨tt, p', q'⟩ := hg X ok.toCok
  obtain ⟨tb, p2, q2⟩ := hb X ok
  refine ⟨_, ps_for ok.po ok.calm (pi_list p) p' p2 (hs X.env), fun D σ H W s ρ er A g => ?_⟩
  refine q σ H W s ρ _ er A ((Good.bnd g).mono fun xss s1 z W1 H1 L ps e1 A1 r1 => ?_)
  rw [ok.eK]
  refine ⟨L, rfl, ⟨_, SqL.of r1.at_⟩, ?_⟩
  refine ⟨fun i m σ' H' => ∃ W' s' ρ' rss, Ev W1 H1 W' H' ∧ ER C W' H' σ' ρ' ∧ Abs C.K W' s' H' ∧ i + m = ps.length ∧ Unk W' H' (L :: ps.drop i) ∧ H' L = some (.lst (ps.map V.ref)) ∧ Paired (Held C.K W' H') (ps.drop i) rss ∧ Good (forHL t f rss ρ' s') (PoF C W' H' D),
    ⟨ps.length, W1, s1, ρ, xss, Ev.rfl, er.up e1, A1, by simp, r1.un, r1.at_, r1.hd, Good.mono z fun _ _ w => w.up e1⟩, ?_⟩
  rintro i m σ2 H2 ⟨W2, s2, ρ2, rss, e2, er2, A2, hm, un, hL, hd, g2⟩
  by_cases hi : i < ps.length
  · rw [List.drop_eq_getElem_cons hi] at un hd
    have ndp : (ps.drop i).Nodup := ((List.nodup_cons.mp r1.nd).2).sublist (List.drop_sublist i ps)
    rw [List.drop_eq_getElem_cons hi] at ndp
    have nLp : L ∉ ps := (List.nodup_cons.mp r1.nd).1
    cases hd with
    | cons hx hd =>
      rename_i xs rss'
      obtain ⟨vs, v1, v2⟩ := hx
      have gi : (ps.map V.ref)[i]? = some (.ref ps[i]) := by rw [List.getElem?_map, List.getElem?_eq_getElem hi]; rfl
      refine Or.inr ⟨⟨_, _, SqL.of hL, gi⟩, fun σ' H' => ∃ W' s' ρ' rss, Ev W1 H1 W' H' ∧ ER C W' H' σ' ρ' ∧ Abs C.K W' s' H' ∧ Unk W' H' (L :: ps.drop (i + 1)) ∧ H' L = some (.lst (ps.map V.ref)) ∧ Paired (Held C.K W' H') (ps.drop (i + 1)) rss ∧ Good (forHL t f rss ρ' s') (PoF C W' H' D), ?_, fun v H3 hv => ?_⟩
      · rintro σ' H' ⟨W', s', ρ', rs, a1, a2, a3, a4, a5, a6, a7⟩
        exact ⟨m - 1, by omega, W', s', ρ', rs, a1, a2, a3, by omega, a4, a5, a6, a7⟩
      · obtain ⟨rfl, hv⟩ := hv
        have ev := hv _ (SqL.of hL)
        rw [gi] at ev
        cases ev
        have un2 : Unk W2 H3 (L :: ps.drop (i + 1)) := fun p hp => un p (by
          rcases List.mem_cons.mp hp with z | z
          · exact z ▸ List.mem_cons_self
          · exact List.mem_cons_of_mem _ (List.mem_cons_of_mem _ z))
        obtain ⟨c1, c2, c3, _⟩ := un ps[i] (List.mem_cons_of_mem _ List.mem_cons_self)
        have Ah : Abs C.K (W2.hides (L :: ps.drop (i + 1))) s2 H3 := A2.hides un2
        have c3' : ¬ (W2.hides (L :: ps.drop (i + 1))).pv ps[i] := fun z => by
          rcases z with z | z
          · exact c3 z
          · rcases List.mem_cons.mp z with z | z
            · exact nLp (z ▸ List.getElem_mem hi)
            · exact (List.nodup_cons.mp ndp).1 z
        have gg : Good (mkL false xs s2) (Po C.K (W2.hides (L :: ps.drop (i + 1))) H3 (fun v H' => ∃ W3, Ev (W2.hides (L :: ps.drop (i + 1))) H3 W3 H' ∧ DV C.K W3 H' v (CW.D.obj s2.length) ∧ Abs C.K W3 (s2 ++ [some (O.lst xs)]) H')) := fun W' H' v e r A => ⟨W', e, r, A⟩
        obtain ⟨W3, e3, r3, A3⟩ := own_go Ah v1 c1 c2 c3' v2 gg
        have hid : Ev W2 H3 (W2.hides (L :: ps.drop (i + 1))) H3 := Ev.hides
        have g3 : Good (bnd (t (.obj s2.length) ρ2) (fun ρ1 => bnd (f ρ1) fun r => match r with
          | .nx ρ' => forHL t f rss' ρ'
          | .ct ρ' => forHL t f rss' ρ'
          | .bk ρ' => ret (.nx ρ')
          | .rt d => ret (.rt d)) (s2 ++ [some (.lst xs)])) (PoF C W2 H3 D) := g2
        refine q' _ _ σ2 H3 W3 _ ρ2 _ r3 (er2.up (hid.trans e3)) A3 ((Good.bnd g3).mono fun ρ1 s4 z4 W4 H4 σ4 e4 er4 A4 _ => ?_)
        refine q2 _ σ4 H4 W4 s4 ρ1 er4 A4 ((Good.bnd z4).mono fun r s5 z5 => ?_)
        have e34 : Ev (W2.hides (L :: ps.drop (i + 1))) H3 W4 H4 := e3.trans e4
        have nx : ∀ ρ' W5 H5 σ5, Good (forHL t f rss' ρ' s5) (PoF C W2 H3 D) → Ev W4 H4 W5 H5 → ER C W5 H5 σ5 ρ' → Abs C.K W5 s5 H5 → ∃ W' s' ρ' rss, Ev W1 H1 W' H5 ∧ ER C W' H5 σ5 ρ' ∧ Abs C.K W' s' H5 ∧ Unk W' H5 (L :: ps.drop (i + 1)) ∧ H5 L = some (.lst (ps.map V.ref)) ∧ Paired (Held C.K W' H5) (ps.drop (i + 1)) rss ∧ Good (forHL t f rss ρ' s') (PoF C W' H5 D) := fun ρ' W5 H5 σ5 zg e5 er5 A5 => by
          have e35 := e34.trans e5
          have es := e35.shows un2
          have hh : Paired (Held C.K W5 H5) (ps.drop (i + 1)) rss' := held_up e35 hd fun p hp => List.mem_cons_of_mem _ hp
          exact ⟨W5.shows (L :: ps.drop (i + 1)), s5, ρ', rss', e2.trans es, er5.shows, A5.shows, Unk.on e35 A5, e35.pk _ _ (Or.inr List.mem_cons_self) hL,
            hh, Good.mono zg fun _ _ w => w.up es⟩
        cases r with
        | nx ρ' => exact fun W5 H5 σ5 e5 er5 A5 => nx ρ' W5 H5 σ5 z5 e5 er5 A5
        | ct ρ' => exact fun W5 H5 σ5 e5 er5 A5 => nx ρ' W5 H5 σ5 z5 e5 er5 A5
        | bk ρ' => exact fun W5 H5 σ5 e5 er5 A5 => z5 W5 H5 σ5 (hid.trans (e34.trans e5)) er5 A5
        | rt d => exact fun W5 H5 v5 e5 r5 A5 => z5 W5 H5 v5 (hid.trans (e34.trans e5)) r5 A5
  · rw [List.drop_eq_nil_of_le (Nat.le_of_not_lt hi)] at hd
    cases hd
    exact Or.inl ⟨⟨_, SqL.of hL, by rw [List.length_map]; omega⟩, g2 W2 H2 σ2 Ev.rfl er2 A2⟩
/-! ### in place -/
theorem i_div : OpS C k (inplaceOp .FloorDiv) divD := fun X ok => ⟨_, (opI (C := divOk) (g := fun i j => i.fdiv j) fun i j _ _ _ _ _ hc q => ifloordiv_int hc.1 q (Or.inl hc.2)), fun W s H x y dx dy Q rx ry A g => by
  obtain ⟨i, j, rfl, rfl, c, q⟩ := ii_go rx ry g
  exact ⟨i, j, rfl, rfl, of_decide_eq_true c, q W H _ Ev.rfl (PV.int _) A⟩⟩
theorem i_mod : OpS C k (inplaceOp .Mod) (ii (fun _ j => decide (0 < j)) fun i j => .int (i % j)) := fun X ok => ⟨_, iop_mod, fun W s H x y dx dy Q rx ry A g => by
  obtain ⟨i, j, rfl, rfl, c, q⟩ := ii_go rx ry g
  exact ⟨i, j, rfl, rfl, of_decide_eq_true c, q W H _ Ev.rfl (PV.int _) A⟩⟩
theorem i_or : OpS C k (inplaceOp .BitOr) (ii yes fun i j => .int (Builtin.bitOr i j)) := fun X ok => ⟨_, iop_or, fun W s H x y dx dy Q rx ry A g => by
  obtain ⟨i, j, rfl, rfl, _, q⟩ := ii_go rx ry g
  exact ⟨i, j, rfl, rfl, q W H _ Ev.rfl (PV.int _) A⟩⟩
end
end CW

end
section
set_option maxRecDepth 100000
set_option maxHeartbeats 2000000
/-! CW, twenty-sixth part: a try whose handler is of one class. -/
namespace CW
open PySem PySem.Spec PyProof.Rows L2
/-- what the clause of one class wishes -/
def wKeep1 (K : PySem.W.Frag) (c1 : Value) (i j : Nat) (D : Ends) : WX := fun cls d σ H =>
  ∃ A, cls = .ref A ∧ PySem.W.exmOne K cls c1 = some true ∧ ∀ a, H a = none → D.nx (((σ.set i (some (.ref a))).set j (some (.ref a))).set i none) (upd H a (ExO a A d))
section
variable {X : Cx} {x1 n y : Str} {c1 : Value} {i j : Nat} {body : List Stmt} {q1 q2 q3 q4 q5 q6 pos pos' : Pos} {tb : WX → TS}
theorem ps_keep1 (hs : X.stack = X.env :: X.outer) (hf : X.env.frame = some X.env.locals) (hex : X.ex = []) (hN : X.N.Nodup) (hi : X.N[i]? = some n) (hj : X.N[j]? = some y) (hij : i ≠ j) (hln : X.env.kindOf n = some .local) (hly : X.env.scope.names.lookup y = some .local) (hvn : Vis X.env.scope n)
    (dn : (n == ("__debug__" : Str)) = false) (cn : (n == ("__classdict__" : Str)) = false) (hc1 : Names X x1 c1)
    (hsw : swapsWithSole [.Name y q4] (.Name n q5) q6.line X.env = pure false) (hst : swappedStores [.Name y q4] (.Name n q5) X.env = pure none) (h1 : (assignEach [.Name y q4] X.env).map (·.2) = [assign (.Name y q4) X.env])
    (hb : ∀ (W : WX) (pn : List (Addr × Obj)) (xe : Value → Shared → Prop), Takes (X.tr pn xe) W → PassesOwn (model X.prog X.w) X.A X.env xe → PSs (X.tr pn xe) body (tb W)) :
    PS X (.Try body [.ExceptHandler (some (.Name x1 q1)) (some n) [.Assign [.Name y q4] (.Name n q5) q6] pos'] [] [] pos) (fun D σ H => tb (wKeep1 X.K c1 i j D) D σ H) := by
  constructor
  intro pins s σ H D I wish
  have ok := I.ok
  have hfr := ok.frames
  rw [hs] at hfr
  let hd : List ExceptHandler := [.ExceptHandler (some (.Name x1 q1)) (some n) [.Assign [.Name y q4] (.Name n q5) q6] pos']
  have body_ := hb (wKeep1 X.K c1 i j D) (X.pn ++ pins) (fun e s1 => wpAny (model X.prog X.w) X.A (noteFrame e X.env) (fun _ s2 => wpAny (model X.prog X.w) X.A (setFlight e none) (fun _ s3 =>
    wpAny (model X.prog X.w) X.A (handleBy e X.env hd) (SP X pins D) X.xe s3) X.xe s2) X.xe s1) (fun u s' xx => ?_) PassesOwn.looking
  · refine wpAny_Try_except (wpAny_mono (body_.run [] s σ H D (I.toTry _) wish) (fun f s1 hsp => ?_) fun e s1 he => he)
    cases f with
    | next => exact let ⟨a1, a2, a3, a4⟩ := hsp; wpAny_execs_nil ⟨a1, a2, a3.ofTry ok, a4⟩
    | brk => exact let ⟨a1, a2, a3, a4⟩ := hsp; ⟨a1, a2, a3.ofTry ok, a4⟩
    | cont => exact let ⟨a1, a2, a3, a4⟩ := hsp; ⟨a1, a2, a3.ofTry ok, a4⟩
    | ret u => exact let ⟨a0, a1, a2, a3, a5, a4⟩ := hsp; ⟨a0, a1, a2, a3.ofTry ok, a5, a4⟩
  · obtain ⟨a, B, sI, pins', σ', H', cls, d, rfl, J', nb, up, sky, na, os, ag, A, rfl, hm, hq⟩ := xx
    have J := J'.ofTry ok (σ := σ')
    have sky' : Sky B (X.env :: X.outer) a (Zc (.ref A) d) X.env.locals s'.heap := by rw [← hs]; exact sky
    have noB : B.get? a = none := by
      rcases sky' with z | z | z
      · exact z.2.1
      · exact z.2.1
      · exact z.2.1
    refine Sky.land (L := X.env.locals) (outer := X.outer) Zc.steady hfr hf sky' (fun h3 fl3 up3 => ?_)
    obtain ⟨x3, rows3, he3, hz3, hd3⟩ := fl3.there
    have nfr := fly_off fl3
    obtain ⟨nL, nF⟩ := frs_top hf nfr
    have J3 := J.landed (s' := { s' with heap := h3 }) nb fl3.1 (up.trans up3) os ag
    have inSuite := J3.suite he3 hd3 na nL nF
    refine wpAny_handleBy_cons (codeAny_handlers_test ?test) (fun z => nomatch z)
    have LT : PySem.W.Looks (model X.prog X.w) h3 (typeOf (.ref a)) (.ref A) := fun A' Q E s k q => wpAny_typeOf_ref (k _ _ he3) (by rw [hz3.1]; exact q)
    have LM := PySem.W.exm_one (M := model X.prog X.w) (J3.kIn) LT hm
    refine names_go inSuite hc1 (LM.here (codeAny_handlers_suite_as ?_))
    refine HandSPX.lands_againZ fl3 fun h5 fl5 up5 => ?_
    obtain ⟨oe5, vs5, he5, hz5, hd5⟩ := fl5.there
    have J5 : Inv X pins σ' H' { s' with heap := h5 } := J.landed nb fl5.1 ((up.trans up3).trans up5) os ag
    have S5 := J5.suite he5 hd5 na nL nF
    have old : ∀ b o, sI.heap.get? b = some o → b ≠ a := fun b o e z => by
      have q := nb b o e (by rw [hs, z]; exact nfr)
      rw [z, noB] at q
      cases q
    have new : X.s_0.heap.get? a = none := by
      cases e : Heap.get? X.s_0.heap a with
      | none => rfl
      | some o =>
        obtain ⟨o', e'⟩ := J.base.there a o e (by rw [hex]; exact fun z => nomatch z)
        exact (old a o' e' rfl).elim
    have np : ∀ p ∈ X.pn ++ pins, p.1 ≠ a := fun p hp => old _ _ (J.pin p hp).1
    have hiσ : i < σ'.length := by rw [J.len]; exact (List.getElem?_eq_some_iff.mp hi).1
    refine store_ok (X := X.suite a ((a, oe5) :: (X.pn ++ pins))) (v := .ref a) S5 hN hi (Or.inl hln) rfl (fun s6 S6 => ?_) (.inr hln)
    have run := (pss_one (ps_asg (X := X.suite a ((a, oe5) :: (X.pn ++ pins))) (pe_var (pos := q5) hi hvn dn cn) (pg_name (pos := q4) hN hj (.inl hly) (.inr hly)) hsw hst h1)).run [] s6 (σ'.set i (some (.ref a))) H'
      { nx := fun σ1 H1 => σ1 = (σ'.set i (some (.ref a))).set j (some (.ref a)) ∧ H1 = H', rt := fun _ _ => False, bk := fun _ _ => False, ct := fun _ _ => False } S6
      ⟨.ref a, List.getElem?_set_self hiσ, rfl, rfl⟩
    refine wpAny_mono run (fun f s7 hsp => ?_) (fun _ _ z => False.elim z)
    cases f with
    | next =>
      obtain ⟨σ7, H7, S7, rfl, rfl⟩ := hsp
      have J7 : Inv X ((a, oe5) :: pins) ((σ'.set i (some (.ref a))).set j (some (.ref a))) H7 s7 :=
        ⟨ok, S7.os, S7.bare, S7.base, S7.loc, S7.cell, S7.free, S7.freeC, fun p hp => S7.pin p (List.mem_append_left _ (by
          rcases List.mem_append.mp hp with h | h
          · exact List.mem_cons_of_mem _ (List.mem_append_left _ h)
          · rcases List.mem_cons.mp h with h | h
            · rw [h]
              exact List.mem_cons_self
            · exact List.mem_cons_of_mem _ (List.mem_append_right _ h))), S7.hok, S7.len⟩
      exact gone_ok J7 hN hi hln fun s8 J8 => ⟨_, _, told J8 new hz5 hd5 np, hq a na⟩
    | brk =>
      obtain ⟨_, _, _, z⟩ := hsp
      exact False.elim z
    | cont =>
      obtain ⟨_, _, _, z⟩ := hsp
      exact False.elim z
    | ret u =>
      obtain ⟨_, _, _, _, _, z⟩ := hsp
      exact False.elim z
end
section
variable {I : Wd → Hp → Prop} {C : Cf} {sc : Scope} {N : List Str} {k : Nat} {pos p2 : Pos} {st : Stmt} {m : SF}
theorem x_try1 {x1 n y : Str} {A1 : Addr} {q1 q4 q5 q6 pos' : Pos} (cat : Str → Bool) (i j : Nat) (he : SSi I C sc N k st m) (hm1 : C.mg x1 = some (.ref A1))
    (hcat : ∀ c A, cat c = true → NmC C.K c A → PySem.W.exmOne C.K (.ref A) (.ref A1) = some true) (hi : N[i]? = some n := by rfl) (hj : N[j]? = some y := by rfl) (hij : i ≠ j := by decide)
    (hn : sc.names.lookup n = some .local := by rfl) (hy : sc.names.lookup y = some .local := by rfl) (hg1 : GlS sc x1 := by rfl) (d1 : (x1 == ("__debug__" : Str)) = false := by decide)
    (dn : (n == ("__debug__" : Str)) = false := by decide) (cn : (n == ("__classdict__" : Str)) = false := by decide)
    (hsw : ∀ env : Env, env.scope = sc → swapsWithSole [.Name y q4] (.Name n q5) q6.line env = pure false := by intro _ _; rfl) (hst : ∀ env : Env, env.scope = sc → swappedStores [.Name y q4] (.Name n q5) env = pure none := by intro _ _; rfl)
    (h1 : ∀ env, (assignEach [.Name y q4] env).map (·.2) = [assign (.Name y q4) env] := by intro _; rfl) :
    SSI I C sc N k (.Try [st] [.ExceptHandler (some (.Name x1 q1)) (some n) [.Assign [.Name y q4] (.Name n q5) q6] pos'] [] [] pos) (tryF cat i j m) := fun X ok => by
  let tb : WX → TS := fun WW D σ H => ∃ W s ρ, I W H ∧ ER C W H σ ρ ∧ Abs C.K W s H ∧ GoodX (m ρ s) (PoF C W H D) (PoE C.K W H fun c d H' => WW c d σ H')
  have hln : X.env.kindOf n = some .local := by
    show X.env.scope.names.lookup n = some .local
    rw [ok.eS]
    exact hn
  have nm1 : Names X x1 (.ref A1) := ⟨hg1.of ok.toCok, d1, Or.inl (by rw [ok.em]; exact hm1)⟩
  refine ⟨_, ps_keep1 (i := i) (j := j) (tb := tb) ok.sk ok.fm ok.nx (by rw [ok.nN]; exact ok.nd) (by rw [ok.nN]; exact hi) (by rw [ok.nN]; exact hj) hij hln (by rw [ok.eS]; exact hy) (Or.inl hln) dn cn nm1 (hsw X.env ok.eS) (hst X.env ok.eS) (h1 X.env) (fun WW pn xe tk po => ?_), fun D σ H W s ρ i0 er A g => ?_⟩
  · obtain ⟨t, p, q⟩ := he X WW pn xe ok po tk
    have p2 := pss_one p
    exact ⟨fun pins s σ H D I h => p2.run pins s σ H D I (by
      obtain ⟨W, s0, ρ, i0, er, A, g⟩ := h
      exact q D σ H W s0 ρ i0 er A g)⟩
  · refine ⟨W, s, ρ, i0, er, A, ?_⟩
    unfold tryF at g
    cases e1 : m ρ s with
    | bad =>
      rw [e1] at g
      exact g
    | ok d s1 =>
      rw [e1] at g
      exact g
    | exn c s1 =>
      rw [e1] at g
      dsimp only at g
      by_cases hc : cat c.c = true
      · rw [if_pos hc] at g
        intro W1 H1 Ac d ev A0 nm fd
        refine ⟨Ac, rfl, by rw [ok.eK]; exact hcat c.c Ac hc nm, fun a na => ?_⟩
        have ek : Ev W1 H1 (W1.keep a) (upd H1 a (ExO a Ac d)) := Ev.keep na
        have rv : DV C.K (W1.keep a) (upd H1 a (ExO a Ac d)) (.ref a) (.p c.toP) := XdOk.pv nm na fd ek
        exact g (W1.keep a) _ _ (ev.trans ek) ((((er.up (ev.trans ek)).put rv i).put rv j).wipe i) (A0.keep na (fun ps z => by unfold ExO at z; cases z))
      · rw [if_neg hc] at g
        exact g.elim
end
theorem cat_mk1 {K : PySem.W.Frag} {l : List Str} {c1 : Value} (h : AllP (fun c => ∃ A, NmC K c A ∧ PySem.W.exmOne K (.ref A) c1 = some true) l) : ∀ c A, catT l c = true → NmC K c A → PySem.W.exmOne K (.ref A) c1 = some true := fun c A hc hn => by
  obtain ⟨B, h1, h2⟩ := h.mem c (List.contains_iff_mem.mp hc)
  rw [hn.uni h1]
  exact h2
end CW

end
section
set_option maxRecDepth 100000
set_option maxHeartbeats 2000000
/-! CW, twenty-seventh part: a row from behind. -/
namespace CW
open PySem PySem.Spec PyProof.Rows L2
theorem PVs.reverse {K : PySem.W.Frag} {F : Addr → Prop} {H : Hp} : ∀ {vs : List V} {xs : List P}, PVs K F H vs xs → PVs K F H vs.reverse xs.reverse
  | _, _, .nil => .nil
  | _, _, .cons h r => by
    rw [List.reverse_cons, List.reverse_cons]
    exact PVs.app (PVs.reverse r) (.cons h .nil)
def revE (fr : Bool) (ma : EF) : EF := fun ρ => bnd (ma ρ) fun x s => match its x s with
  | some xs => mkL fr xs.reverse s
  | none => .bad
section
variable {C : Cf} {sc : Scope} {N : List Str} {k : Nat} {a : Expr} {ma : EF}
theorem s_rev (fr : Bool) {kk : Nat} {p1 p2 p3 pos : Pos} (ha : SE C sc N k a ma) : SE C sc N k (.Subscript a (.Slice none none (some (.UnaryOp .USub (.Constant (.int 1) kk p1) p2)) p3) pos) (revE fr ma) := fun X ok => by
  obtain ⟨ta, pa, qa⟩ := ha X ok
  refine ⟨_, pe_revL pa, fun σ H W s ρ Q er A g => ?_⟩
  refine qa σ H W s ρ _ er A (Good.bnd g |>.mono fun dx s1 h1 W1 H1 x e1 r1 A1 => ?_)
  split at h1
  · rename_i xs ex
    obtain ⟨b, vs, rfl, h2, h3⟩ := its_sq r1 A1 ex
    refine ⟨b, vs, rfl, by rw [ok.eK]; exact h2, fun p hp => ?_⟩
    exact mkL_go e1 A1 h3.reverse h1 hp
  · exact h1.elim
theorem revE_ev (fr : Bool) (ma : EF) (ρ : En) (s : S) : revE fr ma ρ s = R.bind (ma ρ s) fun x s1 => match its x s1 with
    | some xs => mkL fr xs.reverse s1
    | none => .bad := by
  unfold revE
  rw [bnd_ev]
end
end CW

end
section
set_option maxRecDepth 100000
set_option maxHeartbeats 2000000
/-! CW, twenty-eighth part: rows that hold changing objects; ranges with a step; pop(0). -/
namespace CW
open PySem PySem.Spec PyProof.Rows L2
/-- the items of a row of things -/
def rowAt (d : D) (s : S) : Option (List D) := match d with
  | .obj n => match s[n]? with
    | some (some (.row ds)) => some ds
    | _ => none
  | _ => none
section
variable {C : Cf} {K : PySem.W.Frag} {W : Wd} {H : Hp} {s : S} {v : V} {d : D}
theorem rowAt_obj {W : Wd} {H : Hp} {s : S} {v : V} {d : D} {ds : List D} (r : DV C.K W H v d) (A : Abs C.K W s H) (h : rowAt d s = some ds) : ∃ n a vs, d = .obj n ∧ s[n]? = some (some (.row ds)) ∧ W.io[n]? = some a ∧ v = .ref a ∧ H a = some (.lst vs) ∧ DVs C.K W H vs ds := by
  unfold rowAt at h
  split at h
  · rename_i n
    split at h
    · rename_i qs hs
      cases h
      obtain ⟨a, h4, rfl⟩ := r
      obtain ⟨a', h5, _, vs, h6, h7⟩ := A.ob n _ hs
      rw [h4] at h5
      cases h5
      exact ⟨n, a, vs, rfl, hs, h4, rfl, h6, h7⟩
    · cases h
  · cases h
theorem DVs.get : ∀ {vs : List V} {ds : List D} {i : Nat} {d : D}, DVs K W H vs ds → ds[i]? = some d → ∃ v, vs[i]? = some v ∧ DV K W H v d
  | _, _, _, _, .nil, e => by simp at e
  | _, _, 0, _, .cons h _, e => by
    simp at e
    subst e
    exact ⟨_, rfl, h⟩
  | _, _, i + 1, d, .cons _ r, e => by
    obtain ⟨v, h1, h2⟩ := DVs.get (i := i) (d := d) r (by simpa using e)
    exact ⟨v, by simpa using h1, h2⟩
theorem DVs.put {v : V} {d : D} (h : DV K W H v d) : ∀ {vs : List V} {ds : List D} (i : Nat), DVs K W H vs ds → DVs K W H (vs.set i v) (ds.set i d)
  | _, _, _, .nil => .nil
  | _, _, 0, .cons _ r => .cons h r
  | _, _, i + 1, .cons q r => .cons q (DVs.put h i r)
theorem DVs.atI {vs : List V} {ds : List D} {i : Int} {d : D} (h : DVs K W H vs ds) (e : L2.atI ds i = some d) : ∃ v, L2.atI vs i = some v ∧ DV K W H v d := by
  unfold L2.atI at e ⊢
  rw [Paired.length h]
  cases hj : ixN ds.length i with
  | none =>
    rw [hj] at e
    cases e
  | some j =>
    rw [hj] at e
    exact h.get e
end
/-- a new row of things -/
def newR (ds : List D) : M D := fun s => .ok (.obj s.length) (s ++ [some (.row ds)])
def lsrE (ms : List EF) : EF := fun ρ => bnd (evA ms ρ) newR
/-- an item of a row of things -/
def rixD (x y : D) : M D := fun s => match rowAt x s, y with
  | some ds, .p (.int i) => match L2.atI ds i with
    | some d => .ok d s
    | none => .bad
  | _, _ => .bad
def rputF (mo mi mv : EF) : SF := fun ρ => bnd (mv ρ) fun v => bnd (mo ρ) fun d => bnd (mi ρ) fun i s => match d, rowAt d s, i with
  | .obj n, some ds, .p (.int z) => match ixN ds.length z with
    | some j => .ok (.nx ρ) (s.set n (some (.row (ds.set j v))))
    | none => .bad
  | _, _, _ => .bad
def popD0 : D → List D → M D := fun d ds s => match d, ds with
  | .obj n, [.p (.int 0)] => match s[n]? with
    | some (some (.lst (x :: xs))) => .ok (.p x) (s.set n (some (.lst xs)))
    | _ => .bad
  | _, _ => .bad
noncomputable def r3I (ms : List EF) : IF := fun ρ => bnd (evA ms ρ) fun ds s => match ds with
  | [.p (.int i), .p (.int j), .p (.int c)] => @ite _ (c ≠ 0 ∧ c.natAbs < 1073741824 ∧ Builtin.Range.small i j c = true ∧ 0 ≤ Builtin.Range.rangeSize i j c) (Classical.propDecidable _) (.ok ((List.range (Builtin.Range.rangeSize i j c).toNat).map (fun k => P.int (i + (k : Nat) * c)), []) s) .bad
  | _ => .bad
section
variable {C : Cf} {sc : Scope} {N : List Str} {k : Nat} {pos p2 : Pos} {e a b c tg : Expr} {m ma mb : EF} {es : List Expr} {ms : List EF}
theorem s_lsr (h : SAs C sc N k es ms) (hl : ms.length ≤ sizeLine := by decide) : SE C sc N k (.List es pos) (lsrE ms) := fun X ok => by
  obtain ⟨t, p, q⟩ := h X ok
  refine ⟨_, pe_lst p, fun σ H W s ρ Q er A g => ?_⟩
  refine q σ H W s ρ _ er A (g.bnd.len.mono fun ds s1 ⟨z, h1⟩ W1 H1 vs e1 r1 A1 => ?_)
  refine ⟨by rw [Paired.length r1, z]; exact hl, fun o ho => ?_⟩
  have ev : Ev W1 H1 (W1.add o) (upd H1 o (.lst vs)) := Ev.add ho
  exact h1 _ _ _ (e1.trans ev) ⟨o, A1.nobj ho, rfl⟩ (A1.add ho ⟨vs, upd_same, DVs.up ev r1⟩)
theorem s_rix (ha : SE C sc N k a ma) (hb : SE C sc N k b mb) (hs : PlainIx b := by exact fun _ _ => rfl) : SE C sc N k (.Subscript a b pos) (op2 rixD ma mb) := fun X ok => by
  obtain ⟨ta, pa, qa⟩ := ha X ok
  obtain ⟨tb, pb, qb⟩ := hb X ok
  refine ⟨_, pe_ix ix_seq pa pb hs, fun σ H W s ρ Q er A g => ?_⟩
  rw [ok.eK]
  exact two qa qb er A g fun W' H' s' x y dx dy e rx ry A' g' => by
    unfold rixD at g'
    split at g'
    · rename_i ds i hd
      cases ry
      split at g'
      · rename_i d hz
        obtain ⟨n, a, vs, rfl, hs, h3, rfl, h4, h5⟩ := rowAt_obj rx A' hd
        obtain ⟨v, h1, h2⟩ := h5.atI hz
        exact Or.inl ⟨_, _, _, _, rfl, rfl, SqL.of h4, h1, g' W' H' v Ev.rfl h2 A'⟩
      · exact g'.elim
    · exact g'.elim
theorem x_rput {o i value : Expr} {p3 : Pos} {mo mi mv : EF} (ho : SE C sc N k o mo) (hi : SE C sc N k i mi) (hv : SE C sc N k value mv) (hs : ∀ env : Env, env.scope = sc → swapsWithSole [.Subscript o i p3] value pos.line env = pure false := by intro _ _; rfl)
    (hw : ∀ env : Env, swappedStores [.Subscript o i p3] value env = pure none := by intro _; rfl) (h1 : ∀ env, (assignEach [.Subscript o i p3] env).map (·.2) = [assign (.Subscript o i p3) env] := by intro _; rfl)
    (ha : ∀ env v, assign (.Subscript o i p3) env v = (do
      let ov ← holding [v] (eval o env)
      let iv ← holding [v, ov] (eval i env)
      standAt p3
      holding [v, ov, iv] (setItem ov iv v)
      release [v, ov, iv] []) := by intro _ _; rfl) : SS C sc N k (.Assign [.Subscript o i p3] value pos) (rputF mo mi mv) := fun X ok => by
  obtain ⟨t1, p1, q1⟩ := ho X ok.toCok
  obtain ⟨t2, p2, q2⟩ := hi X ok.toCok
  obtain ⟨t3, p3, q3⟩ := hv X ok.toCok
  refine ⟨_, ps_asg p3 (pg_sub p1 p2 set_list (ha X.env)) (hs X.env ok.eS) (hw X.env) (h1 X.env), fun D σ H W s ρ er A g => ?_⟩
  refine q3 σ H W s ρ _ er A ((Good.bnd g).mono fun v s1 z W1 H1 vv e1 r1 A1 => ?_)
  refine q1 σ H1 W1 s1 ρ _ (er.up e1) A1 ((Good.bnd z).mono fun d s2 z2 W2 H2 vd e2 r2 A2 => ?_)
  refine q2 σ H2 W2 s2 ρ _ ((er.up e1).up e2) A2 ((Good.bnd z2).mono fun i s3 z3 W3 H3 vi e3 r3 A3 => ?_)
  split at z3
  · rename_i n ds iz hd
    split at z3
    · rename_i j hj
      cases r3
      obtain ⟨n', a, vs, hn, hx, h4, rfl, h6, h7⟩ := rowAt_obj (r2.up e3) A3 hd
      cases hn
      have ev : Ev W3 H3 W3 (upd H3 a (.lst (vs.set j vv))) := Ev.put (o' := .row []) A3 hx h4
      refine ⟨a, vs, _, j, rfl, rfl, h6, by rw [Paired.length h7]; exact hj, z3 W3 _ _ (((e1.trans e2).trans e3).trans ev) ((((er.up e1).up e2).up e3).up ev) (A3.put hx h4 ⟨_, upd_same, DVs.put ?_ j (DVs.up ev h7)⟩)⟩
      exact ((r1.up e2).up e3).up ev
    · exact z3.elim
  · exact z3.elim
theorem m_pop0 : MtS C k "list.pop" popD0 := fun X ok => ⟨_, mt_popAt, fun W s H x d xs ds Q rx r A g => by
  unfold popD0 at g
  split at g
  · split at g
    · rename_i y ys hn
      obtain ⟨a, vs, ha, rfl, h1, h2⟩ := obj_lst rx A hn
      cases h2 with
      | cons hv hr =>
        cases r with
        | cons ri rr =>
          cases rr
          cases ri
          exact ⟨a, _, 0, 0, _, rfl, rfl, h1, by decide, by decide, by simp [seqIndex?], rfl, put_go A hn ha hr (d := .p y) hv g⟩
    · exact g.elim
  · exact g.elim⟩
theorem itc_ok {lo c : Int} {n : Nat} {W : Wd} {H : Hp} : ItOk C.K (Itc lo c n) W H ((List.range n).map fun k => P.int (lo + (k : Nat) * c)) [] := fun W1 H1 s1 e A1 hg i => by
  refine ⟨fun x hx => ?_, fun hi => by rw [List.length_map, List.length_range] at hi; exact Nat.le_of_eq hi⟩
  have hi : i < n := by
    have z := (List.getElem?_eq_some_iff.mp hx).1
    rw [List.length_map, List.length_range] at z
    exact z
  refine ⟨hi, fun u H' hy => ?_⟩
  obtain ⟨rfl, rfl⟩ := hy
  rw [List.getElem?_map, List.getElem?_range hi] at hx
  cases hx
  exact ⟨Ev.rfl, .int _, A1⟩
theorem i_r3 (ha : SAs C sc N k [a, b, c] ms) (hm : C.mg "range" = none) (hg : GlS sc "range" := by rfl) (hs : ∀ env, starEach [a, b, c] env = (false, eval a env) :: starEach [b, c] env := by intro _; rfl)
    (hpl : ∀ env, (backTo pos (starEach [b, c] env)).any (·.1) = false := by intro _; rfl) : SI C sc N k tg (.Call (.Name "range" p2) [a, b, c] [] pos) (r3I ms) := fun X ok => by
  obtain ⟨t, p, q⟩ := ha X ok
  refine ⟨_, pi_range3 (hg.of ok) (by rw [ok.em]; exact hm) p (hs X.env) (hpl X.env), fun σ H W s ρ R er A g => ?_⟩
  refine q σ H W s ρ _ er A ((Good.bnd g).mono fun ds s1 z W1 H1 vs e1 r1 A1 => ?_)
  split at z
  · split at z
    · rename_i hb
      obtain ⟨x, y, w, rfl, hx, hy, hw⟩ := dvs3 r1
      cases hx
      cases hy
      cases hw
      obtain ⟨b1, b2, b3, b4⟩ := hb
      exact ⟨_, _, _, _, rfl, ⟨b1, b2, b3, (Int.toNat_of_nonneg b4).symm⟩, z W1 H1 _ e1 A1 itc_ok⟩
    · exact z.elim
  · exact z.elim
end
/-! ### as equations -/
section
variable {s : S} {ρ : En} {ma mb mc : EF} {ms : List EF}
theorem lsrE_ev : lsrE ms ρ s = R.bind (evA ms ρ s) newR := by
  unfold lsrE
  rw [bnd_ev]
theorem newR_ev (ds : List D) : newR ds s = .ok (.obj s.length) (s ++ [some (.row ds)]) := rfl
theorem rputF_ev {s1 s2 s3 : S} {v i : D} {n : Nat} {ds : List D} {z : Int} {j : Nat} (h1 : mc ρ s = .ok v s1) (h2 : ma ρ s1 = .ok (.obj n) s2) (h3 : mb ρ s2 = .ok (.p (.int z)) s3) (h4 : s3[n]? = some (some (.row ds))) (h5 : ixN ds.length z = some j) : rputF ma mb mc ρ s = .ok (.nx ρ) (s3.set n (some (.row (ds.set j v)))) := by
  unfold rputF
  rw [bnd_ev, h1, R.bind_ok, bnd_ev, h2, R.bind_ok, bnd_ev, h3, R.bind_ok]
  have hr : rowAt (.obj n) s3 = some ds := by
    unfold rowAt
    try dsimp only
    rw [h4]
  try dsimp only
  rw [hr]
  try dsimp only
  rw [h5]
theorem rixD_ev {n : Nat} {ds : List D} {z : Int} {d : D} (h4 : s[n]? = some (some (.row ds))) (h5 : L2.atI ds z = some d) : rixD (.obj n) (.p (.int z)) s = .ok d s := by
  have hr : rowAt (.obj n) s = some ds := by
    unfold rowAt
    try dsimp only
    rw [h4]
  unfold rixD
  rw [hr]
  try dsimp only
  rw [h5]
theorem popD0_ev {n : Nat} {x : P} {xs : List P} (h : s[n]? = some (some (.lst (x :: xs)))) : popD0 (.obj n) [.p (.int 0)] s = .ok (.p x) (s.set n (some (.lst xs))) := by
  show (match s[n]? with
    | some (some (O.lst (x :: xs))) => R.ok (D.p x) (s.set n (some (O.lst xs)))
    | _ => R.bad) = _
  rw [h]
end
end CW

end
section
set_option maxRecDepth 100000
set_option maxHeartbeats 2000000
/-! CW, twenty-ninth part: zip of three lists. -/
namespace CW
open PySem PySem.Spec PyProof.Rows L2
theorem adne {B i j : Nat} (h : i ≠ j) : B + i ≠ B + j := by omega
theorem ad0 {B j : Nat} (h : 0 < j) : B ≠ B + j := by omega
theorem adz {B j : Nat} (h : 0 < j) : B + j ≠ B := by omega
/-- what zip of the lists at a, b, e yields -/
def Itz3 (K : PySem.W.Frag) (a b e : Addr) : It :=
  ⟨fun n G => ∃ (l m t : List V) (p q r : V), (SqL K G a l ∧ SqL K G b m ∧ SqL K G e t) ∧ l[n]? = some p ∧ m[n]? = some q ∧ t[n]? = some r,
    fun n G u G' => ∃ o p q r, u = .ref o ∧ G o = none ∧ G' = upd G o (.tup [p, q, r]) ∧ (∀ l, SqL K G a l → l[n]? = some p) ∧ (∀ m, SqL K G b m → m[n]? = some q) ∧ ∀ t, SqL K G e t → t[n]? = some r,
    fun n G => ∃ l m t : List V, (SqL K G a l ∧ SqL K G b m ∧ SqL K G e t) ∧ (n ≤ l.length ∧ n ≤ m.length ∧ n ≤ t.length) ∧ (n = l.length ∨ n = m.length ∨ n = t.length)⟩
/-- how its cells stand -/
def Z3St (a b e B : Addr) (n : Nat) (h : Heap) : Prop := (IsZip h (B + 5) (B + 3) (B + 4) .none ∧ IsTupOf3 h (B + 3) (.ref B) (.ref (B + 1)) (.ref (B + 2))) ∧ (∃ x y u, IsTupOf3 h (B + 4) x y u) ∧ h.IsListIter B a n ∧ h.IsListIter (B + 1) b n ∧ h.IsListIter (B + 2) e n
theorem six_of {x B : Addr} (h : x ∈ [B + 5, B + 3, B + 4, B, B + 1, B + 2]) : x = B + 5 ∨ x = B + 3 ∨ x = B + 4 ∨ x = B ∨ x = B + 1 ∨ x = B + 2 := by simpa using h
theorem turn_zip3 {P : Program} {w : World} {K : PySem.W.Frag} {elts : List Expr} {kk : Nat} {tpos : Pos} {a b e B : Addr} (la : a < B) (lb : b < B) (le : e < B) : Turn P w K (.Tuple elts kk tpos) (Itz3 K a b e) [B + 5, B + 3, B + 4, B, B + 1, B + 2] (B + 5) (Z3St a b e B) := by
  have la : @LT.lt Nat instLTNat a B := la
  have lb : @LT.lt Nat instLTNat b B := lb
  have le : @LT.lt Nat instLTNat e B := le
  have ne : ∀ {x y : Nat}, x ≠ y → ¬ (x : Addr) = y := fun h => h
  have sep : ZipSep3 (B + 5) (B + 3) (B + 4) B (B + 1) (B + 2) [B, a] [B + 1, b] [B + 2, e] := by
    refine ⟨?_, ?_, ?_, ?_, by simp, ?_, ?_, ?_, by simp, ?_, ?_, ?_, by simp, ?_, ?_, ?_, ?_, ?_, ?_, ?_, ?_⟩ <;> first
      | (show (_ : Nat) ≠ _; omega)
      | (intro h; simp only [List.mem_cons, List.not_mem_nil, or_false] at h; rcases h with h | h <;> (have h : (_ : Nat) = _ := h; omega))
  refine ⟨by simp, fun n h st x hx => ?_, fun n h h' st k => ?_, fun X hP hw hK hc n pins s σ H E I hf st hg => ?_, fun X hP hw hK hc n pins s σ H E I hf st hg => ?_, fun A n s Q E st h => wpAny_pyIter_zip st.1.1 h⟩
  · obtain ⟨⟨s1, s2⟩, ⟨u, v, w, s3⟩, ⟨o1, e1, _, d1⟩, ⟨o2, e2, _, d2⟩, ⟨o3, e3, _, d3⟩⟩ := st
    rcases six_of hx with rfl | rfl | rfl | rfl | rfl | rfl
    · exact ⟨_, s1, fun v q => nomatch q⟩
    · exact ⟨_, s2, fun v q => nomatch q⟩
    · exact ⟨_, s3, fun v q => nomatch q⟩
    · exact ⟨o1, e1, fun v q => by rw [d1] at q; cases q⟩
    · exact ⟨o2, e2, fun v q => by rw [d2] at q; cases q⟩
    · exact ⟨o3, e3, fun v q => by rw [d3] at q; cases q⟩
  · obtain ⟨⟨s1, s2⟩, ⟨u, v, w, s3⟩, s4, s5, s6⟩ := st
    exact ⟨⟨k _ (by simp) _ s1, k _ (by simp) _ s2⟩, ⟨u, v, w, k _ (by simp) _ s3⟩, s4.at fun o q => k _ (by simp) o q, s5.at fun o q => k _ (by simp) o q, s6.at fun o q => k _ (by simp) o q⟩
  · subst hP hw hK
    obtain ⟨⟨s1, s2⟩, ⟨u, v, w, s3⟩, s4, s5, s6⟩ := st
    obtain ⟨l, m, t, p, q, r, ⟨hl, hm, ht⟩, hp, hq, hr⟩ := hg
    obtain ⟨us, ru, pl, _⟩ := I.list hl
    obtain ⟨vs, rv, pm, _⟩ := I.list hm
    obtain ⟨ws, rw', pt, _⟩ := I.list ht
    have hh : X.A.in1.handled = none := I.ok.hd hc
    obtain ⟨x, hx, rx⟩ := ru.get hp
    obtain ⟨y, hy, ry⟩ := rv.get hq
    obtain ⟨z, hz, rz⟩ := rw'.get hr
    have n1 : n < us.toArray.size := by simpa using (List.getElem?_eq_some_iff.mp hx).1
    have n2 : n < vs.toArray.size := by simpa using (List.getElem?_eq_some_iff.mp hy).1
    have n3 : n < ws.toArray.size := by simpa using (List.getElem?_eq_some_iff.mp hz).1
    have zl : B + 5 < s.heap.objs.size := Heap.lt_size s1
    refine wpAny_pyNext_zipD3_item sep (Draws.list hh B a (Nat.ne_of_lt la) us.toArray) (Draws.list hh (B + 1) b (Nat.ne_of_lt (Nat.lt_succ_of_lt lb)) vs.toArray) (Draws.list hh (B + 2) e (Nat.ne_of_lt (Nat.lt_of_lt_of_le le (Nat.le_add_right _ _))) ws.toArray) s1 s2 s3 ⟨s4, pl.isList⟩ ⟨s5, pm.isList⟩ ⟨s6, pt.isList⟩ n1 n2 n3 fun x1 x2 x3 h1 tk g1 g2 g3 z1 t1 f1 f2 f3 hT hsz hk => ?_
    have q1 : x1 = x := by simpa [hx] using g1.symm
    have q2 : x2 = y := by simpa [hy] using g2.symm
    have q3 : x3 = z := by simpa [hz] using g3.symm
    subst q1 q2 q3
    refine ⟨_, rfl, wpAny_letOwnedTupleGo_zip (s := { s with heap := h1, toks := tk }) z1 fun h2 z2 sb => ?_⟩
    have hT2 : h2.get? s.heap.objs.size = some _ := (sb.2 _ (Nat.ne_of_gt zl)).trans hT
    have new : ObjOk X.prog X.w (upd H s.heap.objs.size (.tup [p, q, r])) h2 s.heap.objs.size (.tup [p, q, r]) := ⟨(by decide : 3 ≤ sizeLine), [x1, x2, x3], .cons rx (.cons ry (.cons rz .nil)), ⟨_, hT2, rfl, _, rfl⟩⟩
    have nB : ∀ {x y : Nat}, x ≠ y → (x : Addr) ≠ y := fun h => h
    have I1 : Inv X pins σ (upd H s.heap.objs.size (.tup [p, q, r])) { s with heap := h2, toks := tk } := I.turnedNew (t' := tk) (ch := [B + 5, B + 3, B + 4, B, B + 1, B + 2]) (fun x o hb e => (sb.2 x fun e' => hb (by simp [e'])).trans (hk x o (fun e' => hb (by simp [e'])) (fun e' => hb (by simp [e'])) (fun e' => hb (by simp [e'])) (fun e' => hb (by simp [e'])) (fun e' => hb (by simp [e'])) e)) hf (Nat.le_refl _) new
    refine ⟨.ref s.heap.objs.size, _, I1, rfl, ⟨_, p, q, r, rfl, I.hok.fresh (Nat.le_refl _), rfl, fun l' h' => ?_, fun m' h' => ?_, fun t' h' => ?_⟩, ⟨⟨z2, (sb.2 _ (adne (by decide))).trans (hk _ _ (adne (by decide)) (adne (by decide)) (adz (by decide)) (adne (by decide)) (adne (by decide)) s2)⟩, ⟨x1, x2, x3, (sb.2 _ (adne (by decide))).trans t1⟩, f1.1.at fun o e => (sb.2 _ (ad0 (by decide))).trans e, f2.1.at fun o e => (sb.2 _ (adne (by decide))).trans e, f3.1.at fun o e => (sb.2 _ (adne (by decide))).trans e⟩, fun x hx => ?_⟩
    · rw [I.list_inj h' hl]; exact hp
    · rw [I.list_inj h' hm]; exact hq
    · rw [I.list_inj h' ht]; exact hr
    · have lt : x < s.heap.objs.size := by
        rcases six_of hx with rfl | rfl | rfl | rfl | rfl | rfl
        · exact zl
        · exact Heap.lt_size s2
        · exact Heap.lt_size s3
        · exact s4.elim fun _ e => Heap.lt_size e.1
        · exact s5.elim fun _ e => Heap.lt_size e.1
        · exact s6.elim fun _ e => Heap.lt_size e.1
      rw [upd_ne (Nat.ne_of_lt lt)]
      exact (hf x hx).1
  · subst hP hw hK
    obtain ⟨⟨s1, s2⟩, ⟨u, v, w, s3⟩, s4, s5, s6⟩ := st
    obtain ⟨l, m, t, ⟨hl, hm, ht⟩, ⟨hl1, hm1, ht1⟩, he⟩ := hg
    obtain ⟨us, ru, pl, _⟩ := I.list hl
    obtain ⟨vs, rv, pm, _⟩ := I.list hm
    obtain ⟨ws, rw', pt, _⟩ := I.list ht
    have hh : X.A.in1.handled = none := I.ok.hd hc
    have c1 : us.toArray.size = l.length := by rw [List.size_toArray]; exact ru.length.symm
    have c2 : vs.toArray.size = m.length := by rw [List.size_toArray]; exact rv.length.symm
    have c3 : ws.toArray.size = t.length := by rw [List.size_toArray]; exact rw'.length.symm
    exact wpAny_pyNext_zipD3_end sep (Draws.list hh B a (Nat.ne_of_lt la) us.toArray) (Draws.list hh (B + 1) b (Nat.ne_of_lt (Nat.lt_succ_of_lt lb)) vs.toArray) (Draws.list hh (B + 2) e (Nat.ne_of_lt (Nat.lt_of_lt_of_le le (Nat.le_add_right _ _))) ws.toArray) s1 s2 s3 ⟨s4, pl.isList⟩ ⟨s5, pm.isList⟩ ⟨s6, pt.isList⟩ (by omega) (by omega) (by omega) (by omega) fun h1 tk hk => ⟨rfl, I.turnedL (t' := tk) (ch := [B + 5, B + 3, B + 4, B, B + 1, B + 2]) (fun x o hb e => hk x o (fun e' => hb (by simp [e'])) (fun e' => hb (by simp [e'])) (fun e' => hb (by simp [e'])) (fun e' => hb (by simp [e'])) (fun e' => hb (by simp [e'])) e) hf⟩
end CW
namespace CW
open PySem PySem.Spec PyProof.Rows L2
section
variable {C : Cf} {sc scope : Scope} {N : List Str} {k : Nat} {pos p2 p3 apos cpos : Pos} {e a b c o tg iter elt : Expr} {m ma mb mc mo : EF}
def iZip3 (K : PySem.W.Frag) (ta : TA) : TI := fun σ H R => ta σ H fun vs H1 => ∃ a b e l m t, vs = [.ref a, .ref b, .ref e] ∧ (SqL K H1 a l ∧ SqL K H1 b m ∧ SqL K H1 e t) ∧ R (Itz3 K a b e) H1
theorem pi_zip3 {X : Cx} {e1 e2 e3 : Expr} {ta : TA} {p pos tpos : Pos} {elts : List Expr} {kk : Nat} (hg : Gl X "zip") (hm : X.mg "zip" = none) (ha : PA X [e1, e2, e3] ta)
    (hs : starEach [e1, e2, e3] X.env = (false, eval e1 X.env) :: starEach [e2, e3] X.env) (hpl : (backTo pos (starEach [e2, e3] X.env)).any (·.1) = false) : PI X (.Tuple elts kk tpos) (.Call (.Name "zip" p) [e1, e2, e3] [] pos) (iZip3 X.K ta) := ⟨fun pins s σ H R I h => by
  refine Call_ (ld_blt I hg hm boot_zip (callWith_type1 (thn (ha.run pos pins s σ H _ I h) fun us s1 ⟨vs, H1, I1, r1, q1⟩ => ?_) hs hpl))
  obtain ⟨a, b, e, l, m, t, rfl, ⟨hl, hm, ht⟩, q⟩ := q1
  cases r1 with
  | cons r rr => cases rr with
    | cons r' rr => cases rr with
      | cons r'' rr =>
        cases rr; cases r; cases r'; cases r''
        obtain ⟨us, ru, pl, _⟩ := I1.list hl
        obtain ⟨vs, rv, pm, _⟩ := I1.list hm
        obtain ⟨ws, rw', pt, _⟩ := I1.list ht
        refine zip_begins3 (begins_list a us.toArray) (begins_list b vs.toArray) (begins_list e ws.toArray) pl.isList pm.isList pt.isList fun h1 z1 c1 d1 f1 f2 f3 hsz hk => wpAny_pyIter_zip z1 ?_
        have I2 : Inv X pins σ H1 { s1 with heap := h1 } := I1.kept (t' := s1.toks) hk
        refine ⟨s1.heap.objs.size + 5, [s1.heap.objs.size + 5, s1.heap.objs.size + 3, s1.heap.objs.size + 4, s1.heap.objs.size, s1.heap.objs.size + 1, s1.heap.objs.size + 2], _, _, H1, rfl, I2, turn_zip3 (B := s1.heap.objs.size) pl.lt pm.lt pt.lt, ⟨⟨z1, c1⟩, ⟨_, _, _, d1⟩, ⟨_, f1, rfl, rfl⟩, ⟨_, f2, rfl, rfl⟩, ⟨_, f3, rfl, rfl⟩⟩, fun x hx => ?_, q⟩
        have hle : s1.heap.objs.size ≤ x := by rcases six_of hx with rfl | rfl | rfl | rfl | rfl | rfl <;> first | exact Nat.le_refl _ | exact Nat.le_add_right _ _
        exact I1.fpOk hle (I1.hok.fresh hle)⟩
def zip3P : List P → List P → List P → List P
  | x :: xs, y :: ys, z :: zs => .tup [x, y, z] :: zip3P xs ys zs
  | _, _, _ => []
theorem zip3P_get : ∀ {xs ys zs : List P} {i : Nat} {u : P}, (zip3P xs ys zs)[i]? = some u → ∃ x y z, xs[i]? = some x ∧ ys[i]? = some y ∧ zs[i]? = some z ∧ u = .tup [x, y, z]
  | x :: xs, y :: ys, z :: zs, 0, u, h => ⟨x, y, z, rfl, rfl, rfl, (Option.some.inj h).symm⟩
  | x :: xs, y :: ys, z :: zs, i + 1, u, h => by
    obtain ⟨a, b, c, h1, h2, h3, h4⟩ := zip3P_get (xs := xs) (ys := ys) (zs := zs) (i := i) (u := u) (by simpa [zip3P] using h)
    exact ⟨a, b, c, by simpa using h1, by simpa using h2, by simpa using h3, h4⟩
  | [], _, _, _, _, h => by simp [zip3P] at h
  | _ :: _, [], _, _, _, h => by simp [zip3P] at h
  | _ :: _, _ :: _, [], _, _, h => by simp [zip3P] at h
theorem zip3P_len : ∀ xs ys zs : List P, (zip3P xs ys zs).length = min (min xs.length ys.length) zs.length
  | x :: xs, y :: ys, z :: zs => by
    show (zip3P xs ys zs).length + 1 = _
    rw [zip3P_len xs ys zs]
    simp only [List.length_cons]
    omega
  | [], _, _ => by simp [zip3P]
  | _ :: _, [], _ => by simp [zip3P]
  | _ :: _, _ :: _, [] => by simp [zip3P]
theorem it3_ok {a b e : Addr} {W : Wd} {H : Hp} {xs ys zs : List P} {g1 g2 g3 : Gd} (h1 : RowOk C.K a W H xs g1) (h2 : RowOk C.K b W H ys g2) (h3 : RowOk C.K e W H zs g3) : ItOk C.K (Itz3 C.K a b e) W H (zip3P xs ys zs) (g1 ++ (g2 ++ g3)) := fun W1 H1 s1 ev A1 hg i => by
  obtain ⟨k1, k2, k3⟩ : gok g1 s1 ∧ gok g2 s1 ∧ gok g3 s1 := ⟨fun z hz => hg z (List.mem_append_left _ hz), fun z hz => hg z (List.mem_append_right _ (List.mem_append_left _ hz)), fun z hz => hg z (List.mem_append_right _ (List.mem_append_right _ hz))⟩
  obtain ⟨us, u1, u2⟩ := h1 W1 H1 s1 ev A1 k1
  obtain ⟨vs, v1, v2⟩ := h2 W1 H1 s1 ev A1 k2
  obtain ⟨ws, w1, w2⟩ := h3 W1 H1 s1 ev A1 k3
  refine ⟨fun z hz => ?_, fun hi => ?_⟩
  · obtain ⟨x, y, t, hx, hy, ht, rfl⟩ := zip3P_get hz
    obtain ⟨p, g1, g2⟩ := u2.get hx
    obtain ⟨q, g3, g4⟩ := v2.get hy
    obtain ⟨r, g5, g6⟩ := w2.get ht
    refine ⟨⟨us, vs, ws, p, q, r, ⟨u1, v1, w1⟩, g1, g3, g5⟩, fun w H' hw => ?_⟩
    obtain ⟨T, p, q, r, rfl, hT, rfl, hp, hq, hr⟩ := hw
    have ev : Ev W1 H1 W1 (upd H1 T (.tup [p, q, r])) := Ev.new hT
    exact ⟨ev, .tup (SqT.of upd_same) (.cons (PV.up ev (u2.len_get hx (hp us u1))) (.cons (PV.up ev (v2.len_get hy (hq vs v1))) (.cons (PV.up ev (w2.len_get ht (hr ws w1))) .nil))), A1.new hT⟩
  · have l1 := u2.len
    have l2 := v2.len
    have l3 := w2.len
    rw [zip3P_len] at hi
    exact ⟨us, vs, ws, ⟨u1, v1, w1⟩, by omega, by omega⟩
def zp3I (ma mb mc : EF) : IF := fun ρ => bnd (ma ρ) fun x => bnd (mb ρ) fun y => bnd (mc ρ) fun z s => match rowD x s, rowD y s, rowD z s with
  | some r, some q, some t => .ok (zip3P r.1 q.1 t.1, r.2 ++ (q.2 ++ t.2)) s
  | _, _, _ => .bad
theorem i_zp3 {elts : List Expr} {kk : Nat} {tpos : Pos} (h : SE C sc N k a ma) (h' : SE C sc N k b mb) (h2' : SE C sc N k c mc) (hm : C.mg "zip" = none) (hg : GlS sc "zip" := by rfl) (hs : ∀ env, starEach [a, b, c] env = (false, eval a env) :: starEach [b, c] env := by intro _; rfl)
    (hs2 : ∀ env, starEach [b, c] env = (false, eval b env) :: starEach [c] env := by intro _; rfl) (hs3 : ∀ env, starEach [c] env = (false, eval c env) :: starEach [] env := by intro _; rfl) (hp : ∀ env, (backTo pos (starEach [b, c] env)).any (·.1) = false := by intro _; rfl) :
    SI C sc N k (.Tuple elts kk tpos) (.Call (.Name "zip" p2) [a, b, c] [] pos) (zp3I ma mb mc) := fun X ok => by
  obtain ⟨t, p, q⟩ := h X ok
  obtain ⟨t', p', q'⟩ := h' X ok
  obtain ⟨t2, p2', q2⟩ := h2' X ok
  refine ⟨_, pi_zip3 (hg.of ok) (by rw [ok.em]; exact hm) (pa_cons p (pa_cons p' (pa_cons p2' pa_nil (hs3 X.env)) (hs2 X.env)) (hs X.env)) (hs X.env) (hp X.env), fun σ H W s ρ R er A g => ?_⟩
  refine q σ H W s ρ _ er A ((Good.bnd g).mono fun d s1 z W1 H1 v e1 r1 A1 => ?_)
  refine q' σ H1 W1 s1 ρ _ (er.up e1) A1 ((Good.bnd z).mono fun d' s2 z2 W2 H2 v' e2 r2 A2 => ?_)
  refine q2 σ H2 W2 s2 ρ _ ((er.up e1).up e2) A2 ((Good.bnd z2).mono fun d'' s3 z3 W3 H3 v'' e3 r3 A3 => ?_)
  split at z3
  · rename_i r1' r2' r3' hr hq ht
    obtain ⟨xs, gd⟩ := r1'
    obtain ⟨ys, gd2⟩ := r2'
    obtain ⟨zs, gd3⟩ := r3'
    obtain ⟨a, rfl, ⟨us, h1⟩, h2⟩ := row_go ((r1.up e2).up e3) A3 hr
    obtain ⟨b, rfl, ⟨vs, h3⟩, h4⟩ := row_go (r2.up e3) A3 hq
    obtain ⟨c, rfl, ⟨ws, h5⟩, h6⟩ := row_go r3 A3 ht
    rw [ok.eK]
    exact ⟨a, b, c, us, vs, ws, rfl, ⟨h1, h3, h5⟩, z3 W3 H3 _ ((e1.trans e2).trans e3) A3 (it3_ok h2 h4 h6)⟩
  · exact z3.elim
theorem zp3I_lst {ρ : En} {s s1 s2 s3 : S} {xs ys zs : List P} (h1 : ma ρ s = .ok (.p (.lst xs)) s1) (h2 : mb ρ s1 = .ok (.p (.lst ys)) s2) (h3 : mc ρ s2 = .ok (.p (.lst zs)) s3) : zp3I ma mb mc ρ s = .ok (zip3P xs ys zs, []) s3 := by
  unfold zp3I
  rw [bnd_ev, h1, R.bind_ok, bnd_ev, h2, R.bind_ok, bnd_ev, h3, R.bind_ok]
  rfl
end
end CW

end
section
set_option maxRecDepth 100000
set_option maxHeartbeats 2000000
/-! CW, thirtieth part: dict.setdefault, dict.get with what is told else. -/
namespace CW
open PySem PySem.Spec PyProof.Rows L2
def setdE (md mk mv : EF) : EF := fun ρ => bnd (md ρ) fun x s => match dctD x s with
  | some _ => bnd (mk ρ) (fun y => bnd (mv ρ) fun z s3 => match x, dctD x s3, keyD y with
    | .obj n, some kvs, some q => if kvs.length < sizeLine then (match lookD kvs q with
      | some d => .ok d s3
      | none => .ok z (s3.set n (some (.dic (putD kvs q z))))) else .bad
    | _, _, _ => .bad) s
  | none => .bad
def getdE (md mk mv : EF) : EF := fun ρ => bnd (md ρ) fun x s => match dctD x s with
  | some _ => bnd (mk ρ) (fun y => bnd (mv ρ) fun z s3 => match dctD x s3, keyD y with
    | some kvs, some q => .ok ((lookD kvs q).getD z) s3
    | _, _ => .bad) s
  | none => .bad
section
variable {C : Cf} {sc : Scope} {N : List Str} {k : Nat} {pos p2 apos cpos : Pos} {e a b c o f : Expr} {m ma mb mc : EF}
theorem s_setd (ha : SE C sc N k o ma) (hb : SE C sc N k e mb) (hc : SE C sc N k f mc)
    (hm1 : ∀ env, attributeBase o "setdefault" env (eval o env) = eval o env := by intro _; rfl)
    (hm2 : ∀ env, ((backTo cpos (starEach [e, f] env)).all (fun x => !x.1) && (backToKw cpos (keywordEach [] env)).all (fun x => x.1.isSome) && decide (([e, f] : List Expr).length + ([] : List Keyword).length + (if ([] : List Keyword).isEmpty then 0 else 1) < 30)) = true := by intro _; rfl)
    (hm3 : (apos.endLine == cpos.line) = true := by rfl) (hm4 : ∀ env, backTo cpos (starEach [e, f] env) = [(false, eval e env), (false, eval f env)] := by intro _; rfl) :
    SE C sc N k (.Call (.Attribute o "setdefault" apos) [e, f] [] cpos) (setdE ma mb mc) := fun X ok => by
  obtain ⟨t1, p1, q1⟩ := ha X ok
  obtain ⟨t2, p2, q2⟩ := hb X ok
  obtain ⟨t3, p3, q3⟩ := hc X ok
  refine ⟨_, pe_dsetd p1 p2 p3 ⟨hm1 X.env, hm2 X.env, hm3, hm4 X.env⟩, fun σ H W s ρ Q er A g => ?_⟩
  refine q1 σ H W s ρ _ er A ((Good.bnd g).mono fun x s1 z W1 H1 v e1 r1 A1 => ?_)
  split at z
  · rename_i kvs0 hx
    obtain ⟨n, a, ws0, rfl, hs0, h30, rfl, h40, h50⟩ := dct_at r1 A1 hx
    refine ⟨a, rfl, .inl ⟨ws0, .inl h40⟩, ?_⟩
    refine q2 σ H1 W1 s1 ρ _ (er.up e1) A1 ((Good.bnd z).mono fun y s2 z2 W2 H2 u e2 r2 A2 => ?_)
    refine q3 σ H2 W2 s2 ρ _ ((er.up e1).up e2) A2 ((Good.bnd z2).mono fun d s3 z3 W3 H3 w e3 r3 A3 => ?_)
    split at z3
    · rename_i n' kvs q hn hd hq
      cases hn
      split at z3
      · rename_i hl
        obtain ⟨n', a', ws, hn, hs, h3, hv, h4, h5⟩ := dct_at ((r1.up e2).up e3) A3 hd
        cases hn
        cases hv
        have hy := key_rel (r2.up e3) hq
        subst hy
        refine ⟨ws, q, h4, rfl, by rw [Paired.length h5]; exact hl, fun v hv => ?_, fun hv => ?_⟩
        · cases ek : lookD kvs q with
          | none =>
            have := (KD.look h5).1 ek
            rw [hv] at this
            cases this
          | some d' =>
            rw [ek] at z3
            obtain ⟨v', h6, h7⟩ := (KD.look h5).2 d' ek
            rw [hv] at h6
            cases h6
            exact z3 W3 H3 v ((e1.trans e2).trans e3) h7 A3
        · cases ek : lookD kvs q with
          | some d' =>
            obtain ⟨v', h6, h7⟩ := (KD.look h5).2 d' ek
            rw [hv] at h6
            cases h6
          | none =>
            rw [ek] at z3
            have ev : Ev W3 H3 W3 (upd H3 a (.dK (putK ws q w))) := Ev.put (o' := .dic []) A3 hs h3
            exact z3 W3 _ _ (((e1.trans e2).trans e3).trans ev) (r3.up ev) (A3.put hs h3 ⟨_, upd_same, ((h5.up ev).put (r3.up ev))⟩)
      · exact z3.elim
    · exact z3.elim
  · exact z.elim
theorem s_getd (ha : SE C sc N k o ma) (hb : SE C sc N k e mb) (hc : SE C sc N k f mc)
    (hm1 : ∀ env, attributeBase o "get" env (eval o env) = eval o env := by intro _; rfl)
    (hm2 : ∀ env, ((backTo cpos (starEach [e, f] env)).all (fun x => !x.1) && (backToKw cpos (keywordEach [] env)).all (fun x => x.1.isSome) && decide (([e, f] : List Expr).length + ([] : List Keyword).length + (if ([] : List Keyword).isEmpty then 0 else 1) < 30)) = true := by intro _; rfl)
    (hm3 : (apos.endLine == cpos.line) = true := by rfl) (hm4 : ∀ env, backTo cpos (starEach [e, f] env) = [(false, eval e env), (false, eval f env)] := by intro _; rfl) :
    SE C sc N k (.Call (.Attribute o "get" apos) [e, f] [] cpos) (getdE ma mb mc) := fun X ok => by
  obtain ⟨t1, p1, q1⟩ := ha X ok
  obtain ⟨t2, p2, q2⟩ := hb X ok
  obtain ⟨t3, p3, q3⟩ := hc X ok
  refine ⟨_, pe_dget2 (hu_of ok.rm) p1 p2 p3 ⟨hm1 X.env, hm2 X.env, hm3, hm4 X.env⟩, fun σ H W s ρ Q er A g => ?_⟩
  refine q1 σ H W s ρ _ er A ((Good.bnd g).mono fun x s1 z W1 H1 v e1 r1 A1 => ?_)
  split at z
  · rename_i kvs0 hx
    obtain ⟨n, a, ws0, rfl, hs0, h30, rfl, h40, h50⟩ := dct_at r1 A1 hx
    refine ⟨a, rfl, .inl ⟨ws0, .inl h40⟩, ?_⟩
    refine q2 σ H1 W1 s1 ρ _ (er.up e1) A1 ((Good.bnd z).mono fun y s2 z2 W2 H2 u e2 r2 A2 => ?_)
    refine q3 σ H2 W2 s2 ρ _ ((er.up e1).up e2) A2 ((Good.bnd z2).mono fun d s3 z3 W3 H3 w e3 r3 A3 => ?_)
    split at z3
    · rename_i kvs q hd hq
      obtain ⟨n', a', ws, hn, hs, h3, hv, h4, h5⟩ := dct_at ((r1.up e2).up e3) A3 hd
      cases hn
      cases hv
      have hy := key_rel (r2.up e3) hq
      subst hy
      refine ⟨valV ws q, DGet.k h4, ?_⟩
      cases ek : lookD kvs q with
      | none =>
        rw [ek] at z3
        rw [(KD.look h5).1 ek]
        exact z3 W3 H3 w ((e1.trans e2).trans e3) r3 A3
      | some d' =>
        rw [ek] at z3
        obtain ⟨v', h6, h7⟩ := (KD.look h5).2 d' ek
        rw [h6]
        exact z3 W3 H3 v' ((e1.trans e2).trans e3) h7 A3
    · exact z3.elim
  · exact z.elim
/-- is True -/
def isB (neg : Bool) (x y : D) : M D := fun s => match x, y with
  | .p (.bl a), .p (.bl b) => .ok (.p (.bl (if neg = true then !decide (a = b) else decide (a = b)))) s
  | _, _ => .bad
@[simp] theorem isB_ev (neg a b : Bool) (s : S) : isB neg (.p (.bl a)) (.p (.bl b)) s = .ok (.p (.bl (if neg = true then !decide (a = b) else decide (a = b)))) s := rfl
theorem o_isB : OpS C k (compareOp .Is) (isB false) := fun X ok => ⟨_, op_isBl, fun W s H x y dx dy Q rx ry A g => by
  unfold isB at g
  split at g
  · rename_i a b
    cases rx
    cases ry
    exact ⟨a, b, rfl, rfl, g W H _ Ev.rfl (PV.bl _) A⟩
  · exact g.elim⟩
theorem o_isnotB : OpS C k (compareOp .IsNot) (isB true) := fun X ok => ⟨_, op_notBl, fun W s H x y dx dy Q rx ry A g => by
  unfold isB at g
  split at g
  · rename_i a b
    cases rx
    cases ry
    exact ⟨a, b, rfl, rfl, g W H _ Ev.rfl (PV.bl _) A⟩
  · exact g.elim⟩
/-- sorted of a list of whole numbers -/
def srtD (fr : Bool) : List D → M D := fun ds s => match ds with
  | [d] => match its d s with
    | some xs => match intsOf xs with
      | some is => mkL fr ((is.mergeSort (fun a b => decide (a ≤ b))).map P.int) s
      | none => .bad
    | none => .bad
  | _ => .bad
theorem pvs_ints {K : PySem.W.Frag} {F : Addr → Prop} {H : Hp} : ∀ is : List Int, PVs K F H (is.map V.int) (is.map P.int)
  | [] => .nil
  | i :: is => .cons (PV.int _) (pvs_ints is)
theorem isort_eq {is js : List Int} (h : js.Perm is) (hp : js.Pairwise (· ≤ ·)) : is.mergeSort (fun a b => decide (a ≤ b)) = js := by
  have h1 : (is.mergeSort (fun a b => decide (a ≤ b))).Pairwise (· ≤ ·) := by
    have := List.pairwise_mergeSort (le := fun a b : Int => decide (a ≤ b)) (fun a b c h1 h2 => by simp at *; omega) (fun a b => by simp; omega) is
    exact this.imp fun h => of_decide_eq_true h
  exact List.Perm.eq_of_pairwise (fun a b _ _ h1 h2 => by omega) h1 hp ((List.mergeSort_perm _ _).trans h.symm)
theorem c_srt (fr : Bool) : CaS C k (.builtin "sorted") (srtD fr) := fun X ok => ⟨_, cr_sortedI, fun W s H xs ds Q r A g => by
  rw [ok.eK]
  unfold srtD at g
  split at g
  · split at g
    · rename_i ys hx
      split at g
      · rename_i is hi
        obtain ⟨x, rfl, h⟩ := dvs1 r
        obtain ⟨a, vs, rfl, h1, h2⟩ := its_sq h A hx
        have e := intsOf_eq hi
        subst e
        have e2 := h2.int_eq
        subst e2
        refine ⟨a, is, rfl, h1, fun js p hp hs ho => ?_⟩
        rw [isort_eq hp hs] at g
        exact mkL_go Ev.rfl A (pvs_ints js) g ho
      · exact g.elim
    · exact g.elim
  · exact g.elim⟩
theorem srt_ev {is js : List Int} {s : S} (h : js.Perm is) (hp : js.Pairwise (· ≤ ·)) : srtD true [.p (.lst (is.map P.int))] s = .ok (.p (.lst (js.map P.int))) s := by
  show (match intsOf (is.map P.int) with
    | some is => mkL true ((is.mergeSort (fun a b => decide (a ≤ b))).map P.int) s
    | none => .bad) = _
  rw [intsOf_map]
  dsimp only
  rw [isort_eq h hp, mkL_true]
variable {ρ : En} {s s1 s2 s3 : S} {n : Nat} {kvs : List (Key × D)} {y z d : D} {q : Key}
theorem setdE_there (h1 : ma ρ s = .ok (.obj n) s1) (h0 : (dctD (.obj n) s1).isSome = true) (h2 : mb ρ s1 = .ok y s2) (h3 : mc ρ s2 = .ok z s3) (h4 : dctD (.obj n) s3 = some kvs) (h5 : keyD y = some q) (h6 : kvs.length < sizeLine) (h7 : lookD kvs q = some d) : setdE ma mb mc ρ s = .ok d s3 := by
  unfold setdE
  rw [bnd_ev, h1, R.bind_ok]
  cases e : dctD (.obj n) s1 with
  | none =>
    rw [e] at h0
    cases h0
  | some _ =>
    dsimp only
    rw [bnd_ev, h2, R.bind_ok, bnd_ev, h3, R.bind_ok, h4, h5]
    dsimp only
    rw [if_pos h6, h7]
theorem setdE_new (h1 : ma ρ s = .ok (.obj n) s1) (h0 : (dctD (.obj n) s1).isSome = true) (h2 : mb ρ s1 = .ok y s2) (h3 : mc ρ s2 = .ok z s3) (h4 : dctD (.obj n) s3 = some kvs) (h5 : keyD y = some q) (h6 : kvs.length < sizeLine) (h7 : lookD kvs q = none) : setdE ma mb mc ρ s = .ok z (s3.set n (some (.dic (putD kvs q z)))) := by
  unfold setdE
  rw [bnd_ev, h1, R.bind_ok]
  cases e : dctD (.obj n) s1 with
  | none =>
    rw [e] at h0
    cases h0
  | some _ =>
    dsimp only
    rw [bnd_ev, h2, R.bind_ok, bnd_ev, h3, R.bind_ok, h4, h5]
    dsimp only
    rw [if_pos h6, h7]
theorem getdE_ev (h1 : ma ρ s = .ok (.obj n) s1) (h0 : (dctD (.obj n) s1).isSome = true) (h2 : mb ρ s1 = .ok y s2) (h3 : mc ρ s2 = .ok z s3) (h4 : dctD (.obj n) s3 = some kvs) (h5 : keyD y = some q) : getdE ma mb mc ρ s = .ok ((lookD kvs q).getD z) s3 := by
  unfold getdE
  rw [bnd_ev, h1, R.bind_ok]
  cases e : dctD (.obj n) s1 with
  | none =>
    rw [e] at h0
    cases h0
  | some _ =>
    dsimp only
    rw [bnd_ev, h2, R.bind_ok, bnd_ev, h3, R.bind_ok, h4, h5]
end
end CW

end
section
set_option maxRecDepth 100000
set_option maxHeartbeats 2000000
/-! CW, thirty-first part: the field of a kept exception; tests in a try's body. -/
namespace CW
open PySem PySem.Spec PyProof.Rows L2
def fldD (cs : List Str) (n : Str) : D → M D := fun d s => match d with
  | .p (.exf c f x) => if cs.contains c = true ∧ f = n then .ok (.p x) s else .bad
  | _ => .bad
/-- what the top says of the classes whose instances' field n is read -/
def FldT (K : PySem.W.Frag) (cs : List Str) (n : Str) : Prop := ∀ c A, cs.contains c = true → NmC K c A → XfC K A ∧ PySem.W.findIn K (.ref A) n = some none
def tFld (K : PySem.W.Frag) (n : Str) (te : TE) : TE := fun σ H Q => te σ H fun x H1 => ∃ (a A dd : Addr) (fs : List (Str × V)) (v : V), x = .ref a ∧ H1 a = some (ExO a A (some dd)) ∧ XfC K A ∧ PySem.W.findIn K (.ref A) n = some none ∧ H1 dd = some (.xd fs) ∧ fs.lookup n = some v ∧ Q v H1
theorem pe_fld {X : Cx} {e : Expr} {te : TE} {pos : Pos} {n : Str} (he : PE X e te) (hb : attributeBase e n X.env (eval e X.env) = eval e X.env) :
    PE X (.Attribute e n pos) (tFld X.K n te) := by
  refine ⟨fun pins s σ H Q I h => ?_⟩
  refine attr_of hb (thn (he.run pins s σ H _ I h) fun u s1 hh => ?_)
  obtain ⟨x, H1, I1, rx, a, A, dd, fs, v, ex, ha, T, hno, ea, l, q⟩ := hh
  subst ex
  obtain rfl : u = Value.ref a := rx
  obtain ⟨⟨o, rows, g1, g2, g3, g4⟩, -, -⟩ := (I1.hok a _ ha : ObjOk X.prog X.w H1 s1.heap a (ExO a A (some dd)))
  have hx : ObjOk X.prog X.w H1 s1.heap dd (.xd fs) := I1.hok dd _ ea
  obtain ⟨mA, hns, hr⟩ := hx
  obtain ⟨od, ho, hl⟩ := lookIn_ns hns
  obtain ⟨u, hu, ru⟩ := RelO.some_of (v := v) (o := mA n) (by rw [← l]; exact hr n)
  have J : PySem.W.InstAt s1.heap a o A (some od) := ⟨g1, g2, by unfold PySem.W.notCls; rw [g4] <;> rfl, by rw [g3]; exact ho⟩
  exact HandSPX.exc_get I1.kIn J T.ga T.gg T.exC (PySem.W.findObj_own T.hdC hno rfl (by rw [hl, hu])) (handed_of ru) ⟨v, H1, I1.tok _, ru, q⟩
section
variable {C : Cf} {sc : Scope} {N : List Str} {k : Nat} {pos p2 : Pos} {e c : Expr} {m : EF} {I : Wd → Hp → Prop} {f g : SF}
theorem s_fld {n : Str} {cs : List Str} (T : FldT C.K cs n) (h : SE C sc N k e m) (hb : ∀ env, attributeBase e n env (eval e env) = eval e env := by intro _; rfl) : SE C sc N k (.Attribute e n pos) (op1 (fldD cs n) m) := fun X ok => by
  obtain ⟨t, p, q⟩ := h X ok
  refine ⟨_, pe_fld p (hb X.env), fun σ H W s ρ Q er A g => ?_⟩
  refine q σ H W s ρ _ er A ((Good.bnd g).mono fun d s1 z W1 H1 v e1 r1 A1 => ?_)
  unfold fldD at z
  split at z
  · rename_i cn f x
    split at z
    · rename_i hc
      obtain ⟨h1, h2⟩ := hc
      subst h2
      cases r1 with
      | exf nm fr ha f2 hd r2 =>
      obtain ⟨T1, T2⟩ := T _ _ h1 nm
      exact ⟨_, _, _, _, _, rfl, ha, by rw [ok.eK]; exact T1, by rw [ok.eK]; exact T2, hd, by simp, z W1 H1 _ e1 r2 A1⟩
    · exact z.elim
  · exact z.elim
theorem si_if {ys ns : List Stmt} {t : TF} (hc : ST C sc N k c t) (hy : ∀ X WW pn xe, Cod C sc N k X → PassesOwn (model X.prog X.w) X.A X.env xe → Takes (X.tr pn xe) WW → ∃ t, PSs (X.tr pn xe) ys t ∧ ∀ D σ H W s ρ, I W H → ER C W H σ ρ → Abs C.K W s H → GoodX (f ρ s) (PoF C W H D) (PoE C.K W H fun c d H' => WW c d σ H') → t D σ H)
    (hn : ∀ X WW pn xe, Cod C sc N k X → PassesOwn (model X.prog X.w) X.A X.env xe → Takes (X.tr pn xe) WW → ∃ t, PSs (X.tr pn xe) ns t ∧ ∀ D σ H W s ρ, I W H → ER C W H σ ρ → Abs C.K W s H → GoodX (g ρ s) (PoF C W H D) (PoE C.K W H fun c d H' => WW c d σ H') → t D σ H) (up : UpI I) : SSi I C sc N k (.If c ys ns pos) (iffF (noX t) f g) := fun X WW pn xe ok po tk => by
  obtain ⟨t, p, q⟩ := hc (X.tr pn xe) (ok.toCok.tr po)
  obtain ⟨u, p', q'⟩ := hy X WW pn xe ok po tk
  obtain ⟨v, p2, q2⟩ := hn X WW pn xe ok po tk
  refine ⟨_, ps_if p p' p2, fun D σ H W s ρ i er A G => ?_⟩
  refine q σ H W s ρ _ er A ((nox_good (GoodX.bnd G)).mono fun c s1 h1 W1 H1 e1 A1 => ?_)
  cases c with
  | true => exact iteT (q' D σ H1 W1 s1 ρ (up _ _ _ _ e1 i) (er.up e1) A1 (GoodX.mono h1 (fun _ _ z => z.up e1) fun _ _ z => z.up e1))
  | false => exact iteF (q2 D σ H1 W1 s1 ρ (up _ _ _ _ e1 i) (er.up e1) A1 (GoodX.mono h1 (fun _ _ z => z.up e1) fun _ _ z => z.up e1))
/-- a built-in call of what may raise -/
def noM (g : List D → M D) : List D → M D := fun ds s => R.nox (g ds s)
@[simp] theorem noM_ev (g : List D → M D) (ds : List D) (s : S) : noM g ds s = R.nox (g ds s) := rfl
theorem ex_bf {x : Str} {id : String} {es : List Expr} {ms : List EF} {g : List D → M D} (hc : CaS C k (.builtin id) g) (hm : C.mg x = none) (hv : bootBuiltins x = some (.builtin id)) (ha : SAXs C sc N k (e :: es) ms) (hg : GlS sc x := by rfl) (hn : x ≠ "__name__" := by decide) (hd : (x == ("__debug__" : Str)) = false := by decide)
    (he : ∀ env, starEach (e :: es) env = (false, eval e env) :: starEach es env := by intro _; rfl) (hp : ∀ env, (backTo pos (starEach es env)).any (·.1) = false := by intro _; rfl) :
    SEX C sc N k (.Call (.Name x p2) (e :: es) [] pos) (calE (noM g) ms) := fun X WW ok tk => by
  obtain ⟨t, p, q⟩ := ha X WW ok tk
  obtain ⟨r, h1, h2⟩ := hc X ok.toOkx
  refine ⟨_, pe_callB h1 (hg.of ok) (by rw [ok.em]; exact hm) hv p hn hd (he X.env) (hp X.env), fun σ H W s ρ Q er A g => ?_⟩
  refine q σ H W s ρ _ er A ((GoodX.bnd g).mono (fun ds s1 z W1 H1 vs e1 r1 A1 => ?_) fun c s1 w => w)
  exact h2 W1 s1 H1 vs ds Q r1 A1 (Good.mono (nox_good z) fun _ _ w => w.up e1)
/-- a block of one statement -/
theorem si_one {st : Stmt} (h : SSi I C sc N k st f) : ∀ X WW pn xe, Cod C sc N k X → PassesOwn (model X.prog X.w) X.A X.env xe → Takes (X.tr pn xe) WW → ∃ t, PSs (X.tr pn xe) [st] t ∧ ∀ D σ H W s ρ, I W H → ER C W H σ ρ → Abs C.K W s H → GoodX (f ρ s) (PoF C W H D) (PoE C.K W H fun c d H' => WW c d σ H') → t D σ H := fun X WW pn xe ok po tk => by
  obtain ⟨t, p, q⟩ := h X WW pn xe ok po tk
  exact ⟨_, pss_one p, q⟩
end
theorem fldt_mk {K : PySem.W.Frag} {cs : List Str} {n : Str} (h : AllP (fun c => ∃ A, NmC K c A ∧ XfC K A ∧ PySem.W.findIn K (.ref A) n = some none) cs) : FldT K cs n := fun c A hc hn => by
  obtain ⟨B, h1, h2⟩ := h.mem c (List.contains_iff_mem.mp hc)
  rw [hn.uni h1]
  exact h2
theorem isx_clsF {sub : Str → Str → Option Bool} {subB : Str → String → Option Bool} {c f t : Str} {x : P} {b : Bool} {s : S} (h : sub c t = some b) : isxD sub subB [.p (.exf c f x), .p (.cls t)] s = .ok (.p (.bl b)) s := by
  have e : isxD sub subB [.p (.exf c f x), .p (.cls t)] s = (match sub c t with | some b => .ok (.p (.bl b)) s | none => .bad) := rfl
  rw [e, h]
theorem isx_tyF {sub : Str → Str → Option Bool} {subB : Str → String → Option Bool} {c f : Str} {t : String} {x : P} {b : Bool} {s : S} (h : subB c t = some b) : isxD sub subB [.p (.exf c f x), .p (.ty t)] s = .ok (.p (.bl b)) s := by
  have e : isxD sub subB [.p (.exf c f x), .p (.ty t)] s = (match subB c t with | some b => .ok (.p (.bl b)) s | none => .bad) := rfl
  rw [e, h]
@[simp] theorem isN3_exf (g : Bool) (c f : Str) (x : P) (s : S) : isN g (.p (.exf c f x)) (.p .non) s = .ok (.p (.bl g)) s := rfl
@[simp] theorem fldD_ev (cs : List Str) (n c f : Str) (x : P) (s : S) : fldD cs n (.p (.exf c f x)) s = if cs.contains c = true ∧ f = n then .ok (.p x) s else .bad := rfl
@[simp] theorem raiX_ev (c f : Str) (m : EF) (ρ : En) (s : S) : raiX c f m ρ s = R.bind (R.nox (m ρ s)) fun d s1 => match d with
    | .p x => .exn ⟨c, some (f, x)⟩ s1
    | .obj _ => .bad := by
  unfold raiX bnd
  rw [noX_ev]
  cases m ρ s with
  | ok d s1 => cases d <;> rfl
  | bad => rfl
  | exn c s1 => rfl
end CW

end
section
set_option maxRecDepth 100000
set_option maxHeartbeats 2000000
/-! CW, thirty-second part: the values of a dict, gone through; the dict is put away thereby. -/
namespace CW
open PySem PySem.Spec PyProof.Rows L2
def tLockE (te : TE) : TE := fun σ H Q => te σ H fun x H1 => ∃ (a : Addr) (kvs : List (Key × V)), x = .ref a ∧ H1 a = some (.dK kvs) ∧ ∀ od, Q x (upd H1 a (.frz od (.dK kvs)))
theorem pe_lockE {X : Cx} {e : Expr} {te : TE} (h : PE X e te) : PE X e (tLockE te) := ⟨fun pins s σ H Q I w => thn (h.run pins s σ H _ I w) fun u s1 hh => by
  obtain ⟨x, H1, I1, rx, a, kvs, ex, ha, q⟩ := hh
  obtain ⟨od, J⟩ := I1.lock ha trivial
  exact ⟨x, _, J, rx, q od⟩⟩
section
variable {K : PySem.W.Frag} {W : Wd} {H : Hp} {s : S} {n : Nat} {a : Addr} {o : O} {kvs : List (Key × V)} {od : Obj}
theorem Ev.lock (A : Abs K W s H) (hn : s[n]? = some (some o)) (ha : W.io[n]? = some a) (h : H a = some (.dK kvs)) : Ev W H W (upd H a (.frz od (.dK kvs))) := by
  obtain ⟨b, h1, h2, h3⟩ := A.ob n o hn
  rw [ha] at h1
  cases h1
  have hm : a ∈ W.io := List.mem_of_getElem? ha
  have n1 : ∀ b, W.fr b → b ≠ a := fun b hb z => h2 (by rw [← z]; exact hb)
  have n2 : ∀ b, W.pv b → b ≠ a := fun b hb z => (A.pd b hb).2.2 (by rw [z]; exact hm)
  exact ⟨⟨[], by simp⟩, fun _ h => h, fun b o hb e => by rw [upd_ne (n1 b hb)]; exact e, fun b xs e => by rw [upd_ne (fun z => by rw [z, h] at e; cases e)]; exact e,
    fun b o u e => by rw [upd_ne (fun z => by rw [z, h] at e; cases e)]; exact e, fun _ h => h, fun b o hb e => by rw [upd_ne (n2 b hb)]; exact e, _root_.rfl⟩
theorem Abs.lock (A : Abs K W s H) (hn : s[n]? = some (some o)) (ha : W.io[n]? = some a) (h : H a = some (.dK kvs)) : Abs K W (s.set n none) (upd H a (.frz od (.dK kvs))) := by
  have ev := Ev.lock (od := od) A hn ha h
  have hm : a ∈ W.io := List.mem_of_getElem? ha
  have hl : n < s.length := (List.getElem?_eq_some_iff.mp hn).1
  obtain ⟨b, h1, h2, h3⟩ := A.ob n o hn
  rw [ha] at h1
  cases h1
  refine ⟨by rw [List.length_set]; exact A.len, A.nd, fun b hb => ?_, fun b hb => ?_, fun m q hq => ?_, fun b hb => ⟨?_, (A.pd b hb).2⟩, fun q hq => ?_, fun b ps hb => ?_⟩
  · by_cases e : b = a
    · rw [e, upd_same]
      exact fun z => nomatch z
    · rw [upd_ne e]
      exact A.tr b hb
  · rw [upd_ne (fun z => h2 (by rw [← z]; exact hb))]
    exact A.ft b hb
  · by_cases e : m = n
    · subst e
      rw [List.getElem?_set_self hl] at hq
      cases hq
    · rw [List.getElem?_set_ne (Ne.symm e)] at hq
      obtain ⟨b, g1, g2, g3⟩ := A.ob m q hq
      have ne : b ≠ a := fun z => e (nd_ix A.nd g1 (by rw [z]; exact ha))
      exact ⟨b, g1, g2, OV.up ev (upd_ne ne) g3⟩
  · obtain ⟨vs, e⟩ := (A.pd b hb).1
    exact ⟨vs, by rw [upd_ne (fun z => (A.pd b hb).2.2 (by rw [z]; exact hm))]; exact e⟩
  · obtain ⟨ps, p1, p2, p3⟩ := A.tt q hq
    refine ⟨ps, ?_, p2, fun pos cv hc => ?_⟩
    · rw [upd_ne fun z => h3.ne_tbl (z ▸ p1)]
      exact p1
    · obtain ⟨c, c1, c2⟩ := p3 pos cv hc
      exact ⟨c, c1, by rw [upd_ne fun z => h3.ne_ext (z ▸ c2)]; exact c2⟩
  · by_cases e : b = a
    · rw [e, upd_same] at hb
      cases hb
    · rw [upd_ne e] at hb
      exact A.tn b ps hb
end
def valsP : List (Key × D) → Option (List P)
  | [] => some []
  | (_, .p x) :: r => (valsP r).map (x :: ·)
  | (_, .obj _) :: _ => none
def valI (m : EF) : IF := fun ρ => bnd (m ρ) fun x s => match x, dctD x s with
  | .obj n, some kvs => match valsP kvs with
    | some xs => .ok (xs, []) (s.set n none)
    | none => .bad
  | _, _ => .bad
section
variable {C : Cf} {sc : Scope} {N : List Str} {k : Nat} {apos cpos : Pos} {e tg : Expr} {m : EF}
theorem vals_get {W : Wd} {H : Hp} : ∀ {ws : List (Key × V)} {kvs : List (Key × D)} {xs : List P}, KD C.K W H ws kvs → valsP kvs = some xs → xs.length = ws.length ∧ ∀ (i : Nat) (x : P), xs[i]? = some x → ∃ (q : Key) (v : V), ws[i]? = some (q, v) ∧ PV C.K W.fr H v x
  | _, _, _, .nil, e => by
    cases e
    exact ⟨rfl, fun i x h => by simp at h⟩
  | (q, v) :: ws, (q', .obj n) :: kvs, xs, .cons h r, e => by cases e
  | (q, v) :: ws, (q', .p y) :: kvs, xs, .cons h r, e => by
    unfold valsP at e
    cases e1 : valsP kvs with
    | none =>
      rw [e1] at e
      cases e
    | some zs =>
      rw [e1] at e
      cases e
      obtain ⟨l, g⟩ := vals_get r e1
      refine ⟨by simp [l], fun i x hx => ?_⟩
      cases i with
      | zero =>
        simp at hx
        subst hx
        exact ⟨q, v, rfl, h.2⟩
      | succ i => exact g i x (by simpa using hx)
theorem i_vals (h : SE C sc N k e m) (hb : ∀ env, attributeBase e "values" env (eval e env) = eval e env := by intro _; rfl) (hl : (apos.endLine == cpos.line) = true := by rfl) : SI C sc N k tg (.Call (.Attribute e "values" apos) [] [] cpos) (valI m) := fun X ok => by
  obtain ⟨t, p, q⟩ := h X ok
  refine ⟨_, pi_values (pe_lockE p) (hb X.env) hl, fun σ H W s ρ R er A g => ?_⟩
  refine q σ H W s ρ _ er A ((Good.bnd g).mono fun x s1 z W1 H1 v e1 r1 A1 => ?_)
  split at z
  · rename_i n kvs hd
    split at z
    · rename_i xs hx
      obtain ⟨n', a, ws, hn, hs, ha, rfl, h4, h5⟩ := dct_at r1 A1 hd
      cases hn
      refine ⟨a, ws, rfl, h4, fun od => ⟨a, od, ws, rfl, upd_same, ?_⟩⟩
      have ev := Ev.lock (od := od) A1 hs ha h4
      refine z W1 _ _ (e1.trans ev) (A1.lock hs ha h4) ?_
      obtain ⟨l, gt⟩ := vals_get h5 hx
      intro W2 H2 s2 e2 A2 _ i
      have hz : H2 a = some (.frz od (.dK ws)) := e2.zk _ _ _ upd_same
      refine ⟨fun y hy => ?_, fun hi => ?_⟩
      · obtain ⟨kq, v, hw, hv⟩ := gt i y hy
        have hi : i < ws.length := (List.getElem?_eq_some_iff.mp hw).1
        refine ⟨⟨hz, hi⟩, fun v' H' hy' => ?_⟩
        obtain ⟨rfl, kq', hw'⟩ := hy'
        rw [hw] at hw'
        cases hw'
        exact ⟨Ev.rfl, PV.up (ev.trans e2) hv, A2⟩
      · have hi' : xs.length = i := hi
        exact ⟨hz, by omega⟩
    · exact z.elim
  · exact z.elim
end
end CW

end
section
set_option maxRecDepth 100000
set_option maxHeartbeats 2000000
/-! CW, thirty-third part: a told tuple that holds a changing thing. -/
namespace CW
open PySem PySem.Spec PyProof.Rows L2
def tplAt (d : D) (s : S) : Option (List D) := match d with
  | .obj n => match s[n]? with
    | some (some (.tpl ds)) => some ds
    | _ => none
  | _ => none
section
variable {C : Cf} {sc : Scope} {N : List Str} {k : Nat} {pos p2 pt : Pos} {e : Expr} {m : EF} {es ts : List Expr} {ms : List EF}
theorem tplAt_obj {W : Wd} {H : Hp} {s : S} {v : V} {d : D} {ds : List D} (r : DV C.K W H v d) (A : Abs C.K W s H) (h : tplAt d s = some ds) : ∃ a vs, v = .ref a ∧ H a = some (.tup vs) ∧ DVs C.K W H vs ds := by
  unfold tplAt at h
  split at h
  · rename_i n
    split at h
    · rename_i qs hs
      cases h
      obtain ⟨a, h4, rfl⟩ := r
      obtain ⟨a', h5, _, vs, h6, h7⟩ := A.ob n _ hs
      rw [h4] at h5
      cases h5
      exact ⟨a, vs, rfl, h6, h7⟩
    · cases h
  · cases h
/-- a tuple of any values, told -/
def newT (ds : List D) : M D := fun s => .ok (.obj s.length) (s ++ [some (.tpl ds)])
def tplE (ms : List EF) : EF := fun ρ => bnd (evA ms ρ) newT
theorem s_tpl {x1} (h : SAs C sc N k es ms) (hl : ms.length ≤ sizeLine := by decide) : SE C sc N k (.Tuple es x1 pos) (tplE ms) := fun X ok => by
  obtain ⟨t, p, q⟩ := h X ok
  refine ⟨_, pe_tup p, fun σ H W s ρ Q er A g => ?_⟩
  refine q σ H W s ρ _ er A (g.bnd.len.mono fun ds s1 ⟨z, h1⟩ W1 H1 vs e1 r1 A1 => ?_)
  refine ⟨by rw [Paired.length r1, z]; exact hl, fun o ho => ?_⟩
  have ev : Ev W1 H1 (W1.add o) (upd H1 o (.tup vs)) := Ev.add ho
  exact h1 _ _ _ (e1.trans ev) ⟨o, A1.nobj ho, rfl⟩ (A1.add ho ⟨vs, upd_same, DVs.up ev r1⟩)
/-- .. and taken apart -/
def utpF (n : Nat) (m : EF) (g : List D → En → M En) : SF := fun ρ => bnd (m ρ) fun d s => match tplAt d s with
  | some ds => if ds.length = n then bnd (g ds ρ) (fun ρ' => ret (.nx ρ')) s else .bad
  | none => .bad
theorem x_utp {j n : Nat} {g : List D → En → M En} {pl : List Nat} (he : SE C sc N k e m) (hg : SGD C sc N k ts g pl) (hs : ∀ env : Env, env.scope = sc → swapsWithSole [.Tuple ts j pt] e pos.line env = pure false := by intro _ _; rfl)
    (hw : ∀ env : Env, env.scope = sc → swappedStores [.Tuple ts j pt] e env = pure none := by intro env h; cases env; cases h; rfl)
    (hn : ∀ env, (assignEach ts env).length = n := by intro _; rfl) (hst : ∀ env, (assignEach ts env).findIdx? (·.1) = none := by intro _; rfl)
    (h1 : ∀ env, (assignEach [.Tuple ts j pt] env).map (·.2) = [assign (.Tuple ts j pt) env] := by intro _; rfl) : SS C sc N k (.Assign [.Tuple ts j pt] e pos) (utpF n m g) := fun X ok => by
  obtain ⟨t, p, q⟩ := he X ok.toCok
  obtain ⟨u, p', q'⟩ := hg X ok.toCok
  refine ⟨_, ps_asg p (pg_tup ok.calm p' (hn X.env) (hst X.env)) (hs X.env ok.eS) (hw X.env ok.eS) (h1 X.env), fun D σ H W s ρ er A g => ?_⟩
  rw [ok.eK]
  refine q σ H W s ρ _ er A ((Good.bnd g).mono fun d s1 h2 W1 H1 v e1 r1 A1 => ?_)
  split at h2
  · rename_i ds hd
    split at h2
    · rename_i hl
      obtain ⟨a, vs, rfl, hh, r2⟩ := tplAt_obj r1 A1 hd
      refine ⟨_, _, rfl, SqT.of hh, by rw [Paired.length r2, hl], ?_⟩
      refine q' _ _ σ _ W1 s1 ρ _ r2 (er.up e1) A1 ((Good.bnd h2).mono fun ρ' s2 z2 W2 H2 σ2 e2 er2 A2 _ => ?_)
      exact z2 W2 H2 σ2 (e1.trans e2) er2 A2
    · exact h2.elim
  · exact h2.elim
end
/-! ### as equations -/
section
variable {s : S} {ρ : En} {m : EF} {ms : List EF} {n : Nat} {g : List D → En → M En}
@[simp] theorem tplE_ev : tplE ms ρ s = R.bind (evA ms ρ s) newT := by
  unfold tplE
  rw [bnd_ev]
theorem newT_ev (ds : List D) : newT ds s = .ok (.obj s.length) (s ++ [some (.tpl ds)]) := rfl
theorem utpF_ev {s1 : S} {a : Nat} {ds : List D} (h1 : m ρ s = .ok (.obj a) s1) (h2 : s1[a]? = some (some (.tpl ds))) (h3 : ds.length = n) : utpF n m g ρ s = R.bind (g ds ρ s1) fun ρ' s2 => .ok (.nx ρ') s2 := by
  unfold utpF
  rw [bnd_ev, h1, R.bind_ok]
  have hr : tplAt (.obj a) s1 = some ds := by
    unfold tplAt
    try dsimp only
    rw [h2]
  rw [hr]
  try dsimp only
  rw [if_pos h3, bnd_ev]
  congr
end
end CW

end
section
set_option maxRecDepth 100000
set_option maxHeartbeats 2000000
/-! plain: fractions -/
namespace CW
open PySem PySem.Spec PyProof.Rows L2
/-- a fraction as the program writes it -/
def fq (q : Rat) : P := if q.den = 1 then .int q.num else .tup [.int q.num, .int q.den]
/-- both numbers lie below 2 ^ b -/
def sz (q : Rat) (b : Nat) : Prop := q.num.natAbs < 2 ^ b ∧ q.den < 2 ^ b
def szi (i : Int) (b : Nat) : Prop := i.natAbs < 2 ^ b
instance (i : Int) (b : Nat) : Decidable (szi i b) := inferInstanceAs (Decidable (_ < _))
theorem szi.log {i : Int} {b : Nat} (h : szi i b) (hb : 0 < b) : i.natAbs.log2 < b := by
  by_cases h0 : i.natAbs = 0
  · rw [h0]; simpa using hb
  · exact (Nat.log2_lt h0).mpr h
theorem szi.mulOk {i j : Int} {a b : Nat} (hi : szi i a) (hj : szi j b) (h : a + b < 1000000) (ha : 0 < a) (hb : 0 < b) : mulOk i j := by
  have := hi.log ha
  have := hj.log hb
  exact Or.inl (by omega)
theorem szi.divOk {i j : Int} {b : Nat} (hj : szi j b) (h : b < 9000) (hb : 0 < b) (h0 : j ≠ 0) : divOk i j :=
  ⟨h0, PyProof.noPylong_of_log2 (by have := hj.log hb; omega)⟩
theorem szi.mono {i : Int} {a b : Nat} (h : szi i a) (hab : a ≤ b) : szi i b := Nat.lt_of_lt_of_le h (Nat.pow_le_pow_right (by decide) hab)
theorem szi.mul {i j : Int} {a b : Nat} (hi : szi i a) (hj : szi j b) : szi (i * j) (a + b) := by
  unfold szi at *
  rw [Int.natAbs_mul, Nat.pow_add]
  by_cases h : j.natAbs = 0
  · rw [h, Nat.mul_zero]; exact Nat.mul_pos (Nat.pow_pos (by decide)) (Nat.pow_pos (by decide))
  · exact Nat.mul_lt_mul_of_lt_of_lt hi hj
theorem szi.add {i j : Int} {a : Nat} (hi : szi i a) (hj : szi j a) : szi (i + j) (a + 1) := by
  unfold szi at *
  rw [Nat.pow_succ]
  have := Int.natAbs_add_le i j
  omega
theorem szi.neg {i : Int} {a : Nat} (hi : szi i a) : szi (-i) a := by
  unfold szi at *
  rwa [Int.natAbs_neg]
theorem szi.sub {i j : Int} {a : Nat} (hi : szi i a) (hj : szi j a) : szi (i - j) (a + 1) := by
  rw [Int.sub_eq_add_neg]
  exact hi.add hj.neg
/-! the lowest terms -/
/-- what the greatest common divisor, with the sign of the bottom, leaves -/
theorem low_eq {t b g : Int} (hb : b ≠ 0) (hg : g = b.sign * (Int.gcd t b : Nat)) : g ≠ 0 ∧ t = (Rat.divInt t b).num * g ∧ b = ((Rat.divInt t b).den : Int) * g := by
  have h0 : Int.gcd t b ≠ 0 := by
    intro h
    exact hb (Int.gcd_eq_zero_iff.mp h).2
  have hs : b.sign ≠ 0 := by
    intro h
    exact hb (Int.sign_eq_zero_iff_zero.mp h)
  have hg0 : g ≠ 0 := by
    rw [hg]
    exact Int.mul_ne_zero hs (by omega)
  have hss : b.sign * b.sign = 1 := by
    rcases Int.lt_trichotomy b 0 with h | h | h
    · rw [Int.sign_eq_neg_one_of_neg h]; rfl
    · exact absurd h hb
    · rw [Int.sign_eq_one_of_pos h]; rfl
  refine ⟨hg0, ?_, ?_⟩
  · rw [Rat.num_divInt, hg, Int.gcd_comm b t]
    obtain ⟨c, hc⟩ : (Int.gcd t b : Int) ∣ t := Int.gcd_dvd_left ..
    have e : b.sign * t = (b.sign * c) * (Int.gcd t b : Int) := by
      conv => lhs; rw [hc]
      simp only [Int.mul_comm, Int.mul_left_comm, Int.mul_assoc]
    rw [e, Int.mul_ediv_cancel _ (by omega)]
    have e2 : b.sign * c * (b.sign * (Int.gcd t b : Int)) = (b.sign * b.sign) * ((Int.gcd t b : Int) * c) := by
      simp only [Int.mul_comm, Int.mul_left_comm, Int.mul_assoc]
    rw [e2, hss, Int.one_mul]
    exact hc
  · rw [Rat.den_divInt, if_neg hb, hg, Int.gcd_comm b t]
    have e1 : b.natAbs = (b.natAbs / Int.gcd t b) * Int.gcd t b := (Nat.div_mul_cancel (Int.gcd_dvd_natAbs_right t b)).symm
    have e2 : b = b.sign * (b.natAbs : Int) := (Int.sign_mul_natAbs b).symm
    have e3 : (b.natAbs : Int) = ((b.natAbs / Int.gcd t b : Nat) : Int) * (Int.gcd t b : Int) := by
      rw [← Int.natCast_mul, ← e1]
    conv => lhs; rw [e2, e3]
    simp only [Int.mul_comm, Int.mul_left_comm, Int.mul_assoc]
theorem fdiv_exact {x g : Int} (h : g ≠ 0) : (x * g).fdiv g = x := Int.mul_fdiv_cancel _ h
theorem gcd_mod (a b : Int) (h : b ≠ 0) : Int.gcd b (a.fmod b) = Int.gcd a b := by
  have e : a.fmod b = a + b * (-(a.fdiv b)) := by
    have := Int.fmod_add_mul_fdiv a b
    have : b * -(a.fdiv b) = -(b * a.fdiv b) := by rw [Int.mul_neg]
    omega
  rw [e, Int.gcd_add_mul_left_right, Int.gcd_comm]
end CW

end
section
set_option maxRecDepth 100000
set_option maxHeartbeats 2000000
namespace CW
open PySem PySem.Spec PyProof.Rows L2
/-- how many bits a fraction needs -/
def hz (q : Rat) : Nat := max q.num.natAbs.log2 q.den.log2 + 1
theorem lt_log (n : Nat) : n < 2 ^ (n.log2 + 1) := by
  by_cases h : n = 0
  · subst h; decide
  · exact (Nat.log2_lt h).mp (Nat.lt_succ_self _)
theorem hz_sz (q : Rat) : sz q (hz q) := by
  constructor
  · exact Nat.lt_of_lt_of_le (lt_log _) (Nat.pow_le_pow_right (by decide) (by unfold hz; omega))
  · exact Nat.lt_of_lt_of_le (lt_log _) (Nat.pow_le_pow_right (by decide) (by unfold hz; omega))
theorem hz_pos (q : Rat) : 0 < hz q := Nat.succ_pos _
theorem hz_le {q : Rat} {b : Nat} (hb : 0 < b) (h : sz q b) : hz q ≤ b := by
  unfold hz
  have h1 : q.num.natAbs.log2 < b := by
    by_cases h0 : q.num.natAbs = 0
    · rw [h0]; exact hb
    · exact (Nat.log2_lt h0).mpr h.1
  have h2 : q.den.log2 < b := (Nat.log2_lt q.den_nz).mpr h.2
  omega
theorem hz_num (q : Rat) : szi q.num (hz q) := (hz_sz q).1
theorem hz_den (q : Rat) : szi (q.den : Int) (hz q) := by
  unfold szi
  rw [Int.natAbs_natCast]
  exact (hz_sz q).2
theorem sz_divInt {t b : Int} {n : Nat} (ht : szi t n) (hb : szi b n) (hn : 0 < n) : sz (Rat.divInt t b) n := by
  by_cases h0 : b = 0
  · subst h0
    rw [Rat.divInt_zero]
    exact ⟨Nat.pow_pos (by decide), Nat.one_lt_pow (by omega) (by decide)⟩
  · obtain ⟨hg, e1, e2⟩ := low_eq (t := t) (b := b) h0 rfl
    have hg1 : 1 ≤ (b.sign * (Int.gcd t b : Nat)).natAbs := by omega
    constructor
    · refine Nat.lt_of_le_of_lt ?_ ht
      conv => rhs; rw [e1, Int.natAbs_mul]
      exact Nat.le_mul_of_pos_right _ hg1
    · refine Nat.lt_of_le_of_lt ?_ hb
      conv => rhs; rw [e2, Int.natAbs_mul]
      exact Nat.le_mul_of_pos_right _ hg1
theorem hz_add (a b : Rat) : hz (a + b) ≤ hz a + hz b + 1 := by
  refine hz_le (by omega) ?_
  rw [Rat.add_def', ← Rat.divInt_ofNat]
  refine sz_divInt ?_ ?_ (by omega)
  · exact ((hz_num a).mul (hz_den b)).add (((hz_num b).mul (hz_den a)).mono (by omega))
  · rw [Int.natCast_mul]
    exact ((hz_den a).mul (hz_den b)).mono (by omega)
theorem hz_mul (a b : Rat) : hz (a * b) ≤ hz a + hz b := by
  have := hz_pos a
  refine hz_le (by omega) ?_
  rw [Rat.mul_def', ← Rat.divInt_ofNat]
  refine sz_divInt ?_ ?_ (by omega)
  · exact (hz_num a).mul (hz_num b)
  · rw [Int.natCast_mul]
    exact (hz_den a).mul (hz_den b)
theorem hz_neg (a : Rat) : hz (-a) = hz a := by
  unfold hz
  rw [Rat.neg_num, Rat.neg_den, Int.natAbs_neg]
theorem hz_sub (a b : Rat) : hz (a - b) ≤ hz a + hz b + 1 := by
  rw [Rat.sub_eq_add_neg]
  have := hz_add a (-b)
  rwa [hz_neg] at this
theorem hz_inv (a : Rat) : hz a⁻¹ ≤ hz a := by
  refine hz_le (hz_pos a) ?_
  rw [Rat.inv_def]
  exact sz_divInt (hz_den a) (hz_num a) (hz_pos a)
theorem hz_div (a b : Rat) : hz (a / b) ≤ hz a + hz b := by
  rw [Rat.div_def]
  have := hz_mul a b⁻¹
  have := hz_inv b
  omega
theorem hz_int (n : Int) : hz (n : Rat) = n.natAbs.log2 + 1 := by
  have h : ((1 : Nat)).log2 = 0 := by decide
  show max n.natAbs.log2 (1 : Nat).log2 + 1 = _
  rw [h]
  omega
theorem fq_int (n : Int) : fq (n : Rat) = .int n := rfl
theorem fq_0 : fq 0 = .int 0 := rfl
theorem fq_1 : fq 1 = .int 1 := rfl
theorem fq_inj {a b : Rat} (h : fq a = fq b) : a = b := by
  unfold fq at h
  split at h <;> split at h
  · rename_i h1 h2
    injection h with h
    exact Rat.ext h (h1.trans h2.symm)
  · cases h
  · cases h
  · injection h with h
    injection h with h h3
    injection h with h
    injection h3 with h3
    injection h3 with h3
    exact Rat.ext h (by omega)
theorem mulOk_szi {i j : Int} {a b : Nat} (hi : szi i a) (hj : szi j b) (h : a + b ≤ 100000) (ha : 0 < a) (hb : 0 < b) : mulOk i j := hi.mulOk hj (by omega) ha hb
end CW

end
section
set_option maxRecDepth 100000
set_option maxHeartbeats 2000000
namespace CW
open PySem PySem.Spec PyProof.Rows L2
theorem fmod_less (a : Int) {b : Int} (h : b ≠ 0) : (a.fmod b).natAbs < b.natAbs := by
  rcases Int.lt_or_gt_of_ne h with hb | hb
  · have e := Int.neg_fmod_neg (-a) (-b)
    rw [Int.neg_neg, Int.neg_neg] at e
    have h1 := Int.fmod_nonneg_of_pos (-a) (b := -b) (by omega)
    have h2 := Int.fmod_lt_of_pos (-a) (b := -b) (by omega)
    omega
  · have h1 := Int.fmod_nonneg_of_pos a hb
    have h2 := Int.fmod_lt_of_pos a hb
    omega
def fqPy (q : Rat) : PyData := if q.den = 1 then .int q.num else .tuple [.int q.num, .int q.den]
theorem toPy_fq (q : Rat) : toPy (fq q) = some (fqPy q) := by
  unfold fq fqPy
  split <;> rfl
theorem shaped_fq (q : Rat) : SeqAt.shaped (fqPy q) = true := by
  unfold fqPy
  split
  · rfl
  · rfl
theorem eqv_fq (a b : Rat) : PyData.eqv (fqPy a) (fqPy b) = decide (a = b) := by
  unfold fqPy
  split <;> split
  · rename_i h1 h2
    rw [eqv_int]
    exact decide_eq_decide.mpr ⟨fun h => Rat.ext h (h1.trans h2.symm), fun h => by rw [h]⟩
  · rename_i h1 h2
    rw [show PyData.eqv (.int a.num) (.tuple [.int b.num, .int b.den]) = false from by unfold PyData.eqv; rfl]
    exact (decide_eq_false fun h => h2 (by rw [← h]; exact h1)).symm
  · rename_i h1 h2
    rw [show PyData.eqv (.tuple [.int a.num, .int a.den]) (.int b.num) = false from by unfold PyData.eqv; rfl]
    exact (decide_eq_false fun h => h1 (by rw [h]; exact h2)).symm
  · rename_i h1 h2
    have e : PyData.eqv (.tuple [.int a.num, .int a.den]) (.tuple [.int b.num, .int b.den]) = (decide (a.num = b.num) && (decide ((a.den : Int) = b.den) && true)) := by
      show PyData.eqvAll _ _ = _
      unfold PyData.eqvAll
      rw [eqv_int]
      unfold PyData.eqvAll
      rw [eqv_int]
      unfold PyData.eqvAll
      rfl
    rw [e]
    by_cases h : a = b
    · subst h; simp
    · rw [decide_eq_false h]
      by_cases hn : a.num = b.num
      · have hd : ¬ (a.den : Int) = b.den := fun hd => h (Rat.ext hn (by omega))
        simp [hd]
      · simp [hn]
theorem eq_fq (neg : Bool) (a b : Rat) (s : S) : eqD neg (.p (fq a)) (.p (fq b)) s = .ok (.p (.bl (if neg = true then !decide (a = b) else decide (a = b)))) s := by
  rw [eq_dat neg (d := fqPy a) (e := fqPy b) (by exact toPy_fq a) (by exact toPy_fq b) ⟨shaped_fq a, shaped_fq b⟩, eqv_fq]
theorem eq_fq0 (a : Rat) (s : S) : eqD false (.p (fq a)) (.p (.int 0)) s = .ok (.p (.bl (decide (a = 0)))) s := eq_fq false a 0 s
theorem ne_fq0 (a : Rat) (s : S) : eqD true (.p (fq a)) (.p (.int 0)) s = .ok (.p (.bl (!decide (a = 0)))) s := eq_fq true a 0 s
end CW

end
section
set_option maxRecDepth 100000
set_option maxHeartbeats 2000000
namespace CW
open PySem PySem.Spec PyProof.Rows L2
theorem wide_fq {q : Rat} (h : hz q ≤ 7800) : wideP (fqPy q) = true := by
  have h1 : q.num.natAbs.log2 < 8000 := by unfold hz at h; omega
  have h2 : q.den.log2 < 8000 := by unfold hz at h; omega
  unfold fqPy
  split
  · simp only [wideP]
    exact decide_eq_true h1
  · simp [wideP, wideL, h1, h2]
theorem noDict_fq (q : Rat) : (fqPy q).hasDict = false := by
  unfold fqPy
  split <;> simp [PyData.hasDict, PyData.hasDictAll]
theorem depth_fq (q : Rat) : (fqPy q).depth ≤ 60 := by
  unfold fqPy
  split <;> simp [PyData.depth, PyData.depthAll]
theorem toS_len {i : Int} (h : i.natAbs.log2 < 1920) : (Str.ofString (toString i)).length ≤ 1921 := by
  rw [PySem.ofString_length]
  exact int_text_length_le (k := 1920) (by decide) h
theorem tupleText2_len (a b : Str) : (tupleText [a, b]).length = a.length + b.length + 4 := by
  have e : tupleText [a, b] = ("(" : Str) ++ (a ++ ", " ++ b) ++ ((if 2 == 1 then ",)" else ")" : String) : Str) := rfl
  rw [e, strLen_append, strLen_append, strLen_append, strLen_append]
  have e1 : ((", " : String) : Str).length = 2 := rfl
  have e2 : ((if 2 == 1 then ",)" else ")" : String) : Str).length = 1 := rfl
  have e3 : ("(" : Str).length = 1 := rfl
  omega
theorem shown_fq_len {q : Rat} (h : hz q ≤ 1900) : (fqPy q).shown.length ≤ sizeLine := by
  have h1 : q.num.natAbs.log2 < 1920 := by unfold hz at h; omega
  have h2 : (q.den : Int).natAbs.log2 < 1920 := by rw [Int.natAbs_natCast]; unfold hz at h; omega
  have l1 := toS_len h1
  have l2 := toS_len h2
  have hs : 4000 ≤ sizeLine := by decide
  unfold fqPy
  split
  · show (Str.ofString (toString q.num)).length ≤ sizeLine
    omega
  · show (tupleText [Str.ofString (toString q.num), Str.ofString (toString (q.den : Int))]).length ≤ sizeLine
    rw [tupleText2_len]
    omega
theorem shw_fq (q : Rat) (s : S) (h : hz q ≤ 1900) : shwD [.p (fq q)] s = .ok (.p (.str (fqPy q).shown)) s := by
  have e : toPyD (.p (fq q)) s = some (fqPy q) := toPy_fq q
  unfold shwD
  dsimp only
  rw [e]
  exact if_pos ⟨wide_fq (by omega), depth_fq q, shown_fq_len h⟩
theorem strOk_app {x y : Str} (hx : PyData.strOk x = true) (hy : PyData.strOk y = true) : PyData.strOk (x ++ y) = true := by
  show (x.cps ++ y.cps).all _ = true
  rw [Array.all_append]
  exact Bool.and_eq_true_iff.mpr ⟨hx, hy⟩
theorem strOk_of (s : String) : PyData.strOk (Str.ofString s) = true := by
  unfold PyData.strOk
  rw [Str.ofString_eq_toList]
  simp only [List.all_toArray, List.all_map, List.all_eq_true, Function.comp_apply, decide_eq_true_eq]
  intro c _
  have := c.valid
  rcases this with h | h
  · exact Nat.lt_trans h (by decide)
  · exact h.2
theorem strOk_fq (q : Rat) : PyData.strOk (fqPy q).shown = true := by
  unfold fqPy
  split
  · exact strOk_of _
  · show PyData.strOk (("(" : Str) ++ (Str.ofString (toString q.num) ++ ", " ++ Str.ofString (toString (q.den : Int))) ++ ((if 2 == 1 then ",)" else ")" : String) : Str)) = true
    exact strOk_app (strOk_app (strOk_of _) (strOk_app (strOk_app (strOk_of _) (strOk_of _)) (strOk_of _))) (strOk_of _)
theorem shaped_str {x : Str} (h : PyData.strOk x = true) : SeqAt.shaped (.str x) = true := by
  unfold SeqAt.shaped PyData.canLay0 PyData.depth
  simp [h]
theorem eq_str (neg : Bool) (a b : Str) (s : S) (ha : PyData.strOk a = true) (hb : PyData.strOk b = true) : eqD neg (.p (.str a)) (.p (.str b)) s = .ok (.p (.bl (if neg = true then !(a == b) else (a == b)))) s := by
  rw [eq_dat neg (d := .str a) (e := .str b) rfl rfl ⟨shaped_str ha, shaped_str hb⟩]
  unfold PyData.eqv
  rfl
theorem eq_shown (q : Rat) (s : S) : eqD false (.p (.str (fqPy q).shown)) (.p (.str (fqPy q).shown)) s = .ok (.p (.bl true)) s := by
  rw [eq_str _ _ _ _ (strOk_fq q) (strOk_fq q)]
  simp
theorem ne_shown (q : Rat) (s : S) : eqD true (.p (.str (fqPy q).shown)) (.p (.str (fqPy q).shown)) s = .ok (.p (.bl false)) s := by
  rw [eq_str _ _ _ _ (strOk_fq q) (strOk_fq q)]
  simp
end CW

end
section
set_option maxRecDepth 100000
set_option maxHeartbeats 2000000
/-! plain: how great fractions over one bottom are -/
namespace CW
open PySem PySem.Spec PyProof.Rows L2
/-- q is a whole number of at most n bits over the k-th power of W -/
def Wn (W : Int) (n k : Nat) (q : Rat) : Prop := ∃ N : Int, q * (W : Rat) ^ k = N ∧ szi N n
section
variable {W : Int} {w n m k l : Nat} {a b : Rat}
theorem rc_mul (a b : Int) : ((a * b : Int) : Rat) = (a : Rat) * b := Rat.intCast_mul a b
theorem rc_add (a b : Int) : ((a + b : Int) : Rat) = (a : Rat) + b := Rat.intCast_add a b
theorem rc_neg (a : Int) : ((-a : Int) : Rat) = -(a : Rat) := Rat.intCast_neg a
theorem rc_pow (a : Int) (k : Nat) : ((a ^ k : Int) : Rat) = (a : Rat) ^ k := by
  induction k with
  | zero => rfl
  | succ k ih => rw [Int.pow_succ, rc_mul, ih, Rat.pow_succ]
theorem rpow_add (x : Rat) (k l : Nat) : x ^ (k + l) = x ^ k * x ^ l := by
  induction l with
  | zero => rw [Nat.add_zero, Rat.pow_zero, Rat.mul_one]
  | succ l ih => rw [← Nat.add_assoc, Rat.pow_succ, ih, Rat.pow_succ, Rat.mul_assoc]
theorem szi_pow {i : Int} (h : szi i w) : ∀ k, szi (i ^ k) (w * k + 1)
  | 0 => by rw [Int.pow_zero]; show 1 < 2 ^ 1; decide
  | k + 1 => by
    rw [Int.pow_succ]
    exact ((szi_pow h k).mul h).mono (by rw [Nat.mul_succ]; omega)
theorem Wn.mul (ha : Wn W n k a) (hb : Wn W m l b) : Wn W (n + m) (k + l) (a * b) := by
  obtain ⟨A, a1, a2⟩ := ha
  obtain ⟨B, b1, b2⟩ := hb
  refine ⟨A * B, ?_, a2.mul b2⟩
  rw [rpow_add, rc_mul, ← a1, ← b1]
  grind
theorem Wn.add (ha : Wn W n k a) (hb : Wn W n k b) : Wn W (n + 1) k (a + b) := by
  obtain ⟨A, a1, a2⟩ := ha
  obtain ⟨B, b1, b2⟩ := hb
  refine ⟨A + B, ?_, a2.add b2⟩
  rw [rc_add, ← a1, ← b1]
  grind
theorem Wn.neg (ha : Wn W n k a) : Wn W n k (-a) := by
  obtain ⟨A, a1, a2⟩ := ha
  refine ⟨-A, ?_, a2.neg⟩
  rw [rc_neg, ← a1]
  grind
theorem Wn.mono (ha : Wn W n k a) (h : n ≤ m) : Wn W m k a := by
  obtain ⟨A, a1, a2⟩ := ha
  exact ⟨A, a1, a2.mono h⟩
theorem Wn.up (hw : szi W w) (ha : Wn W n k a) (j : Nat) : Wn W (n + (w * j + 1)) (k + j) a := by
  obtain ⟨A, a1, a2⟩ := ha
  refine ⟨A * W ^ j, ?_, a2.mul (szi_pow hw j)⟩
  rw [rpow_add, rc_mul, rc_pow, ← a1]
  grind
/-- raised to what is asked -/
theorem Wn.to (hw : szi W w) (ha : Wn W n k a) (h : k ≤ l) (h2 : n + (w * (l - k) + 1) ≤ m) : Wn W m l a := by
  have := (ha.up hw (l - k)).mono h2
  rwa [show k + (l - k) = l by omega] at this
theorem Wn.int {c : Int} (h : szi c n) : Wn W n 0 (c : Rat) := ⟨c, by rw [Rat.pow_zero, Rat.mul_one], h⟩
theorem Wn.hz (h0 : W ≠ 0) (hw : szi W w) (ha : Wn W n k a) (h1 : n ≤ m) (h2 : w * k + 1 ≤ m) : hz a ≤ m := by
  obtain ⟨A, a1, a2⟩ := ha
  have hp : (W : Rat) ^ k ≠ 0 := by
    rw [← rc_pow]
    intro h
    have h' : (W ^ k : Int) = 0 := by exact_mod_cast h
    exact Int.pow_ne_zero h0 h'
  have e : a = Rat.divInt A (W ^ k) := by
    rw [Rat.divInt_eq_div, rc_pow, ← a1]
    grind
  refine hz_le (by omega) ?_
  rw [e]
  exact sz_divInt (a2.mono h1) ((szi_pow hw k).mono h2) (by omega)
/-- of the sizes of a fraction -/
theorem Wn.of_den (h : (a.den : Int) ∣ W) (h0 : W ≠ 0) (hn : szi a.num n) (hw : szi W w) : Wn W (n + w) 1 a := by
  obtain ⟨c, hc⟩ := h
  refine ⟨a.num * c, ?_, hn.mul ?_⟩
  · rw [show (W : Rat) ^ 1 = W from Rat.pow_one _, hc, rc_mul, rc_mul]
    have : a * ((a.den : Int) : Rat) = a.num := by
      have e := Rat.num_divInt_den a
      rw [Rat.divInt_eq_div] at e
      have hd : ((a.den : Int) : Rat) ≠ 0 := by
        intro h
        have h' : (a.den : Int) = 0 := by exact_mod_cast h
        have := a.den_nz
        omega
      have e2 : (a.num : Rat) / ((a.den : Int) : Rat) * ((a.den : Int) : Rat) = a * ((a.den : Int) : Rat) := by rw [e]
      rw [Rat.div_mul_cancel hd] at e2
      exact e2.symm
    rw [← Rat.mul_assoc, this]
  · refine Nat.lt_of_le_of_lt ?_ hw
    have hd : (a.den : Int) ≠ 0 := by have := a.den_nz; omega
    rw [hc, Int.natAbs_mul]
    exact Nat.le_mul_of_pos_left _ (by have := a.den_nz; omega)
end
end CW

end
section
set_option maxRecDepth 100000
set_option maxHeartbeats 2000000
/-! plain: sums of products -/
namespace CW
open PySem PySem.Spec PyProof.Rows L2
def prodR (acc : Rat) (r : List Rat) : Rat := r.foldl (· * ·) acc
def sumR (acc : Rat) (rows : List (List Rat)) : Rat := rows.foldl (fun a r => a + prodR 1 r) acc
def totR : List Rat → Nat
  | [] => 0
  | q :: r => hz q + totR r
def totZ : List (List Rat) → Nat
  | [] => 0
  | r :: rows => totR r + 2 + totZ rows
theorem prodR_hz : ∀ (r : List Rat) (acc : Rat), hz (prodR acc r) ≤ hz acc + totR r
  | [], acc => Nat.le_refl _
  | q :: r, acc => by
    have h := prodR_hz r (acc * q)
    have := hz_mul acc q
    show hz (prodR (acc * q) r) ≤ hz acc + (hz q + totR r)
    omega
noncomputable def sumB (pr su : List D → M D) : SF := seqF (asgF (cE (.int 0)) (setG 1)) (seqF (forF (rowI (vE 0)) (setG 2) (seqF (asgF (cE (.int 1)) (setG 3)) (seqF (forF (rowI (vE 2)) (setG 4) (asgF (calE pr [vE 3, vE 4]) (setG 3))) (asgF (calE su [vE 1, vE 3]) (setG 1))))) (retF (vE 1)))
section
variable {pr su : List D → M D} (hp : ∀ a b s, hz a + hz b ≤ 8800 → pr [.p (fq a), .p (fq b)] s = .ok (.p (fq (a * b))) s) (hs : ∀ a b s, hz a + hz b ≤ 8800 → su [.p (fq a), .p (fq b)] s = .ok (.p (fq (a + b))) s)
include hp in
theorem sum_inner (x0 x1 x2 : Option D) (s : S) : ∀ (r : List Rat) (acc : Rat) (y : Option D), hz acc + totR r ≤ 8800 →
    ∃ y', forL [] (setG 4) (asgF (calE pr [vE 3, vE 4]) (setG 3)) (r.map fq) [x0, x1, x2, some (.p (fq acc)), y] s = .ok (.nx [x0, x1, x2, some (.p (fq (prodR acc r))), y']) s
  | [], acc, y, _ => ⟨y, forL_nil⟩
  | q :: r, acc, y, h => by
    have h' : hz acc + (hz q + totR r) ≤ 8800 := h
    have := hz_mul acc q
    obtain ⟨y', h1⟩ := sum_inner x0 x1 x2 s r (acc * q) (some (.p (fq q))) (by omega)
    refine ⟨y', ?_⟩
    have h2 := hp acc q s (by omega)
    rw [List.map_cons, forL_cons]
    simp [h2]
    exact h1
include hp hs in
theorem sum_outer (x0 : Option D) (s : S) (mkr : List P → P) (hm : ∀ (ρ : En) (xs : List P), ρ[2]? = some (some (.p (mkr xs))) → rowI (vE 2) ρ s = .ok (xs, []) s) : ∀ (rows : List (List Rat)) (acc : Rat) (y2 y3 y4 : Option D), hz acc + totZ rows ≤ 8800 →
    ∃ y2' y3' y4', forL [] (setG 2) (seqF (asgF (cE (.int 1)) (setG 3)) (seqF (forF (rowI (vE 2)) (setG 4) (asgF (calE pr [vE 3, vE 4]) (setG 3))) (asgF (calE su [vE 1, vE 3]) (setG 1)))) (rows.map fun r => mkr (r.map fq)) [x0, some (.p (fq acc)), y2, y3, y4] s = .ok (.nx [x0, some (.p (fq (sumR acc rows))), y2', y3', y4']) s
  | [], acc, y2, y3, y4, _ => ⟨y2, y3, y4, forL_nil⟩
  | r :: rows, acc, y2, y3, y4, h => by
    have h' : hz acc + (totR r + 2 + totZ rows) ≤ 8800 := h
    have h1 : hz 1 = 1 := by decide
    have hpz := prodR_hz r 1
    have haz := hz_add acc (prodR 1 r)
    obtain ⟨y', e1⟩ := sum_inner hp x0 (some (.p (fq acc))) (some (.p (mkr (r.map fq)))) s r 1 y4 (by omega)
    obtain ⟨y2', y3', y4', e2⟩ := sum_outer x0 s mkr hm rows (acc + prodR 1 r) (some (.p (mkr (r.map fq)))) (some (.p (fq (prodR 1 r)))) y' (by omega)
    refine ⟨y2', y3', y4', ?_⟩
    have h2 := hs acc (prodR 1 r) s (by omega)
    have hf : forF (rowI (vE 2)) (setG 4) (asgF (calE pr [vE 3, vE 4]) (setG 3)) [x0, some (.p (fq acc)), some (.p (mkr (r.map fq))), some (.p (.int 1)), y4] s = .ok (.nx [x0, some (.p (fq acc)), some (.p (mkr (r.map fq))), some (.p (fq (prodR 1 r))), y']) s := by
      rw [forF_ev, hm _ (r.map fq) rfl, R.bind_ok]
      exact e1
    rw [List.map_cons, forL_cons]
    simp [hf, h2]
    exact e2
include hp hs in
theorem sumB_ok (s : S) (mkr : List P → P) (hm : ∀ (ρ : En) (xs : List P), ρ[2]? = some (some (.p (mkr xs))) → rowI (vE 2) ρ s = .ok (xs, []) s) (rows : List (List Rat)) (v : Rat) (hv : sumR 0 rows = v) (h : totZ rows ≤ 8700) :
    defM 1 5 (sumB pr su) [.p (.lst (rows.map fun r => mkr (r.map fq)))] s = .ok (.p (fq v)) s := by
  have h0 : hz 0 = 1 := by decide
  obtain ⟨y2', y3', y4', e1⟩ := sum_outer hp hs (some (.p (.lst (rows.map fun r => mkr (r.map fq))))) s mkr hm rows 0 none none none (by omega)
  subst hv
  have hf : forF (rowI (vE 0)) (setG 2) (seqF (asgF (cE (.int 1)) (setG 3)) (seqF (forF (rowI (vE 2)) (setG 4) (asgF (calE pr [vE 3, vE 4]) (setG 3))) (asgF (calE su [vE 1, vE 3]) (setG 1)))) [some (.p (.lst (rows.map fun r => mkr (r.map fq)))), some (.p (.int 0)), none, none, none] s = .ok (.nx [some (.p (.lst (rows.map fun r => mkr (r.map fq)))), some (.p (fq (sumR 0 rows))), y2', y3', y4']) s := by
    rw [forF_ev, rowI_lst (xs := rows.map fun r => mkr (r.map fq)) (s' := s) rfl, R.bind_ok]
    exact e1
  simp [defM_if, sumB, hf]
end
theorem vE_of {ρ : En} {i : Nat} {d : D} {s : S} (h : ρ[i]? = some (some d)) : vE i ρ s = .ok d s := by
  unfold vE
  rw [h]
theorem hm_tup (s : S) (ρ : En) (xs : List P) (h : ρ[2]? = some (some (.p (.tup xs)))) : rowI (vE 2) ρ s = .ok (xs, []) s := rowI_ev (vE_of h)
theorem hm_lst (s : S) (ρ : En) (xs : List P) (h : ρ[2]? = some (some (.p (.lst xs)))) : rowI (vE 2) ρ s = .ok (xs, []) s := rowI_lst (vE_of h)
/-! ### curves -/
def b2 (a1 a2 a3 a4 a6 : Rat) : Rat := a1 * a1 + 4 * a2
def b4 (a1 a2 a3 a4 a6 : Rat) : Rat := 2 * a4 + a1 * a3
def b6 (a1 a2 a3 a4 a6 : Rat) : Rat := a3 * a3 + 4 * a6
def b8 (a1 a2 a3 a4 a6 : Rat) : Rat := a1 * a1 * a6 + 4 * a2 * a6 - a1 * a3 * a4 + a2 * a3 * a3 - a4 * a4
def dD (p q r t : Rat) : Rat := 9 * p * q * r - p * p * t - 8 * q * q * q - 27 * r * r
def dd (a1 a2 a3 a4 a6 : Rat) : Rat := dD (b2 a1 a2 a3 a4 a6) (b4 a1 a2 a3 a4 a6) (b6 a1 a2 a3 a4 a6) (b8 a1 a2 a3 a4 a6)
def c4 (a1 a2 a3 a4 a6 : Rat) : Rat := b2 a1 a2 a3 a4 a6 * b2 a1 a2 a3 a4 a6 - 24 * b4 a1 a2 a3 a4 a6
def c6 (a1 a2 a3 a4 a6 : Rat) : Rat := 36 * b2 a1 a2 a3 a4 a6 * b4 a1 a2 a3 a4 a6 - b2 a1 a2 a3 a4 a6 * b2 a1 a2 a3 a4 a6 * b2 a1 a2 a3 a4 a6 - 216 * b6 a1 a2 a3 a4 a6
/-- degree k over W, c bits more than n a degree -/
def Dg (W : Int) (n k c : Nat) (q : Rat) : Prop := Wn W (n * k + c) k q
section
variable {W : Int} {n k l c d : Nat} {a b : Rat}
theorem Dg.mono (h : Dg W n k c a) (hc : c ≤ d := by omega) : Dg W n k d a := Wn.mono h (by omega)
theorem Dg.mul (ha : Dg W n k c a) (hb : Dg W n l d b) : Dg W n (k + l) (c + d) (a * b) := Wn.mono (Wn.mul ha hb) (by rw [Nat.mul_add]; omega)
theorem Dg.add (ha : Dg W n k c a) (hb : Dg W n k c b) : Dg W n k (c + 1) (a + b) := Wn.mono (Wn.add ha hb) (by omega)
theorem Dg.neg (ha : Dg W n k c a) : Dg W n k c (-a) := Wn.neg ha
theorem Dg.sub (ha : Dg W n k c a) (hb : Dg W n k c b) : Dg W n k (c + 1) (a - b) := by
  rw [Rat.sub_eq_add_neg]
  exact ha.add hb.neg
theorem Dg.up (hw : szi W n) (ha : Dg W n k c a) (hkl : k ≤ l := by omega) (hc : c + 1 ≤ d := by omega) : Dg W n l d a := by
  refine Wn.to hw ha hkl ?_
  have : n * l = n * k + n * (l - k) := by rw [← Nat.mul_add]; congr 1; omega
  omega
theorem Dg.int {i : Int} (h : szi i c) : Dg W n 0 c (i : Rat) := Wn.mono (Wn.int h) (by omega)
theorem Dg.hz (h0 : W ≠ 0) (hw : szi W n) (h : Dg W n k c a) : hz a ≤ n * k + c + 1 := Wn.hz h0 hw h (by omega) (by omega)
end
/-- the sizes of a curve: over one bottom W, both of n bits -/
structure Cv (W : Int) (n : Nat) (a1 a2 a3 a4 a6 : Rat) : Prop where
  W0 : W ≠ 0
  hw : szi W n
  h1 : Dg W n 1 0 a1
  h2 : Dg W n 1 0 a2
  h3 : Dg W n 1 0 a3
  h4 : Dg W n 1 0 a4
  h6 : Dg W n 1 0 a6
section
variable {W : Int} {n : Nat} {a1 a2 a3 a4 a6 : Rat}
theorem Cv.b2 (c : Cv W n a1 a2 a3 a4 a6) : Dg W n 2 5 (b2 a1 a2 a3 a4 a6) :=
  ((c.h1.mul c.h1).mono (d := 4)).add (((Dg.int (i := 4) (c := 3) (by decide)).mul c.h2).up (l := 2) c.hw)
theorem Cv.b4 (c : Cv W n a1 a2 a3 a4 a6) : Dg W n 2 4 (b4 a1 a2 a3 a4 a6) :=
  (((Dg.int (i := 2) (c := 2) (by decide)).mul c.h4).up (l := 2) c.hw).add ((c.h1.mul c.h3).mono (d := 3))
theorem Cv.b6 (c : Cv W n a1 a2 a3 a4 a6) : Dg W n 2 5 (b6 a1 a2 a3 a4 a6) :=
  ((c.h3.mul c.h3).mono (d := 4)).add (((Dg.int (i := 4) (c := 3) (by decide)).mul c.h6).up (l := 2) c.hw)
theorem Cv.b8 (c : Cv W n a1 a2 a3 a4 a6) : Dg W n 3 8 (b8 a1 a2 a3 a4 a6) :=
  (((((c.h1.mul c.h1).mul c.h6).mono (d := 4)).add ((((Dg.int (i := 4) (c := 3) (by decide)).mul c.h2).mul c.h6).up (l := 3) c.hw (d := 4))).sub (((c.h1.mul c.h3).mul c.h4).mono (d := 5))).add (((c.h2.mul c.h3).mul c.h3).mono (d := 6)) |>.sub ((c.h4.mul c.h4).up (l := 3) c.hw (d := 7))
theorem Cv.dd (c : Cv W n a1 a2 a3 a4 a6) : Dg W n 7 22 (dd a1 a2 a3 a4 a6) :=
  ((((((((Dg.int (i := 9) (c := 4) (by decide)).mul c.b2).mul c.b4).mul c.b6).up (l := 7) c.hw (d := 19)).sub (((c.b2.mul c.b2).mul c.b8).mono (d := 19))).sub (((((Dg.int (i := 8) (c := 4) (by decide)).mul c.b4).mul c.b4).mul c.b4).up (l := 7) c.hw (d := 20))).sub ((((Dg.int (i := 27) (c := 5) (by decide)).mul c.b6).mul c.b6).up (l := 7) c.hw (d := 21)))
theorem Cv.c4 (c : Cv W n a1 a2 a3 a4 a6) : Dg W n 4 11 (c4 a1 a2 a3 a4 a6) :=
  ((c.b2.mul c.b2).mono (d := 10)).sub (((Dg.int (i := 24) (c := 5) (by decide)).mul c.b4).up (l := 4) c.hw (d := 10))
theorem Cv.c6 (c : Cv W n a1 a2 a3 a4 a6) : Dg W n 6 18 (c6 a1 a2 a3 a4 a6) :=
  (((((Dg.int (i := 36) (c := 6) (by decide)).mul c.b2).mul c.b4).up (l := 6) c.hw (d := 16)).sub (((c.b2.mul c.b2).mul c.b2).mono (d := 16))).sub (((Dg.int (i := 216) (c := 8) (by decide)).mul c.b6).up (l := 6) c.hw (d := 17))
end
end CW

end
section
set_option maxRecDepth 100000
set_option maxHeartbeats 2000000
/-! the second kind of draws' state -/
namespace CW
open PySem PySem.Spec PyProof.Rows L2
section
variable {ρ : En} {s s' : S} {m ma mb mc : EF}
theorem fin_dl (a b : Option O) (kvs : List (Key × D)) (l : List P) (rest r : S) (x : P) (hk : ∀ kv ∈ kvs, ∀ m, kv.2 = .obj m → m < 2) : fin (a :: b :: rest) (.p x) (some (.dic kvs) :: some (.lst l) :: (rest ++ r)) = .ok (.p x) (some (.dic kvs) :: some (.lst l) :: rest) := by
  unfold fin
  dsimp only
  rw [if_pos]
  · show R.ok _ (_ :: _ :: List.take rest.length (rest ++ r)) = _
    rw [List.take_left]
  · refine ⟨by simp, fun i kvs' hi hd => ?_, fun i kvs hi hd => ?_, fun i kvs hi hd => ?_⟩
    rotate_right 2
    · match i with
      | 0 =>
        have := Option.some.inj hd
        cases this
      | 1 =>
        have := Option.some.inj hd
        cases this
      | i + 2 =>
        left
        have hi' : i < rest.length := by
          simp at hi
          omega
        show rest[i]? = (rest ++ r)[i]?
        rw [List.getElem?_append_left hi']
    · match i with
      | 0 =>
        have := Option.some.inj hd
        cases this
      | 1 =>
        have := Option.some.inj hd
        cases this
      | i + 2 =>
        left
        have hi' : i < rest.length := by
          simp at hi
          omega
        show rest[i]? = (rest ++ r)[i]?
        rw [List.getElem?_append_left hi']
    match i with
    | 0 =>
      right
      have := Option.some.inj hd
      have := Option.some.inj this
      injection this with this
      subst this
      intro kv hkv m hm
      have := hk kv hkv m hm
      simp
      omega
    | 1 =>
      have := Option.some.inj hd
      cases this
    | i + 2 =>
      left
      have hi' : i < rest.length := by
        simp at hi
        omega
      show rest[i]? = (rest ++ r)[i]?
      rw [List.getElem?_append_left hi']
def mk2 (rn tn : Int) (cells : List Int) (rest : S) : S := some (.dic [(.inr "run", .p (.int rn)), (.inr "great", .obj 1), (.inr "turn", .p (.int tn))]) :: some (.lst (cells.map .int)) :: rest
variable (rn tn : Int) (cells : List Int) (rest : S)
@[simp] theorem mk2_great : dgetD (.obj 0) (.p (.str "great")) (mk2 rn tn cells rest) = .ok (.obj 1) (mk2 rn tn cells rest) := rfl
@[simp] theorem mk2_run : dgetD (.obj 0) (.p (.str "run")) (mk2 rn tn cells rest) = .ok (.p (.int rn)) (mk2 rn tn cells rest) := rfl
@[simp] theorem mk2_turn : dgetD (.obj 0) (.p (.str "turn")) (mk2 rn tn cells rest) = .ok (.p (.int tn)) (mk2 rn tn cells rest) := rfl
@[simp] theorem mk2_put_run (i : Int) : dputk ρ (.p (.int i)) (.obj 0) (.p (.str "run")) (mk2 rn tn cells rest) = .ok (.nx ρ) (mk2 i tn cells rest) := rfl
@[simp] theorem mk2_put_turn (i : Int) : dputk ρ (.p (.int i)) (.obj 0) (.p (.str "turn")) (mk2 rn tn cells rest) = .ok (.nx ρ) (mk2 rn i cells rest) := rfl
theorem mk2_put_1 (i z : Int) (h0 : 0 ≤ z) (h : z < cells.length) : lputk ρ (.p (.int i)) (.obj 1) (.p (.int z)) (mk2 rn tn cells rest) = .ok (.nx ρ) (mk2 rn tn (cells.set z.toNat i) rest) := by
  show (match ixN (cells.map P.int).length z with
      | some j => R.ok (Fl.nx ρ) ((mk2 rn tn cells rest).set 1 (some (.lst ((cells.map P.int).set j (.int i)))))
      | none => .bad) = _
  rw [ixN_ok h0 (by rw [List.length_map]; exact h)]
  show R.ok (Fl.nx ρ) _ = _
  rw [← List.map_set]
  rfl
theorem mk2_ne_nil : eqD true (.obj 1) (.p (.lst [])) (mk2 rn tn cells rest) = .ok (.p (.bl (!cells.isEmpty))) (mk2 rn tn cells rest) := by
  rw [eq_dat true (d := .list (cells.map .int)) (e := .list []) (by show (toPys (cells.map P.int)).map PyData.list = _; rw [toPys_int]; rfl) rfl ⟨shapedAll_int _, rfl⟩]
  cases cells with
  | nil => rfl
  | cons x xs =>
    have : PyData.eqv (.list (List.map PyData.int (x :: xs))) (.list []) = false := by
      simp [PyData.eqv, PyData.eqvAll]
    rw [this]
    rfl
@[simp] theorem mk2_len : lenD [.obj 1] (mk2 rn tn cells rest) = .ok (.p (.int cells.length)) (mk2 rn tn cells rest) := by
  show R.ok (D.p (.int ((cells.map P.int).length : Nat))) _ = _
  rw [List.length_map]
theorem mk2_ix (z : Int) (h0 : 0 ≤ z) (h : z < cells.length) : ixD (.obj 1) (.p (.int z)) (mk2 rn tn cells rest) = .ok (.p (.int (cells[z.toNat]'(by omega)))) (mk2 rn tn cells rest) := by
  show (match L2.atI (cells.map P.int) z with
        | some z => R.ok (D.p z) (mk2 rn tn cells rest)
        | none => .bad) = _
  have e : L2.atI (cells.map P.int) z = some (.int (cells[z.toNat]'(by omega))) := by
    unfold L2.atI
    rw [ixN_ok h0 (by rw [List.length_map]; exact h), Option.bind_some, List.getElem?_map, List.getElem?_eq_getElem (by omega)]
    rfl
  rw [e]
theorem fin_mk2 (rn' tn' : Int) (cells' : List Int) (r : S) (x : P) : fin (mk2 rn tn cells rest) (.p x) (mk2 rn' tn' cells' (rest ++ r)) = .ok (.p x) (mk2 rn' tn' cells' rest) :=
  fin_dl _ _ _ _ rest r x (fun kv hkv m hm => by
    simp at hkv
    rcases hkv with rfl | rfl | rfl
    · cases hm
    · cases hm; decide
    · cases hm)
@[simp] theorem fin_mk20 (rn' tn' : Int) (cells' : List Int) (x : P) : fin (mk2 rn tn cells rest) (.p x) (mk2 rn' tn' cells' rest) = .ok (.p x) (mk2 rn' tn' cells' rest) := by
  have := fin_mk2 rn tn cells rest rn' tn' cells' [] x
  rwa [List.append_nil] at this
/-- a comprehension whose parts go on with the state -/
theorem lcL_inv {own : List Nat} {tg : GF} {m : EF} {ρ : En} (I : S → Prop) (Q : P → Prop) : ∀ {xs : List P} {s : S}, I s → (∀ x ∈ xs, ∀ s, I s → ∃ ρ1 y s2, tg (.p x) (wipE ρ own) s = .ok ρ1 s ∧ m ρ1 s = .ok (.p y) s2 ∧ Q y ∧ I s2) →
    ∃ ys s', lcL own [] tg yesT m ρ xs s = .ok ys s' ∧ I s' ∧ ys.length = xs.length ∧ ∀ y ∈ ys, Q y
  | [], s, h, _ => ⟨[], s, lcL_nil, h, rfl, fun _ h => nomatch h⟩
  | x :: xs, s, h, k => by
    obtain ⟨ρ1, y, s2, e1, e2, q, i2⟩ := k x List.mem_cons_self s h
    obtain ⟨ys, s', e3, i3, q3, q4⟩ := lcL_inv (tg := tg) (m := m) (ρ := ρ) (own := own) I Q i2 (fun z hz => k z (List.mem_cons_of_mem _ hz))
    refine ⟨y :: ys, s', ?_, i3, by simp [q3], fun z hz => ?_⟩
    · unfold lcL
      rw [gok_tru, if_pos trivial, bnd_ev, e1, R.bind_ok, bnd_ev]
      show R.bind (R.ok true s) _ = _
      rw [R.bind_ok, if_pos rfl, bnd_ev, e2, R.bind_ok]
      show bnd _ _ _ = _
      rw [bnd_ev, e3, R.bind_ok]
      rfl
    · rcases List.mem_cons.mp hz with rfl | hz
      · exact q
      · exact q4 z hz
end
end CW

end
section
set_option maxRecDepth 100000
set_option maxHeartbeats 2000000
/-! what is shown of plain data -/
namespace CW
open PySem PySem.Spec PyProof.Rows L2
/-- may be shown: at most n deep, at most l long -/
structure Rp (d : PyData) (n l : Nat) : Prop where
  sh : wideP d = true
  de : d.depth ≤ n
  ln : d.shown.length ≤ l
  ok : PyData.strOk d.shown = true
theorem Rp.mono {d : PyData} {n l n' l' : Nat} (h : Rp d n l) (hn : n ≤ n') (hl : l ≤ l') : Rp d n' l' := ⟨h.sh, Nat.le_trans h.de hn, Nat.le_trans h.ln hl, h.ok⟩
theorem Rp.fq {q : Rat} (h : hz q ≤ 1900) : Rp (fqPy q) 1 4000 := by
  refine ⟨wide_fq (by omega), ?_, ?_, strOk_fq q⟩
  · unfold fqPy
    split <;> simp [PyData.depth, PyData.depthAll]
  · have h1 : q.num.natAbs.log2 < 1920 := by unfold hz at h; omega
    have h2 : (q.den : Int).natAbs.log2 < 1920 := by rw [Int.natAbs_natCast]; unfold hz at h; omega
    have l1 := toS_len h1
    have l2 := toS_len h2
    unfold fqPy
    split
    · show (Str.ofString (toString q.num)).length ≤ 4000
      omega
    · show (tupleText [Str.ofString (toString q.num), Str.ofString (toString (q.den : Int))]).length ≤ 4000
      rw [tupleText2_len]
      omega
theorem Rp.int {i : Int} (h : i.natAbs.log2 < 1920) : Rp (.int i) 0 2000 := by
  refine ⟨by simp [wideP]; omega, Nat.le_refl _, ?_, ?_⟩
  · have := toS_len h
    show (Str.ofString (toString i)).length ≤ 2000
    omega
  · exact strOk_of _
/-- of up to 7800 bits -/
theorem Rp.fqW {q : Rat} (h : hz q ≤ 7800) : Rp (fqPy q) 1 17000 := by
  refine ⟨wide_fq h, ?_, ?_, strOk_fq q⟩
  · unfold fqPy
    split <;> simp [PyData.depth, PyData.depthAll]
  · have h1 : q.num.natAbs.log2 < 8000 := by unfold hz at h; omega
    have h2 : (q.den : Int).natAbs.log2 < 8000 := by rw [Int.natAbs_natCast]; unfold hz at h; omega
    have l1 : (Str.ofString (toString q.num)).length ≤ 8001 := by
      rw [PySem.ofString_length]
      exact int_text_length_le (k := 8000) (by decide) h1
    have l2 : (Str.ofString (toString (q.den : Int))).length ≤ 8001 := by
      rw [PySem.ofString_length]
      exact int_text_length_le (k := 8000) (by decide) h2
    unfold fqPy
    split
    · show (Str.ofString (toString q.num)).length ≤ 17000
      omega
    · show (tupleText [Str.ofString (toString q.num), Str.ofString (toString (q.den : Int))]).length ≤ 17000
      rw [tupleText2_len]
      omega
theorem Rp.non : Rp .none 0 4 := ⟨rfl, Nat.le_refl _, by decide, strOk_of "None"⟩
theorem Rp.bl (b : Bool) : Rp (.bool b) 0 5 := by
  cases b
  · exact ⟨rfl, Nat.le_refl _, by decide, strOk_of "False"⟩
  · exact ⟨rfl, Nat.le_refl _, by decide, strOk_of "True"⟩
theorem join_le (L : Nat) : ∀ ts : List Str, (∀ t ∈ ts, t.length ≤ L) → (Str.join ", " ts).length ≤ (L + 2) * ts.length
  | [], _ => Nat.zero_le _
  | [x], h => by
    have := h x (List.mem_cons_self)
    show x.length ≤ (L + 2) * 1
    omega
  | x :: y :: r, h => by
    have ih := join_le L (y :: r) fun t ht => h t (List.mem_cons_of_mem _ ht)
    have := h x (List.mem_cons_self)
    show (x ++ ", " ++ Str.join ", " (y :: r)).length ≤ (L + 2) * ((y :: r).length + 1)
    have e2 : ((", " : String) : Str).length = 2 := rfl
    rw [strLen_append, strLen_append, e2, Nat.mul_succ]
    omega
theorem join_ok : ∀ ts : List Str, (∀ t ∈ ts, PyData.strOk t = true) → PyData.strOk (Str.join ", " ts) = true
  | [], _ => by
    unfold Str.join PyData.strOk Str.empty
    simp
  | [x], h => h x (List.mem_cons_self)
  | x :: y :: r, h => strOk_app (strOk_app (h x (List.mem_cons_self)) (strOk_of _)) (join_ok (y :: r) fun t ht => h t (List.mem_cons_of_mem _ ht))
theorem textFrom_le (L : Nat) : ∀ (ts : List Str) (k : Nat) (acc : Str), (∀ t ∈ ts, t.length ≤ L) → (textFrom k acc ts).length ≤ acc.length + (L + 2) * ts.length
  | [], k, acc, _ => Nat.le_add_right _ _
  | t :: r, k, acc, h => by
    have ih := textFrom_le L r (k + 1) (acc ++ (if k > 0 then ", " else "" : String) ++ t) fun u hu => h u (List.mem_cons_of_mem _ hu)
    have := h t (List.mem_cons_self)
    have e : (acc ++ (if k > 0 then ", " else "" : String) ++ t).length ≤ acc.length + 2 + t.length := by
      rw [strLen_append, strLen_append]
      have : ((if k > 0 then ", " else "" : String) : Str).length ≤ 2 := by split <;> decide
      omega
    show (textFrom (k + 1) (acc ++ (if k > 0 then ", " else "" : String) ++ t) r).length ≤ acc.length + (L + 2) * (r.length + 1)
    rw [Nat.mul_succ]
    omega
theorem textFrom_ok : ∀ (ts : List Str) (k : Nat) (acc : Str), PyData.strOk acc = true → (∀ t ∈ ts, PyData.strOk t = true) → PyData.strOk (textFrom k acc ts) = true
  | [], k, acc, h, _ => h
  | t :: r, k, acc, h, ht => textFrom_ok r (k + 1) (acc ++ (if k > 0 then ", " else "" : String) ++ t) (strOk_app (strOk_app h (strOk_of _)) (ht t (List.mem_cons_self))) fun u hu => ht u (List.mem_cons_of_mem _ hu)
theorem shownAll_eq : ∀ ds : List PyData, PyData.shownAll ds = ds.map PyData.shown
  | [] => by simp [PyData.shownAll]
  | d :: ds => by simp [PyData.shownAll, shownAll_eq ds]
theorem hasDictAll_eq : ∀ ds : List PyData, (∀ d ∈ ds, d.hasDict = false) → PyData.hasDictAll ds = false
  | [], _ => by simp [PyData.hasDictAll]
  | d :: ds, h => by simp [PyData.hasDictAll, h d List.mem_cons_self, hasDictAll_eq ds fun x hx => h x (List.mem_cons_of_mem _ hx)]
theorem depthAll_le (n : Nat) : ∀ ds : List PyData, (∀ d ∈ ds, d.depth ≤ n) → PyData.depthAll ds ≤ n
  | [], _ => by simp [PyData.depthAll]
  | d :: ds, h => by
    have h1 := h d List.mem_cons_self
    have h2 := depthAll_le n ds fun x hx => h x (List.mem_cons_of_mem _ hx)
    simp only [PyData.depthAll]
    omega
theorem Rp.tup {ds : List PyData} {n L : Nat} (h : ∀ d ∈ ds, Rp d n L) : Rp (.tuple ds) (n + 1) ((L + 2) * ds.length + 3) := by
  refine ⟨by simp only [wideP]; exact wideL_all fun d hd => (h d hd).sh, ?_, ?_, ?_⟩
  · have := depthAll_le n ds fun d hd => (h d hd).de
    simp only [PyData.depth]
    omega
  · simp only [PyData.shown]
    rw [shownAll_eq]
    unfold tupleText
    rw [strLen_append, strLen_append]
    have h1 := join_le L (ds.map PyData.shown) fun t ht => by
      obtain ⟨d, hd, rfl⟩ := List.mem_map.mp ht
      exact (h d hd).ln
    rw [List.length_map] at h1
    have e1 : ((("(" : String) : Str)).length = 1 := rfl
    have e3 : (((if (ds.map PyData.shown).length == 1 then ",)" else ")" : String) : Str)).length ≤ 2 := by split <;> decide
    omega
  · simp only [PyData.shown]
    rw [shownAll_eq]
    unfold tupleText
    refine strOk_app (strOk_app (strOk_of _) (join_ok _ fun t ht => ?_)) (strOk_of _)
    obtain ⟨d, hd, rfl⟩ := List.mem_map.mp ht
    exact (h d hd).ok
theorem Rp.lst {ds : List PyData} {n L : Nat} (h : ∀ d ∈ ds, Rp d n L) : Rp (.list ds) (n + 1) ((L + 2) * ds.length + 3) := by
  refine ⟨by simp only [wideP]; exact wideL_all fun d hd => (h d hd).sh, ?_, ?_, ?_⟩
  · have := depthAll_le n ds fun d hd => (h d hd).de
    simp only [PyData.depth]
    omega
  · simp only [PyData.shown]
    rw [shownAll_eq]
    unfold listText
    rw [strLen_append]
    have h1 := textFrom_le L (ds.map PyData.shown) 0 "[" fun t ht => by
      obtain ⟨d, hd, rfl⟩ := List.mem_map.mp ht
      exact (h d hd).ln
    rw [List.length_map] at h1
    have e1 : ((("[" : String) : Str)).length = 1 := rfl
    have e3 : ((("]" : String) : Str)).length = 1 := rfl
    omega
  · simp only [PyData.shown]
    rw [shownAll_eq]
    unfold listText
    refine strOk_app (textFrom_ok _ _ _ (strOk_of _) fun t ht => ?_) (strOk_of _)
    obtain ⟨d, hd, rfl⟩ := List.mem_map.mp ht
    exact (h d hd).ok
theorem shw_rp {x : D} {d : PyData} {n l : Nat} {s : S} (hx : toPyD x s = some d) (h : Rp d n l) (hn : n ≤ 60) (hl : l ≤ sizeLine) : shwD [x] s = .ok (.p (.str d.shown)) s := by
  unfold shwD
  dsimp only
  rw [hx]
  exact if_pos ⟨h.sh, Nat.le_trans h.de hn, Nat.le_trans h.ln hl⟩
theorem toPys_fq : ∀ qs : List Rat, toPys (qs.map fq) = some (qs.map fqPy)
  | [] => rfl
  | q :: qs => by
    show (match toPy (fq q), toPys (qs.map fq) with
      | some d, some ds => some (d :: ds)
      | _, _ => none) = _
    rw [toPys_fq qs, toPy_fq]
    rfl
theorem toPy_tup {xs : List P} {ds : List PyData} (h : toPys xs = some ds) : toPy (.tup xs) = some (.tuple ds) := by
  show (toPys xs).map PyData.tuple = _
  rw [h]; rfl
theorem toPy_lst {xs : List P} {ds : List PyData} (h : toPys xs = some ds) : toPy (.lst xs) = some (.list ds) := by
  show (toPys xs).map PyData.list = _
  rw [h]; rfl
theorem toPys_nil : toPys [] = some [] := rfl
theorem toPys_cons {x : P} {xs : List P} {d : PyData} {ds : List PyData} (h : toPy x = some d) (h2 : toPys xs = some ds) : toPys (x :: xs) = some (d :: ds) := by
  show (match toPy x, toPys xs with
      | some d, some ds => some (d :: ds)
      | _, _ => none) = _
  rw [h, h2]
/-- a tuple of fractions shown -/
def shT (qs : List Rat) : Str := (PyData.tuple (qs.map fqPy)).shown
theorem Rp.tfq {qs : List Rat} (h : ∀ q ∈ qs, hz q ≤ 1900) : Rp (.tuple (qs.map fqPy)) 2 (4002 * qs.length + 3) := by
  have := Rp.tup (ds := qs.map fqPy) (n := 1) (L := 4000) fun d hd => by
    obtain ⟨q, hq, rfl⟩ := List.mem_map.mp hd
    exact Rp.fq (h q hq)
  rwa [List.length_map] at this
theorem shw_tfq {qs : List Rat} {s : S} (h : ∀ q ∈ qs, hz q ≤ 1900) (hl : qs.length ≤ 1000) : shwD [.p (.tup (qs.map fq))] s = .ok (.p (.str (shT qs))) s :=
  shw_rp (d := .tuple (qs.map fqPy)) (toPy_tup (toPys_fq qs)) (Rp.tfq h) (by decide) (by rw [sizeLine_eq]; omega)
theorem eq_str_same {x : Str} {s : S} (h : PyData.strOk x = true) : eqD false (.p (.str x)) (.p (.str x)) s = .ok (.p (.bl true)) s := by
  rw [eq_str _ _ _ _ h h]
  simp
theorem ne_str_same {x : Str} {s : S} (h : PyData.strOk x = true) : eqD true (.p (.str x)) (.p (.str x)) s = .ok (.p (.bl false)) s := by
  rw [eq_str _ _ _ _ h h]
  simp
end CW

end
section
set_option maxRecDepth 100000
set_option maxHeartbeats 2000000
namespace CW
open PySem PySem.Spec PyProof.Rows L2
/-- a loop that goes on or returns -/
theorem forL_or {tg : GF} {f : SF} (I : En → S → Prop) (T : D → S → Prop) : ∀ {xs : List P} {ρ : En} {s : S}, I ρ s → (∀ x ∈ xs, ∀ ρ s, I ρ s → ∃ ρ1 s1, tg (.p x) ρ s = .ok ρ1 s1 ∧ ((∃ ρ2 s2, f ρ1 s1 = .ok (.nx ρ2) s2 ∧ I ρ2 s2) ∨ ∃ d s2, f ρ1 s1 = .ok (.rt d) s2 ∧ T d s2)) →
    (∃ ρ' s', forL [] tg f xs ρ s = .ok (.nx ρ') s' ∧ I ρ' s') ∨ ∃ d s', forL [] tg f xs ρ s = .ok (.rt d) s' ∧ T d s'
  | [], ρ, s, h, _ => .inl ⟨ρ, s, forL_nil, h⟩
  | x :: xs, ρ, s, h, k => by
    obtain ⟨ρ1, s1, e1, ⟨ρ2, s2, e2, i2⟩ | ⟨d, s2, e2, t2⟩⟩ := k x List.mem_cons_self ρ s h
    · rcases forL_or I T i2 (fun y hy => k y (List.mem_cons_of_mem _ hy)) with ⟨ρ', s', e3, i3⟩ | ⟨d, s', e3, t3⟩
      · exact .inl ⟨ρ', s', by rw [forL_cons, e1, R.bind_ok, e2, R.bind_ok, fork_nx, e3], i3⟩
      · exact .inr ⟨d, s', by rw [forL_cons, e1, R.bind_ok, e2, R.bind_ok, fork_nx, e3], t3⟩
    · exact .inr ⟨d, s2, by rw [forL_cons, e1, R.bind_ok, e2, R.bind_ok, fork_rt], t2⟩
/-- a whole number over 60, at most 420 -/
def Sn (q : Rat) : Prop := ∃ N : Int, q * 60 = N ∧ N.natAbs ≤ 420
/-- left side less right side without a4, a6 -/
def vs (a b c x y : Rat) : Rat := y * y + a * x * y + c * y - x * x * x - b * x * x
def ev (a1 a2 a3 a4 a6 x y : Rat) : Rat := y * y + a1 * x * y + a3 * y - x * x * x - a2 * x * x - a4 * x - a6
theorem Sn.dg {q : Rat} (h : Sn q) : Dg 60 9 1 0 q := by
  obtain ⟨N, h1, h2⟩ := h
  exact ⟨N, by rw [Rat.pow_one]; exact h1, Nat.lt_of_le_of_lt h2 (by decide)⟩
theorem Sn.hz {q : Rat} (h : Sn q) : hz q ≤ 10 := h.dg.hz (by decide) (by decide)
theorem vs_dg {a b c x y : Rat} (ha : Sn a) (hb : Sn b) (hc : Sn c) (hx : Sn x) (hy : Sn y) : Dg 60 9 3 5 (vs a b c x y) :=
  (((((hy.dg.mul hy.dg).up (l := 3) (by decide) (d := 1)).add (((ha.dg.mul hx.dg).mul hy.dg).mono (d := 1))).add ((hc.dg.mul hy.dg).up (l := 3) (by decide) (d := 2))).sub (((hx.dg.mul hx.dg).mul hx.dg).mono (d := 3))).sub (((hb.dg.mul hx.dg).mul hx.dg).mono (d := 4))
/-- a curve through two points -/
structure Th (a1 a2 a3 a4 a6 x y f u : Rat) : Prop where
  cv : ∃ W, Cv W 44 a1 a2 a3 a4 a6
  ne : x ≠ f
  p1 : ev a1 a2 a3 a4 a6 x y = 0
  p2 : ev a1 a2 a3 a4 a6 f u = 0
  sx : Sn x
  sy : Sn y
  sf : Sn f
  su : Sn u
  sa : Sn a1
  sc : Sn a3
theorem th_ok {a b c x y f u : Rat} (ha : Sn a) (hb : Sn b) (hc : Sn c) (hx : Sn x) (hy : Sn y) (hf : Sn f) (hu : Sn u) (hne : x ≠ f) :
    Th a b c ((vs a b c x y - vs a b c f u) / (x - f)) (vs a b c x y - (vs a b c x y - vs a b c f u) / (x - f) * x) x y f u := by
  have hxf : x - f ≠ 0 := by grind
  refine ⟨?_, hne, ?_, ?_, hx, hy, hf, hu, ha, hc⟩
  · obtain ⟨O, o1, o2⟩ := vs_dg ha hb hc hx hy
    obtain ⟨E, e1, e2⟩ := (vs_dg ha hb hc hx hy).sub (vs_dg ha hb hc hf hu)
    obtain ⟨A, a1, a2⟩ := ha
    obtain ⟨B, b1, b2⟩ := hb
    obtain ⟨C, c1, c2⟩ := hc
    obtain ⟨X, x1, x2⟩ := hx
    obtain ⟨F, f1, f2⟩ := hf
    have hM : ((X - F : Int) : Rat) = (x - f) * 60 := by
      rw [show X - F = X + -F by omega, rc_add, rc_neg, ← x1, ← f1]; grind
    have hM0 : X - F ≠ 0 := fun h => by
      rw [h] at hM
      have : (x - f) * 60 = 0 := by rw [← hM]; rfl
      grind
    have hMs : szi (X - F) 10 := Nat.lt_of_le_of_lt (show (X - F).natAbs ≤ 840 by omega) (by decide)
    have hWc : ((216000 * (X - F) : Int) : Rat) = 216000 * ((x - f) * 60) := by rw [rc_mul, hM]; rfl
    have e60 : (60 : Int) = ((60 : Int)) := rfl
    have p3 : ((60 : Int) : Rat) ^ 3 = 216000 := by
      have : ((60 : Int) : Rat) = 60 := rfl
      rw [this]; decide
    rw [p3] at o1 e1
    refine ⟨216000 * (X - F), Int.mul_ne_zero (by decide) hM0, ((show szi 216000 18 by decide).mul hMs).mono (by decide), ?_, ?_, ?_, ?_, ?_⟩
    · refine ⟨A * (3600 * (X - F)), ?_, (((show szi A 9 from Nat.lt_of_le_of_lt a2 (by decide))).mul ((show szi 3600 12 by decide).mul hMs)).mono (by decide)⟩
      rw [Rat.pow_one, hWc, rc_mul, rc_mul, hM, ← a1, show ((3600 : Int) : Rat) = 3600 from rfl]; grind
    · refine ⟨B * (3600 * (X - F)), ?_, (((show szi B 9 from Nat.lt_of_le_of_lt b2 (by decide))).mul ((show szi 3600 12 by decide).mul hMs)).mono (by decide)⟩
      rw [Rat.pow_one, hWc, rc_mul, rc_mul, hM, ← b1, show ((3600 : Int) : Rat) = 3600 from rfl]; grind
    · refine ⟨C * (3600 * (X - F)), ?_, (((show szi C 9 from Nat.lt_of_le_of_lt c2 (by decide))).mul ((show szi 3600 12 by decide).mul hMs)).mono (by decide)⟩
      rw [Rat.pow_one, hWc, rc_mul, rc_mul, hM, ← c1, show ((3600 : Int) : Rat) = 3600 from rfl]; grind
    · refine ⟨60 * E, ?_, ((show szi 60 6 by decide).mul e2).mono (by decide)⟩
      rw [Rat.pow_one, hWc, rc_mul, ← e1, show ((60 : Int) : Rat) = 60 from rfl]; grind
    · refine ⟨O * (X - F) - E * X, ?_, ((o2.mul hMs).sub ((e2.mul (show szi X 9 from Nat.lt_of_le_of_lt x2 (by decide))))).mono (by decide)⟩
      rw [Rat.pow_one, hWc, show O * (X - F) - E * X = O * (X - F) + -(E * X) by omega, rc_add, rc_neg, rc_mul, rc_mul, hM, ← o1, ← e1, ← x1]; grind
  · unfold ev vs; grind
  · have hd : (vs a b c x y - vs a b c f u) / (x - f) * (x - f) = vs a b c x y - vs a b c f u := Rat.div_mul_cancel hxf
    generalize (vs a b c x y - vs a b c f u) / (x - f) = d at *
    unfold vs at hd
    unfold ev vs
    grind
theorem th_0 : Th 0 0 1 (-1) 0 0 0 1 0 := by
  refine ⟨⟨1, by decide +kernel, by decide +kernel, ?_, ?_, ?_, ?_, ?_⟩, by decide +kernel, by decide +kernel, by decide +kernel, ⟨0, by decide +kernel, by decide +kernel⟩, ⟨0, by decide +kernel, by decide +kernel⟩, ⟨60, by decide +kernel, by decide +kernel⟩, ⟨0, by decide +kernel, by decide +kernel⟩, ⟨0, by decide +kernel, by decide +kernel⟩, ⟨60, by decide +kernel, by decide +kernel⟩⟩
  · exact ⟨0, by decide +kernel, by decide +kernel⟩
  · exact ⟨0, by decide +kernel, by decide +kernel⟩
  · exact ⟨1, by decide +kernel, by decide +kernel⟩
  · exact ⟨-1, by decide +kernel, by decide +kernel⟩
  · exact ⟨0, by decide +kernel, by decide +kernel⟩
end CW

end
section
set_option maxRecDepth 100000
set_option maxHeartbeats 2000000
namespace CW
open PySem PySem.Spec PyProof.Rows L2
def isIn : P → Bool
  | .int _ => true
  | _ => false
def isTu : P → Bool
  | .tup _ => true
  | _ => false
theorem isi_fq_int (q : Rat) (s : S) : isiD [.p (fq q), .p (.ty "int")] s = .ok (.p (.bl (isIn (fq q)))) s := by
  unfold fq
  split <;> simp [isIn]
theorem isi_fq_tup (q : Rat) (s : S) : isiD [.p (fq q), .p (.ty "tuple")] s = .ok (.p (.bl (isTu (fq q)))) s := by
  unfold fq
  split <;> simp [isTu]
theorem isTu_fq (q : Rat) : isTu (fq q) = !isIn (fq q) := by
  unfold fq
  split <;> rfl
theorem canLay_fq (q : Rat) : (fqPy q).canLay0 = true := (Bool.and_eq_true_iff.mp (shaped_fq q)).1
theorem canLayAll_eq : ∀ ds : List PyData, (∀ d ∈ ds, d.canLay0 = true) → PyData.canLayAll0 ds = true
  | [], _ => by simp [PyData.canLayAll0]
  | d :: ds, h => by simp [PyData.canLayAll0, h d List.mem_cons_self, canLayAll_eq ds fun x hx => h x (List.mem_cons_of_mem _ hx)]
theorem shaped_fl (qs : List Rat) : SeqAt.shaped (.list (qs.map fqPy)) = true := by
  unfold SeqAt.shaped
  have h1 : PyData.canLayAll0 (qs.map fqPy) = true := canLayAll_eq _ fun d hd => by
    obtain ⟨q, _, rfl⟩ := List.mem_map.mp hd
    exact canLay_fq q
  have h2 := depthAll_le 60 (qs.map fqPy) fun d hd => by
    obtain ⟨q, _, rfl⟩ := List.mem_map.mp hd
    exact depth_fq q
  have h3 : (PyData.list (qs.map fqPy)).canLay0 = true := by simp only [PyData.canLay0]; exact h1
  have h4 : (PyData.list (qs.map fqPy)).depth ≤ 64 := by simp only [PyData.depth]; exact Nat.le_trans (Nat.succ_le_succ h2) (by decide)
  rw [h3]
  exact decide_eq_true h4
theorem eq_fl_nil (qs : List Rat) (s : S) : eqD false (.p (.lst (qs.map fq))) (.p (.lst [])) s = .ok (.p (.bl qs.isEmpty)) s := by
  rw [eq_dat false (d := .list (qs.map fqPy)) (e := .list []) (by exact toPy_lst (toPys_fq qs)) rfl ⟨shaped_fl qs, rfl⟩]
  cases qs with
  | nil => rfl
  | cons q qs =>
    have : PyData.eqv (.list ((q :: qs).map fqPy)) (.list []) = false := by simp [PyData.eqv, PyData.eqvAll]
    rw [this]; rfl
def shB (b : Bool) : Str := (PyData.bool b).shown
theorem shw_bl (b : Bool) (s : S) : shwD [.p (.bl b)] s = .ok (.p (.str (shB b))) s := shw_rp (d := .bool b) rfl (Rp.bl b) (by decide) (by decide)
theorem strOk_shB (b : Bool) : PyData.strOk (shB b) = true := (Rp.bl b).ok
end CW

end
section
set_option maxRecDepth 100000
set_option maxHeartbeats 2000000
/-! changes, plain -/
namespace CW
open PySem PySem.Spec PyProof.Rows L2
section
variable (a1 a2 a3 a4 a6 v r s t : Rat)
def l1 : Rat := (a1 + 2 * s) * v
def l2 : Rat := (a2 - s * a1 + 3 * r - s * s) * v * v
def l3 : Rat := (a3 + r * a1 + 2 * t) * v * v * v
def l4 : Rat := (a4 - s * a3 + 2 * r * a2 - t * a1 - r * s * a1 + 3 * r * r - 2 * s * t) * v * v * v * v
def l6 : Rat := (a6 + r * a4 + r * r * a2 + r * r * r - t * a3 - t * t - r * t * a1) * v * v * v * v * v * v
end
section
variable {a1 a2 a3 a4 a6 v r s t : Rat}
theorem b2_led : b2 (l1 a1 v s) (l2 a1 a2 v r s) (l3 a1 a3 v r t) (l4 a1 a2 a3 a4 v r s t) (l6 a1 a2 a3 a4 a6 v r t) = (b2 a1 a2 a3 a4 a6 + 12 * r) * v ^ 2 := by unfold b2 l1 l2; grind
theorem b4_led : b4 (l1 a1 v s) (l2 a1 a2 v r s) (l3 a1 a3 v r t) (l4 a1 a2 a3 a4 v r s t) (l6 a1 a2 a3 a4 a6 v r t) = (b4 a1 a2 a3 a4 a6 + r * b2 a1 a2 a3 a4 a6 + 6 * r ^ 2) * v ^ 4 := by unfold b4 b2 l1 l3 l4; grind
theorem b6_led : b6 (l1 a1 v s) (l2 a1 a2 v r s) (l3 a1 a3 v r t) (l4 a1 a2 a3 a4 v r s t) (l6 a1 a2 a3 a4 a6 v r t) = (b6 a1 a2 a3 a4 a6 + 2 * r * b4 a1 a2 a3 a4 a6 + r ^ 2 * b2 a1 a2 a3 a4 a6 + 4 * r ^ 3) * v ^ 6 := by unfold b6 b4 b2 l3 l6; grind
theorem b8_rel : b2 a1 a2 a3 a4 a6 * b6 a1 a2 a3 a4 a6 - b4 a1 a2 a3 a4 a6 * b4 a1 a2 a3 a4 a6 = 4 * b8 a1 a2 a3 a4 a6 := by unfold b2 b4 b6 b8; grind
theorem b8_is : b8 a1 a2 a3 a4 a6 = (b2 a1 a2 a3 a4 a6 * b6 a1 a2 a3 a4 a6 - b4 a1 a2 a3 a4 a6 * b4 a1 a2 a3 a4 a6) / 4 := by rw [b8_rel]; grind
theorem dd_led : dd (l1 a1 v s) (l2 a1 a2 v r s) (l3 a1 a3 v r t) (l4 a1 a2 a3 a4 v r s t) (l6 a1 a2 a3 a4 a6 v r t) = dd a1 a2 a3 a4 a6 * v ^ 12 := by
  unfold dd dD
  rw [b8_is, b8_is, b2_led, b4_led, b6_led]
  generalize b2 a1 a2 a3 a4 a6 = p
  generalize b4 a1 a2 a3 a4 a6 = q
  generalize b6 a1 a2 a3 a4 a6 = w
  grind
theorem c4_led : c4 (l1 a1 v s) (l2 a1 a2 v r s) (l3 a1 a3 v r t) (l4 a1 a2 a3 a4 v r s t) (l6 a1 a2 a3 a4 a6 v r t) = c4 a1 a2 a3 a4 a6 * v ^ 4 := by
  unfold c4
  rw [b2_led, b4_led]
  grind
theorem c6_led : c6 (l1 a1 v s) (l2 a1 a2 v r s) (l3 a1 a3 v r t) (l4 a1 a2 a3 a4 v r s t) (l6 a1 a2 a3 a4 a6 v r t) = c6 a1 a2 a3 a4 a6 * v ^ 6 := by
  unfold c6
  rw [b2_led, b4_led, b6_led]
  grind
end
section
variable {a1 a2 a3 a4 a6 u v r s t v' r' s' t' : Rat} (h : u * v = 1)
include h
theorem l1_both : l1 (l1 a1 v s) v' s' = l1 a1 (v * v') (u * s' + s) := by unfold l1; grind
theorem l2_both : l2 (l1 a1 v s) (l2 a1 a2 v r s) v' r' s' = l2 a1 a2 (v * v') (u * u * r' + r) (u * s' + s) := by unfold l2 l1; grind
theorem l3_both : l3 (l1 a1 v s) (l3 a1 a3 v r t) v' r' t' = l3 a1 a3 (v * v') (u * u * r' + r) (u * u * u * t' + s * u * u * r' + t) := by unfold l3 l1; grind
theorem l4_both : l4 (l1 a1 v s) (l2 a1 a2 v r s) (l3 a1 a3 v r t) (l4 a1 a2 a3 a4 v r s t) v' r' s' t' = l4 a1 a2 a3 a4 (v * v') (u * u * r' + r) (u * s' + s) (u * u * u * t' + s * u * u * r' + t) := by unfold l4 l3 l2 l1; grind
theorem l6_both : l6 (l1 a1 v s) (l2 a1 a2 v r s) (l3 a1 a3 v r t) (l4 a1 a2 a3 a4 v r s t) (l6 a1 a2 a3 a4 a6 v r t) v' r' t' = l6 a1 a2 a3 a4 a6 (v * v') (u * u * r' + r) (u * u * u * t' + s * u * u * r' + t) := by unfold l6 l4 l3 l2 l1; grind
end
end CW

end
section
set_option maxRecDepth 100000
set_option maxHeartbeats 2000000
/-! changes: sizes -/
namespace CW
open PySem PySem.Spec PyProof.Rows L2
theorem rc_sub (a b : Int) : ((a - b : Int) : Rat) = (a : Rat) - b := Rat.intCast_sub a b
/-- the sizes of a change: r, s, t over V of m bits, 1 / u over U of p bits -/
structure Cg (V U : Int) (m p : Nat) (v r s t : Rat) : Prop where
  V0 : V ≠ 0
  U0 : U ≠ 0
  hV : szi V m
  hU : szi U p
  hv : Dg U p 1 0 v
  hr : Dg V m 1 0 r
  hs : Dg V m 1 0 s
  ht : Dg V m 1 0 t
theorem szi.sum {i j : Int} {a b c : Nat} (hi : szi i a) (hj : szi j b) (ha : a + 1 ≤ c := by omega) (hb : b + 1 ≤ c := by omega) : szi (i + j) c := by
  have h1 := hi.mono (show a ≤ c - 1 by omega)
  have h2 := hj.mono (show b ≤ c - 1 by omega)
  have := h1.add h2
  rwa [show c - 1 + 1 = c by omega] at this
theorem szi.dif {i j : Int} {a b c : Nat} (hi : szi i a) (hj : szi j b) (ha : a + 1 ≤ c := by omega) (hb : b + 1 ≤ c := by omega) : szi (i - j) c := by
  rw [Int.sub_eq_add_neg]
  exact hi.sum hj.neg
theorem Cv.led {W V U : Int} {n m p : Nat} {a1 a2 a3 a4 a6 v r s t : Rat} (c : Cv W n a1 a2 a3 a4 a6) (g : Cg V U m p v r s t) (hm : 1 ≤ m) (hp : 1 ≤ p) :
    Cv (W * (V * V * V) * (U * U * U * U * U * U)) (n + 3 * m + 6 * p + 4) (l1 a1 v s) (l2 a1 a2 v r s) (l3 a1 a3 v r t) (l4 a1 a2 a3 a4 v r s t) (l6 a1 a2 a3 a4 a6 v r t) := by
  obtain ⟨A1, e1, k1⟩ := c.h1
  obtain ⟨A2, e2, k2⟩ := c.h2
  obtain ⟨A3, e3, k3⟩ := c.h3
  obtain ⟨A4, e4, k4⟩ := c.h4
  obtain ⟨A6, e6, k6⟩ := c.h6
  obtain ⟨X, ev, kv⟩ := g.hv
  obtain ⟨R, er, kr⟩ := g.hr
  obtain ⟨S, es, ks⟩ := g.hs
  obtain ⟨T, et, kt⟩ := g.ht
  have hW := c.hw
  have hV := g.hV
  have hU := g.hU
  rw [Rat.pow_one] at e1 e2 e3 e4 e6 ev er es et
  have k1 : szi A1 n := k1.mono (by omega)
  have k2 : szi A2 n := k2.mono (by omega)
  have k3 : szi A3 n := k3.mono (by omega)
  have k4 : szi A4 n := k4.mono (by omega)
  have k6 : szi A6 n := k6.mono (by omega)
  have kv : szi X p := kv.mono (by omega)
  have kr : szi R m := kr.mono (by omega)
  have ks : szi S m := ks.mono (by omega)
  have kt : szi T m := kt.mono (by omega)
  have two : szi 2 2 := by decide
  have three : szi 3 2 := by decide
  refine ⟨Int.mul_ne_zero (Int.mul_ne_zero c.W0 (Int.mul_ne_zero (Int.mul_ne_zero g.V0 g.V0) g.V0)) (Int.mul_ne_zero (Int.mul_ne_zero (Int.mul_ne_zero (Int.mul_ne_zero (Int.mul_ne_zero g.U0 g.U0) g.U0) g.U0) g.U0) g.U0), ?_, ?_, ?_, ?_, ?_, ?_⟩
  · exact ((hW.mul ((hV.mul hV).mul hV)).mul (((((hU.mul hU).mul hU).mul hU).mul hU).mul hU)).mono (by omega)
  · refine ⟨(A1 * V + 2 * S * W) * X * (V * V) * (U * U * U * U * U), ?_, ?_⟩
    · rw [Rat.pow_one]
      simp only [rc_mul, rc_add, rc_sub, ← e1, ← e2, ← e3, ← e4, ← e6, ← ev, ← er, ← es, ← et]
      unfold l1; grind
    · exact (((((k1.mul hV).sum ((two.mul ks).mul hW) (c := n + m + 3)).mul kv).mul (hV.mul hV)).mul ((((hU.mul hU).mul hU).mul hU).mul hU)).mono (by omega)
  · refine ⟨(A2 * V * V - S * A1 * V + 3 * R * V * W - S * S * W) * (X * X) * V * (U * U * U * U), ?_, ?_⟩
    · rw [Rat.pow_one]
      simp only [rc_mul, rc_add, rc_sub, ← e1, ← e2, ← e3, ← e4, ← e6, ← ev, ← er, ← es, ← et]
      unfold l2; grind
    · exact (((((((k2.mul hV).mul hV).dif ((ks.mul k1).mul hV) (c := n + 2 * m + 1)).sum (((three.mul kr).mul hV).mul hW) (c := n + 2 * m + 3)).dif ((ks.mul ks).mul hW) (c := n + 2 * m + 4)).mul (kv.mul kv)).mul hV |>.mul (((hU.mul hU).mul hU).mul hU)).mono (by omega)
  · refine ⟨(A3 * V + R * A1 + 2 * T * W) * (X * X * X) * (V * V) * (U * U * U), ?_, ?_⟩
    · rw [Rat.pow_one]
      simp only [rc_mul, rc_add, rc_sub, ← e1, ← e2, ← e3, ← e4, ← e6, ← ev, ← er, ← es, ← et]
      unfold l3; grind
    · exact ((((((k3.mul hV).sum (kr.mul k1) (c := n + m + 1)).sum ((two.mul kt).mul hW) (c := n + m + 3)).mul ((kv.mul kv).mul kv)).mul (hV.mul hV)).mul ((hU.mul hU).mul hU)).mono (by omega)
  · refine ⟨(A4 * V * V - S * A3 * V + 2 * R * A2 * V - T * A1 * V - R * S * A1 + 3 * R * R * W - 2 * S * T * W) * (X * X * X * X) * V * (U * U), ?_, ?_⟩
    · rw [Rat.pow_one]
      simp only [rc_mul, rc_add, rc_sub, ← e1, ← e2, ← e3, ← e4, ← e6, ← ev, ← er, ← es, ← et]
      unfold l4; grind
    · have q1 : szi (A4 * V * V - S * A3 * V) (n + 2 * m + 1) := ((k4.mul hV).mul hV).dif ((ks.mul k3).mul hV)
      have q2 : szi (- T * A1 * V - R * S * A1) (n + 2 * m + 1) := ((kt.neg.mul k1).mul hV).dif ((kr.mul ks).mul k1)
      have two1 : ∀ {x : Int} {b : Nat}, szi x b → szi (2 * x) (b + 1) := fun {x b} h => by
        unfold szi at *
        rw [Int.natAbs_mul, Nat.pow_succ, show Int.natAbs 2 = 2 from rfl]
        omega
      have q3 : szi (2 * (R * A2 * V - S * T * W)) (n + 2 * m + 2) := two1 (((kr.mul k2).mul hV).dif ((ks.mul kt).mul hW) (c := n + 2 * m + 1) (by omega) (by omega))
      have q4 : szi (3 * R * R * W) (n + 2 * m + 2) := (((three.mul kr).mul kr).mul hW).mono (by omega)
      have q5 : szi (A4 * V * V - S * A3 * V + 2 * R * A2 * V - T * A1 * V - R * S * A1 + 3 * R * R * W - 2 * S * T * W) (n + 2 * m + 4) := by
        have e : A4 * V * V - S * A3 * V + 2 * R * A2 * V - T * A1 * V - R * S * A1 + 3 * R * R * W - 2 * S * T * W = ((A4 * V * V - S * A3 * V) + (- T * A1 * V - R * S * A1)) + 2 * (R * A2 * V - S * T * W) + 3 * R * R * W := by grind
        rw [e]
        exact ((q1.sum q2 (c := n + 2 * m + 2)).sum q3 (c := n + 2 * m + 3)).sum q4
      exact (((q5.mul (((kv.mul kv).mul kv).mul kv)).mul hV).mul (hU.mul hU)).mono (by omega)
  · refine ⟨(A6 * V * V * V + R * A4 * V * V + R * R * A2 * V + R * R * R * W - T * A3 * V * V - T * T * V * W - R * T * A1 * V) * (X * X * X * X * X * X), ?_, ?_⟩
    · rw [Rat.pow_one]
      simp only [rc_mul, rc_add, rc_sub, ← e1, ← e2, ← e3, ← e4, ← e6, ← ev, ← er, ← es, ← et]
      unfold l6; grind
    · have q1 : szi (A6 * V * V * V + R * A4 * V * V) (n + 3 * m + 1) := (((k6.mul hV).mul hV).mul hV).sum (((kr.mul k4).mul hV).mul hV)
      have q2 : szi (R * R * A2 * V + R * R * R * W) (n + 3 * m + 1) := (((kr.mul kr).mul k2).mul hV).sum (((kr.mul kr).mul kr).mul hW)
      have q3 : szi (T * A3 * V * V + T * T * V * W) (n + 3 * m + 1) := (((kt.mul k3).mul hV).mul hV).sum (((kt.mul kt).mul hV).mul hW)
      have q4 : szi (R * T * A1 * V) (n + 3 * m) := (((kr.mul kt).mul k1).mul hV).mono (by omega)
      have q5 : szi (A6 * V * V * V + R * A4 * V * V + R * R * A2 * V + R * R * R * W - T * A3 * V * V - T * T * V * W - R * T * A1 * V) (n + 3 * m + 3) := by
        have e : A6 * V * V * V + R * A4 * V * V + R * R * A2 * V + R * R * R * W - T * A3 * V * V - T * T * V * W - R * T * A1 * V = ((A6 * V * V * V + R * A4 * V * V) + (R * R * A2 * V + R * R * R * W)) - ((T * A3 * V * V + T * T * V * W) + R * T * A1 * V) := by grind
        rw [e]
        exact (q1.sum q2 (c := n + 3 * m + 2)).dif (q3.sum q4 (c := n + 3 * m + 2))
      exact (q5.mul (((((kv.mul kv).mul kv).mul kv).mul kv).mul kv)).mono (by omega)
/-- the powers that by_power goes through -/
theorem hz_pow (v : Rat) : ∀ k, hz (v ^ k) ≤ 1 + k * hz v
  | 0 => by
    rw [Rat.pow_zero]
    have : hz 1 = 1 := by decide
    omega
  | k + 1 => by
    have h := hz_pow v k
    have := hz_mul (v ^ k) v
    rw [Rat.pow_succ, Nat.succ_mul]
    omega
end CW

end
section
set_option maxRecDepth 100000
set_option maxHeartbeats 2000000
namespace CW
open PySem PySem.Spec PyProof.Rows L2
section
variable {ρ : En} {s : S} {xs : List P} {m ma mb : EF}
theorem r1_ev (ms : List EF) (ρ : En) (s : S) (j : Int) (s1 : S) (h : evA ms ρ s = .ok [.p (.int j)] s1) (h1 : -4611686018427387904 ≤ j) (h2 : j < 4611686018427387904) : r1I ms ρ s = .ok (ranP 0 j.toNat, []) s1 := by
  unfold r1I
  rw [bnd_ev, h, R.bind_ok]
  exact if_pos ⟨h1, h2⟩
@[simp] theorem tupk_7 (f : List P → P) (a b c d e e1 e2 : P) : tupk f [.p a, .p b, .p c, .p d, .p e, .p e1, .p e2] s = .ok (.p (f [a, b, c, d, e, e1, e2])) s := rfl
@[simp] theorem tupk_9 (f : List P → P) (a b c d e e1 e2 e3 e4 : P) : tupk f [.p a, .p b, .p c, .p d, .p e, .p e1, .p e2, .p e3, .p e4] s = .ok (.p (f [a, b, c, d, e, e1, e2, e3, e4])) s := rfl
@[simp] theorem tupk_10 (f : List P → P) (a b c d e e1 e2 e3 e4 e5 : P) : tupk f [.p a, .p b, .p c, .p d, .p e, .p e1, .p e2, .p e3, .p e4, .p e5] s = .ok (.p (f [a, b, c, d, e, e1, e2, e3, e4, e5])) s := rfl
def lck (k : M (List P)) : D → M (List P) := fun d s => match d with
  | .p y => R.bind (k s) fun r s' => .ok (y :: r) s'
  | .obj _ => .bad
@[simp] theorem lck_p (k : M (List P)) (y : P) : lck k (.p y) s = R.bind (k s) fun r s' => .ok (y :: r) s' := rfl
theorem lcL_cons {own : List Nat} {tg : GF} (x : P) : lcL own [] tg yesT m ρ (x :: xs) s = R.bind (tg (.p x) (wipE ρ own) s) fun ρ1 s1 => R.bind (m ρ1 s1) (lck (lcL own [] tg yesT m ρ xs)) := by
  conv => lhs; unfold lcL
  rw [gok_tru, if_pos trivial, bnd_ev]
  congr
  funext ρ1 s1
  rw [bnd_ev]
  show R.bind (R.ok true s1) _ = _
  rw [R.bind_ok, if_pos rfl, bnd_ev]
  congr
  funext d s2
  cases d with
  | obj n => rfl
  | p y =>
    show bnd _ _ _ = _
    rw [bnd_ev]
    rfl
@[simp] theorem tup_lst (xs : List P) : tupD [.p (.lst xs)] s = .ok (.p (.tup xs)) s := rfl
theorem zimI_ev {xs ys : List P} {s1 s2 : S} (h1 : ma ρ s = .ok (.p (.lst xs)) s1) (h2 : mb ρ s1 = .ok (.p (.tup ys)) s2) : zimI ma mb ρ s = .ok (zipP xs ys, []) s2 := by
  unfold zimI
  rw [bnd_ev, h1, R.bind_ok, bnd_ev, h2]
  rfl
end
end CW

end
section
set_option maxRecDepth 100000
set_option maxHeartbeats 2000000
namespace CW
open PySem PySem.Spec PyProof.Rows L2
mutual
theorem eqv_refl : ∀ d : PyData, d.hasDict = false → PyData.eqv d d = true
  | .none, _ => by unfold PyData.eqv; rfl
  | .bool b, _ => by unfold PyData.eqv; simp
  | .int i, _ => by unfold PyData.eqv; simp
  | .str x, _ => by unfold PyData.eqv; simp
  | .list xs, h => by
    unfold PyData.eqv
    exact eqvAll_refl xs (by simpa only [PyData.hasDict] using h)
  | .tuple xs, h => by
    unfold PyData.eqv
    exact eqvAll_refl xs (by simpa only [PyData.hasDict] using h)
  | .dict kvs, h => by simp [PyData.hasDict] at h
theorem eqvAll_refl : ∀ ds : List PyData, PyData.hasDictAll ds = false → PyData.eqvAll ds ds = true
  | [], _ => by unfold PyData.eqvAll; rfl
  | d :: ds, h => by
    simp only [PyData.hasDictAll, Bool.or_eq_false_iff] at h
    unfold PyData.eqvAll
    rw [eqv_refl d h.1, eqvAll_refl ds h.2]
    rfl
end
/-- data that may be compared: at most n deep -/
structure Cp (d : PyData) (n : Nat) : Prop where
  lay : d.canLay0 = true
  nd : d.hasDict = false
  de : d.depth ≤ n
theorem Cp.fq (q : Rat) : Cp (fqPy q) 60 := ⟨canLay_fq q, noDict_fq q, depth_fq q⟩
theorem Cp.fq1 (q : Rat) : Cp (fqPy q) 1 := by
  refine ⟨canLay_fq q, noDict_fq q, ?_⟩
  unfold fqPy
  split <;> simp [PyData.depth, PyData.depthAll]
theorem Cp.tup {ds : List PyData} {n : Nat} (h : ∀ d ∈ ds, Cp d n) : Cp (.tuple ds) (n + 1) := by
  refine ⟨by simp only [PyData.canLay0]; exact canLayAll_eq ds fun d hd => (h d hd).lay, by simp only [PyData.hasDict]; exact hasDictAll_eq ds fun d hd => (h d hd).nd, ?_⟩
  have := depthAll_le n ds fun d hd => (h d hd).de
  simp only [PyData.depth]
  omega
theorem Cp.lst {ds : List PyData} {n : Nat} (h : ∀ d ∈ ds, Cp d n) : Cp (.list ds) (n + 1) := by
  refine ⟨by simp only [PyData.canLay0]; exact canLayAll_eq ds fun d hd => (h d hd).lay, by simp only [PyData.hasDict]; exact hasDictAll_eq ds fun d hd => (h d hd).nd, ?_⟩
  have := depthAll_le n ds fun d hd => (h d hd).de
  simp only [PyData.depth]
  omega
theorem Cp.shaped {d : PyData} {n : Nat} (h : Cp d n) (hn : n ≤ 64) : SeqAt.shaped d = true := by
  unfold SeqAt.shaped
  rw [h.lay]
  exact decide_eq_true (Nat.le_trans h.de hn)
theorem eq_same {x y : D} {d : PyData} {n : Nat} {s : S} (neg : Bool) (hx : toPyD x s = some d) (hy : toPyD y s = some d) (h : Cp d n) (hn : n ≤ 64) : eqD neg x y s = .ok (.p (.bl (!neg))) s := by
  rw [eq_dat neg hx hy ⟨h.shaped hn, h.shaped hn⟩, eqv_refl d h.nd]
  cases neg <;> rfl
theorem Cp.tfq (qs : List Rat) : Cp (.tuple (qs.map fqPy)) 2 := Cp.tup fun d hd => by
  obtain ⟨q, _, rfl⟩ := List.mem_map.mp hd
  exact Cp.fq1 q
theorem ne_tfq (qs : List Rat) (s : S) : eqD true (.p (.tup (qs.map fq))) (.p (.tup (qs.map fq))) s = .ok (.p (.bl false)) s :=
  eq_same true (toPy_tup (toPys_fq qs)) (toPy_tup (toPys_fq qs)) (Cp.tfq qs) (by decide)
theorem ne_tfq2 (qs ps : List Rat) (s : S) : eqD true (.p (.lst [.tup (qs.map fq), .tup (ps.map fq)])) (.p (.lst [.tup (qs.map fq), .tup (ps.map fq)])) s = .ok (.p (.bl false)) s := by
  have h : toPyD (.p (.lst [.tup (qs.map fq), .tup (ps.map fq)])) s = some (.list [.tuple (qs.map fqPy), .tuple (ps.map fqPy)]) :=
    toPy_lst (toPys_cons (toPy_tup (toPys_fq qs)) (toPys_cons (toPy_tup (toPys_fq ps)) toPys_nil))
  refine eq_same true h h (n := 3) (Cp.lst fun d hd => ?_) (by decide)
  simp at hd
  rcases hd with rfl | rfl
  · exact Cp.tfq qs
  · exact Cp.tfq ps
end CW

end
section
set_option maxRecDepth 100000
set_option maxHeartbeats 2000000
/-! plain: primes, how often they divide -/
namespace CW
/-- a prime number -/
def Pm (p : Int) : Prop := 2 ≤ p ∧ ∀ d : Int, 1 ≤ d → d ∣ p → d = 1 ∨ d = p
theorem Pm.cop {p a : Int} (h : Pm p) (ha : ¬ p ∣ a) : Int.gcd p a = 1 := by
  have h0 : Int.gcd p a ≠ 0 := fun z => by
    have := (Int.gcd_eq_zero_iff.mp z).1
    have := h.1
    omega
  rcases h.2 (Int.gcd p a) (by omega) (Int.gcd_dvd_left ..) with e | e
  · omega
  · exact absurd (e ▸ Int.gcd_dvd_right p a) ha
theorem dvd_of_cop {p a b : Int} (h : Int.gcd p a = 1) (hd : p ∣ a * b) : p ∣ b := by
  have h1 : Nat.Coprime p.natAbs a.natAbs := h
  have h2 : p.natAbs ∣ a.natAbs * b.natAbs := by
    rw [← Int.natAbs_mul]
    exact Int.natAbs_dvd_natAbs.mpr hd
  exact Int.natAbs_dvd_natAbs.mp (h1.dvd_of_dvd_mul_left h2)
theorem Pm.mul {p a b : Int} (h : Pm p) (hd : p ∣ a * b) : p ∣ a ∨ p ∣ b := by
  by_cases ha : p ∣ a
  · exact Or.inl ha
  · exact Or.inr (dvd_of_cop (h.cop ha) hd)
theorem Pm.pow {p a : Int} (h : Pm p) : ∀ {k : Nat}, p ∣ a ^ k → p ∣ a
  | 0, hd => by
    rw [Int.pow_zero] at hd
    have := Int.le_of_dvd (by decide) hd
    have := h.1
    omega
  | k + 1, hd => by
    rw [Int.pow_succ] at hd
    rcases h.mul hd with z | z
    · exact h.pow z
    · exact z
/-- p divides n just k times -/
def Vl (p n : Int) (k : Nat) : Prop := ∃ m, n = m * p ^ k ∧ ¬ p ∣ m
section
variable {p n a b : Int} {k l : Nat}
theorem Vl.ex (hp : 2 ≤ p) : ∀ (f : Nat) (n : Int), n.natAbs < f → n ≠ 0 → ∃ k, Vl p n k
  | 0, n, h, _ => absurd h (Nat.not_lt_zero _)
  | f + 1, n, h, h0 => by
    by_cases hd : p ∣ n
    · obtain ⟨m, rfl⟩ := hd
      have hm : m ≠ 0 := fun z => h0 (by rw [z, Int.mul_zero])
      have hl : m.natAbs < f := by
        rw [Int.natAbs_mul] at h
        have h1 : 2 ≤ p.natAbs := by omega
        have h2 : 2 * m.natAbs ≤ p.natAbs * m.natAbs := Nat.mul_le_mul_right _ h1
        omega
      obtain ⟨k, m', e, nd⟩ := Vl.ex hp f m hl hm
      exact ⟨k + 1, m', by rw [e, Int.pow_succ]; grind, nd⟩
    · exact ⟨0, n, by rw [Int.pow_zero, Int.mul_one], hd⟩
theorem Vl.get (hp : 2 ≤ p) (h0 : n ≠ 0) : ∃ k, Vl p n k := Vl.ex hp _ n (Nat.lt_succ_self _) h0
theorem pow_nz (hp : 2 ≤ p) (k : Nat) : p ^ k ≠ 0 := Int.pow_ne_zero (by omega)
theorem Vl.le (hp : 2 ≤ p) (h : Vl p n k) (h' : Vl p n l) : l ≤ k := by
  obtain ⟨m, e, nd⟩ := h
  obtain ⟨m', e', _⟩ := h'
  refine Nat.le_of_not_lt fun hlt => nd ?_
  obtain ⟨j, rfl⟩ : ∃ j, l = k + (j + 1) := ⟨l - k - 1, by omega⟩
  have h1 : m * p ^ k = (m' * p ^ j * p) * p ^ k := by
    rw [← e, e', Int.pow_add, Int.pow_succ]; grind
  have h2 := Int.mul_eq_mul_right_iff (pow_nz hp k) |>.mp h1
  exact ⟨m' * p ^ j, by rw [h2]; grind⟩
theorem Vl.uniq (hp : 2 ≤ p) (h : Vl p n k) (h' : Vl p n l) : k = l := Nat.le_antisymm (Vl.le hp h' h) (Vl.le hp h h')
theorem Vl.mul (hp : Pm p) (ha : Vl p a k) (hb : Vl p b l) : Vl p (a * b) (k + l) := by
  obtain ⟨m, rfl, h1⟩ := ha
  obtain ⟨m', rfl, h2⟩ := hb
  refine ⟨m * m', by rw [Int.pow_add]; grind, fun hd => ?_⟩
  rcases hp.mul hd with z | z
  · exact h1 z
  · exact h2 z
theorem Vl.nz (hp : 2 ≤ p) (h : Vl p n k) : n ≠ 0 := by
  obtain ⟨m, rfl, h1⟩ := h
  intro z
  rcases Int.mul_eq_zero.mp z with z | z
  · exact h1 (by rw [z]; exact Int.dvd_zero _)
  · exact pow_nz hp k z
theorem Vl.zero (h : ¬ p ∣ n) : Vl p n 0 := ⟨n, by rw [Int.pow_zero, Int.mul_one], h⟩
theorem Vl.pos (h : Vl p n k) : 0 < k ↔ p ∣ n := by
  obtain ⟨m, rfl, h1⟩ := h
  cases k with
  | zero =>
    rw [Int.pow_zero, Int.mul_one]
    exact ⟨fun z => absurd z (by decide), fun z => absurd z h1⟩
  | succ k => exact ⟨fun _ => ⟨m * p ^ k, by rw [Int.pow_succ]; grind⟩, fun _ => Nat.succ_pos _⟩
theorem Vl.neg (h : Vl p n k) : Vl p (-n) k := by
  obtain ⟨m, rfl, h1⟩ := h
  exact ⟨-m, by grind, fun z => h1 ((Int.dvd_neg).mp z)⟩
end
/-! ### of fractions -/
/-- p divides the fraction z times, below 0 where it divides the bottom -/
def VQ (p : Int) (q : Rat) (z : Int) : Prop := ∃ (k l : Nat) (a b : Int), ¬ p ∣ a ∧ ¬ p ∣ b ∧ q * ((b * p ^ l : Int) : Rat) = ((a * p ^ k : Int) : Rat) ∧ z = (k : Int) - l
section
variable {p : Int} {q r : Rat} {z w : Int}
theorem VQ.of {i j : Nat} {t b : Int} (hb : b ≠ 0) (ht : Vl p t i) (hl : Vl p b j) (e : q * (b : Rat) = t) : VQ p q ((i : Int) - j) := by
  obtain ⟨m, rfl, h1⟩ := ht
  obtain ⟨m', rfl, h2⟩ := hl
  exact ⟨i, j, m, m', h1, h2, e, rfl⟩
theorem cast_inj {a b : Int} (h : (a : Rat) = b) : a = b := by exact_mod_cast h
theorem VQ.uniq (hp : Pm p) (h : VQ p q z) (h' : VQ p q w) : z = w := by
  obtain ⟨k, l, a, b, h1, h2, e, rfl⟩ := h
  obtain ⟨k', l', a', b', h1', h2', e', rfl⟩ := h'
  have h3 : (a * p ^ k) * (b' * p ^ l') = (a' * p ^ k') * (b * p ^ l) := by
    apply cast_inj
    rw [rc_mul, ← e, rc_mul (a' * p ^ k'), ← e']; grind
  have v1 : Vl p ((a * p ^ k) * (b' * p ^ l')) (k + l') := Vl.mul hp ⟨a, rfl, h1⟩ ⟨b', rfl, h2'⟩
  have v2 : Vl p ((a' * p ^ k') * (b * p ^ l)) (k' + l) := Vl.mul hp ⟨a', rfl, h1'⟩ ⟨b, rfl, h2⟩
  rw [h3] at v1
  have := Vl.uniq hp.1 v1 v2
  omega
theorem VQ.mul (hp : Pm p) (h : VQ p q z) (h' : VQ p r w) : VQ p (q * r) (z + w) := by
  obtain ⟨k, l, a, b, h1, h2, e, rfl⟩ := h
  obtain ⟨k', l', a', b', h1', h2', e', rfl⟩ := h'
  refine ⟨k + k', l + l', a * a', b * b', fun hd => ?_, fun hd => ?_, ?_, by omega⟩
  · rcases hp.mul hd with z | z
    · exact h1 z
    · exact h1' z
  · rcases hp.mul hd with z | z
    · exact h2 z
    · exact h2' z
  · have e1 : b * b' * p ^ (l + l') = (b * p ^ l) * (b' * p ^ l') := by rw [Int.pow_add]; grind
    have e2 : a * a' * p ^ (k + k') = (a * p ^ k) * (a' * p ^ k') := by rw [Int.pow_add]; grind
    rw [e1, e2, rc_mul, rc_mul (a * p ^ k), ← e, ← e']; grind
theorem VQ.nz (hp : Pm p) (h : VQ p q z) : q ≠ 0 := by
  obtain ⟨k, l, a, b, h1, h2, e, rfl⟩ := h
  intro hq
  rw [hq, Rat.zero_mul] at e
  have e' : (a * p ^ k : Int) = 0 := cast_inj (e.symm.trans rfl)
  exact Vl.nz hp.1 (show Vl p (a * p ^ k) k from ⟨a, rfl, h1⟩) e'
/-- the sum: no less than the lesser one, and just it where they are unlike -/
theorem VQ.add (hp : Pm p) (h : VQ p q z) (h' : VQ p r w) (hzw : z ≤ w) (hs : q + r ≠ 0) : ∃ v, VQ p (q + r) v ∧ z ≤ v ∧ (z < w → v = z) := by
  obtain ⟨k, l, a, b, h1, h2, e, rfl⟩ := h
  obtain ⟨k', l', a', b', h1', h2', e', rfl⟩ := h'
  obtain ⟨j, hj⟩ : ∃ j : Nat, k' + l = k + l' + j := ⟨k' + l - (k + l'), by omega⟩
  have eS : (q + r) * ((b * b' * p ^ (l + l') : Int) : Rat) = ((a * b' + a' * b * p ^ j) * p ^ (k + l') : Int) := by
    have x1 : b * b' * p ^ (l + l') = (b * p ^ l) * (b' * p ^ l') := by rw [Int.pow_add]; grind
    have x2 : (a * b' + a' * b * p ^ j) * p ^ (k + l') = (a * p ^ k) * (b' * p ^ l') + (a' * p ^ k') * (b * p ^ l) := by
      have y1 : p ^ (k + l') = p ^ k * p ^ l' := Int.pow_add ..
      have y2 : p ^ j * p ^ (k + l') = p ^ k' * p ^ l := by rw [← Int.pow_add, ← Int.pow_add]; congr 1; omega
      have y3 : a' * b * p ^ j * p ^ (k + l') = a' * b * (p ^ k' * p ^ l) := by rw [← y2]; grind
      rw [Int.add_mul, y3, y1]; grind
    rw [x1, x2, rc_add, rc_mul, rc_mul (a * p ^ k), rc_mul (a' * p ^ k'), ← e, ← e']; grind
  have hb : Vl p (b * b' * p ^ (l + l')) (l + l') := ⟨b * b', rfl, fun hd => by
    rcases hp.mul hd with z | z
    · exact h2 z
    · exact h2' z⟩
  have hN : a * b' + a' * b * p ^ j ≠ 0 := fun hz => by
    rw [hz, Int.zero_mul] at eS
    have nb := hb.nz hp.1
    rcases Rat.mul_eq_zero.mp (eS.trans (by rfl : ((0 : Int) : Rat) = 0)) with z | z
    · exact hs z
    · exact nb (cast_inj (z.trans rfl))
  obtain ⟨i, hi⟩ := Vl.get hp.1 hN
  have ht : Vl p ((a * b' + a' * b * p ^ j) * p ^ (k + l')) (i + (k + l')) := by
    obtain ⟨m, hm, nd⟩ := hi
    exact ⟨m, by rw [hm, Int.pow_add p i (k + l')]; grind, nd⟩
  refine ⟨_, VQ.of (hb.nz hp.1) ht hb eS, by omega, fun hlt => ?_⟩
  have hj0 : 0 < j := by omega
  have nd : ¬ p ∣ a * b' + a' * b * p ^ j := fun hd => by
    have : p ∣ a' * b * p ^ j := by
      obtain ⟨j', rfl⟩ : ∃ j', j = j' + 1 := ⟨j - 1, by omega⟩
      exact ⟨a' * b * p ^ j', by rw [Int.pow_succ]; grind⟩
    have h3 : p ∣ a * b' := (Int.dvd_add_left this).mp hd
    rcases hp.mul h3 with z | z
    · exact h1 z
    · exact h2' z
  have := Vl.uniq hp.1 hi (Vl.zero nd)
  omega
end
end CW

end
section
set_option maxRecDepth 100000
set_option maxHeartbeats 2000000
/-! plain: residues; primes of a number and what is left -/
namespace CW
/-! ### residues -/
def RS (p : Int) (q : Rat) (x : Int) : Prop := 0 ≤ x ∧ x < p ∧ ∃ n d : Int, ¬ p ∣ d ∧ q * (d : Rat) = n ∧ p ∣ x * d - n
section
variable {p : Int} {q r : Rat} {x y z : Int}
theorem in_range (h0 : 0 ≤ x) (h1 : x < p) (h0' : 0 ≤ y) (h1' : y < p) (hd : p ∣ x - y) : x = y := by
  obtain ⟨c, hc⟩ := hd
  have hp : 0 < p := by omega
  have : c = 0 := by
    rcases Int.lt_trichotomy c 0 with h | h | h
    · have : p * c ≤ p * (-1) := Int.mul_le_mul_of_nonneg_left (by omega) (by omega)
      omega
    · exact h
    · have : p * 1 ≤ p * c := Int.mul_le_mul_of_nonneg_left (by omega) (by omega)
      omega
  rw [this] at hc
  omega
theorem fmod_dvd (a : Int) (p : Int) : p ∣ a - a.fmod p := by
  have := Int.fmod_add_mul_fdiv a p
  exact ⟨a.fdiv p, by omega⟩
theorem RS.uniq (hp : Pm p) (h : RS p q x) (h' : RS p q y) : x = y := by
  obtain ⟨x0, x1, n, d, h1, h2, h3⟩ := h
  obtain ⟨y0, y1, n', d', h1', h2', h3'⟩ := h'
  refine in_range x0 x1 y0 y1 ?_
  have e : n * d' = n' * d := by
    apply cast_inj
    rw [rc_mul, ← h2, rc_mul, ← h2']; grind
  have : p ∣ (x - y) * (d * d') := by
    have e2 : (x - y) * (d * d') = (x * d - n) * d' - (y * d' - n') * d := by grind
    rw [e2]
    exact Int.dvd_sub (Int.dvd_trans h3 (Int.dvd_mul_right ..)) (Int.dvd_trans h3' (Int.dvd_mul_right ..))
  rcases hp.mul this with z | z
  · exact z
  · rcases hp.mul z with z | z
    · exact absurd z h1
    · exact absurd z h1'
theorem RS.add (hp : Pm p) (h : RS p q x) (h' : RS p r y) : RS p (q + r) ((x + y).fmod p) := by
  obtain ⟨x0, x1, n, d, h1, h2, h3⟩ := h
  obtain ⟨y0, y1, n', d', h1', h2', h3'⟩ := h'
  have p0 : 0 < p := by have := hp.1; omega
  refine ⟨Int.fmod_nonneg_of_pos _ p0, Int.fmod_lt_of_pos _ p0, n * d' + n' * d, d * d', fun hd => ?_, ?_, ?_⟩
  · rcases hp.mul hd with z | z
    · exact h1 z
    · exact h1' z
  · rw [rc_add, rc_mul, rc_mul, rc_mul, ← h2, ← h2']; grind
  · have e2 : (x + y).fmod p * (d * d') - (n * d' + n' * d) = (x * d - n) * d' + (y * d' - n') * d - (x + y - (x + y).fmod p) * (d * d') := by grind
    rw [e2]
    exact Int.dvd_sub (Int.dvd_add (Int.dvd_trans h3 (Int.dvd_mul_right ..)) (Int.dvd_trans h3' (Int.dvd_mul_right ..))) (Int.dvd_trans (fmod_dvd _ _) (Int.dvd_mul_right ..))
theorem RS.mul (hp : Pm p) (h : RS p q x) (h' : RS p r y) : RS p (q * r) ((x * y).fmod p) := by
  obtain ⟨x0, x1, n, d, h1, h2, h3⟩ := h
  obtain ⟨y0, y1, n', d', h1', h2', h3'⟩ := h'
  have p0 : 0 < p := by have := hp.1; omega
  refine ⟨Int.fmod_nonneg_of_pos _ p0, Int.fmod_lt_of_pos _ p0, n * n', d * d', fun hd => ?_, ?_, ?_⟩
  · rcases hp.mul hd with z | z
    · exact h1 z
    · exact h1' z
  · rw [rc_mul, rc_mul, ← h2, ← h2']; grind
  · have e2 : (x * y).fmod p * (d * d') - n * n' = (x * d - n) * (y * d') + (y * d' - n') * n - (x * y - (x * y).fmod p) * (d * d') := by grind
    rw [e2]
    exact Int.dvd_sub (Int.dvd_add (Int.dvd_trans h3 (Int.dvd_mul_right ..)) (Int.dvd_trans h3' (Int.dvd_mul_right ..))) (Int.dvd_trans (fmod_dvd _ _) (Int.dvd_mul_right ..))
theorem RS.zero (hp : Pm p) (h : RS p q x) : x = 0 ↔ (q = 0 ∨ ∃ z, VQ p q z ∧ 0 < z) := by
  obtain ⟨x0, x1, n, d, h1, h2, h3⟩ := h
  have hd0 : d ≠ 0 := fun z => h1 (by rw [z]; exact Int.dvd_zero _)
  have key : x = 0 ↔ p ∣ n := by
    constructor
    · intro z
      rw [z, Int.zero_mul, Int.zero_sub] at h3
      exact Int.dvd_neg.mp h3
    · intro z
      have h4 : p ∣ x * d := by
        have := Int.dvd_add h3 z
        rwa [Int.sub_add_cancel] at this
      rcases hp.mul h4 with w | w
      · exact in_range x0 x1 (Int.le_refl 0) (by omega) (by simpa using w)
      · exact absurd w h1
  rw [key]
  by_cases hn : n = 0
  · have hq : q = 0 := by
      rw [hn] at h2
      rcases Rat.mul_eq_zero.mp (h2.trans (by rfl : ((0 : Int) : Rat) = 0)) with z | z
      · exact z
      · exact absurd (cast_inj (z.trans rfl)) hd0
    exact ⟨fun _ => Or.inl hq, fun _ => by rw [hn]; exact Int.dvd_zero _⟩
  · obtain ⟨k, hk⟩ := Vl.get hp.1 hn
    have hv := VQ.of hd0 hk (Vl.zero h1) h2
    have hq : q ≠ 0 := hv.nz hp
    constructor
    · intro z
      exact Or.inr ⟨_, hv, by have := hk.pos.mpr z; omega⟩
    · rintro (z | ⟨z, hz, h0⟩)
      · exact absurd z hq
      · have := hz.uniq hp hv
        exact hk.pos.mp (by omega)
theorem den_of {n d : Int} (h : q * (d : Rat) = n) : (q.den : Int) ∣ d := by
  have e1 : q * ((q.den : Int) : Rat) = q.num := by
    have e := Rat.num_divInt_den q
    rw [Rat.divInt_eq_div] at e
    have hd : ((q.den : Int) : Rat) ≠ 0 := fun h => by
      have h' : (q.den : Int) = 0 := cast_inj (h.trans rfl)
      have := q.den_nz
      omega
    have e2 : (q.num : Rat) / ((q.den : Int) : Rat) * ((q.den : Int) : Rat) = q * ((q.den : Int) : Rat) := by rw [e]
    rw [Rat.div_mul_cancel hd] at e2
    exact e2.symm
  have e : q.num * d = q.den * n := by
    apply cast_inj
    rw [rc_mul, rc_mul, ← e1, ← h]; grind
  have hc : Int.gcd (q.den : Int) q.num = 1 := by
    rw [Int.gcd_comm]
    exact q.reduced
  exact dvd_of_cop hc ⟨n, e⟩
theorem num_den (q : Rat) : q * ((q.den : Int) : Rat) = q.num := by
  have e := Rat.num_divInt_den q
  rw [Rat.divInt_eq_div] at e
  have hd : ((q.den : Int) : Rat) ≠ 0 := fun h => by
    have h' : (q.den : Int) = 0 := cast_inj (h.trans rfl)
    have := q.den_nz
    omega
  have e2 : (q.num : Rat) / ((q.den : Int) : Rat) * ((q.den : Int) : Rat) = q * ((q.den : Int) : Rat) := by rw [e]
  rw [Rat.div_mul_cancel hd] at e2
  exact e2.symm
theorem RS.clear (h : RS p q x) : ¬ p ∣ (q.den : Int) := by
  obtain ⟨x0, x1, n, d, h1, h2, h3⟩ := h
  exact fun z => h1 (Int.dvd_trans z (den_of h2))
end
/-! ### primes of a number -/
def pr : List (Int × Nat) → Int
  | [] => 1
  | (p, e) :: r => p ^ e * pr r
/-- no number from 2 to 2000 divides it -/
def Rough (x : Int) : Prop := ∀ d : Int, 2 ≤ d → d ≤ 2000 → ¬ d ∣ x
/-- what parted finds of a number -/
structure Pt (n : Int) (l : List (Int × Nat)) (rest : Int) : Prop where
  eq : (n.natAbs : Int) = rest * pr l
  pos : 0 < rest
  ok : ∀ q ∈ l, Pm q.1 ∧ q.1 ≤ 2000 ∧ 1 ≤ q.2
  up : l.Pairwise fun a b => a.1 < b.1
  rough : Rough rest
theorem min_factor : ∀ (f : Nat) (d : Int), d.toNat < f → 2 ≤ d → ∃ p, Pm p ∧ p ∣ d ∧ p ≤ d
  | 0, d, h, _ => absurd h (Nat.not_lt_zero _)
  | f + 1, d, h, hd => by
    by_cases hp : ∀ e : Int, 1 ≤ e → e ∣ d → e = 1 ∨ e = d
    · exact ⟨d, ⟨hd, hp⟩, Int.dvd_refl d, Int.le_refl d⟩
    · simp only [Classical.not_forall] at hp
      obtain ⟨e, h1, h2, h3⟩ := hp
      have hle := Int.le_of_dvd (by omega) h2
      obtain ⟨p, q1, q2, q3⟩ := min_factor f e (by omega) (by omega)
      exact ⟨p, q1, Int.dvd_trans q2 h2, by omega⟩
theorem pr_app : ∀ (l r : List (Int × Nat)), pr (l ++ r) = pr l * pr r
  | [], r => by show pr r = 1 * pr r; rw [Int.one_mul]
  | (p, e) :: l, r => by
    show p ^ e * pr (l ++ r) = p ^ e * pr l * pr r
    rw [pr_app l r, Int.mul_assoc]
theorem pr_pos : ∀ {l : List (Int × Nat)}, (∀ q ∈ l, Pm q.1) → 0 < pr l
  | [], _ => by decide
  | (p, e) :: l, h => by
    have h1 := pr_pos (l := l) fun q hq => h q (List.mem_cons_of_mem _ hq)
    have h2 := (h (p, e) List.mem_cons_self).1
    have h3 : 0 < p ^ e := Int.pow_pos (by have : 2 ≤ p := h2; omega)
    exact Int.mul_pos h3 h1
theorem pr_dvd {p : Int} (hp : Pm p) : ∀ {l : List (Int × Nat)}, (∀ q ∈ l, Pm q.1) → p ∣ pr l → ∃ q ∈ l, q.1 = p
  | [], _, hd => by
    have := Int.le_of_dvd (by decide) hd
    have h2 := hp.1
    have : pr [] = 1 := rfl
    omega
  | (q, e) :: l, h, hd => by
    rcases hp.mul hd with z | z
    · have hq := h (q, e) List.mem_cons_self
      have z2 := hp.pow z
      rcases hq.2 p (by have := hp.1; omega) z2 with w | w
      · have := hp.1; omega
      · exact ⟨(q, e), List.mem_cons_self, w.symm⟩
    · obtain ⟨q', h1, h2⟩ := pr_dvd hp (fun q hq => h q (List.mem_cons_of_mem _ hq)) z
      exact ⟨q', List.mem_cons_of_mem _ h1, h2⟩
theorem cop_pow {p T : Int} (h : Int.gcd p T = 1) (e : Nat) : Int.gcd (p ^ e) T = 1 := by
  have h1 : Nat.Coprime p.natAbs T.natAbs := h
  show Nat.gcd (p ^ e).natAbs T.natAbs = 1
  rw [Int.natAbs_pow]
  exact Nat.Coprime.pow_left e h1
theorem pr_cop : ∀ {l : List (Int × Nat)} {T x : Int}, (∀ q ∈ l, Pm q.1 ∧ ¬ q.1 ∣ T) → pr l ∣ x * T → pr l ∣ x
  | [], T, x, _, _ => ⟨x, (Int.one_mul x).symm⟩
  | (p, e) :: l, T, x, h, hd => by
    obtain ⟨h1, h2⟩ := h (p, e) List.mem_cons_self
    have hl := fun q hq => h q (List.mem_cons_of_mem _ hq)
    have hd' : p ^ e * pr l ∣ x * T := hd
    obtain ⟨y, rfl⟩ := pr_cop (l := l) hl (Int.dvd_trans (Int.dvd_mul_left ..) hd')
    have hpos := pr_pos (l := l) fun q hq => (hl q hq).1
    obtain ⟨c, hc⟩ := hd'
    have e1 : y * T = p ^ e * c := by
      have : pr l * (y * T) = pr l * (p ^ e * c) := by grind
      exact Int.eq_of_mul_eq_mul_left (by omega) this
    have := dvd_of_cop (cop_pow (h1.cop h2) e) ⟨c, by rw [Int.mul_comm T y]; exact e1⟩
    obtain ⟨w, rfl⟩ := this
    exact ⟨w, by show _ = p ^ e * pr l * w; grind⟩
/-- parted into primes to two thousand and the rest: in one way alone -/
theorem rough_uniq {l r : List (Int × Nat)} {c T : Int} (hl : ∀ q ∈ l, Pm q.1 ∧ q.1 ≤ 2000) (hr : ∀ q ∈ r, Pm q.1 ∧ q.1 ≤ 2000) (hc : Rough c) (hT : Rough T) (e : pr l * c = pr r * T) : c = T := by
  have p1 := pr_pos (l := l) fun q hq => (hl q hq).1
  have p2 := pr_pos (l := r) fun q hq => (hr q hq).1
  have d1 : pr l ∣ pr r := pr_cop (T := T) (fun q hq => ⟨(hl q hq).1, hT q.1 (hl q hq).1.1 (hl q hq).2⟩) ⟨c, e.symm⟩
  have d2 : pr r ∣ pr l := pr_cop (T := c) (fun q hq => ⟨(hr q hq).1, hc q.1 (hr q hq).1.1 (hr q hq).2⟩) ⟨T, e⟩
  have := Int.le_of_dvd p2 d1
  have := Int.le_of_dvd p1 d2
  have e2 : pr l = pr r := by omega
  rw [e2] at e
  exact Int.eq_of_mul_eq_mul_left (by omega) e
/-- a number by how often some primes divide it, and the rest -/
theorem by_primes {m : Int} (hm : m ≠ 0) : ∀ (l : List (Int × Nat)), (∀ q ∈ l, Pm q.1) → (l.Pairwise fun a b => a.1 < b.1) → ∀ v : Int → Nat, (∀ q ∈ l, Vl q.1 m (v q.1)) →
    ∃ c : Int, (m.natAbs : Int) = pr (l.map fun q => (q.1, v q.1)) * c ∧ 0 < c ∧ ∀ q ∈ l, ¬ q.1 ∣ c
  | [], _, _, v, _ => ⟨m.natAbs, by show _ = 1 * _; rw [Int.one_mul], by omega, fun _ h => absurd h (by simp)⟩
  | (p, e) :: l, h, hu, v, hv => by
    obtain ⟨c, h1, h2, h3⟩ := by_primes hm l (fun q hq => h q (List.mem_cons_of_mem _ hq)) (List.Pairwise.of_cons hu) v fun q hq => hv q (List.mem_cons_of_mem _ hq)
    have hp : Pm p := h (p, e) List.mem_cons_self
    have hpv : Vl p m (v p) := hv (p, e) List.mem_cons_self
    have nd : ¬ p ∣ pr (l.map fun q => (q.1, v q.1)) := fun hd => by
      obtain ⟨q, hq, e1⟩ := pr_dvd hp (fun q hq => by
        obtain ⟨q', hq', rfl⟩ := List.mem_map.mp hq
        exact h q' (List.mem_cons_of_mem _ hq')) hd
      obtain ⟨q', hq', rfl⟩ := List.mem_map.mp hq
      have := List.rel_of_pairwise_cons hu hq'
      have e1 : q'.1 = p := e1
      have this : p < q'.1 := this
      omega
    have habs : Vl p (m.natAbs : Int) (v p) := by
      rcases Int.natAbs_eq m with z | z
      · rw [← z]; exact hpv
      · have := hpv.neg
        rwa [show -m = (m.natAbs : Int) by omega] at this
    obtain ⟨k, hk⟩ := Vl.get hp.1 (show c ≠ 0 by omega)
    have hk2 := Vl.mul hp (Vl.zero nd) hk
    rw [← h1] at hk2
    have ek : v p = k := by
      have := Vl.uniq hp.1 habs hk2
      omega
    obtain ⟨c', e2, nd'⟩ := hk
    refine ⟨c', ?_, ?_, fun q hq => ?_⟩
    · show _ = p ^ v p * pr (l.map fun q => (q.1, v q.1)) * c'
      rw [h1, e2, ek]; grind
    · have hpk : 0 < p ^ k := Int.pow_pos (by have := hp.1; omega)
      rw [e2] at h2
      rcases (show 0 < c' ∨ c' ≤ 0 by omega) with z | z
      · exact z
      · have := Int.mul_le_mul_of_nonneg_right z (Int.le_of_lt hpk)
        rw [Int.zero_mul] at this
        omega
    · rcases List.mem_cons.mp hq with rfl | hq
      · exact nd'
      · intro hd
        exact h3 q hq (by rw [e2]; exact Int.dvd_trans hd (Int.dvd_mul_right ..))
/-- a divisor of a parted number by these primes -/
theorem Pt.part {n m rest T : Int} {l lm : List (Int × Nat)} (h : Pt n l rest) (hn : n ≠ 0) (hd : m ∣ n) (hT : Pt m lm T) (v : Int → Nat) (hv : ∀ q ∈ l, Vl q.1 m (v q.1)) : (m.natAbs : Int) = pr (l.map fun q => (q.1, v q.1)) * T := by
  have hm : m ≠ 0 := fun z => hn (by rw [z] at hd; exact Int.zero_dvd.mp hd)
  obtain ⟨c, h1, h2, h3⟩ := by_primes hm l (fun q hq => (h.ok q hq).1) h.up v hv
  have hc : Rough c := fun d d2 d3 hdc => by
    obtain ⟨p, p1, p2, p3⟩ := min_factor _ d (Nat.lt_succ_self _) d2
    have hpc := Int.dvd_trans p2 hdc
    have : p ∣ (n.natAbs : Int) := by
      have x1 : p ∣ (m.natAbs : Int) := by rw [h1]; exact Int.dvd_trans hpc (Int.dvd_mul_left ..)
      exact Int.dvd_trans x1 (Int.natAbs_dvd_natAbs.mpr hd |> fun z => Int.natCast_dvd_natCast.mpr z)
    rw [h.eq] at this
    rcases p1.mul this with z | z
    · exact h.rough p p1.1 (by omega) z
    · obtain ⟨q, hq, rfl⟩ := pr_dvd p1 (fun q hq => (h.ok q hq).1) z
      exact h3 q hq hpc
  have e : pr (l.map fun q => (q.1, v q.1)) * c = pr lm * T := by
    rw [← h1, hT.eq, Int.mul_comm]
  have := rough_uniq (fun q hq => by
    obtain ⟨q', hq', rfl⟩ := List.mem_map.mp hq
    exact ⟨(h.ok q' hq').1, (h.ok q' hq').2.1⟩) (fun q hq => ⟨(hT.ok q hq).1, (hT.ok q hq).2.1⟩) hc hT.rough e
  rw [h1, this]
end CW

end
section
set_option maxRecDepth 100000
set_option maxHeartbeats 2000000
namespace CW
open PySem PySem.Spec PyProof.Rows L2
section
variable {ρ : En} {s : S} {xs : List P} {m ma mb mc : EF}
def chnk (k : M D) : D → M D := fun d => match d with
  | .p (.bl true) => k
  | .p (.bl false) => ret (.p (.bl false))
  | _ => bad
@[simp] theorem chnk_bl (k : M D) (b : Bool) : chnk k (.p (.bl b)) s = if b = true then k s else .ok (.p (.bl false)) s := by cases b <;> rfl
@[simp] theorem chn_ev (g h : D → D → M D) : chn g h ma mb mc ρ s = R.bind (ma ρ s) fun x s1 => R.bind (mb ρ s1) fun y s2 => R.bind (g x y s2) (chnk fun s3 => R.bind (mc ρ s3) fun z s4 => h y z s4) := by
  unfold chn
  rw [bnd_ev]
  cases ma ρ s with
  | bad => rfl
  | exn _ _ => rfl
  | ok x s1 =>
    simp only [R.bind_ok]
    rw [bnd_ev]
    cases mb ρ s1 with
    | bad => rfl
    | exn _ _ => rfl
    | ok y s2 =>
      simp only [R.bind_ok]
      rw [bnd_ev]
      cases g x y s2 with
      | bad => rfl
      | exn _ _ => rfl
      | ok c s3 =>
        simp only [R.bind_ok]
        cases c with
        | obj n => rfl
        | p c =>
          cases c with
          | bl b =>
            cases b
            · rfl
            · show bnd _ _ _ = _
              rw [bnd_ev]
              rfl
          | _ => rfl
@[simp] theorem isi2E_ev (c1 c2 : String) : isi2E c1 c2 ma ρ s = R.bind (ma ρ s) (isi2D c1 c2) := by unfold isi2E; rw [bnd_ev]
theorem isi2_ev (d : D) {c1 c2 z : String} {b1 b2 : Bool} (h : tyD d s = some z) (h1 : kitB z c1 = some b1) (h2 : kitB z c2 = some b2) : isi2D c1 c2 d s = .ok (.p (.bl (b1 || b2))) s := by
  unfold isi2D
  rw [h]
  dsimp only
  rw [h1, h2]
theorem in_tup (neg : Bool) (i : Int) (is : List Int) : inD neg (.p (.int i)) (.p (.tup (is.map .int))) s = .ok (.p (.bl (if neg = true then !is.any fun j => decide (j = i) else is.any fun j => decide (j = i)))) s := by
  unfold inD
  dsimp only
  rw [intsOf_map]
theorem in_lst (neg : Bool) {x : D} {ys : List P} {d : PyData} {ds : List PyData} (hx : toPyD x s = some d) (hy : toPys ys = some ds) (h : SeqAt.shaped d = true ∧ SeqAt.shaped (.list ds) = true) : inD neg x (.p (.lst ys)) s = .ok (.p (.bl (if neg = true then !ds.any fun z => PyData.eqv z d else ds.any fun z => PyData.eqv z d))) s := by
  unfold inD
  dsimp only
  rw [hx, show toPyD (.p (.lst ys)) s = some (.list ds) from toPy_lst hy]
  dsimp only
  rw [if_pos h]
theorem agD_ev (f : List Int → Option Int) (is : List Int) {n : Int} (h : f is = some n) : agD f [.p (.lst (is.map .int))] s = .ok (.p (.int n)) s := by
  unfold agD
  dsimp only
  show (match intsOf (is.map P.int) with
      | some is => (match f is with
        | some n => R.ok (D.p (.int n)) s
        | none => .bad)
      | none => .bad) = _
  rw [intsOf_map]
  dsimp only
  rw [h]
end
/-- a loop that keeps something, counted -/
theorem forL_cnt {tg : GF} {f : SF} (N : Nat) (I : Nat → En → S → Prop) : ∀ {xs : List P} {n : Nat} {ρ : En} {s : S}, n + xs.length ≤ N → I n ρ s → (∀ x ∈ xs, ∀ n ρ s, n < N → I n ρ s → ∃ ρ1 s1 ρ2 s2, tg (.p x) ρ s = .ok ρ1 s1 ∧ f ρ1 s1 = .ok (.nx ρ2) s2 ∧ I (n + 1) ρ2 s2) →
    ∃ ρ' s', forL [] tg f xs ρ s = .ok (.nx ρ') s' ∧ I (n + xs.length) ρ' s'
  | [], n, ρ, s, _, h, _ => ⟨ρ, s, forL_nil, h⟩
  | x :: xs, n, ρ, s, hn, h, k => by
    have hn' : n + (xs.length + 1) ≤ N := hn
    obtain ⟨ρ1, s1, ρ2, s2, e1, e2, i2⟩ := k x List.mem_cons_self n ρ s (by omega) h
    obtain ⟨ρ', s', e3, i3⟩ := forL_cnt N I (by omega) i2 (fun y hy => k y (List.mem_cons_of_mem _ hy))
    refine ⟨ρ', s', by rw [forL_cons, e1, R.bind_ok, e2, R.bind_ok, fork_nx, e3], ?_⟩
    rw [List.length_cons, show n + (xs.length + 1) = n + 1 + xs.length by omega]
    exact i3
end CW

end
section
set_option maxRecDepth 100000
set_option maxHeartbeats 2000000
namespace CW
open PySem PySem.Spec PyProof.Rows L2
section
variable {s : S} {ρ : En}
/-! the object made last -/
theorem get_end (o : Option O) : (s ++ [o])[s.length]? = some o := by
  rw [List.getElem?_append_right (Nat.le_refl _), Nat.sub_self]
  rfl
theorem set_end (a b : Option O) : (s ++ [a]).set s.length b = s ++ [b] := by
  rw [List.set_append_right _ _ (Nat.le_refl _), Nat.sub_self]
  rfl
theorem lsAt_endL (xs : List P) : lsAt s.length (s ++ [some (.lst xs)]) = some xs := by
  unfold lsAt
  rw [get_end]
theorem app_end (xs : List P) (x : P) : appD (.obj s.length) [.p x] (s ++ [some (.lst xs)]) = if xs.length < sizeLine then .ok (.p .non) (s ++ [some (.lst (xs ++ [x]))]) else .bad := by
  unfold appD
  dsimp only
  rw [get_end]
  dsimp only
  rw [set_end]
theorem py_end {xs : List P} {ds : List PyData} (h : toPys xs = some ds) : toPyD (.obj s.length) (s ++ [some (.lst xs)]) = some (.list ds) := by
  unfold toPyD
  dsimp only
  rw [get_end]
  dsimp only
  rw [h]
  rfl
theorem eq_end (neg : Bool) {xs ys : List P} {ds es : List PyData} (hx : toPys xs = some ds) (hy : toPys ys = some es) (h : SeqAt.shaped (.list ds) = true ∧ SeqAt.shaped (.list es) = true) {b : Bool} (hb : PyData.eqv (.list ds) (.list es) = b) :
    eqD neg (.obj s.length) (.p (.lst ys)) (s ++ [some (.lst xs)]) = .ok (.p (.bl (if neg = true then !b else b))) (s ++ [some (.lst xs)]) := by
  rw [eq_dat neg (py_end hx) (show toPyD (.p (.lst ys)) _ = some (.list es) from by show (toPys ys).map PyData.list = _; rw [hy]; rfl) h, hb]
theorem frz_endL (xs : List P) : frz (.obj s.length) (s ++ [some (.lst xs)]) = .ok (.p (.lst xs)) (s ++ [none]) := by
  unfold frz
  dsimp only
  rw [get_end]
  dsimp only
  rw [set_end]
theorem eq_ints_nil (neg : Bool) (is : List Int) : eqD neg (.p (.lst (is.map P.int))) (.p (.lst [])) s = .ok (.p (.bl (if neg = true then !is.isEmpty else is.isEmpty))) s := by
  rw [eq_dat neg (d := .list (is.map .int)) (e := .list []) (by show (toPys (is.map P.int)).map PyData.list = _; rw [toPys_int]; rfl) rfl ⟨shapedAll_int _, rfl⟩]
  cases is with
  | nil => rfl
  | cons x xs =>
    have : PyData.eqv (.list (List.map PyData.int (x :: xs))) (.list []) = false := by simp [PyData.eqv, PyData.eqvAll]
    rw [this]
    rfl
theorem forF_of {i : IF} {tg : GF} {f : SF} {xs : List P} {s1 : S} {r : R Fl} (hi : i ρ s = .ok (xs, []) s1) (h : forL [] tg f xs ρ s1 = r) : forF i tg f ρ s = r := by
  rw [forF_ev, hi, R.bind_ok]
  exact h
theorem r2_ev (ms : List EF) (i j : Int) (s1 : S) (h : evA ms ρ s = .ok [.p (.int i), .p (.int j)] s1) (h1 : -4611686018427387904 ≤ i) (h2 : i < 4611686018427387904) (h3 : -4611686018427387904 ≤ j) (h4 : j < 4611686018427387904) : r2I ms ρ s = .ok (ranP i (j - i).toNat, []) s1 := by
  unfold r2I
  rw [bnd_ev, h, R.bind_ok]
  exact if_pos ⟨h1, h2, h3, h4⟩
theorem shw_int {i : Int} (h : szi i 1900) : ∃ t, PyData.strOk t = true ∧ ∀ s, shwD [.p (.int i)] s = .ok (.p (.str t)) s := by
  have hh : hz (i : Rat) ≤ 1900 := by
    rw [hz_int]
    have := h.log (by decide)
    omega
  refine ⟨(fqPy (i : Rat)).shown, (Rp.fq hh).ok, fun s => ?_⟩
  have e := shw_fq (i : Rat) s hh
  have e2 : fq (i : Rat) = .int i := rfl
  rw [e2] at e
  exact e
theorem shw_non : ∃ t, PyData.strOk t = true ∧ ∀ s, shwD [.p .non] s = .ok (.p (.str t)) s :=
  ⟨PyData.none.shown, Rp.non.ok, fun s => shw_rp (d := .none) rfl Rp.non (by decide) (by decide)⟩
end
theorem toPys_of {xs : List P} {n l : Nat} (h : ∀ x ∈ xs, ∃ d, toPy x = some d ∧ Rp d n l) : ∃ ds, toPys xs = some ds ∧ ds.length = xs.length ∧ ∀ d ∈ ds, Rp d n l := by
  induction xs with
  | nil => exact ⟨[], rfl, rfl, fun _ h => nomatch h⟩
  | cons x r ih =>
    obtain ⟨d, h1, h2⟩ := h x List.mem_cons_self
    obtain ⟨ds, h3, h4, h5⟩ := ih fun y hy => h y (List.mem_cons_of_mem _ hy)
    refine ⟨d :: ds, toPys_cons h1 h3, congrArg (· + 1) h4, fun e he => ?_⟩
    rcases List.mem_cons.mp he with z | z
    · rw [z]
      exact h2
    · exact h5 e z
theorem shw_list {xs : List P} (h : ∀ x ∈ xs, ∃ d, toPy x = some d ∧ Rp d 2 8100) (hl : xs.length ≤ 1000) : ∃ t, PyData.strOk t = true ∧ ∀ s, shwD [.p (.lst xs)] s = .ok (.p (.str t)) s := by
  obtain ⟨ds, h1, h2, h3⟩ := toPys_of h
  have r := Rp.lst h3
  exact ⟨(PyData.list ds).shown, r.ok, fun s => shw_rp (toPy_lst h1) r (by decide) (by rw [h2, sizeLine_eq]; omega)⟩
theorem rp_fq {q : Rat} (h : hz q ≤ 1900) : ∃ d, toPy (fq q) = some d ∧ Rp d 2 8100 := ⟨_, toPy_fq q, (Rp.fq h).mono (by decide) (by decide)⟩
theorem rp_bl (b : Bool) : ∃ d, toPy (.bl b) = some d ∧ Rp d 2 8100 := ⟨_, rfl, (Rp.bl b).mono (by decide) (by decide)⟩
theorem rp_non : ∃ d, toPy .non = some d ∧ Rp d 2 8100 := ⟨_, rfl, Rp.non.mono (by decide) (by decide)⟩
end CW

end
section
set_option maxRecDepth 100000
set_option maxHeartbeats 2000000
/-! plain: sums of points by lines -/
namespace CW
section
variable {a1 a2 a3 a4 a6 x y v w l : Rat}
def fx (a1 a2 l x v : Rat) : Rat := l * l + a1 * l - a2 - x - v
def fy (a1 a3 l x y X : Rat) : Rat := -(l * X) - a1 * X - y + l * x - a3
theorem on_chord (hx : x ≠ v) (h1 : ev a1 a2 a3 a4 a6 x y = 0) (h2 : ev a1 a2 a3 a4 a6 v w = 0) (hl : l * (v - x) = w - y) :
    ev a1 a2 a3 a4 a6 (fx a1 a2 l x v) (fy a1 a3 l x y (fx a1 a2 l x v)) = 0 := by
  have hw : w = y + l * (v - x) := by grind
  have hv : v - x ≠ 0 := by grind
  have key : (v - x) * ev a1 a2 a3 a4 a6 (fx a1 a2 l x v) (fy a1 a3 l x y (fx a1 a2 l x v)) = (v - fx a1 a2 l x v) * ev a1 a2 a3 a4 a6 x y + (fx a1 a2 l x v - x) * ev a1 a2 a3 a4 a6 v w := by
    rw [hw]
    unfold ev fy fx
    grind
  rw [h1, h2] at key
  have : (v - x) * ev a1 a2 a3 a4 a6 (fx a1 a2 l x v) (fy a1 a3 l x y (fx a1 a2 l x v)) = 0 := by grind
  rcases Rat.mul_eq_zero.mp this with z | z
  · exact absurd z hv
  · exact z
theorem on_tangent (h1 : ev a1 a2 a3 a4 a6 x y = 0) (hl : l * (2 * y + a1 * x + a3) = 3 * x * x + 2 * a2 * x + a4 - a1 * y) :
    ev a1 a2 a3 a4 a6 (fx a1 a2 l x x) (fy a1 a3 l x y (fx a1 a2 l x x)) = 0 := by
  have key : ev a1 a2 a3 a4 a6 (fx a1 a2 l x x) (fy a1 a3 l x y (fx a1 a2 l x x)) = ev a1 a2 a3 a4 a6 x y + (l * (2 * y + a1 * x + a3) - (3 * x * x + 2 * a2 * x + a4 - a1 * y)) * (fx a1 a2 l x x - x) := by
    unfold ev fy fx
    grind
  rw [key, h1, hl]
  grind
theorem on_less (h1 : ev a1 a2 a3 a4 a6 x y = 0) : ev a1 a2 a3 a4 a6 x (-y - a1 * x - a3) = 0 := by
  rw [← h1]
  unfold ev
  grind
end

section
variable {W V E : Int} {n m k b e c : Nat} {q a1 a2 a3 a4 a6 x y v w l : Rat}
theorem rpow_of_mul (a b : Rat) : ∀ k : Nat, (a * b) ^ k = a ^ k * b ^ k
  | 0 => by rw [Rat.pow_zero, Rat.pow_zero, Rat.pow_zero, Rat.mul_one]
  | k + 1 => by
    rw [Rat.pow_succ, Rat.pow_succ, Rat.pow_succ, rpow_of_mul a b k]
    grind
theorem Wn.base (hv : szi V b) (h : Wn W n k q) : Wn (V * W) (n + (b * k + 1)) k q := by
  obtain ⟨A, e1, e2⟩ := h
  refine ⟨A * V ^ k, ?_, e2.mul (szi_pow hv k)⟩
  rw [rc_mul, rc_mul, rc_pow, ← e1, rpow_of_mul]
  grind
theorem Wn.sub (ha : Wn W n k q) (hb : Wn W n k l) : Wn W (n + 1) k (q - l) := by
  rw [Rat.sub_eq_add_neg]
  exact ha.add hb.neg
/-- q is A by B, A and B of so many bits -/
theorem Wn.frac {A B : Int} (hl : l * B = A) (hB : B ≠ 0) (hA : szi A n) : Wn B n 1 l := ⟨A, by rw [Rat.pow_one]; exact hl, hA⟩
/-- a point over E, in the third power at most -/
structure Pw (E : Int) (e c : Nat) (a1 a2 a3 a4 x y : Rat) : Prop where
  E0 : E ≠ 0
  hE : szi E e
  A1 : Wn E (e + c) 1 a1
  A2 : Wn E (e + c) 1 a2
  A3 : Wn E (e + c) 1 a3
  A4 : Wn E (e + c) 1 a4
  X : Wn E (2 * e + c) 2 x
  Y : Wn E (3 * e + 2 * c) 3 y
/-- a point flat over E -/
structure Pv (E : Int) (e : Nat) (a1 a2 a3 a4 x y : Rat) : Prop where
  E0 : E ≠ 0
  hE : szi E e
  A1 : Wn E e 1 a1
  A2 : Wn E e 1 a2
  A3 : Wn E e 1 a3
  A4 : Wn E e 1 a4
  X : Wn E e 1 x
  Y : Wn E e 1 y
/-- the sum of two by the slope l, a multiple of which by E is whole -/
theorem pw_of (E0 : E ≠ 0) (hE : szi E e) (hl : Wn E (e + c) 1 l) (A1 : Wn E (e + c + 1) 1 a1) (A2 : Wn E (e + c + 1) 1 a2) (A3 : Wn E (e + c + 1) 1 a3) (A4 : Wn E (e + c + 1) 1 a4)
    (hx : Wn E (2 * e + c + 2) 2 x) (hv : Wn E (2 * e + c + 2) 2 v) (hy : Wn E (3 * e + 2 * c + 2) 3 y) : Pw E e (2 * c + 5) a1 a2 a3 a4 (fx a1 a2 l x v) (fy a1 a3 l x y (fx a1 a2 l x v)) := by
  have X1 : Wn E (2 * e + (2 * c + 5)) 2 (fx a1 a2 l x v) := by
    unfold fx
    have t1 : Wn E (2 * e + 2 * c + 1) 2 (l * l) := (hl.mul hl).mono (by omega)
    have t2 : Wn E (2 * e + 2 * c + 1) 2 (a1 * l) := (A1.mul hl).mono (by omega)
    have t3 : Wn E (2 * e + 2 * c + 2) 2 a2 := Wn.to hE A2 (by decide) (by omega)
    have t4 := (t1.add t2).sub (t3.mono (by omega))
    have t5 := t4.sub (hx.mono (by omega))
    exact (t5.sub (hv.mono (by omega))).mono (by omega)
  refine ⟨E0, hE, A1.mono (by omega), A2.mono (by omega), A3.mono (by omega), A4.mono (by omega), X1, ?_⟩
  generalize fx a1 a2 l x v = F at *
  unfold fy
  have t1 : Wn E (3 * e + 3 * c + 6) 3 (l * F) := (hl.mul X1).mono (by omega)
  have t2 : Wn E (3 * e + 3 * c + 6) 3 (a1 * F) := (A1.mul X1).mono (by omega)
  have t3 := (t1.neg.sub t2).sub (hy.mono (by omega))
  have t4 : Wn E (3 * e + 3 * c + 8) 3 (l * x) := (hl.mul hx).mono (by omega)
  have t5 : Wn E (3 * e + 3 * c + 9) 3 a3 := Wn.to hE A3 (by decide) (by omega)
  exact ((t3.add (t4.mono (by omega))).sub (t5.mono (by omega))).mono (by omega)
theorem Pw.chord (h : Pw E e c a1 a2 a3 a4 x y) (k : Pw E e c a1 a2 a3 a4 v w) (hne : x ≠ v) (hl : l * (v - x) = w - y) : ∃ E', Pw E' (3 * e + c + 1) (2 * c + 5) a1 a2 a3 a4 (fx a1 a2 l x v) (fy a1 a3 l x y (fx a1 a2 l x v)) ∧ Wn E' (3 * e + c + 1 + c) 1 l := by
  obtain ⟨B, b1, b2⟩ := k.X.sub h.X
  obtain ⟨A, e1, e2⟩ := k.Y.sub h.Y
  have ep : (E : Rat) ≠ 0 := fun z => h.E0 (by exact_mod_cast z)
  have hB0 : B ≠ 0 := fun z => by
    rw [z] at b1
    rcases Rat.mul_eq_zero.mp (b1.trans rfl) with z | z
    · grind
    · grind
  have hEB : szi (B * E) (3 * e + c + 1) := (b2.mul h.hE).mono (by omega)
  have hl' : Wn (B * E) (3 * e + c + 1 + c) 1 l := by
    refine Wn.frac (A := A) ?_ (Int.mul_ne_zero hB0 h.E0) (e2.mono (by omega))
    rw [rc_mul, ← b1, ← e1, ← hl]
    grind
  have lift : ∀ {k n : Nat} {q : Rat}, Wn E n k q → Wn (B * E) (n + ((2 * e + c + 1) * k + 1)) k q := fun h => Wn.base b2 h
  refine ⟨B * E, pw_of (Int.mul_ne_zero hB0 h.E0) hEB hl' ((lift h.A1).mono (by omega)) ((lift h.A2).mono (by omega)) ((lift h.A3).mono (by omega)) ((lift h.A4).mono (by omega)) ((lift h.X).mono (by omega)) ((lift k.X).mono (by omega)) ((lift h.Y).mono (by omega)), hl'⟩
theorem Pv.chord (h : Pv E e a1 a2 a3 a4 x y) (k : Pv E e a1 a2 a3 a4 v w) (hne : x ≠ v) (hl : l * (v - x) = w - y) : ∃ E', Pw E' (2 * e + 1) 5 a1 a2 a3 a4 (fx a1 a2 l x v) (fy a1 a3 l x y (fx a1 a2 l x v)) ∧ Wn E' (2 * e + 1) 1 l := by
  obtain ⟨B, b1, b2⟩ := k.X.sub h.X
  obtain ⟨A, e1, e2⟩ := k.Y.sub h.Y
  have ep : (E : Rat) ≠ 0 := fun z => h.E0 (by exact_mod_cast z)
  have hB0 : B ≠ 0 := fun z => by
    rw [z] at b1
    rcases Rat.mul_eq_zero.mp (b1.trans rfl) with z | z
    · grind
    · grind
  have hEB : szi (B * E) (2 * e + 1) := (b2.mul h.hE).mono (by omega)
  have hl' : Wn (B * E) (2 * e + 1 + 0) 1 l := by
    refine Wn.frac (A := A * E) ?_ (Int.mul_ne_zero hB0 h.E0) ((e2.mul h.hE).mono (by omega))
    rw [rc_mul, rc_mul, ← b1, ← e1, ← hl]
    grind
  have lift : ∀ {k n : Nat} {q : Rat}, Wn E n k q → Wn (B * E) (n + ((e + 1) * k + 1)) k q := fun h => Wn.base b2 h
  refine ⟨B * E, pw_of (c := 0) (Int.mul_ne_zero hB0 h.E0) hEB hl' ((lift h.A1).mono (by omega)) ((lift h.A2).mono (by omega)) ((lift h.A3).mono (by omega)) ((lift h.A4).mono (by omega)) (Wn.to hEB (lift h.X) (by decide) (by omega)) (Wn.to hEB (lift k.X) (by decide) (by omega)) (Wn.to hEB (lift h.Y) (by decide) (by omega)), hl'⟩
theorem Pv.tangent (h : Pv E e a1 a2 a3 a4 x y) (hne : 2 * y + a1 * x + a3 ≠ 0) (hl : l * (2 * y + a1 * x + a3) = 3 * x * x + 2 * a2 * x + a4 - a1 * y) : ∃ D, D ≠ 0 ∧ szi D (2 * e + 5) ∧ Pw (D * E) (3 * e + 5) 5 a1 a2 a3 a4 (fx a1 a2 l x x) (fy a1 a3 l x y (fx a1 a2 l x x)) ∧ Wn (D * E) (3 * e + 5) 1 l := by
  have d1 : Wn E (2 * e + 5) 2 (2 * y + a1 * x + a3) := by
    have t1 : Wn E (2 * e + 3) 2 (2 * y) := Wn.to h.hE ((Wn.int (show szi 2 2 by decide)).mul h.Y) (by decide) (by omega)
    have t2 : Wn E (2 * e) 2 (a1 * x) := (h.A1.mul h.X).mono (by omega)
    have t3 : Wn E (2 * e + 1) 2 a3 := Wn.to h.hE h.A3 (by decide) (by omega)
    exact ((t1.add (t2.mono (by omega))).add (t3.mono (by omega))).mono (by omega)
  have n1 : Wn E (2 * e + 5) 2 (3 * x * x + 2 * a2 * x + a4 - a1 * y) := by
    have t1 : Wn E (2 * e + 2) 2 (3 * x * x) := (((Wn.int (show szi 3 2 by decide)).mul h.X).mul h.X).mono (by omega)
    have t2 : Wn E (2 * e + 2) 2 (2 * a2 * x) := (((Wn.int (show szi 2 2 by decide)).mul h.A2).mul h.X).mono (by omega)
    have t3 : Wn E (2 * e + 1) 2 a4 := Wn.to h.hE h.A4 (by decide) (by omega)
    have t4 : Wn E (2 * e) 2 (a1 * y) := (h.A1.mul h.Y).mono (by omega)
    exact (((t1.add t2).add (t3.mono (by omega))).sub (t4.mono (by omega))).mono (by omega)
  obtain ⟨D, b1, b2⟩ := d1
  obtain ⟨N, e1, e2⟩ := n1
  have ep : (E : Rat) ≠ 0 := fun z => h.E0 (by exact_mod_cast z)
  have hD0 : D ≠ 0 := fun z => by
    rw [z] at b1
    rcases Rat.mul_eq_zero.mp (b1.trans rfl) with z | z
    · exact hne z
    · grind
  have hEB : szi (D * E) (3 * e + 5) := (b2.mul h.hE).mono (by omega)
  have hl' : Wn (D * E) (3 * e + 5 + 0) 1 l := by
    refine Wn.frac (A := N * E) ?_ (Int.mul_ne_zero hD0 h.E0) ((e2.mul h.hE).mono (by omega))
    rw [rc_mul, rc_mul, ← b1, ← e1, ← hl]
    grind
  have lift : ∀ {k n : Nat} {q : Rat}, Wn E n k q → Wn (D * E) (n + ((2 * e + 5) * k + 1)) k q := fun h => Wn.base b2 h
  exact ⟨D, hD0, b2, pw_of (c := 0) (Int.mul_ne_zero hD0 h.E0) hEB hl' ((lift h.A1).mono (by omega)) ((lift h.A2).mono (by omega)) ((lift h.A3).mono (by omega)) ((lift h.A4).mono (by omega)) (Wn.to hEB (lift h.X) (by decide) (by omega)) (Wn.to hEB (lift h.X) (by decide) (by omega)) (Wn.to hEB (lift h.Y) (by decide) (by omega)), hl'⟩
/-- a flat point over another bottom -/
theorem Pv.over {D : Int} {d f : Nat} (h : Pv E e a1 a2 a3 a4 x y) (hD0 : D ≠ 0) (hD : szi D d) (hf : e + d = f) (c : Nat) (hc : 2 ≤ c) : Pw (D * E) f c a1 a2 a3 a4 x y := by
  have hEB : szi (D * E) f := (hD.mul h.hE).mono (by omega)
  have lift : ∀ {k n : Nat} {q : Rat}, Wn E n k q → Wn (D * E) (n + (d * k + 1)) k q := fun h => Wn.base hD h
  exact ⟨Int.mul_ne_zero hD0 h.E0, hEB, (lift h.A1).mono (by omega), (lift h.A2).mono (by omega), (lift h.A3).mono (by omega), (lift h.A4).mono (by omega), Wn.to hEB (lift h.X) (by decide) (by omega), Wn.to hEB (lift h.Y) (by decide) (by omega)⟩
theorem Pw.less (h : Pw E e c a1 a2 a3 a4 x y) : Pw E e (c + 1) a1 a2 a3 a4 x (-y - a1 * x - a3) := by
  refine ⟨h.E0, h.hE, h.A1.mono (by omega), h.A2.mono (by omega), h.A3.mono (by omega), h.A4.mono (by omega), h.X.mono (by omega), ?_⟩
  have t1 : Wn E (3 * e + 2 * c) 3 (a1 * x) := (h.A1.mul h.X).mono (by omega)
  have t2 : Wn E (3 * e + 2 * c + 1) 3 a3 := Wn.to h.hE h.A3 (by decide) (by omega)
  exact ((h.Y.neg.sub t1).sub t2).mono (by omega)
theorem Pw.hx (h : Pw E e c a1 a2 a3 a4 x y) (hc : 1 ≤ c) : hz x ≤ 2 * e + c := Wn.hz h.E0 h.hE h.X (Nat.le_refl _) (by omega)
theorem Pw.hy (h : Pw E e c a1 a2 a3 a4 x y) (hc : 1 ≤ c) : hz y ≤ 3 * e + 2 * c := Wn.hz h.E0 h.hE h.Y (Nat.le_refl _) (by omega)
theorem Pw.left (h : Pw E e c a1 a2 a3 a4 x y) (hc : 1 ≤ c) : hz (y * y + a1 * x * y + a3 * y) ≤ 6 * e + 4 * c + 2 := by
  have t1 : Wn E (6 * e + 4 * c) 6 (y * y) := (h.Y.mul h.Y).mono (by omega)
  have t2 : Wn E (6 * e + 4 * c) 6 (a1 * x * y) := ((h.A1.mul h.X).mul h.Y).mono (by omega)
  have t3 : Wn E (6 * e + 4 * c + 1) 6 (a3 * y) := Wn.to h.hE (h.A3.mul h.Y) (by decide) (by omega)
  exact Wn.hz h.E0 h.hE ((t1.add t2).add t3) (by omega) (by omega)
end
/-- a drawn point, flat over sixty times the curve's bottom -/
theorem pv_of {W : Int} {n : Nat} {a1 a2 a3 a4 a6 x y : Rat} (c : Cv W n a1 a2 a3 a4 a6) (hx : Sn x) (hy : Sn y) : Pv (60 * W) (n + 10) a1 a2 a3 a4 x y := by
  have h60 : szi 60 6 := by decide
  have hW : szi (60 * W) (n + 10) := (h60.mul c.hw).mono (by omega)
  have up : ∀ {q : Rat}, Dg W n 1 0 q → Wn (60 * W) (n + 10) 1 q := fun h => (Wn.base h60 h).mono (by omega)
  have sn : ∀ {q : Rat}, Sn q → Wn (60 * W) (n + 10) 1 q := fun {q} h => by
    obtain ⟨N, h1, h2⟩ := h
    refine ⟨N * W, ?_, ((show szi N 9 from Nat.lt_of_le_of_lt h2 (by decide)).mul c.hw).mono (by omega)⟩
    rw [Rat.pow_one, rc_mul, rc_mul, ← h1]
    have : ((60 : Int) : Rat) = 60 := rfl
    grind
  exact ⟨Int.mul_ne_zero (by decide) c.W0, hW, up c.h1, up c.h2, up c.h3, up c.h4, sn hx, sn hy⟩
open PySem PySem.Spec PyProof.Rows L2
/-- a loop over a changing list: nothing changes in it -/
theorem forL_gk {tg : GF} {f : SF} {g : Gd} {s : S} (hg : gok g s) (I : En → Prop) : ∀ {xs : List P} {ρ : En}, I ρ → (∀ x ∈ xs, ∀ ρ, I ρ → ∃ ρ1 ρ2, tg (.p x) ρ s = .ok ρ1 s ∧ f ρ1 s = .ok (.nx ρ2) s ∧ I ρ2) →
    ∃ ρ', forL g tg f xs ρ s = .ok (.nx ρ') s ∧ I ρ'
  | [], ρ, h, _ => ⟨ρ, by unfold forL; exact if_pos hg, h⟩
  | x :: xs, ρ, h, k => by
    obtain ⟨ρ1, ρ2, e1, e2, i2⟩ := k x List.mem_cons_self ρ h
    obtain ⟨ρ', e3, i3⟩ := forL_gk hg I i2 (fun y hy => k y (List.mem_cons_of_mem _ hy))
    refine ⟨ρ', ?_, i3⟩
    unfold forL
    rw [if_pos hg, bnd_ev, e1, R.bind_ok, bnd_ev, e2, R.bind_ok]
    exact e3
theorem forF_obj {m : EF} {tg : GF} {f : SF} {xs : List P} {n : Nat} {s s' : S} {ρ ρ' : En} (h : m ρ s = .ok (.obj n) s') (hl : lsAt n s' = some xs) (hf : gok [(n, xs)] s' → forL [(n, xs)] tg f xs ρ s' = .ok (.nx ρ') s') : forF (rowI m) tg f ρ s = .ok (.nx ρ') s' := by
  obtain ⟨h1, h2⟩ := rowI_obj h hl
  rw [forF_ev, h1, R.bind_ok]
  exact hf h2
theorem ix_obj {n : Nat} {s : S} {xs : List P} {z : Int} {x : P} (hl : lsAt n s = some xs) (hx : L2.atI xs z = some x) : ixD (.obj n) (.p (.int z)) s = .ok (.p x) s := by
  show (match its (.obj n) s with
      | some xs => (match L2.atI xs z with
        | some z => R.ok (D.p z) s
        | none => .bad)
      | none => .bad) = _
  rw [its_obj, hl]
  dsimp only
  rw [hx]
theorem len_obj {n : Nat} {s : S} {xs : List P} (hl : lsAt n s = some xs) : lenD [.obj n] s = .ok (.p (.int xs.length)) s := by
  show (match its (.obj n) s with
    | some xs => R.ok (D.p (.int xs.length)) s
    | none => .bad) = _
  rw [its_obj, hl]
theorem add_obj {n : Nat} {s : S} {xs ys : List P} (hl : lsAt n s = some xs) (hz : xs.length + ys.length ≤ sizeLine) : addD true (.obj n) (.p (.lst ys)) s = .ok (.p (.lst (xs ++ ys))) s := by
  show (match its (.obj n) s, its (.p (.lst ys)) s with
    | some xs, some ys => if xs.length + ys.length ≤ sizeLine then mkL true (xs ++ ys) s else .bad
    | _, _ => .bad) = _
  rw [its_obj, hl]
  show (if xs.length + ys.length ≤ sizeLine then mkL true (xs ++ ys) s else .bad) = _
  rw [if_pos hz, mkL_true]
end CW
namespace CW
open PySem PySem.Spec PyProof.Rows L2
section
variable {s : S} {ρ : En} {m : EF}
theorem slcE_ev (fr : Bool) (ma : EF) (lo hi : Option EF) : slcE fr ma lo hi ρ s = R.bind (ma ρ s) fun x s1 => R.bind (optE lo ρ s1) fun l s2 => R.bind (optE hi ρ s2) fun u s3 => slcD fr x l u s3 := by
  unfold slcE
  rw [bnd_ev]
  congr 1
theorem optE_n : optE none ρ s = .ok none s := rfl
theorem optE_s : optE (some m) ρ s = R.bind (m ρ s) partE := by
  show bnd (m ρ) partE s = _
  rw [bnd_ev]
theorem partE_i (i : Int) : partE (.p (.int i)) s = .ok (some i) s := rfl
theorem slcD_t (fr : Bool) (xs : List P) (lo hi : Option Int) : slcD fr (.p (.tup xs)) lo hi s = .ok (.p (.tup (cutP xs lo hi))) s := rfl
theorem add_tt (fr : Bool) (xs ys : List P) : addD fr (.p (.tup xs)) (.p (.tup ys)) s = if xs.length + ys.length ≤ sizeLine then .ok (.p (.tup (xs ++ ys))) s else .bad := rfl
end
theorem cutP_mem {xs : List P} {lo hi : Option Int} {y : P} (h : y ∈ cutP xs lo hi) : y ∈ xs := List.mem_of_mem_drop (List.mem_of_mem_take h)
theorem cutP_len (xs : List P) (lo hi : Option Int) : (cutP xs lo hi).length ≤ xs.length := by
  unfold cutP
  rw [List.length_take, List.length_drop]
  omega
end CW

end
section
set_option maxRecDepth 100000
set_option maxHeartbeats 2000000
/-! a curve through three points -/
namespace CW
open PySem PySem.Spec PyProof.Rows L2
/-- a sixth of a whole number up to m -/
def S6 (m : Nat) (q : Rat) : Prop := ∃ N : Int, q * 6 = N ∧ N.natAbs ≤ m
def uu (a c x y : Rat) : Rat := y * y + a * x * y + c * y + -(x * x * x)
def tw (x u z v : Rat) : Rat := (v + -u) / (z + -x)
section
variable {a c x0 y0 x1 y1 x2 y2 : Rat}
def t2 (a c x0 y0 x1 y1 x2 y2 : Rat) : Rat := tw x0 (tw x0 (uu a c x0 y0) x1 (uu a c x1 y1)) x2 (tw x1 (uu a c x1 y1) x2 (uu a c x2 y2))
def t4 (a c x0 y0 x1 y1 x2 y2 : Rat) : Rat := tw x0 (uu a c x0 y0) x1 (uu a c x1 y1) + -(t2 a c x0 y0 x1 y1 x2 y2 * (x0 + x1))
def t6 (a c x0 y0 x1 y1 x2 y2 : Rat) : Rat := uu a c x0 y0 + -(t2 a c x0 y0 x1 y1 x2 y2 * x0 * x0) + -(t4 a c x0 y0 x1 y1 x2 y2 * x0)
theorem tw_eq {x u z v : Rat} (h : x ≠ z) : tw x u z v * (z - x) = v - u := by
  unfold tw
  have h' : z + -x ≠ 0 := fun e => h (by grind)
  have e := Rat.div_mul_cancel (a := v + -u) h'
  grind
theorem th3_on (h01 : x0 ≠ x1) (h12 : x1 ≠ x2) (h02 : x0 ≠ x2) : ev a (t2 a c x0 y0 x1 y1 x2 y2) c (t4 a c x0 y0 x1 y1 x2 y2) (t6 a c x0 y0 x1 y1 x2 y2) x0 y0 = 0 ∧
    ev a (t2 a c x0 y0 x1 y1 x2 y2) c (t4 a c x0 y0 x1 y1 x2 y2) (t6 a c x0 y0 x1 y1 x2 y2) x1 y1 = 0 ∧
    ev a (t2 a c x0 y0 x1 y1 x2 y2) c (t4 a c x0 y0 x1 y1 x2 y2) (t6 a c x0 y0 x1 y1 x2 y2) x2 y2 = 0 := by
  have e1 := tw_eq (u := uu a c x0 y0) (v := uu a c x1 y1) h01
  have e2 := tw_eq (u := uu a c x1 y1) (v := uu a c x2 y2) h12
  have e3 := tw_eq (u := tw x0 (uu a c x0 y0) x1 (uu a c x1 y1)) (v := tw x1 (uu a c x1 y1) x2 (uu a c x2 y2)) h02
  have f2 : t2 a c x0 y0 x1 y1 x2 y2 = tw x0 (tw x0 (uu a c x0 y0) x1 (uu a c x1 y1)) x2 (tw x1 (uu a c x1 y1) x2 (uu a c x2 y2)) := rfl
  rw [← f2] at e3
  unfold t6 t4 ev
  generalize tw x0 (uu a c x0 y0) x1 (uu a c x1 y1) = l1 at *
  generalize tw x1 (uu a c x1 y1) x2 (uu a c x2 y2) = l2 at *
  generalize t2 a c x0 y0 x1 y1 x2 y2 = p at *
  unfold uu at *
  refine ⟨?_, ?_, ?_⟩ <;> grind
theorem S6.hz {m : Nat} {q : Rat} (h : S6 m q) (hm : m < 512) : hz q ≤ 9 := by
  obtain ⟨N, h1, h2⟩ := h
  have e : q = Rat.divInt N 6 := by
    rw [Rat.divInt_eq_div, ← h1]
    have : ((6 : Int) : Rat) = 6 := rfl
    rw [this]
    grind
  rw [e]
  exact hz_le (by decide) (sz_divInt (show szi N 9 from Nat.lt_of_le_of_lt h2 hm) (show szi 6 9 by decide) (by decide))
theorem rg1 (l1 l2 x0 x1 x2 : Rat) : (l2 - l1) * ((x1 - x0) * (x2 - x1)) = (l2 * (x2 - x1)) * (x1 - x0) - (l1 * (x1 - x0)) * (x2 - x1) := by grind
theorem rg2 (p x0 x1 x2 : Rat) : p * (216 * ((x1 * 6 - x0 * 6) * ((x2 * 6 - x1 * 6) * (x2 * 6 - x0 * 6)))) = 46656 * (p * (x2 - x0) * ((x1 - x0) * (x2 - x1))) := by grind
theorem rg3 (u0 u1 u2 x0 x1 x2 : Rat) : 46656 * ((u2 - u1) * (x1 - x0) - (u1 - u0) * (x2 - x1)) = 36 * ((216 * u2 - 216 * u1) * (x1 * 6 - x0 * 6) - (216 * u1 - 216 * u0) * (x2 * 6 - x1 * 6)) := by grind
theorem rg4 (l p w f g h x0 x1 : Rat) : (l + -(p * (x0 + x1))) * (216 * ((f * 6) * (g * h))) = (l * f) * (1296 * (g * h)) - (p * (216 * ((f * 6) * (g * h)))) * (x0 + x1) := by grind
theorem rg5 (u0 u1 n x0 x1 x2 : Rat) : (u1 - u0) * (1296 * ((x2 * 6 - x1 * 6) * (x2 * 6 - x0 * 6))) - 36 * n * (x0 + x1) = 6 * ((216 * u1 - 216 * u0) * ((x2 * 6 - x1 * 6) * (x2 * 6 - x0 * 6)) - n * (x0 * 6 + x1 * 6)) := by grind
theorem rg6 (u p q w x : Rat) : (u + -(p * x * x) + -(q * x)) * w = u * w - (p * w) * (x * x) - (q * w) * x := by grind
theorem rg7 (u d m n x : Rat) : u * (216 * d) - 36 * m * (x * x) - 6 * n * x = 216 * u * d - m * (x * 6 * (x * 6)) - n * (x * 6) := by grind
theorem rg8 (c d : Rat) : c * (216 * d) = 36 * (c * 6 * d) := by grind
theorem rg9 (x0 x1 : Rat) : x1 * 6 - x0 * 6 = (x1 - x0) * 6 := by grind
theorem rg10 (a c x y : Rat) : 6 * (y * 6 * (y * 6)) + 6 * (a * (x * 6 * (y * 6))) + 6 * (c * 6 * (y * 6)) - x * 6 * (x * 6 * (x * 6)) = 216 * uu a c x y := by
  unfold uu
  grind
theorem th3_cv {A : Int} (ha : a = A) (hA : A.natAbs ≤ 2) (hc : S6 264 c) (k0 : S6 90 x0) (k1 : S6 90 x1) (k2 : S6 90 x2) (m0 : S6 42 y0) (m1 : S6 42 y1) (m2 : S6 42 y2) (h01 : x0 ≠ x1) (h12 : x1 ≠ x2) (h02 : x0 ≠ x2) :
    ∃ W, Cv W 50 a (t2 a c x0 y0 x1 y1 x2 y2) c (t4 a c x0 y0 x1 y1 x2 y2) (t6 a c x0 y0 x1 y1 x2 y2) := by
  have e1 := tw_eq (u := uu a c x0 y0) (v := uu a c x1 y1) h01
  have e2 := tw_eq (u := uu a c x1 y1) (v := uu a c x2 y2) h12
  have e3 := tw_eq (u := tw x0 (uu a c x0 y0) x1 (uu a c x1 y1)) (v := tw x1 (uu a c x1 y1) x2 (uu a c x2 y2)) h02
  have f2 : t2 a c x0 y0 x1 y1 x2 y2 = tw x0 (tw x0 (uu a c x0 y0) x1 (uu a c x1 y1)) x2 (tw x1 (uu a c x1 y1) x2 (uu a c x2 y2)) := rfl
  rw [← f2] at e3
  have f4 : t4 a c x0 y0 x1 y1 x2 y2 = tw x0 (uu a c x0 y0) x1 (uu a c x1 y1) + -(t2 a c x0 y0 x1 y1 x2 y2 * (x0 + x1)) := rfl
  have f6 : t6 a c x0 y0 x1 y1 x2 y2 = uu a c x0 y0 + -(t2 a c x0 y0 x1 y1 x2 y2 * x0 * x0) + -(t4 a c x0 y0 x1 y1 x2 y2 * x0) := rfl
  generalize tw x0 (uu a c x0 y0) x1 (uu a c x1 y1) = l1 at *
  generalize tw x1 (uu a c x1 y1) x2 (uu a c x2 y2) = l2 at *
  generalize t6 a c x0 y0 x1 y1 x2 y2 = p6 at *
  generalize t4 a c x0 y0 x1 y1 x2 y2 = p4 at *
  generalize t2 a c x0 y0 x1 y1 x2 y2 = p2 at *
  obtain ⟨C, c1, c2⟩ := hc
  obtain ⟨X0, q0, b0⟩ := k0
  obtain ⟨X1, q1, b1⟩ := k1
  obtain ⟨X2, q2, b2⟩ := k2
  obtain ⟨Y0, r0, d0⟩ := m0
  obtain ⟨Y1, r1, d1⟩ := m1
  obtain ⟨Y2, r2, d2⟩ := m2
  have n6 : ((6 : Int) : Rat) = 6 := rfl
  have n36 : ((36 : Int) : Rat) = 36 := rfl
  have n216 : ((216 : Int) : Rat) = 216 := rfl
  have hU : ∀ {x y : Rat} {X Y : Int}, x * 6 = X → y * 6 = Y → X.natAbs ≤ 90 → Y.natAbs ≤ 42 → ∃ U : Int, ((U : Int) : Rat) = 216 * uu a c x y ∧ szi U 22 := fun {x y X Y} hx hy bx by_ => by
    refine ⟨6 * (Y * Y) + 6 * (A * (X * Y)) + 6 * (C * Y) - X * (X * X), ?_, ?_⟩
    · simp only [rc_add, rc_mul, rc_sub, n6, ← hx, ← hy, ← c1, ← ha]
      exact rg10 a c x y
    · have sX : szi X 7 := Nat.lt_of_le_of_lt bx (by decide)
      have sY : szi Y 6 := Nat.lt_of_le_of_lt by_ (by decide)
      have sA : szi A 2 := Nat.lt_of_le_of_lt hA (by decide)
      have sC : szi C 9 := Nat.lt_of_le_of_lt c2 (by decide)
      have s6 : szi 6 3 := by decide
      have v1 : szi (6 * (Y * Y)) 15 := (s6.mul (sY.mul sY)).mono (by decide)
      have v2 : szi (6 * (A * (X * Y))) 18 := (s6.mul (sA.mul (sX.mul sY))).mono (by decide)
      have v3 : szi (6 * (C * Y)) 18 := (s6.mul (sC.mul sY)).mono (by decide)
      have v4 : szi (X * (X * X)) 21 := (sX.mul (sX.mul sX)).mono (by decide)
      exact ((v1.sum v2 (c := 19)).sum v3 (c := 20)).dif v4 (c := 22)
  obtain ⟨U0, g0, z0⟩ := hU q0 r0 b0 d0
  obtain ⟨U1, g1, z1⟩ := hU q1 r1 b1 d1
  obtain ⟨U2, g2, z2⟩ := hU q2 r2 b2 d2
  generalize uu a c x0 y0 = u0 at *
  generalize uu a c x1 y1 = u1 at *
  generalize uu a c x2 y2 = u2 at *
  have s8 : ∀ {X Z : Int}, X.natAbs ≤ 90 → Z.natAbs ≤ 90 → szi (Z - X) 8 := fun {X Z} h h' => Nat.lt_of_le_of_lt (m := 180) (by omega) (by decide)
  have s8' : szi (X0 + X1) 8 := Nat.lt_of_le_of_lt (m := 180) (by omega) (by decide)
  have w01 := s8 b0 b1
  have w12 := s8 b1 b2
  have w02 := s8 b0 b2
  have ne : ∀ {x z : Rat} {X Z : Int}, x ≠ z → x * 6 = X → z * 6 = Z → Z - X ≠ 0 := fun {x z X Z} h hx hz e => h (by
    have : Z = X := by omega
    rw [this] at hz
    grind)
  have o01 := ne h01 q0 q1
  have o12 := ne h12 q1 q2
  have o02 := ne h02 q0 q2
  have sX0 : szi X0 7 := Nat.lt_of_le_of_lt b0 (by decide)
  have zN2 : szi ((U2 - U1) * (X1 - X0) - (U1 - U0) * (X2 - X1)) 32 := (((z2.sub z1).mul w01).sub ((z1.sub z0).mul w12)).mono (by decide)
  have eN2 : p2 * ((216 * ((X1 - X0) * ((X2 - X1) * (X2 - X0))) : Int) : Rat) = ((36 * ((U2 - U1) * (X1 - X0) - (U1 - U0) * (X2 - X1)) : Int) : Rat) := by
    simp only [rc_mul, rc_sub, n36, n216, g0, g1, g2, ← q0, ← q1, ← q2]
    have k1 := rg1 l1 l2 x0 x1 x2
    rw [e1, e2, ← e3] at k1
    rw [rg2, k1, rg3]
  generalize hN2 : (U2 - U1) * (X1 - X0) - (U1 - U0) * (X2 - X1) = N2 at zN2 eN2
  have zN4 : szi ((U1 - U0) * ((X2 - X1) * (X2 - X0)) - N2 * (X0 + X1)) 41 := (((z1.sub z0).mul (w12.mul w02)).mono (b := 40) (by decide)).sub ((zN2.mul s8').mono (b := 40) (by decide))
  have eN4 : p4 * ((216 * ((X1 - X0) * ((X2 - X1) * (X2 - X0))) : Int) : Rat) = ((6 * ((U1 - U0) * ((X2 - X1) * (X2 - X0)) - N2 * (X0 + X1)) : Int) : Rat) := by
    simp only [rc_mul, rc_sub, rc_add, n6, n36, n216, g0, g1, g2, ← q0, ← q1, ← q2] at eN2 ⊢
    rw [f4, rg9 x0 x1] at *
    rw [rg4 l1 p2 0, e1, eN2, rg5]
  generalize hN4 : (U1 - U0) * ((X2 - X1) * (X2 - X0)) - N2 * (X0 + X1) = N4 at zN4 eN4
  have zN6 : szi (U0 * ((X1 - X0) * ((X2 - X1) * (X2 - X0))) - N2 * (X0 * X0) - N4 * X0) 50 := ((((z0.mul (w01.mul (w12.mul w02))).mono (b := 46) (by decide)).sub ((zN2.mul (sX0.mul sX0)).mono (b := 46) (by decide))).mono (b := 49) (by decide)).sub ((zN4.mul sX0).mono (b := 49) (by decide))
  have eN6 : p6 * ((216 * ((X1 - X0) * ((X2 - X1) * (X2 - X0))) : Int) : Rat) = ((U0 * ((X1 - X0) * ((X2 - X1) * (X2 - X0))) - N2 * (X0 * X0) - N4 * X0 : Int) : Rat) := by
    simp only [rc_mul, rc_sub, rc_add, n6, n36, n216, g0, g1, g2, ← q0, ← q1, ← q2] at eN2 eN4 ⊢
    rw [f6, rg6, eN2, eN4, rg7]
  have zW : szi (216 * ((X1 - X0) * ((X2 - X1) * (X2 - X0)))) 32 := (show szi 216 8 by decide).mul (w01.mul (w12.mul w02))
  have W0 : 216 * ((X1 - X0) * ((X2 - X1) * (X2 - X0))) ≠ 0 := Int.mul_ne_zero (by decide) (Int.mul_ne_zero o01 (Int.mul_ne_zero o12 o02))
  have eC : c * ((216 * ((X1 - X0) * ((X2 - X1) * (X2 - X0))) : Int) : Rat) = ((36 * (C * ((X1 - X0) * ((X2 - X1) * (X2 - X0)))) : Int) : Rat) := by
    simp only [rc_mul, n36, n216, ← c1]
    exact rg8 _ _
  have zC : szi (36 * (C * ((X1 - X0) * ((X2 - X1) * (X2 - X0))))) 39 := (show szi 36 6 by decide).mul ((show szi C 9 from Nat.lt_of_le_of_lt c2 (by decide)).mul (w01.mul (w12.mul w02)))
  generalize 216 * ((X1 - X0) * ((X2 - X1) * (X2 - X0))) = W at *
  have mk : ∀ {q : Rat} {N : Int}, q * (W : Rat) = N → szi N 50 → Dg W 50 1 0 q := fun {q N} h h' => ⟨N, by rw [Rat.pow_one]; exact h, h'⟩
  refine ⟨W, W0, zW.mono (by decide), mk (N := A * W) (by rw [ha, rc_mul]) (((show szi A 2 from Nat.lt_of_le_of_lt hA (by decide)).mul zW).mono (by decide)), mk eN2 (((show szi 36 6 by decide).mul zN2).mono (by decide)), mk eC (zC.mono (by decide)), mk eN4 (((show szi 6 3 by decide).mul zN4).mono (by decide)), mk eN6 zN6⟩
end
end CW

end
section
set_option maxRecDepth 100000
set_option maxHeartbeats 2000000
/-! taking the second away leads back -/
namespace CW
open PySem PySem.Spec PyProof.Rows L2
section
variable {a1 a2 a3 a4 a6 x y v w l : Rat}
theorem back_x (a1 a2 l x v : Rat) : fx a1 a2 (-(l + a1)) (fx a1 a2 l x v) v = x := by
  unfold fx
  grind
theorem back_y (h : l * (v - x) = w - y) : fy a1 a3 (-(l + a1)) (fx a1 a2 l x v) (fy a1 a3 l x y (fx a1 a2 l x v)) x = y := by
  unfold fy
  generalize fx a1 a2 l x v = X
  grind
/-- the slope through the sum and the opposite of the second -/
theorem back_slope (h : l * (v - x) = w - y) {X : Rat} (hX : X ≠ v) : (-(w + a1 * v + a3) - fy a1 a3 l x y X) = -(l + a1) * (v - X) := by
  unfold fy
  grind
theorem back_eq (h : l * (v - x) = w - y) : fy a1 a3 l x y v = -(w + a1 * v + a3) := by
  unfold fy
  grind
/-- where the line meets the second point twice, it touches there -/
theorem back_touch (hne : x ≠ v) (h : l * (v - x) = w - y) (h1 : ev a1 a2 a3 a4 a6 x y = 0) (h2 : ev a1 a2 a3 a4 a6 v w = 0) (hX : fx a1 a2 l x v = v) : l * (2 * w + a1 * v + a3) = 3 * v * v + 2 * a2 * v + a4 - a1 * w := by
  have hy : y = w - l * (v - x) := by grind
  have hs : x - v ≠ 0 := by grind
  have e : ev a1 a2 a3 a4 a6 x (w - l * (v - x)) = ev a1 a2 a3 a4 a6 v w + (x - v) * ((l * (2 * w + a1 * v + a3) - (3 * v * v + 2 * a2 * v + a4 - a1 * w)) + (x - v) * (l * l + a1 * l - a2 - 3 * v) - (x - v) * (x - v)) := by
    unfold ev
    grind
  rw [← hy, h1, h2] at e
  have k : l * l + a1 * l - a2 - 3 * v = x - v := by
    unfold fx at hX
    grind
  rw [k] at e
  have e2 : (x - v) * (l * (2 * w + a1 * v + a3) - (3 * v * v + 2 * a2 * v + a4 - a1 * w)) = 0 := by grind
  rcases Rat.mul_eq_zero.mp e2 with z | z
  · exact absurd z hs
  · grind
/-- no point where both slopes vanish -/
theorem smooth (hd : dd a1 a2 a3 a4 a6 ≠ 0) (h : ev a1 a2 a3 a4 a6 v w = 0) (h1 : 2 * w + a1 * v + a3 = 0) (h2 : 3 * v * v + 2 * a2 * v + a4 - a1 * w = 0) : False := by
  apply hd
  have e3 : a3 = -2 * w - a1 * v := by grind
  have e4 : a4 = a1 * w - 3 * v * v - 2 * a2 * v := by grind
  have e6 : a6 = w * w + a1 * v * w + a3 * w - v * v * v - a2 * v * v - a4 * v := by
    unfold ev at h
    grind
  have k4 : b4 a1 a2 a3 a4 a6 = -6 * v * v - b2 a1 a2 a3 a4 a6 * v := by
    unfold b4 b2
    rw [e4, e3]
    grind
  have k6 : b6 a1 a2 a3 a4 a6 = 8 * v * v * v + b2 a1 a2 a3 a4 a6 * v * v := by
    unfold b6 b2
    rw [e6, e4, e3]
    grind
  have k8 : 4 * b8 a1 a2 a3 a4 a6 = b2 a1 a2 a3 a4 a6 * b6 a1 a2 a3 a4 a6 - b4 a1 a2 a3 a4 a6 * b4 a1 a2 a3 a4 a6 := by
    unfold b8 b6 b4 b2
    grind
  unfold dd dD
  generalize b2 a1 a2 a3 a4 a6 = p at *
  generalize b4 a1 a2 a3 a4 a6 = q at *
  generalize b6 a1 a2 a3 a4 a6 = r at *
  generalize b8 a1 a2 a3 a4 a6 = t at *
  have k9 : t = -(p * v * v * v) - 9 * v * v * v * v := by
    rw [k4, k6] at k8
    grind
  rw [k9, k4, k6]
  clear k8 k9 k4 k6 e6 e4 e3 h h1 h2 hd
  grind
end
end CW

end
section
set_option maxRecDepth 100000
set_option maxHeartbeats 2000000
/-! plain: sums of points by lines over any ring in which a product is nought of nought alone; they may be taken together in any brackets -/
namespace CW
structure CuG (F : Type) where
  a1 : F
  a2 : F
  a3 : F
  a4 : F
  a6 : F
section
variable {F : Type} [Lean.Grind.CommRing F]
/-- on the curve -/
def OnG (c : CuG F) (x y : F) : Prop := y * y + c.a1 * x * y + c.a3 * y = x * x * x + c.a2 * x * x + c.a4 * x + c.a6
/-- l is the slope of the line through both, or of that which touches -/
def SlG (c : CuG F) (l x y v w : F) : Prop := l * (x - v) = y - w ∧ l * (y + w + c.a1 * v + c.a3) = x * x + x * v + v * v + c.a2 * (x + v) + c.a4 - c.a1 * y
def OppG (c : CuG F) (x y v w : F) : Prop := x = v ∧ y + w + c.a1 * x + c.a3 = 0
def gx (c : CuG F) (l x v : F) : F := l * l + c.a1 * l - c.a2 - x - v
def gy (c : CuG F) (l x y X : F) : F := -(y + l * (X - x)) - c.a1 * X - c.a3
inductive SmG (c : CuG F) : Option (F × F) → Option (F × F) → Option (F × F) → Prop
  | n0 (Q : Option (F × F)) : SmG c none Q Q
  | n1 (P : Option (F × F)) : SmG c P none P
  | op {x y v w : F} : OppG c x y v w → SmG c (some (x, y)) (some (v, w)) none
  | ln {x y v w l : F} : ¬ OppG c x y v w → SlG c l x y v w → SmG c (some (x, y)) (some (v, w)) (some (gx c l x v, gy c l x y (gx c l x v)))
def ngG (c : CuG F) : Option (F × F) → Option (F × F)
  | none => none
  | some (x, y) => some (x, -y - c.a1 * x - c.a3)
def OnO (c : CuG F) : Option (F × F) → Prop
  | none => True
  | some (x, y) => OnG c x y
/-- no point at which both slopes vanish -/
def SmoG (c : CuG F) : Prop := ∀ x y : F, OnG c x y → 2 * y + c.a1 * x + c.a3 = 0 → 3 * x * x + 2 * c.a2 * x + c.a4 - c.a1 * y = 0 → False
variable {c : CuG F} {x y v w l X : F} {P Q S T : Option (F × F)}
theorem SlG.symm (h : SlG c l x y v w) : SlG c l v w x y := by
  obtain ⟨h1, h2⟩ := h
  refine ⟨by grind, ?_⟩
  have e : c.a1 * (l * (x - v)) = c.a1 * (y - w) := by rw [h1]
  grind
theorem gx_symm (c : CuG F) (l x v : F) : gx c l x v = gx c l v x := by
  unfold gx
  grind
theorem gy_symm (h : SlG c l x y v w) (X : F) : gy c l x y X = gy c l v w X := by
  unfold gy
  have := h.1
  grind
theorem OppG.symm (h : OppG c x y v w) : OppG c v w x y := by
  obtain ⟨h1, h2⟩ := h
  subst h1
  exact ⟨rfl, by grind⟩
theorem SmG.comm (h : SmG c P Q S) : SmG c Q P S := by
  cases h with
  | n0 Q => exact .n1 _
  | n1 P => exact .n0 _
  | op h => exact .op h.symm
  | @ln x y v w l h1 h2 =>
    rw [gx_symm, gy_symm h2]
    exact .ln (fun z => h1 z.symm) h2.symm
theorem ngG_ngG : ngG c (ngG c P) = P := by
  rcases P with _ | ⟨x, y⟩
  · rfl
  · show some (x, -(-y - c.a1 * x - c.a3) - c.a1 * x - c.a3) = _
    congr 2
    grind
/-- the line through the opposites -/
theorem SlG.ng (h : SlG c l x y v w) : SlG c (-l - c.a1) x (-y - c.a1 * x - c.a3) v (-w - c.a1 * v - c.a3) := by
  obtain ⟨h1, h2⟩ := h
  have e : c.a1 * (l * (x - v)) = c.a1 * (y - w) := by rw [h1]
  exact ⟨by grind, by grind⟩
theorem SmG.ng (h : SmG c P Q S) : SmG c (ngG c P) (ngG c Q) (ngG c S) := by
  cases h with
  | n0 Q => exact .n0 _
  | n1 P => exact .n1 _
  | op h =>
    refine .op ⟨h.1, ?_⟩
    have h1 := h.1
    have h2 := h.2
    subst h1
    grind
  | @ln x y v w l h1 h2 =>
    have k := SmG.ln (c := c) (fun z => h1 ⟨z.1, by have z1 := z.1; have z2 := z.2; subst z1; grind⟩) h2.ng
    have e1 : gx c (-l - c.a1) x v = gx c l x v := by
      unfold gx
      grind
    rw [e1] at k
    have e2 : gy c (-l - c.a1) x (-y - c.a1 * x - c.a3) (gx c l x v) = -gy c l x y (gx c l x v) - c.a1 * gx c l x v - c.a3 := by
      unfold gy
      generalize gx c l x v = X
      grind
    rw [e2] at k
    exact k
theorem OnO.ng (h : OnO c P) : OnO c (ngG c P) := by
  rcases P with _ | ⟨x, y⟩
  · trivial
  · show OnG c x (-y - c.a1 * x - c.a3)
    have h : OnG c x y := h
    unfold OnG at h ⊢
    grind
theorem on_ln (h1 : OnG c x y) (h : SlG c l x y v w) : OnG c (gx c l x v) (gy c l x y (gx c l x v)) := by
  obtain ⟨h2, h3⟩ := h
  have k : OnG c (gx c l x v) (y + l * (gx c l x v - x)) := by
    have hw : w = y - l * (x - v) := by grind
    subst hw
    have d : y * y + c.a1 * x * y + c.a3 * y - (x * x * x + c.a2 * x * x + c.a4 * x + c.a6) = 0 := by
      unfold OnG at h1
      grind
    have e : l * (y + (y - l * (x - v)) + c.a1 * v + c.a3) - (x * x + x * v + v * v + c.a2 * (x + v) + c.a4 - c.a1 * y) = 0 := by grind
    unfold OnG
    have key : (y + l * (gx c l x v - x)) * (y + l * (gx c l x v - x)) + c.a1 * gx c l x v * (y + l * (gx c l x v - x)) + c.a3 * (y + l * (gx c l x v - x)) - (gx c l x v * gx c l x v * gx c l x v + c.a2 * gx c l x v * gx c l x v + c.a4 * gx c l x v + c.a6) = (y * y + c.a1 * x * y + c.a3 * y - (x * x * x + c.a2 * x * x + c.a4 * x + c.a6)) + (gx c l x v - x) * (l * (y + (y - l * (x - v)) + c.a1 * v + c.a3) - (x * x + x * v + v * v + c.a2 * (x + v) + c.a4 - c.a1 * y)) := by
      clear d e h1 h2 h3
      unfold gx
      grind
    rw [d, e] at key
    have fin : ∀ a b t : F, a - b = 0 + t * 0 → a = b := by
      clear key d e h1 h2 h3
      intro a b t h
      grind
    exact fin _ _ _ key
  have k2 : OnO c (ngG c (some (gx c l x v, y + l * (gx c l x v - x)))) := OnO.ng k
  exact k2
theorem SmG.on (h : SmG c P Q S) (hP : OnO c P) (hQ : OnO c Q) : OnO c S := by
  cases h with
  | n0 Q => exact hQ
  | n1 P => exact hP
  | op h => trivial
  | ln h1 h2 => exact on_ln hP h2
theorem touch_id (h : SlG c l x y v w) : l * (2 * w + c.a1 * v + c.a3) - (3 * v * v + 2 * c.a2 * v + c.a4 - c.a1 * w) = (x - v) * (v - gx c l x v) := by
  obtain ⟨h1, h2⟩ := h
  have hy : y = w + l * (x - v) := by grind
  subst hy
  unfold gx
  grind
/-- taking the second away leads back -/
theorem SmG.back (nz : ∀ a b : F, a * b = 0 → a = 0 ∨ b = 0) (sm : SmoG c) (hQ : OnO c Q) (h : SmG c P Q S) : SmG c S (ngG c Q) P := by
  cases h with
  | n0 Q =>
    rcases Q with _ | ⟨x, y⟩
    · exact .n0 _
    · exact .op ⟨rfl, by grind⟩
  | n1 P => exact .n1 _
  | @op x y v w h =>
    have h1 := h.1
    have h2 := h.2
    subst h1
    have e : y = -w - c.a1 * x - c.a3 := by grind
    subst e
    exact .n0 _
  | @ln x y v w l h1 h2 =>
    have hs : SlG c (-l - c.a1) (gx c l x v) (gy c l x y (gx c l x v)) v (-w - c.a1 * v - c.a3) := by
      obtain ⟨h3, h4⟩ := h2
      have hw : w = y - l * (x - v) := by grind
      subst hw
      constructor
      · unfold gy
        generalize gx c l x v = X
        grind
      · unfold gy gx
        grind
    have hno : ¬ OppG c (gx c l x v) (gy c l x y (gx c l x v)) v (-w - c.a1 * v - c.a3) := by
      rintro ⟨k1, k2⟩
      have t := touch_id h2
      rw [k1] at k2 t
      have hyv : gy c l x y v = -w - c.a1 * v - c.a3 := by
        unfold gy
        have := h2.1
        grind
      rw [hyv] at k2
      have k3 : 2 * w + c.a1 * v + c.a3 = 0 := by grind
      rw [k3] at t
      exact sm v w hQ k3 (by grind)
    have k := SmG.ln hno hs
    have e1 : gx c (-l - c.a1) (gx c l x v) v = x := by
      unfold gx
      grind
    rw [e1] at k
    have e2 : gy c (-l - c.a1) (gx c l x v) (gy c l x y (gx c l x v)) x = y := by
      unfold gy
      generalize gx c l x v = X
      grind
    rw [e2] at k
    exact k
theorem slope_uniq (nz : ∀ a b : F, a * b = 0 → a = 0 ∨ b = 0) {m : F} (ho : ¬ OppG c x y v w) (h : SlG c l x y v w) (k : SlG c m x y v w) : l = m := by
  have e1 : (l - m) * (x - v) = 0 := by
    have := h.1
    have := k.1
    grind
  have e2 : (l - m) * (y + w + c.a1 * v + c.a3) = 0 := by
    have := h.2
    have := k.2
    grind
  rcases nz _ _ e1 with z | z
  · grind
  · rcases nz _ _ e2 with z2 | z2
    · grind
    · have hx : x = v := by grind
      exact absurd ⟨hx, by rw [hx]; exact z2⟩ ho
theorem SmG.uniq (nz : ∀ a b : F, a * b = 0 → a = 0 ∨ b = 0) (h : SmG c P Q S) (k : SmG c P Q T) : S = T := by
  cases h with
  | n0 Q =>
    cases k with
    | n0 _ => rfl
    | n1 _ => rfl
  | n1 P =>
    cases k with
    | n0 _ => rfl
    | n1 _ => rfl
  | op h =>
    cases k with
    | op _ => rfl
    | ln g _ => exact absurd h g
  | ln h1 h2 =>
    cases k with
    | op g => exact absurd g h1
    | ln g1 g2 => rw [slope_uniq nz h1 h2 g2]
end
section
variable {F : Type} [Lean.Grind.CommRing F]
theorem hz1 {la m x3 q : F} (h : -(la * (m * x3)) = x3 * x3 - q * x3) : x3 * (la * m + x3 - q) = 0 := by grind
theorem hz2 {la m x3 p q a1 a3 : F} (h : la * (x3 - p) = -(m * x3 + a1 * x3 + a3)) (t : m * m * x3 + m * (a1 * x3) + m * a3 = (x3 - p) * (x3 - q)) : (x3 - p) * (la * m + x3 - q) = 0 := by
  have e : (x3 - p) * (la * m + x3 - q) = m * (la * (x3 - p)) + (x3 - p) * (x3 - q) := by
    clear h t
    grind
  rw [e, h, ← t]
  clear e h t
  grind
theorem hz3 {m x1 x3 p q a1 a3 : F} (k2 : m * m = x3 + x1 - p - q - a1 * m) (vi : m * a3 = p * q - x1 * x3) : m * m * x3 + m * (a1 * x3) + m * a3 = (x3 - p) * (x3 - q) := by
  rw [k2, vi]
  clear k2 vi
  grind
theorem hz4 {m x1 x3 p q a1 mu : F} (k2 : m * m = x3 + x1 - p - q - a1 * m) (h : mu * (m * x1) = x1 * x1 - p * x1 - a1 * (m * x1)) : x1 * (m * mu - (m * m - x3 + q)) = 0 := by
  have e : x1 * (m * mu - (m * m - x3 + q)) = mu * (m * x1) - x1 * (m * m - x3 + q) := by
    clear h k2
    grind
  rw [e, h, k2]
  clear e h k2
  grind
theorem hz5 {m x1 x3 p q a1 a3 mu : F} (k2 : m * m = x3 + x1 - p - q - a1 * m) (vi : m * a3 = p * q - x1 * x3) (h : mu * (x1 - q) = m * x1 + a1 * q + a3) : (x1 - q) * (m * mu - (m * m - x3 + q)) = 0 := by
  have e : (x1 - q) * (m * mu - (m * m - x3 + q)) = m * (mu * (x1 - q)) - m * m * x1 + q * (m * m) - (x1 - q) * (q - x3) := by
    clear h k2 vi
    grind
  have e2 : m * (m * x1 + a1 * q + a3) = m * m * x1 + a1 * m * q + m * a3 := by
    clear h k2 vi e
    grind
  rw [e, h, e2, vi]
  have e3 : q * (m * m) = q * (x3 + x1 - p - q - a1 * m) := by rw [k2]
  rw [e3]
  clear e e2 e3 h k2 vi
  grind
theorem hz6 {m x1 x3 p q a1 la : F} (k2 : m * m = x3 + x1 - p - q - a1 * m) (u2 : la * m = q - x3) : m * (m * (la * la + a1 * la + q - x3) - la * (x1 - p)) = 0 := by
  have e : m * (m * (la * la + a1 * la + q - x3) - la * (x1 - p)) = (la * m) * (la * m) + a1 * m * (la * m) + m * m * (q - x3) - (la * m) * (x1 - p) := by
    clear k2 u2
    grind
  rw [e, u2, k2]
  clear e k2 u2
  grind
theorem hz7 {m x1 x3 p q a1 la : F} (k2 : m * m = x3 + x1 - p - q - a1 * m) (u2 : la * m = q - x3) : la * la + a1 * la + q - x3 = (la + m) * (la + m) + a1 * (la + m) + p - x1 := by
  have e : (la + m) * (la + m) + a1 * (la + m) + p - x1 = la * la + (la * m) + (la * m) + m * m + a1 * la + a1 * m + p - x1 := by
    clear k2 u2
    grind
  rw [e, u2, k2]
  clear e k2 u2
  grind
theorem hz8 {m x1 p q a1 a3 : F} (h : m * (m * x1) + m * (a1 * x1) + m * a3 = (x1 - p) * (x1 - q)) : m * a3 = p * q - x1 * (m * m + a1 * m + p + q - x1) := by
  have e : m * a3 = (m * (m * x1) + m * (a1 * x1) + m * a3) - m * (m * x1) - m * (a1 * x1) := by
    clear h
    grind
  rw [e, h]
  clear e h
  grind
theorem gsub0 {a b : F} (h : a - b = 0) : a = b := by grind
/-- the heart: the second point at (0, 0), the line through the second and the third flat -/
theorem heart (nz : ∀ a b : F, a * b = 0 → a = 0 ∨ b = 0) {a1 a3 p q x1 m x3 la mu : F}
    (h1 : m * (m * x1) + m * (a1 * x1) + m * a3 = (x1 - p) * (x1 - q)) (h3 : x3 = m * m + a1 * m + p + q - x1)
    (hl1 : la * (x3 - p) = -(m * x3 + a1 * x3 + a3)) (hl2 : -(la * (m * x3)) = x3 * x3 - q * x3) (hl : ¬ (x3 = p ∧ m * x3 = 0))
    (hm1 : mu * (x1 - q) = m * x1 + a1 * q + a3) (hm2 : mu * (m * x1) = x1 * x1 - p * x1 - a1 * (m * x1)) (hm : ¬ (x1 = q ∧ m * x1 = 0)) :
    la * la + a1 * la + q - x3 = mu * mu + a1 * mu + p - x1 ∧ la * ((la * la + a1 * la + q - x3) - p) = mu * ((la * la + a1 * la + q - x3) - x1) + m * x1 := by
  by_cases m0 : m = 0
  · subst m0
    have e1 : (x1 - p) * (x1 - q) = 0 := by
      rw [← h1]
      clear nz h1 h3 hl1 hl2 hl hm1 hm2 hm
      grind
    have e2 : x3 = p + q - x1 := by
      rw [h3]
      clear nz h1 h3 hl1 hl2 hl hm1 hm2 hm e1
      grind
    have nq : x1 ≠ q := fun z => hm ⟨z, by
      clear nz h1 h3 hl1 hl2 hl hm1 hm2 hm e1 e2 z
      grind⟩
    have hp : x1 = p := by
      rcases nz _ _ e1 with z | z
      · exact gsub0 z
      · exact absurd (gsub0 z) nq
    subst hp
    have e3 : x3 = q := by
      rw [e2]
      clear nz h1 h3 hl1 hl2 hl hm1 hm2 hm e1 e2 nq
      grind
    subst e3
    have e4 : (la - mu) * (x1 - x3) = 0 := by
      have : (la - mu) * (x1 - x3) = -(la * (x3 - x1)) - mu * (x1 - x3) := by
        clear nz h1 h3 hl1 hl2 hl hm1 hm2 hm e1 e2 nq
        grind
      rw [this, hl1, hm1]
      clear nz h1 h3 hl1 hl2 hl hm1 hm2 hm e1 e2 nq this
      grind
    have e5 : la = mu := by
      rcases nz _ _ e4 with z | z
      · exact gsub0 z
      · exact absurd (gsub0 z) nq
    subst e5
    clear nz h1 h3 hl1 hl2 hl hm1 hm2 hm e1 e2 nq e4
    constructor <;> grind
  · have vi : m * a3 = p * q - x1 * x3 := by
      rw [h3]
      exact hz8 h1
    have k2 : m * m = x3 + x1 - p - q - a1 * m := by
      rw [h3]
      clear nz h1 h3 hl1 hl2 hl hm1 hm2 hm vi
      grind
    have el : la * m + x3 - q = 0 := by
      rcases nz _ _ (hz1 hl2) with z | z
      · rcases nz _ _ (hz2 hl1 (hz3 k2 vi)) with z2 | z2
        · exact absurd ⟨gsub0 z2, by rw [z, Lean.Grind.Semiring.mul_zero]⟩ hl
        · exact z2
      · exact z
    have u2 : la * m = q - x3 := by
      clear nz h1 h3 hl1 hl2 hl hm1 hm2 hm vi k2
      grind
    have em : m * mu - (m * m - x3 + q) = 0 := by
      rcases nz _ _ (hz4 k2 hm2) with z | z
      · rcases nz _ _ (hz5 k2 vi hm1) with z2 | z2
        · exact absurd ⟨gsub0 z2, by rw [z, Lean.Grind.Semiring.mul_zero]⟩ hm
        · exact z2
      · exact z
    have es : mu = la + m := by
      have t : m * (mu - (la + m)) = 0 := by
        clear nz h1 h3 hl1 hl2 hl hm1 hm2 hm vi k2 el
        grind
      rcases nz _ _ t with z | z
      · exact absurd z m0
      · exact gsub0 z
    subst es
    refine ⟨hz7 k2 u2, ?_⟩
    rcases nz _ _ (hz6 k2 u2) with z | z
    · exact absurd z m0
    · have z := gsub0 z
      generalize la * la + a1 * la + q - x3 = X at z ⊢
      clear nz h1 h3 hl1 hl2 hl hm1 hm2 hm vi k2 el u2 em
      grind
end
section
variable {F : Type} [Lean.Grind.CommRing F] {c : CuG F} {x1 x2 x3 y1 y2 y3 al be la mu X Z : F}
theorem hg1 (a : SlG c al x1 y1 x2 y2) (b : SlG c be x2 y2 x3 y3) (hZ : Z = gx c be x2 x3) : (al - be) * ((al - be) * (x1 - x2)) + (al - be) * ((c.a1 + 2 * be) * (x1 - x2)) + (al - be) * (c.a3 + 2 * y2 + c.a1 * x2) = (x1 - x2 - (x3 - x2)) * (x1 - x2 - (Z - x2)) := by
  obtain ⟨p1, p2⟩ := a
  obtain ⟨q1, q2⟩ := b
  have h1 : y1 = y2 + al * (x1 - x2) := by
    clear hZ p2 q1 q2
    grind
  have h3 : y3 = y2 + be * (x3 - x2) := by
    clear hZ p1 p2 q2 h1
    grind
  rw [h1] at p2
  rw [h3] at q2
  clear p1 q1 h1 h3
  rw [hZ]
  unfold gx
  clear hZ
  grind
theorem hg3 (hZ : Z = gx c be x2 x3) : gx c al x1 x2 - x2 = (al - be) * (al - be) + (c.a1 + 2 * be) * (al - be) + (x3 - x2) + (Z - x2) - (x1 - x2) := by
  rw [hZ]
  unfold gx
  clear hZ
  grind
theorem hgl1 (a : al * (x1 - x2) = y1 - y2) (b : be * (x2 - x3) = y2 - y3) (l : la * (X - x3) = gy c al x1 y1 X - y3) : (la - be) * (X - x2 - (x3 - x2)) = -((al - be) * (X - x2) + (c.a1 + 2 * be) * (X - x2) + (c.a3 + 2 * y2 + c.a1 * x2)) := by
  unfold gy at l
  grind
theorem hgl2 (a : al * (x1 - x2) = y1 - y2) (b : SlG c be x2 y2 x3 y3) (hZ : Z = gx c be x2 x3) (l : SlG c la x3 y3 X (gy c al x1 y1 X)) : -((la - be) * ((al - be) * (X - x2))) = (X - x2) * (X - x2) - (Z - x2) * (X - x2) := by
  obtain ⟨q1, q2⟩ := b
  obtain ⟨l1, l2⟩ := l
  have h1 : y1 = y2 + al * (x1 - x2) := by
    clear hZ l1 l2 q1 q2
    grind
  have h3 : y3 = y2 + be * (x3 - x2) := by
    clear hZ l1 l2 q2 h1 a
    grind
  subst h1
  subst h3
  clear a q1
  unfold gy at l1 l2
  subst hZ
  unfold gx
  have e : (-((la - be) * ((al - be) * (X - x2)))) - ((X - x2) * (X - x2) - (be * be + c.a1 * be - c.a2 - x2 - x3 - x2) * (X - x2)) = (la * (y2 + be * (x3 - x2) + (-(y2 + al * (x1 - x2) + al * (X - x1)) - c.a1 * X - c.a3) + c.a1 * X + c.a3) - (x3 * x3 + x3 * X + X * X + c.a2 * (x3 + X) + c.a4 - c.a1 * (y2 + be * (x3 - x2)))) - be * (la * (x3 - X) - (y2 + be * (x3 - x2) - (-(y2 + al * (x1 - x2) + al * (X - x1)) - c.a1 * X - c.a3))) - (be * (y2 + (y2 + be * (x3 - x2)) + c.a1 * x3 + c.a3) - (x2 * x2 + x2 * x3 + x3 * x3 + c.a2 * (x2 + x3) + c.a4 - c.a1 * y2)) := by
    clear q2 l1 l2
    grind
  rw [q2, l1, l2] at e
  clear q2 l1 l2
  apply gsub0
  rw [e]
  clear e
  grind
theorem hgl (a : al * (x1 - x2) = y1 - y2) (b : be * (x2 - x3) = y2 - y3) (no : ¬ OppG c X (gy c al x1 y1 X) x3 y3) : ¬ (X - x2 = x3 - x2 ∧ (al - be) * (X - x2) = 0) := by
  rintro ⟨z1, z2⟩
  have e : X = x3 := by
    clear no z2 a b
    grind
  refine no ⟨e, ?_⟩
  subst e
  unfold gy
  clear no z1
  grind
theorem hgm1 (a : al * (x1 - x2) = y1 - y2) (m : mu * (x1 - Z) = y1 - gy c be x2 y2 Z) : (mu - be) * (x1 - x2 - (Z - x2)) = (al - be) * (x1 - x2) + (c.a1 + 2 * be) * (Z - x2) + (c.a3 + 2 * y2 + c.a1 * x2) := by
  unfold gy at m
  grind
theorem hgm2 (a : al * (x1 - x2) = y1 - y2) (b : SlG c be x2 y2 x3 y3) (hZ : Z = gx c be x2 x3) (m : SlG c mu x1 y1 Z (gy c be x2 y2 Z)) : (mu - be) * ((al - be) * (x1 - x2)) = (x1 - x2) * (x1 - x2) - (x3 - x2) * (x1 - x2) - (c.a1 + 2 * be) * ((al - be) * (x1 - x2)) := by
  obtain ⟨q1, q2⟩ := b
  obtain ⟨l1, l2⟩ := m
  have h1 : y1 = y2 + al * (x1 - x2) := by
    clear hZ l1 l2 q1 q2
    grind
  have h3 : y3 = y2 + be * (x3 - x2) := by
    clear hZ l1 l2 q2 h1 a
    grind
  subst h1
  subst h3
  clear a q1
  unfold gy at l1 l2
  subst hZ
  unfold gx at l1 l2
  generalize hZ : be * be + c.a1 * be - c.a2 - x2 - x3 = Z at *
  have e : (mu - be) * ((al - be) * (x1 - x2)) - ((x1 - x2) * (x1 - x2) - (x3 - x2) * (x1 - x2) - (c.a1 + 2 * be) * ((al - be) * (x1 - x2))) = (mu * (y2 + al * (x1 - x2) + (-(y2 + be * (Z - x2)) - c.a1 * Z - c.a3) + c.a1 * Z + c.a3) - (x1 * x1 + x1 * Z + Z * Z + c.a2 * (x1 + Z) + c.a4 - c.a1 * (y2 + al * (x1 - x2)))) - be * (mu * (x1 - Z) - (y2 + al * (x1 - x2) - (-(y2 + be * (Z - x2)) - c.a1 * Z - c.a3))) - (be * (y2 + (y2 + be * (x3 - x2)) + c.a1 * x3 + c.a3) - (x2 * x2 + x2 * x3 + x3 * x3 + c.a2 * (x2 + x3) + c.a4 - c.a1 * y2)) := by
    rw [← hZ]
    clear q2 l1 l2 hZ
    grind
  rw [q2, l1, l2] at e
  clear q2 l1 l2
  apply gsub0
  rw [e]
  clear e
  grind
theorem hgm (a : al * (x1 - x2) = y1 - y2) (no : ¬ OppG c x1 y1 Z (gy c be x2 y2 Z)) : ¬ (x1 - x2 = Z - x2 ∧ (al - be) * (x1 - x2) = 0) := by
  rintro ⟨z1, z2⟩
  have e : x1 = Z := by
    clear no z2 a
    grind
  refine no ⟨e, ?_⟩
  subst e
  unfold gy
  clear no z1
  grind
theorem assoc_ln (nz : ∀ a b : F, a * b = 0 → a = 0 ∨ b = 0) (a : SlG c al x1 y1 x2 y2) (b : SlG c be x2 y2 x3 y3)
    (nl : ¬ OppG c (gx c al x1 x2) (gy c al x1 y1 (gx c al x1 x2)) x3 y3) (l : SlG c la (gx c al x1 x2) (gy c al x1 y1 (gx c al x1 x2)) x3 y3)
    (nm : ¬ OppG c x1 y1 (gx c be x2 x3) (gy c be x2 y2 (gx c be x2 x3))) (m : SlG c mu x1 y1 (gx c be x2 x3) (gy c be x2 y2 (gx c be x2 x3))) :
    gx c la (gx c al x1 x2) x3 = gx c mu x1 (gx c be x2 x3) ∧ gy c la (gx c al x1 x2) (gy c al x1 y1 (gx c al x1 x2)) (gx c la (gx c al x1 x2) x3) = gy c mu x1 y1 (gx c la (gx c al x1 x2) x3) := by
  have t3 := hg3 (c := c) (al := al) (be := be) (x1 := x1) (x2 := x2) (x3 := x3) rfl
  have tl2 := hgl2 a.1 b rfl l.symm
  have tm2 := hgm2 a.1 b rfl m
  have t1 := hg1 a b rfl
  have sy := gy_symm l
  generalize hX : gx c al x1 x2 = X at *
  have ez : gx c la X x3 = (la - be) * (la - be) + (c.a1 + 2 * be) * (la - be) + (gx c be x2 x3 - x2) - (X - x2) + x2 := by
    unfold gx
    clear t3 tl2 tm2 t1 sy nl l nm m a b hX nz
    grind
  have ey : gx c mu x1 (gx c be x2 x3) = (mu - be) * (mu - be) + (c.a1 + 2 * be) * (mu - be) + (x3 - x2) - (x1 - x2) + x2 := by
    unfold gx
    clear t3 tl2 tm2 t1 sy nl l nm m a b hX nz ez
    grind
  generalize hZ : gx c be x2 x3 = Z at *
  obtain ⟨r1, r2⟩ := heart nz t1 t3 (hgl1 a.1 b.1 l.1) tl2 (hgl a.1 b.1 nl) (hgm1 a.1 m.1) tm2 (hgm a.1 nm)
  refine ⟨by rw [ez, ey, r1], ?_⟩
  rw [sy]
  have e2 : gx c la X x3 - x2 = (la - be) * (la - be) + (c.a1 + 2 * be) * (la - be) + (Z - x2) - (X - x2) := by
    rw [ez]
    clear t3 tl2 tm2 t1 sy nl l nm m a b hX nz ez ey hZ r1 r2
    grind
  rw [← e2] at r2
  generalize gx c la X x3 = T at *
  have h1 := a.1
  have h2 := b.1
  unfold gy
  clear t3 tl2 tm2 t1 sy nl l nm m a b hX nz ez ey hZ r1 e2
  grind
end
section
variable {F : Type} [Lean.Grind.CommRing F] {c : CuG F} {P Q R S T U V : Option (F × F)}
theorem SmG.opp (P : Option (F × F)) : SmG c P (ngG c P) none := by
  rcases P with _ | ⟨x, y⟩
  · exact .n0 _
  · exact .op ⟨rfl, by grind⟩
/-- the third of a sum that comes to none -/
theorem SmG.of_none (h : SmG c P Q none) : Q = ngG c P := by
  cases h with
  | n0 _ => rfl
  | n1 _ => rfl
  | @op x y v w h =>
    have h1 := h.1
    have h2 := h.2
    subst h1
    show _ = some (x, -y - c.a1 * x - c.a3)
    congr 2
    clear h
    grind
/-- a sum of three, one pair of which comes to none -/
theorem SmG.assoc_none (nz : ∀ a b : F, a * b = 0 → a = 0 ∨ b = 0) (sm : SmoG c) (hP : OnO c P) (hQ : OnO c Q) (hR : OnO c R) (h1 : SmG c P Q S) (h2 : SmG c S R none) (h3 : SmG c Q R T) (h4 : SmG c P T V) : V = none := by
  have hS := h1.on hP hQ
  have e := h2.of_none
  have k1 : SmG c S (ngG c P) Q := h1.comm.back nz sm hP
  have k2 : SmG c R P (ngG c Q) := by
    have := k1.ng
    rw [ngG_ngG, ← e] at this
    exact this
  have k3 : SmG c (ngG c Q) (ngG c R) P := k2.comm.back nz sm hR
  have k4 : SmG c Q R (ngG c P) := by
    have := k3.ng
    rw [ngG_ngG, ngG_ngG] at this
    exact this
  have e2 := h3.uniq nz k4
  subst e2
  exact h4.uniq nz (SmG.opp P)
theorem SmG.assoc (nz : ∀ a b : F, a * b = 0 → a = 0 ∨ b = 0) (sm : SmoG c) (hP : OnO c P) (hQ : OnO c Q) (hR : OnO c R) (h1 : SmG c P Q S) (h2 : SmG c S R U) (h3 : SmG c Q R T) (h4 : SmG c P T V) : U = V := by
  rcases U with _ | ⟨ux, uy⟩
  · exact (SmG.assoc_none nz sm hP hQ hR h1 h2 h3 h4).symm
  rcases V with _ | ⟨vx, vy⟩
  · exact SmG.assoc_none nz sm hR hQ hP h3.comm h4.comm h1.comm h2.comm
  rcases P with _ | ⟨x1, y1⟩
  · have e1 := h1.uniq nz (.n0 Q)
    subst e1
    have e2 := h4.uniq nz (.n0 T)
    rw [e2]
    exact h2.uniq nz h3
  rcases Q with _ | ⟨x2, y2⟩
  · have e1 := h1.uniq nz (.n1 _)
    subst e1
    have e2 := h3.uniq nz (.n0 _)
    subst e2
    exact h2.uniq nz h4
  rcases R with _ | ⟨x3, y3⟩
  · have e1 := h2.uniq nz (.n1 _)
    subst e1
    have e2 := h3.uniq nz (.n1 _)
    subst e2
    exact h1.uniq nz h4
  rcases S with _ | ⟨x4, y4⟩
  · have e := h1.of_none
    have e1 := h2.uniq nz (.n0 _)
    have k := h3.comm
    have e2 := h4.uniq nz (k.back nz sm hQ |>.comm |> fun z => by
      rw [show some (x1, y1) = ngG c (some (x2, y2)) by rw [e, ngG_ngG]]
      exact z)
    rw [e1, e2]
  rcases T with _ | ⟨x5, y5⟩
  · have e := h3.of_none
    have e1 := h4.uniq nz (.n1 _)
    have k := h1.back nz sm hQ
    rw [← e] at k
    rw [e1]
    exact h2.uniq nz k
  cases h1 with
  | ln n1 s1 =>
    cases h3 with
    | ln n3 s3 =>
      cases h2 with
      | ln n2 s2 =>
        cases h4 with
        | ln n4 s4 =>
          obtain ⟨r1, r2⟩ := assoc_ln nz s1 s3 n2 s2 n4 s4
          rw [r2, r1]
end
end CW

end
section
set_option maxRecDepth 100000
set_option maxHeartbeats 2000000
/-! plain: sharp sizes of sums -/
namespace CW
open PySem PySem.Spec PyProof.Rows L2
/-- whole over the i-th power of E and the j-th of F -/
def W2 (E F : Int) (n i j : Nat) (q : Rat) : Prop := ∃ N : Int, q * ((E : Rat) ^ i * (F : Rat) ^ j) = N ∧ szi N n
section
variable {E F : Int} {e f n m r i j k l d : Nat} {a b : Rat}
theorem W2.mul (ha : W2 E F n i j a) (hb : W2 E F m k l b) : W2 E F (n + m) (i + k) (j + l) (a * b) := by
  obtain ⟨A, a1, a2⟩ := ha
  obtain ⟨B, b1, b2⟩ := hb
  refine ⟨A * B, ?_, a2.mul b2⟩
  rw [rpow_add, rpow_add, rc_mul, ← a1, ← b1]
  grind
theorem W2.add (ha : W2 E F n i j a) (hb : W2 E F m i j b) (h1 : n + 1 ≤ r := by omega) (h2 : m + 1 ≤ r := by omega) : W2 E F r i j (a + b) := by
  obtain ⟨A, a1, a2⟩ := ha
  obtain ⟨B, b1, b2⟩ := hb
  refine ⟨A + B, ?_, szi.sum a2 b2 h1 h2⟩
  rw [rc_add, ← a1, ← b1]
  grind
theorem W2.neg (ha : W2 E F n i j a) : W2 E F n i j (-a) := by
  obtain ⟨A, a1, a2⟩ := ha
  refine ⟨-A, ?_, a2.neg⟩
  rw [rc_neg, ← a1]
  grind
theorem W2.sub (ha : W2 E F n i j a) (hb : W2 E F m i j b) (h1 : n + 1 ≤ r := by omega) (h2 : m + 1 ≤ r := by omega) : W2 E F r i j (a - b) := by
  rw [Rat.sub_eq_add_neg]
  exact ha.add hb.neg h1 h2
theorem W2.mono (ha : W2 E F n i j a) (h : n ≤ m := by omega) : W2 E F m i j a := by
  obtain ⟨A, a1, a2⟩ := ha
  exact ⟨A, a1, a2.mono h⟩
theorem W2.of1 (h : Wn E n k a) : W2 E F n k 0 a := by
  obtain ⟨A, a1, a2⟩ := h
  exact ⟨A, by rw [Rat.pow_zero, Rat.mul_one]; exact a1, a2⟩
theorem W2.of2 (h : Wn F n k a) : W2 E F n 0 k a := by
  obtain ⟨A, a1, a2⟩ := h
  exact ⟨A, by rw [Rat.pow_zero, Rat.one_mul]; exact a1, a2⟩
theorem W2.int {c : Int} (h : szi c n) : W2 E F n 0 0 (c : Rat) := ⟨c, by rw [Rat.pow_zero, Rat.pow_zero, Rat.mul_one, Rat.mul_one], h⟩
/-- raised by one power -/
theorem W2.to (hE : szi E e) (hF : szi F f) (ha : W2 E F n i j a) (d d' : Nat) : W2 E F (n + (e * d + 1) + (f * d' + 1)) (i + d) (j + d') a := by
  obtain ⟨A, a1, a2⟩ := ha
  refine ⟨A * E ^ d * F ^ d', ?_, (a2.mul (szi_pow hE d)).mul (szi_pow hF d')⟩
  rw [rpow_add, rpow_add, rc_mul, rc_mul, rc_pow, rc_pow, ← a1]
  grind
theorem W2.up (ha : W2 E F n i j a) (hE : szi E e) (hF : szi F f) (d d' k l m : Nat) (h1 : i + d = k := by omega) (h2 : j + d' = l := by omega) (h3 : n + (e * d + 1) + (f * d' + 1) ≤ m := by omega) : W2 E F m k l a := by
  subst h1 h2
  exact (W2.to hE hF ha d d').mono h3
end
/-- a point over E: x over its square, y over its cube, the curve over E -/
structure Sz (E : Int) (e : Nat) (a1 a2 a3 a4 a6 x y : Rat) : Prop where
  E0 : E ≠ 0
  hE : szi E e
  A1 : Wn E e 1 a1
  A2 : Wn E e 1 a2
  A3 : Wn E e 1 a3
  A4 : Wn E e 1 a4
  A6 : Wn E e 1 a6
  X : Wn E (2 * e) 2 x
  Y : Wn E (3 * e) 3 y
section
variable {E F : Int} {e f : Nat} {a1 a2 a3 a4 a6 x y v w l : Rat}
theorem Sz.mono (h : Sz E e a1 a2 a3 a4 a6 x y) (k : e ≤ f) : Sz E f a1 a2 a3 a4 a6 x y :=
  ⟨h.E0, h.hE.mono k, h.A1.mono k, h.A2.mono k, h.A3.mono k, h.A4.mono k, h.A6.mono k, h.X.mono (by omega), h.Y.mono (by omega)⟩
theorem Sz.hx (h : Sz E e a1 a2 a3 a4 a6 x y) (he : 1 ≤ e) : hz x ≤ 2 * e + 1 := Wn.hz h.E0 h.hE h.X (by omega) (by omega)
theorem Sz.hy (h : Sz E e a1 a2 a3 a4 a6 x y) (he : 1 ≤ e) : hz y ≤ 3 * e + 1 := Wn.hz h.E0 h.hE h.Y (by omega) (by omega)
/-- by a slope over E -/
theorem Sz.slope (E0 : E ≠ 0) (hE : szi E e) (A1 : Wn E e 1 a1) (A2 : Wn E e 1 a2) (A3 : Wn E e 1 a3) (A4 : Wn E e 1 a4) (A6 : Wn E e 1 a6) (hl : Wn E e 1 l) (hx : Wn E (2 * e) 2 x) (hv : Wn E (2 * e) 2 v) (hy : Wn E (3 * e) 3 y) :
    Sz E (e + 3) a1 a2 a3 a4 a6 (fx a1 a2 l x v) (fy a1 a3 l x y (fx a1 a2 l x v)) := by
  have X1 : Wn E (2 * e + 4) 2 (fx a1 a2 l x v) := by
    unfold fx
    have t1 : Wn E (2 * e) 2 (l * l) := (hl.mul hl).mono (by omega)
    have t2 : Wn E (2 * e) 2 (a1 * l) := (A1.mul hl).mono (by omega)
    have t3 : Wn E (2 * e + 1) 2 a2 := Wn.to hE A2 (by decide) (by omega)
    have t4 := (t1.add t2).sub (t3.mono (by omega))
    have t5 := t4.sub (hx.mono (by omega))
    exact (t5.sub (hv.mono (by omega))).mono (by omega)
  have Y1 : Wn E (3 * e + 9) 3 (fy a1 a3 l x y (fx a1 a2 l x v)) := by
    generalize fx a1 a2 l x v = G at *
    unfold fy
    have t1 : Wn E (3 * e + 4) 3 (l * G) := (hl.mul X1).mono (by omega)
    have t2 : Wn E (3 * e + 4) 3 (a1 * G) := (A1.mul X1).mono (by omega)
    have t3 := (t1.neg.sub t2).sub (hy.mono (by omega))
    have t4 : Wn E (3 * e) 3 (l * x) := (hl.mul hx).mono (by omega)
    have t5 : Wn E (3 * e + 1) 3 a3 := Wn.to hE A3 (by decide) (by omega)
    exact ((t3.add (t4.mono (by omega))).sub (t5.mono (by omega))).mono (by omega)
  exact ⟨E0, hE.mono (by omega), A1.mono (by omega), A2.mono (by omega), A3.mono (by omega), A4.mono (by omega), A6.mono (by omega), X1.mono (by omega), Y1.mono (by omega)⟩
/-- the line that touches -/
theorem Sz.tan (h : Sz E e a1 a2 a3 a4 a6 x y) (hne : 2 * y + a1 * x + a3 ≠ 0) (hl : l * (2 * y + a1 * x + a3) = 3 * x * x + 2 * a2 * x + a4 - a1 * y) (he : 1 ≤ e) :
    (∃ G, Sz G (4 * e + 8) a1 a2 a3 a4 a6 (fx a1 a2 l x x) (fy a1 a3 l x y (fx a1 a2 l x x))) ∧ hz l ≤ 4 * e + 6 := by
  have d1 : Wn E (3 * e + 4) 3 (2 * y + a1 * x + a3) := by
    have t1 : Wn E (3 * e + 2) 3 (2 * y) := ((Wn.int (show szi 2 2 by decide)).mul h.Y).mono (by omega)
    have t2 : Wn E (3 * e) 3 (a1 * x) := (h.A1.mul h.X).mono (by omega)
    have t3 : Wn E (3 * e + 1) 3 a3 := Wn.to h.hE h.A3 (by decide) (by omega)
    exact ((t1.add (t2.mono (by omega))).add (t3.mono (by omega))).mono (by omega)
  have n1 : Wn E (4 * e + 5) 4 (3 * x * x + 2 * a2 * x + a4 - a1 * y) := by
    have t1 : Wn E (4 * e + 2) 4 (3 * x * x) := (((Wn.int (show szi 3 2 by decide)).mul h.X).mul h.X).mono (by omega)
    have t2 : Wn E (4 * e + 3) 4 (2 * a2 * x) := Wn.to h.hE (((Wn.int (show szi 2 2 by decide)).mul h.A2).mul h.X) (by decide) (by omega)
    have t3 : Wn E (4 * e + 1) 4 a4 := Wn.to h.hE h.A4 (by decide) (by omega)
    have t4 : Wn E (4 * e) 4 (a1 * y) := (h.A1.mul h.Y).mono (by omega)
    have g : 3 * x * x + 2 * a2 * x + a4 - a1 * y = (3 * x * x + 2 * a2 * x) + (a4 - a1 * y) := by grind
    rw [g]
    exact (((t1.mono (by omega)).add t2).add ((t3.sub (t4.mono (by omega))).mono (by omega))).mono (by omega)
  obtain ⟨D, b1, b2⟩ := d1
  obtain ⟨N, e1, e2⟩ := n1
  have ep : (E : Rat) ≠ 0 := fun z => h.E0 (by exact_mod_cast z)
  have hD0 : D ≠ 0 := fun z => by
    rw [z] at b1
    rcases Rat.mul_eq_zero.mp (b1.trans rfl) with z | z
    · exact hne z
    · grind
  have hEB : szi (D * E) (4 * e + 5) := (b2.mul h.hE).mono (by omega)
  have hl' : Wn (D * E) (4 * e + 5) 1 l := by
    refine Wn.frac (A := N) ?_ (Int.mul_ne_zero hD0 h.E0) e2
    rw [rc_mul, ← b1, ← e1, ← hl]
    grind
  have lift : ∀ {k n : Nat} {q : Rat}, Wn E n k q → Wn (D * E) (n + ((3 * e + 4) * k + 1)) k q := fun h => Wn.base b2 h
  refine ⟨⟨D * E, ?_⟩, Wn.hz (Int.mul_ne_zero hD0 h.E0) hEB hl' (by omega) (by omega)⟩
  exact Sz.slope (Int.mul_ne_zero hD0 h.E0) hEB ((lift h.A1).mono (by omega)) ((lift h.A2).mono (by omega)) ((lift h.A3).mono (by omega)) ((lift h.A4).mono (by omega)) ((lift h.A6).mono (by omega)) hl' ((lift h.X).mono (by omega)) ((lift h.X).mono (by omega)) ((lift h.Y).mono (by omega))
end
/-! ### the line through two -/
section
variable {a1 a2 a3 a4 a6 x y v w l : Rat}
def chR (a1 a2 a3 a4 a6 x y v w : Rat) : Rat := ((2 * a2 * (x * v) + a4 * x) + (a4 * v + 2 * a6)) - ((2 * (y * w) + a1 * x * w) + (a1 * v * y + (a3 * y + a3 * w)))
theorem ch_x (h1 : ev a1 a2 a3 a4 a6 x y = 0) (h2 : ev a1 a2 a3 a4 a6 v w = 0) (hl : l * (v - x) = w - y) :
    fx a1 a2 l x v * ((x - v) * (x - v)) = x * x * v + x * v * v + chR a1 a2 a3 a4 a6 x y v w := by
  have e : fx a1 a2 l x v * ((x - v) * (x - v)) = (l * (v - x)) * (l * (v - x)) - a1 * (l * (v - x)) * (x - v) - (a2 + x + v) * ((x - v) * (x - v)) := by
    unfold fx
    clear h1 h2 hl
    grind
  rw [e, hl]
  have k : (w - y) * (w - y) - a1 * (w - y) * (x - v) - (a2 + x + v) * ((x - v) * (x - v)) = x * x * v + x * v * v + chR a1 a2 a3 a4 a6 x y v w + ev a1 a2 a3 a4 a6 x y + ev a1 a2 a3 a4 a6 v w := by
    unfold chR ev
    clear h1 h2 hl e
    grind
  rw [k, h1, h2]
  clear h1 h2 hl e k
  grind
theorem ch_y (hl : l * (v - x) = w - y) {M X : Rat} (hM : X * ((x - v) * (x - v)) = x * x * v + x * v * v + M) :
    fy a1 a3 l x y X * ((x - v) * ((x - v) * (x - v))) = (((y * v * v * v - 3 * (y * x * v * v)) - (w * x * x * x - 3 * (w * x * x * v))) - (y * M - w * M)) - ((a1 * (x * x * v + x * v * v + M) * x - a1 * (x * x * v + x * v * v + M) * v) + ((a3 * (x * x * x) - 3 * (a3 * (x * x * v))) + (3 * (a3 * (x * v * v)) - a3 * (v * v * v)))) := by
  have e : fy a1 a3 l x y X * ((x - v) * ((x - v) * (x - v))) = (l * (v - x)) * (X * ((x - v) * (x - v))) - a1 * (X * ((x - v) * (x - v))) * (x - v) - y * ((x - v) * ((x - v) * (x - v))) - (l * (v - x)) * x * ((x - v) * (x - v)) - a3 * ((x - v) * ((x - v) * (x - v))) := by
    unfold fy
    clear hM hl
    grind
  rw [e, hl, hM]
  clear e hl hM
  grind
end
section
variable {E F : Int} {e f : Nat} {a1 a2 a3 a4 a6 x y v w l : Rat}
theorem chR_w (p : Sz E e a1 a2 a3 a4 a6 x y) (q : Sz F f a1 a2 a3 a4 a6 v w) : W2 E F (3 * e + 3 * f + 8) 3 3 (chR a1 a2 a3 a4 a6 x y v w) := by
  have X : W2 E F (2 * e) 2 0 x := W2.of1 p.X
  have Y : W2 E F (3 * e) 3 0 y := W2.of1 p.Y
  have V : W2 E F (2 * f) 0 2 v := W2.of2 q.X
  have W : W2 E F (3 * f) 0 3 w := W2.of2 q.Y
  have i2 : W2 E F 2 0 0 2 := W2.int (c := 2) (by decide)
  have t1 : W2 E F (3 * e + 3 * f + 4) 3 3 (2 * a2 * (x * v)) := ((i2.mul (W2.of1 p.A2)).mul (X.mul V)).up p.hE q.hE 0 1 3 3 _
  have t2 : W2 E F (3 * e + 3 * f + 4) 3 3 (a4 * x) := ((W2.of1 p.A4).mul X).up p.hE q.hE 0 3 3 3 _
  have t3 : W2 E F (3 * e + 3 * f + 4) 3 3 (a4 * v) := ((W2.of1 p.A4).mul V).up p.hE q.hE 2 1 3 3 _
  have t4 : W2 E F (3 * e + 3 * f + 4) 3 3 (2 * a6) := (i2.mul (W2.of1 p.A6)).up p.hE q.hE 2 3 3 3 _
  have t5 : W2 E F (3 * e + 3 * f + 4) 3 3 (2 * (y * w)) := (i2.mul (Y.mul W)).up p.hE q.hE 0 0 3 3 _
  have t6 : W2 E F (3 * e + 3 * f + 4) 3 3 (a1 * x * w) := (((W2.of1 p.A1).mul X).mul W).up p.hE q.hE 0 0 3 3 _
  have t7 : W2 E F (3 * e + 3 * f + 4) 3 3 (a1 * v * y) := (((W2.of2 q.A1).mul V).mul Y).up p.hE q.hE 0 0 3 3 _
  have t8 : W2 E F (3 * e + 3 * f + 4) 3 3 (a3 * y) := ((W2.of2 q.A3).mul Y).up p.hE q.hE 0 2 3 3 _
  have t9 : W2 E F (3 * e + 3 * f + 4) 3 3 (a3 * w) := ((W2.of1 p.A3).mul W).up p.hE q.hE 2 0 3 3 _
  unfold chR
  exact (W2.add (W2.add t1 t2 (r := 3 * e + 3 * f + 5)) (W2.add t3 t4 (r := 3 * e + 3 * f + 5)) (r := 3 * e + 3 * f + 6)).sub (W2.add (W2.add t5 t6 (r := 3 * e + 3 * f + 5)) (W2.add t7 (W2.add t8 t9 (r := 3 * e + 3 * f + 5)) (r := 3 * e + 3 * f + 6)) (r := 3 * e + 3 * f + 7))
theorem ch_M (p : Sz E e a1 a2 a3 a4 a6 x y) (q : Sz F f a1 a2 a3 a4 a6 v w) : W2 E F (4 * e + 4 * f + 11) 4 4 (x * x * v + x * v * v + chR a1 a2 a3 a4 a6 x y v w) := by
  have X : W2 E F (2 * e) 2 0 x := W2.of1 p.X
  have V : W2 E F (2 * f) 0 2 v := W2.of2 q.X
  have t1 : W2 E F (4 * e + 4 * f + 2) 4 4 (x * x * v) := ((X.mul X).mul V).up p.hE q.hE 0 2 4 4 _
  have t2 : W2 E F (4 * e + 4 * f + 2) 4 4 (x * v * v) := ((X.mul V).mul V).up p.hE q.hE 2 0 4 4 _
  have t3 : W2 E F (4 * e + 4 * f + 10) 4 4 (chR a1 a2 a3 a4 a6 x y v w) := (chR_w p q).up p.hE q.hE 1 1 4 4 _
  exact (W2.add t1 t2 (r := 4 * e + 4 * f + 3)).add t3
theorem ch_Y (p : Sz E e a1 a2 a3 a4 a6 x y) (q : Sz F f a1 a2 a3 a4 a6 v w) : W2 E F (6 * e + 6 * f + 18) 6 6 ((((y * v * v * v - 3 * (y * x * v * v)) - (w * x * x * x - 3 * (w * x * x * v))) - (y * chR a1 a2 a3 a4 a6 x y v w - w * chR a1 a2 a3 a4 a6 x y v w)) - ((a1 * (x * x * v + x * v * v + chR a1 a2 a3 a4 a6 x y v w) * x - a1 * (x * x * v + x * v * v + chR a1 a2 a3 a4 a6 x y v w) * v) + ((a3 * (x * x * x) - 3 * (a3 * (x * x * v))) + (3 * (a3 * (x * v * v)) - a3 * (v * v * v))))) := by
  have X : W2 E F (2 * e) 2 0 x := W2.of1 p.X
  have Y : W2 E F (3 * e) 3 0 y := W2.of1 p.Y
  have V : W2 E F (2 * f) 0 2 v := W2.of2 q.X
  have W : W2 E F (3 * f) 0 3 w := W2.of2 q.Y
  have i3 : W2 E F 2 0 0 3 := W2.int (c := 3) (by decide)
  have R := chR_w p q
  have M := ch_M p q
  generalize chR a1 a2 a3 a4 a6 x y v w = r at *
  generalize x * x * v + x * v * v + r = m at *
  have t1 : W2 E F (6 * e + 6 * f + 4) 6 6 (y * v * v * v) := (((Y.mul V).mul V).mul V).up p.hE q.hE 3 0 6 6 _
  have t2 : W2 E F (6 * e + 6 * f + 4) 6 6 (3 * (y * x * v * v)) := (i3.mul (((Y.mul X).mul V).mul V)).up p.hE q.hE 1 2 6 6 _
  have t3 : W2 E F (6 * e + 6 * f + 4) 6 6 (w * x * x * x) := (((W.mul X).mul X).mul X).up p.hE q.hE 0 3 6 6 _
  have t4 : W2 E F (6 * e + 6 * f + 4) 6 6 (3 * (w * x * x * v)) := (i3.mul (((W.mul X).mul X).mul V)).up p.hE q.hE 2 1 6 6 _
  have t5 : W2 E F (6 * e + 6 * f + 10) 6 6 (y * r) := (Y.mul R).up p.hE q.hE 0 3 6 6 _
  have t6 : W2 E F (6 * e + 6 * f + 10) 6 6 (w * r) := (W.mul R).up p.hE q.hE 3 0 6 6 _
  have t7 : W2 E F (6 * e + 6 * f + 13) 6 6 (a1 * m * x) := (((W2.of2 q.A1).mul M).mul X).up p.hE q.hE 0 1 6 6 _
  have t8 : W2 E F (6 * e + 6 * f + 13) 6 6 (a1 * m * v) := (((W2.of1 p.A1).mul M).mul V).up p.hE q.hE 1 0 6 6 _
  have u1 : W2 E F (6 * e + 6 * f + 4) 6 6 (a3 * (x * x * x)) := ((W2.of2 q.A3).mul ((X.mul X).mul X)).up p.hE q.hE 0 5 6 6 _
  have u2 : W2 E F (6 * e + 6 * f + 4) 6 6 (3 * (a3 * (x * x * v))) := (i3.mul ((W2.of1 p.A3).mul ((X.mul X).mul V))).up p.hE q.hE 1 4 6 6 _
  have u3 : W2 E F (6 * e + 6 * f + 4) 6 6 (3 * (a3 * (x * v * v))) := (i3.mul ((W2.of1 p.A3).mul ((X.mul V).mul V))).up p.hE q.hE 3 2 6 6 _
  have u4 : W2 E F (6 * e + 6 * f + 4) 6 6 (a3 * (v * v * v)) := ((W2.of1 p.A3).mul ((V.mul V).mul V)).up p.hE q.hE 5 0 6 6 _
  exact ((((t1.sub t2 (r := 6 * e + 6 * f + 5)).sub (t3.sub t4 (r := 6 * e + 6 * f + 5)) (r := 6 * e + 6 * f + 6))).sub (t5.sub t6 (r := 6 * e + 6 * f + 11)) (r := 6 * e + 6 * f + 12)).sub ((t7.sub t8 (r := 6 * e + 6 * f + 14)).add ((u1.sub u2 (r := 6 * e + 6 * f + 5)).add (u3.sub u4 (r := 6 * e + 6 * f + 5)) (r := 6 * e + 6 * f + 6)) (r := 6 * e + 6 * f + 15))
theorem w2_low (p : Sz E e a1 a2 a3 a4 a6 x y) (q : Sz F f a1 a2 a3 a4 a6 v w) {a : Rat} (h1 : Wn E e 1 a) (h2 : Wn F f 1 a) : W2 E F (2 * e + 2 * f + 3) 2 2 (a * (x - v)) := by
  have t1 : W2 E F (2 * e + 2 * f + 2) 2 2 (a * x) := ((W2.of2 h2).mul (W2.of1 p.X)).up p.hE q.hE 0 1 2 2 _
  have t2 : W2 E F (2 * e + 2 * f + 2) 2 2 (a * v) := ((W2.of1 h1).mul (W2.of2 q.X)).up p.hE q.hE 1 0 2 2 _
  have e : a * (x - v) = a * x - a * v := by grind
  rw [e]
  exact t1.sub t2
theorem wn_of {N : Int} {n k : Nat} {d q g : Rat} (hN : d * ((E : Rat) ^ 2 * (F : Rat) ^ 2) = N) (h : W2 E F n (2 * k) (2 * k) g) (hg : g = q * d ^ k) : Wn N n k q := by
  obtain ⟨A, b1, b2⟩ := h
  refine ⟨A, ?_, b2⟩
  rw [← b1, ← hN, hg]
  have pw : ∀ (z : Rat) (k : Nat), (z ^ 2) ^ k = z ^ (2 * k) := fun z k => by
    induction k with
    | zero => rw [Nat.mul_zero, Rat.pow_zero, Rat.pow_zero]
    | succ k ih => rw [Rat.pow_succ, ih, show 2 * (k + 1) = 2 * k + 2 by omega, rpow_add]
  rw [rpow_of_mul, rpow_of_mul, pw, pw, Rat.mul_assoc]
theorem Sz.chord (p : Sz E e a1 a2 a3 a4 a6 x y) (q : Sz F f a1 a2 a3 a4 a6 v w) (h1 : ev a1 a2 a3 a4 a6 x y = 0) (h2 : ev a1 a2 a3 a4 a6 v w = 0) (hne : x ≠ v) (hl : l * (v - x) = w - y) :
    (∃ G, Sz G (2 * (e + f) + 6) a1 a2 a3 a4 a6 (fx a1 a2 l x v) (fy a1 a3 l x y (fx a1 a2 l x v))) ∧ hz l ≤ 3 * (e + f) + 6 := by
  have X : W2 E F (2 * e) 2 0 x := W2.of1 p.X
  have Y : W2 E F (3 * e) 3 0 y := W2.of1 p.Y
  have V : W2 E F (2 * f) 0 2 v := W2.of2 q.X
  have W : W2 E F (3 * f) 0 3 w := W2.of2 q.Y
  have tN : W2 E F (2 * e + 2 * f + 3) 2 2 (x - v) := by
    have t1 : W2 E F (2 * e + 2 * f + 2) 2 2 x := X.up p.hE q.hE 0 2 2 2 _
    have t2 : W2 E F (2 * e + 2 * f + 2) 2 2 v := V.up p.hE q.hE 2 0 2 2 _
    exact t1.sub t2
  have tA : W2 E F (3 * e + 3 * f + 3) 3 3 (w - y) := by
    have t1 : W2 E F (3 * e + 3 * f + 2) 3 3 y := Y.up p.hE q.hE 0 3 3 3 _
    have t2 : W2 E F (3 * e + 3 * f + 2) 3 3 w := W.up p.hE q.hE 3 0 3 3 _
    exact t2.sub t1
  obtain ⟨N, n1, n2⟩ := tN
  obtain ⟨A, b1, b2⟩ := tA
  have ep : (E : Rat) ≠ 0 := fun z => p.E0 (by exact_mod_cast z)
  have fp : (F : Rat) ≠ 0 := fun z => q.E0 (by exact_mod_cast z)
  have hN0 : N ≠ 0 := fun z => by
    rw [z] at n1
    rcases Rat.mul_eq_zero.mp (n1.trans rfl) with z | z
    · grind
    · rcases Rat.mul_eq_zero.mp z with z | z
      · rw [show (2 : Nat) = 1 + 1 from rfl, rpow_add, Rat.pow_one] at z
        grind
      · rw [show (2 : Nat) = 1 + 1 from rfl, rpow_add, Rat.pow_one] at z
        grind
  have low : ∀ {a : Rat}, Wn E e 1 a → Wn F f 1 a → Wn N (2 * (e + f) + 6) 1 a := fun {a} k1 k2 => (wn_of n1 (w2_low p q k1 k2) (by rw [Rat.pow_one])).mono (by omega)
  refine ⟨⟨N, hN0, n2.mono (by omega), low p.A1 q.A1, low p.A2 q.A2, low p.A3 q.A3, low p.A4 q.A4, low p.A6 q.A6, ?_, ?_⟩, ?_⟩
  · refine (wn_of (k := 2) n1 (ch_M p q) ?_).mono (by omega)
    rw [← ch_x h1 h2 hl, show (2 : Nat) = 1 + 1 from rfl, rpow_add, Rat.pow_one]
  · refine (wn_of (k := 3) n1 (ch_Y p q) ?_).mono (by omega)
    rw [← ch_y hl (ch_x h1 h2 hl), show (3 : Nat) = 1 + (1 + 1) from rfl, rpow_add, rpow_add, Rat.pow_one]
  · have hB0 : N * E * F ≠ 0 := Int.mul_ne_zero (Int.mul_ne_zero hN0 p.E0) q.E0
    have hl' : Wn (N * E * F) (3 * (e + f) + 3) 1 l := by
      refine Wn.frac (A := -A) ?_ hB0 (b2.neg.mono (by omega))
      rw [rc_mul, rc_mul, rc_neg, ← n1, ← b1, ← hl]
      have g : ∀ z : Rat, z ^ 3 = z * z ^ 2 := fun z => by rw [show (3 : Nat) = 1 + 2 from rfl, rpow_add, Rat.pow_one]
      rw [g, g]
      grind
    exact Wn.hz hB0 (((n2.mul p.hE).mul q.hE).mono (show _ ≤ 3 * (e + f) + 3 by omega)) hl' (by omega) (by omega)
end
end CW

end
section
set_option maxRecDepth 100000
set_option maxHeartbeats 2000000
/-! plain: the points of a curve over fractions, their sums -/
namespace CW
open PySem PySem.Spec PyProof.Rows L2
abbrev Pq := Option (Rat × Rat)
section
variable {a1 a2 a3 a4 a6 x y v w l : Rat}
abbrev cuQ (a1 a2 a3 a4 a6 : Rat) : CuG Rat := ⟨a1, a2, a3, a4, a6⟩
theorem nzQ : ∀ a b : Rat, a * b = 0 → a = 0 ∨ b = 0 := fun _ _ h => Rat.mul_eq_zero.mp h
def slQ (a1 a2 a3 a4 x y v w : Rat) : Rat := if x = v then (3 * x * x + 2 * a2 * x + a4 - a1 * y) / (2 * y + a1 * x + a3) else (w - y) / (v - x)
/-- the sum by lines -/
def adQ (a1 a2 a3 a4 a6 : Rat) : Pq → Pq → Pq
  | none, Q => Q
  | P, none => P
  | some (x, y), some (v, w) => if x = v ∧ y + w + a1 * x + a3 = 0 then none else some (fx a1 a2 (slQ a1 a2 a3 a4 x y v w) x v, fy a1 a3 (slQ a1 a2 a3 a4 x y v w) x y (fx a1 a2 (slQ a1 a2 a3 a4 x y v w) x v))
theorem adQ_ss : adQ a1 a2 a3 a4 a6 (some (x, y)) (some (v, w)) = if x = v ∧ y + w + a1 * x + a3 = 0 then none else some (fx a1 a2 (slQ a1 a2 a3 a4 x y v w) x v, fy a1 a3 (slQ a1 a2 a3 a4 x y v w) x y (fx a1 a2 (slQ a1 a2 a3 a4 x y v w) x v)) := rfl
def ngQ (a1 a3 : Rat) : Pq → Pq
  | none => none
  | some (x, y) => some (x, -(y + a1 * x + a3))
def OnQ (a1 a2 a3 a4 a6 : Rat) : Pq → Prop
  | none => True
  | some (x, y) => ev a1 a2 a3 a4 a6 x y = 0
theorem onG_of (h : ev a1 a2 a3 a4 a6 x y = 0) : OnG (cuQ a1 a2 a3 a4 a6) x y := by
  unfold ev at h
  show y * y + a1 * x * y + a3 * y = x * x * x + a2 * x * x + a4 * x + a6
  grind
theorem of_onG (h : OnG (cuQ a1 a2 a3 a4 a6) x y) : ev a1 a2 a3 a4 a6 x y = 0 := by
  have h : y * y + a1 * x * y + a3 * y = x * x * x + a2 * x * x + a4 * x + a6 := h
  unfold ev
  grind
theorem onO_of {P : Pq} (h : OnQ a1 a2 a3 a4 a6 P) : OnO (cuQ a1 a2 a3 a4 a6) P := by
  rcases P with _ | ⟨x, y⟩
  · trivial
  · exact onG_of h
theorem of_onO {P : Pq} (h : OnO (cuQ a1 a2 a3 a4 a6) P) : OnQ a1 a2 a3 a4 a6 P := by
  rcases P with _ | ⟨x, y⟩
  · trivial
  · exact of_onG h
theorem fx_gx : gx (cuQ a1 a2 a3 a4 a6) l x v = fx a1 a2 l x v := rfl
theorem fy_gy (X : Rat) : gy (cuQ a1 a2 a3 a4 a6) l x y X = fy a1 a3 l x y X := by
  show -(y + l * (X - x)) - a1 * X - a3 = -(l * X) - a1 * X - y + l * x - a3
  grind
/-- two points of one X that aren't opposite are the same -/
theorem same_y (h1 : ev a1 a2 a3 a4 a6 x y = 0) (h2 : ev a1 a2 a3 a4 a6 x w = 0) (ho : ¬ y + w + a1 * x + a3 = 0) : y = w := by
  have k : (y - w) * (y + w + a1 * x + a3) = 0 := by
    unfold ev at h1 h2
    grind
  rcases Rat.mul_eq_zero.mp k with z | z
  · grind
  · exact absurd z ho
theorem chord_rel (hne : x ≠ v) (h1 : ev a1 a2 a3 a4 a6 x y = 0) (h2 : ev a1 a2 a3 a4 a6 v w = 0) (hl : l * (v - x) = w - y) : SlG (cuQ a1 a2 a3 a4 a6) l x y v w := by
  refine ⟨by grind, ?_⟩
  show l * (y + w + a1 * v + a3) = x * x + x * v + v * v + a2 * (x + v) + a4 - a1 * y
  have n0 : x - v ≠ 0 := by grind
  have k : (x - v) * (l * (y + w + a1 * v + a3) - (x * x + x * v + v * v + a2 * (x + v) + a4 - a1 * y)) = ev a1 a2 a3 a4 a6 x y - ev a1 a2 a3 a4 a6 v w - (l * (v - x) - (w - y)) * (y + w + a1 * v + a3) := by
    unfold ev
    clear h1 h2 hl
    grind
  rw [h1, h2, hl] at k
  have k2 : (x - v) * (l * (y + w + a1 * v + a3) - (x * x + x * v + v * v + a2 * (x + v) + a4 - a1 * y)) = 0 := by
    rw [k]
    clear k h1 h2 hl
    grind
  rcases Rat.mul_eq_zero.mp k2 with z | z
  · exact absurd z n0
  · clear k k2 h1 h2 hl
    grind
theorem tan_rel (hl : l * (2 * y + a1 * x + a3) = 3 * x * x + 2 * a2 * x + a4 - a1 * y) : SlG (cuQ a1 a2 a3 a4 a6) l x y x y := by
  refine ⟨by grind, ?_⟩
  show l * (y + y + a1 * x + a3) = x * x + x * x + x * x + a2 * (x + x) + a4 - a1 * y
  grind
theorem slQ_chord (h : x ≠ v) : slQ a1 a2 a3 a4 x y v w * (v - x) = w - y := by
  unfold slQ
  rw [if_neg h]
  exact Rat.div_mul_cancel (by grind)
theorem slQ_tan (h : 2 * y + a1 * x + a3 ≠ 0) : slQ a1 a2 a3 a4 x y x w * (2 * y + a1 * x + a3) = 3 * x * x + 2 * a2 * x + a4 - a1 * y := by
  unfold slQ
  rw [if_pos rfl]
  exact Rat.div_mul_cancel h
theorem adQ_sm {P Q : Pq} (hP : OnQ a1 a2 a3 a4 a6 P) (hQ : OnQ a1 a2 a3 a4 a6 Q) : SmG (cuQ a1 a2 a3 a4 a6) P Q (adQ a1 a2 a3 a4 a6 P Q) := by
  rcases P with _ | ⟨x, y⟩
  · exact .n0 _
  rcases Q with _ | ⟨v, w⟩
  · exact .n1 _
  rw [adQ_ss]
  by_cases ho : x = v ∧ y + w + a1 * x + a3 = 0
  · rw [if_pos ho]
    exact .op ho
  · rw [if_neg ho]
    have k : SlG (cuQ a1 a2 a3 a4 a6) (slQ a1 a2 a3 a4 x y v w) x y v w := by
      by_cases hx : x = v
      · subst hx
        have hn : ¬ y + w + a1 * x + a3 = 0 := fun z => ho ⟨rfl, z⟩
        have e := same_y hP hQ hn
        subst e
        exact tan_rel (slQ_tan (by grind))
      · exact chord_rel hx hP hQ (slQ_chord hx)
    have r := SmG.ln (c := cuQ a1 a2 a3 a4 a6) ho k
    rw [fx_gx, fy_gy] at r
    exact r
theorem ngQ_ng (P : Pq) : ngQ a1 a3 P = ngG (cuQ a1 a2 a3 a4 a6) P := by
  rcases P with _ | ⟨x, y⟩
  · rfl
  · show some (x, -(y + a1 * x + a3)) = some (x, -y - a1 * x - a3)
    congr 2
    grind
theorem smoQ (hd : dd a1 a2 a3 a4 a6 ≠ 0) : SmoG (cuQ a1 a2 a3 a4 a6) := fun x y h1 h2 h3 => smooth hd (of_onG h1) h2 h3
theorem adQ_on {P Q : Pq} (hP : OnQ a1 a2 a3 a4 a6 P) (hQ : OnQ a1 a2 a3 a4 a6 Q) : OnQ a1 a2 a3 a4 a6 (adQ a1 a2 a3 a4 a6 P Q) := of_onO ((adQ_sm hP hQ).on (onO_of hP) (onO_of hQ))
theorem ngQ_on {P : Pq} (hP : OnQ a1 a2 a3 a4 a6 P) : OnQ a1 a2 a3 a4 a6 (ngQ a1 a3 P) := by
  rw [ngQ_ng (a2 := a2) (a4 := a4) (a6 := a6)]
  exact of_onO (OnO.ng (onO_of hP))
theorem adQ_comm {P Q : Pq} (hP : OnQ a1 a2 a3 a4 a6 P) (hQ : OnQ a1 a2 a3 a4 a6 Q) : adQ a1 a2 a3 a4 a6 P Q = adQ a1 a2 a3 a4 a6 Q P := (adQ_sm hP hQ).uniq nzQ (adQ_sm hQ hP).comm
theorem adQ_assoc (hd : dd a1 a2 a3 a4 a6 ≠ 0) {P Q R : Pq} (hP : OnQ a1 a2 a3 a4 a6 P) (hQ : OnQ a1 a2 a3 a4 a6 Q) (hR : OnQ a1 a2 a3 a4 a6 R) : adQ a1 a2 a3 a4 a6 (adQ a1 a2 a3 a4 a6 P Q) R = adQ a1 a2 a3 a4 a6 P (adQ a1 a2 a3 a4 a6 Q R) :=
  SmG.assoc nzQ (smoQ hd) (onO_of hP) (onO_of hQ) (onO_of hR) (adQ_sm hP hQ) (adQ_sm (adQ_on hP hQ) hR) (adQ_sm hQ hR) (adQ_sm hP (adQ_on hQ hR))
theorem adQ_none (P : Pq) : adQ a1 a2 a3 a4 a6 P none = P := by
  rcases P with _ | ⟨x, y⟩ <;> rfl
theorem none_adQ (P : Pq) : adQ a1 a2 a3 a4 a6 none P = P := rfl
theorem adQ_ng {P : Pq} (hP : OnQ a1 a2 a3 a4 a6 P) : adQ a1 a2 a3 a4 a6 P (ngQ a1 a3 P) = none := by
  have h := adQ_sm hP (ngQ_on hP)
  have k := SmG.opp (c := cuQ a1 a2 a3 a4 a6) P
  rw [← ngQ_ng] at k
  exact h.uniq nzQ k
/-! ### as a kind of its own -/
def Ptn (a1 a2 a3 a4 a6 : Rat) := { P : Pq // OnQ a1 a2 a3 a4 a6 P }
def Ptn.add (p q : Ptn a1 a2 a3 a4 a6) : Ptn a1 a2 a3 a4 a6 := ⟨adQ a1 a2 a3 a4 a6 p.1 q.1, adQ_on p.2 q.2⟩
def Ptn.neg (p : Ptn a1 a2 a3 a4 a6) : Ptn a1 a2 a3 a4 a6 := ⟨ngQ a1 a3 p.1, ngQ_on p.2⟩
def Ptn.zero : Ptn a1 a2 a3 a4 a6 := ⟨none, trivial⟩
theorem Ptn.comm (p q : Ptn a1 a2 a3 a4 a6) : p.add q = q.add p := Subtype.ext (adQ_comm p.2 q.2)
theorem Ptn.assoc (hd : dd a1 a2 a3 a4 a6 ≠ 0) (p q r : Ptn a1 a2 a3 a4 a6) : (p.add q).add r = p.add (q.add r) := Subtype.ext (adQ_assoc hd p.2 q.2 r.2)
theorem Ptn.add_zero (p : Ptn a1 a2 a3 a4 a6) : p.add .zero = p := Subtype.ext (adQ_none (a6 := a6) p.1)
theorem Ptn.zero_add (p : Ptn a1 a2 a3 a4 a6) : Ptn.zero.add p = p := rfl
theorem Ptn.add_neg (p : Ptn a1 a2 a3 a4 a6) : p.add p.neg = .zero := Subtype.ext (adQ_ng p.2)
/-! ### sizes -/
theorem Sz.hneg {E : Int} {e : Nat} (h : Sz E e a1 a2 a3 a4 a6 x y) (he : 1 ≤ e) : hz (y + a1 * x + a3) ≤ 3 * e + 4 := by
  have t1 : Wn E (3 * e) 3 (a1 * x) := (h.A1.mul h.X).mono (by omega)
  have t2 : Wn E (3 * e + 1) 3 a3 := Wn.to h.hE h.A3 (by decide) (by omega)
  exact Wn.hz h.E0 h.hE ((h.Y.add t1).add (t2.mono (by omega))) (by omega) (by omega)

def OkQ (a1 a2 a3 a4 a6 : Rat) (e : Nat) : Pq → Prop
  | none => True
  | some (x, y) => ev a1 a2 a3 a4 a6 x y = 0 ∧ ∃ E, Sz E e a1 a2 a3 a4 a6 x y
theorem OkQ.on {e : Nat} {P : Pq} (h : OkQ a1 a2 a3 a4 a6 e P) : OnQ a1 a2 a3 a4 a6 P := by
  rcases P with _ | ⟨x, y⟩
  · trivial
  · exact h.1
theorem OkQ.mono {e f : Nat} {P : Pq} (h : OkQ a1 a2 a3 a4 a6 e P) (k : e ≤ f) : OkQ a1 a2 a3 a4 a6 f P := by
  rcases P with _ | ⟨x, y⟩
  · trivial
  · obtain ⟨h1, E, h2⟩ := h
    exact ⟨h1, E, h2.mono k⟩
theorem OkQ.slope {e f : Nat} (he : 1 ≤ e) (hf : 1 ≤ f) (hP : OkQ a1 a2 a3 a4 a6 e (some (x, y))) (hQ : OkQ a1 a2 a3 a4 a6 f (some (v, w))) (ho : ¬ (x = v ∧ y + w + a1 * x + a3 = 0)) :
    (∃ G, Sz G (2 * (e + f) + 8) a1 a2 a3 a4 a6 (fx a1 a2 (slQ a1 a2 a3 a4 x y v w) x v) (fy a1 a3 (slQ a1 a2 a3 a4 x y v w) x y (fx a1 a2 (slQ a1 a2 a3 a4 x y v w) x v))) ∧ hz (slQ a1 a2 a3 a4 x y v w) ≤ 3 * (e + f) + 6 := by
  obtain ⟨h1, E, p⟩ := hP
  obtain ⟨h2, F, q⟩ := hQ
  by_cases hx : x = v
  · subst hx
    have hn : ¬ y + w + a1 * x + a3 = 0 := fun z => ho ⟨rfl, z⟩
    have e0 := same_y h1 h2 hn
    subst e0
    have hd : 2 * y + a1 * x + a3 ≠ 0 := by grind
    by_cases hef : e ≤ f
    · obtain ⟨⟨G, g⟩, k⟩ := p.tan hd (slQ_tan (w := y) hd) he
      exact ⟨⟨G, g.mono (by omega)⟩, by omega⟩
    · obtain ⟨⟨G, g⟩, k⟩ := q.tan hd (slQ_tan (w := y) hd) hf
      exact ⟨⟨G, g.mono (by omega)⟩, by omega⟩
  · obtain ⟨⟨G, g⟩, k⟩ := p.chord q h1 h2 hx (slQ_chord hx)
    exact ⟨⟨G, g.mono (by omega)⟩, by omega⟩
theorem OkQ.add {e f g : Nat} (he : 1 ≤ e) (hf : 1 ≤ f) {P Q : Pq} (hP : OkQ a1 a2 a3 a4 a6 e P) (hQ : OkQ a1 a2 a3 a4 a6 f Q) (hg : 2 * (e + f) + 8 ≤ g) : OkQ a1 a2 a3 a4 a6 g (adQ a1 a2 a3 a4 a6 P Q) := by
  rcases P with _ | ⟨x, y⟩
  · exact hQ.mono (by omega)
  rcases Q with _ | ⟨v, w⟩
  · exact hP.mono (by omega)
  have ho := adQ_on hP.on hQ.on
  rw [adQ_ss] at ho ⊢
  by_cases hh : x = v ∧ y + w + a1 * x + a3 = 0
  · rw [if_pos hh]
    trivial
  · rw [if_neg hh] at ho ⊢
    obtain ⟨⟨G, k⟩, _⟩ := OkQ.slope he hf hP hQ hh
    exact ⟨ho, G, k.mono hg⟩
end
end CW

end
section
set_option maxRecDepth 100000
set_option maxHeartbeats 2000000
/-! plain: points over fractions and their residues: sums lead to sums -/
namespace CW
open PySem PySem.Spec PyProof.Rows L2
/-- residues of some fractions: those of a ring in which each fraction, or 1 by it, lies -/
structure Vr {F : Type} [Lean.Grind.CommRing F] (Rd : Rat → F → Prop) : Prop where
  add : ∀ {q r : Rat} {f g : F}, Rd q f → Rd r g → Rd (q + r) (f + g)
  mul : ∀ {q r : Rat} {f g : F}, Rd q f → Rd r g → Rd (q * r) (f * g)
  neg : ∀ {q : Rat} {f : F}, Rd q f → Rd (-q) (-f)
  one : Rd 1 1
  uniq : ∀ {q : Rat} {f g : F}, Rd q f → Rd q g → f = g
  dich : ∀ q : Rat, q ≠ 0 → (∃ f, Rd q f) ∨ Rd q⁻¹ 0
  nz : ∀ a b : F, a * b = 0 → a = 0 ∨ b = 0
  n1 : (1 : F) ≠ 0
  inv : ∀ {q : Rat} {f : F}, Rd q f → f ≠ 0 → ∃ g, Rd q⁻¹ g
section
variable {F : Type} [Lean.Grind.CommRing F] {Rd : Rat → F → Prop} {q r : Rat} {f g : F}
theorem Vr.sub (V : Vr Rd) (h : Rd q f) (k : Rd r g) : Rd (q - r) (f - g) := by
  rw [Rat.sub_eq_add_neg, show f - g = f + -g by grind]
  exact V.add h (V.neg k)
theorem Vr.zero (V : Vr Rd) : Rd 0 0 := by
  have h := V.sub V.one V.one
  rwa [show (1 : Rat) - 1 = 0 by grind, show (1 : F) - 1 = 0 by grind] at h
theorem Vr.two (V : Vr Rd) : Rd 2 2 := by
  have h := V.add V.one V.one
  rwa [show (1 : Rat) + 1 = 2 by grind, show (1 : F) + 1 = 2 by grind] at h
theorem Vr.three (V : Vr Rd) : Rd 3 3 := by
  have h := V.add V.two V.one
  rwa [show (2 : Rat) + 1 = 3 by grind, show (2 : F) + 1 = 3 by grind] at h
theorem Vr.to (V : Vr Rd) {s : Rat} (h : Rd s f) (e : q = s) : Rd q f := e ▸ h
theorem Vr.nz0 (V : Vr Rd) (h : Rd q f) (hf : f ≠ 0) : q ≠ 0 := fun z => by
  subst z
  exact hf (V.uniq h V.zero)
/-- what times a unit is whole is whole -/
theorem Vr.div (V : Vr Rd) {u : Rat} (h : Rd q f) (hf : f ≠ 0) (k : Rd (u * q) g) : ∃ d, Rd u d := by
  obtain ⟨i, hi⟩ := V.inv h hf
  have q0 := V.nz0 h hf
  exact ⟨g * i, V.to (V.mul k hi) (by
    have := Rat.mul_inv_cancel q q0
    grind)⟩
/-- a sum that is 1 has a part that is no nought -/
theorem Vr.absurd1 (V : Vr Rd) (h : Rd 1 0) : False := V.n1 (V.uniq V.one h)
/-- whole: has a residue -/
def Wh (Rd : Rat → F → Prop) (q : Rat) : Prop := ∃ f, Rd q f
theorem Vr.inv0 (V : Vr Rd) (h : ¬ Wh Rd q) : q ≠ 0 ∧ Rd q⁻¹ 0 := by
  have q0 : q ≠ 0 := fun z => h (by
    subst z
    exact ⟨0, V.zero⟩)
  rcases V.dich q q0 with z | z
  · exact absurd z h
  · exact ⟨q0, z⟩
theorem Vr.mul0 (V : Vr Rd) (h : Rd q f) (k : Rd r 0) : Rd (q * r) 0 := by
  have := V.mul h k
  rwa [show f * 0 = 0 by grind] at this
theorem Vr.add0 (V : Vr Rd) (h : Rd q 0) (k : Rd r 0) : Rd (q + r) 0 := by
  have := V.add h k
  rwa [show (0 : F) + 0 = 0 by grind] at this
theorem Vr.neg0 (V : Vr Rd) (h : Rd q 0) : Rd (-q) 0 := by
  have := V.neg h
  rwa [show -(0 : F) = 0 by grind] at this
theorem Vr.sub0 (V : Vr Rd) (h : Rd q 0) (k : Rd r 0) : Rd (q - r) 0 := by
  have := V.sub h k
  rwa [show (0 : F) - 0 = 0 by grind] at this
variable {a1 a2 a3 a4 a6 x y v w l : Rat} {b1 b2 b3 b4 b6 : F}
/-- the curve and its residues -/
structure Cr (Rd : Rat → F → Prop) (a1 a2 a3 a4 a6 : Rat) (b1 b2 b3 b4 b6 : F) : Prop where
  h1 : Rd a1 b1
  h2 : Rd a2 b2
  h3 : Rd a3 b3
  h4 : Rd a4 b4
  h6 : Rd a6 b6
theorem ev_id (h : ev a1 a2 a3 a4 a6 x y = 0) : y * y + a1 * x * y + a3 * y = x * x * x + a2 * x * x + a4 * x + a6 := by
  unfold ev at h
  grind
/-- of a whole X a whole Y -/
theorem Cr.y_wh (V : Vr Rd) (C : Cr Rd a1 a2 a3 a4 a6 b1 b2 b3 b4 b6) (h : ev a1 a2 a3 a4 a6 x y = 0) (hx : Wh Rd x) : Wh Rd y := by
  apply Classical.byContradiction
  intro hy
  obtain ⟨y0, t⟩ := V.inv0 hy
  obtain ⟨f, fx⟩ := hx
  have e := ev_id h
  have k := Rat.mul_inv_cancel y y0
  generalize y⁻¹ = s at *
  have r1 := V.mul0 (V.mul (V.add (V.add (V.add (V.mul (V.mul fx fx) fx) (V.mul (V.mul C.h2 fx) fx)) (V.mul C.h4 fx)) C.h6) t) t
  have r2 := V.mul0 (V.add (V.mul C.h1 fx) C.h3) t
  refine V.absurd1 (V.to (V.sub0 r1 r2) ?_)
  have e2 : (y * y + a1 * x * y + a3 * y) * s * s = (x * x * x + a2 * x * x + a4 * x + a6) * s * s := by rw [e]
  have e3 : (y * y + a1 * x * y + a3 * y) * s * s = (y * s) * (y * s) + (a1 * x + a3) * s * (y * s) := by
    clear e2 e k r1 r2 t h
    grind
  rw [k] at e3
  rw [← e2, e3]
  clear e2 e3 e k r1 r2 t h
  grind
/-- of an X that isn't whole: 1 by X, X by Y are nought, the square of Y by the cube of X is whole -/
theorem Cr.far (V : Vr Rd) (C : Cr Rd a1 a2 a3 a4 a6 b1 b2 b3 b4 b6) (h : ev a1 a2 a3 a4 a6 x y = 0) (hx : ¬ Wh Rd x) : ∃ s r : Rat, x * s = 1 ∧ y = r * x ∧ Rd s 0 ∧ Wh Rd (r * r * s) ∧ Rd (r * s) 0 := by
  obtain ⟨x0, t⟩ := V.inv0 hx
  have e := ev_id h
  have k := Rat.mul_inv_cancel x x0
  generalize x⁻¹ = s at *
  have hy : y = (y * s) * x := by
    rw [Rat.mul_assoc, Rat.mul_comm s x, k, Rat.mul_one]
  generalize y * s = r at hy
  subst hy
  have eq : r * r * s + a1 * (r * s) + a3 * (r * s) * s = 1 + (a2 * s + a4 * s * s + a6 * s * s * s) := by
    have e2 : (r * x * (r * x) + a1 * x * (r * x) + a3 * (r * x)) * (s * s * s) = (x * x * x + a2 * x * x + a4 * x + a6) * (s * s * s) := by rw [e]
    have e3 : (r * x * (r * x) + a1 * x * (r * x) + a3 * (r * x)) * (s * s * s) = r * r * s * ((x * s) * (x * s)) + a1 * (r * s) * ((x * s) * (x * s)) + a3 * (r * s) * s * (x * s) := by
      clear e2 e k t h
      grind
    have e4 : (x * x * x + a2 * x * x + a4 * x + a6) * (s * s * s) = (x * s) * (x * s) * (x * s) + a2 * s * ((x * s) * (x * s)) + a4 * s * s * (x * s) + a6 * s * s * s := by
      clear e2 e3 e k t h
      grind
    rw [e3, e4, k] at e2
    clear e3 e4 e k t h
    grind
  have m1 : Rd (a2 * s + a4 * s * s + a6 * s * s * s) 0 := V.add0 (V.add0 (V.mul0 C.h2 t) (V.mul0 (V.mul C.h4 t) t)) (V.mul0 (V.mul (V.mul C.h6 t) t) t)
  have hr : ¬ Wh Rd r := by
    rintro ⟨f, hf⟩
    refine V.absurd1 (V.to (V.sub0 (V.add0 (V.add0 (V.mul0 (V.mul hf hf) t) (V.mul0 C.h1 (V.mul0 hf t))) (V.mul0 (V.mul C.h3 (V.mul0 hf t)) t)) m1) ?_)
    rw [eq]
    clear eq
    grind
  obtain ⟨r0, i0⟩ := V.inv0 hr
  have kr := Rat.mul_inv_cancel r r0
  generalize r⁻¹ = i at *
  have hX : Wh Rd (r * r * s) := by
    apply Classical.byContradiction
    intro hn
    obtain ⟨X0, J⟩ := V.inv0 hn
    have kX := Rat.mul_inv_cancel _ X0
    generalize (r * r * s)⁻¹ = j at *
    have z1 : Rd (a1 * i) 0 := V.mul0 C.h1 i0
    have z2 : Rd (a3 * i * s) 0 := V.mul0 (V.mul C.h3 i0) t
    have z3 : Rd ((1 + (a2 * s + a4 * s * s + a6 * s * s * s)) * j) 0 := V.mul0 (V.add V.one m1) J
    refine V.absurd1 (V.to (V.sub0 z3 (V.add0 z1 z2)) ?_)
    rw [← eq]
    have g1 : r * s = (r * r * s) * i := by
      have : r * r * s * i = r * s * (r * i) := by
        clear kX eq kr
        grind
      rw [this, kr, Rat.mul_one]
    have g2 : (r * r * s + a1 * (r * s) + a3 * (r * s) * s) * j = (r * r * s) * j + a1 * ((r * s) * j) + a3 * ((r * s) * j) * s := by
      clear kX eq kr g1
      grind
    have g3 : (r * s) * j = i := by
      rw [g1, Rat.mul_assoc, Rat.mul_comm i j, ← Rat.mul_assoc, kX, Rat.one_mul]
    rw [g2, g3, kX]
    clear g1 g2 g3 kX eq kr
    grind
  obtain ⟨X, hX⟩ := hX
  refine ⟨s, r, k, rfl, t, ⟨X, hX⟩, V.to (V.mul0 hX i0) ?_⟩
  have : r * r * s * i = r * s * (r * i) := by
    clear eq kr
    grind
  rw [this, kr, Rat.mul_one]
/-- two far points don't come to a near one -/
theorem Cr.far2 (V : Vr Rd) (C : Cr Rd a1 a2 a3 a4 a6 b1 b2 b3 b4 b6) (h1 : ev a1 a2 a3 a4 a6 x y = 0) (h2 : ev a1 a2 a3 a4 a6 v w = 0) (hx : ¬ Wh Rd x) (hv : ¬ Wh Rd v) (hs : SlG (cuQ a1 a2 a3 a4 a6) l x y v w)
    (h3 : Wh Rd (fx a1 a2 l x v)) (h4 : Wh Rd (fy a1 a3 l x y (fx a1 a2 l x v))) : False := by
  obtain ⟨s, r, k1, k2, k3, ⟨X, k4⟩, k5⟩ := C.far V h1 hx
  obtain ⟨v0, u0⟩ := V.inv0 hv
  have ku := Rat.mul_inv_cancel v v0
  generalize v⁻¹ = u at *
  obtain ⟨Z, hZ⟩ := h3
  obtain ⟨W, hW⟩ := h4
  have hw : y + l * (fx a1 a2 l x v - x) = -(fy a1 a3 l x y (fx a1 a2 l x v) + a1 * fx a1 a2 l x v + a3) := by
    unfold fy
    generalize fx a1 a2 l x v = T
    clear h1 h2 hs
    grind
  have sum2 : x * v + (x + v) * fx a1 a2 l x v = a4 - 2 * l * (y + l * (fx a1 a2 l x v - x) - l * fx a1 a2 l x v) - a1 * (y + l * (fx a1 a2 l x v - x) - l * fx a1 a2 l x v) - a3 * l := by
    obtain ⟨s1, s2⟩ := hs
    have s2 : l * (y + w + a1 * v + a3) = x * x + x * v + v * v + a2 * (x + v) + a4 - a1 * y := s2
    have hww : w = y - l * (x - v) := by
      clear s2
      grind
    subst hww
    have g : x * v + (x + v) * fx a1 a2 l x v - (a4 - 2 * l * (y + l * (fx a1 a2 l x v - x) - l * fx a1 a2 l x v) - a1 * (y + l * (fx a1 a2 l x v - x) - l * fx a1 a2 l x v) - a3 * l) = l * (y + (y - l * (x - v)) + a1 * v + a3) - (x * x + x * v + v * v + a2 * (x + v) + a4 - a1 * y) := by
      unfold fx
      clear s1 s2 h1 h2 hw
      grind
    rw [s2] at g
    clear s1 s2 h1 h2 hw
    grind
  have hP : ∃ W', Rd (y + l * (fx a1 a2 l x v - x)) W' := by
    rw [hw]
    exact ⟨_, V.neg (V.add (V.add hW (V.mul C.h1 hZ)) C.h3)⟩
  obtain ⟨W', hW'⟩ := hP
  have hline : l * (x - fx a1 a2 l x v) = y - (y + l * (fx a1 a2 l x v - x)) := by
    clear sum2 hw
    grind
  generalize fx a1 a2 l x v = T at *
  generalize y + l * (T - x) = Y' at *
  clear hw
  -- l * s is nought, l * l * s is whole
  have d0 : Rd (1 - T * s) 1 := by
    have := V.sub V.one (V.mul0 hZ k3)
    rwa [show (1 : F) - 0 = 1 by grind] at this
  have ls : l * (1 - T * s) = r - Y' * s := by
    have e : l * (x - T) * s = (y - Y') * s := by rw [hline]
    have e1 : l * (x - T) * s = l * (x * s - T * s) := by
      clear e hline sum2
      grind
    have e2 : (y - Y') * s = r * (x * s) - Y' * s := by
      rw [k2]
      clear e hline sum2 e1 k2
      grind
    rw [e1, e2, k1, Rat.mul_one] at e
    exact e
  obtain ⟨i, hi⟩ := V.inv d0 V.n1
  have D0 := V.nz0 d0 V.n1
  have kD := Rat.mul_inv_cancel _ D0
  generalize (1 - T * s)⁻¹ = j at *
  have lj : l = (r - Y' * s) * j := by
    rw [← ls, Rat.mul_assoc, kD, Rat.mul_one]
  have z1 : Rd (l * s) 0 := by
    refine V.to (V.mul0 hi (V.sub0 k5 (V.mul0 (V.mul hW' k3) k3))) ?_
    rw [lj]
    clear sum2 hline ls lj kD k1 k2 ku
    grind
  obtain ⟨L, z2⟩ : ∃ L, Rd (l * l * s) L := by
    refine ⟨_, V.to (V.mul (V.mul hi hi) (V.add (V.sub k4 (V.mul (V.mul V.two k5) (V.mul hW' k3))) (V.mul (V.mul (V.mul hW' hW') k3) (V.mul k3 k3)))) ?_⟩
    rw [lj]
    clear sum2 hline ls lj kD k1 k2 ku
    grind
  have br := V.sub (V.add (V.sub (V.add (V.sub (V.mul C.h4 k3) (V.mul V.two (V.mul z1 hW'))) (V.mul V.two (V.mul z2 hZ))) (V.mul (V.mul C.h1 hW') k3)) (V.mul C.h1 (V.mul z1 hZ))) (V.mul C.h3 z1)
  have rhs := V.mul0 br u0
  refine V.absurd1 (V.to (V.sub0 rhs (V.add0 (V.mul0 hZ u0) (V.mul0 hZ k3))) ?_)
  have e : (x * v + (x + v) * T) * (s * u) = (a4 - 2 * l * (Y' - l * T) - a1 * (Y' - l * T) - a3 * l) * (s * u) := by rw [sum2]
  have e1 : (x * v + (x + v) * T) * (s * u) = (x * s) * (v * u) + T * (u * (x * s)) + T * (s * (v * u)) := by
    clear e sum2 hline ls lj kD k1 k2 ku
    grind
  rw [e1, k1, ku] at e
  have e2 : (a4 - 2 * l * (Y' - l * T) - a1 * (Y' - l * T) - a3 * l) * (s * u) = (a4 * s - 2 * (l * s * Y') + 2 * (l * l * s * T) - a1 * Y' * s + a1 * (l * s * T) - a3 * (l * s)) * u := by
    clear e e1 sum2 hline ls lj kD k1 k2 ku
    grind
  rw [e2] at e
  rw [← e]
  clear e e1 e2 sum2 hline ls lj kD k1 k2 ku
  grind
end
end CW

end
section
set_option maxRecDepth 100000
set_option maxHeartbeats 2000000
/-! plain: sums lead to sums -/
namespace CW
open PySem PySem.Spec PyProof.Rows L2
section
variable {F : Type} [Lean.Grind.CommRing F] {Rd : Rat → F → Prop}
/-- the residue of a point -/
inductive Re (Rd : Rat → F → Prop) : Pq → Option (F × F) → Prop
  | n : Re Rd none none
  | k {x y : Rat} : ¬ Wh Rd x → Re Rd (some (x, y)) none
  | i {x y : Rat} {f g : F} : Rd x f → Rd y g → Re Rd (some (x, y)) (some (f, g))
theorem Re.uniq (V : Vr Rd) {P : Pq} {A B : Option (F × F)} (h : Re Rd P A) (k : Re Rd P B) : A = B := by
  cases h with
  | n => cases k; rfl
  | k h =>
    cases k with
    | k _ => rfl
    | i a b => exact absurd ⟨_, a⟩ h
  | i a b =>
    cases k with
    | k h => exact absurd ⟨_, a⟩ h
    | i c d => rw [V.uniq a c, V.uniq b d]
variable {a1 a2 a3 a4 a6 x y v w l : Rat} {b1 b2 b3 b4 b6 f g f' g' : F}
theorem Cr.on (V : Vr Rd) (C : Cr Rd a1 a2 a3 a4 a6 b1 b2 b3 b4 b6) (h : ev a1 a2 a3 a4 a6 x y = 0) (hx : Rd x f) (hy : Rd y g) : OnG (⟨b1, b2, b3, b4, b6⟩ : CuG F) f g := by
  have e := ev_id h
  have r1 := V.add (V.add (V.mul hy hy) (V.mul (V.mul C.h1 hx) hy)) (V.mul C.h3 hy)
  have r2 := V.add (V.add (V.add (V.mul (V.mul hx hx) hx) (V.mul (V.mul C.h2 hx) hx)) (V.mul C.h4 hx)) C.h6
  rw [e] at r1
  exact V.uniq r1 r2
theorem Cr.near (V : Vr Rd) (C : Cr Rd a1 a2 a3 a4 a6 b1 b2 b3 b4 b6) (sm : SmoG (⟨b1, b2, b3, b4, b6⟩ : CuG F)) (h1 : ev a1 a2 a3 a4 a6 x y = 0) (hx : Rd x f) (hy : Rd y g) (hv : Rd v f') (hw : Rd w g')
    {S : Pq} {H : Option (F × F)} (hs : SmG (cuQ a1 a2 a3 a4 a6) (some (x, y)) (some (v, w)) S) (hH : Re Rd S H) : SmG (⟨b1, b2, b3, b4, b6⟩ : CuG F) (some (f, g)) (some (f', g')) H := by
  have hon := C.on V h1 hx hy
  cases hs with
  | op h =>
    cases hH
    refine .op ?_
    obtain ⟨e1, e2⟩ := h
    subst e1
    refine ⟨V.uniq hx hv, ?_⟩
    have e2 : y + w + a1 * x + a3 = 0 := e2
    have r := V.add (V.add (V.add hy hw) (V.mul C.h1 hx)) C.h3
    rw [e2] at r
    exact V.uniq r V.zero
  | @ln _ _ _ _ l h1' h2 =>
    obtain ⟨s1, s2⟩ := h2
    have s2 : l * (y + w + a1 * v + a3) = x * x + x * v + v * v + a2 * (x + v) + a4 - a1 * y := s2
    have dx := V.sub hx hv
    have dy := V.sub hy hw
    have d2 := V.add (V.add (V.add hy hw) (V.mul C.h1 hv)) C.h3
    have n2 := V.sub (V.add (V.add (V.add (V.add (V.mul hx hx) (V.mul hx hv)) (V.mul hv hv)) (V.mul C.h2 (V.add hx hv))) C.h4) (V.mul C.h1 hy)
    have rel : ∀ {m : F}, Rd l m → SlG (⟨b1, b2, b3, b4, b6⟩ : CuG F) m f g f' g' := fun {m} hm => by
      constructor
      · exact V.uniq (V.to (V.mul hm dx) s1.symm) dy
      · exact V.uniq (V.to (V.mul hm d2) s2.symm) n2
    by_cases ho : OppG (⟨b1, b2, b3, b4, b6⟩ : CuG F) f g f' g'
    · have hl : ¬ Wh Rd l := by
        rintro ⟨m, hm⟩
        obtain ⟨t1, t2⟩ := rel hm
        obtain ⟨o1, o2⟩ := ho
        subst o1
        have o2 : g + g' + b1 * f + b3 = 0 := o2
        have t2 : m * (g + g' + b1 * f + b3) = f * f + f * f + f * f + b2 * (f + f) + b4 - b1 * g := t2
        have gg : g = g' := by
          clear t2 o2
          grind
        subst gg
        rw [o2] at t2
        refine sm f g hon ?_ ?_
        · show 2 * g + b1 * f + b3 = 0
          clear t1 t2
          grind
        · show 3 * f * f + 2 * b2 * f + b4 - b1 * g = 0
          clear t1 o2
          grind
      have hX : ¬ Wh Rd (fx a1 a2 l x v) := by
        rintro ⟨z, hz⟩
        obtain ⟨l0, t⟩ := V.inv0 hl
        have k := Rat.mul_inv_cancel l l0
        generalize l⁻¹ = s at *
        have r1 := V.mul0 (V.mul (V.add (V.add (V.add hz C.h2) hx) hv) t) t
        have r2 := V.mul0 C.h1 t
        refine V.absurd1 (V.to (V.sub0 r1 r2) ?_)
        have e : (fx a1 a2 l x v + a2 + x + v) * s * s = (l * s) * (l * s) + a1 * s * (l * s) := by
          unfold fx
          clear k s1 s2 r1 r2
          grind
        rw [e, k]
        clear e k s1 s2 r1 r2
        grind
      cases hH with
      | k _ => exact .op ho
      | i a b => exact absurd ⟨_, a⟩ hX
    · have hl : Wh Rd l := by
        by_cases e : f - f' = 0
        · have ff : f = f' := by grind
          have ne : g + g' + b1 * f' + b3 ≠ 0 := fun z => ho ⟨ff, by
            show g + g' + b1 * f + b3 = 0
            rw [ff]
            exact z⟩
          exact V.div d2 ne (V.to n2 s2)
        · exact V.div dx e (V.to dy s1)
      obtain ⟨m, hm⟩ := hl
      have r := rel hm
      have rx : Rd (fx a1 a2 l x v) (gx (⟨b1, b2, b3, b4, b6⟩ : CuG F) m f f') := V.sub (V.sub (V.sub (V.add (V.mul hm hm) (V.mul C.h1 hm)) C.h2) hx) hv
      have ry : Rd (gy (cuQ a1 a2 a3 a4 a6) l x y (fx a1 a2 l x v)) (gy (⟨b1, b2, b3, b4, b6⟩ : CuG F) m f g (gx (⟨b1, b2, b3, b4, b6⟩ : CuG F) m f f')) := V.sub (V.sub (V.neg (V.add hy (V.mul hm (V.sub rx hx)))) (V.mul C.h1 rx)) C.h3
      have hH2 := Re.uniq V hH (Re.i rx ry)
      rw [hH2]
      exact .ln ho r
/-- sums lead to sums -/
theorem Re.hom (V : Vr Rd) (C : Cr Rd a1 a2 a3 a4 a6 b1 b2 b3 b4 b6) (sm : SmoG (⟨b1, b2, b3, b4, b6⟩ : CuG F)) (hd : dd a1 a2 a3 a4 a6 ≠ 0) {P Q S : Pq} {A B H : Option (F × F)} (hP : OnQ a1 a2 a3 a4 a6 P) (hQ : OnQ a1 a2 a3 a4 a6 Q)
    (hs : SmG (cuQ a1 a2 a3 a4 a6) P Q S) (rA : Re Rd P A) (rB : Re Rd Q B) (rH : Re Rd S H) : SmG (⟨b1, b2, b3, b4, b6⟩ : CuG F) A B H := by
  have hS : OnQ a1 a2 a3 a4 a6 S := of_onO (hs.on (onO_of hP) (onO_of hQ))
  have smQ := smoQ hd
  have wy : ∀ {x y : Rat}, ev a1 a2 a3 a4 a6 x y = 0 → Wh Rd x → Wh Rd y := fun h k => C.y_wh V h k
  -- a near one and a far one
  have mixed : ∀ {x y v w : Rat} {f g : F} {S : Pq} {H : Option (F × F)}, ev a1 a2 a3 a4 a6 x y = 0 → ev a1 a2 a3 a4 a6 v w = 0 → Rd x f → Rd y g → ¬ Wh Rd v → SmG (cuQ a1 a2 a3 a4 a6) (some (x, y)) (some (v, w)) S → Re Rd S H → H = some (f, g) := by
    intro x y v w f g S H e1 e2 rx ry nv hs rH
    have oS : OnQ a1 a2 a3 a4 a6 S := of_onO (hs.on (onG_of e1) (onG_of e2))
    rcases S with _ | ⟨X, Y⟩
    · have z := hs.of_none
      have z1 := Option.some.inj z
      have z2 : v = x := congrArg Prod.fst z1
      exact absurd ⟨f, by rw [z2]; exact rx⟩ nv
    · have k1 : SmG (cuQ a1 a2 a3 a4 a6) (some (X, Y)) (ngG (cuQ a1 a2 a3 a4 a6) (some (x, y))) (some (v, w)) := hs.comm.back nzQ smQ (onG_of e1)
      have k2 : SmG (cuQ a1 a2 a3 a4 a6) (some (X, Y)) (ngG (cuQ a1 a2 a3 a4 a6) (some (v, w))) (some (x, y)) := hs.back nzQ smQ (onG_of e2)
      by_cases hX : Wh Rd X
      · obtain ⟨F', hF⟩ := hX
        obtain ⟨G', hG⟩ := wy oS ⟨F', hF⟩
        have ng : Rd (-y - a1 * x - a3) (-g - b1 * f - b3) := V.sub (V.sub (V.neg ry) (V.mul C.h1 rx)) C.h3
        have k3 := C.near V sm oS hF hG rx ng k1 (Re.k nv)
        have k4 := k3.of_none
        have k5 : ngG (⟨b1, b2, b3, b4, b6⟩ : CuG F) (some (f, g)) = ngG (⟨b1, b2, b3, b4, b6⟩ : CuG F) (some (F', G')) := k4
        have k6 := congrArg (ngG (⟨b1, b2, b3, b4, b6⟩ : CuG F)) k5
        rw [ngG_ngG, ngG_ngG] at k6
        rw [k6]
        exact Re.uniq V rH (Re.i hF hG)
      · have on2 : ev a1 a2 a3 a4 a6 v (-w - a1 * v - a3) = 0 := of_onG (OnO.ng (c := cuQ a1 a2 a3 a4 a6) (P := some (v, w)) (onG_of e2))
        exfalso
        generalize hz : ngG (cuQ a1 a2 a3 a4 a6) (some (v, w)) = N at k2
        generalize hz2 : (some (x, y) : Pq) = M at k2
        cases k2 with
        | n1 _ => cases hz
        | op _ => cases hz2
        | @ln a b c d m n1 n2 =>
          have z1 : (v, -w - a1 * v - a3) = (c, d) := Option.some.inj hz
          have zc : v = c := congrArg Prod.fst z1
          have zd : -w - a1 * v - a3 = d := congrArg Prod.snd z1
          have z2 := Option.some.inj hz2
          have zx : x = gx (cuQ a1 a2 a3 a4 a6) m X c := congrArg Prod.fst z2
          have zy : y = gy (cuQ a1 a2 a3 a4 a6) m X Y (gx (cuQ a1 a2 a3 a4 a6) m X c) := congrArg Prod.snd z2
          rw [fy_gy] at zy
          subst zc
          subst zd
          exact C.far2 V oS on2 hX nv n2 ⟨f, by rw [← fx_gx (a3 := a3) (a4 := a4) (a6 := a6), ← zx]; exact rx⟩ ⟨g, by rw [← fx_gx (a3 := a3) (a4 := a4) (a6 := a6), ← zy]; exact ry⟩
  cases rA with
  | n =>
    have e := hs.uniq nzQ (.n0 Q)
    subst e
    rw [rH.uniq V rB]
    exact .n0 _
  | @k x y nx =>
    cases rB with
    | n =>
      have e := hs.uniq nzQ (.n1 _)
      subst e
      rw [rH.uniq V (Re.k nx)]
      exact .n0 _
    | @k v w nv =>
      rcases S with _ | ⟨X, Y⟩
      · cases rH
        exact .n0 _
      · have nX : ¬ Wh Rd X := by
          intro hX
          have hY := wy hS hX
          generalize hz2 : (some (X, Y) : Pq) = M at hs
          cases hs with
          | op _ => cases hz2
          | @ln a b c d m n1 n2 =>
            have z2 := Option.some.inj hz2
            have zx : X = gx (cuQ a1 a2 a3 a4 a6) m x v := congrArg Prod.fst z2
            have zy : Y = gy (cuQ a1 a2 a3 a4 a6) m x y (gx (cuQ a1 a2 a3 a4 a6) m x v) := congrArg Prod.snd z2
            rw [fy_gy] at zy
            exact C.far2 V hP hQ nx nv n2 (by rw [← fx_gx (a3 := a3) (a4 := a4) (a6 := a6), ← zx]; exact hX) (by rw [← fx_gx (a3 := a3) (a4 := a4) (a6 := a6), ← zy]; exact hY)
        rw [rH.uniq V (Re.k nX)]
        exact .n0 _
    | @i v w f' g' rv rw' =>
      rw [mixed hQ hP rv rw' nx hs.comm rH]
      exact .n0 _
  | @i x y f g rx ry =>
    cases rB with
    | n =>
      have e := hs.uniq nzQ (.n1 _)
      subst e
      rw [rH.uniq V (Re.i rx ry)]
      exact .n1 _
    | @k v w nv =>
      rw [mixed hP hQ rx ry nv hs rH]
      exact .n1 _
    | @i v w f' g' rv rw' => exact C.near V sm hP rx ry rv rw' hs rH
end
end CW

end
section
set_option maxRecDepth 100000
set_option maxHeartbeats 2000000
/-! plain: the ring of residues -/
namespace CW
open PySem PySem.Spec PyProof.Rows L2
open Lean.Grind in
def ph (n : Nat) [NeZero n] (z : Int) : Fin n := (Ring.intCast (α := Fin n)).intCast z
section
variable {n : Nat} [NeZero n] {a b : Int}
theorem ph_add (a b : Int) : ph n (a + b) = ph n a + ph n b := Lean.Grind.Ring.intCast_add a b
theorem ph_mul (a b : Int) : ph n (a * b) = ph n a * ph n b := Lean.Grind.Ring.intCast_mul a b
theorem ph_neg (a : Int) : ph n (-a) = -ph n a := Lean.Grind.Ring.intCast_neg a
theorem ph_sub (a b : Int) : ph n (a - b) = ph n a - ph n b := Lean.Grind.Ring.intCast_sub a b
theorem ph_0 : ph n 0 = 0 := Lean.Grind.Ring.intCast_zero
theorem ph_1 : ph n 1 = 1 := Lean.Grind.Ring.intCast_one
theorem ph_2 : ph n 2 = 2 := Lean.Grind.Ring.intCast_ofNat 2
theorem ph_3 : ph n 3 = 3 := Lean.Grind.Ring.intCast_ofNat 3
theorem ph_4 : ph n 4 = 4 := Lean.Grind.Ring.intCast_ofNat 4
theorem ph_z {a : Int} : ph n a = 0 ↔ (n : Int) ∣ a := by
  rw [Int.dvd_iff_emod_eq_zero]
  exact Lean.Grind.IsCharP.intCast_eq_zero_iff n a
theorem ph_eq : ph n a = ph n b ↔ (n : Int) ∣ a - b := by
  rw [← ph_z, ph_sub]
  constructor <;> intro h <;> grind
theorem ph_val (f : Fin n) : ph n (f.val : Int) = f := by
  have h : ph n (f.val : Int) = Fin.ofNat n f.val := by
    rfl
  rw [h]
  exact Fin.ofNat_val_eq_self f
end
theorem bez : ∀ (f : Nat) (a b : Int), b.natAbs < f → Int.gcd a b = 1 → ∃ x y : Int, x * a + y * b = 1
  | 0, _, _, h, _ => absurd h (Nat.not_lt_zero _)
  | f + 1, a, b, h, hg => by
    by_cases hb : b = 0
    · subst hb
      rw [Int.gcd_zero_right] at hg
      rcases Int.natAbs_eq a with e | e
      · exact ⟨1, 0, by omega⟩
      · exact ⟨-1, 0, by omega⟩
    · have hl : (a.fmod b).natAbs < f := Nat.lt_of_lt_of_le (fmod_less a hb) (Nat.le_of_lt_succ h)
      obtain ⟨x, y, e⟩ := bez f b (a.fmod b) hl (by rw [gcd_mod a b hb]; exact hg)
      have d := Int.fmod_add_mul_fdiv a b
      exact ⟨y, x - y * a.fdiv b, by
        have : a.fmod b = a - b * a.fdiv b := by omega
        rw [this] at e
        grind⟩
theorem inv_mod {p b : Int} (hp : Pm p) (hb : ¬ p ∣ b) : ∃ i : Int, p ∣ i * b - 1 := by
  obtain ⟨x, y, e⟩ := bez _ p b (Nat.lt_succ_self _) (hp.cop hb)
  exact ⟨y, -x, by grind⟩
/-- f is the residue of q -/
def Rdp (n : Nat) [NeZero n] (q : Rat) (f : Fin n) : Prop := ∃ a b : Int, ¬ (n : Int) ∣ b ∧ q * (b : Rat) = a ∧ f * ph n b = ph n a
section
variable {n : Nat} [NeZero n] {q : Rat} {f : Fin n}
theorem nz_fin (hp : Pm n) (a b : Fin n) (h : a * b = 0) : a = 0 ∨ b = 0 := by
  have e : ph n ((a.val : Int) * b.val) = 0 := by rw [ph_mul, ph_val, ph_val, h]
  rcases hp.mul (ph_z.mp e) with z | z
  · left
    rw [← ph_val a]
    exact ph_z.mpr z
  · right
    rw [← ph_val b]
    exact ph_z.mpr z
theorem inv_fin (hp : Pm n) {b : Int} (hb : ¬ (n : Int) ∣ b) : ∃ i : Fin n, i * ph n b = 1 := by
  obtain ⟨i, hi⟩ := inv_mod hp hb
  refine ⟨ph n i, ?_⟩
  rw [← ph_mul, ← ph_1]
  exact ph_eq.mpr hi
theorem Rdp.int (hp : Pm n) (a : Int) : Rdp n (a : Rat) (ph n a) := ⟨a, 1, fun z => by
  have h1 := hp.1
  have := Int.le_of_dvd (by decide) z
  omega, by rw [show ((1 : Int) : Rat) = 1 from rfl, Rat.mul_one], by rw [ph_1, Fin.mul_one]⟩
theorem vr_fin (hp : Pm n) : Vr (Rdp n) where
  add := by
    rintro q r f g ⟨a, b, h1, h2, h3⟩ ⟨c, d, k1, k2, k3⟩
    refine ⟨a * d + c * b, b * d, fun z => (hp.mul z).elim h1 k1, ?_, ?_⟩
    · rw [rc_mul, rc_add, rc_mul, rc_mul, ← h2, ← k2]
      grind
    · rw [ph_mul, ph_add, ph_mul, ph_mul, ← h3, ← k3]
      grind
  mul := by
    rintro q r f g ⟨a, b, h1, h2, h3⟩ ⟨c, d, k1, k2, k3⟩
    refine ⟨a * c, b * d, fun z => (hp.mul z).elim h1 k1, ?_, ?_⟩
    · rw [rc_mul, rc_mul, ← h2, ← k2]
      grind
    · rw [ph_mul, ph_mul, ← h3, ← k3]
      grind
  neg := by
    rintro q f ⟨a, b, h1, h2, h3⟩
    refine ⟨-a, b, h1, ?_, ?_⟩
    · rw [rc_neg, ← h2]
      grind
    · rw [ph_neg, ← h3]
      grind
  one := by
    have h := Rdp.int hp 1
    rwa [show ((1 : Int) : Rat) = 1 from rfl, ph_1] at h
  uniq := by
    rintro q f g ⟨a, b, h1, h2, h3⟩ ⟨c, d, k1, k2, k3⟩
    have e : a * d = c * b := by
      apply cast_inj
      rw [rc_mul, rc_mul, ← h2, ← k2]
      grind
    have e2 : ph n a * ph n d = ph n c * ph n b := by rw [← ph_mul, ← ph_mul, e]
    rw [← h3, ← k3] at e2
    have e3 : (f - g) * (ph n b * ph n d) = 0 := by grind
    rcases nz_fin hp _ _ e3 with z | z
    · grind
    · rw [← ph_mul] at z
      exact absurd (ph_z.mp z) fun z => (hp.mul z).elim h1 k1
  dich := by
    intro q q0
    by_cases hd : (n : Int) ∣ (q.den : Int)
    · right
      have hn : ¬ (n : Int) ∣ q.num := fun z => by
        have h1 := hp.1
        have c := q.reduced
        have d1 : n ∣ q.num.natAbs := Int.natAbs_dvd_natAbs.mpr z
        have d2 : n ∣ q.den := by exact_mod_cast hd
        have d3 := Nat.dvd_gcd d1 d2
        rw [c] at d3
        have := Nat.le_of_dvd (by decide) d3
        omega
      refine ⟨q.den, q.num, hn, ?_, ?_⟩
      · have e := num_den q
        have k := Rat.mul_inv_cancel q q0
        rw [← e]
        generalize ((q.den : Int) : Rat) = dd
        have : q⁻¹ * (q * dd) = (q * q⁻¹) * dd := by grind
        rw [this, k, Rat.one_mul]
      · rw [ph_z.mpr hd]
        grind
    · left
      obtain ⟨i, hi⟩ := inv_fin hp hd
      refine ⟨i * ph n q.num, q.num, q.den, hd, num_den q, ?_⟩
      have : i * ph n q.num * ph n q.den = (i * ph n q.den) * ph n q.num := by grind
      rw [this, hi]
      grind
  nz := nz_fin hp
  n1 := by
    intro h
    rw [← ph_1, ← ph_0] at h
    have d := ph_eq.mp h
    have h1 := hp.1
    have := Int.le_of_dvd (by decide) d
    omega
  inv := by
    rintro q f ⟨a, b, h1, h2, h3⟩ hf
    have ha : ¬ (n : Int) ∣ a := fun z => by
      rw [ph_z.mpr z] at h3
      rcases nz_fin hp _ _ h3 with w | w
      · exact hf w
      · exact h1 (ph_z.mp w)
    have q0 : q ≠ 0 := fun z => by
      rw [z, Rat.zero_mul] at h2
      have : a = 0 := cast_inj (h2.symm.trans rfl)
      exact ha (by rw [this]; exact Int.dvd_zero _)
    obtain ⟨i, hi⟩ := inv_fin hp ha
    refine ⟨i * ph n b, b, a, ha, ?_, ?_⟩
    · have k := Rat.mul_inv_cancel q q0
      rw [← h2]
      have : q⁻¹ * (q * (b : Rat)) = (q * q⁻¹) * b := by grind
      rw [this, k, Rat.one_mul]
    · have : i * ph n b * ph n a = (i * ph n a) * ph n b := by grind
      rw [this, hi]
      grind
theorem wh_iff (hp : Pm n) : Wh (Rdp n) q ↔ ¬ (n : Int) ∣ (q.den : Int) := by
  constructor
  · rintro ⟨f, a, b, h1, h2, h3⟩ hd
    exact h1 (Int.dvd_trans hd (den_of h2))
  · intro hd
    obtain ⟨i, hi⟩ := inv_fin hp hd
    refine ⟨i * ph n q.num, q.num, q.den, hd, num_den q, ?_⟩
    have : i * ph n q.num * ph n q.den = (i * ph n q.den) * ph n q.num := by grind
    rw [this, hi]
    grind
theorem RS.rd {x : Int} (h : RS n q x) : Rdp n q (ph n x) := by
  obtain ⟨_, _, a, d, h1, h2, h3⟩ := h
  exact ⟨a, d, h1, h2, by rw [← ph_mul]; exact ph_eq.mpr h3⟩
end
/-- the D in a ring -/
def dG {F : Type} [Lean.Grind.CommRing F] (b1 b2 b3 b4 b6 : F) : F :=
  9 * (b1 * b1 + 4 * b2) * (2 * b4 + b1 * b3) * (b3 * b3 + 4 * b6) - (b1 * b1 + 4 * b2) * (b1 * b1 + 4 * b2) * (b2 * b3 * b3 - b4 * b4 + b1 * b1 * b6 + 4 * b2 * b6 - b1 * b3 * b4) - 8 * (2 * b4 + b1 * b3) * (2 * b4 + b1 * b3) * (2 * b4 + b1 * b3) - 27 * (b3 * b3 + 4 * b6) * (b3 * b3 + 4 * b6)
theorem dG_sing {F : Type} [Lean.Grind.CommRing F] {b1 b2 b3 b4 b6 v w : F} (e3 : b3 = -(2 * w) - b1 * v) (e4 : b4 = b1 * w - 3 * v * v - 2 * b2 * v) (e6 : b6 = w * w + b1 * v * w + b3 * w - v * v * v - b2 * v * v - b4 * v) : dG b1 b2 b3 b4 b6 = 0 := by
  have k4 : 2 * b4 + b1 * b3 = -(6 * v * v) - (b1 * b1 + 4 * b2) * v := by
    rw [e4, e3]
    clear e3 e4 e6
    grind
  have k6 : b3 * b3 + 4 * b6 = 8 * v * v * v + (b1 * b1 + 4 * b2) * v * v := by
    rw [e6, e4, e3]
    clear e3 e4 e6 k4
    grind
  have k8 : b2 * b3 * b3 - b4 * b4 + b1 * b1 * b6 + 4 * b2 * b6 - b1 * b3 * b4 = -((b1 * b1 + 4 * b2) * v * v * v) - 9 * v * v * v * v := by
    rw [e6, e4, e3]
    clear e3 e4 e6 k4 k6
    grind
  unfold dG
  rw [k4, k6, k8]
  generalize b1 * b1 + 4 * b2 = p
  clear e3 e4 e6 k4 k6 k8
  grind
theorem smoG_of {F : Type} [Lean.Grind.CommRing F] {b1 b2 b3 b4 b6 : F} (hd : dG b1 b2 b3 b4 b6 ≠ 0) : SmoG (⟨b1, b2, b3, b4, b6⟩ : CuG F) := by
  intro v w h h1 h2
  apply hd
  have g : ∀ {b1 b2 b3 b4 b6 v w : F}, w * w + b1 * v * w + b3 * w = v * v * v + b2 * v * v + b4 * v + b6 → 2 * w + b1 * v + b3 = 0 → 3 * v * v + 2 * b2 * v + b4 - b1 * w = 0 → b3 = -(2 * w) - b1 * v ∧ b4 = b1 * w - 3 * v * v - 2 * b2 * v ∧ b6 = w * w + b1 * v * w + b3 * w - v * v * v - b2 * v * v - b4 * v := by
    clear h h1 h2 hd
    intro b1 b2 b3 b4 b6 v w h h1 h2
    refine ⟨?_, ?_, ?_⟩
    · clear h h2
      grind
    · clear h h1
      grind
    · clear h1 h2
      grind
  obtain ⟨e3, e4, e6⟩ := g h h1 h2
  exact dG_sing e3 e4 e6
end CW

end
section
set_option maxRecDepth 100000
set_option maxHeartbeats 2000000
/-! plain: curves led by a change, over any commutative ring -/
namespace CW
section
variable {F : Type} [Lean.Grind.CommRing F]
def tb1 (a1 s : F) : F := a1 + 2 * s
def tb2 (a1 a2 r s : F) : F := a2 - s * a1 + 3 * r - s * s
def tb3 (a1 a3 r t : F) : F := a3 + r * a1 + 2 * t
def tb4 (a1 a2 a3 a4 r s t : F) : F := a4 - s * a3 + 2 * r * a2 - t * a1 - r * s * a1 + 3 * r * r - 2 * s * t
def tb6 (a1 a2 a3 a4 a6 r t : F) : F := a6 + r * a4 + r * r * a2 + r * r * r - t * a3 - t * t - r * t * a1
theorem tr_on (a1 a2 a3 a4 a6 r s t x y : F) : (y - s * (x - r) - t) * (y - s * (x - r) - t) + tb1 a1 s * (x - r) * (y - s * (x - r) - t) + tb3 a1 a3 r t * (y - s * (x - r) - t) - ((x - r) * (x - r) * (x - r) + tb2 a1 a2 r s * (x - r) * (x - r) + tb4 a1 a2 a3 a4 r s t * (x - r) + tb6 a1 a2 a3 a4 a6 r t) =
    y * y + a1 * x * y + a3 * y - (x * x * x + a2 * x * x + a4 * x + a6) := by
  unfold tb1 tb2 tb3 tb4 tb6
  grind
theorem tr_opp (a1 a3 r s t x y w : F) : (y - s * (x - r) - t) + (w - s * (x - r) - t) + tb1 a1 s * (x - r) + tb3 a1 a3 r t = y + w + a1 * x + a3 := by
  unfold tb1 tb3
  grind
theorem tr_sl (a1 a2 a3 a4 r s t x y v w l : F) (h1 : l * (x - v) = y - w) : (l - s) * ((y - s * (x - r) - t) + (w - s * (v - r) - t) + tb1 a1 s * (v - r) + tb3 a1 a3 r t) - ((x - r) * (x - r) + (x - r) * (v - r) + (v - r) * (v - r) + tb2 a1 a2 r s * ((x - r) + (v - r)) + tb4 a1 a2 a3 a4 r s t - tb1 a1 s * (y - s * (x - r) - t)) =
    l * (y + w + a1 * v + a3) - (x * x + x * v + v * v + a2 * (x + v) + a4 - a1 * y) := by
  have e : w = y - l * (x - v) := by grind
  subst e
  clear h1
  unfold tb1 tb2 tb3 tb4
  grind
theorem sc_on (b1 b2 b3 b4 b6 i X Y : F) : (Y * i * i * i) * (Y * i * i * i) + (b1 * i) * (X * i * i) * (Y * i * i * i) + (b3 * i * i * i) * (Y * i * i * i) - ((X * i * i) * (X * i * i) * (X * i * i) + (b2 * i * i) * (X * i * i) * (X * i * i) + (b4 * i * i * i * i) * (X * i * i) + b6 * i * i * i * i * i * i) =
    (Y * Y + b1 * X * Y + b3 * Y - (X * X * X + b2 * X * X + b4 * X + b6)) * i * i * i * i * i * i := by grind
theorem sc_opp (b1 b3 i X Y W : F) : Y * i * i * i + W * i * i * i + (b1 * i) * (X * i * i) + b3 * i * i * i = (Y + W + b1 * X + b3) * i * i * i := by grind
theorem sc_sl (b1 b2 b3 b4 i X Y V W l : F) : (l * i) * (Y * i * i * i + W * i * i * i + (b1 * i) * (V * i * i) + b3 * i * i * i) - ((X * i * i) * (X * i * i) + (X * i * i) * (V * i * i) + (V * i * i) * (V * i * i) + (b2 * i * i) * (X * i * i + V * i * i) + b4 * i * i * i * i - (b1 * i) * (Y * i * i * i)) =
    (l * (Y + W + b1 * V + b3) - (X * X + X * V + V * V + b2 * (X + V) + b4 - b1 * Y)) * i * i * i * i := by grind
/-- the led curve -/
def lcu (c : CuG F) (i r s t : F) : CuG F := ⟨tb1 c.a1 s * i, tb2 c.a1 c.a2 r s * i * i, tb3 c.a1 c.a3 r t * i * i * i, tb4 c.a1 c.a2 c.a3 c.a4 r s t * i * i * i * i, tb6 c.a1 c.a2 c.a3 c.a4 c.a6 r t * i * i * i * i * i * i⟩
/-- the led point -/
def lpt (i r s t : F) : Option (F × F) → Option (F × F)
  | none => none
  | some (x, y) => some ((x - r) * i * i, (y - s * (x - r) - t) * i * i * i)
theorem gsub0' {a b : F} (h : a - b = 0) : a = b := by grind
theorem gsub1' {a b : F} (h : a = b) : a - b = 0 := by grind
variable {c : CuG F} {i U r s t x y v w l : F} {P Q S : Option (F × F)}
theorem inv3 {z : F} (h : i * U = 1) (k : z * i * i * i = 0) : z = 0 := by
  have : z * i * i * i * U * U * U = z * ((i * U) * (i * U) * (i * U)) := by
    clear h k
    grind
  rw [h, k] at this
  clear h k
  grind
theorem inv2 {z : F} (h : i * U = 1) (k : z * i * i = 0) : z = 0 := by
  have : z * i * i * U * U = z * ((i * U) * (i * U)) := by
    clear h k
    grind
  rw [h, k] at this
  clear h k
  grind
theorem inv6 {z : F} (h : i * U = 1) (k : z * i * i * i * i * i * i = 0) : z = 0 := inv3 h (inv3 h k)
theorem lcu_off (x y : F) : (((y - s * (x - r) - t) * i * i * i) * ((y - s * (x - r) - t) * i * i * i) + (lcu c i r s t).a1 * ((x - r) * i * i) * ((y - s * (x - r) - t) * i * i * i) + (lcu c i r s t).a3 * ((y - s * (x - r) - t) * i * i * i)) - (((x - r) * i * i) * ((x - r) * i * i) * ((x - r) * i * i) + (lcu c i r s t).a2 * ((x - r) * i * i) * ((x - r) * i * i) + (lcu c i r s t).a4 * ((x - r) * i * i) + (lcu c i r s t).a6) =
    (y * y + c.a1 * x * y + c.a3 * y - (x * x * x + c.a2 * x * x + c.a4 * x + c.a6)) * i * i * i * i * i * i := by
  have h := sc_on (tb1 c.a1 s) (tb2 c.a1 c.a2 r s) (tb3 c.a1 c.a3 r t) (tb4 c.a1 c.a2 c.a3 c.a4 r s t) (tb6 c.a1 c.a2 c.a3 c.a4 c.a6 r t) i (x - r) (y - s * (x - r) - t)
  rw [tr_on] at h
  exact h
theorem lpt_on (h : OnO c P) : OnO (lcu c i r s t) (lpt i r s t P) := by
  rcases P with _ | ⟨x, y⟩
  · trivial
  · have h : y * y + c.a1 * x * y + c.a3 * y = x * x * x + c.a2 * x * x + c.a4 * x + c.a6 := h
    have k := lcu_off (c := c) (i := i) (r := r) (s := s) (t := t) x y
    rw [gsub1' h] at k
    refine gsub0' (k.trans ?_)
    clear k h
    grind
theorem lpt_on' (hU : i * U = 1) (h : OnO (lcu c i r s t) (lpt i r s t P)) : OnO c P := by
  rcases P with _ | ⟨x, y⟩
  · trivial
  · have h : ((y - s * (x - r) - t) * i * i * i) * ((y - s * (x - r) - t) * i * i * i) + (lcu c i r s t).a1 * ((x - r) * i * i) * ((y - s * (x - r) - t) * i * i * i) + (lcu c i r s t).a3 * ((y - s * (x - r) - t) * i * i * i) = ((x - r) * i * i) * ((x - r) * i * i) * ((x - r) * i * i) + (lcu c i r s t).a2 * ((x - r) * i * i) * ((x - r) * i * i) + (lcu c i r s t).a4 * ((x - r) * i * i) + (lcu c i r s t).a6 := h
    have k := lcu_off (c := c) (i := i) (r := r) (s := s) (t := t) x y
    rw [gsub1' h] at k
    exact gsub0' (inv6 hU k.symm)
/-- each point is a led one -/
theorem lpt_all (hU : i * U = 1) : ∃ P, lpt i r s t P = Q := by
  rcases Q with _ | ⟨x, y⟩
  · exact ⟨none, rfl⟩
  · refine ⟨some (x * U * U + r, y * U * U * U + s * (x * U * U) + t), ?_⟩
    have e1 : (x * U * U + r - r) * i * i = x := by
      have : (x * U * U + r - r) * i * i = x * ((i * U) * (i * U)) := by
        clear hU
        grind
      rw [this, hU]
      clear hU this
      grind
    have e2 : (y * U * U * U + s * (x * U * U) + t - s * (x * U * U + r - r) - t) * i * i * i = y := by
      have : (y * U * U * U + s * (x * U * U) + t - s * (x * U * U + r - r) - t) * i * i * i = y * ((i * U) * (i * U) * (i * U)) := by
        clear hU e1
        grind
      rw [this, hU]
      clear hU this e1
      grind
    show some ((x * U * U + r - r) * i * i, (y * U * U * U + s * (x * U * U) + t - s * (x * U * U + r - r) - t) * i * i * i) = some (x, y)
    rw [e1, e2]
theorem lpt_inj (hU : i * U = 1) (h : lpt i r s t P = lpt i r s t Q) : P = Q := by
  rcases P with _ | ⟨x, y⟩ <;> rcases Q with _ | ⟨v, w⟩
  · rfl
  · cases h
  · cases h
  · have h := Option.some.inj h
    have h1 : (x - r) * i * i = (v - r) * i * i := congrArg Prod.fst h
    have h2 : (y - s * (x - r) - t) * i * i * i = (w - s * (v - r) - t) * i * i * i := congrArg Prod.snd h
    have e1 : x = v := by
      have : (x - v) * i * i = 0 := by
        have := gsub1' h1
        rw [← this]
        clear this h h1 h2 hU
        grind
      exact gsub0' (inv2 hU this)
    subst e1
    have e2 : y = w := by
      have : (y - w) * i * i * i = 0 := by
        have := gsub1' h2
        rw [← this]
        clear this h h1 h2 hU
        grind
      exact gsub0' (inv3 hU this)
    rw [e2]
theorem opp_led (hU : i * U = 1) : OppG (lcu c i r s t) ((x - r) * i * i) ((y - s * (x - r) - t) * i * i * i) ((v - r) * i * i) ((w - s * (v - r) - t) * i * i * i) ↔ OppG c x y v w := by
  have key : ∀ w : F, (y - s * (x - r) - t) * i * i * i + (w - s * (x - r) - t) * i * i * i + (lcu c i r s t).a1 * ((x - r) * i * i) + (lcu c i r s t).a3 = (y + w + c.a1 * x + c.a3) * i * i * i := fun w => by
    have := sc_opp (tb1 c.a1 s) (tb3 c.a1 c.a3 r t) i (x - r) (y - s * (x - r) - t) (w - s * (x - r) - t)
    rw [tr_opp] at this
    exact this
  constructor
  · rintro ⟨h1, h2⟩
    have e1 : x = v := by
      have : (x - v) * i * i = 0 := by
        have := gsub1' h1
        rw [← this]
        clear this h1 h2 hU key
        grind
      exact gsub0' (inv2 hU this)
    subst e1
    rw [key] at h2
    exact ⟨rfl, inv3 hU h2⟩
  · rintro ⟨rfl, h2⟩
    refine ⟨rfl, ?_⟩
    rw [key, h2]
    clear key h2 hU
    grind
theorem sl_led (h : SlG c l x y v w) : SlG (lcu c i r s t) ((l - s) * i) ((x - r) * i * i) ((y - s * (x - r) - t) * i * i * i) ((v - r) * i * i) ((w - s * (v - r) - t) * i * i * i) := by
  obtain ⟨h1, h2⟩ := h
  have e := tr_sl c.a1 c.a2 c.a3 c.a4 r s t x y v w l h1
  have e2 := sc_sl (tb1 c.a1 s) (tb2 c.a1 c.a2 r s) (tb3 c.a1 c.a3 r t) (tb4 c.a1 c.a2 c.a3 c.a4 r s t) i (x - r) (y - s * (x - r) - t) (v - r) (w - s * (v - r) - t) (l - s)
  rw [e, gsub1' h2] at e2
  refine ⟨?_, gsub0' (e2.trans ?_)⟩
  · have : (l - s) * i * ((x - r) * i * i - (v - r) * i * i) - ((y - s * (x - r) - t) * i * i * i - (w - s * (v - r) - t) * i * i * i) = (l * (x - v) - (y - w)) * i * i * i := by
      clear h1 h2 e e2
      grind
    rw [gsub1' h1] at this
    refine gsub0' (this.trans ?_)
    clear h1 h2 e e2 this
    grind
  · clear h1 h2 e e2
    grind
theorem gx_led (l x v : F) : gx (lcu c i r s t) ((l - s) * i) ((x - r) * i * i) ((v - r) * i * i) = (gx c l x v - r) * i * i := by
  show (l - s) * i * ((l - s) * i) + tb1 c.a1 s * i * ((l - s) * i) - tb2 c.a1 c.a2 r s * i * i - (x - r) * i * i - (v - r) * i * i = (l * l + c.a1 * l - c.a2 - x - v - r) * i * i
  unfold tb1 tb2
  grind
theorem gy_led (l x y X : F) : gy (lcu c i r s t) ((l - s) * i) ((x - r) * i * i) ((y - s * (x - r) - t) * i * i * i) ((X - r) * i * i) = (gy c l x y X - s * (X - r) - t) * i * i * i := by
  show -((y - s * (x - r) - t) * i * i * i + (l - s) * i * ((X - r) * i * i - (x - r) * i * i)) - tb1 c.a1 s * i * ((X - r) * i * i) - tb3 c.a1 c.a3 r t * i * i * i = (-(y + l * (X - x)) - c.a1 * X - c.a3 - s * (X - r) - t) * i * i * i
  unfold tb1 tb3
  grind
theorem SmG.led (hU : i * U = 1) (h : SmG c P Q S) : SmG (lcu c i r s t) (lpt i r s t P) (lpt i r s t Q) (lpt i r s t S) := by
  cases h with
  | n0 Q => exact .n0 _
  | n1 P => exact .n1 _
  | op h => exact .op ((opp_led hU).mpr h)
  | @ln x y v w l h1 h2 =>
    have k := SmG.ln (fun z => h1 ((opp_led hU).mp z)) (sl_led (i := i) (r := r) (s := s) (t := t) h2)
    rw [gx_led, gy_led] at k
    exact k
end
end CW

end
section
set_option maxRecDepth 100000
set_option maxHeartbeats 2000000
/-! plain: points led by a small change: sizes, sums -/
namespace CW
section
/-- a small change: i is 1 by U -/
structure Chg (i r s t : Rat) : Prop where
  i0 : i ≠ 0
  hi : ∃ I : Int, i * 6 = I ∧ szi I 5
  hr : ∃ R : Int, r * 6 = R ∧ szi R 5
  hs : ∃ S : Int, s * 6 = S ∧ szi S 5
  ht : ∃ T : Int, t * 6 = T ∧ szi T 5
variable {E : Int} {e : Nat} {a1 a2 a3 a4 a6 x y i r s t : Rat}
theorem szi.lit (c : Int) (k : Nat) (h : c.natAbs < 2 ^ k := by decide) : szi c k := h
theorem rid1 (ε n1 : Rat) (h1 : a1 * ε = n1) : tb1 a1 s * i * (ε * 10077696) = (6 * n1 + 2 * (s * 6) * ε) * (i * 6) * 279936 := by
  subst h1
  unfold tb1
  grind
theorem rid2 (ε n1 n2 : Rat) (h1 : a1 * ε = n1) (h2 : a2 * ε = n2) : tb2 a1 a2 r s * i * i * (ε * 10077696) = (36 * n2 - 6 * (s * 6) * n1 + 18 * (r * 6) * ε - (s * 6) * (s * 6) * ε) * ((i * 6) * (i * 6)) * 7776 := by
  subst h1 h2
  unfold tb2
  grind
theorem rid3 (ε n1 n3 : Rat) (h1 : a1 * ε = n1) (h3 : a3 * ε = n3) : tb3 a1 a3 r t * i * i * i * (ε * 10077696) = (6 * n3 + (r * 6) * n1 + 2 * (t * 6) * ε) * ((i * 6) * (i * 6) * (i * 6)) * 7776 := by
  subst h1 h3
  unfold tb3
  grind
theorem rid4 (ε n1 n2 n3 n4 : Rat) (h1 : a1 * ε = n1) (h2 : a2 * ε = n2) (h3 : a3 * ε = n3) (h4 : a4 * ε = n4) : tb4 a1 a2 a3 a4 r s t * i * i * i * i * (ε * 10077696) = (36 * n4 - 6 * (s * 6) * n3 + 12 * (r * 6) * n2 - 6 * (t * 6) * n1 - (r * 6) * (s * 6) * n1 + 3 * ((r * 6) * (r * 6)) * ε - 2 * ((s * 6) * (t * 6)) * ε) * ((i * 6) * (i * 6) * (i * 6) * (i * 6)) * 216 := by
  subst h1 h2 h3 h4
  unfold tb4
  grind
theorem rid6 (ε n1 n2 n3 n4 n6 : Rat) (h1 : a1 * ε = n1) (h2 : a2 * ε = n2) (h3 : a3 * ε = n3) (h4 : a4 * ε = n4) (h6 : a6 * ε = n6) : tb6 a1 a2 a3 a4 a6 r t * i * i * i * i * i * i * (ε * 10077696) = (216 * n6 + 36 * (r * 6) * n4 + 6 * ((r * 6) * (r * 6)) * n2 + (r * 6) * (r * 6) * (r * 6) * ε - 36 * (t * 6) * n3 - 6 * ((t * 6) * (t * 6)) * ε - 6 * ((r * 6) * (t * 6)) * n1) * ((i * 6) * (i * 6) * (i * 6) * (i * 6) * (i * 6) * (i * 6)) := by
  subst h1 h2 h3 h4 h6
  unfold tb6
  grind
theorem ridx (ε X : Rat) (h : x * ε ^ 2 = X) : (x - r) * i * i * (ε * 10077696) ^ 2 = (6 * X - (r * 6) * (ε * ε)) * ((i * 6) * (i * 6)) * 470184984576 := by
  subst h
  grind
theorem ridy (ε X Y : Rat) (h : x * ε ^ 2 = X) (h2 : y * ε ^ 3 = Y) : (y - s * (x - r) - t) * i * i * i * (ε * 10077696) ^ 3 = (36 * Y - (s * 6) * (6 * X - (r * 6) * (ε * ε)) * ε - 6 * (t * 6) * (ε * ε * ε)) * ((i * 6) * (i * 6) * (i * 6)) * 131621703842267136 := by
  subst h h2
  grind
theorem Sz.led (h : Sz E e a1 a2 a3 a4 a6 x y) (c : Chg i r s t) (he : 1 ≤ e) : Sz (E * 10077696) (e + 52) (tb1 a1 s * i) (tb2 a1 a2 r s * i * i) (tb3 a1 a3 r t * i * i * i) (tb4 a1 a2 a3 a4 r s t * i * i * i * i) (tb6 a1 a2 a3 a4 a6 r t * i * i * i * i * i * i) ((x - r) * i * i) ((y - s * (x - r) - t) * i * i * i) := by
  obtain ⟨E0, hE, ⟨N1, e1, z1⟩, ⟨N2, e2, z2⟩, ⟨N3, e3, z3⟩, ⟨N4, e4, z4⟩, ⟨N6, e6, z6⟩, ⟨X, ex, zx⟩, ⟨Y, ey, zy⟩⟩ := h
  obtain ⟨i0, ⟨I, eI, zI⟩, ⟨R, eR, zR⟩, ⟨S, eS, zS⟩, ⟨T, eT, zT⟩⟩ := c
  have cE : ((E * 10077696 : Int) : Rat) = (E : Rat) * 10077696 := by rw [rc_mul]; rfl
  rw [Rat.pow_one] at e1 e2 e3 e4 e6
  refine ⟨Int.mul_ne_zero E0 (by decide), (hE.mul (szi.lit 10077696 24)).mono (by omega), ⟨(6 * N1 + 2 * S * E) * I * 279936, ?_, ?_⟩, ⟨(36 * N2 - 6 * S * N1 + 18 * R * E - S * S * E) * (I * I) * 7776, ?_, ?_⟩, ⟨(6 * N3 + R * N1 + 2 * T * E) * (I * I * I) * 7776, ?_, ?_⟩,
    ⟨(36 * N4 - 6 * S * N3 + 12 * R * N2 - 6 * T * N1 - R * S * N1 + 3 * (R * R) * E - 2 * (S * T) * E) * (I * I * I * I) * 216, ?_, ?_⟩, ⟨(216 * N6 + 36 * R * N4 + 6 * (R * R) * N2 + R * R * R * E - 36 * T * N3 - 6 * (T * T) * E - 6 * (R * T) * N1) * (I * I * I * I * I * I), ?_, ?_⟩,
    ⟨(6 * X - R * (E * E)) * (I * I) * 470184984576, ?_, ?_⟩, ⟨(36 * Y - S * (6 * X - R * (E * E)) * E - 6 * T * (E * E * E)) * (I * I * I) * 131621703842267136, ?_, ?_⟩⟩
  · rw [cE, Rat.pow_one, rid1 _ _ e1, eS, eI]
    simp only [Rat.intCast_mul, Rat.intCast_add, Rat.intCast_sub, Rat.intCast_ofNat]
  · exact ((((((szi.lit 6 3).mul z1).sum (((szi.lit 2 2).mul zS).mul hE) (c := e + 8)).mul zI).mul (szi.lit 279936 19))).mono (by omega)
  · rw [cE, Rat.pow_one, rid2 _ _ _ e1 e2, eS, eI, eR]
    simp only [Rat.intCast_mul, Rat.intCast_add, Rat.intCast_sub, Rat.intCast_ofNat]
  · exact ((((((szi.lit 36 6).mul z2).dif (((szi.lit 6 3).mul zS).mul z1) (c := e + 9)).sum (((szi.lit 18 5).mul zR).mul hE) (c := e + 11)).dif ((zS.mul zS).mul hE) (c := e + 12)).mul (zI.mul zI)).mul (szi.lit 7776 13) |>.mono (by omega)
  · rw [cE, Rat.pow_one, rid3 _ _ _ e1 e3, eT, eI, eR]
    simp only [Rat.intCast_mul, Rat.intCast_add, Rat.intCast_sub, Rat.intCast_ofNat]
  · exact (((((szi.lit 6 3).mul z3).sum (zR.mul z1) (c := e + 6)).sum (((szi.lit 2 2).mul zT).mul hE) (c := e + 8)).mul ((zI.mul zI).mul zI)).mul (szi.lit 7776 13) |>.mono (by omega)
  · rw [cE, Rat.pow_one, rid4 _ _ _ _ _ e1 e2 e3 e4, eT, eI, eR, eS]
    simp only [Rat.intCast_mul, Rat.intCast_add, Rat.intCast_sub, Rat.intCast_ofNat]
  · exact ((((((((((szi.lit 36 6).mul z4).dif (((szi.lit 6 3).mul zS).mul z3) (c := e + 9)).sum (((szi.lit 12 4).mul zR).mul z2) (c := e + 10)).dif (((szi.lit 6 3).mul zT).mul z1) (c := e + 11)).dif ((zR.mul zS).mul z1) (c := e + 12)).sum (((szi.lit 3 2).mul (zR.mul zR)).mul hE) (c := e + 13)).dif (((szi.lit 2 2).mul (zS.mul zT)).mul hE) (c := e + 14)).mul (((zI.mul zI).mul zI).mul zI)).mul (szi.lit 216 8)) |>.mono (by omega)
  · rw [cE, Rat.pow_one, rid6 _ _ _ _ _ _ e1 e2 e3 e4 e6, eT, eI, eR]
    simp only [Rat.intCast_mul, Rat.intCast_add, Rat.intCast_sub, Rat.intCast_ofNat]
  · exact (((((((((szi.lit 216 8).mul z6).sum (((szi.lit 36 6).mul zR).mul z4) (c := e + 12)).sum (((szi.lit 6 3).mul (zR.mul zR)).mul z2) (c := e + 14)).sum (((zR.mul zR).mul zR).mul hE) (c := e + 16)).dif (((szi.lit 36 6).mul zT).mul z3) (c := e + 17)).dif (((szi.lit 6 3).mul (zT.mul zT)).mul hE) (c := e + 18)).dif (((szi.lit 6 3).mul (zR.mul zT)).mul z1) (c := e + 19)).mul (((((zI.mul zI).mul zI).mul zI).mul zI).mul zI)) |>.mono (by omega)
  · rw [cE, ridx _ _ ex, eI, eR]
    simp only [Rat.intCast_mul, Rat.intCast_add, Rat.intCast_sub, Rat.intCast_ofNat]
  · exact ((((szi.lit 6 3).mul zx).dif (zR.mul (hE.mul hE)) (c := 2 * e + 6)).mul (zI.mul zI)).mul (szi.lit 470184984576 39) |>.mono (by omega)
  · rw [cE, ridy _ _ _ ex ey, eI, eR, eS, eT]
    simp only [Rat.intCast_mul, Rat.intCast_add, Rat.intCast_sub, Rat.intCast_ofNat]
  · exact (((((szi.lit 36 6).mul zy).dif ((zS.mul (((szi.lit 6 3).mul zx).dif (zR.mul (hE.mul hE)) (c := 2 * e + 6))).mul hE) (c := 3 * e + 12)).dif (((szi.lit 6 3).mul zT).mul ((hE.mul hE).mul hE)) (c := 3 * e + 13)).mul ((zI.mul zI).mul zI)).mul (szi.lit 131621703842267136 57) |>.mono (by omega)
theorem dd_led27 : dd (tb1 a1 s * i) (tb2 a1 a2 r s * i * i) (tb3 a1 a3 r t * i * i * i) (tb4 a1 a2 a3 a4 r s t * i * i * i * i) (tb6 a1 a2 a3 a4 a6 r t * i * i * i * i * i * i) = dd a1 a2 a3 a4 a6 * i ^ 12 := dd_led
theorem pow_nzQ {q : Rat} (h : q ≠ 0) : ∀ n : Nat, q ^ n ≠ 0
  | 0 => by rw [Rat.pow_zero]; decide
  | n + 1 => by
    rw [Rat.pow_succ]
    exact fun z => (nzQ _ _ z).elim (pow_nzQ h n) h
theorem dd_led0 (h : dd a1 a2 a3 a4 a6 ≠ 0) (i0 : i ≠ 0) : dd (tb1 a1 s * i) (tb2 a1 a2 r s * i * i) (tb3 a1 a3 r t * i * i * i) (tb4 a1 a2 a3 a4 r s t * i * i * i * i) (tb6 a1 a2 a3 a4 a6 r t * i * i * i * i * i * i) ≠ 0 := by
  rw [dd_led27]
  exact fun z => (nzQ _ _ z).elim h (pow_nzQ i0 12)
theorem onQ_led {P : Pq} (h : OnQ a1 a2 a3 a4 a6 P) : OnQ (tb1 a1 s * i) (tb2 a1 a2 r s * i * i) (tb3 a1 a3 r t * i * i * i) (tb4 a1 a2 a3 a4 r s t * i * i * i * i) (tb6 a1 a2 a3 a4 a6 r t * i * i * i * i * i * i) (lpt i r s t P) :=
  of_onO (lpt_on (c := cuQ a1 a2 a3 a4 a6) (onO_of h))
theorem adQ_led (i0 : i ≠ 0) {P Q : Pq} (hP : OnQ a1 a2 a3 a4 a6 P) (hQ : OnQ a1 a2 a3 a4 a6 Q) : adQ (tb1 a1 s * i) (tb2 a1 a2 r s * i * i) (tb3 a1 a3 r t * i * i * i) (tb4 a1 a2 a3 a4 r s t * i * i * i * i) (tb6 a1 a2 a3 a4 a6 r t * i * i * i * i * i * i) (lpt i r s t P) (lpt i r s t Q) = lpt i r s t (adQ a1 a2 a3 a4 a6 P Q) :=
  (adQ_sm (onQ_led hP) (onQ_led hQ)).uniq nzQ ((adQ_sm hP hQ).led (Rat.mul_inv_cancel i i0))
theorem ngQ_led (P : Pq) : ngQ (tb1 a1 s * i) (tb3 a1 a3 r t * i * i * i) (lpt i r s t P) = lpt i r s t (ngQ a1 a3 P) := by
  rcases P with _ | ⟨x, y⟩
  · rfl
  · show some ((x - r) * i * i, -((y - s * (x - r) - t) * i * i * i + tb1 a1 s * i * ((x - r) * i * i) + tb3 a1 a3 r t * i * i * i)) = some ((x - r) * i * i, (-(y + a1 * x + a3) - s * (x - r) - t) * i * i * i)
    congr 2
    unfold tb1 tb3
    grind
theorem OkQ.led {P : Pq} (h : OkQ a1 a2 a3 a4 a6 e P) (c : Chg i r s t) (he : 1 ≤ e) : OkQ (tb1 a1 s * i) (tb2 a1 a2 r s * i * i) (tb3 a1 a3 r t * i * i * i) (tb4 a1 a2 a3 a4 r s t * i * i * i * i) (tb6 a1 a2 a3 a4 a6 r t * i * i * i * i * i * i) (e + 52) (lpt i r s t P) := by
  have ho := onQ_led (i := i) (r := r) (s := s) (t := t) h.on
  rcases P with _ | ⟨x, y⟩
  · trivial
  · obtain ⟨_, E, hz⟩ := h
    exact ⟨ho, _, hz.led c he⟩
end
end CW

end
section
set_option maxRecDepth 100000
set_option maxHeartbeats 2000000
open PySem PySem.Spec PyProof.Rows L2 CW
namespace CWL
/-! ### the text -/
def topS (i : Nat) : Stmt := PySem.Challenge.pw_cubicway_k08_parts_and_what_is_left.main.body.getD i (.Pass ⟨0, 0, 0, 0⟩)
def inCls (j : Nat) : Stmt → Stmt
  | .ClassDef _ _ _ body _ _ _ _ _ _ _ => body.getD j (.Pass ⟨0, 0, 0, 0⟩)
  | s => s
abbrev st_is_number : Stmt := topS 9
abbrev N_is_number : List Str := ["thing"]
theorem sc_is_number : FnScope N_is_number ["thing"] (defScope st_is_number) := ⟨rfl, rfl, rfl, by decide +kernel, rfl, by decide +kernel, by decide +kernel⟩
abbrev st_need_parted : Stmt := topS 10
abbrev N_need_parted : List Str := ["number"]
theorem sc_need_parted : FnScope N_need_parted ["number"] (defScope st_need_parted) := ⟨rfl, rfl, rfl, by decide +kernel, rfl, by decide +kernel, by decide +kernel⟩
abbrev st_parted : Stmt := topS 11
abbrev N_parted : List Str := ["number", "rest", "found", "by", "often"]
theorem sc_parted : FnScope N_parted ["number"] (defScope st_parted) := ⟨rfl, rfl, rfl, by decide +kernel, rfl, by decide +kernel, by decide +kernel⟩
abbrev st_parts : Stmt := topS 12
abbrev N_parts : List Str := ["number", "found", "rest"]
theorem sc_parts : FnScope N_parts ["number"] (defScope st_parts) := ⟨rfl, rfl, rfl, by decide +kernel, rfl, by decide +kernel, by decide +kernel⟩
abbrev st_left : Stmt := topS 13
abbrev N_left : List Str := ["number", "found", "rest"]
theorem sc_left : FnScope N_left ["number"] (defScope st_left) := ⟨rfl, rfl, rfl, by decide +kernel, rfl, by decide +kernel, by decide +kernel⟩
abbrev st_Lstart : Stmt := topS 15
abbrev N_Lstart : List Str := ["_law_script"]
theorem sc_Lstart : FnScope N_Lstart ["_law_script"] (defScope st_Lstart) := ⟨rfl, rfl, rfl, by decide +kernel, rfl, by decide +kernel, by decide +kernel⟩
abbrev st_Ldraw : Stmt := topS 16
abbrev N_Ldraw : List Str := ["_law_d", "_law_many", "_law_found", "_law_cells", "_law_cell", "_law_k", "_law_one"]
theorem sc_Ldraw : FnScope N_Ldraw ["_law_d", "_law_many"] (defScope st_Ldraw) := ⟨rfl, rfl, rfl, by decide +kernel, rfl, by decide +kernel, by decide +kernel⟩
abbrev st_Lpick : Stmt := topS 17
abbrev N_Lpick : List Str := ["_law_d", "_law_some"]
theorem sc_Lpick : FnScope N_Lpick ["_law_d", "_law_some"] (defScope st_Lpick) := ⟨rfl, rfl, rfl, by decide +kernel, rfl, by decide +kernel, by decide +kernel⟩
abbrev st_Lprime : Stmt := topS 18
abbrev N_Lprime : List Str := ["_law_d"]
theorem sc_Lprime : FnScope N_Lprime ["_law_d"] (defScope st_Lprime) := ⟨rfl, rfl, rfl, by decide +kernel, rfl, by decide +kernel, by decide +kernel⟩
abbrev st_Lsaid : Stmt := topS 19
abbrev N_Lsaid : List Str := ["_law_call", "_law_caught", "_law_found", "refusal", "_law_some", "_law_words", "_law_word", "_law_is_it"]
theorem sc_Lsaid : FnScope N_Lsaid ["_law_call"] (defScope st_Lsaid) := ⟨rfl, rfl, rfl, by decide +kernel, rfl, by decide +kernel, by decide +kernel⟩
abbrev st_Lsmall : Stmt := topS 20
abbrev N_Lsmall : List Str := ["_law_crossed", "_law_by", "_law_it"]
theorem sc_Lsmall : FnScope N_Lsmall [] (defScope st_Lsmall) := ⟨rfl, rfl, rfl, by decide +kernel, rfl, by decide +kernel, by decide +kernel⟩
abbrev st_Lparted : Stmt := topS 21
abbrev N_Lparted : List Str := ["_law_small_here", "_law_it", "_law_rest", "_law_found", "_law_p", "_law_often"]
theorem sc_Lparted : FnScope N_Lparted ["_law_small_here", "_law_it"] (defScope st_Lparted) := ⟨rfl, rfl, rfl, by decide +kernel, rfl, by decide +kernel, by decide +kernel⟩
abbrev st_Lpower : Stmt := topS 22
abbrev N_Lpower : List Str := ["_law_base", "_law_many", "_law_found", "_law_k"]
theorem sc_Lpower : FnScope N_Lpower ["_law_base", "_law_many"] (defScope st_Lpower) := ⟨rfl, rfl, rfl, by decide +kernel, rfl, by decide +kernel, by decide +kernel⟩
abbrev st_Lnumber : Stmt := topS 23
abbrev N_Lnumber : List Str := ["_law_d", "_law_small_here", "_law_it", "_law_k"]
theorem sc_Lnumber : FnScope N_Lnumber ["_law_d", "_law_small_here"] (defScope st_Lnumber) := ⟨rfl, rfl, rfl, by decide +kernel, rfl, by decide +kernel, by decide +kernel⟩
abbrev st_law : Stmt := topS 24
abbrev N_law : List Str := ["_law_script", "_law_d", "_law_small_here", "_law_turn", "_law_it", "_law_due", "_law_rest", "_law_found", "_law_odd"]
theorem sc_law : FnScope N_law ["_law_script"] (defScope st_law) := ⟨rfl, rfl, rfl, by decide +kernel, rfl, by decide +kernel, by decide +kernel⟩
abbrev sti_BadNumber : Stmt := inCls 0 (topS 4)
theorem sci_BadNumber : FnScope ["self", "why"] ["self", "why"] (defScope sti_BadNumber) := ⟨rfl, rfl, rfl, by decide +kernel, rfl, by decide +kernel, by decide +kernel⟩
def c_GREATEST : P := .int 2000
def c_LEAST : P := .int 2
def cat_Refused_Barred : Str → Bool := catT ["BadNumber"]
def tabS : List (Str × Str × Bool) := [("BadNumber", "BadPrime", false), ("BadNumber", "BadFraction", false), ("BadNumber", "BadNumber", true)]
def tabB : List (Str × String × Bool) := [("BadNumber", "ValueError", true)]
def isxT : List D → M D := isxD (subT tabS) (subB tabB)
@[simp] theorem isx_BadNumber_BadPrime (s : S) : isxT [.p (.exn "BadNumber"), .p (.cls "BadPrime")] s = .ok (.p (.bl false)) s := isx_cls (by decide +kernel)
@[simp] theorem isx_BadNumber_BadFraction (s : S) : isxT [.p (.exn "BadNumber"), .p (.cls "BadFraction")] s = .ok (.p (.bl false)) s := isx_cls (by decide +kernel)
@[simp] theorem isx_BadNumber_BadNumber (s : S) : isxT [.p (.exn "BadNumber"), .p (.cls "BadNumber")] s = .ok (.p (.bl true)) s := isx_cls (by decide +kernel)
@[simp] theorem isx_BadNumber_ValueError (s : S) : isxT [.p (.exn "BadNumber"), .p (.ty "ValueError")] s = .ok (.p (.bl true)) s := isx_ty (by decide +kernel)
def gw_left_0 {α : Type} : List α → List α → List α := fun us ws => match us, ws with
  | [], [z0] => [z0]
  | _, _ => []
@[simp] theorem gw_left_0_ev {α : Type} (z0 : α) : gw_left_0 [] [z0] = [z0] := rfl
def gw_parts_0 {α : Type} : List α → List α → List α := fun us ws => match us, ws with
  | [], [z0] => [z0]
  | _, _ => []
@[simp] theorem gw_parts_0_ev {α : Type} (z0 : α) : gw_parts_0 [] [z0] = [z0] := rfl
/-! ### what each def does -/
noncomputable def B_is_number : SF := (retF ((andE ((calE isiD [vE 0, cE (.ty "int")])) (notE ((calE isiD [vE 0, cE (.ty "bool")]))))))
noncomputable def m_is_number : List D → M D := defM 1 1 B_is_number
noncomputable def B_need_parted : SF := (iffF (noX (orT (notT (tT ((calE m_is_number [vE 0])))) (tB (op2 (eqD false) (vE 0) (cE (.int 0)))))) (raiF "BadNumber" (cE (.str "number"))) nopF)
noncomputable def m_need_parted : List D → M D := defM 1 1 B_need_parted
noncomputable def B_parted : SF := (seqF (par3F 1 2 3 [(calE absD [vE 0]), (lsoE []), cE c_LEAST]) (seqF (whF (andT (tB (op2 (eqD true) (vE 1) (cE (.int 1)))) (tB (op2 (leD) (vE 3) (cE c_GREATEST)))) (seqF (asgF (cE (.int 0)) (setG 4)) (seqF (whF (tB (op2 (eqD false) ((op2 (modD) (vE 1) (vE 3))) (cE (.int 0)))) (parF 1 4 [(op2 (divD) (vE 1) (vE 3)), (op2 (addD true) (vE 4) (cE (.int 1)))])) (seqF (iffF (tB (op2 (gtD) (vE 4) (cE (.int 0)))) (expF ((metE appD (vE 2) [(tupE [vE 3, vE 4])]))) nopF) (augF 3 (ii yes fun i j => .int (i + j)) ((ifE ((tB (op2 (eqD false) (vE 3) (cE c_LEAST)))) (cE (.int 1)) (cE (.int 2))))))))) (retF (tplE [vE 2, vE 1]))))
noncomputable def m_parted : List D → M D := defM 1 5 B_parted
noncomputable def B_parts : SF := (seqF (expF (calE m_need_parted [(noX (vE 0))])) (seqF (noX (utpF 2 (calE m_parted [vE 0]) (consT (setG 1) (consT (setG 2) nilT)))) (noX (retF (vE 1)))))
noncomputable def m_parts : List D → M D := defM 1 3 B_parts
noncomputable def B_left : SF := (seqF (expF (calE m_need_parted [(noX (vE 0))])) (seqF (noX (utpF 2 (calE m_parted [vE 0]) (consT (setG 1) (consT (setG 2) nilT)))) (noX (retF (vE 2)))))
noncomputable def m_left : List D → M D := defM 1 3 B_left
noncomputable def B_Lstart : SF := (retF ((dicE ["cells", "spot", "stock", "mixed"] [(op2 (addD false) (vE 0) ((lstE [(calE lenD [vE 0])]))), cE (.int 0), cE (.int 0), cE (.int 0)])))
noncomputable def m_Lstart : List D → M D := defM 1 1 B_Lstart
noncomputable def B_Ldraw : SF := (seqF (iffF (tB (op2 (gtD) ((op2 dgetD (vE 0) (cE (.str "stock")))) (cE (.int 0)))) (seqF (asgF ((op2 (modD) ((op2 dgetD (vE 0) (cE (.str "stock")))) (vE 1))) (setG 2)) (seqF (dputF (vE 0) (cE (.str "stock")) ((op2 (divD) ((op2 dgetD (vE 0) (cE (.str "stock")))) (vE 1)))) (retF (vE 2)))) nopF) (seqF (asgF ((op2 dgetD (vE 0) (cE (.str "cells")))) (setG 3)) (seqF (parF 4 5 [(op2 ixD (vE 3) ((op2 (modD) ((op2 dgetD (vE 0) (cE (.str "spot")))) ((calE lenD [vE 3]))))), (op2 (addD true) ((op2 dgetD (vE 0) (cE (.str "mixed")))) (cE (.int 1)))]) (seqF (dputF (vE 0) (cE (.str "spot")) ((op2 (addD true) ((op2 dgetD (vE 0) (cE (.str "spot")))) (cE (.int 1))))) (seqF (iffF (andT (tB (op2 (geD) (vE 4) ((op2 (powD) (cE (.int 10)) (cE (.int 18)))))) (tB (op2 (leD) ((op2 dgetD (vE 0) (cE (.str "spot")))) ((calE lenD [vE 3]))))) (seqF (dputF (vE 0) (cE (.str "stock")) ((op2 (divD) (vE 4) (vE 1)))) (retF ((op2 (modD) (vE 4) (vE 1))))) nopF) (seqF (dputF (vE 0) (cE (.str "mixed")) (vE 5)) (seqF (asgF ((op2 (modD) ((op2 (addD true) ((op2 (addD true) ((op2 (modD) (vE 4) (cE (.int 998244353)))) ((op2 (mulD true) ((op2 (mulD true) (cE (.int 7901)) (vE 5))) (vE 5))))) ((op2 (mulD true) (cE (.int 13)) ((op2 dgetD (vE 0) (cE (.str "spot")))))))) (cE (.int 2147483647)))) (setG 6)) (seqF (asgF ((op2 (modD) ((op2 (mulD true) ((op2 (modD) ((op2 (mulD true) (vE 6) (vE 6))) (cE (.int 2147483629)))) ((op2 (addD true) (vE 6) (cE (.int 5)))))) (cE (.int 2147483647)))) (setG 6)) (retF ((op2 (modD) ((op2 (divD) ((op2 (modD) ((op2 (addD true) ((op2 (mulD true) (vE 6) (cE (.int 69697)))) (vE 5))) (cE (.int 2147483587)))) (cE (.int 11)))) (vE 1))))))))))))
noncomputable def m_Ldraw : List D → M D := defM 2 7 B_Ldraw
noncomputable def B_Lpick : SF := (retF ((op2 ixD (vE 1) ((calE m_Ldraw [vE 0, (calE lenD [vE 1])])))))
noncomputable def m_Lpick : List D → M D := defM 2 2 B_Lpick
noncomputable def B_Lprime : SF := (retF ((op2 ixD ((lstE [cE (.int 2), cE (.int 2), cE (.int 3), cE (.int 3), cE (.int 5), cE (.int 7), cE (.int 11), cE (.int 13), cE (.int 43), cE (.int 97), cE (.int 101), cE (.int 997), cE (.int 1013), cE (.int 1997), cE (.int 1999)])) ((calE m_Ldraw [vE 0, cE (.int 15)])))))
noncomputable def m_Lprime : List D → M D := defM 1 1 B_Lprime
noncomputable def B_Lsaid (f c : Addr) (qn : Str) (q : M D) : SF := (seqF (parF 1 2 [cE .non, (lsoE [])]) (seqF (tryF cat_Refused_Barred 3 1 (expF (metX appD (vE 2) (actE f c qn q)))) (seqF (iffF (tB (op2 (isN false) (vE 1) (cE .non))) (retF ((frzE (vE 2)))) nopF) (seqF (asgF ((lstE [(tupE [cE (.str "fraction"), (calE isxT [vE 1, cE (.cls "BadFraction")])]), (tupE [cE (.str "prime"), (calE isxT [vE 1, cE (.cls "BadPrime")])])])) (setG 4)) (seqF (asgF (lcE true (rowI ((op2 (addD true) (vE 4) ((lstE [(tupE [cE (.str "number"), (calE isxT [vE 1, cE (.cls "BadNumber")])])]))))) [6, 7] (tupG 2 (consG (setG 6) (consG (setG 7) nilG))) (tT (vE 7)) (vE 6)) (setG 5)) (retF ((ifE ((andT (tB (op2 (eqD false) ((calE lenD [vE 5])) (cE (.int 1)))) (tT ((calE isxT [vE 1, cE (.ty "ValueError")]))))) ((op2 ixD (vE 5) (cE (.int 0)))) (cE (.str "other"))))))))))
noncomputable def B_Lsmall : SF := (seqF (asgF ((op2 (mulD false) ((lstE [cE (.bl false)])) (cE (.int 2001)))) (setG 0)) (seqF (forF (r2I [cE (.int 2), cE (.int 45)]) (setG 1) (forF (r3I [(op2 (mulD true) (vE 1) (vE 1)), cE (.int 2001), vE 1]) (setG 2) (lputF (vE 0) (vE 2) (cE (.bl true))))) (retF ((lcE true (r2I [cE (.int 2), cE (.int 2001)]) [2] (setG 2) (notT (tT ((op2 ixD (vE 0) (vE 2))))) (vE 2))))))
noncomputable def m_Lsmall : List D → M D := defM 0 3 B_Lsmall
noncomputable def B_Lparted : SF := (seqF (parF 2 3 [(ifE ((tB (op2 (ltD) (vE 1) (cE (.int 0))))) ((op2 (subD) (cE (.int 0)) (vE 1))) (vE 1)), (lstE [])]) (seqF (forF (rowI (vE 0)) (setG 4) (seqF (asgF (cE (.int 0)) (setG 5)) (seqF (whF (tB (op2 (eqD false) ((op2 (modD) (vE 2) (vE 4))) (cE (.int 0)))) (parF 2 5 [(op2 (divD) (vE 2) (vE 4)), (op2 (addD true) (vE 5) (cE (.int 1)))])) (asgF ((op2 (addD true) (vE 3) ((op2 (mulD true) ((lstE [(tupE [vE 4, vE 5])])) ((calE intD [(op2 (gtD) (vE 5) (cE (.int 0)))])))))) (setG 3))))) (retF ((tupE [vE 3, vE 2])))))
noncomputable def m_Lparted : List D → M D := defM 2 6 B_Lparted
noncomputable def B_Lpower : SF := (seqF (asgF (cE (.int 1)) (setG 2)) (seqF (forF (r1I [vE 1]) (setG 3) (asgF ((op2 (mulD true) (vE 2) (vE 0))) (setG 2))) (retF (vE 2))))
noncomputable def m_Lpower : List D → M D := defM 2 4 B_Lpower
noncomputable def B_Lnumber : SF := (seqF (asgF ((op2 ixD ((lstE [cE (.int 1), (op1 negD (cE (.int 1)))])) ((calE m_Ldraw [vE 0, cE (.int 2)])))) (setG 2)) (seqF (forF (r1I [(calE m_Ldraw [vE 0, cE (.int 6)])]) (setG 3) (asgF ((op2 (mulD true) (vE 2) ((calE m_Lpower [(calE m_Lpick [vE 0, (lstE [(calE m_Lprime [vE 0]), (calE m_Lpick [vE 0, vE 1])])]), (op2 (addD true) (cE (.int 1)) ((calE m_Ldraw [vE 0, cE (.int 4)])))])))) (setG 2))) (retF ((op2 (mulD true) (vE 2) ((op2 ixD ((lstE [cE (.int 1), cE (.int 1), cE (.int 2003), (op2 (mulD true) (cE (.int 2003)) (cE (.int 2011))), (op2 (addD true) (cE (.int 1)) ((calE m_Ldraw [vE 0, (op2 (powD) (cE (.int 10)) (cE (.int 40)))])))])) ((calE m_Ldraw [vE 0, cE (.int 5)])))))))))
noncomputable def m_Lnumber : List D → M D := defM 2 4 B_Lnumber
noncomputable def LB0 : SF := (seqF (asgF ((calE m_Lnumber [vE 1, vE 2])) (setG 4)) (seqF (asgF ((calE m_Lparted [vE 2, vE 4])) (tupG 2 (consG (setG 5) (consG (setG 6) nilG)))) (seqF (asgF ((calE m_parts [vE 4])) (setG 7)) (seqF (iffF (orT (tB (op2 (eqD true) ((calE shwD [vE 7])) ((calE shwD [vE 5])))) (orT (tB (op2 (eqD true) ((calE shwD [(calE m_left [vE 4])])) ((calE shwD [vE 6])))) (tB (op2 (eqD true) ((calE shwD [(kwE m_left gw_left_0 [] [vE 4])])) ((calE shwD [vE 6])))))) (retF (cE (.bl false))) nopF) (seqF (expF ((metE appD (vE 7) [cE (.str "more")]))) (seqF (iffF (tB (op2 (eqD true) ((calE shwD [(kwE m_parts gw_parts_0 [] [vE 4])])) ((calE shwD [vE 5])))) (retF (cE (.bl false))) nopF) (seqF (asgF ((calE m_Lpick [vE 1, (lstE [cE (.int 0), cE .non, cE (.bl true), cE (.bl false), cE (.str "6"), (tupE [cE (.int 6), cE (.int 1)]), (lstE [cE (.int 6)]), (tupE [cE (.int 3), cE (.int 2)]), cE .emp])])) (setG 8)) (seqF (asgF ((lsoE [(saidE 8 B_Lsaid (calE m_parts [(noX (vE 8))]))])) (setG 7)) (seqF (expF ((metE appD (vE 7) [(saidE 8 B_Lsaid (calE m_left [(noX (vE 8))]))]))) (iffF (tB (op2 (eqD true) (vE 7) ((lstE [cE (.str "number"), cE (.str "number")])))) (retF (cE (.bl false))) nopF))))))))))
noncomputable def B_law : SF := (seqF (parF 1 2 [(calE m_Lstart [vE 0]), (calE m_Lsmall [])]) (seqF (forF (r1I [(op2 (addD true) (cE (.int 2)) ((calE minD [cE (.int 4), (calE lenD [vE 0])])))]) (setG 3) LB0) (retF ((op2 (eqD false) ((lstE [(frzE ((calE m_parts [cE (.int 1)]))), (frzE ((calE m_parts [(op1 negD (cE (.int 1)))]))), (calE m_left [(op1 negD (cE (.int 1)))]), (frzE ((calE m_parts [(op1 negD (cE (.int 12)))]))), (calE m_left [cE (.int 2003)])])) ((lstE [(lstE []), (lstE []), cE (.int 1), (lstE [(tupE [cE (.int 2), cE (.int 2)]), (tupE [cE (.int 3), cE (.int 1)])]), cE (.int 2003)])))))))
noncomputable def m_law : List D → M D := defM 1 9 B_law
/-! ### what the top has left -/
structure Txt (K : PySem.W.Frag) (mg : Str → Option Value) where
  f_is_number : Addr
  d_is_number : FuncData
  F_is_number : Fun K "is_number" "is_number" st_is_number f_is_number d_is_number
  b_is_number : Binds K d_is_number ["thing"] []
  f_need_parted : Addr
  d_need_parted : FuncData
  F_need_parted : Fun K "need_parted" "need_parted" st_need_parted f_need_parted d_need_parted
  b_need_parted : Binds K d_need_parted ["number"] []
  f_parted : Addr
  d_parted : FuncData
  F_parted : Fun K "parted" "parted" st_parted f_parted d_parted
  b_parted : Binds K d_parted ["number"] []
  f_parts : Addr
  d_parts : FuncData
  F_parts : Fun K "parts" "parts" st_parts f_parts d_parts
  b_parts : Binds K d_parts ["number"] []
  f_left : Addr
  d_left : FuncData
  F_left : Fun K "left" "left" st_left f_left d_left
  b_left : Binds K d_left ["number"] []
  f_Lstart : Addr
  d_Lstart : FuncData
  F_Lstart : Fun K "_law_start" "_law_start" st_Lstart f_Lstart d_Lstart
  b_Lstart : Binds K d_Lstart ["_law_script"] []
  f_Ldraw : Addr
  d_Ldraw : FuncData
  F_Ldraw : Fun K "_law_draw" "_law_draw" st_Ldraw f_Ldraw d_Ldraw
  b_Ldraw : Binds K d_Ldraw ["_law_d", "_law_many"] []
  f_Lpick : Addr
  d_Lpick : FuncData
  F_Lpick : Fun K "_law_pick" "_law_pick" st_Lpick f_Lpick d_Lpick
  b_Lpick : Binds K d_Lpick ["_law_d", "_law_some"] []
  f_Lprime : Addr
  d_Lprime : FuncData
  F_Lprime : Fun K "_law_prime" "_law_prime" st_Lprime f_Lprime d_Lprime
  b_Lprime : Binds K d_Lprime ["_law_d"] []
  f_Lsaid : Addr
  d_Lsaid : FuncData
  F_Lsaid : Fun K "_law_said" "_law_said" st_Lsaid f_Lsaid d_Lsaid
  b_Lsaid : Binds K d_Lsaid ["_law_call"] []
  f_Lsmall : Addr
  d_Lsmall : FuncData
  F_Lsmall : Fun K "_law_small" "_law_small" st_Lsmall f_Lsmall d_Lsmall
  b_Lsmall : Binds K d_Lsmall [] []
  f_Lparted : Addr
  d_Lparted : FuncData
  F_Lparted : Fun K "_law_parted" "_law_parted" st_Lparted f_Lparted d_Lparted
  b_Lparted : Binds K d_Lparted ["_law_small_here", "_law_it"] []
  f_Lpower : Addr
  d_Lpower : FuncData
  F_Lpower : Fun K "_law_power" "_law_power" st_Lpower f_Lpower d_Lpower
  b_Lpower : Binds K d_Lpower ["_law_base", "_law_many"] []
  f_Lnumber : Addr
  d_Lnumber : FuncData
  F_Lnumber : Fun K "_law_number" "_law_number" st_Lnumber f_Lnumber d_Lnumber
  b_Lnumber : Binds K d_Lnumber ["_law_d", "_law_small_here"] []
  f_law : Addr
  d_law : FuncData
  F_law : Fun K "law" "law" st_law f_law d_law
  b_law : Binds K d_law ["_law_script"] []
  cc_law : Addr
  cP_law : Addr
  cE_law : d_law.code = .ref cc_law
  g_is_number : mg "is_number" = some (.ref f_is_number)
  g_need_parted : mg "need_parted" = some (.ref f_need_parted)
  g_parted : mg "parted" = some (.ref f_parted)
  g_Ldraw : mg "_law_draw" = some (.ref f_Ldraw)
  g_Lpick : mg "_law_pick" = some (.ref f_Lpick)
  g_Lprime : mg "_law_prime" = some (.ref f_Lprime)
  g_Lpower : mg "_law_power" = some (.ref f_Lpower)
  g_Lsmall : mg "_law_small" = some (.ref f_Lsmall)
  g_Lstart : mg "_law_start" = some (.ref f_Lstart)
  g_Lnumber : mg "_law_number" = some (.ref f_Lnumber)
  g_Lparted : mg "_law_parted" = some (.ref f_Lparted)
  g_parts : mg "parts" = some (.ref f_parts)
  g_left : mg "left" = some (.ref f_left)
  g_Lsaid : mg "_law_said" = some (.ref f_Lsaid)
  g_law : mg "law" = some (.ref f_law)
  n_int : mg "int" = none
  n_isinstance : mg "isinstance" = none
  n_bool : mg "bool" = none
  n_abs : mg "abs" = none
  n_len : mg "len" = none
  n_ValueError : mg "ValueError" = none
  n_range : mg "range" = none
  n_min : mg "min" = none
  n_repr : mg "repr" = none
  e_GREATEST : ∃ t, mg "GREATEST" = some (Value.int 2000 t)
  e_LEAST : ∃ t, mg "LEAST" = some (Value.int 2 t)
  A_Refused : Addr
  nm_Refused : NmC K "Refused" A_Refused
  gc_Refused : mg "Refused" = some (.ref A_Refused)
  A_Barred : Addr
  nm_Barred : NmC K "Barred" A_Barred
  gc_Barred : mg "Barred" = some (.ref A_Barred)
  A_BadFraction : Addr
  nm_BadFraction : NmC K "BadFraction" A_BadFraction
  gc_BadFraction : mg "BadFraction" = some (.ref A_BadFraction)
  A_BadNumber : Addr
  nm_BadNumber : NmC K "BadNumber" A_BadNumber
  gc_BadNumber : mg "BadNumber" = some (.ref A_BadNumber)
  A_BadPrime : Addr
  nm_BadPrime : NmC K "BadPrime" A_BadPrime
  gc_BadPrime : mg "BadPrime" = some (.ref A_BadPrime)
  fi_BadNumber : Addr
  di_BadNumber : FuncData
  x_BadNumber : XKl K "BadNumber" "why" "why" "BadNumber.__init__" A_BadNumber fi_BadNumber sti_BadNumber di_BadNumber
  ct_Refused_Barred : ∀ c A, cat_Refused_Barred c = true → NmC K c A → PySem.W.exmAny K (.ref A) [.ref A_Refused, .ref A_Barred] = some true
  xt : XTab K (subT tabS) (subB tabB)
  dig : Dig K
theorem bt_int : bootBuiltins "int" = some (.type "int") := by decide +kernel
theorem bt_isinstance : bootBuiltins "isinstance" = some (.builtin "isinstance") := by decide +kernel
theorem bt_bool : bootBuiltins "bool" = some (.type "bool") := by decide +kernel
theorem bt_abs : bootBuiltins "abs" = some (.builtin "abs") := by decide +kernel
theorem bt_len : bootBuiltins "len" = some (.builtin "len") := by decide +kernel
theorem bt_ValueError : bootBuiltins "ValueError" = some (.type "ValueError") := by decide +kernel
theorem bt_min : bootBuiltins "min" = some (.builtin "min") := by decide +kernel
theorem bt_repr : bootBuiltins "repr" = some (.builtin "repr") := by decide +kernel
structure TxtC (C : Cf) extends Txt C.K C.mg where
  hX : C.ex = fun _ => True
  tB_law : LamX.TabB C.base C.mg cc_law cP_law
  tM_law : (cP_law, ((("law" : Str) ++ ".<locals>.") ++ "<lambda>")) ∈ C.tb
  tU_law : ∀ p ∈ C.tb, p.1 = cP_law → p.2 = ((("law" : Str) ++ ".<locals>.") ++ "<lambda>")
theorem TxtC.uses {C : Cf} {p : Prop} (T : TxtC C) (h : TxtC C → p) : p := h T
def TxtC.lamb {C : Cf} (T : TxtC C) : TxtC C.lamb := ⟨T.toTxt, rfl, T.tB_law, T.tM_law, T.tU_law⟩
def TxtC.noq {C : Cf} (T : TxtC C) : TxtC C.noq := ⟨T.toTxt, T.hX, T.tB_law, T.tM_law, T.tU_law⟩
def TxtC.cqd {C : Cf} (T : TxtC C) (v : Value) (q : Str) : TxtC (C.cqd v q) := ⟨T.toTxt, T.hX, T.tB_law, T.tM_law, T.tU_law⟩
/-! ### each def does it -/
section
variable {C : Cf}
theorem Txt.k_GREATEST {sc : Scope} {N : List Str} {k : Nat} {pos : Pos} (T : Txt C.K C.mg) (hg : GlS sc "GREATEST" := by rfl) : SE C sc N k (.Name "GREATEST" pos) (cE c_GREATEST) := by
  obtain ⟨t, h⟩ := T.e_GREATEST
  exact s_glob h (v := .int _) ⟨t, rfl⟩ (fun F H => PV.int _) hg
theorem Txt.k_LEAST {sc : Scope} {N : List Str} {k : Nat} {pos : Pos} (T : Txt C.K C.mg) (hg : GlS sc "LEAST" := by rfl) : SE C sc N k (.Name "LEAST" pos) (cE c_LEAST) := by
  obtain ⟨t, h⟩ := T.e_LEAST
  exact s_glob h (v := .int _) ⟨t, rfl⟩ (fun F H => PV.int _) hg
theorem Txt.i_BadNumber (T : Txt C.K C.mg) : FnOk C.pg C.w C.K C.mg C.base CX0 1 T.fi_BadNumber T.di_BadNumber ["self", "why"] (spI "why" T.A_BadNumber) := init_ok (k := 0) T.x_BadNumber sci_BadNumber rfl (Or.inl rfl) (Or.inl rfl) (by decide) (by decide) (fun _ => rfl)
theorem Txt.w_left_0 (T : Txt C.K C.mg) : KwB C T.d_left ["number"] 0 ["number"] gw_left_0 := kwB_mk T.F_left gw_left_0
  (fun a c h1 h2 => match a, h1, c, h2 with | [], _, [_], _ => rfl)
  (fun h1 h2 l1 l2 => by
    obtain ⟨rfl, rfl⟩ := kw_nil h1 l1
    rcases kw_cons h2 l2 with ⟨_, _, _, _, rfl, rfl, hz0, h2, l2⟩
    obtain ⟨rfl, rfl⟩ := kw_nil h2 l2
    exact .cons hz0 (.nil))
  (fun _ _ _ _ _ _ us ws h1 h2 => match us, h1, ws, h2 with | [], _, [_], _ => rfl)
theorem Txt.w_parts_0 (T : Txt C.K C.mg) : KwB C T.d_parts ["number"] 0 ["number"] gw_parts_0 := kwB_mk T.F_parts gw_parts_0
  (fun a c h1 h2 => match a, h1, c, h2 with | [], _, [_], _ => rfl)
  (fun h1 h2 l1 l2 => by
    obtain ⟨rfl, rfl⟩ := kw_nil h1 l1
    rcases kw_cons h2 l2 with ⟨_, _, _, _, rfl, rfl, hz0, h2, l2⟩
    obtain ⟨rfl, rfl⟩ := kw_nil h2 l2
    exact .cons hz0 (.nil))
  (fun _ _ _ _ _ _ us ws h1 h2 => match us, h1, ws, h2 with | [], _, [_], _ => rfl)
theorem ok_is_number (T : TxtC C) : Fn C 1 T.f_is_number T.d_is_number ["thing"] (spM C 1 m_is_number) :=
  Fn.noq (fn_body (C := C.noq) (k := 0) (FunA.of T.F_is_number) sc_is_number (TxtC.uses T.noq fun T => show SB C.noq (defScope st_is_number) N_is_number 0 (defBody st_is_number) B_is_number from
    (b_one (x_ret ((s_and ((s_bf c_isi T.n_isinstance bt_isinstance (a_cons (s_v 0) (a_cons ((s_bty T.n_int bt_int)) (a_nil))))) (s_one ((s_not ((s_bf c_isi T.n_isinstance bt_isinstance (a_cons (s_v 0) (a_cons ((s_bty T.n_bool bt_bool)) (a_nil))))))))))))) T.hX (fun v q h => nomatch h))
theorem okX_need_parted (T : TxtC C) : FnX C 3 T.f_need_parted T.d_need_parted ["number"] (spX C 1 m_need_parted) :=
  FnX.noq (fnX_body (C := C.noq) (k := 2) (FunA.of T.F_need_parted) sc_need_parted (TxtC.uses T.noq fun T => show SBX C.noq (defScope st_need_parted) N_need_parted 2 (defBody st_need_parted) B_need_parted from
    (bx_one (xx_if (tx_lift (t_w (w_or ((t_not (t_val ((s_call (ok_is_number T) (by decide) T.g_is_number T.F_is_number.kp T.b_is_number (a_cons (s_v 0) (a_nil))))))) (w_or1 ((t_cmp (o_eq) (s_v 0) (s_int))))))) (bx_one (xx_raise T.x_BadNumber T.i_BadNumber (by decide) T.gc_BadNumber s_str)) bx_nil))) T.hX (fun v q h => nomatch h))
theorem ok_need_parted (T : TxtC C) : Fn C 3 T.f_need_parted T.d_need_parted ["number"] (spM C 1 m_need_parted) := (okX_need_parted T).fn
theorem ok_parted (T : TxtC C) : Fn C 1 T.f_parted T.d_parted ["number"] (spM C 1 m_parted) :=
  Fn.noq (fn_body (C := C.noq) (k := 0) (FunA.of T.F_parted) sc_parted (TxtC.uses T.noq fun T => show SB C.noq (defScope st_parted) N_parted 0 (defBody st_parted) B_parted from
    (b_cons (x_par3 1 2 3 (a_cons ((s_bf c_abs T.n_abs bt_abs (a_cons (s_v 0) (a_nil)))) (a_cons ((s_lso (a_nil))) (a_cons (T.k_LEAST) (a_nil)))) (hw := by intro env h; cases env; cases h; rfl)) (b_cons (x_while (t_w (w_and ((t_cmp (o_ne) (s_v 1) (s_int))) (w_and1 ((t_cmp (o_le) (s_v 3) (T.k_GREATEST)))))) (b_cons (x_asg (s_int) (g_name 4)) (b_cons (x_while (t_cmp (o_eq) ((s_bin (o_mod) (s_v 1) (s_v 3))) (s_int)) (b_one (x_par 1 4 (a_cons ((s_bin (o_div) (s_v 1) (s_v 3))) (a_cons ((s_bin (o_add true) (s_v 4) (s_int))) (a_nil))) (hw := by intro env h; cases env; cases h; rfl)))) (b_cons (x_if (t_cmp (o_gt) (s_v 4) (s_int)) (b_one (x_exp ((s_met PySem.F.plainAttrs_list PySem.F.slot_list_append PySem.F.type_list_append m_app (s_v 2) (a_cons ((s_tup (a_cons (s_v 3) (a_cons (s_v 4) (a_nil))))) (a_nil)))))) b_nil) (b_one (x_aug 3 i_add ((s_if ((t_cmp (o_eq) (s_v 3) (T.k_LEAST))) (s_int) (s_int))))))))) (b_one (x_ret (s_tpl (a_cons (s_v 2) (a_cons (s_v 1) (a_nil))))))))) T.hX (fun v q h => nomatch h))
theorem okX_parts (T : TxtC C) : FnX C 4 T.f_parts T.d_parts ["number"] (spX C 1 m_parts) :=
  FnX.noq (fnX_body (C := C.noq) (k := 3) (FunA.of T.F_parts) sc_parts (TxtC.uses T.noq fun T => show SBX C.noq (defScope st_parts) N_parts 3 (defBody st_parts) B_parts from
    (bx_cons (xx_exp (ex_call (okX_need_parted T) (by decide) T.g_need_parted T.F_need_parted.kp T.b_need_parted (ax_cons (ex_lift (s_v 0)) ax_nil))) (bx_cons (xx_lift (x_utp (n := 2) (s_call (ok_parted T) (by decide) T.g_parted T.F_parted.kp T.b_parted (a_cons (s_v 0) (a_nil))) (gd_cons (g_name 1) (gd_cons (g_name 2) gd_nil)))) (bx_one (xx_lift (x_ret (s_v 1))))))) T.hX (fun v q h => nomatch h))
theorem ok_parts (T : TxtC C) : Fn C 4 T.f_parts T.d_parts ["number"] (spM C 1 m_parts) := (okX_parts T).fn
theorem okX_left (T : TxtC C) : FnX C 4 T.f_left T.d_left ["number"] (spX C 1 m_left) :=
  FnX.noq (fnX_body (C := C.noq) (k := 3) (FunA.of T.F_left) sc_left (TxtC.uses T.noq fun T => show SBX C.noq (defScope st_left) N_left 3 (defBody st_left) B_left from
    (bx_cons (xx_exp (ex_call (okX_need_parted T) (by decide) T.g_need_parted T.F_need_parted.kp T.b_need_parted (ax_cons (ex_lift (s_v 0)) ax_nil))) (bx_cons (xx_lift (x_utp (n := 2) (s_call (ok_parted T) (by decide) T.g_parted T.F_parted.kp T.b_parted (a_cons (s_v 0) (a_nil))) (gd_cons (g_name 1) (gd_cons (g_name 2) gd_nil)))) (bx_one (xx_lift (x_ret (s_v 2))))))) T.hX (fun v q h => nomatch h))
theorem ok_left (T : TxtC C) : Fn C 4 T.f_left T.d_left ["number"] (spM C 1 m_left) := (okX_left T).fn
theorem ok_Lstart (T : TxtC C) : Fn C 1 T.f_Lstart T.d_Lstart ["_law_script"] (spM C 1 m_Lstart) :=
  Fn.noq (fn_body (C := C.noq) (k := 0) (FunA.of T.F_Lstart) sc_Lstart (TxtC.uses T.noq fun T => show SB C.noq (defScope st_Lstart) N_Lstart 0 (defBody st_Lstart) B_Lstart from
    (b_one (x_ret ((s_dic (p_cons ((s_bin (o_add false) (s_v 0) ((s_lst (a_cons ((s_bf c_len T.n_len bt_len (a_cons (s_v 0) (a_nil)))) (a_nil)))))) (p_cons (s_int) (p_cons (s_int) (p_cons (s_int) p_nil))))))))) T.hX (fun v q h => nomatch h))
theorem ok_Ldraw (T : TxtC C) : Fn C 1 T.f_Ldraw T.d_Ldraw ["_law_d", "_law_many"] (spM C 2 m_Ldraw) :=
  Fn.noq (fn_body (C := C.noq) (k := 0) (FunA.of T.F_Ldraw) sc_Ldraw (TxtC.uses T.noq fun T => show SB C.noq (defScope st_Ldraw) N_Ldraw 0 (defBody st_Ldraw) B_Ldraw from
    (b_cons (x_if (t_cmp (o_gt) ((s_dget (s_v 0) (s_str))) (s_int)) (b_cons (x_asg ((s_bin (o_mod) ((s_dget (s_v 0) (s_str))) (s_v 1))) (g_name 2)) (b_cons (x_dput (s_v 0) (s_str) ((s_bin (o_div) ((s_dget (s_v 0) (s_str))) (s_v 1)))) (b_one (x_ret (s_v 2))))) b_nil) (b_cons (x_asg ((s_dget (s_v 0) (s_str))) (g_name 3)) (b_cons (x_par 4 5 (a_cons ((s_ix (s_v 3) ((s_bin (o_mod) ((s_dget (s_v 0) (s_str))) ((s_bf c_len T.n_len bt_len (a_cons (s_v 3) (a_nil)))))))) (a_cons ((s_bin (o_add true) ((s_dget (s_v 0) (s_str))) (s_int))) (a_nil))) (hw := by intro env h; cases env; cases h; rfl)) (b_cons (x_dput (s_v 0) (s_str) ((s_bin (o_add true) ((s_dget (s_v 0) (s_str))) (s_int)))) (b_cons (x_if (t_w (w_and ((t_cmp (o_ge) (s_v 4) ((s_bin (o_pow) (s_int) (s_int))))) (w_and1 ((t_cmp (o_le) ((s_dget (s_v 0) (s_str))) ((s_bf c_len T.n_len bt_len (a_cons (s_v 3) (a_nil))))))))) (b_cons (x_dput (s_v 0) (s_str) ((s_bin (o_div) (s_v 4) (s_v 1)))) (b_one (x_ret ((s_bin (o_mod) (s_v 4) (s_v 1)))))) b_nil) (b_cons (x_dput (s_v 0) (s_str) (s_v 5)) (b_cons (x_asg ((s_bin (o_mod) ((s_bin (o_add true) ((s_bin (o_add true) ((s_bin (o_mod) (s_v 4) (s_int))) ((s_bin (o_mul true) ((s_bin (o_mul true) (s_int) (s_v 5))) (s_v 5))))) ((s_bin (o_mul true) (s_int) ((s_dget (s_v 0) (s_str))))))) (s_int))) (g_name 6)) (b_cons (x_asg ((s_bin (o_mod) ((s_bin (o_mul true) ((s_bin (o_mod) ((s_bin (o_mul true) (s_v 6) (s_v 6))) (s_int))) ((s_bin (o_add true) (s_v 6) (s_int))))) (s_int))) (g_name 6)) (b_one (x_ret ((s_bin (o_mod) ((s_bin (o_div) ((s_bin (o_mod) ((s_bin (o_add true) ((s_bin (o_mul true) (s_v 6) (s_int))) (s_v 5))) (s_int))) (s_int))) (s_v 1)))))))))))))) T.hX (fun v q h => nomatch h))
theorem ok_Lpick (T : TxtC C) : Fn C 2 T.f_Lpick T.d_Lpick ["_law_d", "_law_some"] (spM C 2 m_Lpick) :=
  Fn.noq (fn_body (C := C.noq) (k := 1) (FunA.of T.F_Lpick) sc_Lpick (TxtC.uses T.noq fun T => show SB C.noq (defScope st_Lpick) N_Lpick 1 (defBody st_Lpick) B_Lpick from
    (b_one (x_ret ((s_ix (s_v 1) ((s_call (ok_Ldraw T) (by decide) T.g_Ldraw T.F_Ldraw.kp T.b_Ldraw (a_cons (s_v 0) (a_cons ((s_bf c_len T.n_len bt_len (a_cons (s_v 1) (a_nil)))) (a_nil)))))))))) T.hX (fun v q h => nomatch h))
theorem ok_Lprime (T : TxtC C) : Fn C 2 T.f_Lprime T.d_Lprime ["_law_d"] (spM C 1 m_Lprime) :=
  Fn.noq (fn_body (C := C.noq) (k := 1) (FunA.of T.F_Lprime) sc_Lprime (TxtC.uses T.noq fun T => show SB C.noq (defScope st_Lprime) N_Lprime 1 (defBody st_Lprime) B_Lprime from
    (b_one (x_ret ((s_ix ((s_lst (a_cons (s_int) (a_cons (s_int) (a_cons (s_int) (a_cons (s_int) (a_cons (s_int) (a_cons (s_int) (a_cons (s_int) (a_cons (s_int) (a_cons (s_int) (a_cons (s_int) (a_cons (s_int) (a_cons (s_int) (a_cons (s_int) (a_cons (s_int) (a_cons (s_int) (a_nil)))))))))))))))))) ((s_call (ok_Ldraw T) (by decide) T.g_Ldraw T.F_Ldraw.kp T.b_Ldraw (a_cons (s_v 0) (a_cons (s_int) (a_nil)))))))))) T.hX (fun v q h => nomatch h))
theorem sB_Lsaid (T : TxtC C) (k : Nat) : SaidB C "_law_call" (defScope st_Lsaid) N_Lsaid (k + 1) (defBody st_Lsaid) B_Lsaid := fun I f c qn tl q up hq => (show SBI I (C.said fun X => ActP "_law_call" f c qn tl X) (defScope st_Lsaid) N_Lsaid (k + 1) (defBody st_Lsaid) (B_Lsaid f c qn q) from
    (bi_cons up (ii_lift (x_par 1 2 (a_cons (s_non) (a_cons ((s_lso (a_nil))) (a_nil))) (hw := by intro env h; cases env; cases h; rfl))) (bi_cons up (x_try cat_Refused_Barred 3 1 (si_exp (ei_met up PySem.F.plainAttrs_list PySem.F.slot_list_append PySem.F.type_list_append m_app (s_v 2) (ei_act (fun _ h => h) hq))) T.gc_Refused T.gc_Barred T.ct_Refused_Barred) (bi_lift (b_cons (x_if (t_cmp (o_is) (s_v 1) (s_non)) (b_one (x_ret ((s_frz (s_v 2))))) b_nil) (b_cons (x_asg ((s_lst (a_cons ((s_tup (a_cons (s_str) (a_cons ((s_bf (c_isx T.xt) T.n_isinstance bt_isinstance (a_cons (s_v 1) (a_cons ((s_cls T.gc_BadFraction T.nm_BadFraction)) (a_nil))))) (a_nil))))) (a_cons ((s_tup (a_cons (s_str) (a_cons ((s_bf (c_isx T.xt) T.n_isinstance bt_isinstance (a_cons (s_v 1) (a_cons ((s_cls T.gc_BadPrime T.nm_BadPrime)) (a_nil))))) (a_nil))))) (a_nil))))) (g_name 4)) (b_cons (x_lc 5 true [("_law_word", 6), ("_law_is_it", 7)] (i_row ((s_bin (o_add true) (s_v 4) ((s_lst (a_cons ((s_tup (a_cons (s_str) (a_cons ((s_bf (c_isx T.xt) T.n_isinstance bt_isinstance (a_cons (s_v 1) (a_cons ((s_cls T.gc_BadNumber T.nm_BadNumber)) (a_nil))))) (a_nil))))) (a_nil))))))) (g_tup (n := 2) (gs_cons (g_name 6) (gs_cons (g_name 7) gs_nil))) (c_if (t_val (s_v 7))) (s_v 6)) (b_one (x_ret ((s_if ((t_w (w_and ((t_cmp (o_eq) ((s_bf c_len T.n_len bt_len (a_cons (s_v 5) (a_nil)))) (s_int))) (w_and1 ((t_val ((s_bf (c_isx T.xt) T.n_isinstance bt_isinstance (a_cons (s_v 1) (a_cons ((s_bty T.n_ValueError bt_ValueError)) (a_nil))))))))))) ((s_ix (s_v 5) (s_int))) (s_str))))))))))))
theorem ok_Lsmall (T : TxtC C) : Fn C 1 T.f_Lsmall T.d_Lsmall [] (spM C 0 m_Lsmall) :=
  Fn.noq (fn_body (C := C.noq) (k := 0) (FunA.of T.F_Lsmall) sc_Lsmall (TxtC.uses T.noq fun T => show SB C.noq (defScope st_Lsmall) N_Lsmall 0 (defBody st_Lsmall) B_Lsmall from
    (b_cons (x_asg ((s_bin (o_mul false) ((s_lst (a_cons (s_bl) (a_nil)))) (s_int))) (g_name 0)) (b_cons (x_for (i_r2 (a_cons (s_int) (a_cons (s_int) (a_nil))) T.n_range) (g_name 1) (b_one (x_for (i_r3 (a_cons ((s_bin (o_mul true) (s_v 1) (s_v 1))) (a_cons (s_int) (a_cons (s_v 1) (a_nil)))) T.n_range) (g_name 2) (b_one (x_lput (s_v 0) (s_v 2) (s_bl)))))) (b_one (x_ret ((s_lc true [("_law_it", 2)] (i_r2 (a_cons (s_int) (a_cons (s_int) (a_nil))) T.n_range) (g_name 2) (c_if (t_not (t_val ((s_ix (s_v 0) (s_v 2)))))) (s_v 2)))))))) T.hX (fun v q h => nomatch h))
theorem ok_Lparted (T : TxtC C) : Fn C 1 T.f_Lparted T.d_Lparted ["_law_small_here", "_law_it"] (spM C 2 m_Lparted) :=
  Fn.noq (fn_body (C := C.noq) (k := 0) (FunA.of T.F_Lparted) sc_Lparted (TxtC.uses T.noq fun T => show SB C.noq (defScope st_Lparted) N_Lparted 0 (defBody st_Lparted) B_Lparted from
    (b_cons (x_par 2 3 (a_cons ((s_if ((t_cmp (o_lt) (s_v 1) (s_int))) ((s_bin (o_sub) (s_int) (s_v 1))) (s_v 1))) (a_cons ((s_lst (a_nil))) (a_nil))) (hw := by intro env h; cases env; cases h; rfl)) (b_cons (x_for (i_row (s_v 0)) (g_name 4) (b_cons (x_asg (s_int) (g_name 5)) (b_cons (x_while (t_cmp (o_eq) ((s_bin (o_mod) (s_v 2) (s_v 4))) (s_int)) (b_one (x_par 2 5 (a_cons ((s_bin (o_div) (s_v 2) (s_v 4))) (a_cons ((s_bin (o_add true) (s_v 5) (s_int))) (a_nil))) (hw := by intro env h; cases env; cases h; rfl)))) (b_one (x_asg ((s_bin (o_add true) (s_v 3) ((s_bin (o_mul true) ((s_lst (a_cons ((s_tup (a_cons (s_v 4) (a_cons (s_v 5) (a_nil))))) (a_nil)))) ((s_bt c_int T.n_int bt_int (a_cons ((s_cmp (o_gt) (s_v 5) (s_int))) (a_nil)))))))) (g_name 3)))))) (b_one (x_ret ((s_tup (a_cons (s_v 3) (a_cons (s_v 2) (a_nil)))))))))) T.hX (fun v q h => nomatch h))
theorem ok_Lpower (T : TxtC C) : Fn C 1 T.f_Lpower T.d_Lpower ["_law_base", "_law_many"] (spM C 2 m_Lpower) :=
  Fn.noq (fn_body (C := C.noq) (k := 0) (FunA.of T.F_Lpower) sc_Lpower (TxtC.uses T.noq fun T => show SB C.noq (defScope st_Lpower) N_Lpower 0 (defBody st_Lpower) B_Lpower from
    (b_cons (x_asg (s_int) (g_name 2)) (b_cons (x_for (i_r1 (a_cons (s_v 1) (a_nil)) T.n_range) (g_name 3) (b_one (x_asg ((s_bin (o_mul true) (s_v 2) (s_v 0))) (g_name 2)))) (b_one (x_ret (s_v 2)))))) T.hX (fun v q h => nomatch h))
theorem ok_Lnumber (T : TxtC C) : Fn C 3 T.f_Lnumber T.d_Lnumber ["_law_d", "_law_small_here"] (spM C 2 m_Lnumber) :=
  Fn.noq (fn_body (C := C.noq) (k := 2) (FunA.of T.F_Lnumber) sc_Lnumber (TxtC.uses T.noq fun T => show SB C.noq (defScope st_Lnumber) N_Lnumber 2 (defBody st_Lnumber) B_Lnumber from
    (b_cons (x_asg ((s_ix ((s_lst (a_cons (s_int) (a_cons ((s_neg (s_int))) (a_nil))))) ((s_call (ok_Ldraw T) (by decide) T.g_Ldraw T.F_Ldraw.kp T.b_Ldraw (a_cons (s_v 0) (a_cons (s_int) (a_nil))))))) (g_name 2)) (b_cons (x_for (i_r1 (a_cons ((s_call (ok_Ldraw T) (by decide) T.g_Ldraw T.F_Ldraw.kp T.b_Ldraw (a_cons (s_v 0) (a_cons (s_int) (a_nil))))) (a_nil)) T.n_range) (g_name 3) (b_one (x_asg ((s_bin (o_mul true) (s_v 2) ((s_call (ok_Lpower T) (by decide) T.g_Lpower T.F_Lpower.kp T.b_Lpower (a_cons ((s_call (ok_Lpick T) (by decide) T.g_Lpick T.F_Lpick.kp T.b_Lpick (a_cons (s_v 0) (a_cons ((s_lst (a_cons ((s_call (ok_Lprime T) (by decide) T.g_Lprime T.F_Lprime.kp T.b_Lprime (a_cons (s_v 0) (a_nil)))) (a_cons ((s_call (ok_Lpick T) (by decide) T.g_Lpick T.F_Lpick.kp T.b_Lpick (a_cons (s_v 0) (a_cons (s_v 1) (a_nil))))) (a_nil))))) (a_nil))))) (a_cons ((s_bin (o_add true) (s_int) ((s_call (ok_Ldraw T) (by decide) T.g_Ldraw T.F_Ldraw.kp T.b_Ldraw (a_cons (s_v 0) (a_cons (s_int) (a_nil))))))) (a_nil))))))) (g_name 2)))) (b_one (x_ret ((s_bin (o_mul true) (s_v 2) ((s_ix ((s_lst (a_cons (s_int) (a_cons (s_int) (a_cons (s_int) (a_cons ((s_bin (o_mul true) (s_int) (s_int))) (a_cons ((s_bin (o_add true) (s_int) ((s_call (ok_Ldraw T) (by decide) T.g_Ldraw T.F_Ldraw.kp T.b_Ldraw (a_cons (s_v 0) (a_cons ((s_bin (o_pow) (s_int) (s_int))) (a_nil))))))) (a_nil)))))))) ((s_call (ok_Ldraw T) (by decide) T.g_Ldraw T.F_Ldraw.kp T.b_Ldraw (a_cons (s_v 0) (a_cons (s_int) (a_nil)))))))))))))) T.hX (fun v q h => nomatch h))
theorem useM_law {p : Cf → Prop} (T : TxtC C) (h : ∀ (v : Value) (T : TxtC (C.cqd v (("law" : Str) ++ ".<locals>."))), v = .ref T.cc_law → p (C.cqd v (("law" : Str) ++ ".<locals>."))) : p (C.cqd (.ref T.cc_law) (("law" : Str) ++ ".<locals>.")) := h _ (T.cqd _ _) rfl
theorem ok_law (T : TxtC C) (hrg : C.rg = true) : Fn C 7 T.f_law T.d_law ["_law_script"] (spM C 1 m_law) :=
  Fn.cqd (v := .ref T.cc_law) (q := (("law" : Str) ++ ".<locals>.")) (fn_body (C := C.cqd (.ref T.cc_law) (("law" : Str) ++ ".<locals>.")) (k := 6) (FunA.of T.F_law) sc_law (useM_law (p := fun C => SB C (defScope st_law) N_law 6 (defBody st_law) B_law) T fun v T hv =>
    (b_cons (x_par 1 2 (a_cons ((s_call (ok_Lstart T) (by decide) T.g_Lstart T.F_Lstart.kp T.b_Lstart (a_cons (s_v 0) (a_nil)))) (a_cons ((s_call0 (ok_Lsmall T) (by decide) T.g_Lsmall T.F_Lsmall.kp T.b_Lsmall)) (a_nil))) (hw := by intro env h; cases env; cases h; rfl)) (b_cons (x_for (i_r1 (a_cons ((s_bin (o_add true) (s_int) ((s_bf c_min T.n_min bt_min (a_cons (s_int) (a_cons ((s_bf c_len T.n_len bt_len (a_cons (s_v 0) (a_nil)))) (a_nil))))))) (a_nil)) T.n_range) (g_name 3) (b_cons (x_asg ((s_call (ok_Lnumber T) (by decide) T.g_Lnumber T.F_Lnumber.kp T.b_Lnumber (a_cons (s_v 1) (a_cons (s_v 2) (a_nil))))) (g_name 4)) (b_cons (x_asg ((s_call (ok_Lparted T) (by decide) T.g_Lparted T.F_Lparted.kp T.b_Lparted (a_cons (s_v 2) (a_cons (s_v 4) (a_nil))))) (g_tup (n := 2) (gs_cons (g_name 5) (gs_cons (g_name 6) gs_nil)))) (b_cons (x_asg ((s_call (ok_parts T) (by decide) T.g_parts T.F_parts.kp T.b_parts (a_cons (s_v 4) (a_nil)))) (g_name 7)) (b_cons (x_if (t_w (w_or ((t_cmp (o_ne) ((s_bf (c_shw hrg T.dig) T.n_repr bt_repr (a_cons (s_v 7) (a_nil)))) ((s_bf (c_shw hrg T.dig) T.n_repr bt_repr (a_cons (s_v 5) (a_nil)))))) (w_or ((t_cmp (o_ne) ((s_bf (c_shw hrg T.dig) T.n_repr bt_repr (a_cons ((s_call (ok_left T) (by decide) T.g_left T.F_left.kp T.b_left (a_cons (s_v 4) (a_nil)))) (a_nil)))) ((s_bf (c_shw hrg T.dig) T.n_repr bt_repr (a_cons (s_v 6) (a_nil)))))) (w_or1 ((t_cmp (o_ne) ((s_bf (c_shw hrg T.dig) T.n_repr bt_repr (a_cons ((s_kw0 (ok_left T) (by decide) T.g_left T.F_left.kp T.w_left_0 (k_cons (s_v 4) k_nil))) (a_nil)))) ((s_bf (c_shw hrg T.dig) T.n_repr bt_repr (a_cons (s_v 6) (a_nil)))))))))) (b_one (x_ret (s_bl))) b_nil) (b_cons (x_exp ((s_met PySem.F.plainAttrs_list PySem.F.slot_list_append PySem.F.type_list_append m_app (s_v 7) (a_cons (s_str) (a_nil))))) (b_cons (x_if (t_cmp (o_ne) ((s_bf (c_shw hrg T.dig) T.n_repr bt_repr (a_cons ((s_kw0 (ok_parts T) (by decide) T.g_parts T.F_parts.kp T.w_parts_0 (k_cons (s_v 4) k_nil))) (a_nil)))) ((s_bf (c_shw hrg T.dig) T.n_repr bt_repr (a_cons (s_v 5) (a_nil))))) (b_one (x_ret (s_bl))) b_nil) (b_cons (x_asg ((s_call (ok_Lpick T) (by decide) T.g_Lpick T.F_Lpick.kp T.b_Lpick (a_cons (s_v 1) (a_cons ((s_lst (a_cons (s_int) (a_cons (s_non) (a_cons (s_bl) (a_cons (s_bl) (a_cons (s_str) (a_cons ((s_tup (a_cons (s_int) (a_cons (s_int) (a_nil))))) (a_cons ((s_lst (a_cons (s_int) (a_nil)))) (a_cons ((s_tup (a_cons (s_int) (a_cons (s_int) (a_nil))))) (a_cons (s_emp) (a_nil)))))))))))) (a_nil))))) (g_name 8)) (b_cons (x_asg ((s_lso (a_cons ((s_said (k := 4) T.F_Lsaid sc_Lsaid T.b_Lsaid (sB_Lsaid T _) T.g_Lsaid (cq_of hv) T.tB_law T.tM_law T.tU_law (by decide) (TxtC.uses T.lamb fun T => (ex_call (okX_parts T) (by decide) T.g_parts T.F_parts.kp T.b_parts (ax_cons (ex_lift (s_v 8)) ax_nil))) (LamX.lamS_by (by decide +kernel)))) (a_nil)))) (g_name 7)) (b_cons (x_exp ((s_met PySem.F.plainAttrs_list PySem.F.slot_list_append PySem.F.type_list_append m_app (s_v 7) (a_cons ((s_said (k := 4) T.F_Lsaid sc_Lsaid T.b_Lsaid (sB_Lsaid T _) T.g_Lsaid (cq_of hv) T.tB_law T.tM_law T.tU_law (by decide) (TxtC.uses T.lamb fun T => (ex_call (okX_left T) (by decide) T.g_left T.F_left.kp T.b_left (ax_cons (ex_lift (s_v 8)) ax_nil))) (LamX.lamS_by (by decide +kernel)))) (a_nil))))) (b_one (x_if (t_cmp (o_ne) (s_v 7) ((s_lst (a_cons (s_str) (a_cons (s_str) (a_nil)))))) (b_one (x_ret (s_bl))) b_nil)))))))))))) (b_one (x_ret ((s_cmp (o_eq) ((s_lst (a_cons ((s_frz ((s_call (ok_parts T) (by decide) T.g_parts T.F_parts.kp T.b_parts (a_cons (s_int) (a_nil)))))) (a_cons ((s_frz ((s_call (ok_parts T) (by decide) T.g_parts T.F_parts.kp T.b_parts (a_cons ((s_neg (s_int))) (a_nil)))))) (a_cons ((s_call (ok_left T) (by decide) T.g_left T.F_left.kp T.b_left (a_cons ((s_neg (s_int))) (a_nil)))) (a_cons ((s_frz ((s_call (ok_parts T) (by decide) T.g_parts T.F_parts.kp T.b_parts (a_cons ((s_neg (s_int))) (a_nil)))))) (a_cons ((s_call (ok_left T) (by decide) T.g_left T.F_left.kp T.b_left (a_cons (s_int) (a_nil)))) (a_nil)))))))) ((s_lst (a_cons ((s_lst (a_nil))) (a_cons ((s_lst (a_nil))) (a_cons (s_int) (a_cons ((s_lst (a_cons ((s_tup (a_cons (s_int) (a_cons (s_int) (a_nil))))) (a_cons ((s_tup (a_cons (s_int) (a_cons (s_int) (a_nil))))) (a_nil))))) (a_cons (s_int) (a_nil))))))))))))))) T.hX (fun v q h => by cases h; exact ⟨T.cE_law.symm, rfl⟩))
end
/-! ### the top in the heap -/
def mkT {K : PySem.W.Frag} {h : Heap} {mg : Str → Option Value} {ts : List Addr} (X : K.In h) (G : h.Ns mainGlobals mg)
    {f_is_number f_need_parted f_parted f_parts f_left f_Lstart f_Ldraw f_Lpick f_Lprime f_Lsaid f_Lsmall f_Lparted f_Lpower f_Lnumber f_law : Addr}
    {od0 an0 : Option Addr} {sl0 : Array (Option Value)} {oc0 kV0 dc0 pm0 cd0 ct0 : Value}
    (a0 : PySem.W.nsIn K mainGlobals "is_number" = some (some (.ref f_is_number))) (l0 : K.lookup f_is_number = some ⟨oc0, od0, .func (PySem.W.fnOf "is_number" "is_number" (defArgs st_is_number) (defBody st_is_number) (defScope st_is_number) .none kV0 dc0 pm0 an0 cd0 ct0), sl0⟩) (c0 : PySem.W.codeIn K cd0 "is_number" = true) (k0 : PySem.W.keepIn K (.ref f_is_number) = true)
    {od1 an1 : Option Addr} {sl1 : Array (Option Value)} {oc1 kV1 dc1 pm1 cd1 ct1 : Value}
    (a1 : PySem.W.nsIn K mainGlobals "need_parted" = some (some (.ref f_need_parted))) (l1 : K.lookup f_need_parted = some ⟨oc1, od1, .func (PySem.W.fnOf "need_parted" "need_parted" (defArgs st_need_parted) (defBody st_need_parted) (defScope st_need_parted) .none kV1 dc1 pm1 an1 cd1 ct1), sl1⟩) (c1 : PySem.W.codeIn K cd1 "need_parted" = true) (k1 : PySem.W.keepIn K (.ref f_need_parted) = true)
    {od2 an2 : Option Addr} {sl2 : Array (Option Value)} {oc2 kV2 dc2 pm2 cd2 ct2 : Value}
    (a2 : PySem.W.nsIn K mainGlobals "parted" = some (some (.ref f_parted))) (l2 : K.lookup f_parted = some ⟨oc2, od2, .func (PySem.W.fnOf "parted" "parted" (defArgs st_parted) (defBody st_parted) (defScope st_parted) .none kV2 dc2 pm2 an2 cd2 ct2), sl2⟩) (c2 : PySem.W.codeIn K cd2 "parted" = true) (k2 : PySem.W.keepIn K (.ref f_parted) = true)
    {od3 an3 : Option Addr} {sl3 : Array (Option Value)} {oc3 kV3 dc3 pm3 cd3 ct3 : Value}
    (a3 : PySem.W.nsIn K mainGlobals "parts" = some (some (.ref f_parts))) (l3 : K.lookup f_parts = some ⟨oc3, od3, .func (PySem.W.fnOf "parts" "parts" (defArgs st_parts) (defBody st_parts) (defScope st_parts) .none kV3 dc3 pm3 an3 cd3 ct3), sl3⟩) (c3 : PySem.W.codeIn K cd3 "parts" = true) (k3 : PySem.W.keepIn K (.ref f_parts) = true)
    {od4 an4 : Option Addr} {sl4 : Array (Option Value)} {oc4 kV4 dc4 pm4 cd4 ct4 : Value}
    (a4 : PySem.W.nsIn K mainGlobals "left" = some (some (.ref f_left))) (l4 : K.lookup f_left = some ⟨oc4, od4, .func (PySem.W.fnOf "left" "left" (defArgs st_left) (defBody st_left) (defScope st_left) .none kV4 dc4 pm4 an4 cd4 ct4), sl4⟩) (c4 : PySem.W.codeIn K cd4 "left" = true) (k4 : PySem.W.keepIn K (.ref f_left) = true)
    {od5 an5 : Option Addr} {sl5 : Array (Option Value)} {oc5 kV5 dc5 pm5 cd5 ct5 : Value}
    (a5 : PySem.W.nsIn K mainGlobals "_law_start" = some (some (.ref f_Lstart))) (l5 : K.lookup f_Lstart = some ⟨oc5, od5, .func (PySem.W.fnOf "_law_start" "_law_start" (defArgs st_Lstart) (defBody st_Lstart) (defScope st_Lstart) .none kV5 dc5 pm5 an5 cd5 ct5), sl5⟩) (c5 : PySem.W.codeIn K cd5 "_law_start" = true) (k5 : PySem.W.keepIn K (.ref f_Lstart) = true)
    {od6 an6 : Option Addr} {sl6 : Array (Option Value)} {oc6 kV6 dc6 pm6 cd6 ct6 : Value}
    (a6 : PySem.W.nsIn K mainGlobals "_law_draw" = some (some (.ref f_Ldraw))) (l6 : K.lookup f_Ldraw = some ⟨oc6, od6, .func (PySem.W.fnOf "_law_draw" "_law_draw" (defArgs st_Ldraw) (defBody st_Ldraw) (defScope st_Ldraw) .none kV6 dc6 pm6 an6 cd6 ct6), sl6⟩) (c6 : PySem.W.codeIn K cd6 "_law_draw" = true) (k6 : PySem.W.keepIn K (.ref f_Ldraw) = true)
    {od7 an7 : Option Addr} {sl7 : Array (Option Value)} {oc7 kV7 dc7 pm7 cd7 ct7 : Value}
    (a7 : PySem.W.nsIn K mainGlobals "_law_pick" = some (some (.ref f_Lpick))) (l7 : K.lookup f_Lpick = some ⟨oc7, od7, .func (PySem.W.fnOf "_law_pick" "_law_pick" (defArgs st_Lpick) (defBody st_Lpick) (defScope st_Lpick) .none kV7 dc7 pm7 an7 cd7 ct7), sl7⟩) (c7 : PySem.W.codeIn K cd7 "_law_pick" = true) (k7 : PySem.W.keepIn K (.ref f_Lpick) = true)
    {od8 an8 : Option Addr} {sl8 : Array (Option Value)} {oc8 kV8 dc8 pm8 cd8 ct8 : Value}
    (a8 : PySem.W.nsIn K mainGlobals "_law_prime" = some (some (.ref f_Lprime))) (l8 : K.lookup f_Lprime = some ⟨oc8, od8, .func (PySem.W.fnOf "_law_prime" "_law_prime" (defArgs st_Lprime) (defBody st_Lprime) (defScope st_Lprime) .none kV8 dc8 pm8 an8 cd8 ct8), sl8⟩) (c8 : PySem.W.codeIn K cd8 "_law_prime" = true) (k8 : PySem.W.keepIn K (.ref f_Lprime) = true)
    {od9 an9 : Option Addr} {sl9 : Array (Option Value)} {oc9 kV9 dc9 pm9 cd9 ct9 : Value}
    (a9 : PySem.W.nsIn K mainGlobals "_law_said" = some (some (.ref f_Lsaid))) (l9 : K.lookup f_Lsaid = some ⟨oc9, od9, .func (PySem.W.fnOf "_law_said" "_law_said" (defArgs st_Lsaid) (defBody st_Lsaid) (defScope st_Lsaid) .none kV9 dc9 pm9 an9 cd9 ct9), sl9⟩) (c9 : PySem.W.codeIn K cd9 "_law_said" = true) (k9 : PySem.W.keepIn K (.ref f_Lsaid) = true)
    {od10 an10 : Option Addr} {sl10 : Array (Option Value)} {oc10 kV10 dc10 pm10 cd10 ct10 : Value}
    (a10 : PySem.W.nsIn K mainGlobals "_law_small" = some (some (.ref f_Lsmall))) (l10 : K.lookup f_Lsmall = some ⟨oc10, od10, .func (PySem.W.fnOf "_law_small" "_law_small" (defArgs st_Lsmall) (defBody st_Lsmall) (defScope st_Lsmall) .none kV10 dc10 pm10 an10 cd10 ct10), sl10⟩) (c10 : PySem.W.codeIn K cd10 "_law_small" = true) (k10 : PySem.W.keepIn K (.ref f_Lsmall) = true)
    {od11 an11 : Option Addr} {sl11 : Array (Option Value)} {oc11 kV11 dc11 pm11 cd11 ct11 : Value}
    (a11 : PySem.W.nsIn K mainGlobals "_law_parted" = some (some (.ref f_Lparted))) (l11 : K.lookup f_Lparted = some ⟨oc11, od11, .func (PySem.W.fnOf "_law_parted" "_law_parted" (defArgs st_Lparted) (defBody st_Lparted) (defScope st_Lparted) .none kV11 dc11 pm11 an11 cd11 ct11), sl11⟩) (c11 : PySem.W.codeIn K cd11 "_law_parted" = true) (k11 : PySem.W.keepIn K (.ref f_Lparted) = true)
    {od12 an12 : Option Addr} {sl12 : Array (Option Value)} {oc12 kV12 dc12 pm12 cd12 ct12 : Value}
    (a12 : PySem.W.nsIn K mainGlobals "_law_power" = some (some (.ref f_Lpower))) (l12 : K.lookup f_Lpower = some ⟨oc12, od12, .func (PySem.W.fnOf "_law_power" "_law_power" (defArgs st_Lpower) (defBody st_Lpower) (defScope st_Lpower) .none kV12 dc12 pm12 an12 cd12 ct12), sl12⟩) (c12 : PySem.W.codeIn K cd12 "_law_power" = true) (k12 : PySem.W.keepIn K (.ref f_Lpower) = true)
    {od13 an13 : Option Addr} {sl13 : Array (Option Value)} {oc13 kV13 dc13 pm13 cd13 ct13 : Value}
    (a13 : PySem.W.nsIn K mainGlobals "_law_number" = some (some (.ref f_Lnumber))) (l13 : K.lookup f_Lnumber = some ⟨oc13, od13, .func (PySem.W.fnOf "_law_number" "_law_number" (defArgs st_Lnumber) (defBody st_Lnumber) (defScope st_Lnumber) .none kV13 dc13 pm13 an13 cd13 ct13), sl13⟩) (c13 : PySem.W.codeIn K cd13 "_law_number" = true) (k13 : PySem.W.keepIn K (.ref f_Lnumber) = true)
    {od14 an14 : Option Addr} {sl14 : Array (Option Value)} {oc14 kV14 dc14 pm14 cd14 ct14 : Value}
    (a14 : PySem.W.nsIn K mainGlobals "law" = some (some (.ref f_law))) (l14 : K.lookup f_law = some ⟨oc14, od14, .func (PySem.W.fnOf "law" "law" (defArgs st_law) (defBody st_law) (defScope st_law) .none kV14 dc14 pm14 an14 cd14 ct14), sl14⟩) (c14 : PySem.W.codeIn K cd14 "law" = true) (k14 : PySem.W.keepIn K (.ref f_law) = true)
    {cc14 cP14 : Addr} {uc14 : Value} {ud14 : Option Addr} {us14 : Array (Option Value)} {uv14 : Array Value} (ma14 : cd14 = .ref cc14) (mb14 : K.lookup cc14 = some ⟨uc14, ud14, .fields uv14, us14⟩) (md14 : (uv14[11]? : Option Value) = some (.ref cP14)) (me14 : PySem.W.codeHdIn K cc14 cP14 = true) (mf14 : K.lookup cP14 = none) (mh14 : cP14 ∈ ts)
    (n0 : PySem.W.nsIn K mainGlobals "int" = some none)
    (n1 : PySem.W.nsIn K mainGlobals "isinstance" = some none)
    (n2 : PySem.W.nsIn K mainGlobals "bool" = some none)
    (n3 : PySem.W.nsIn K mainGlobals "abs" = some none)
    (n4 : PySem.W.nsIn K mainGlobals "len" = some none)
    (n5 : PySem.W.nsIn K mainGlobals "ValueError" = some none)
    (n6 : PySem.W.nsIn K mainGlobals "range" = some none)
    (n7 : PySem.W.nsIn K mainGlobals "min" = some none)
    (n8 : PySem.W.nsIn K mainGlobals "repr" = some none)
    {t0 : Tok} (e0 : PySem.W.nsIn K mainGlobals "GREATEST" = some (some (.int (2000) t0)))
    {t1 : Tok} (e1 : PySem.W.nsIn K mainGlobals "LEAST" = some (some (.int (2) t1)))
    {A_Refused : Addr} (xa0 : PySem.W.nsIn K mainGlobals "Refused" = some (some (.ref A_Refused)))
    {A_Barred : Addr} (xa1 : PySem.W.nsIn K mainGlobals "Barred" = some (some (.ref A_Barred)))
    {A_BadFraction : Addr} (xa2 : PySem.W.nsIn K mainGlobals "BadFraction" = some (some (.ref A_BadFraction)))
    {A_BadNumber : Addr} (xa3 : PySem.W.nsIn K mainGlobals "BadNumber" = some (some (.ref A_BadNumber)))
    {A_BadPrime : Addr} (xa4 : PySem.W.nsIn K mainGlobals "BadPrime" = some (some (.ref A_BadPrime)))
    {ya0 yb0 : Str} {yN0 : Addr} {yc0 yd0 yf0 : List Value} {ye0 : List Str} {yg0 : Bool} {yh0 : Option Bool} {yi0 : Option Addr} {y00 y10 y20 y30 y50 : Option Value} {fi_BadNumber : Addr}
    (xc0 : K.lookup A_BadNumber = some (excClassObj ya0 yb0 A_BadNumber yN0 yc0 yd0 true ye0 yf0 yg0 yh0 yi0 y00 y10 y20 y30 y50 "ValueError.__new__")) (xr0 : PySem.HandSPX.refsVE yd0 = true)
    (xs0 : PySem.W.findIn K (.ref A_BadNumber) "__setattr__" = some (some (.builtin "object.__setattr__"))) (xe0 : PySem.W.subIn K (.ref A_BadNumber) (.type "BaseException") = some true) (xt0 : PySem.W.typeIn K (.ref A_BadNumber) = some (.type "type")) (xk0 : PySem.W.keepIn K (.ref A_BadNumber) = true)
    (xi0 : PySem.W.findIn K (.ref A_BadNumber) "__init__" = some (some (.ref fi_BadNumber))) (xj0 : PySem.W.typeIn K (.ref fi_BadNumber) = some (.type "function")) (xn0 : PySem.W.findIn K (.ref A_BadNumber) "why" = some none)
    {iod0 ian0 : Option Addr} {isl0 : Array (Option Value)} {ioc0 ikV0 idc0 ipm0 icd0 ict0 : Value}
    (il0 : K.lookup fi_BadNumber = some ⟨ioc0, iod0, .func (PySem.W.fnOf "__init__" "BadNumber.__init__" (defArgs sti_BadNumber) (defBody sti_BadNumber) (defScope sti_BadNumber) .none ikV0 idc0 ipm0 ian0 icd0 ict0), isl0⟩) (ic0 : PySem.W.codeIn K icd0 "BadNumber.__init__" = true) (ik0 : PySem.W.keepIn K (.ref fi_BadNumber) = true)
    (ct_Refused_Barred_BadNumber : PySem.W.exmAny K (.ref A_BadNumber) [.ref A_Refused, .ref A_Barred] = some true)
    (dig : PySem.W.nsIn K cStatics "sys.int_max_str_digits" = some none)
    (en : PySem.W.specialIn K (.builtin "object.__class__") "__get__" = some (some (.builtin "getset_descriptor.__get__"))) (et : PySem.W.takesIn K (.builtin "object.__class__") = some true)
    (eg0 : PySem.W.findIn K (.ref A_BadNumber) "__getattribute__" = some (some (.builtin "BaseException.__getattribute__"))) (ek0 : PySem.W.findIn K (.ref A_BadNumber) "__getattr__" = some none) (ed0 : PySem.W.hasDictIn K A_BadNumber = true) (ea0 : PySem.W.findIn K (.ref A_BadNumber) "__class__" = some (some (.builtin "object.__class__"))) (em0 : PySem.W.mroIn K A_BadNumber (.type "object") = some true) (ec0 : (PySem.W.clsIn K A_BadNumber).isSome = true)
    (xs_BadNumber_BadPrime : PySem.W.kitOne K (.ref A_BadNumber) (.ref A_BadPrime) = some false)
    (xs_BadNumber_BadFraction : PySem.W.kitOne K (.ref A_BadNumber) (.ref A_BadFraction) = some false)
    (xs_BadNumber_BadNumber : PySem.W.kitOne K (.ref A_BadNumber) (.ref A_BadNumber) = some true)
    (xb_BadNumber_ValueError : PySem.W.kitOne K (.ref A_BadNumber) (.type "ValueError") = some true) : Txt K mg :=
  { f_is_number := f_is_number, d_is_number := _, F_is_number := fun_mk (st := st_is_number) l0 c0 k0, b_is_number := (fun_mk (st := st_is_number) l0 c0 k0).binds (ps := ["thing"]) fun _ _ _ _ _ _ us hl => match us, hl with | [_], _ => rfl,
    f_need_parted := f_need_parted, d_need_parted := _, F_need_parted := fun_mk (st := st_need_parted) l1 c1 k1, b_need_parted := (fun_mk (st := st_need_parted) l1 c1 k1).binds (ps := ["number"]) fun _ _ _ _ _ _ us hl => match us, hl with | [_], _ => rfl,
    f_parted := f_parted, d_parted := _, F_parted := fun_mk (st := st_parted) l2 c2 k2, b_parted := (fun_mk (st := st_parted) l2 c2 k2).binds (ps := ["number"]) fun _ _ _ _ _ _ us hl => match us, hl with | [_], _ => rfl,
    f_parts := f_parts, d_parts := _, F_parts := fun_mk (st := st_parts) l3 c3 k3, b_parts := (fun_mk (st := st_parts) l3 c3 k3).binds (ps := ["number"]) fun _ _ _ _ _ _ us hl => match us, hl with | [_], _ => rfl,
    f_left := f_left, d_left := _, F_left := fun_mk (st := st_left) l4 c4 k4, b_left := (fun_mk (st := st_left) l4 c4 k4).binds (ps := ["number"]) fun _ _ _ _ _ _ us hl => match us, hl with | [_], _ => rfl,
    f_Lstart := f_Lstart, d_Lstart := _, F_Lstart := fun_mk (st := st_Lstart) l5 c5 k5, b_Lstart := (fun_mk (st := st_Lstart) l5 c5 k5).binds (ps := ["_law_script"]) fun _ _ _ _ _ _ us hl => match us, hl with | [_], _ => rfl,
    f_Ldraw := f_Ldraw, d_Ldraw := _, F_Ldraw := fun_mk (st := st_Ldraw) l6 c6 k6, b_Ldraw := (fun_mk (st := st_Ldraw) l6 c6 k6).binds (ps := ["_law_d", "_law_many"]) fun _ _ _ _ _ _ us hl => match us, hl with | [_, _], _ => rfl,
    f_Lpick := f_Lpick, d_Lpick := _, F_Lpick := fun_mk (st := st_Lpick) l7 c7 k7, b_Lpick := (fun_mk (st := st_Lpick) l7 c7 k7).binds (ps := ["_law_d", "_law_some"]) fun _ _ _ _ _ _ us hl => match us, hl with | [_, _], _ => rfl,
    f_Lprime := f_Lprime, d_Lprime := _, F_Lprime := fun_mk (st := st_Lprime) l8 c8 k8, b_Lprime := (fun_mk (st := st_Lprime) l8 c8 k8).binds (ps := ["_law_d"]) fun _ _ _ _ _ _ us hl => match us, hl with | [_], _ => rfl,
    f_Lsaid := f_Lsaid, d_Lsaid := _, F_Lsaid := fun_mk (st := st_Lsaid) l9 c9 k9, b_Lsaid := (fun_mk (st := st_Lsaid) l9 c9 k9).binds (ps := ["_law_call"]) fun _ _ _ _ _ _ us hl => match us, hl with | [_], _ => rfl,
    f_Lsmall := f_Lsmall, d_Lsmall := _, F_Lsmall := fun_mk (st := st_Lsmall) l10 c10 k10, b_Lsmall := (fun_mk (st := st_Lsmall) l10 c10 k10).binds (ps := []) fun _ _ _ _ _ _ us hl => match us, hl with | [], _ => rfl,
    f_Lparted := f_Lparted, d_Lparted := _, F_Lparted := fun_mk (st := st_Lparted) l11 c11 k11, b_Lparted := (fun_mk (st := st_Lparted) l11 c11 k11).binds (ps := ["_law_small_here", "_law_it"]) fun _ _ _ _ _ _ us hl => match us, hl with | [_, _], _ => rfl,
    f_Lpower := f_Lpower, d_Lpower := _, F_Lpower := fun_mk (st := st_Lpower) l12 c12 k12, b_Lpower := (fun_mk (st := st_Lpower) l12 c12 k12).binds (ps := ["_law_base", "_law_many"]) fun _ _ _ _ _ _ us hl => match us, hl with | [_, _], _ => rfl,
    f_Lnumber := f_Lnumber, d_Lnumber := _, F_Lnumber := fun_mk (st := st_Lnumber) l13 c13 k13, b_Lnumber := (fun_mk (st := st_Lnumber) l13 c13 k13).binds (ps := ["_law_d", "_law_small_here"]) fun _ _ _ _ _ _ us hl => match us, hl with | [_, _], _ => rfl,
    f_law := f_law, d_law := _, F_law := fun_mk (st := st_law) l14 c14 k14, b_law := (fun_mk (st := st_law) l14 c14 k14).binds (ps := ["_law_script"]) fun _ _ _ _ _ _ us hl => match us, hl with | [_], _ => rfl,
    cc_law := cc14, cP_law := cP14, cE_law := ma14,
    g_is_number := PySem.W.mg_of X G a0,
    g_need_parted := PySem.W.mg_of X G a1,
    g_parted := PySem.W.mg_of X G a2,
    g_Ldraw := PySem.W.mg_of X G a6,
    g_Lpick := PySem.W.mg_of X G a7,
    g_Lprime := PySem.W.mg_of X G a8,
    g_Lpower := PySem.W.mg_of X G a12,
    g_Lsmall := PySem.W.mg_of X G a10,
    g_Lstart := PySem.W.mg_of X G a5,
    g_Lnumber := PySem.W.mg_of X G a13,
    g_Lparted := PySem.W.mg_of X G a11,
    g_parts := PySem.W.mg_of X G a3,
    g_left := PySem.W.mg_of X G a4,
    g_Lsaid := PySem.W.mg_of X G a9,
    g_law := PySem.W.mg_of X G a14,
    n_int := PySem.W.mg_none_of X G n0,
    n_isinstance := PySem.W.mg_none_of X G n1,
    n_bool := PySem.W.mg_none_of X G n2,
    n_abs := PySem.W.mg_none_of X G n3,
    n_len := PySem.W.mg_none_of X G n4,
    n_ValueError := PySem.W.mg_none_of X G n5,
    n_range := PySem.W.mg_none_of X G n6,
    n_min := PySem.W.mg_none_of X G n7,
    n_repr := PySem.W.mg_none_of X G n8,
    e_GREATEST := ⟨_, PySem.W.mg_of X G e0⟩,
    e_LEAST := ⟨_, PySem.W.mg_of X G e1⟩,
    A_Refused := A_Refused, nm_Refused := xa0, gc_Refused := PySem.W.mg_of X G xa0,
    A_Barred := A_Barred, nm_Barred := xa1, gc_Barred := PySem.W.mg_of X G xa1,
    A_BadFraction := A_BadFraction, nm_BadFraction := xa2, gc_BadFraction := PySem.W.mg_of X G xa2,
    A_BadNumber := A_BadNumber, nm_BadNumber := xa3, gc_BadNumber := PySem.W.mg_of X G xa3,
    A_BadPrime := A_BadPrime, nm_BadPrime := xa4, gc_BadPrime := PySem.W.mg_of X G xa4,
    fi_BadNumber := fi_BadNumber, di_BadNumber := _, x_BadNumber := { nm := xa3, T := ⟨⟨_, _, _, _, _, _, _, _, _, _, _, _, _, _, _, xc0, xr0⟩, xs0, xe0, xt0, xk0⟩, ini := xi0, tI := xj0, no := xn0, F := fun_mk (st := sti_BadNumber) il0 ic0 ik0, b := (fun_mk (st := sti_BadNumber) il0 ic0 ik0).binds (ps := ["self", "why"]) fun _ _ _ _ _ _ us hl => match us, hl with | [_, _], _ => rfl },
    ct_Refused_Barred := cat_mk ⟨⟨_, xa3, ct_Refused_Barred_BadNumber⟩, trivial⟩,
    dig := dig,
    xt := xtab_mk (cs := ["BadNumber"]) ⟨⟨_, xa3, ec0, ⟨eg0, ek0, xe0, ed0, ea0, en, et, em0⟩⟩, trivial⟩ ⟨⟨_, _, xa3, xa4, xs_BadNumber_BadPrime⟩, ⟨_, _, xa3, xa2, xs_BadNumber_BadFraction⟩, ⟨_, _, xa3, xa3, xs_BadNumber_BadNumber⟩, trivial⟩ ⟨⟨_, xa3, xb_BadNumber_ValueError⟩, trivial⟩ (by decide) (by decide) }
theorem all_mk {l : PySem.W.OpenLaw} {w : World} {K : PySem.W.Frag} {h : Heap} {mg : Str → Option Value} {fa : Addr} {ts : List Addr} (X : K.In h) (G : h.Ns mainGlobals mg) (hfa : mg "law" = some (.ref fa))
    {f_is_number f_need_parted f_parted f_parts f_left f_Lstart f_Ldraw f_Lpick f_Lprime f_Lsaid f_Lsmall f_Lparted f_Lpower f_Lnumber f_law : Addr}
    {od0 an0 : Option Addr} {sl0 : Array (Option Value)} {oc0 kV0 dc0 pm0 cd0 ct0 : Value}
    (a0 : PySem.W.nsIn K mainGlobals "is_number" = some (some (.ref f_is_number))) (l0 : K.lookup f_is_number = some ⟨oc0, od0, .func (PySem.W.fnOf "is_number" "is_number" (defArgs st_is_number) (defBody st_is_number) (defScope st_is_number) .none kV0 dc0 pm0 an0 cd0 ct0), sl0⟩) (c0 : PySem.W.codeIn K cd0 "is_number" = true) (k0 : PySem.W.keepIn K (.ref f_is_number) = true)
    {od1 an1 : Option Addr} {sl1 : Array (Option Value)} {oc1 kV1 dc1 pm1 cd1 ct1 : Value}
    (a1 : PySem.W.nsIn K mainGlobals "need_parted" = some (some (.ref f_need_parted))) (l1 : K.lookup f_need_parted = some ⟨oc1, od1, .func (PySem.W.fnOf "need_parted" "need_parted" (defArgs st_need_parted) (defBody st_need_parted) (defScope st_need_parted) .none kV1 dc1 pm1 an1 cd1 ct1), sl1⟩) (c1 : PySem.W.codeIn K cd1 "need_parted" = true) (k1 : PySem.W.keepIn K (.ref f_need_parted) = true)
    {od2 an2 : Option Addr} {sl2 : Array (Option Value)} {oc2 kV2 dc2 pm2 cd2 ct2 : Value}
    (a2 : PySem.W.nsIn K mainGlobals "parted" = some (some (.ref f_parted))) (l2 : K.lookup f_parted = some ⟨oc2, od2, .func (PySem.W.fnOf "parted" "parted" (defArgs st_parted) (defBody st_parted) (defScope st_parted) .none kV2 dc2 pm2 an2 cd2 ct2), sl2⟩) (c2 : PySem.W.codeIn K cd2 "parted" = true) (k2 : PySem.W.keepIn K (.ref f_parted) = true)
    {od3 an3 : Option Addr} {sl3 : Array (Option Value)} {oc3 kV3 dc3 pm3 cd3 ct3 : Value}
    (a3 : PySem.W.nsIn K mainGlobals "parts" = some (some (.ref f_parts))) (l3 : K.lookup f_parts = some ⟨oc3, od3, .func (PySem.W.fnOf "parts" "parts" (defArgs st_parts) (defBody st_parts) (defScope st_parts) .none kV3 dc3 pm3 an3 cd3 ct3), sl3⟩) (c3 : PySem.W.codeIn K cd3 "parts" = true) (k3 : PySem.W.keepIn K (.ref f_parts) = true)
    {od4 an4 : Option Addr} {sl4 : Array (Option Value)} {oc4 kV4 dc4 pm4 cd4 ct4 : Value}
    (a4 : PySem.W.nsIn K mainGlobals "left" = some (some (.ref f_left))) (l4 : K.lookup f_left = some ⟨oc4, od4, .func (PySem.W.fnOf "left" "left" (defArgs st_left) (defBody st_left) (defScope st_left) .none kV4 dc4 pm4 an4 cd4 ct4), sl4⟩) (c4 : PySem.W.codeIn K cd4 "left" = true) (k4 : PySem.W.keepIn K (.ref f_left) = true)
    {od5 an5 : Option Addr} {sl5 : Array (Option Value)} {oc5 kV5 dc5 pm5 cd5 ct5 : Value}
    (a5 : PySem.W.nsIn K mainGlobals "_law_start" = some (some (.ref f_Lstart))) (l5 : K.lookup f_Lstart = some ⟨oc5, od5, .func (PySem.W.fnOf "_law_start" "_law_start" (defArgs st_Lstart) (defBody st_Lstart) (defScope st_Lstart) .none kV5 dc5 pm5 an5 cd5 ct5), sl5⟩) (c5 : PySem.W.codeIn K cd5 "_law_start" = true) (k5 : PySem.W.keepIn K (.ref f_Lstart) = true)
    {od6 an6 : Option Addr} {sl6 : Array (Option Value)} {oc6 kV6 dc6 pm6 cd6 ct6 : Value}
    (a6 : PySem.W.nsIn K mainGlobals "_law_draw" = some (some (.ref f_Ldraw))) (l6 : K.lookup f_Ldraw = some ⟨oc6, od6, .func (PySem.W.fnOf "_law_draw" "_law_draw" (defArgs st_Ldraw) (defBody st_Ldraw) (defScope st_Ldraw) .none kV6 dc6 pm6 an6 cd6 ct6), sl6⟩) (c6 : PySem.W.codeIn K cd6 "_law_draw" = true) (k6 : PySem.W.keepIn K (.ref f_Ldraw) = true)
    {od7 an7 : Option Addr} {sl7 : Array (Option Value)} {oc7 kV7 dc7 pm7 cd7 ct7 : Value}
    (a7 : PySem.W.nsIn K mainGlobals "_law_pick" = some (some (.ref f_Lpick))) (l7 : K.lookup f_Lpick = some ⟨oc7, od7, .func (PySem.W.fnOf "_law_pick" "_law_pick" (defArgs st_Lpick) (defBody st_Lpick) (defScope st_Lpick) .none kV7 dc7 pm7 an7 cd7 ct7), sl7⟩) (c7 : PySem.W.codeIn K cd7 "_law_pick" = true) (k7 : PySem.W.keepIn K (.ref f_Lpick) = true)
    {od8 an8 : Option Addr} {sl8 : Array (Option Value)} {oc8 kV8 dc8 pm8 cd8 ct8 : Value}
    (a8 : PySem.W.nsIn K mainGlobals "_law_prime" = some (some (.ref f_Lprime))) (l8 : K.lookup f_Lprime = some ⟨oc8, od8, .func (PySem.W.fnOf "_law_prime" "_law_prime" (defArgs st_Lprime) (defBody st_Lprime) (defScope st_Lprime) .none kV8 dc8 pm8 an8 cd8 ct8), sl8⟩) (c8 : PySem.W.codeIn K cd8 "_law_prime" = true) (k8 : PySem.W.keepIn K (.ref f_Lprime) = true)
    {od9 an9 : Option Addr} {sl9 : Array (Option Value)} {oc9 kV9 dc9 pm9 cd9 ct9 : Value}
    (a9 : PySem.W.nsIn K mainGlobals "_law_said" = some (some (.ref f_Lsaid))) (l9 : K.lookup f_Lsaid = some ⟨oc9, od9, .func (PySem.W.fnOf "_law_said" "_law_said" (defArgs st_Lsaid) (defBody st_Lsaid) (defScope st_Lsaid) .none kV9 dc9 pm9 an9 cd9 ct9), sl9⟩) (c9 : PySem.W.codeIn K cd9 "_law_said" = true) (k9 : PySem.W.keepIn K (.ref f_Lsaid) = true)
    {od10 an10 : Option Addr} {sl10 : Array (Option Value)} {oc10 kV10 dc10 pm10 cd10 ct10 : Value}
    (a10 : PySem.W.nsIn K mainGlobals "_law_small" = some (some (.ref f_Lsmall))) (l10 : K.lookup f_Lsmall = some ⟨oc10, od10, .func (PySem.W.fnOf "_law_small" "_law_small" (defArgs st_Lsmall) (defBody st_Lsmall) (defScope st_Lsmall) .none kV10 dc10 pm10 an10 cd10 ct10), sl10⟩) (c10 : PySem.W.codeIn K cd10 "_law_small" = true) (k10 : PySem.W.keepIn K (.ref f_Lsmall) = true)
    {od11 an11 : Option Addr} {sl11 : Array (Option Value)} {oc11 kV11 dc11 pm11 cd11 ct11 : Value}
    (a11 : PySem.W.nsIn K mainGlobals "_law_parted" = some (some (.ref f_Lparted))) (l11 : K.lookup f_Lparted = some ⟨oc11, od11, .func (PySem.W.fnOf "_law_parted" "_law_parted" (defArgs st_Lparted) (defBody st_Lparted) (defScope st_Lparted) .none kV11 dc11 pm11 an11 cd11 ct11), sl11⟩) (c11 : PySem.W.codeIn K cd11 "_law_parted" = true) (k11 : PySem.W.keepIn K (.ref f_Lparted) = true)
    {od12 an12 : Option Addr} {sl12 : Array (Option Value)} {oc12 kV12 dc12 pm12 cd12 ct12 : Value}
    (a12 : PySem.W.nsIn K mainGlobals "_law_power" = some (some (.ref f_Lpower))) (l12 : K.lookup f_Lpower = some ⟨oc12, od12, .func (PySem.W.fnOf "_law_power" "_law_power" (defArgs st_Lpower) (defBody st_Lpower) (defScope st_Lpower) .none kV12 dc12 pm12 an12 cd12 ct12), sl12⟩) (c12 : PySem.W.codeIn K cd12 "_law_power" = true) (k12 : PySem.W.keepIn K (.ref f_Lpower) = true)
    {od13 an13 : Option Addr} {sl13 : Array (Option Value)} {oc13 kV13 dc13 pm13 cd13 ct13 : Value}
    (a13 : PySem.W.nsIn K mainGlobals "_law_number" = some (some (.ref f_Lnumber))) (l13 : K.lookup f_Lnumber = some ⟨oc13, od13, .func (PySem.W.fnOf "_law_number" "_law_number" (defArgs st_Lnumber) (defBody st_Lnumber) (defScope st_Lnumber) .none kV13 dc13 pm13 an13 cd13 ct13), sl13⟩) (c13 : PySem.W.codeIn K cd13 "_law_number" = true) (k13 : PySem.W.keepIn K (.ref f_Lnumber) = true)
    {od14 an14 : Option Addr} {sl14 : Array (Option Value)} {oc14 kV14 dc14 pm14 cd14 ct14 : Value}
    (a14 : PySem.W.nsIn K mainGlobals "law" = some (some (.ref f_law))) (l14 : K.lookup f_law = some ⟨oc14, od14, .func (PySem.W.fnOf "law" "law" (defArgs st_law) (defBody st_law) (defScope st_law) .none kV14 dc14 pm14 an14 cd14 ct14), sl14⟩) (c14 : PySem.W.codeIn K cd14 "law" = true) (k14 : PySem.W.keepIn K (.ref f_law) = true)
    {cc14 cP14 : Addr} {uc14 : Value} {ud14 : Option Addr} {us14 : Array (Option Value)} {uv14 : Array Value} (ma14 : cd14 = .ref cc14) (mb14 : K.lookup cc14 = some ⟨uc14, ud14, .fields uv14, us14⟩) (md14 : (uv14[11]? : Option Value) = some (.ref cP14)) (me14 : PySem.W.codeHdIn K cc14 cP14 = true) (mf14 : K.lookup cP14 = none) (mh14 : cP14 ∈ ts)
    (n0 : PySem.W.nsIn K mainGlobals "int" = some none)
    (n1 : PySem.W.nsIn K mainGlobals "isinstance" = some none)
    (n2 : PySem.W.nsIn K mainGlobals "bool" = some none)
    (n3 : PySem.W.nsIn K mainGlobals "abs" = some none)
    (n4 : PySem.W.nsIn K mainGlobals "len" = some none)
    (n5 : PySem.W.nsIn K mainGlobals "ValueError" = some none)
    (n6 : PySem.W.nsIn K mainGlobals "range" = some none)
    (n7 : PySem.W.nsIn K mainGlobals "min" = some none)
    (n8 : PySem.W.nsIn K mainGlobals "repr" = some none)
    {t0 : Tok} (e0 : PySem.W.nsIn K mainGlobals "GREATEST" = some (some (.int (2000) t0)))
    {t1 : Tok} (e1 : PySem.W.nsIn K mainGlobals "LEAST" = some (some (.int (2) t1)))
    {A_Refused : Addr} (xa0 : PySem.W.nsIn K mainGlobals "Refused" = some (some (.ref A_Refused)))
    {A_Barred : Addr} (xa1 : PySem.W.nsIn K mainGlobals "Barred" = some (some (.ref A_Barred)))
    {A_BadFraction : Addr} (xa2 : PySem.W.nsIn K mainGlobals "BadFraction" = some (some (.ref A_BadFraction)))
    {A_BadNumber : Addr} (xa3 : PySem.W.nsIn K mainGlobals "BadNumber" = some (some (.ref A_BadNumber)))
    {A_BadPrime : Addr} (xa4 : PySem.W.nsIn K mainGlobals "BadPrime" = some (some (.ref A_BadPrime)))
    {ya0 yb0 : Str} {yN0 : Addr} {yc0 yd0 yf0 : List Value} {ye0 : List Str} {yg0 : Bool} {yh0 : Option Bool} {yi0 : Option Addr} {y00 y10 y20 y30 y50 : Option Value} {fi_BadNumber : Addr}
    (xc0 : K.lookup A_BadNumber = some (excClassObj ya0 yb0 A_BadNumber yN0 yc0 yd0 true ye0 yf0 yg0 yh0 yi0 y00 y10 y20 y30 y50 "ValueError.__new__")) (xr0 : PySem.HandSPX.refsVE yd0 = true)
    (xs0 : PySem.W.findIn K (.ref A_BadNumber) "__setattr__" = some (some (.builtin "object.__setattr__"))) (xe0 : PySem.W.subIn K (.ref A_BadNumber) (.type "BaseException") = some true) (xt0 : PySem.W.typeIn K (.ref A_BadNumber) = some (.type "type")) (xk0 : PySem.W.keepIn K (.ref A_BadNumber) = true)
    (xi0 : PySem.W.findIn K (.ref A_BadNumber) "__init__" = some (some (.ref fi_BadNumber))) (xj0 : PySem.W.typeIn K (.ref fi_BadNumber) = some (.type "function")) (xn0 : PySem.W.findIn K (.ref A_BadNumber) "why" = some none)
    {iod0 ian0 : Option Addr} {isl0 : Array (Option Value)} {ioc0 ikV0 idc0 ipm0 icd0 ict0 : Value}
    (il0 : K.lookup fi_BadNumber = some ⟨ioc0, iod0, .func (PySem.W.fnOf "__init__" "BadNumber.__init__" (defArgs sti_BadNumber) (defBody sti_BadNumber) (defScope sti_BadNumber) .none ikV0 idc0 ipm0 ian0 icd0 ict0), isl0⟩) (ic0 : PySem.W.codeIn K icd0 "BadNumber.__init__" = true) (ik0 : PySem.W.keepIn K (.ref fi_BadNumber) = true)
    (ct_Refused_Barred_BadNumber : PySem.W.exmAny K (.ref A_BadNumber) [.ref A_Refused, .ref A_Barred] = some true)
    (dig : PySem.W.nsIn K cStatics "sys.int_max_str_digits" = some none)
    (en : PySem.W.specialIn K (.builtin "object.__class__") "__get__" = some (some (.builtin "getset_descriptor.__get__"))) (et : PySem.W.takesIn K (.builtin "object.__class__") = some true)
    (eg0 : PySem.W.findIn K (.ref A_BadNumber) "__getattribute__" = some (some (.builtin "BaseException.__getattribute__"))) (ek0 : PySem.W.findIn K (.ref A_BadNumber) "__getattr__" = some none) (ed0 : PySem.W.hasDictIn K A_BadNumber = true) (ea0 : PySem.W.findIn K (.ref A_BadNumber) "__class__" = some (some (.builtin "object.__class__"))) (em0 : PySem.W.mroIn K A_BadNumber (.type "object") = some true) (ec0 : (PySem.W.clsIn K A_BadNumber).isSome = true)
    (xs_BadNumber_BadPrime : PySem.W.kitOne K (.ref A_BadNumber) (.ref A_BadPrime) = some false)
    (xs_BadNumber_BadFraction : PySem.W.kitOne K (.ref A_BadNumber) (.ref A_BadFraction) = some false)
    (xs_BadNumber_BadNumber : PySem.W.kitOne K (.ref A_BadNumber) (.ref A_BadNumber) = some true)
    (xb_BadNumber_ValueError : PySem.W.kitOne K (.ref A_BadNumber) (.type "ValueError") = some true)
    (tu : ∀ p ∈ Mks.tb [(cc14, cP14, ((("law" : Str) ++ ".<locals>.") ++ "<lambda>"))], ∀ r ∈ Mks.tb [(cc14, cP14, ((("law" : Str) ++ ".<locals>.") ++ "<lambda>"))], p.1 = r.1 → p.2 = r.2) :
    ∃ (fd : FuncData) (ms : Mks), (∀ p ∈ ms, p.2.1 ∈ ts) ∧ MkK K ms ∧ (∀ (s : Shared) (u : Value), BindsTo s fd ⟨[u], []⟩ [("_law_script", u)]) ∧ ∀ base : Heap, TabF ms mg base → Fn (cfL l.prog w K mg base ms.tb) 7 fa fd ["_law_script"] (spM (cfL l.prog w K mg base ms.tb) 1 m_law) := by
  have e := hfa.symm.trans (PySem.W.mg_of X G a14)
  cases e
  refine ⟨_, [(cc14, cP14, ((("law" : Str) ++ ".<locals>.") ++ "<lambda>"))], ?_, ⟨?_, ?_⟩, fun s v => .of_eq rfl, fun base tf => ok_law (C := cfL l.prog w K mg base (Mks.tb [(cc14, cP14, ((("law" : Str) ++ ".<locals>.") ++ "<lambda>"))])) ⟨mkT (ts := ts) X G a0 l0 c0 k0 a1 l1 c1 k1 a2 l2 c2 k2 a3 l3 c3 k3 a4 l4 c4 k4 a5 l5 c5 k5 a6 l6 c6 k6 a7 l7 c7 k7 a8 l8 c8 k8 a9 l9 c9 k9 a10 l10 c10 k10 a11 l11 c11 k11 a12 l12 c12 k12 a13 l13 c13 k13 a14 l14 c14 k14 ma14 mb14 md14 me14 mf14 mh14 n0 n1 n2 n3 n4 n5 n6 n7 n8 e0 e1 xa0 xa1 xa2 xa3 xa4 xc0 xr0 xs0 xe0 xt0 xk0 xi0 xj0 xn0 il0 ic0 ik0 ct_Refused_Barred_BadNumber dig en et eg0 ek0 ed0 ea0 em0 ec0 xs_BadNumber_BadPrime xs_BadNumber_BadFraction xs_BadNumber_BadNumber xb_BadNumber_ValueError, rfl, tf (cc14, cP14, ((("law" : Str) ++ ".<locals>.") ++ "<lambda>")) (by simp), (show (cP14, ((("law" : Str) ++ ".<locals>.") ++ "<lambda>")) ∈ Mks.tb [(cc14, cP14, ((("law" : Str) ++ ".<locals>.") ++ "<lambda>"))] from by simp [Mks.tb]), fun p hp e => tu p hp (cP14, ((("law" : Str) ++ ".<locals>.") ++ "<lambda>")) (by simp [Mks.tb]) e⟩ rfl⟩
  · exact fun p hp => by
      simp only [List.mem_cons, List.not_mem_nil, or_false] at hp
      rcases hp with rfl
      · exact mh14
  · exact fun p hp => by
      simp only [List.mem_cons, List.not_mem_nil, or_false] at hp
      rcases hp with rfl
      · exact me14
  · exact fun p hp => by
      simp only [List.mem_cons, List.not_mem_nil, or_false] at hp
      rcases hp with rfl
      · exact mf14

theorem is_number_int (i : Int) (s : S) : m_is_number [.p (.int i)] s = .ok (.p (.bl true)) s := by
  simp [m_is_number, defM_if, B_is_number]
theorem is_number_tup (xs : List P) (s : S) : m_is_number [.p (.tup xs)] s = .ok (.p (.bl false)) s := by
  simp [m_is_number, defM_if, B_is_number]

/-! ### things of any kind -/
def okB : P → Bool
  | .non => true
  | .bl _ => true
  | .int _ => true
  | .str _ => true
  | .tup _ => true
  | .lst _ => true
  | .emp => true
  | _ => false
def isNumP : P → Bool
  | .int _ => true
  | _ => false
theorem is_number_any {x : P} (h : okB x = true) (s : S) : m_is_number [.p x] s = .ok (.p (.bl (isNumP x))) s := by
  cases x <;> first | (simp [m_is_number, defM_if, B_is_number, isNumP]; done) | (simp [okB] at h; done)

theorem seqF_ok {f g : SF} {ρ ρ' : En} {s s' : S} (h : f ρ s = .ok (.nx ρ') s') : seqF f g ρ s = g ρ' s' := by
  rw [seqF_ev, h]
  rfl
theorem whF_go {t : TF} {f : SF} {ρ ρ' : En} {s s' : S} (h1 : t ρ s = .ok true s) (h2 : f ρ s = .ok (.nx ρ') s') : whF t f ρ s = whF t f ρ' s' := by
  rw [whF_ev, h1, R.bind_ok, if_pos rfl, h2, R.bind_ok]
  rfl
theorem whF_end {t : TF} {f : SF} {ρ : En} {s : S} (h1 : t ρ s = .ok false s) : whF t f ρ s = .ok (.nx ρ) s := by
  rw [whF_ev, h1, R.bind_ok, if_neg Bool.false_ne_true]
theorem forL_nilg {tg : GF} {f : SF} {g : Gd} {ρ : En} {s : S} (hg : gok g s) : forL g tg f [] ρ s = .ok (.nx ρ) s := by
  unfold forL
  exact if_pos hg
theorem forL_consg {tg : GF} {f : SF} {g : Gd} {ρ ρ1 ρ2 : En} {s s2 : S} {x : P} {xs : List P} (hg : gok g s) (h1 : tg (.p x) ρ s = .ok ρ1 s) (h2 : f ρ1 s = .ok (.nx ρ2) s2) : forL g tg f (x :: xs) ρ s = forL g tg f xs ρ2 s2 := by
  conv => lhs; unfold forL
  rw [if_pos hg, bnd_ev, h1, R.bind_ok, bnd_ev, h2, R.bind_ok]

theorem mulL {i j : Int} (h0 : 0 ≤ i) (h : i ≤ 100000) : mulOk i j := Or.inr (Or.inl (by omega))
theorem mulR {i j : Int} (h0 : 0 ≤ j) (h : j ≤ 100000) : mulOk i j := Or.inr (Or.inr (by omega))
/-! ### dividing out -/
def dv (p r : Nat) : Nat × Nat := if h : 2 ≤ p ∧ 0 < r ∧ r % p = 0 then ((dv p (r / p)).1, (dv p (r / p)).2 + 1) else (r, 0)
termination_by r
decreasing_by exact Nat.div_lt_self h.2.1 h.1
theorem dv_no {p r : Nat} (h : ¬ r % p = 0) : dv p r = (r, 0) := by
  rw [dv, dif_neg fun z => h z.2.2]
theorem dv_yes {p r : Nat} (hp : 2 ≤ p) (hr : 0 < r) (h : r % p = 0) : dv p r = ((dv p (r / p)).1, (dv p (r / p)).2 + 1) := by
  rw [dv, dif_pos ⟨hp, hr, h⟩]
theorem div_pos_of {p r : Nat} (hp : 2 ≤ p) (hr : 0 < r) (h : r % p = 0) : 0 < r / p ∧ r / p < r ∧ (r / p) ∣ r := by
  have hd := Nat.dvd_of_mod_eq_zero h
  exact ⟨Nat.div_pos (Nat.le_of_dvd hr hd) (by omega), Nat.div_lt_self hr hp, Nat.div_dvd_of_dvd hd⟩
theorem dv_facts {p : Nat} (hp : 2 ≤ p) : ∀ (n r : Nat), r ≤ n → 0 < r → 0 < (dv p r).1 ∧ (dv p r).1 ∣ r ∧ ¬ p ∣ (dv p r).1 ∧ (dv p r).2 ≤ r := by
  intro n
  induction n with
  | zero => intro r h h0; omega
  | succ n ih =>
    intro r h h0
    by_cases hm : r % p = 0
    · obtain ⟨a1, a2, a3⟩ := div_pos_of hp h0 hm
      obtain ⟨b1, b2, b3, b4⟩ := ih (r / p) (by omega) a1
      rw [dv_yes hp h0 hm]
      exact ⟨b1, Nat.dvd_trans b2 a3, b3, by show (dv p (r / p)).2 + 1 ≤ r; omega⟩
    · rw [dv_no hm]
      exact ⟨h0, Nat.dvd_refl _, fun z => hm (Nat.mod_eq_zero_of_dvd z), Nat.zero_le _⟩
abbrev Pf := Nat × List (Nat × Nat)
def stp (a : Pf) (p : Nat) : Pf := ((dv p a.1).1, a.2 ++ if 0 < (dv p a.1).2 then [(p, (dv p a.1).2)] else [])
def Low (b r : Nat) : Prop := ∀ d, 2 ≤ d → d < b → ¬ d ∣ r
theorem stp_no {p r : Nat} {f : List (Nat × Nat)} (h : ¬ p ∣ r) : stp (r, f) p = (r, f) := by
  have hm : ¬ r % p = 0 := fun z => h (Nat.dvd_of_mod_eq_zero z)
  unfold stp
  simp [dv_no hm]
theorem stp_low {p r : Nat} {f : List (Nat × Nat)} (hp : 2 ≤ p) (hr : 0 < r) (h : Low p r) : 0 < (stp (r, f) p).1 ∧ Low (p + 1) (stp (r, f) p).1 := by
  obtain ⟨b1, b2, b3, _⟩ := dv_facts hp r r (Nat.le_refl _) hr
  refine ⟨b1, fun d d2 dp z => ?_⟩
  by_cases e : d = p
  · rw [e] at z
    exact b3 z
  · exact h d d2 (by omega) (Nat.dvd_trans z b2)
theorem Low.skip {p r : Nat} (h : Low p r) (hs : ∃ d, 2 ≤ d ∧ d < p ∧ d ∣ p) : ¬ p ∣ r := fun z => by
  obtain ⟨d, d2, dp, dd⟩ := hs
  exact h d d2 dp (Nat.dvd_trans dd z)
theorem Low.more {p r : Nat} (h : Low p r) (hs : ¬ p ∣ r) : Low (p + 1) r := fun d d2 dp z => by
  by_cases e : d = p
  · rw [e] at z
    exact hs z
  · exact h d d2 (by omega) z
theorem fold_keep (keep : Nat → Bool) : ∀ (k b : Nat) (r : Nat) (f : List (Nat × Nat)), 2 ≤ b → 0 < r → Low b r → (∀ n, b ≤ n → n < b + k → keep n = false → ∃ d, 2 ≤ d ∧ d < n ∧ d ∣ n) →
    ((List.range' b k).filter keep).foldl stp (r, f) = (List.range' b k).foldl stp (r, f)
  | 0, _, _, _, _, _, _, _ => rfl
  | k + 1, b, r, f, hb, hr, hl, hk => by
    rw [List.range'_succ]
    by_cases e : keep b = true
    · rw [List.filter_cons_of_pos e, List.foldl_cons, List.foldl_cons]
      obtain ⟨h1, h2⟩ := stp_low (f := f) hb hr hl
      exact fold_keep keep k (b + 1) _ _ (by omega) h1 h2 fun n n1 n2 => hk n (by omega) (by omega)
    · have hs := hl.skip (hk b (by omega) (by omega) (by simpa using e))
      rw [List.filter_cons_of_neg e, List.foldl_cons, stp_no hs]
      exact fold_keep keep k (b + 1) r f (by omega) hr (hl.more hs) fun n n1 n2 => hk n (by omega) (by omega)
theorem fold_one : ∀ (l : List Nat) (f : List (Nat × Nat)), (∀ p ∈ l, 2 ≤ p) → l.foldl stp (1, f) = (1, f)
  | [], _, _ => rfl
  | p :: l, f, h => by
    have hp := h p List.mem_cons_self
    rw [List.foldl_cons, stp_no fun z => by have := Nat.le_of_dvd (by decide) z; omega]
    exact fold_one l f fun q hq => h q (List.mem_cons_of_mem _ hq)
/-- what is left, what was found -/
noncomputable def prt (r : Nat) : Pf := (List.range' 2 1999).foldl stp (r, [])
def pzP (f : List (Nat × Nat)) : List P := f.map fun q => .tup [.int (q.1 : Int), .int (q.2 : Int)]
/-- what was found may be shown -/
def Fok (b : Nat) (f : List (Nat × Nat)) : Prop := ∀ q ∈ f, q.1 < 2001 ∧ q.2 ≤ b
theorem fold_ok {b : Nat} : ∀ (l : List Nat) (r : Nat) (f : List (Nat × Nat)), (∀ p ∈ l, 2 ≤ p ∧ p < 2001) → 0 < r → r ≤ b → Fok b f →
    (l.foldl stp (r, f)).1 ≤ b ∧ 0 < (l.foldl stp (r, f)).1 ∧ Fok b (l.foldl stp (r, f)).2 ∧ (l.foldl stp (r, f)).2.length ≤ f.length + l.length
  | [], r, f, _, hr, hb, hf => ⟨hb, hr, hf, by simp⟩
  | p :: l, r, f, h, hr, hb, hf => by
    obtain ⟨p2, p3⟩ := h p List.mem_cons_self
    obtain ⟨b1, b2, b3, b4⟩ := dv_facts p2 r r (Nat.le_refl _) hr
    have hle : (dv p r).1 ≤ b := Nat.le_trans (Nat.le_of_dvd hr b2) hb
    have hf' : Fok b (stp (r, f) p).2 := fun q hq => by
      unfold stp at hq
      rcases List.mem_append.mp hq with z | z
      · exact hf q z
      · by_cases e : 0 < (dv p r).2
        · rw [if_pos e] at z
          rw [List.mem_singleton.mp z]
          exact ⟨p3, by show (dv p r).2 ≤ b; omega⟩
        · rw [if_neg e] at z
          cases z
    have hlen : (stp (r, f) p).2.length ≤ f.length + 1 := by
      unfold stp
      rw [List.length_append]
      dsimp only
      split <;> simp
    obtain ⟨c1, c2, c3, c4⟩ := fold_ok l _ _ (fun q hq => h q (List.mem_cons_of_mem _ hq)) b1 hle hf'
    rw [List.foldl_cons]
    refine ⟨c1, c2, c3, Nat.le_trans c4 ?_⟩
    rw [List.length_cons]
    omega
theorem cast_mod {r p : Nat} : ((r : Int)).fmod (p : Int) = ((r % p : Nat) : Int) := by
  rw [Int.fmod_eq_emod_of_nonneg _ (by omega)]
  rfl
theorem cast_div {r p : Nat} : ((r : Int)).fdiv (p : Int) = ((r / p : Nat) : Int) := by
  rw [Int.fdiv_eq_ediv_of_nonneg _ (by omega)]
  rfl
theorem divs {p : Nat} (h : 2 ≤ p) (h2 : p ≤ 2000) : ∀ z : Int, divOk z (p : Int) := fun z => (show szi (p : Int) 8000 from szi.mono (a := 20) (by unfold szi; omega) (by decide)).divOk (by decide) (by decide) (by omega)
/-! ### the program's own -/
theorem in_wh {p : Nat} (hp : 2 ≤ p) (h2 : p ≤ 2000) (x0 x2 : Option D) (s : S) : ∀ (n r o : Nat), r ≤ n → 0 < r →
    whF (tB (op2 (eqD false) ((op2 (modD) (vE 1) (vE 3))) (cE (.int 0)))) (parF 1 4 [(op2 (divD) (vE 1) (vE 3)), (op2 (addD true) (vE 4) (cE (.int 1)))]) [x0, some (.p (.int (r : Int))), x2, some (.p (.int (p : Int))), some (.p (.int (o : Int)))] s =
      .ok (.nx [x0, some (.p (.int ((dv p r).1 : Int))), x2, some (.p (.int (p : Int))), some (.p (.int ((o + (dv p r).2 : Nat) : Int)))]) s := by
  intro n
  induction n with
  | zero => intro r o h h0; omega
  | succ n ih =>
    intro r o h h0
    have km := divs hp h2
    have hp0 : ¬ p = 0 := by omega
    rw [whF_eq]
    by_cases hm : r % p = 0
    · obtain ⟨a1, a2, a3⟩ := div_pos_of hp h0 hm
      have hz : (((r % p : Nat) : Int)) = 0 := by omega
      have e := ih (r / p) (o + 1) (by omega) a1
      rw [dv_yes hp h0 hm]
      have e1 : ((o : Int) + 1) = ((o + 1 : Nat) : Int) := by omega
      have e2 : (o + ((dv p (r / p)).2 + 1)) = o + 1 + (dv p (r / p)).2 := by omega
      dsimp only
      rw [e2]
      simp [bnd_ev, km, hp0, cast_mod, cast_div, hz, e1, -Int.natCast_emod, -Int.natCast_ediv, -Int.natCast_add]
      exact e
    · have hz : ¬ (((r % p : Nat) : Int)) = 0 := by omega
      rw [dv_no hm]
      simp [bnd_ev, km, hp0, cast_mod, hm, -Int.natCast_emod]
/-- one more, where it divides -/
theorem pzP_app (f : List (Nat × Nat)) (p o : Nat) : pzP (f ++ [(p, o)]) = pzP f ++ [.tup [.int (p : Int), .int (o : Int)]] := by
  unfold pzP
  rw [List.map_append]
  rfl
theorem pzP_len (f : List (Nat × Nat)) : (pzP f).length = f.length := List.length_map _
noncomputable def WB : SF := (seqF (asgF (cE (.int 0)) (setG 4)) (seqF (whF (tB (op2 (eqD false) ((op2 (modD) (vE 1) (vE 3))) (cE (.int 0)))) (parF 1 4 [(op2 (divD) (vE 1) (vE 3)), (op2 (addD true) (vE 4) (cE (.int 1)))])) (seqF (iffF (tB (op2 (gtD) (vE 4) (cE (.int 0)))) (expF ((metE appD (vE 2) [(tupE [vE 3, vE 4])]))) nopF) (augF 3 (ii yes fun i j => .int (i + j)) ((ifE ((tB (op2 (eqD false) (vE 3) (cE c_LEAST)))) (cE (.int 1)) (cE (.int 2))))))))
theorem wb_ok {p r : Nat} (hp : 2 ≤ p) (h2 : p ≤ 2000) (hr : 0 < r) (f : List (Nat × Nat)) (hf : f.length ≤ 5000) (x0 x4 : Option D) (s : S) :
    WB [x0, some (.p (.int (r : Int))), some (.obj s.length), some (.p (.int (p : Int))), x4] (s ++ [some (.lst (pzP f))]) =
      .ok (.nx [x0, some (.p (.int ((stp (r, f) p).1 : Int))), some (.obj s.length), some (.p (.int ((if p = 2 then p + 1 else p + 2 : Nat) : Int))), some (.p (.int ((dv p r).2 : Int)))]) (s ++ [some (.lst (pzP (stp (r, f) p).2))]) := by
  have e := in_wh hp h2 x0 (some (.obj s.length)) (s ++ [some (.lst (pzP f))]) r r 0 (Nat.le_refl _) hr
  rw [Nat.zero_add, show ((0 : Nat) : Int) = 0 from rfl] at e
  have hl : (pzP f).length < sizeLine := by rw [pzP_len, sizeLine_eq]; omega
  have c2 : c_LEAST = .int 2 := rfl
  unfold WB
  unfold stp
  generalize dv p r = q at *
  obtain ⟨r', o⟩ := q
  have la := lsAt_endL (s := s) (pzP f)
  have hi : ∀ (i j : Int) (s : S), ii yes (fun i j => P.int (i + j)) (.p (.int i)) (.p (.int j)) s = .ok (.p (.int (i + j))) s := fun _ _ _ => rfl
  have h3' : ((p : Int) = 2) ↔ p = 2 := by omega
  by_cases ho : 0 < o
  · have ho' : (0 : Int) < (o : Int) := by omega
    by_cases h3 : p = 2
    · have h3'' : ((p : Int) = 2) := by omega
      rw [h3''] at e
      simp [e, ho, ho', c2, la, hl, set_end, pzP_app, augF_ev, tupk, hi, h3, h3'']
    · simp [e, ho, ho', c2, la, hl, set_end, pzP_app, augF_ev, tupk, hi, h3, h3']
  · have ho0 : o = 0 := by omega
    subst ho0
    by_cases h3 : p = 2
    · have h3'' : ((p : Int) = 2) := by omega
      rw [h3''] at e
      simp [e, c2, augF_ev, hi, h3, h3'']
    · simp [e, c2, augF_ev, hi, h3, h3']
theorem par_wh (x0 : Option D) (s : S) : ∀ (n p r : Nat) (f : List (Nat × Nat)) (x4 : Option D), 2001 - p ≤ n → p ≤ 2001 → (p = 2 ∨ (3 ≤ p ∧ p % 2 = 1)) → 0 < r → Low p r → f.length ≤ p →
    ∃ p' x4', whF (andT (tB (op2 (eqD true) (vE 1) (cE (.int 1)))) (tB (op2 (leD) (vE 3) (cE c_GREATEST)))) WB [x0, some (.p (.int (r : Int))), some (.obj s.length), some (.p (.int (p : Int))), x4] (s ++ [some (.lst (pzP f))]) =
      .ok (.nx [x0, some (.p (.int (((List.range' p (2001 - p)).foldl stp (r, f)).1 : Int))), some (.obj s.length), p', x4']) (s ++ [some (.lst (pzP ((List.range' p (2001 - p)).foldl stp (r, f)).2))]) := by
  have cg : c_GREATEST = .int 2000 := rfl
  intro n
  induction n with
  | zero =>
    intro p r f x4 hn hp ho hr hl hf
    have hp' : p = 2001 := by omega
    subst hp'
    refine ⟨some (.p (.int 2001)), x4, ?_⟩
    rw [whF_eq]
    by_cases h1 : r = 1
    · simp [bnd_ev, h1]
    · have h1' : ¬ ((r : Int) = 1) := by omega
      simp [bnd_ev, h1, h1', cg]
  | succ n ih =>
    intro p r f x4 hn hp ho hr hl hf
    by_cases h1 : r = 1
    · refine ⟨some (.p (.int (p : Int))), x4, ?_⟩
      rw [whF_eq]
      subst h1
      rw [fold_one _ _ fun q hq => by have := (List.mem_range'_1.mp hq).1; omega]
      simp [bnd_ev]
    · have h1' : ¬ ((r : Int) = 1) := by omega
      by_cases h2 : p = 2001
      · subst h2
        refine ⟨some (.p (.int 2001)), x4, ?_⟩
        rw [whF_eq]
        simp [bnd_ev, h1, h1', cg]
      · have hp2 : 2 ≤ p := by omega
        have hp3 : p ≤ 2000 := by omega
        have e := wb_ok hp2 hp3 hr f (by omega) x0 x4 s
        obtain ⟨g1, g2⟩ := stp_low (f := f) hp2 hr hl
        have hlen : (stp (r, f) p).2.length ≤ f.length + 1 := by
          unfold stp
          rw [List.length_append]
          dsimp only
          split <;> simp
        have hle : ((p : Int) ≤ 2000) := by omega
        by_cases h3 : p = 2
        · obtain ⟨p', x', k⟩ := ih 3 (stp (r, f) p).1 (stp (r, f) p).2 (some (.p (.int ((dv p r).2 : Int)))) (by omega) (by decide) (Or.inr ⟨by decide, rfl⟩) g1 (by rw [h3] at g2 ⊢; exact g2) (by omega)
          refine ⟨p', x', ?_⟩
          rw [whF_eq, show (2001 - p) = (2001 - 3) + 1 by omega, List.range'_succ, List.foldl_cons, show p + 1 = 3 by omega]
          rw [if_pos h3, show p + 1 = 3 by omega] at e
          simp [bnd_ev, h1, h1', cg, hle, e, -Int.cast_ofNat_Int]
          exact k
        · obtain ⟨p', x', k⟩ := ih (p + 2) (stp (r, f) p).1 (stp (r, f) p).2 (some (.p (.int ((dv p r).2 : Int)))) (by omega) (by omega) (Or.inr ⟨by omega, by omega⟩) g1 (fun d d2 dp => by
            by_cases z : d = p + 1
            · rw [z]
              exact g2.skip ⟨2, by decide, by omega, Nat.dvd_of_mod_eq_zero (by omega)⟩
            · exact g2 d d2 (by omega)) (by omega)
          refine ⟨p', x', ?_⟩
          have hs := stp_no (f := (stp (r, f) p).2) (g2.skip (p := p + 1) ⟨2, by decide, by omega, Nat.dvd_of_mod_eq_zero (by omega)⟩)
          rw [show (2001 - p) = (2001 - (p + 2)) + 1 + 1 by omega, List.range'_succ, List.foldl_cons, List.range'_succ, List.foldl_cons, show stp (stp (r, f) p) (p + 1) = stp (r, f) p from hs]
          rw [if_neg h3] at e
          rw [show ((stp (r, f) p).1, (stp (r, f) p).2) = stp (r, f) p from rfl] at k
          rw [show p + 1 + 1 = p + 2 from rfl]
          generalize List.foldl stp (stp (r, f) p) (List.range' (p + 2) (2001 - (p + 2))) = q at *
          rw [whF_eq]
          simp [bnd_ev, h1, h1', hle, e, -Int.natCast_add, show (c_GREATEST = P.int 2000) from rfl]
          exact k
theorem fin_new {n : Nat} {s s' : S} (h : ¬ n < s.length) : fin s (.obj n) s' = .ok (.obj n) s' := if_neg h
theorem parted_ok (z : Int) (hz : z ≠ 0) (s : S) : m_parted [.p (.int z)] s = .ok (.obj (s.length + 1)) (s ++ [some (.lst (pzP (prt z.natAbs).2)), some (.tpl [.obj s.length, .p (.int ((prt z.natAbs).1 : Int))])]) := by
  obtain ⟨p', x', e⟩ := par_wh (some (.p (.int z))) s 1999 2 z.natAbs [] none (by decide) (by decide) (Or.inl rfl) (by omega) (fun d d2 dp => by omega) (by decide)
  have c2 : c_LEAST = .int 2 := rfl
  have hab : absD [.p (.int z)] s = .ok (.p (.int (z.natAbs : Int))) s := by simp
  unfold WB at e
  change _ = R.ok (Fl.nx [some (.p (.int z)), some (.p (.int ((prt z.natAbs).1 : Int))), some (.obj s.length), p', x']) (s ++ [some (.lst (pzP (prt z.natAbs).2))]) at e
  simp only [show pzP [] = [] from rfl] at e
  rw [show (D.p (.int ((2 : Nat) : Int))) = D.p c_LEAST from rfl] at e
  generalize prt z.natAbs = q at *
  obtain ⟨R', F⟩ := q
  simp [m_parted, defM_if, B_parted, hab, e, newT_ev]
  exact fin_new (by omega)
theorem tpl_end (s : S) (a : Option O) (ds : List D) : (s ++ [a, some (.tpl ds)])[s.length + 1]? = some (some (.tpl ds)) := by
  rw [List.getElem?_append_right (by omega), show s.length + 1 - s.length = 1 by omega]
  rfl
theorem need_int (z : Int) (hz : z ≠ 0) (s : S) : m_need_parted [.p (.int z)] s = .ok (.p .non) s := by
  simp [m_need_parted, defM_if, B_need_parted, is_number_int, hz]
theorem need_bad {x : P} (h : okB x = true) (hn : isNumP x = false) (s : S) : m_need_parted [.p x] s = .exn "BadNumber" s := by
  simp [m_need_parted, defM_if, B_need_parted, is_number_any h, hn]
theorem need_zero (s : S) : m_need_parted [.p (.int 0)] s = .exn "BadNumber" s := by
  simp [m_need_parted, defM_if, B_need_parted, is_number_int]
theorem parts_ok (z : Int) (hz : z ≠ 0) (s : S) : m_parts [.p (.int z)] s = .ok (.obj s.length) (s ++ [some (.lst (pzP (prt z.natAbs).2)), some (.tpl [.obj s.length, .p (.int ((prt z.natAbs).1 : Int))])]) := by
  have e := parted_ok z hz s
  generalize prt z.natAbs = q at *
  have u := utpF_ev (n := 2) (g := consT (setG 1) (consT (setG 2) nilT)) (m := calE m_parted [vE 0]) (ρ := [some (.p (.int z)), none, none]) (s := s) (by simp [e]; exact ⟨rfl, rfl⟩) (tpl_end s _ _) rfl
  simp [m_parts, defM_if, B_parts, need_int z hz, u]
  exact fin_new (by omega)
theorem left_ok (z : Int) (hz : z ≠ 0) (s : S) : m_left [.p (.int z)] s = .ok (.p (.int ((prt z.natAbs).1 : Int))) s := by
  have e := parted_ok z hz s
  generalize prt z.natAbs = q at *
  have u := utpF_ev (n := 2) (g := consT (setG 1) (consT (setG 2) nilT)) (m := calE m_parted [vE 0]) (ρ := [some (.p (.int z)), none, none]) (s := s) (by simp [e]; exact ⟨rfl, rfl⟩) (tpl_end s _ _) rfl
  simp [m_left, defM_if, B_left, need_int z hz, u]
theorem parts_exn {x : P} (h : ∀ s, m_need_parted [.p x] s = .exn "BadNumber" s) (s : S) : m_parts [.p x] s = .exn "BadNumber" s := by
  simp [m_parts, defM_if, B_parts, h]
theorem left_exn {x : P} (h : ∀ s, m_need_parted [.p x] s = .exn "BadNumber" s) (s : S) : m_left [.p x] s = .exn "BadNumber" s := by
  simp [m_left, defM_if, B_left, h]

/-! ### the law's own parting -/
theorem in_wh2 {p : Nat} (hp : 2 ≤ p) (h2 : p ≤ 2000) (x0 x1 x3 : Option D) (s : S) : ∀ (n r o : Nat), r ≤ n → 0 < r →
    whF (tB (op2 (eqD false) ((op2 (modD) (vE 2) (vE 4))) (cE (.int 0)))) (parF 2 5 [(op2 (divD) (vE 2) (vE 4)), (op2 (addD true) (vE 5) (cE (.int 1)))]) [x0, x1, some (.p (.int (r : Int))), x3, some (.p (.int (p : Int))), some (.p (.int (o : Int)))] s =
      .ok (.nx [x0, x1, some (.p (.int ((dv p r).1 : Int))), x3, some (.p (.int (p : Int))), some (.p (.int ((o + (dv p r).2 : Nat) : Int)))]) s := by
  intro n
  induction n with
  | zero => intro r o h h0; omega
  | succ n ih =>
    intro r o h h0
    have km := divs hp h2
    have hp0 : ¬ p = 0 := by omega
    rw [whF_eq]
    by_cases hm : r % p = 0
    · obtain ⟨a1, a2, a3⟩ := div_pos_of hp h0 hm
      have hz : (((r % p : Nat) : Int)) = 0 := by omega
      have e := ih (r / p) (o + 1) (by omega) a1
      rw [dv_yes hp h0 hm]
      have e1 : ((o : Int) + 1) = ((o + 1 : Nat) : Int) := by omega
      have e2 : (o + ((dv p (r / p)).2 + 1)) = o + 1 + (dv p (r / p)).2 := by omega
      dsimp only
      rw [e2]
      simp [bnd_ev, km, hp0, cast_mod, cast_div, hz, e1, -Int.natCast_emod, -Int.natCast_ediv, -Int.natCast_add]
      exact e
    · have hz : ¬ (((r % p : Nat) : Int)) = 0 := by omega
      rw [dv_no hm]
      simp [bnd_ev, km, hp0, cast_mod, hm, -Int.natCast_emod]
noncomputable def LP : SF := (seqF (asgF (cE (.int 0)) (setG 5)) (seqF (whF (tB (op2 (eqD false) ((op2 (modD) (vE 2) (vE 4))) (cE (.int 0)))) (parF 2 5 [(op2 (divD) (vE 2) (vE 4)), (op2 (addD true) (vE 5) (cE (.int 1)))])) (asgF ((op2 (addD true) (vE 3) ((op2 (mulD true) ((lstE [(tupE [vE 4, vE 5])])) ((calE intD [(op2 (gtD) (vE 5) (cE (.int 0)))])))))) (setG 3))))
theorem lp_ok {p r : Nat} (hp : 2 ≤ p) (h2 : p ≤ 2000) (hr : 0 < r) (f : List (Nat × Nat)) (hf : f.length ≤ 5000) (x0 x1 x5 : Option D) (s : S) :
    LP [x0, x1, some (.p (.int (r : Int))), some (.p (.lst (pzP f))), some (.p (.int (p : Int))), x5] s =
      .ok (.nx [x0, x1, some (.p (.int ((stp (r, f) p).1 : Int))), some (.p (.lst (pzP (stp (r, f) p).2))), some (.p (.int (p : Int))), some (.p (.int ((dv p r).2 : Int)))]) s := by
  have e := in_wh2 hp h2 x0 x1 (some (.p (.lst (pzP f)))) s r r 0 (Nat.le_refl _) hr
  rw [Nat.zero_add, show ((0 : Nat) : Int) = 0 from rfl] at e
  have m0 : ∀ (x : P) (s : S), mulD true (.p (.lst [x])) (.p (.int 0)) s = .ok (.p (.lst [])) s := fun _ _ => rfl
  have m1 : ∀ (x : P) (s : S), mulD true (.p (.lst [x])) (.p (.int 1)) s = .ok (.p (.lst [x])) s := fun _ _ => rfl
  have hl : (pzP f).length + 1 ≤ sizeLine := by rw [pzP_len, sizeLine_eq]; omega
  have hl0 : (pzP f).length ≤ sizeLine := by omega
  unfold LP
  unfold stp
  generalize dv p r = q at *
  obtain ⟨r', o⟩ := q
  by_cases ho : 0 < o
  · have ho' : (0 : Int) < (o : Int) := by omega
    simp [e, ho, ho', m1, hl, pzP_app, tupk]
  · have ho0 : o = 0 := by omega
    subst ho0
    simp [e, m0, hl0, tupk]
theorem lp_for (x0 x1 : Option D) (s : S) : ∀ (l : List Nat) (r : Nat) (f : List (Nat × Nat)) (x4 x5 : Option D), (∀ p ∈ l, 2 ≤ p ∧ p ≤ 2000) → 0 < r → f.length + l.length ≤ 5000 →
    ∃ y4 y5, forL [] (setG 4) LP (l.map fun p : Nat => P.int (p : Int)) [x0, x1, some (.p (.int (r : Int))), some (.p (.lst (pzP f))), x4, x5] s =
      .ok (.nx [x0, x1, some (.p (.int ((l.foldl stp (r, f)).1 : Int))), some (.p (.lst (pzP (l.foldl stp (r, f)).2))), y4, y5]) s
  | [], r, f, x4, x5, _, _, _ => ⟨x4, x5, forL_nil⟩
  | p :: l, r, f, x4, x5, hl, hr, hn => by
    obtain ⟨p2, p3⟩ := hl p List.mem_cons_self
    rw [List.length_cons] at hn
    have e := lp_ok p2 p3 hr f (by omega) x0 x1 x5 s
    have hlen : (stp (r, f) p).2.length ≤ f.length + 1 := by
      unfold stp
      rw [List.length_append]
      dsimp only
      split <;> simp
    obtain ⟨b1, b2, b3, b4⟩ := dv_facts p2 r r (Nat.le_refl _) hr
    obtain ⟨y4, y5, k⟩ := lp_for x0 x1 s l (stp (r, f) p).1 (stp (r, f) p).2 (some (.p (.int (p : Int)))) (some (.p (.int ((dv p r).2 : Int)))) (fun q hq => hl q (List.mem_cons_of_mem _ hq)) b1 (by omega)
    refine ⟨y4, y5, ?_⟩
    rw [List.map_cons, forL_cons]
    simp [e]
    exact k
/-- a row of the small ones: it may hold more than the primes -/
def Sml (l : List Nat) : Prop := ∃ keep : Nat → Bool, l = (List.range' 2 1999).filter keep ∧ (∀ n, keep n = false → ∃ d, 2 ≤ d ∧ d < n ∧ d ∣ n)
theorem Sml.mem {l : List Nat} (h : Sml l) {p : Nat} (hp : p ∈ l) : 2 ≤ p ∧ p ≤ 2000 := by
  obtain ⟨keep, rfl, _⟩ := h
  have := List.mem_range'_1.mp (List.mem_filter.mp hp).1
  omega
theorem Sml.len {l : List Nat} (h : Sml l) : l.length ≤ 1999 := by
  obtain ⟨keep, rfl, _⟩ := h
  exact Nat.le_trans (List.length_filter_le ..) (by rw [List.length_range']; exact Nat.le_refl _)
theorem Sml.two {l : List Nat} (h : Sml l) : 2 ∈ l := by
  obtain ⟨keep, rfl, hk⟩ := h
  refine List.mem_filter.mpr ⟨List.mem_range'_1.mpr (by decide), ?_⟩
  cases e : keep 2 with
  | true => rfl
  | false =>
    obtain ⟨d, d1, d2, _⟩ := hk 2 e
    omega
theorem Sml.prt {l : List Nat} (h : Sml l) {r : Nat} (hr : 0 < r) : l.foldl stp (r, []) = prt r := by
  obtain ⟨keep, rfl, hk⟩ := h
  exact fold_keep keep 1999 2 r [] (by decide) hr (fun d d2 dp => by omega) fun n _ _ h => hk n h
def smP (l : List Nat) : List P := l.map fun p : Nat => P.int (p : Int)
theorem Lparted_ok {l : List Nat} (h : Sml l) (z : Int) (hz : z ≠ 0) (s : S) : m_Lparted [.p (.lst (smP l)), .p (.int z)] s = .ok (.p (.tup [.lst (pzP (prt z.natAbs).2), .int ((prt z.natAbs).1 : Int)])) s := by
  obtain ⟨y4, y5, e⟩ := lp_for (some (.p (.lst (smP l)))) (some (.p (.int z))) s l z.natAbs [] none none (fun p hp => h.mem hp) (by omega) (by have := h.len; simp; omega)
  rw [h.prt (by omega)] at e
  simp only [show pzP [] = [] from rfl] at e
  generalize prt z.natAbs = q at *
  obtain ⟨R', F⟩ := q
  have hf := forF_of (i := rowI (vE 0)) (ρ := [some (.p (.lst (smP l))), some (.p (.int z)), some (.p (.int (z.natAbs : Int))), some (.p (.lst [])), none, none]) (s := s) (rowI_lst (xs := smP l) rfl) e
  unfold LP at hf
  by_cases h0 : z < 0
  · have e2 : -z = (z.natAbs : Int) := by omega
    simp [m_Lparted, defM_if, B_Lparted, h0, e2, hf, tupk]
  · have e2 : z = (z.natAbs : Int) := by omega
    have hf' := hf
    rw [← e2] at hf'
    simp [m_Lparted, defM_if, B_Lparted, h0, hf', tupk]

/-! ### the sieve -/
def cr (c : Nat → Bool) : List P := (List.range 2001).map fun j => P.bl (c j)
def Sv (c : Nat → Bool) : Prop := ∀ n, c n = true → ∃ d, 2 ≤ d ∧ d < n ∧ d ∣ n
theorem cr_len (c : Nat → Bool) : (cr c).length = 2001 := by unfold cr; rw [List.length_map, List.length_range]
theorem cr_set (c : Nat → Bool) (i : Nat) : (cr c).set i (.bl true) = cr fun j => c j || j == i := by
  refine List.ext_getElem? fun j => ?_
  rw [List.getElem?_set, cr_len]
  unfold cr
  rw [List.getElem?_map, List.getElem?_map]
  by_cases hj : j < 2001
  · rw [List.getElem?_range hj]
    by_cases e : i = j
    · subst e
      simp [hj]
    · have e' : (j == i) = false := by simp; omega
      simp [e, e']
  · rw [List.getElem?_eq_none (by rw [List.length_range]; omega)]
    by_cases e : i = j
    · subst e
      simp [hj]
    · simp [e]
theorem Sv.set {c : Nat → Bool} (h : Sv c) {i : Nat} (hi : ∃ d, 2 ≤ d ∧ d < i ∧ d ∣ i) : Sv fun j => c j || j == i := fun n hn => by
  rcases Bool.or_eq_true_iff.mp hn with z | z
  · exact h n z
  · rw [show n = i by simpa using z]
    exact hi
theorem sv_in (x1 : Option D) (s : S) : ∀ (xs : List P) (c : Nat → Bool) (x2 : Option D), Sv c → (∀ x ∈ xs, ∃ i : Nat, x = .int (i : Int) ∧ i < 2001 ∧ ∃ d, 2 ≤ d ∧ d < i ∧ d ∣ i) →
    ∃ c' y2, Sv c' ∧ forL [] (setG 2) (lputF (vE 0) (vE 2) (cE (.bl true))) xs [some (.obj s.length), x1, x2] (s ++ [some (.lst (cr c))]) = .ok (.nx [some (.obj s.length), x1, y2]) (s ++ [some (.lst (cr c'))])
  | [], c, x2, h, _ => ⟨c, x2, h, forL_nil⟩
  | x :: xs, c, x2, h, hx => by
    obtain ⟨i, rfl, i1, i2⟩ := hx x List.mem_cons_self
    obtain ⟨c', y2, h', k⟩ := sv_in x1 s xs (fun j => c j || j == i) (some (.p (.int (i : Int)))) (h.set i2) fun y hy => hx y (List.mem_cons_of_mem _ hy)
    refine ⟨c', y2, h', ?_⟩
    have e : lputk [some (.obj s.length), x1, some (.p (.int (i : Int)))] (.p (.bl true)) (.obj s.length) (.p (.int (i : Int))) (s ++ [some (.lst (cr c))]) = .ok (.nx [some (.obj s.length), x1, some (.p (.int (i : Int)))]) (s ++ [some (.lst (cr fun j => c j || j == i))]) := by
      unfold lputk
      dsimp only
      rw [get_end]
      dsimp only
      rw [ixN_ok (by omega) (by rw [cr_len]; omega), Int.toNat_natCast]
      dsimp only
      rw [set_end, cr_set]
    rw [forL_cons]
    simp [e]
    exact k
theorem r3_ev (ms : List EF) (ρ : En) (s s1 : S) (i j c : Int) (h : evA ms ρ s = .ok [.p (.int i), .p (.int j), .p (.int c)] s1) (hc : c ≠ 0 ∧ c.natAbs < 1073741824 ∧ Builtin.Range.small i j c = true ∧ 0 ≤ Builtin.Range.rangeSize i j c) :
    r3I ms ρ s = .ok ((List.range (Builtin.Range.rangeSize i j c).toNat).map (fun k => P.int (i + (k : Nat) * c)), []) s1 := by
  unfold r3I
  rw [bnd_ev, h, R.bind_ok]
  exact if_pos hc
theorem sv_rng : ∀ b : Nat, b ∈ List.range' 2 43 → Builtin.Range.small ((b : Int) * b) 2001 b = true ∧ Builtin.Range.rangeSize ((b : Int) * b) 2001 b = (2000 - (b : Int) * b) / b + 1 ∧ b * b ≤ 1936 := by decide +kernel
theorem sv_out (s : S) : ∀ (l : List Nat) (c : Nat → Bool) (x1 x2 : Option D), Sv c → (∀ b ∈ l, b ∈ List.range' 2 43) →
    ∃ c' y1 y2, Sv c' ∧ forL [] (setG 1) (forF (r3I [(op2 (mulD true) (vE 1) (vE 1)), cE (.int 2001), vE 1]) (setG 2) (lputF (vE 0) (vE 2) (cE (.bl true)))) (l.map fun b : Nat => P.int (b : Int)) [some (.obj s.length), x1, x2] (s ++ [some (.lst (cr c))]) = .ok (.nx [some (.obj s.length), y1, y2]) (s ++ [some (.lst (cr c'))])
  | [], c, x1, x2, h, _ => ⟨c, x1, x2, h, forL_nil⟩
  | b :: l, c, x1, x2, h, hl => by
    have hb := hl b List.mem_cons_self
    obtain ⟨g1, g2, g3⟩ := sv_rng b hb
    have hb2 := List.mem_range'_1.mp hb
    have hq : 0 ≤ (2000 - (b : Int) * b) / b := Int.ediv_nonneg (by have : ((b * b : Nat) : Int) = (b : Int) * b := Int.natCast_mul b b; omega) (by omega)
    obtain ⟨c1, y2, h1, k1⟩ := sv_in (some (.p (.int (b : Int)))) s ((List.range (Builtin.Range.rangeSize ((b : Int) * b) 2001 b).toNat).map (fun k => P.int ((b : Int) * b + (k : Nat) * b))) c x2 h (fun x hx => by
      obtain ⟨k, hk, rfl⟩ := List.mem_map.mp hx
      have hk := List.mem_range.mp hk
      rw [g2] at hk
      have hk' : (k : Int) ≤ (2000 - (b : Int) * b) / b := by omega
      have m1 : (k : Int) * b ≤ (2000 - (b : Int) * b) / b * b := Int.mul_le_mul_of_nonneg_right hk' (by omega)
      have m2 : (2000 - (b : Int) * b) / b * b ≤ 2000 - (b : Int) * b := Int.ediv_mul_le _ (by omega)
      have e : ((b * b + k * b : Nat) : Int) = (b : Int) * b + (k : Nat) * b := by simp
      have bb : b * 2 ≤ b * b := Nat.mul_le_mul_left b (by omega)
      refine ⟨b * b + k * b, congrArg P.int e.symm, by omega, b, by omega, by omega, ⟨b + k, ?_⟩⟩
      rw [Nat.mul_add, Nat.mul_comm k b])
    obtain ⟨c2, z1, z2, h2, k2⟩ := sv_out s l c1 (some (.p (.int (b : Int)))) y2 h1 fun a ha => hl a (List.mem_cons_of_mem _ ha)
    have km : mulOk (b : Int) (b : Int) := mulR (by omega) (by omega)
    have hr := r3_ev [(op2 (mulD true) (vE 1) (vE 1)), cE (.int 2001), vE 1] [some (.obj s.length), some (.p (.int (b : Int))), x2] (s ++ [some (.lst (cr c))]) (s ++ [some (.lst (cr c))]) ((b : Int) * b) 2001 b (by simp [km]) ⟨by omega, by omega, g1, by rw [g2]; omega⟩
    have hf := forF_of (tg := setG 2) (f := lputF (vE 0) (vE 2) (cE (.bl true))) hr k1
    refine ⟨c2, z1, z2, h2, ?_⟩
    rw [List.map_cons, forL_cons]
    simp [hf]
    exact k2
theorem ranP_cast (a : Nat) (k : Nat) : ranP (a : Int) k = (List.range' a k).map fun b : Nat => P.int (b : Int) := by
  unfold ranP
  rw [List.range'_eq_map_range, List.map_map]
  congr 1
theorem lcE_ixs (s : S) (c : Nat → Bool) : ((ranP 2 1999).filter (fun y => match y with | .int z => !c z.toNat | _ => false)) = smP ((List.range' 2 1999).filter fun n => !c n) := by
  rw [show (2 : Int) = ((2 : Nat) : Int) from rfl, ranP_cast, List.filter_map]
  rfl
theorem Lsmall_ok (s : S) : ∃ l, Sml l ∧ m_Lsmall [] s = .ok (.p (.lst (smP l))) s := by
  have r0 : ∀ (k : Nat), (List.replicate k [P.bl false]).flatten = List.replicate k (.bl false) := fun k => by
    induction k with
    | zero => rfl
    | succ k ih => rw [List.replicate_succ, List.flatten_cons, ih, List.replicate_succ]; rfl
  have m0 : mulD false (.p (.lst [.bl false])) (.p (.int 2001)) s = .ok (.obj s.length) (s ++ [some (.lst (cr fun _ => false))]) := by
    unfold mulD
    dsimp only
    show (if -(2 ^ 63) ≤ (2001 : Int) ∧ (2001 : Int) < 2 ^ 63 ∧ [P.bl false].length * (2001 : Int).toNat ≤ sizeLine then mkL false (List.replicate (2001 : Int).toNat [P.bl false]).flatten s else .bad) = _
    rw [if_pos ⟨by decide, by decide, by rw [sizeLine_eq]; decide⟩, r0, mkL_false]
    have e : cr (fun _ => false) = List.replicate (2001 : Int).toNat (P.bl false) := by
      show (List.range 2001).map (fun _ => P.bl false) = _
      rw [List.map_const', List.length_range]
      rfl
    rw [e]
  obtain ⟨c', y1, y2, h, e⟩ := sv_out s (List.range' 2 43) (fun _ => false) none none (fun n z => by cases z) (fun b hb => hb)
  refine ⟨_, ⟨fun n => !c' n, rfl, fun n hn => h n (by simpa using hn)⟩, ?_⟩
  have hr := r2_ev (ρ := [some (.obj s.length), none, none]) (s := s ++ [some (.lst (cr fun _ => false))]) [cE (.int 2), cE (.int 45)] 2 45 _ rfl (by decide) (by decide) (by decide) (by decide)
  rw [show ranP 2 ((45 : Int) - 2).toNat = (List.range' 2 43).map fun b : Nat => P.int (b : Int) from ranP_cast 2 43] at hr
  have hf := forF_of hr e
  have hr2 := r2_ev (ρ := [some (.obj s.length), y1, y2]) (s := s ++ [some (.lst (cr c'))]) [cE (.int 2), cE (.int 2001)] 2 2001 _ rfl (by decide) (by decide) (by decide) (by decide)
  have hlc := lcE_pure (fr := true) (own := [2]) (tg := setG 2) (c := notT (tT (op2 ixD (vE 0) (vE 2)))) (m := vE 2) (fun y => [some (.obj s.length), y1, some (.p y)]) (fun y => match y with | .int z => !c' z.toNat | _ => false) (fun y => y) hr2 (by rw [ranP_len, sizeLine_eq]; decide) (fun x hx => by
    unfold ranP at hx
    obtain ⟨k, hk, rfl⟩ := List.mem_map.mp hx
    have hk := List.mem_range.mp hk
    have hk : k < 1999 := hk
    have ea : L2.atI (cr c') (2 + (k : Int)) = some (.bl (c' (2 + k))) := by
      unfold L2.atI
      rw [ixN_ok (by omega) (by rw [cr_len]; omega), Option.bind_some, show (2 + (k : Int)).toNat = 2 + k by omega]
      unfold cr
      rw [List.getElem?_map, List.getElem?_range (by omega)]
      rfl
    have ei := ix_obj (lsAt_endL (s := s) (cr c')) ea
    refine ⟨by simp [wipE], ?_, fun _ => by simp⟩
    simp [ei, show (2 + (k : Int)).toNat = 2 + k by omega])
  rw [List.map_id', show ((2001 : Int) - 2).toNat = 1999 from rfl, lcE_ixs s, mkL_true] at hlc
  simp [m_Lsmall, defM_if, B_Lsmall, m0, hf, hlc]

/-! ### the draws, third kind -/
theorem e18 : powOk 10 18 := by decide
def mk3 (sp st mx : Int) (cells : List Int) (rest : S) : S := some (.dic [(.inr "cells", .obj 1), (.inr "spot", .p (.int sp)), (.inr "stock", .p (.int st)), (.inr "mixed", .p (.int mx))]) :: some (.lst (cells.map .int)) :: rest
section
variable (sp st mx : Int) (cells : List Int) (rest : S) (ρ : En)
theorem mk3_cells : dgetD (.obj 0) (.p (.str "cells")) (mk3 sp st mx cells rest) = .ok (.obj 1) (mk3 sp st mx cells rest) := rfl
theorem mk3_spot : dgetD (.obj 0) (.p (.str "spot")) (mk3 sp st mx cells rest) = .ok (.p (.int sp)) (mk3 sp st mx cells rest) := rfl
theorem mk3_stock : dgetD (.obj 0) (.p (.str "stock")) (mk3 sp st mx cells rest) = .ok (.p (.int st)) (mk3 sp st mx cells rest) := rfl
theorem mk3_mixed : dgetD (.obj 0) (.p (.str "mixed")) (mk3 sp st mx cells rest) = .ok (.p (.int mx)) (mk3 sp st mx cells rest) := rfl
theorem mk3_put_spot (i : Int) : dputk ρ (.p (.int i)) (.obj 0) (.p (.str "spot")) (mk3 sp st mx cells rest) = .ok (.nx ρ) (mk3 i st mx cells rest) := rfl
theorem mk3_put_stock (i : Int) : dputk ρ (.p (.int i)) (.obj 0) (.p (.str "stock")) (mk3 sp st mx cells rest) = .ok (.nx ρ) (mk3 sp i mx cells rest) := rfl
theorem mk3_put_mixed (i : Int) : dputk ρ (.p (.int i)) (.obj 0) (.p (.str "mixed")) (mk3 sp st mx cells rest) = .ok (.nx ρ) (mk3 sp st i cells rest) := rfl
theorem mk3_len : lenD [.obj 1] (mk3 sp st mx cells rest) = .ok (.p (.int cells.length)) (mk3 sp st mx cells rest) := by
  show R.ok (D.p (.int ((cells.map P.int).length : Nat))) _ = _
  rw [List.length_map]
theorem mk3_ix (z : Int) (h0 : 0 ≤ z) (h : z < cells.length) : ixD (.obj 1) (.p (.int z)) (mk3 sp st mx cells rest) = .ok (.p (.int (cells[z.toNat]'(by omega)))) (mk3 sp st mx cells rest) := by
  show (match L2.atI (cells.map P.int) z with
        | some z => R.ok (D.p z) (mk3 sp st mx cells rest)
        | none => .bad) = _
  have e : L2.atI (cells.map P.int) z = some (.int (cells[z.toNat]'(by omega))) := by
    unfold L2.atI
    rw [ixN_ok h0 (by rw [List.length_map]; exact h), Option.bind_some, List.getElem?_map, List.getElem?_eq_getElem (by omega)]
    rfl
  rw [e]
theorem fin_mk3 (sp' st' mx' : Int) (x : P) : fin (mk3 sp st mx cells rest) (.p x) (mk3 sp' st' mx' cells rest) = .ok (.p x) (mk3 sp' st' mx' cells rest) := by
  have := fin_dl (some (.dic [(.inr "cells", .obj 1), (.inr "spot", .p (.int sp)), (.inr "stock", .p (.int st)), (.inr "mixed", .p (.int mx))])) (some (.lst (cells.map .int))) [(.inr "cells", .obj 1), (.inr "spot", .p (.int sp')), (.inr "stock", .p (.int st')), (.inr "mixed", .p (.int mx'))] (cells.map .int) rest [] x (fun kv hkv m hm => by
    simp at hkv
    rcases hkv with rfl | rfl | rfl | rfl
    · cases hm; decide
    · cases hm
    · cases hm
    · cases hm)
  rwa [List.append_nil] at this
end
theorem Lstart_ok (ns : List Int) (hl : ns.length ≤ 63) : m_Lstart [.p (.con (ns.map P.int))] [] = .ok (.obj 0) (mk3 0 0 0 (ns ++ [(ns.length : Int)]) []) := by
  have hlen : ∀ s, lenD [.p (.con (ns.map P.int))] s = .ok (.p (.int ns.length)) s := by
    intro s
    show R.ok (D.p (.int ((ns.map P.int).length : Nat))) s = _
    rw [List.length_map]
  have hadd : ∀ (s : S), addD false (.p (.con (ns.map P.int))) (.p (.lst [.int ns.length])) s = .ok (.obj s.length) (s ++ [some (.lst ((ns ++ [(ns.length : Int)]).map P.int))]) := fun s => by
    show addk false (some (ns.map P.int)) [.int ns.length] s = _
    rw [addk_some, if_pos (by rw [List.length_map, sizeLine_eq]; show ns.length + 1 ≤ _; omega), mkL_false, List.map_append]
    rfl
  simp [m_Lstart, defM_if, B_Lstart, hlen, hadd]
  unfold mk3
  rw [List.map_append]
  rfl
theorem Ldraw_ok (sp st mx top : Int) (cells : List Int) (rest : S) (hc : cells ≠ []) (hm : 0 < top) (hs : szi top 8000) (m0 : 0 ≤ mx) (m1 : mx < 90000) :
    ∃ d sp' st' mx', 0 ≤ d ∧ d < top ∧ 0 ≤ mx' ∧ mx' ≤ mx + 1 ∧ m_Ldraw [.obj 0, .p (.int top)] (mk3 sp st mx cells rest) = .ok (.p (.int d)) (mk3 sp' st' mx' cells rest) := by
  have hm' : top ≠ 0 := by omega
  have km : ∀ z, divOk z top := fun z => hs.divOk (by decide) (by decide) hm'
  have tail : ∀ z : Int, 0 ≤ z.fmod top ∧ z.fmod top < top := fun z => ⟨Int.fmod_nonneg_of_pos z hm, Int.fmod_lt_of_pos z hm⟩
  suffices hsu : ∃ z sp' st' mx', 0 ≤ mx' ∧ mx' ≤ mx + 1 ∧ m_Ldraw [.obj 0, .p (.int top)] (mk3 sp st mx cells rest) = .ok (.p (.int (Int.fmod z top))) (mk3 sp' st' mx' cells rest) from by
    obtain ⟨z, sp', st', mx', a0, a1, h⟩ := hsu
    exact ⟨_, sp', st', mx', (tail z).1, (tail z).2, a0, a1, h⟩
  by_cases hst : 0 < st
  · refine ⟨st, sp, st.fdiv top, mx, m0, by omega, ?_⟩
    simp [m_Ldraw, defM_if, B_Ldraw, mk3_stock, mk3_put_stock, hst, hm', km, fin_mk3]
  · have hl : (0 : Int) < cells.length := by
      cases cells with
      | nil => exact absurd rfl hc
      | cons c cs => simp
    have hl' : (cells.length : Int) ≠ 0 := by omega
    have hl2 : cells ≠ [] := hc
    have j0 := Int.fmod_nonneg_of_pos sp hl
    have j1 := Int.fmod_lt_of_pos sp hl
    have hix := mk3_ix sp st mx cells rest (sp.fmod cells.length) j0 j1
    generalize hx : cells[(sp.fmod cells.length).toNat]'(by omega) = x at hix
    by_cases hg : 1000000000000000000 ≤ x ∧ sp + 1 ≤ cells.length
    · refine ⟨x, sp + 1, x.fdiv top, mx, m0, by omega, ?_⟩
      simp [m_Ldraw, defM_if, B_Ldraw, mk3_cells, mk3_spot, mk3_mixed, mk3_len, mk3_put_spot, mk3_put_mixed, mk3_stock, mk3_put_stock, hst, hm', km, fin_mk3, hix, hl', hl2, e18, hg.1, hg.2]
    · have k1 : mulOk 7901 (mx + 1) := Or.inr (Or.inl (by decide))
      have k2 : mulOk (7901 * (mx + 1)) (mx + 1) := Or.inr (Or.inr (by omega))
      have k3 : mulOk 13 (sp + 1) := Or.inr (Or.inl (by decide))
      have k4 : ∀ z : Int, mulOk (z.fmod 2147483647) (z.fmod 2147483647) := fun z => Or.inr (Or.inl (by
        have := Int.fmod_nonneg_of_pos z (b := 2147483647) (by decide)
        have := Int.fmod_lt_of_pos z (b := 2147483647) (by decide)
        omega))
      have k5 : ∀ z y : Int, mulOk (z.fmod 2147483629) y := fun z y => Or.inr (Or.inl (by
        have := Int.fmod_nonneg_of_pos z (b := 2147483629) (by decide)
        have := Int.fmod_lt_of_pos z (b := 2147483629) (by decide)
        omega))
      have k6 : ∀ z : Int, mulOk z 69697 := fun z => Or.inr (Or.inr (by decide))
      have k7 : ∀ z, divOk z 11 := fun z => ⟨by decide, PyProof.noPylong_of_log2 (by decide)⟩
      have hno : ¬ (1000000000000000000 ≤ x) ∨ ¬ (sp + 1 ≤ cells.length) := by
        rcases Classical.em (1000000000000000000 ≤ x) with z | z
        · exact Or.inr fun w => hg ⟨z, w⟩
        · exact Or.inl z
      refine ⟨((((((x.fmod 998244353 + 7901 * (mx + 1) * (mx + 1) + 13 * (sp + 1)).fmod 2147483647) * ((x.fmod 998244353 + 7901 * (mx + 1) * (mx + 1) + 13 * (sp + 1)).fmod 2147483647)).fmod 2147483629 * (((x.fmod 998244353 + 7901 * (mx + 1) * (mx + 1) + 13 * (sp + 1)).fmod 2147483647) + 5)).fmod 2147483647 * 69697 + (mx + 1)).fmod 2147483587).fdiv 11, sp + 1, st, mx + 1, by omega, by omega, ?_⟩
      rcases hno with z | z
      · simp [m_Ldraw, defM_if, B_Ldraw, mk3_cells, mk3_spot, mk3_mixed, mk3_len, mk3_put_spot, mk3_put_mixed, mk3_stock, mk3_put_stock, hst, hm', km, fin_mk3, hix, hl', hl2, e18, z, k1, k2, k3, k4, k5, k6, k7]
      · simp [m_Ldraw, defM_if, B_Ldraw, mk3_cells, mk3_spot, mk3_mixed, mk3_len, mk3_put_spot, mk3_put_mixed, mk3_stock, mk3_put_stock, hst, hm', km, fin_mk3, hix, hl', hl2, e18, z, k1, k2, k3, k4, k5, k6, k7]

theorem Lpower_fl {p : Int} (p0 : 0 ≤ p) (p1 : p ≤ 100000) (s : S) (x1 : Option D) : ∀ (k a : Nat) (c : Int) (y : Option D),
    ∃ y', forL [] (setG 3) (asgF (op2 (mulD true) (vE 2) (vE 0)) (setG 2)) ((List.range' a k).map fun i => .int (0 + ((i : Nat) : Int))) [some (.p (.int p)), x1, some (.p (.int c)), y] s = .ok (.nx [some (.p (.int p)), x1, some (.p (.int (c * p ^ k))), y']) s
  | 0, a, c, y => ⟨y, by rw [Int.pow_zero, Int.mul_one]; exact forL_nil⟩
  | k + 1, a, c, y => by
    obtain ⟨y', h3⟩ := Lpower_fl p0 p1 s x1 k (a + 1) (c * p) (some (.p (.int (0 + (a : Int)))))
    refine ⟨y', ?_⟩
    have km : mulOk c p := mulR p0 p1
    rw [List.range'_succ, List.map_cons, forL_cons]
    simp [km]
    have e : c * p ^ (k + 1) = c * p * p ^ k := by rw [Int.pow_succ]; grind
    rw [e]
    simpa using h3
theorem r1_at (s : S) (x0 x2 x3 : Option D) (j : Int) (h0 : 0 ≤ j) (h1 : j < 4611686018427387904) : r1I [vE 1] [x0, some (.p (.int j)), x2, x3] s = .ok (ranP 0 j.toNat, []) s := r1_ev _ _ _ j _ rfl (by omega) h1
theorem Lpower_ok {p : Int} (p0 : 0 ≤ p) (p1 : p ≤ 100000) (k : Nat) (hk : (k : Int) < 4611686018427387904) (s : S) : m_Lpower [.p (.int p), .p (.int k)] s = .ok (.p (.int (p ^ k))) s := by
  have hh := Lpower_fl p0 p1 s (some (.p (.int k))) k 0 1 none
  rw [← List.range_eq_range', Int.one_mul] at hh
  obtain ⟨y', h1⟩ := hh
  have hr := r1_at s (some (.p (.int p))) (some (.p (.int 1))) none k (Int.natCast_nonneg k) hk
  rw [Int.toNat_natCast] at hr
  have hf := forF_ev (i := r1I [vE 1]) (tg := setG 3) (f := asgF (op2 (mulD true) (vE 2) (vE 0)) (setG 2)) (ρ := [some (.p (.int p)), some (.p (.int k)), some (.p (.int 1)), none]) (s := s)
  rw [hr, R.bind_ok] at hf
  have hf2 := hf.trans h1
  have hB : B_Lpower [some (.p (.int p)), some (.p (.int k)), none, none] s = .ok (.rt (.p (.int (p ^ k)))) s := by
    unfold B_Lpower
    rw [seqF_ev, asgF_ev, cE_ev, R.bind_ok, setG_ev, R.bind_ok, R.bind_ok, seqk_nx, seqF_ev]
    have e : ([some (.p (.int p)), some (.p (.int k)), none, none] : En).set 2 (some (.p (.int 1))) = [some (.p (.int p)), some (.p (.int k)), some (.p (.int 1)), none] := rfl
    rw [e, hf2, R.bind_ok, seqk_nx, retF_ev]
    rfl
  unfold m_Lpower
  exact defM_rt rfl hB

theorem atI_ints (is : List Int) (d : Int) (h0 : 0 ≤ d) (h1 : d < is.length) : ∃ i, i ∈ is ∧ L2.atI (is.map P.int) d = some (.int i) := by
  refine ⟨is[d.toNat]'(by omega), List.getElem_mem _, ?_⟩
  unfold L2.atI
  rw [ixN_ok h0 (by rw [List.length_map]; exact h1), Option.bind_some, List.getElem?_map, List.getElem?_eq_getElem (by omega)]
  rfl
/-! ### the number drawn -/
theorem pick_ok (sp st mx : Int) (cells : List Int) (rest : S) (hc : cells ≠ []) (m0 : 0 ≤ mx) (m1 : mx < 80000) (xs : List P) (hx : xs ≠ []) (hl : xs.length ≤ 5000) :
    ∃ x sp' st' mx', x ∈ xs ∧ 0 ≤ mx' ∧ mx' ≤ mx + 1 ∧ m_Lpick [.obj 0, .p (.lst xs)] (mk3 sp st mx cells rest) = .ok (.p x) (mk3 sp' st' mx' cells rest) := by
  have hp : 0 < xs.length := List.length_pos_iff.mpr hx
  obtain ⟨d, s1, t1, x1, d0, d1, c0, c1, e⟩ := Ldraw_ok sp st mx xs.length cells rest hc (by omega) (szi.mono (a := 64) (by unfold szi; omega) (by decide)) m0 (by omega)
  have hi : L2.atI xs d = some (xs[d.toNat]'(by omega)) := by
    unfold L2.atI
    rw [ixN_ok d0 d1, Option.bind_some, List.getElem?_eq_getElem (by omega)]
  refine ⟨xs[d.toNat]'(by omega), s1, t1, x1, List.getElem_mem _, c0, c1, ?_⟩
  simp [m_Lpick, defM_if, B_Lpick, e, hi, fin_mk3]
theorem prime_ok (sp st mx : Int) (cells : List Int) (rest : S) (hc : cells ≠ []) (m0 : 0 ≤ mx) (m1 : mx < 80000) :
    ∃ p sp' st' mx', 2 ≤ p ∧ p ≤ 2000 ∧ 0 ≤ mx' ∧ mx' ≤ mx + 1 ∧ m_Lprime [.obj 0] (mk3 sp st mx cells rest) = .ok (.p (.int p)) (mk3 sp' st' mx' cells rest) := by
  obtain ⟨d, sp', st', mx', d0, d1, a0, a1, e⟩ := Ldraw_ok sp st mx 15 cells rest hc (by decide) (szi.mono (a := 64) (by decide) (by decide)) m0 (by omega)
  obtain ⟨p, hp, ep⟩ := atI_ints [2, 2, 3, 3, 5, 7, 11, 13, 43, 97, 101, 997, 1013, 1997, 1999] d d0 d1
  have all : ∀ p ∈ [(2 : Int), 2, 3, 3, 5, 7, 11, 13, 43, 97, 101, 997, 1013, 1997, 1999], 2 ≤ p ∧ p ≤ 2000 := by decide +kernel
  have ep' : L2.atI [P.int 2, .int 2, .int 3, .int 3, .int 5, .int 7, .int 11, .int 13, .int 43, .int 97, .int 101, .int 997, .int 1013, .int 1997, .int 1999] d = some (.int p) := ep
  refine ⟨p, sp', st', mx', (all p hp).1, (all p hp).2, a0, a1, ?_⟩
  have hts : evA [cE (.int 2), cE (.int 2), cE (.int 3), cE (.int 3), cE (.int 5), cE (.int 7), cE (.int 11), cE (.int 13), cE (.int 43), cE (.int 97), cE (.int 101), cE (.int 997), cE (.int 1013), cE (.int 1997), cE (.int 1999)] [some (.obj 0)] (mk3 sp st mx cells rest) = .ok [.p (.int 2), .p (.int 2), .p (.int 3), .p (.int 3), .p (.int 5), .p (.int 7), .p (.int 11), .p (.int 13), .p (.int 43), .p (.int 97), .p (.int 101), .p (.int 997), .p (.int 1013), .p (.int 1997), .p (.int 1999)] (mk3 sp st mx cells rest) := rfl
  have htk : tupk .lst [.p (.int 2), .p (.int 2), .p (.int 3), .p (.int 3), .p (.int 5), .p (.int 7), .p (.int 11), .p (.int 13), .p (.int 43), .p (.int 97), .p (.int 101), .p (.int 997), .p (.int 1013), .p (.int 1997), .p (.int 1999)] (mk3 sp st mx cells rest) = .ok (.p (.lst [.int 2, .int 2, .int 3, .int 3, .int 5, .int 7, .int 11, .int 13, .int 43, .int 97, .int 101, .int 997, .int 1013, .int 1997, .int 1999])) (mk3 sp st mx cells rest) := rfl
  simp [m_Lprime, defM_if, B_Lprime, hts, htk, e, ep', fin_mk3, -evA_cons]
  simp [e, ep', fin_mk3]
theorem szi_pw {p : Int} (h0 : 0 ≤ p) (h : p ≤ 2000) : ∀ k : Nat, szi (p ^ k) (11 * k + 1)
  | 0 => by rw [Int.pow_zero]; decide
  | k + 1 => by
    have ih := szi_pw h0 h k
    rw [Int.pow_succ]
    exact (ih.mul (show szi p 11 by unfold szi; omega)).mono (by omega)
theorem body_ok (sp st mx : Int) (cells : List Int) (rest : S) (hc : cells ≠ []) (m0 : 0 ≤ mx) (m1 : mx < 70000) {l : List Nat} (h : Sml l) (z : Int) (n : Nat) (hz : z ≠ 0) (hs : szi z n) (n0 : 0 < n) (n1 : n ≤ 1000) (x3 : Option D) :
    ∃ z' sp' st' mx', z' ≠ 0 ∧ szi z' (n + 45) ∧ 0 ≤ mx' ∧ mx' ≤ mx + 4 ∧ asgF ((op2 (mulD true) (vE 2) ((calE m_Lpower [(calE m_Lpick [vE 0, (lstE [(calE m_Lprime [vE 0]), (calE m_Lpick [vE 0, vE 1])])]), (op2 (addD true) (cE (.int 1)) ((calE m_Ldraw [vE 0, cE (.int 4)])))])))) (setG 2) [some (.obj 0), some (.p (.lst (smP l))), some (.p (.int z)), x3] (mk3 sp st mx cells rest) =
      .ok (.nx [some (.obj 0), some (.p (.lst (smP l))), some (.p (.int z')), x3]) (mk3 sp' st' mx' cells rest) := by
  obtain ⟨p1, s1, t1, u1, a1, a2, c1, d1, e1⟩ := prime_ok sp st mx cells rest hc m0 (by omega)
  obtain ⟨y2, s2, t2, u2, hy, c2, d2, e2⟩ := pick_ok s1 t1 u1 cells rest hc c1 (by omega) (smP l) (fun z => by have := h.two; unfold smP at z; rw [List.map_eq_nil_iff] at z; rw [z] at this; cases this) (by unfold smP; rw [List.length_map]; have := h.len; omega)
  obtain ⟨b, hb, rfl⟩ := List.mem_map.mp hy
  obtain ⟨b1, b2⟩ := h.mem hb
  obtain ⟨y3, s3, t3, u3, hy3, c3, d3, e3⟩ := pick_ok s2 t2 u2 cells rest hc c2 (by omega) [P.int p1, P.int (b : Int)] (by simp) (by simp)
  obtain ⟨p, rfl, p2, p3⟩ : ∃ p : Int, y3 = .int p ∧ 2 ≤ p ∧ p ≤ 2000 := by
    simp only [List.mem_cons, List.not_mem_nil, or_false] at hy3
    rcases hy3 with rfl | rfl
    · exact ⟨_, rfl, a1, a2⟩
    · exact ⟨_, rfl, by omega, by omega⟩
  obtain ⟨d, s4, t4, u4, g0, g1, c4, d4, e4⟩ := Ldraw_ok s3 t3 u3 4 cells rest hc (by decide) (szi.mono (a := 64) (by decide) (by decide)) c3 (by omega)
  have hk : (1 + d) = ((1 + d.toNat : Nat) : Int) := by omega
  have e5 := Lpower_ok (p := p) (by omega) (by omega) (1 + d.toNat) (by omega) (mk3 s4 t4 u4 cells rest)
  rw [← hk] at e5
  have hsz := szi_pw (p := p) (by omega) p3 (1 + d.toNat)
  have hsz' : szi (p ^ (1 + d.toNat)) 45 := hsz.mono (by omega)
  have hp0 : p ^ (1 + d.toNat) ≠ 0 := Int.ne_of_gt (Int.pow_pos (by omega))
  have km : mulOk z (p ^ (1 + d.toNat)) := hs.mulOk hsz' (by omega) n0 (by decide)
  refine ⟨z * p ^ (1 + d.toNat), s4, t4, u4, Int.mul_ne_zero hz hp0, hs.mul hsz', c4, by omega, ?_⟩
  simp [e1, e2, e3, e4, e5, km, tupk]
theorem Lnumber_ok (sp st mx : Int) (cells : List Int) (rest : S) (hc : cells ≠ []) (m0 : 0 ≤ mx) (m1 : mx < 60000) {l : List Nat} (h : Sml l) :
    ∃ z sp' st' mx', z ≠ 0 ∧ szi z 1000 ∧ 0 ≤ mx' ∧ mx' ≤ mx + 40 ∧ m_Lnumber [.obj 0, .p (.lst (smP l))] (mk3 sp st mx cells rest) = .ok (.p (.int z)) (mk3 sp' st' mx' cells rest) := by
  obtain ⟨d1, s1, t1, u1, g0, g1, c1, f1, e1⟩ := Ldraw_ok sp st mx 2 cells rest hc (by decide) (szi.mono (a := 64) (by decide) (by decide)) m0 (by omega)
  obtain ⟨z1, hz1, ez⟩ : ∃ z : Int, (z = 1 ∨ z = -1) ∧ L2.atI [P.int 1, .int (-1)] d1 = some (.int z) := by
    by_cases q : d1 = 0
    · exact ⟨1, Or.inl rfl, by rw [q]; rfl⟩
    · exact ⟨-1, Or.inr rfl, by rw [show d1 = 1 by omega]; rfl⟩
  obtain ⟨d2, s2, t2, u2, g2, g3, c2, f2, e2⟩ := Ldraw_ok s1 t1 u1 6 cells rest hc (by decide) (szi.mono (a := 64) (by decide) (by decide)) c1 (by omega)
  have hr := r1_ev [(calE m_Ldraw [vE 0, cE (.int 6)])] [some (.obj 0), some (.p (.lst (smP l))), some (.p (.int z1)), none] (mk3 s1 t1 u1 cells rest) d2 (mk3 s2 t2 u2 cells rest) (by simp [e2]) (by omega) (by omega)
  obtain ⟨ρ', s', k1, z3, x3, s3, t3, u3, q1, q2, c3, f3, rfl, rfl⟩ := forL_cnt (f := asgF ((op2 (mulD true) (vE 2) ((calE m_Lpower [(calE m_Lpick [vE 0, (lstE [(calE m_Lprime [vE 0]), (calE m_Lpick [vE 0, vE 1])])]), (op2 (addD true) (cE (.int 1)) ((calE m_Ldraw [vE 0, cE (.int 4)])))])))) (setG 2)) (tg := setG 3) 6 (fun n ρ s => ∃ (z : Int) (x3 : Option D) (sp st mx : Int), z ≠ 0 ∧ szi z (1 + 45 * n) ∧ 0 ≤ mx ∧ mx ≤ u2 + 4 * n ∧ ρ = [some (.obj 0), some (.p (.lst (smP l))), some (.p (.int z)), x3] ∧ s = mk3 sp st mx cells rest)
    (xs := ranP 0 d2.toNat) (n := 0) (ρ := [some (.obj 0), some (.p (.lst (smP l))), some (.p (.int z1)), none]) (s := mk3 s2 t2 u2 cells rest) (by rw [ranP_len]; omega) ⟨z1, none, s2, t2, u2, by omega, by unfold szi; rcases hz1 with rfl | rfl <;> decide, c2, by omega, rfl, rfl⟩ (fun x hx n ρ s hn hh => by
      obtain ⟨z, x3, a, b, c, q1, q2, q3, q4, rfl, rfl⟩ := hh
      obtain ⟨z', a', b', c', q5, q6, q7, q8, e⟩ := body_ok a b c cells rest hc q3 (by omega) h z (1 + 45 * n) q1 q2 (by omega) (by omega) (some (.p x))
      exact ⟨_, _, _, _, rfl, e, z', _, a', b', c', q5, by rw [show 1 + 45 * (n + 1) = 1 + 45 * n + 45 by omega]; exact q6, q7, by omega, rfl, rfl⟩)
  rw [ranP_len] at q2 f3
  have hf := forF_of hr k1
  obtain ⟨d4, s4, t4, u4, g4, g5, c4, f4, e4⟩ := Ldraw_ok s3 t3 u3 (10 ^ 40) cells rest hc (by decide) (szi.mono (a := 140) (by decide) (by decide)) c3 (by omega)
  obtain ⟨d5, s5, t5, u5, g6, g7, c5, f5, e5⟩ := Ldraw_ok s4 t4 u4 5 cells rest hc (by decide) (szi.mono (a := 64) (by decide) (by decide)) c4 (by omega)
  have p40 : powOk 10 40 := by decide
  obtain ⟨w, hw1, hw2, ew⟩ : ∃ w : Int, w ≠ 0 ∧ szi w 134 ∧ L2.atI [P.int 1, .int 1, .int 2003, .int 4028033, .int (1 + d4)] d5 = some (.int w) := by
    have : d5 = 0 ∨ d5 = 1 ∨ d5 = 2 ∨ d5 = 3 ∨ d5 = 4 := by omega
    rcases this with q | q | q | q | q
    · exact ⟨1, by decide, by decide, by rw [q]; rfl⟩
    · exact ⟨1, by decide, by decide, by rw [q]; rfl⟩
    · exact ⟨2003, by decide, by decide, by rw [q]; rfl⟩
    · exact ⟨4028033, by decide, by decide, by rw [q]; rfl⟩
    · exact ⟨1 + d4, by omega, by unfold szi; omega, by rw [q]; rfl⟩
  have hz3 : szi z3 300 := q2.mono (by omega)
  have km : mulOk z3 w := hz3.mulOk hw2 (by decide) (by decide) (by decide)
  have km2 : mulOk 2003 2011 := by decide
  refine ⟨z3 * w, s5, t5, u5, Int.mul_ne_zero q1 hw1, (hz3.mul hw2).mono (by decide), c5, by omega, ?_⟩
  have hpw : (10 : Int) ^ 40 = 10000000000000000000000000000000000000000 := by decide
  rw [hpw] at e4
  simp [m_Lnumber, defM_if, B_Lnumber, e1, ez, hf, e4, e5, ew, km, km2, p40, hpw, tupk, fin_mk3]
/-! ### what is shown -/
theorem shw_pz (F : List (Nat × Nat)) (b : Nat) (hb : b < 2 ^ 1900) (hF : Fok b F) (hl : F.length ≤ 2000) : ∃ t, PyData.strOk t = true ∧ (∀ s, shwD [.p (.lst (pzP F))] s = .ok (.p (.str t)) s) ∧ ∀ s n, lsAt n s = some (pzP F) → shwD [.obj n] s = .ok (.p (.str t)) s := by
  obtain ⟨ds, h1, h2, h3⟩ := toPys_of (xs := pzP F) (n := 1) (l := 4007) fun x hx => by
    unfold pzP at hx
    obtain ⟨q, hq, rfl⟩ := List.mem_map.mp hx
    obtain ⟨k1, k2⟩ := hF q hq
    have r1 : Rp (.int (q.1 : Int)) 0 2000 := Rp.int (by
      have := (show szi (q.1 : Int) 20 by unfold szi; omega).log (by decide)
      omega)
    have r2 : Rp (.int (q.2 : Int)) 0 2000 := Rp.int (by
      have := (show szi (q.2 : Int) 1900 by unfold szi; omega).log (by decide)
      omega)
    refine ⟨.tuple [.int (q.1 : Int), .int (q.2 : Int)], rfl, ?_⟩
    have := Rp.tup (ds := [.int (q.1 : Int), .int (q.2 : Int)]) (n := 0) (L := 2000) fun d hd => by
      simp only [List.mem_cons, List.not_mem_nil, or_false] at hd
      rcases hd with rfl | rfl
      · exact r1
      · exact r2
    exact this
  have r := Rp.lst h3
  rw [h2, pzP_len] at r
  have hle : (4007 + 2) * F.length + 3 ≤ sizeLine := by rw [sizeLine_eq]; omega
  refine ⟨(PyData.list ds).shown, r.ok, fun s => shw_rp (toPy_lst h1) r (by decide) hle, fun s n hn => shw_rp (d := .list ds) ?_ r (by decide) hle⟩
  have e : s[n]? = some (some (.lst (pzP F))) := by
    unfold lsAt at hn
    split at hn
    · rename_i q
      rw [q, Option.some.inj hn]
    · cases hn
  unfold toPyD
  try dsimp only
  simp only [e, h1]
  rfl
theorem prt_ok {r : Nat} (hr : 0 < r) : (prt r).1 ≤ r ∧ 0 < (prt r).1 ∧ Fok r (prt r).2 ∧ (prt r).2.length ≤ 1999 := by
  obtain ⟨a, b, c, d⟩ := fold_ok (b := r) (List.range' 2 1999) r [] (fun p hp => by have := List.mem_range'_1.mp hp; omega) hr (Nat.le_refl _) (fun q hq => nomatch hq)
  refine ⟨a, b, c, ?_⟩
  rw [List.length_range', List.length_nil, Nat.zero_add] at d
  exact d
/-! ### what is refused -/
theorem cat_n : cat_Refused_Barred "BadNumber" = true := by decide +kernel
theorem Lsaid_nm {q : M D} (hq : ∀ s, q s = .exn "BadNumber" s) (s : S) : saidM 8 B_Lsaid q s = .ok (.p (.str "number")) s := saidM_eq fun f c qn => by
  simp [defM_if, B_Lsaid, hq, cat_n, lcE_ev, rowI_k, lcL_cns, lcL_nil, sizeLine_eq]
def badL : List P := [.int 0, .non, .bl true, .bl false, .str "6", .tup [.int 6, .int 1], .lst [.int 6], .tup [.int 3, .int 2], .emp]
theorem badL_ok {x : P} (h : x ∈ badL) (s : S) : m_need_parted [.p x] s = .exn "BadNumber" s := by
  simp only [badL, List.mem_cons, List.not_mem_nil, or_false] at h
  rcases h with rfl | rfl | rfl | rfl | rfl | rfl | rfl | rfl | rfl
  · exact need_zero s
  all_goals exact need_bad rfl rfl s
theorem mk3_app (sp st mx : Int) (cells : List Int) (rest X : S) : mk3 sp st mx cells rest ++ X = mk3 sp st mx cells (rest ++ X) := rfl
theorem lsAt_2 (s : S) (xs : List P) (b : Option O) : lsAt s.length (s ++ [some (.lst xs), b]) = some xs := by
  unfold lsAt
  rw [List.getElem?_append_right (Nat.le_refl _), Nat.sub_self]
  rfl
theorem set_2 (s : S) (a b c : Option O) : (s ++ [a, b]).set s.length c = s ++ [c, b] := by
  rw [List.set_append_right _ _ (Nat.le_refl _), Nat.sub_self]
  rfl
theorem frz_2 (s : S) (xs : List P) (b : Option O) : frz (.obj s.length) (s ++ [some (.lst xs), b]) = .ok (.p (.lst xs)) (s ++ [none, b]) := by
  unfold frz
  dsimp only
  rw [List.getElem?_append_right (Nat.le_refl _), Nat.sub_self]
  dsimp only [List.getElem?_cons_zero]
  rw [set_2]
theorem LB0_ok (sp st mx : Int) (cells : List Int) (rest : S) (hc : cells ≠ []) (m0 : 0 ≤ mx) (m1 : mx < 50000) {l : List Nat} (h : Sml l) (x0 x3 x4 x5 x6 x7 x8 : Option D) : ∃ (y4 y5 y6 y7 y8 : Option D) (sp' st' mx' : Int) (rest' : S), 0 ≤ mx' ∧ mx' ≤ mx + 50 ∧ LB0 [x0, some (.obj 0), some (.p (.lst (smP l))), x3, x4, x5, x6, x7, x8] (mk3 sp st mx cells rest) =
    .ok (.nx [x0, some (.obj 0), some (.p (.lst (smP l))), x3, y4, y5, y6, y7, y8]) (mk3 sp' st' mx' cells rest') := by
  obtain ⟨z, s1, t1, u1, hz, hs, c1, f1, e1⟩ := Lnumber_ok sp st mx cells rest hc m0 (by omega) h
  have e2 := fun s => Lparted_ok h z hz s
  have e3 := fun s => parts_ok z hz s
  have e4 := fun s => left_ok z hz s
  obtain ⟨k1, k2, k3, k4⟩ := prt_ok (r := z.natAbs) (by omega)
  have hzb : z.natAbs < 2 ^ 1900 := Nat.lt_of_lt_of_le hs (Nat.pow_le_pow_right (by decide) (by decide))
  obtain ⟨t, ht, w1, w2⟩ := shw_pz (prt z.natAbs).2 z.natAbs hzb k3 (by omega)
  obtain ⟨t2, ht2, w3⟩ := shw_int (i := ((prt z.natAbs).1 : Int)) (by unfold szi; omega)
  have n1 := fun s => ne_str_same (s := s) ht
  have n2 := fun s => ne_str_same (s := s) ht2
  have hlen : (pzP (prt z.natAbs).2).length < sizeLine := by rw [pzP_len, sizeLine_eq]; omega
  generalize prt z.natAbs = q at *
  obtain ⟨R', F⟩ := q
  dsimp only at e2 e3 e4 w1 w2 w3 hlen
  generalize hS1 : mk3 s1 t1 u1 cells rest = S1 at e1
  generalize pzP F = L at *
  have A1 : asgF ((calE m_Lnumber [vE 1, vE 2])) (setG 4) [x0, some (.obj 0), some (.p (.lst (smP l))), x3, x4, x5, x6, x7, x8] (mk3 sp st mx cells rest) = .ok (.nx [x0, some (.obj 0), some (.p (.lst (smP l))), x3, some (.p (.int z)), x5, x6, x7, x8]) S1 := by
    simp [e1]
  have A2 : asgF ((calE m_Lparted [vE 2, vE 4])) (tupG 2 (consG (setG 5) (consG (setG 6) nilG))) [x0, some (.obj 0), some (.p (.lst (smP l))), x3, some (.p (.int z)), x5, x6, x7, x8] S1 = .ok (.nx [x0, some (.obj 0), some (.p (.lst (smP l))), x3, some (.p (.int z)), some (.p (.lst L)), some (.p (.int (R' : Int))), x7, x8]) S1 := by
    simp [e2]
  have A3 : asgF ((calE m_parts [vE 4])) (setG 7) [x0, some (.obj 0), some (.p (.lst (smP l))), x3, some (.p (.int z)), some (.p (.lst L)), some (.p (.int (R' : Int))), x7, x8] S1 = .ok (.nx [x0, some (.obj 0), some (.p (.lst (smP l))), x3, some (.p (.int z)), some (.p (.lst L)), some (.p (.int (R' : Int))), some (.obj S1.length), x8]) (S1 ++ [some (.lst L), some (.tpl [.obj S1.length, .p (.int (R' : Int))])]) := by
    simp [e3]
  have v1 := w2 _ _ (lsAt_2 S1 L (some (.tpl [.obj S1.length, .p (.int (R' : Int))])))
  have A4 : iffF (orT (tB (op2 (eqD true) ((calE shwD [vE 7])) ((calE shwD [vE 5])))) (orT (tB (op2 (eqD true) ((calE shwD [(calE m_left [vE 4])])) ((calE shwD [vE 6])))) (tB (op2 (eqD true) ((calE shwD [(kwE m_left gw_left_0 [] [vE 4])])) ((calE shwD [vE 6])))))) (retF (cE (.bl false))) nopF [x0, some (.obj 0), some (.p (.lst (smP l))), x3, some (.p (.int z)), some (.p (.lst L)), some (.p (.int (R' : Int))), some (.obj S1.length), x8] (S1 ++ [some (.lst L), some (.tpl [.obj S1.length, .p (.int (R' : Int))])]) =
      .ok (.nx [x0, some (.obj 0), some (.p (.lst (smP l))), x3, some (.p (.int z)), some (.p (.lst L)), some (.p (.int (R' : Int))), some (.obj S1.length), x8]) (S1 ++ [some (.lst L), some (.tpl [.obj S1.length, .p (.int (R' : Int))])]) := by
    simp [v1, w1, w3, e4, n1, n2]
  have A5 : expF ((metE appD (vE 7) [cE (.str "more")])) [x0, some (.obj 0), some (.p (.lst (smP l))), x3, some (.p (.int z)), some (.p (.lst L)), some (.p (.int (R' : Int))), some (.obj S1.length), x8] (S1 ++ [some (.lst L), some (.tpl [.obj S1.length, .p (.int (R' : Int))])]) =
      .ok (.nx [x0, some (.obj 0), some (.p (.lst (smP l))), x3, some (.p (.int z)), some (.p (.lst L)), some (.p (.int (R' : Int))), some (.obj S1.length), x8]) (S1 ++ [some (.lst (L ++ [.str "more"])), some (.tpl [.obj S1.length, .p (.int (R' : Int))])]) := by
    simp [its_obj, lsAt_2, hlen, set_2]
  generalize hS3 : S1 ++ [some (.lst (L ++ [.str "more"])), some (.tpl [.obj S1.length, .p (.int (R' : Int))])] = S3 at A5
  have v3 := w2 _ _ (lsAt_2 S3 L (some (.tpl [.obj S3.length, .p (.int (R' : Int))])))
  have A6 : iffF (tB (op2 (eqD true) ((calE shwD [(kwE m_parts gw_parts_0 [] [vE 4])])) ((calE shwD [vE 5])))) (retF (cE (.bl false))) nopF [x0, some (.obj 0), some (.p (.lst (smP l))), x3, some (.p (.int z)), some (.p (.lst L)), some (.p (.int (R' : Int))), some (.obj S1.length), x8] S3 =
      .ok (.nx [x0, some (.obj 0), some (.p (.lst (smP l))), x3, some (.p (.int z)), some (.p (.lst L)), some (.p (.int (R' : Int))), some (.obj S1.length), x8]) (S3 ++ [some (.lst L), some (.tpl [.obj S3.length, .p (.int (R' : Int))])]) := by
    simp [v3, w1, e3, n1]
  obtain ⟨x, s5, t5, u5, hx, c5, f5, e5⟩ := pick_ok s1 t1 u1 cells (rest ++ [some (.lst (L ++ [.str "more"])), some (.tpl [.obj S1.length, .p (.int (R' : Int))])] ++ [some (.lst L), some (.tpl [.obj S3.length, .p (.int (R' : Int))])]) hc c1 (by omega) badL (by decide) (by decide)
  have hS4 : mk3 s1 t1 u1 cells (rest ++ [some (.lst (L ++ [.str "more"])), some (.tpl [.obj S1.length, .p (.int (R' : Int))])] ++ [some (.lst L), some (.tpl [.obj S3.length, .p (.int (R' : Int))])]) = S3 ++ [some (.lst L), some (.tpl [.obj S3.length, .p (.int (R' : Int))])] := by
    rw [← mk3_app, ← mk3_app, hS1, hS3]
  rw [hS4] at e5
  have hq := badL_ok hx
  unfold badL at e5
  generalize rest ++ [some (.lst (L ++ [.str "more"])), some (.tpl [.obj S1.length, .p (.int (R' : Int))])] ++ [some (.lst L), some (.tpl [.obj S3.length, .p (.int (R' : Int))])] = rest5 at *
  generalize S3 ++ [some (.lst L), some (.tpl [.obj S3.length, .p (.int (R' : Int))])] = S4 at *
  generalize hS5 : mk3 s5 t5 u5 cells rest5 = S5 at e5
  have A7 : asgF ((calE m_Lpick [vE 1, (lstE [cE (.int 0), cE .non, cE (.bl true), cE (.bl false), cE (.str "6"), (tupE [cE (.int 6), cE (.int 1)]), (lstE [cE (.int 6)]), (tupE [cE (.int 3), cE (.int 2)]), cE .emp])])) (setG 8) [x0, some (.obj 0), some (.p (.lst (smP l))), x3, some (.p (.int z)), some (.p (.lst L)), some (.p (.int (R' : Int))), some (.obj S1.length), x8] S4 =
      .ok (.nx [x0, some (.obj 0), some (.p (.lst (smP l))), x3, some (.p (.int z)), some (.p (.lst L)), some (.p (.int (R' : Int))), some (.obj S1.length), some (.p x)]) S5 := by
    simp [e5, tupk]
  have b1 : ∀ (ρ : En) s, ρ[8]? = some (some (.p x)) → saidM 8 B_Lsaid (calE m_parts [noX (vE 8)] ρ) s = .ok (.p (.str "number")) s := fun ρ s hρ => Lsaid_nm (fun s => by simp [vE_of hρ, parts_exn hq]) s
  have b2 : ∀ (ρ : En) s, ρ[8]? = some (some (.p x)) → saidM 8 B_Lsaid (calE m_left [noX (vE 8)] ρ) s = .ok (.p (.str "number")) s := fun ρ s hρ => Lsaid_nm (fun s => by simp [vE_of hρ, left_exn hq]) s
  have b1' := fun s => b1 [x0, some (.obj 0), some (.p (.lst (smP l))), x3, some (.p (.int z)), some (.p (.lst L)), some (.p (.int (R' : Int))), some (.obj S1.length), some (.p x)] s rfl
  have b2' := fun s => b2 [x0, some (.obj 0), some (.p (.lst (smP l))), x3, some (.p (.int z)), some (.p (.lst L)), some (.p (.int (R' : Int))), some (.obj S5.length), some (.p x)] s rfl
  have A8 : asgF ((lsoE [(saidE 8 B_Lsaid (calE m_parts [(noX (vE 8))]))])) (setG 7) [x0, some (.obj 0), some (.p (.lst (smP l))), x3, some (.p (.int z)), some (.p (.lst L)), some (.p (.int (R' : Int))), some (.obj S1.length), some (.p x)] S5 =
      .ok (.nx [x0, some (.obj 0), some (.p (.lst (smP l))), x3, some (.p (.int z)), some (.p (.lst L)), some (.p (.int (R' : Int))), some (.obj S5.length), some (.p x)]) (S5 ++ [some (.lst [.str "number"])]) := by
    simp [b1', -calE_ev]
  have A9 : expF ((metE appD (vE 7) [(saidE 8 B_Lsaid (calE m_left [(noX (vE 8))]))])) [x0, some (.obj 0), some (.p (.lst (smP l))), x3, some (.p (.int z)), some (.p (.lst L)), some (.p (.int (R' : Int))), some (.obj S5.length), some (.p x)] (S5 ++ [some (.lst [.str "number"])]) =
      .ok (.nx [x0, some (.obj 0), some (.p (.lst (smP l))), x3, some (.p (.int z)), some (.p (.lst L)), some (.p (.int (R' : Int))), some (.obj S5.length), some (.p x)]) (S5 ++ [some (.lst [.str "number", .str "number"])]) := by
    simp [b2', lsAt_endL, set_end, sizeLine_eq, -calE_ev]
  have he := fun (s : S) => eq_end (s := s) true (xs := [.str "number", .str "number"]) (ys := [.str "number", .str "number"]) rfl rfl ⟨by decide +kernel, by decide +kernel⟩ (b := true) (by decide +kernel)
  have A10 : iffF (tB (op2 (eqD true) (vE 7) ((lstE [cE (.str "number"), cE (.str "number")])))) (retF (cE (.bl false))) nopF [x0, some (.obj 0), some (.p (.lst (smP l))), x3, some (.p (.int z)), some (.p (.lst L)), some (.p (.int (R' : Int))), some (.obj S5.length), some (.p x)] (S5 ++ [some (.lst [.str "number", .str "number"])]) =
      .ok (.nx [x0, some (.obj 0), some (.p (.lst (smP l))), x3, some (.p (.int z)), some (.p (.lst L)), some (.p (.int (R' : Int))), some (.obj S5.length), some (.p x)]) (S5 ++ [some (.lst [.str "number", .str "number"])]) := by
    simp [he]
  exact ⟨_, _, _, _, _, s5, t5, u5, rest5 ++ [some (.lst [.str "number", .str "number"])], c5, by omega, by rw [LB0, seqF_ok A1, seqF_ok A2, seqF_ok A3, seqF_ok A4, seqF_ok A5, seqF_ok A6, seqF_ok A7, seqF_ok A8, seqF_ok A9, A10, ← mk3_app, hS5]⟩
theorem prt_1 : prt 1 = (1, []) := fold_one _ _ fun p hp => (List.mem_range'_1.mp hp).1
theorem prt_12 : prt 12 = (1, [(2, 2), (3, 1)]) := by
  have d1 : dv 2 12 = (3, 2) := by rw [dv_yes (by decide) (by decide) (by decide), dv_yes (by decide) (by decide) (by decide), dv_no (by decide)]
  have d2 : dv 3 3 = (1, 1) := by rw [dv_yes (by decide) (by decide) (by decide), dv_no (by decide)]
  unfold prt
  rw [show (1999 : Nat) = 1997 + 1 + 1 from rfl, List.range'_succ, List.range'_succ, List.foldl_cons, List.foldl_cons]
  have e1 : stp (12, []) 2 = (3, [(2, 2)]) := by unfold stp; simp [d1]
  have e2 : stp (3, [(2, 2)]) 3 = (1, [(2, 2), (3, 1)]) := by unfold stp; simp [d2]
  rw [e1, e2]
  exact fold_one _ _ fun p hp => by have := (List.mem_range'_1.mp hp).1; omega
theorem fold_none : ∀ (l : List Nat) (r : Nat) (f : List (Nat × Nat)), (∀ p ∈ l, ¬ r % p = 0) → l.foldl stp (r, f) = (r, f)
  | [], _, _, _ => rfl
  | p :: l, r, f, h => by
    rw [List.foldl_cons, stp_no fun z => h p List.mem_cons_self (Nat.mod_eq_zero_of_dvd z)]
    exact fold_none l r f fun q hq => h q (List.mem_cons_of_mem _ hq)
theorem prt_2003 : prt 2003 = (2003, []) := fold_none _ _ _ (by decide +kernel)

theorem law_true (ns : List Int) (hl : ns.length ≤ 63) (hb : ∀ z ∈ ns, Builtin.Int.intBits z ≤ 1048576) : ∃ s', m_law [.p (.con (ns.map P.int))] [] = .ok (.p (.bl true)) s' := by
  have e0 := Lstart_ok ns hl
  have hc : ns ++ [(ns.length : Int)] ≠ [] := by simp
  obtain ⟨l, hS, es⟩ := Lsmall_ok (mk3 0 0 0 (ns ++ [(ns.length : Int)]) [])
  generalize ns ++ [(ns.length : Int)] = cells at *
  generalize hj : (2 + min 4 (ns.length : Int)) = j
  have hjb : 2 ≤ j ∧ j ≤ 6 := by omega
  obtain ⟨ρ', s', h1, y3, y4, y5, y6, y7, y8, s1, t1, n1, rest1, _, _, rfl, rfl⟩ := forL_cnt (f := LB0) (tg := setG 3) 10 (fun n ρ s => ∃ (y3 y4 y5 y6 y7 y8 : Option D) (s1 t1 n1 : Int) (rest : S), 0 ≤ n1 ∧ n1 ≤ 50 * n ∧ ρ = [some (.p (.con (ns.map P.int))), some (.obj 0), some (.p (.lst (smP l))), y3, y4, y5, y6, y7, y8] ∧ s = mk3 s1 t1 n1 cells rest)
    (xs := ranP 0 j.toNat) (n := 0) (ρ := [some (.p (.con (ns.map P.int))), some (.obj 0), some (.p (.lst (smP l))), none, none, none, none, none, none]) (s := mk3 0 0 0 cells []) (by rw [ranP_len]; omega) ⟨_, _, _, _, _, _, _, _, _, _, Int.le_refl _, by omega, rfl, rfl⟩ (fun x hx n ρ s hn h => by
    obtain ⟨y3, y4, y5, y6, y7, y8, s1, t1, n1, rest, c1, f1, rfl, rfl⟩ := h
    obtain ⟨w4, w5, w6, w7, w8, s2, t2, n2, rest2, c2, f2, e2⟩ := LB0_ok s1 t1 n1 cells rest hc c1 (by omega) hS (some (.p (.con (ns.map P.int)))) (some (.p x)) y4 y5 y6 y7 y8
    exact ⟨_, _, _, _, rfl, e2, _, _, _, _, _, _, _, _, _, _, c2, by omega, rfl, rfl⟩)
  have hlen : ∀ s, lenD [.p (.con (ns.map P.int))] s = .ok (.p (.int ns.length)) s := by
    intro s
    show R.ok (D.p (.int ((ns.map P.int).length : Nat))) s = _
    rw [List.length_map]
  have hr : r1I [op2 (addD true) (cE (.int 2)) (calE minD [cE (.int 4), calE lenD [vE 0]])] [some (.p (.con (ns.map P.int))), some (.obj 0), some (.p (.lst (smP l))), none, none, none, none, none, none] (mk3 0 0 0 cells []) = .ok (ranP 0 j.toNat, []) (mk3 0 0 0 cells []) := by
    exact r1_ev _ _ _ j _ (by simp [hlen, hj]) (by omega) (by omega)
  have hf := forF_of hr h1
  have q1 : ∀ s : S, m_parts [.p (.int 1)] s = .ok (.obj s.length) (s ++ [some (.lst []), some (.tpl [.obj s.length, .p (.int 1)])]) := fun s => by
    have := parts_ok 1 (by decide) s
    rw [show (1 : Int).natAbs = 1 from rfl, prt_1] at this
    exact this
  have q2 : ∀ s : S, m_parts [.p (.int (-1))] s = .ok (.obj s.length) (s ++ [some (.lst []), some (.tpl [.obj s.length, .p (.int 1)])]) := fun s => by
    have := parts_ok (-1) (by decide) s
    rw [show (-1 : Int).natAbs = 1 from rfl, prt_1] at this
    exact this
  have q3 : ∀ s : S, m_parts [.p (.int (-12))] s = .ok (.obj s.length) (s ++ [some (.lst [.tup [.int 2, .int 2], .tup [.int 3, .int 1]]), some (.tpl [.obj s.length, .p (.int 1)])]) := fun s => by
    have := parts_ok (-12) (by decide) s
    rw [show (-12 : Int).natAbs = 12 from rfl, prt_12] at this
    exact this
  have q4 : ∀ s : S, m_left [.p (.int (-1))] s = .ok (.p (.int 1)) s := fun s => by
    have := left_ok (-1) (by decide) s
    rw [show (-1 : Int).natAbs = 1 from rfl, prt_1] at this
    exact this
  have q5 : ∀ s : S, m_left [.p (.int 2003)] s = .ok (.p (.int 2003)) s := fun s => by
    have := left_ok 2003 (by decide) s
    rw [show (2003 : Int).natAbs = 2003 from rfl, prt_2003] at this
    exact this
  have he : ∀ s, eqD false (.p (.lst [.lst [], .lst [], .int 1, .lst [.tup [.int 2, .int 2], .tup [.int 3, .int 1]], .int 2003])) (.p (.lst [.lst [], .lst [], .int 1, .lst [.tup [.int 2, .int 2], .tup [.int 3, .int 1]], .int 2003])) s = .ok (.p (.bl true)) s := fun s => by
    rw [eq_dat false (d := .list [.list [], .list [], .int 1, .list [.tuple [.int 2, .int 2], .tuple [.int 3, .int 1]], .int 2003]) (e := .list [.list [], .list [], .int 1, .list [.tuple [.int 2, .int 2], .tuple [.int 3, .int 1]], .int 2003]) rfl rfl ⟨by decide +kernel, by decide +kernel⟩, show PyData.eqv _ _ = true by decide +kernel]
    rfl
  refine ⟨[], ?_⟩
  have C : ∃ s2, (retF ((op2 (eqD false) ((lstE [(frzE ((calE m_parts [cE (.int 1)]))), (frzE ((calE m_parts [(op1 negD (cE (.int 1)))]))), (calE m_left [(op1 negD (cE (.int 1)))]), (frzE ((calE m_parts [(op1 negD (cE (.int 12)))]))), (calE m_left [cE (.int 2003)])])) ((lstE [(lstE []), (lstE []), cE (.int 1), (lstE [(tupE [cE (.int 2), cE (.int 2)]), (tupE [cE (.int 3), cE (.int 1)])]), cE (.int 2003)]))))) [some (.p (.con (ns.map P.int))), some (.obj 0), some (.p (.lst (smP l))), y3, y4, y5, y6, y7, y8] (mk3 s1 t1 n1 cells rest1) = .ok (.rt (.p (.bl true))) s2 := by
    generalize mk3 s1 t1 n1 cells rest1 = S0
    generalize hS1 : S0 ++ [none, some (.tpl [.obj S0.length, .p (.int 1)])] = S1
    generalize hS2 : S1 ++ [none, some (.tpl [.obj S1.length, .p (.int 1)])] = S2
    have g1 : (frzE ((calE m_parts [cE (.int 1)]))) [some (.p (.con (ns.map P.int))), some (.obj 0), some (.p (.lst (smP l))), y3, y4, y5, y6, y7, y8] S0 = .ok (.p (.lst [])) S1 := by
      simp [q1, frz_2, hS1]
    have g2 : (frzE ((calE m_parts [(op1 negD (cE (.int 1)))]))) [some (.p (.con (ns.map P.int))), some (.obj 0), some (.p (.lst (smP l))), y3, y4, y5, y6, y7, y8] S1 = .ok (.p (.lst [])) S2 := by
      simp [q2, frz_2, hS2]
    have g3 : (frzE ((calE m_parts [(op1 negD (cE (.int 12)))]))) [some (.p (.con (ns.map P.int))), some (.obj 0), some (.p (.lst (smP l))), y3, y4, y5, y6, y7, y8] S2 = .ok (.p (.lst [.tup [.int 2, .int 2], .tup [.int 3, .int 1]])) (S2 ++ [none, some (.tpl [.obj S2.length, .p (.int 1)])]) := by
      simp [q3, frz_2]
    refine ⟨S2 ++ [none, some (.tpl [.obj S2.length, .p (.int 1)])], ?_⟩
    simp [g1, g2, g3, q4, q5, he, tupk, -frzE_ev]
  obtain ⟨s2, C⟩ := C
  have B : B_law [some (.p (.con (ns.map P.int))), none, none, none, none, none, none, none, none] [] = .ok (.rt (.p (.bl true))) s2 := by
    rw [B_law, seqF_ok (show parF 1 2 [(calE m_Lstart [vE 0]), (calE m_Lsmall [])] [some (.p (.con (ns.map P.int))), none, none, none, none, none, none, none, none] [] = .ok (.nx [some (.p (.con (ns.map P.int))), some (.obj 0), some (.p (.lst (smP l))), none, none, none, none, none, none]) (mk3 0 0 0 cells []) by simp [e0, es]), seqF_ok hf, C]
  rw [m_law, defM_ev (n := 1) rfl]
  show R.bind (B_law [some (.p (.con (ns.map P.int))), none, none, none, none, none, none, none, none] []) (defk []) = _
  rw [B, R.bind_ok, defk_rt, fin_ex]

end CWL
end
open PySem PySem.W PyProof.Rows in
set_option maxRecDepth 100000 in
set_option maxHeartbeats 0 in
theorem PySem.Challenge.cw_cubicway_k08_parts_and_what_is_left_holds : PySem.Challenge.rw_cubicway_k08_parts_and_what_is_left.Holds := by
  w_on; o_law; k_head; (case hw => w_witness2)
  k_fill
  refine CW.law_end (l := PySem.Challenge.rw_cubicway_k08_parts_and_what_is_left) (m := fun _ => CWL.m_law) (x := "_law_script") (k := 7) rfl (by decide) rfl ⟨rfl, by decide, by decide⟩ (fun w h Y => PySem.W.km_in_of Y) (fun w h Y => PySem.W.km_tabs_of Y) ?F (fun _ => CWL.law_true)
  case F =>
    intro w mg fa h KX G hmg
    refine' CWL.all_mk KX G hmg ?a0 ?l0 ?c0 ?k0 ?a1 ?l1 ?c1 ?k1 ?a2 ?l2 ?c2 ?k2 ?a3 ?l3 ?c3 ?k3 ?a4 ?l4 ?c4 ?k4 ?a5 ?l5 ?c5 ?k5 ?a6 ?l6 ?c6 ?k6 ?a7 ?l7 ?c7 ?k7 ?a8 ?l8 ?c8 ?k8 ?a9 ?l9 ?c9 ?k9 ?a10 ?l10 ?c10 ?k10 ?a11 ?l11 ?c11 ?k11 ?a12 ?l12 ?c12 ?k12 ?a13 ?l13 ?c13 ?k13 ?a14 ?l14 ?c14 ?k14 ?ma14 ?mb14 ?md14 ?me14 ?mf14 ?mh14 ?n0 ?n1 ?n2 ?n3 ?n4 ?n5 ?n6 ?n7 ?n8 ?e0 ?e1 ?xa0 ?xa1 ?xa2 ?xa3 ?xa4 ?xc0 ?xr0 ?xs0 ?xe0 ?xt0 ?xk0 ?xi0 ?xj0 ?xn0 ?il0 ?ic0 ?ik0 ?ct_Refused_Barred_BadNumber ?dig ?en ?et ?eg0 ?ek0 ?ed0 ?ea0 ?em0 ?ec0 ?xs_BadNumber_BadPrime ?xs_BadNumber_BadFraction ?xs_BadNumber_BadNumber ?xb_BadNumber_ValueError ?tu
    (case a0 => k_is)
    (case l0 => k_is)
    (case c0 => k_is)
    (case k0 => k_is)
    (case a1 => k_is)
    (case l1 => k_is)
    (case c1 => k_is)
    (case k1 => k_is)
    (case a2 => k_is)
    (case l2 => k_is)
    (case c2 => k_is)
    (case k2 => k_is)
    (case a3 => k_is)
    (case l3 => k_is)
    (case c3 => k_is)
    (case k3 => k_is)
    (case a4 => k_is)
    (case l4 => k_is)
    (case c4 => k_is)
    (case k4 => k_is)
    (case a5 => k_is)
    (case l5 => k_is)
    (case c5 => k_is)
    (case k5 => k_is)
    (case a6 => k_is)
    (case l6 => k_is)
    (case c6 => k_is)
    (case k6 => k_is)
    (case a7 => k_is)
    (case l7 => k_is)
    (case c7 => k_is)
    (case k7 => k_is)
    (case a8 => k_is)
    (case l8 => k_is)
    (case c8 => k_is)
    (case k8 => k_is)
    (case a9 => k_is)
    (case l9 => k_is)
    (case c9 => k_is)
    (case k9 => k_is)
    (case a10 => k_is)
    (case l10 => k_is)
    (case c10 => k_is)
    (case k10 => k_is)
    (case a11 => k_is)
    (case l11 => k_is)
    (case c11 => k_is)
    (case k11 => k_is)
    (case a12 => k_is)
    (case l12 => k_is)
    (case c12 => k_is)
    (case k12 => k_is)
    (case a13 => k_is)
    (case l13 => k_is)
    (case c13 => k_is)
    (case k13 => k_is)
    (case a14 => k_is)
    (case l14 => k_is)
    (case c14 => k_is)
    (case k14 => k_is)
    (case ma14 => rfl)
    (case mb14 => k_is)
    (case md14 => rfl)
    (case me14 => kernel_rfl)
    (case mf14 => kernel_rfl)
    (case mh14 => decide)
    (case n0 => k_is)
    (case n1 => k_is)
    (case n2 => k_is)
    (case n3 => k_is)
    (case n4 => k_is)
    (case n5 => k_is)
    (case n6 => k_is)
    (case n7 => k_is)
    (case n8 => k_is)
    (case e0 => k_is)
    (case e1 => k_is)
    (case xa0 => k_is)
    (case xa1 => k_is)
    (case xa2 => k_is)
    (case xa3 => k_is)
    (case xa4 => k_is)
    (case xc0 => k_is)
    (case xr0 => first | rfl | k_is)
    (case xs0 => k_is)
    (case xe0 => k_is)
    (case xt0 => k_is)
    (case xk0 => k_is)
    (case xi0 => k_is)
    (case xj0 => k_is)
    (case xn0 => k_is)
    (case il0 => k_is)
    (case ic0 => k_is)
    (case ik0 => k_is)
    (case ct_Refused_Barred_BadNumber => kernel_rfl)
    (case dig => k_is)
    (case en => k_is)
    (case et => k_is)
    (case eg0 => k_is)
    (case ek0 => k_is)
    (case ed0 => k_is)
    (case ea0 => k_is)
    (case em0 => k_is)
    (case ec0 => kernel_rfl)
    (case xs_BadNumber_BadPrime => kernel_rfl)
    (case xs_BadNumber_BadFraction => kernel_rfl)
    (case xs_BadNumber_BadNumber => kernel_rfl)
    (case xb_BadNumber_ValueError => kernel_rfl)
    (case tu => decide +kernel)

